import PyProof.Rows.All
import Wide.All
import OpenK.AllK
import Wide.FinOn
import HandS.ForMost
import HandS.Evl
import HandS.WideBits
import HandS.IsInst
import HandS.TupAny
import HandS.Style
import OpenK.KOps
import HandS.Steps
import PySem.Challenge.RW_orderforms_k49_whole_papers_of_lattices
set_option Elab.async false
set_option linter.all false
set_option maxRecDepth 100000
set_option maxHeartbeats 4000000
section
set_option autoImplicit false
namespace K49

/-! ### bits -/
theorem testBit_iff (x k : Nat) : (x / 2 ^ k % 2 = 1) ↔ x.testBit k = true := by
  rw [Nat.testBit_eq_decide_div_mod_eq]; simp
theorem mod_step (x k : Nat) : x % 2 ^ (k + 1) = x % 2 ^ k + (if x.testBit k = true then 2 ^ k else 0) := by
  have h := Nat.mod_pow_succ (x := x) (b := 2) (k := k)
  rw [h]
  have e := testBit_iff x k
  by_cases hb : x.testBit k = true
  · rw [if_pos hb, e.mpr hb, Nat.mul_one]
  · rw [if_neg hb]
    have : x / 2 ^ k % 2 ≠ 1 := fun q => hb (e.mp q)
    have : x / 2 ^ k % 2 = 0 := by omega
    rw [this, Nat.mul_zero]
theorem and_step (a b k : Nat) : (a &&& b) % 2 ^ (k + 1) = (a &&& b) % 2 ^ k + (if a / 2 ^ k % 2 = 1 ∧ b / 2 ^ k % 2 = 1 then 2 ^ k else 0) := by
  rw [mod_step, Nat.testBit_and]
  simp only [testBit_iff, Bool.and_eq_true]
theorem or_step (a b k : Nat) : (a ||| b) % 2 ^ (k + 1) = (a ||| b) % 2 ^ k + (if a / 2 ^ k % 2 = 1 ∨ b / 2 ^ k % 2 = 1 then 2 ^ k else 0) := by
  rw [mod_step, Nat.testBit_or]
  simp only [testBit_iff, Bool.or_eq_true]

/-- the places below n at which p holds, as bits -/
def msk (p : Nat → Bool) : Nat → Nat
  | 0 => 0
  | n + 1 => msk p n + (if p n = true then 2 ^ n else 0)
theorem msk_lt (p : Nat → Bool) (n : Nat) : msk p n < 2 ^ n := by
  induction n with
  | zero => simp [msk]
  | succ n ih =>
    unfold msk
    rw [Nat.pow_succ]
    split <;> omega
theorem msk_or (p : Nat → Bool) (n : Nat) : msk p n ||| 2 ^ n = msk p n + 2 ^ n := by
  have h := Nat.two_pow_add_eq_or_of_lt (msk_lt p n) 1
  rw [Nat.mul_one] at h
  rw [Nat.or_comm, ← h, Nat.add_comm]
theorem msk_bit (p : Nat → Bool) (n k : Nat) : (msk p n).testBit k = (decide (k < n) && p k) := by
  induction n with
  | zero => simp [msk]
  | succ n ih =>
    unfold msk
    by_cases hp : p n = true
    · rw [if_pos hp, ← msk_or, Nat.testBit_or, ih, Nat.testBit_two_pow]
      by_cases h1 : k < n
      · have h2 : ¬ n = k := by omega
        simp [h1, h2, show k < n + 1 by omega]
      · by_cases h2 : n = k
        · subst h2; simp [hp]
        · simp [h1, h2, show ¬ k < n + 1 by omega]
    · rw [if_neg hp, Nat.add_zero, ih]
      by_cases h1 : k < n
      · simp [h1, show k < n + 1 by omega]
      · by_cases h2 : n = k
        · subst h2; simp [hp]
        · simp [h1, show ¬ k < n + 1 by omega]
def orl (ks : List Nat) : Nat := ks.foldl (fun o k => o ||| 2 ^ k) 0
theorem orl_snoc (ks : List Nat) (k : Nat) : orl (ks ++ [k]) = orl ks ||| 2 ^ k := by
  unfold orl; rw [List.foldl_append]; rfl
theorem orl_filter (p : Nat → Bool) (n : Nat) : orl ((List.range n).filter p) = msk p n := by
  induction n with
  | zero => rfl
  | succ n ih =>
    rw [List.range_succ, List.filter_append]
    unfold msk
    by_cases hp : p n = true
    · rw [if_pos hp, ← msk_or, ← ih, List.filter_cons, if_pos hp]
      exact orl_snoc _ _
    · rw [if_neg hp, List.filter_cons, if_neg hp, List.filter_nil, List.append_nil, ih, Nat.add_zero]
theorem sum_filter (p : Nat → Bool) (n : Nat) : (((List.range n).filter p).map fun k => ((2 ^ k : Nat) : Int)).sum = ((msk p n : Nat) : Int) := by
  induction n with
  | zero => rfl
  | succ n ih =>
    rw [List.range_succ, List.filter_append, List.map_append, List.sum_append, ih]
    have e : msk p (n + 1) = msk p n + (if p n = true then 2 ^ n else 0) := rfl
    rw [e]
    by_cases hp : p n = true
    · rw [if_pos hp, List.filter_cons, if_pos hp]
      simp
    · rw [if_neg hp, List.filter_cons, if_neg hp]
      simp
theorem msk_congr {p q : Nat → Bool} {n : Nat} (h : ∀ k, k < n → p k = q k) : msk p n = msk q n := by
  apply Nat.eq_of_testBit_eq
  intro i
  rw [msk_bit, msk_bit]
  by_cases hi : i < n
  · rw [h i hi]
  · simp [hi]

/-! ### a small fact on lists -/
theorem len_le_of_lt : ∀ (n : Nat) (l : List Nat), l.Nodup → (∀ x ∈ l, x < n) → l.length ≤ n
  | 0, l, _, h => by
    cases l with
    | nil => simp
    | cons a r => exact absurd (h a (by simp)) (Nat.not_lt_zero _)
  | n + 1, l, nd, h => by
    have h1 := len_le_of_lt n (l.erase n) (nd.erase n) (fun x hx => by
      have hx1 := h x (List.mem_of_mem_erase hx)
      have hx2 : x ≠ n := fun e => by
        subst e
        exact (List.Nodup.not_mem_erase nd) hx
      omega)
    by_cases hm : n ∈ l
    · rw [List.length_erase_of_mem hm] at h1; omega
    · rw [List.erase_of_not_mem hm] at h1; omega

/-! ### the lattice by its tables -/
structure Lat (m : Nat) (J M : Nat → Nat → Nat) : Prop where
  pos : 0 < m
  small : m ≤ 16
  ml : ∀ x y, x < m → y < m → M x y < m
  jl : ∀ x y, x < m → y < m → J x y < m
  mc : ∀ x y, x < m → y < m → M x y = M y x
  mi : ∀ x, x < m → M x x = x
  ma : ∀ x y z, x < m → y < m → z < m → M (M x y) z = M x (M y z)
  asc : ∀ x y, x < m → y < m → M x y = x → x ≤ y
  j1 : ∀ x y, x < m → y < m → M x (J x y) = x
  j2 : ∀ x y, x < m → y < m → M y (J x y) = y
  j3 : ∀ x y z, x < m → y < m → z < m → M x z = x → M y z = y → M (J x y) z = J x y
  pts : ∃ s : Nat → Nat, (∀ x, x < m → s x < 16) ∧ (∀ x y, x < m → y < m → s (M x y) = s x &&& s y) ∧ ∀ x y, x < m → y < m → s x = s y → x = y

def lt (M : Nat → Nat → Nat) (x y : Nat) : Bool := x != y && M x y == x
def covB (m : Nat) (M : Nat → Nat → Nat) (w x : Nat) : Bool := lt M w x && (List.range m).all fun z => !(lt M w z && lt M z x)
def irr (m : Nat) (M : Nat → Nat → Nat) : List Nat := (List.range m).filter fun x => ((List.range m).filter fun w => covB m M w x).length == 1
def img (m : Nat) (M : Nat → Nat → Nat) (x : Nat) : Nat := msk (fun k => M ((irr m M).getD k 0) x == (irr m M).getD k 0) (irr m M).length
def fl (J M : Nat → Nat → Nat) (x y z : Nat) : Bool := M x (J y z) != J (M x y) (M x z)
def NoFail (m : Nat) (J M : Nat → Nat → Nat) : Prop := ∀ x y z, x < m → y < m → z < m → fl J M x y z = false
structure LeastFail (m : Nat) (J M : Nat → Nat → Nat) (x y z : Nat) : Prop where
  hx : x < m
  hy : y < m
  hz : z < m
  f : fl J M x y z = true
  f1 : ∀ a b c, a < x → b < m → c < m → fl J M a b c = false
  f2 : ∀ b c, b < y → c < m → fl J M x b c = false
  f3 : ∀ c, c < z → fl J M x y c = false
theorem LeastFail.uniq {m : Nat} {J M : Nat → Nat → Nat} {x y z a b c : Nat} (p : LeastFail m J M x y z) (q : LeastFail m J M a b c) : x = a ∧ y = b ∧ z = c := by
  have e1 : x = a := by
    rcases Nat.lt_trichotomy x a with h | h | h
    · have := q.f1 x y z h p.hy p.hz; rw [p.f] at this; cases this
    · exact h
    · have := p.f1 a b c h q.hy q.hz; rw [q.f] at this; cases this
  subst e1
  have e2 : y = b := by
    rcases Nat.lt_trichotomy y b with h | h | h
    · have := q.f2 y z h p.hz; rw [p.f] at this; cases this
    · exact h
    · have := p.f2 b c h q.hz; rw [q.f] at this; cases this
  subst e2
  refine ⟨rfl, rfl, ?_⟩
  rcases Nat.lt_trichotomy z c with h | h | h
  · have := q.f3 z h; rw [p.f] at this; cases this
  · exact h
  · have := p.f3 c h; rw [q.f] at this; cases this
theorem LeastFail.not {m : Nat} {J M : Nat → Nat → Nat} {x y z : Nat} (p : LeastFail m J M x y z) (h : NoFail m J M) : False := by
  have := h x y z p.hx p.hy p.hz; rw [p.f] at this; cases this
def Goes (m : Nat) (J M : Nat → Nat → Nat) (n : Nat) (s : Nat → Nat) : Prop :=
  (∀ k, k < m → s k < 2 ^ n ∧ ∀ j, j < k → s k ≠ s j) ∧ ∀ x y, x < m → y < m → s (J x y) = s x ||| s y ∧ s (M x y) = s x &&& s y

section
variable {m : Nat} {J M : Nat → Nat → Nat} (L : Lat m J M)
include L
theorem Lat.trans {x y z : Nat} (hx : x < m) (hy : y < m) (hz : z < m) (a : M x y = x) (b : M y z = y) : M x z = x := by
  have h := L.ma x y z hx hy hz
  rw [a, b, a] at h
  exact h
theorem Lat.anti {x y : Nat} (hx : x < m) (hy : y < m) (a : M x y = x) (b : M y x = y) : x = y := by
  rw [← a, L.mc x y hx hy, b]
theorem Lat.m1 {x y : Nat} (hx : x < m) (hy : y < m) : M (M x y) x = M x y := by
  rw [L.mc x y hx hy, L.ma y x x hy hx hx, L.mi x hx]
theorem Lat.m2 {x y : Nat} (hx : x < m) (hy : y < m) : M (M x y) y = M x y := by
  rw [L.ma x y y hx hy hy, L.mi y hy]
theorem Lat.m3 {x y z : Nat} (hx : x < m) (hy : y < m) (hz : z < m) (a : M z x = z) (b : M z y = z) : M z (M x y) = z := by
  rw [← L.ma z x y hz hx hy, a, b]
theorem Lat.jc {x y : Nat} (hx : x < m) (hy : y < m) : J x y = J y x :=
  L.anti (L.jl x y hx hy) (L.jl y x hy hx) (L.j3 x y _ hx hy (L.jl y x hy hx) (L.j2 y x hy hx) (L.j1 y x hy hx)) (L.j3 y x _ hy hx (L.jl x y hx hy) (L.j2 x y hx hy) (L.j1 x y hx hy))

/-! #### sets that go with joins and meets: distributive -/
theorem Goes.noFail {n : Nat} {s : Nat → Nat} (g : Goes m J M n s) : NoFail m J M := by
  intro x y z hx hy hz
  have inj : ∀ a b, a < m → b < m → s a = s b → a = b := fun a b ha hb e => by
    rcases Nat.lt_trichotomy a b with h | h | h
    · exact absurd e.symm ((g.1 b hb).2 a h)
    · exact h
    · exact absurd e ((g.1 a ha).2 b h)
  unfold fl
  rw [bne_eq_false_iff_eq]
  refine inj _ _ (L.ml _ _ hx (L.jl _ _ hy hz)) (L.jl _ _ (L.ml _ _ hx hy) (L.ml _ _ hx hz)) ?_
  rw [(g.2 x (J y z) hx (L.jl _ _ hy hz)).2, (g.2 y z hy hz).1, (g.2 (M x y) (M x z) (L.ml _ _ hx hy) (L.ml _ _ hx hz)).1, (g.2 x y hx hy).2, (g.2 x z hx hz).2]
  apply Nat.eq_of_testBit_eq
  intro i
  simp only [Nat.testBit_and, Nat.testBit_or]
  cases (s x).testBit i <;> cases (s y).testBit i <;> cases (s z).testBit i <;> rfl

/-! #### up and down sets -/
theorem Lat.up_and {x y : Nat} (hx : x < m) (hy : y < m) : msk (fun z => M x z == x) m &&& msk (fun z => M y z == y) m = msk (fun z => M (J x y) z == J x y) m := by
  apply Nat.eq_of_testBit_eq
  intro i
  rw [Nat.testBit_and, msk_bit, msk_bit, msk_bit]
  by_cases hi : i < m
  · simp only [hi, decide_true, Bool.true_and]
    rw [Bool.eq_iff_iff]
    simp only [Bool.and_eq_true, beq_iff_eq]
    exact ⟨fun ⟨a, b⟩ => L.j3 x y i hx hy hi a b, fun a => ⟨L.trans hx (L.jl _ _ hx hy) hi (L.j1 x y hx hy) a, L.trans hy (L.jl _ _ hx hy) hi (L.j2 x y hx hy) a⟩⟩
  · simp [hi]
theorem Lat.dn_and {x y : Nat} (hx : x < m) (hy : y < m) : msk (fun z => M z x == z) m &&& msk (fun z => M z y == z) m = msk (fun z => M z (M x y) == z) m := by
  apply Nat.eq_of_testBit_eq
  intro i
  rw [Nat.testBit_and, msk_bit, msk_bit, msk_bit]
  by_cases hi : i < m
  · simp only [hi, decide_true, Bool.true_and]
    rw [Bool.eq_iff_iff]
    simp only [Bool.and_eq_true, beq_iff_eq]
    exact ⟨fun ⟨a, b⟩ => L.m3 hx hy hi a b, fun a => ⟨L.trans hi (L.ml _ _ hx hy) hx a (L.m1 hx hy), L.trans hi (L.ml _ _ hx hy) hy a (L.m2 hx hy)⟩⟩
  · simp [hi]
theorem Lat.up_inj {x y : Nat} (hx : x < m) (hy : y < m) (h : msk (fun z => M x z == x) m = msk (fun z => M y z == y) m) : x = y := by
  have b1 := congrArg (fun t => Nat.testBit t x) h
  have b2 := congrArg (fun t => Nat.testBit t y) h
  simp only [msk_bit, hx, hy, decide_true, Bool.true_and, L.mi x hx, L.mi y hy, beq_self_eq_true] at b1 b2
  exact L.anti hx hy (by simpa using b2) (by simpa using b1.symm)
theorem Lat.dn_inj {x y : Nat} (hx : x < m) (hy : y < m) (h : msk (fun z => M z x == z) m = msk (fun z => M z y == z) m) : x = y := by
  have b1 := congrArg (fun t => Nat.testBit t x) h
  have b2 := congrArg (fun t => Nat.testBit t y) h
  simp only [msk_bit, hx, hy, decide_true, Bool.true_and, L.mi x hx, L.mi y hy, beq_self_eq_true] at b1 b2
  exact L.anti hx hy (by simpa using b1.symm) (by simpa using b2)

/-! #### covers -/
omit L in
theorem lt_iff {x y : Nat} : lt M x y = true ↔ x ≠ y ∧ M x y = x := by
  unfold lt
  rw [Bool.and_eq_true, bne_iff_ne, beq_iff_eq]
omit L in
theorem cov_iff {w x : Nat} : covB m M w x = true ↔ (w ≠ x ∧ M w x = w) ∧ ∀ z, z < m → w ≠ z → M w z = w → z ≠ x → M z x = z → False := by
  unfold covB
  rw [Bool.and_eq_true, lt_iff, List.all_eq_true]
  constructor
  · rintro ⟨h, k⟩
    refine ⟨h, fun z hz a b c d => ?_⟩
    have := k z (List.mem_range.mpr hz)
    rw [lt_iff.mpr ⟨a, b⟩, lt_iff.mpr ⟨c, d⟩] at this
    cases this
  · rintro ⟨h, k⟩
    refine ⟨h, fun z hz => ?_⟩
    cases h1 : lt M w z with
    | false => rfl
    | true =>
      cases h2 : lt M z x with
      | false => rfl
      | true =>
        have p := lt_iff.mp h1
        have q := lt_iff.mp h2
        exact (k z (List.mem_range.mp hz) p.1 p.2 q.1 q.2).elim
omit L in
/-- below a member that has something below it something is covered, above any that is below -/
theorem Lat.cover_above (L : Lat m J M) {x : Nat} (hx : x < m) : ∀ (k w : Nat), m - w ≤ k → w < m → w ≠ x → M w x = w → ∃ c, c < m ∧ M w c = w ∧ covB m M c x = true
  | 0, w, hk, hw, _, _ => by omega
  | k + 1, w, hk, hw, ne, le => by
    by_cases h : covB m M w x = true
    · exact ⟨w, hw, L.mi w hw, h⟩
    · have : ∃ z, z < m ∧ w ≠ z ∧ M w z = w ∧ z ≠ x ∧ M z x = z := by
        refine Classical.byContradiction fun hn => h (cov_iff.mpr ⟨⟨ne, le⟩, fun z hz a b c d => hn ⟨z, hz, a, b, c, d⟩⟩)
      obtain ⟨z, hz, a, b, c, d⟩ := this
      have hlt : w < z := by
        have := L.asc w z hw hz b
        omega
      obtain ⟨e, he, h1, h2⟩ := Lat.cover_above L hx k z (by omega) hz c d
      exact ⟨e, he, L.trans hw hz he b h1, h2⟩
/-- irreducible: exactly one member is covered -/
theorem Lat.irr_iff {x : Nat} (hx : x < m) : x ∈ irr m M ↔ ∃ c, c < m ∧ covB m M c x = true ∧ ∀ d, d < m → covB m M d x = true → d = c := by
  unfold irr
  rw [List.mem_filter, beq_iff_eq]
  constructor
  · rintro ⟨_, h⟩
    match e : (List.range m).filter (fun w => covB m M w x), h with
    | [c], _ =>
      have hc : c ∈ (List.range m).filter (fun w => covB m M w x) := by rw [e]; simp
      rw [List.mem_filter, List.mem_range] at hc
      refine ⟨c, hc.1, hc.2, fun d hd hcd => ?_⟩
      have : d ∈ (List.range m).filter (fun w => covB m M w x) := List.mem_filter.mpr ⟨List.mem_range.mpr hd, hcd⟩
      rw [e] at this
      simpa using this
  · rintro ⟨c, hc, h1, h2⟩
    refine ⟨List.mem_range.mpr hx, ?_⟩
    have nd : ((List.range m).filter (fun w => covB m M w x)).Nodup := List.nodup_range.filter _
    have all : ∀ d ∈ (List.range m).filter (fun w => covB m M w x), d = c := fun d hd => by
      rw [List.mem_filter, List.mem_range] at hd
      exact h2 d hd.1 hd.2
    have mem : c ∈ (List.range m).filter (fun w => covB m M w x) := List.mem_filter.mpr ⟨List.mem_range.mpr hc, h1⟩
    match e : (List.range m).filter (fun w => covB m M w x) with
    | [] => rw [e] at mem; cases mem
    | [_] => rfl
    | a :: b :: r =>
      rw [e] at all nd
      have ha := all a (by simp)
      have hb := all b (by simp)
      subst ha
      subst hb
      simp at nd
omit L in
theorem irr_lt {x : Nat} (h : x ∈ irr m M) : x < m := List.mem_range.mp (List.mem_filter.mp h).1
omit L in
theorem irr_nd : (irr m M).Nodup := List.nodup_range.filter _

/-- a point that a join-irreducible has beyond what it covers -/
theorem Lat.few : (irr m M).length ≤ 4 := by
  obtain ⟨s, s16, sm, si⟩ := L.pts
  have ex : ∀ x, x ∈ irr m M → ∃ p, p < 4 ∧ (s x).testBit p = true ∧ ∀ y, y < m → M y x = y → y ≠ x → (s y).testBit p = false := by
    intro x hx
    have hxm := irr_lt hx
    obtain ⟨c, hc, h1, h2⟩ := (L.irr_iff hxm).mp hx
    have hcx := (cov_iff.mp h1).1
    have sub : s c = s c &&& s x := by rw [← sm c x hc hxm, hcx.2]
    have : ∃ p, (s x).testBit p ≠ (s c).testBit p := by
      refine Classical.byContradiction fun hn => hcx.1 (si c x hc hxm (Nat.eq_of_testBit_eq fun i => ?_))
      exact (Classical.byContradiction fun hi => hn ⟨i, fun e => hi e.symm⟩)
    obtain ⟨p, hp⟩ := this
    have sp := congrArg (fun t => t.testBit p) sub
    simp only [Nat.testBit_and] at sp
    have t1 : (s x).testBit p = true := by
      cases e : (s x).testBit p with
      | true => rfl
      | false =>
        rw [e, Bool.and_false] at sp
        rw [e, sp] at hp
        exact absurd rfl hp
    have t2 : (s c).testBit p = false := by
      cases e : (s c).testBit p with
      | false => rfl
      | true => rw [e, t1] at hp; exact absurd rfl hp
    refine ⟨p, ?_, t1, fun y hy hyx ne => ?_⟩
    · refine Classical.byContradiction fun hp4 => ?_
      have : s x < 2 ^ p := Nat.lt_of_lt_of_le (s16 x hxm) (Nat.pow_le_pow_right (by decide : 1 ≤ 2) (show 4 ≤ p by omega))
      rw [Nat.testBit_lt_two_pow this] at t1
      cases t1
    · obtain ⟨e, he, h3, h4⟩ := L.cover_above hxm (m - y) y (Nat.le_refl _) hy ne hyx
      have hec := h2 e he h4
      rw [hec] at h3
      have sy : s y = s y &&& s c := by rw [← sm y c hy hc, h3]
      have := congrArg (fun t => t.testBit p) sy
      simp only [Nat.testBit_and, t2, Bool.and_false] at this
      exact this
  let f : Nat → Nat := fun x => if h : x ∈ irr m M then Classical.choose (ex x h) else 0
  have fs : ∀ x (h : x ∈ irr m M), f x < 4 ∧ (s x).testBit (f x) = true ∧ ∀ y, y < m → M y x = y → y ≠ x → (s y).testBit (f x) = false := fun x h => by
    have : f x = Classical.choose (ex x h) := dif_pos h
    rw [this]
    exact Classical.choose_spec (ex x h)
  have inj : ∀ x y, x ∈ irr m M → y ∈ irr m M → f x = f y → x = y := by
    intro x y hx hy e
    have px := fs x hx
    have py := fs y hy
    have hxm := irr_lt hx
    have hym := irr_lt hy
    refine Classical.byContradiction fun ne => ?_
    have b : (s (M x y)).testBit (f x) = true := by
      rw [sm x y hxm hym, Nat.testBit_and, px.2.1, Bool.true_and, e, py.2.1]
    by_cases h : M x y = x
    · have := py.2.2 x hxm h ne
      rw [← e, px.2.1] at this
      cases this
    · have := px.2.2 (M x y) (L.ml _ _ hxm hym) (L.m1 hxm hym) h
      rw [b] at this
      cases this
  have nd : ((irr m M).map f).Nodup := by
    have : ∀ l : List Nat, l.Nodup → (∀ x ∈ l, x ∈ irr m M) → (l.map f).Nodup := by
      intro l
      induction l with
      | nil => intro _ _; exact List.nodup_nil
      | cons a r ih =>
        intro h1 h2
        rw [List.nodup_cons] at h1
        rw [List.map_cons, List.nodup_cons]
        refine ⟨fun hm => ?_, ih h1.2 fun x hx => h2 x (List.mem_cons_of_mem _ hx)⟩
        obtain ⟨b, hb, e⟩ := List.mem_map.mp hm
        have := inj b a (h2 b (List.mem_cons_of_mem _ hb)) (h2 a List.mem_cons_self) e
        subst this
        exact h1.1 hb
    exact this _ irr_nd fun _ h => h
  have := len_le_of_lt 4 _ nd fun x hx => by
    obtain ⟨y, hy, e⟩ := List.mem_map.mp hx
    rw [← e]
    exact (fs y hy).1
  rwa [List.length_map] at this

/-! #### the images -/
omit L in
theorem img_bit {x k : Nat} : (img m M x).testBit k = (decide (k < (irr m M).length) && (M ((irr m M).getD k 0) x == (irr m M).getD k 0)) := msk_bit _ _ _
omit L in
theorem img_bit_at {x k : Nat} (h : k < (irr m M).length) : (img m M x).testBit k = true ↔ M ((irr m M)[k]) x = (irr m M)[k] := by
  rw [img_bit]
  simp [h]
omit L in
theorem img_lt {x : Nat} : img m M x < 2 ^ (irr m M).length := msk_lt _ _
/-- an irreducible member below a join is below one of the two -/
theorem Lat.prime (nf : NoFail m J M) {p x y : Nat} (hp : p ∈ irr m M) (hx : x < m) (hy : y < m) (h : M p (J x y) = p) : M p x = p ∨ M p y = p := by
  have hpm := irr_lt hp
  obtain ⟨c, hc, h1, h2⟩ := (L.irr_iff hpm).mp hp
  have d := nf p x y hpm hx hy
  unfold fl at d
  rw [bne_eq_false_iff_eq, h] at d
  refine Classical.byContradiction fun hn => ?_
  have n1 : M p x ≠ p := fun e => hn (.inl e)
  have n2 : M p y ≠ p := fun e => hn (.inr e)
  have lx := L.ml _ _ hpm hx
  have ly := L.ml _ _ hpm hy
  obtain ⟨c1, hc1, a1, b1⟩ := L.cover_above hpm (m - M p x) _ (Nat.le_refl _) lx n1 (L.m1 hpm hx)
  obtain ⟨c2, hc2, a2, b2⟩ := L.cover_above hpm (m - M p y) _ (Nat.le_refl _) ly n2 (L.m1 hpm hy)
  have e1 := h2 c1 hc1 b1
  have e2 := h2 c2 hc2 b2
  subst e1
  rw [e2] at a2
  have := L.j3 _ _ c1 lx ly hc1 a1 a2
  rw [← d] at this
  have k := (cov_iff.mp h1).1
  exact k.1 (L.anti hc1 hpm k.2 this)
/-- what is not below y and at most x has an irreducible one below it that is not below y -/
theorem Lat.sees {x y : Nat} (hx : x < m) (hy : y < m) (h : M x y ≠ x) : ∃ p, p ∈ irr m M ∧ M p x = p ∧ M p y ≠ p := by
  -- the least z that is at most x and not at most y
  have key : ∀ (n z : Nat), z ≤ n → z < m → M z x = z → M z y ≠ z → ∃ p, p ∈ irr m M ∧ M p x = p ∧ M p y ≠ p := by
    intro n
    induction n with
    | zero =>
      intro z hz hzm h1 h2
      -- nothing below z: z is 0, below all
      exfalso
      have e : z = 0 := by omega
      subst e
      have l := L.ml 0 y hzm hy
      have := L.asc (M 0 y) 0 l hzm (L.m1 hzm hy)
      exact h2 (by omega)
    | succ n ih =>
      intro z hz hzm h1 h2
      by_cases hi : z ∈ irr m M
      · exact ⟨z, hi, h1, h2⟩
      · -- all that is properly below z is below y, or there is a smaller witness
        by_cases hw : ∃ w, w < m ∧ w ≠ z ∧ M w z = w ∧ M w y ≠ w
        · obtain ⟨w, hwm, ne, le, nle⟩ := hw
          have := L.asc w z hwm hzm le
          exact ih w (by omega) hwm (L.trans hwm hzm hx le h1) nle
        · exfalso
          have low : ∀ w, w < m → w ≠ z → M w z = w → M w y = w := fun w a b c => Classical.byContradiction fun d => hw ⟨w, a, b, c, d⟩
          -- z has something properly below it: z meet y
          have l0 := L.ml z y hzm hy
          obtain ⟨c, hc, _, hcov⟩ := L.cover_above hzm (m - M z y) (M z y) (Nat.le_refl _) l0 h2 (L.m1 hzm hy)
          have k := (cov_iff.mp hcov).1
          -- it is the only one that is covered
          refine hi ((L.irr_iff hzm).mpr ⟨c, hc, hcov, fun d hd hdc => ?_⟩)
          have k2 := (cov_iff.mp hdc).1
          refine Classical.byContradiction fun ne => ?_
          have lj := L.jl c d hc hd
          have jz : M (J c d) z = J c d := L.j3 c d z hc hd hzm k.2 k2.2
          have jne : c ≠ J c d := fun e => by
            have q := L.j2 c d hc hd
            rw [← e] at q
            have : c ≠ d := fun e => ne e.symm
            exact (cov_iff.mp hdc).2 c hc (fun e => ne e) q k.1 k.2
          have je : J c d = z := Classical.byContradiction fun jn => (cov_iff.mp hcov).2 (J c d) lj jne (L.j1 c d hc hd) jn jz
          have := L.j3 c d y hc hd hy (low c hc k.1 k.2) (low d hd k2.1 k2.2)
          rw [je] at this
          exact h2 this
  exact key x x (Nat.le_refl _) hx (L.mi x hx) h
theorem Lat.goes (nf : NoFail m J M) : Goes m J M (irr m M).length (img m M) := by
  have mono : ∀ x y, x < m → y < m → img m M x = img m M y → M x y = x := by
    intro x y hx hy e
    refine Classical.byContradiction fun h => ?_
    obtain ⟨p, hp, h1, h2⟩ := L.sees hx hy h
    obtain ⟨k, hk, rfl⟩ := List.getElem_of_mem hp
    have b1 := (img_bit_at (x := x) hk).mpr h1
    rw [e] at b1
    exact h2 ((img_bit_at hk).mp b1)
  refine ⟨fun k hk => ⟨img_lt, fun j hj e => ?_⟩, fun x y hx hy => ⟨?_, ?_⟩⟩
  · have := L.anti hk (show j < m by omega) (mono k j hk (by omega) e) (mono j k (by omega) hk e.symm)
    omega
  · apply Nat.eq_of_testBit_eq
    intro i
    rw [Nat.testBit_or]
    by_cases hi : i < (irr m M).length
    · rw [Bool.eq_iff_iff, Bool.or_eq_true, img_bit_at hi, img_bit_at hi, img_bit_at hi]
      have pm : (irr m M)[i] ∈ irr m M := List.getElem_mem hi
      have pl := irr_lt pm
      exact ⟨fun h => L.prime nf pm hx hy h, fun h => h.elim (fun a => L.trans pl hx (L.jl _ _ hx hy) a (L.j1 _ _ hx hy)) fun a => L.trans pl hy (L.jl _ _ hx hy) a (L.j2 _ _ hx hy)⟩
    · rw [img_bit, img_bit, img_bit]
      simp [hi]
  · apply Nat.eq_of_testBit_eq
    intro i
    rw [Nat.testBit_and]
    by_cases hi : i < (irr m M).length
    · rw [Bool.eq_iff_iff, Bool.and_eq_true, img_bit_at hi, img_bit_at hi, img_bit_at hi]
      have pm : (irr m M)[i] ∈ irr m M := List.getElem_mem hi
      have pl := irr_lt pm
      exact ⟨fun h => ⟨L.trans pl (L.ml _ _ hx hy) hx h (L.m1 hx hy), L.trans pl (L.ml _ _ hx hy) hy h (L.m2 hx hy)⟩, fun h => L.m3 hx hy pl h.1 h.2⟩
    · rw [img_bit, img_bit, img_bit]
      simp [hi]
end
end K49
end
namespace K49
open PySem L2 Evl

/-! ### the layer's rules with K told -/
section
variable {X : Cx} {K : PySem.W.Frag}
def rTupO (K : PySem.W.Frag) : List V → Hp → VK → Prop := fun xs H Q => ∃ p ys, xs = [.ref p] ∧ ((SqL K H p ys ∧ ∀ l, H l = none → Q (.ref l) (upd H l (.tup ys))) ∨ (SqT K H p ys ∧ Q (.ref p) H))
theorem gixL (h : X.K = K) : IxR X (rIxL K) := by subst h; exact ix_list
theorem gixT (h : X.K = K) : IxR X (rIxT K) := by subst h; exact ix_tup
theorem gin (h : X.K = K) : OpR X (compareOp .In) (rIn K false) := by subst h; exact op_in_seq
theorem gnin (h : X.K = K) : OpR X (compareOp .NotIn) (rIn K true) := by subst h; exact op_notIn_seq
theorem glen (h : X.K = K) : CallR X (.builtin "len") (rLenS K) := by subst h; exact call_len_seq
theorem gtuple (h : X.K = K) : CallR X (.type "tuple") (rTupO K) := by subst h; exact call_tuple_of
theorem glist (h : X.K = K) : CallR X (.type "list") (rListS K) := by subst h; exact call_list_of
theorem gsum (h : X.K = K) (hc : X.calm = true) : CallR X (.builtin "sum") (rSum K) := by subst h; exact cr_sum hc
theorem gsorted (h : X.K = K) : CallR X (.builtin "sorted") (rSorted K) := by subst h; exact cr_sorted
theorem gisi (h : X.K = K) : CallR X (.builtin "isinstance") (rIsi K) := by subst h; exact call_isi
theorem gisiT (h : X.K = K) : CallR X (.builtin "isinstance") (rIsiT K) := by subst h; exact call_isiT
theorem gslL (h : X.K = K) : SlR X (rSlL K) := by subst h; exact sl_list
theorem gslT (h : X.K = K) : SlR X (rSlA K) := by subst h; exact sl_tupA
theorem gcatT (h : X.K = K) : OpR X (binaryOp .Add) (rCatA K) := by subst h; exact op_catA
theorem gneD (h : X.K = K) (hu : X.A.units + 64 < cLine) : OpR X (compareOp .NotEq) (rNeD K) := by subst h; exact op_neD hu
theorem gidx (h : X.K = K) : MtR X "list.index" (rIndex K) := by subst h; exact mt_index
theorem gfld {e : Expr} {f : Str} {pos : Pos} {ta : TE} (h : X.K = K) (he : PE X e ta) (hb : attributeBase e f X.env (eval e X.env) = eval e X.env) : PE X (.Attribute e f pos) (tFld K ta f) := by subst h; exact pe_fld he hb
theorem gsfld {o value : Expr} {f : Str} {pos pos' : Pos} {ta tv : TE} (h : X.K = K) (ha : PE X o ta) (hv : PE X value tv) (hs : swapsWith value (some (.Attribute o f pos')) pos.line X.env = pure false) : PS X (.Assign [.Attribute o f pos'] value pos) (sFld K ta tv f) := by
  subst h; exact ps_fld ha hv hs
theorem gpiL {tg l : Expr} {tl : TE} (h : X.K = K) (hl : PE X l tl) : PI X tg l (iList K tl) := by subst h; exact pi_list hl
theorem gpiT {tg l : Expr} {tl : TE} (h : X.K = K) (hl : PE X l tl) : PI X tg l (iTup K tl) := by subst h; exact pi_tup hl
theorem gptup {es : List Expr} {k : Nat} {t : TGs} {n : Nat} {pos : Pos} (hK : X.K = K) (hc : X.calm = true) (h : PGs X es t)
    (hn : (assignEach es X.env).length = n := by rfl) (hst : (assignEach es X.env).findIdx? (·.1) = none := by rfl) : PG X (.Tuple es k pos) (gTup K n t) := by subst hK; exact pg_tup hc h hn hst
theorem gbm {o e : Expr} {es : List Expr} {to : TE} {t : TA} {name : Str} {apos cpos : Pos} {T id : String} {r : V → List V → Hp → VK → Prop} (h : X.K = K)
    (pa : PlainAttrs T) (slot : Slot T name id) (hty : typeOf (.builtin id) = pure (.type "method_descriptor")) (hm : MtR X id r) (ho : PE X o to) (ha : PA X (e :: es) t)
    (hbase : attributeBase o name X.env (eval o X.env) = eval o X.env := by rfl)
    (hfew : ((backTo cpos (starEach (e :: es) X.env)).all (fun x => !x.1) && (backToKw cpos (keywordEach [] X.env)).all (fun x => x.1.isSome)
      && decide ((e :: es).length + ([] : List Keyword).length + (if ([] : List Keyword).isEmpty then 0 else 1) < 30)) = true := by rfl)
    (hline : (apos.endLine == cpos.line) = true := by rfl) (hs : starEach (e :: es) X.env = (false, eval e X.env) :: starEach es X.env := by rfl) (hplain : (backTo cpos (starEach es X.env)).any (·.1) = false := by rfl) :
    PE X (.Call (.Attribute o name apos) (e :: es) [] cpos) (tBM K T r to t) := by subst h; exact pe_bm pa slot hty hm ho ha hbase hfew hline hs hplain
theorem gapp {o : Expr} {e : Expr} {apos cpos : Pos} {to : TE} {t : TA} (h : X.K = K) (H : PE X (.Call (.Attribute o "append" apos) [e] [] cpos) (tBM X.K "list" rAppend to t)) : PE X (.Call (.Attribute o "append" apos) [e] [] cpos) (tBM K "list" rAppend to t) := by subst h; exact H
end

/-! ### len of an own object -/
def rLenI (C : Addr) (sp : Sp) : List V → Hp → VK → Prop := fun xs H Q => ∃ a dx fs, xs = [.ref a] ∧ H a = some (.ins C dx fs) ∧ sp [.ref a] H (fun v H' => ∃ n : Nat, v = .int (n : Int) ∧ n < 1000000 ∧ Q (.int (n : Int)) H') E0
theorem glenI {X : Cx} {C f : Addr} {fd : FuncData} {ps : List Str} {sp : Sp} {n : Nat} (F : FnOk X.prog X.w X.K X.mg X.base CX0 n f fd ps sp) (hr : Room (n + 1) X.A)
    (hs : PySem.W.findIn X.K (.ref C) "__len__" = some (some (.ref f))) (hf : PySem.W.isFn X.K (.ref f) = true) (hb : Binds X.K fd ps []) : CallR X (.builtin "len") (rLenI C sp) := by
  intro pins s σ H xs us Q I r h
  obtain ⟨a, dx, fs, rfl, ha, hsp⟩ := h
  obtain ⟨u, rfl, ru⟩ := vals1 r
  cases ru
  obtain ⟨mA, J, _⟩ := ins_get I.hok ha
  obtain ⟨od, J, _⟩ := J.look
  obtain ⟨m, hF⟩ := I.fr
  refine PySem.W.len_K hF I.ok.mod.kin J hs hf ?_
  have e0 : Env0 X.prog X.w X.K X.mg X.base X.A.in1 X.stack s H := I.env0.in1
  have hl := F.len _ _ _ _ hsp
  have r2 : Vals [V.ref a] [Value.ref a] := .cons rfl .nil
  refine wpAny_call (codeAny_mono (F.run X.A.in1 X.stack s H ⟨[.ref a], []⟩ [.ref a] [.ref a] _ E0 hr.in1 e0 (by
    have := hb s [.ref a] I.kIn (by simpa using hl)
    simpa using this) r2 hsp) fun r s' hq => ?_)
  cases r with
  | error e => exact False.elim hq
  | ok fl =>
    cases fl with
    | ret w =>
      obtain ⟨z, H', I', rz, k, ez, hk, q⟩ := I.after hq
      subst ez
      obtain ⟨t, rfl⟩ := rz
      exact ⟨⟨by omega, by omega⟩, .int (k : Int), H', I'.tok _, ⟨_, rfl⟩, q⟩
    | next => exact False.elim hq
    | brk => exact False.elim hq
    | cont => exact False.elim hq
end K49
namespace K49
open PySem L2 Evl
/-! ### the text by places -/
def top (i : Nat) : Stmt := PySem.Challenge.pw_orderforms_k49_whole_papers_of_lattices.main.body.getD i (.Pass ⟨0, 0, 0, 0⟩)
abbrev s_is_integer : Stmt := top 6
abbrev s_members : Stmt := top 7
abbrev s_set_of : Stmt := top 8
abbrev s_has : Stmt := top 9
abbrev s_m_len : Stmt := inClass (top 18) 1
abbrev s_m_met : Stmt := inClass (top 18) 5
abbrev s_m_joined : Stmt := inClass (top 18) 4
abbrev s_is_failure : Stmt := top 12
abbrev s_takes_lattice : Stmt := top 11
abbrev s_checked_pairs : Stmt := top 15
abbrev s_closed_above : Stmt := top 16
abbrev s_bounds_table : Stmt := top 17
abbrev s_m_init : Stmt := inClass (top 18) 0
abbrev s_m_at_most : Stmt := inClass (top 18) 3
abbrev s_m_covers : Stmt := inClass (top 18) 8
abbrev s_m_join_irreducibles : Stmt := inClass (top 18) 9
abbrev s_m_distributive_failure : Stmt := inClass (top 18) 12
abbrev s_m_is_distributive : Stmt := inClass (top 18) 14
abbrev s_images : Stmt := top 19
abbrev s_lattice_paper : Stmt := top 21
abbrev s__law_state : Stmt := top 23
abbrev s__law_take : Stmt := top 24
abbrev s__law_common : Stmt := top 26
abbrev s__law_family : Stmt := top 25
abbrev s__law_tables : Stmt := top 27
abbrev s__law_lattice : Stmt := top 28
abbrev s__law_fails : Stmt := top 29
abbrev s__law_least_failure : Stmt := top 30
abbrev s__law_below : Stmt := top 31
abbrev s__law_irreducibles : Stmt := top 32
abbrev s__law_power : Stmt := top 33
abbrev s__law_due_paper : Stmt := top 34
abbrev s__law_not_above : Stmt := top 35
abbrev s__law_united : Stmt := top 36
abbrev s__law_goes : Stmt := top 37
abbrev s__law_forms : Stmt := top 38
abbrev s_law : Stmt := top 39
/-! ### what the top has left -/
structure Df (K : PySem.W.Frag) (mg : Str → Option Value) (x qual : Str) (st : Stmt) (ps : List Str) (f : Addr) (fd : FuncData) : Prop where
  F : Fun K x qual st f fd
  g : mg x = some (.ref f)
  k : PySem.W.keepIn K (.ref f) = true
  b : Binds K fd ps []
structure Md (K : PySem.W.Frag) (C : Addr) (x qual : Str) (st : Stmt) (ps : List Str) (f : Addr) (fd : FuncData) : Prop where
  F : Fun K x qual st f fd
  m : Meth K C x f
  b : Binds K fd ps []
structure Tx (K : PySem.W.Frag) (mg : Str → Option Value) where
  C : Addr
  a_is_integer : Addr
  d_is_integer : FuncData
  p_is_integer : Df K mg "is_integer" "is_integer" s_is_integer ["value"] a_is_integer d_is_integer
  a_members : Addr
  d_members : FuncData
  p_members : Df K mg "members" "members" s_members ["bits"] a_members d_members
  a_set_of : Addr
  d_set_of : FuncData
  p_set_of : Df K mg "set_of" "set_of" s_set_of ["points"] a_set_of d_set_of
  a_has : Addr
  d_has : FuncData
  p_has : Df K mg "has" "has" s_has ["bits", "x"] a_has d_has
  a_m_len : Addr
  d_m_len : FuncData
  p_m_len : Md K C "__len__" "Lattice.__len__" s_m_len ["self"] a_m_len d_m_len
  a_m_met : Addr
  d_m_met : FuncData
  p_m_met : Md K C "met" "Lattice.met" s_m_met ["self", "x", "y"] a_m_met d_m_met
  a_m_joined : Addr
  d_m_joined : FuncData
  p_m_joined : Md K C "joined" "Lattice.joined" s_m_joined ["self", "x", "y"] a_m_joined d_m_joined
  a_is_failure : Addr
  d_is_failure : FuncData
  p_is_failure : Df K mg "is_failure" "is_failure" s_is_failure ["lattice", "size", "value"] a_is_failure d_is_failure
  a_takes_lattice : Addr
  d_takes_lattice : FuncData
  p_takes_lattice : Df K mg "takes_lattice" "takes_lattice" s_takes_lattice ["lattice", "paper"] a_takes_lattice d_takes_lattice
  a_checked_pairs : Addr
  d_checked_pairs : FuncData
  p_checked_pairs : Df K mg "checked_pairs" "checked_pairs" s_checked_pairs ["n", "pairs"] a_checked_pairs d_checked_pairs
  a_closed_above : Addr
  d_closed_above : FuncData
  p_closed_above : Df K mg "closed_above" "closed_above" s_closed_above ["n", "pairs"] a_closed_above d_closed_above
  a_bounds_table : Addr
  d_bounds_table : FuncData
  p_bounds_table : Df K mg "bounds_table" "bounds_table" s_bounds_table ["sets"] a_bounds_table d_bounds_table
  a_m_init : Addr
  d_m_init : FuncData
  p_m_init : Md K C "__init__" "Lattice.__init__" s_m_init ["self", "n", "pairs"] a_m_init d_m_init
  a_m_at_most : Addr
  d_m_at_most : FuncData
  p_m_at_most : Md K C "at_most" "Lattice.at_most" s_m_at_most ["self", "x", "y"] a_m_at_most d_m_at_most
  a_m_covers : Addr
  d_m_covers : FuncData
  p_m_covers : Md K C "covers" "Lattice.covers" s_m_covers ["self"] a_m_covers d_m_covers
  a_m_join_irreducibles : Addr
  d_m_join_irreducibles : FuncData
  p_m_join_irreducibles : Md K C "join_irreducibles" "Lattice.join_irreducibles" s_m_join_irreducibles ["self"] a_m_join_irreducibles d_m_join_irreducibles
  a_m_distributive_failure : Addr
  d_m_distributive_failure : FuncData
  p_m_distributive_failure : Md K C "distributive_failure" "Lattice.distributive_failure" s_m_distributive_failure ["self"] a_m_distributive_failure d_m_distributive_failure
  a_m_is_distributive : Addr
  d_m_is_distributive : FuncData
  p_m_is_distributive : Md K C "is_distributive" "Lattice.is_distributive" s_m_is_distributive ["self"] a_m_is_distributive d_m_is_distributive
  a_images : Addr
  d_images : FuncData
  p_images : Df K mg "images" "images" s_images ["lattice"] a_images d_images
  a_lattice_paper : Addr
  d_lattice_paper : FuncData
  p_lattice_paper : Df K mg "lattice_paper" "lattice_paper" s_lattice_paper ["lattice"] a_lattice_paper d_lattice_paper
  a__law_state : Addr
  d__law_state : FuncData
  p__law_state : Df K mg "_law_state" "_law_state" s__law_state ["_law_script"] a__law_state d__law_state
  a__law_take : Addr
  d__law_take : FuncData
  p__law_take : Df K mg "_law_take" "_law_take" s__law_take ["_law_state_here", "_law_m"] a__law_take d__law_take
  a__law_common : Addr
  d__law_common : FuncData
  p__law_common : Df K mg "_law_common" "_law_common" s__law_common ["_law_a", "_law_b", "_law_n"] a__law_common d__law_common
  a__law_family : Addr
  d__law_family : FuncData
  p__law_family : Df K mg "_law_family" "_law_family" s__law_family ["_law_state_here"] a__law_family d__law_family
  a__law_tables : Addr
  d__law_tables : FuncData
  p__law_tables : Df K mg "_law_tables" "_law_tables" s__law_tables ["_law_family_here"] a__law_tables d__law_tables
  a__law_lattice : Addr
  d__law_lattice : FuncData
  p__law_lattice : Df K mg "_law_lattice" "_law_lattice" s__law_lattice ["_law_family_here", "_law_meets"] a__law_lattice d__law_lattice
  a__law_fails : Addr
  d__law_fails : FuncData
  p__law_fails : Df K mg "_law_fails" "_law_fails" s__law_fails ["_law_joins", "_law_meets", "_law_x", "_law_y", "_law_z"] a__law_fails d__law_fails
  a__law_least_failure : Addr
  d__law_least_failure : FuncData
  p__law_least_failure : Df K mg "_law_least_failure" "_law_least_failure" s__law_least_failure ["_law_joins", "_law_meets"] a__law_least_failure d__law_least_failure
  a__law_below : Addr
  d__law_below : FuncData
  p__law_below : Df K mg "_law_below" "_law_below" s__law_below ["_law_meets", "_law_x"] a__law_below d__law_below
  a__law_irreducibles : Addr
  d__law_irreducibles : FuncData
  p__law_irreducibles : Df K mg "_law_irreducibles" "_law_irreducibles" s__law_irreducibles ["_law_meets"] a__law_irreducibles d__law_irreducibles
  a__law_power : Addr
  d__law_power : FuncData
  p__law_power : Df K mg "_law_power" "_law_power" s__law_power ["_law_k"] a__law_power d__law_power
  a__law_due_paper : Addr
  d__law_due_paper : FuncData
  p__law_due_paper : Df K mg "_law_due_paper" "_law_due_paper" s__law_due_paper ["_law_joins", "_law_meets"] a__law_due_paper d__law_due_paper
  a__law_not_above : Addr
  d__law_not_above : FuncData
  p__law_not_above : Df K mg "_law_not_above" "_law_not_above" s__law_not_above ["_law_meets"] a__law_not_above d__law_not_above
  a__law_united : Addr
  d__law_united : FuncData
  p__law_united : Df K mg "_law_united" "_law_united" s__law_united ["_law_a", "_law_b"] a__law_united d__law_united
  a__law_goes : Addr
  d__law_goes : FuncData
  p__law_goes : Df K mg "_law_goes" "_law_goes" s__law_goes ["_law_joins", "_law_meets", "_law_n", "_law_images"] a__law_goes d__law_goes
  a__law_forms : Addr
  d__law_forms : FuncData
  p__law_forms : Df K mg "_law_forms" "_law_forms" s__law_forms ["_law_state_here", "_law_size", "_law_broken", "_law_n", "_law_images"] a__law_forms d__law_forms
  a_law : Addr
  d_law : FuncData
  p_law : Df K mg "law" "law" s_law ["_law_script"] a_law d_law
  cl : Cls K C
  mkC : Mk K C a_m_init
  gC : mg "Lattice" = some (.ref C)
  mM : ∃ t : Tok, mg "MOST_MEMBERS" = some (.int 64 t)
  n_above : NoAttr K C "above"
  n_joins : NoAttr K C "joins"
  n_meets : NoAttr K C "meets"
  b_len : mg "len" = none
  b_range : mg "range" = none
  b_isinstance : mg "isinstance" = none
  b_int : mg "int" = none
  b_bool : mg "bool" = none
  b_tuple : mg "tuple" = none
  b_list : mg "list" = none
  b_abs : mg "abs" = none
  b_sum : mg "sum" = none
  b_sorted : mg "sorted" = none
  b_max : mg "max" = none
/-! ### further words -/
section
variable {K : PySem.W.Frag} {σ : L2.St} {H H' : Hp} {ta tb te tx : TE} {t u : TT} {x y z v : V} {r : R2}
theorem Ev.at (h : Ev te σ H v) {Q : VK} (k : ∀ H1, Ex H H1 → Q v H1) : te σ H Q := h H (Ex.refl H) Q k
theorem EvT.at {b : Bool} (h : EvT t σ H b) {Q : Bool → Hp → Prop} (k : ∀ H1, Ex H H1 → Q b H1) : t σ H Q := h H (Ex.refl H) Q k
theorem ev_call0 {sp : Sp} {vs : List V} {E : XK} {ta : TA} (h : EvA ta σ H vs) (hs : SpV sp vs H z) : Ev (tCall sp [] E ta) σ H z := ev_call h (by rw [List.append_nil]; exact hs)
theorem el_call0 {sp : Sp} {vs xs : List V} {E : XK} {ta : TA} (h : EvA ta σ H vs) (hs : SpL sp vs H xs) : EvL (tCall sp [] E ta) σ H xs := el_call h (by rw [List.append_nil]; exact hs)
/-- o.m(..) -/
theorem ev_meth {C : Addr} {m : Str} {sp : Sp} {E : XK} {ta : TE} {t : TA} {a dx : Addr} {fs : List (Str × V)} {vs : List V} (ha : Ev ta σ H (.ref a)) (ho : H a = some (.ins C dx fs)) (hl : fs.lookup m = none) (h : EvA t σ H vs) (hs : SpV sp (.ref a :: vs) H z) :
    Ev (tMeth C m sp [] E ta t) σ H z := fun H1 e Q q => ha H1 e _ fun H2 e2 => ⟨a, dx, fs, rfl, (e.trans e2) a _ ho, hl, h H2 (e.trans e2) _ fun H3 e3 => by
      rw [List.append_nil]
      exact hs H3 ((e.trans e2).trans e3) Q (fun H4 e4 => q H4 ((e2.trans e3).trans e4)) E⟩
theorem ev_fld {a C dx : Addr} {fs : List (Str × V)} {f : Str} (h : Ev ta σ H (.ref a)) (ho : H a = some (.ins C dx fs)) (hc : Cls K C) (hn : NoAttr K C f) (hl : fs.lookup f = some v) : Ev (tFld K ta f) σ H v := fun H1 e Q q =>
  h H1 e _ fun H2 e2 => ⟨a, C, dx, fs, v, rfl, (e.trans e2) a _ ho, hc, hn, hl, q H2 e2⟩
theorem rv_isN : RV rIsN x .non H (.bl (decide (x = .non))) := fun H1 _ _ q => ⟨rfl, q H1 (Ex.refl H1)⟩
theorem rv_notN : RV rNotN x .non H (.bl (!decide (x = .non))) := fun H1 _ _ q => ⟨rfl, q H1 (Ex.refl H1)⟩
theorem rv_isB {a b : Bool} : RV rIsB (.bl a) (.bl b) H (.bl (decide (a = b))) := fun H1 _ _ q => ⟨a, b, rfl, rfl, q H1 (Ex.refl H1)⟩
theorem rv_notB {a b : Bool} : RV rNotB (.bl a) (.bl b) H (.bl (!decide (a = b))) := fun H1 _ _ q => ⟨a, b, rfl, rfl, q H1 (Ex.refl H1)⟩
theorem ev_lenT {p : Addr} {xs : List V} (ha : Ev ta σ H (.ref p)) (h : SqT K H p xs) : Ev (tCB (rLenS K) (tCons ta tNil)) σ H (.int (xs.length : Int)) := fun H1 e Q q =>
  ha H1 e _ fun H2 e2 => ⟨p, xs, rfl, Or.inr (ex_t (e.trans e2) h), q H2 e2⟩
/-- tuple(a new list) -/
theorem eu_tupN {xs : List V} (ha : EvL ta σ H xs) : EvU (tCB (rTupO K) (tCons ta tNil)) σ H xs := fun H1 e Q q =>
  ha H1 e _ fun p H2 hp e2 h2 => ⟨p, xs, rfl, Or.inl ⟨sq_of h2, fun l hl => q l _ (fresh_back e2 hl) (e2.trans (Ex.new hl)) upd_same⟩⟩
theorem eu_tupL {p : Addr} {xs : List V} (ha : Ev ta σ H (.ref p)) (h : SqL K H p xs) : EvU (tCB (rTupO K) (tCons ta tNil)) σ H xs := fun H1 e Q q =>
  ha H1 e _ fun H2 e2 => ⟨p, xs, rfl, Or.inl ⟨ex_l (e.trans e2) h, fun l hl => q l _ (fresh_back e2 hl) (e2.trans (Ex.new hl)) upd_same⟩⟩
/-- isinstance -/
theorem ev_isi {n T : String} {b : Bool} (h : Ev ta σ H x) (ht : TyX K H x (.type n)) (hk : kitB n T = some b) (hx : ∀ H1, Ex H H1 → TyX K H1 x (.type n)) : Ev (tCB (rIsi K) (tCons ta (tCons (tC (.ty T)) tNil))) σ H (.bl b) := fun H1 e Q q =>
  h H1 e _ fun H2 e2 => ⟨x, .ty T, .type n, .type T, b, rfl, .ty T, hx H2 (e.trans e2), kit_ty hk, q H2 e2⟩
def rInt1 : List V → Hp → VK → Prop := fun xs H Q => (∃ i, xs = [.int i] ∧ Q (.int i) H) ∨ ∃ k, xs = [.bl k] ∧ Q (.int (if k then 1 else 0)) H
theorem ev_int1 {i : Int} (h : Ev ta σ H (.int i)) : Ev (tCB (fun xs H Q => (∃ i, xs = [.int i] ∧ Q (.int i) H) ∨ ∃ k, xs = [.bl k] ∧ Q (.int (if k then 1 else 0)) H) (tCons ta tNil)) σ H (.int i) := fun H1 e Q q =>
  h H1 e _ fun H2 e2 => .inl ⟨i, rfl, q H2 e2⟩
theorem ev_abs {i : Int} (h : Ev ta σ H (.int i)) : Ev (tCB (fun xs H Q => ∃ i, xs = [.int i] ∧ Q (.int (if i < 0 then -i else i)) H) (tCons ta tNil)) σ H (.int (if i < 0 then -i else i)) := fun H1 e Q q =>
  h H1 e _ fun H2 e2 => ⟨i, rfl, q H2 e2⟩
theorem rv_mod {i j : Int} (h : 0 < j) : RV (rI (fun _ j => 0 < j) fun i j => .int (i % j)) (.int i) (.int j) H (.int (i % j)) := rv_I h
theorem rv_shr {i j : Int} (h : 0 ≤ j) : RV (rI (fun _ j => 0 ≤ j) fun i j => .int (i / 2 ^ j.toNat)) (.int i) (.int j) H (.int (i / 2 ^ j.toNat)) := rv_I h
end
end K49
namespace K49
open PySem L2 Evl
/-! ### the evaluator -/
local macro_rules | `(tactic| wtm_at "k49sd") => `(tactic| first
  | (with_reducible assumption)
  | decide
  | omega
  | ((with_reducible refine' Lat.ml ?k0 _ _ ?k1 ?k2); (case k0 => (with_reducible assumption)); (case k1 => wtm_at "k49sd"); (case k2 => wtm_at "k49sd"))
  | ((with_reducible refine' Lat.jl ?k0 _ _ ?k1 ?k2); (case k0 => (with_reducible assumption)); (case k1 => wtm_at "k49sd"); (case k2 => wtm_at "k49sd")))
local macro_rules | `(tactic| wtm_at "k49rv") => `(tactic| first
  | (with_reducible exact rv_and)
  | (with_reducible exact rv_or)
  | ((with_reducible refine' rv_shl1 ?k1); (case k1 => wtm_at "k49sd"))
  | (with_reducible exact rv_I0)
  | ((with_reducible refine' rv_T2 ?k1 ?k2 ?k3); (case k1 => (with_reducible assumption)); (case k2 => wtm_at "k49sd"); (case k3 => wtm_at "k49sd"))
  | ((with_reducible refine' rv_T1 ?k1 ?k2); (case k1 => (with_reducible assumption)); (case k2 => wtm_at "k49sd"))
  | ((with_reducible refine' rv_L2 ?k1 ?k2 ?k3); (case k1 => (with_reducible assumption)); (case k2 => wtm_at "k49sd"); (case k3 => wtm_at "k49sd"))
  | ((with_reducible refine' rv_L1 ?k1 ?k2); (case k1 => (with_reducible assumption)); (case k2 => wtm_at "k49sd"))
  | ((with_reducible refine' rv_fT' ?k1 ?k2 ?k3); (case k1 => (with_reducible assumption)); (case k2 => wtm_at "k49sd"); (case k3 => exact rfl))
  | ((with_reducible refine' rv_fL' ?k1 ?k2 ?k3); (case k1 => (with_reducible assumption)); (case k2 => wtm_at "k49sd"); (case k3 => exact rfl))
  | ((with_reducible refine' rv_mod ?k1); (case k1 => wtm_at "k49sd"))
  | ((with_reducible refine' rv_shr ?k1); (case k1 => wtm_at "k49sd"))
  | ((with_reducible refine' rv_I (C := CMul) ?k1); (case k1 => (first | exact Or.inr ⟨by decide, by decide⟩ | exact Or.inl ⟨by decide, by decide⟩ | exact Or.inl ⟨by omega, by omega⟩ | exact Or.inr ⟨by omega, by omega⟩)))
  | ((with_reducible refine' rv_I (C := CDiv) ?k1); (case k1 => (first | exact ⟨by decide, by decide⟩ | exact ⟨by omega, by omega⟩)))
  | ((with_reducible refine' rv_I (C := CPow) ?k1); (case k1 => (first | exact ⟨by omega, by omega, by decide⟩ | exact ⟨by omega, by omega, by omega⟩)))
  | ((with_reducible refine' rv_eq ?k1); (case k1 => rfl))
  | ((with_reducible refine' rv_ne ?k1); (case k1 => rfl))
  | (with_reducible exact rv_isN) | (with_reducible exact rv_notN) | (with_reducible exact rv_isB) | (with_reducible exact rv_notB)
  | (with_reducible assumption))
local macro_rules | `(tactic| wtm_at "k49ev") => `(tactic| first
  | (with_reducible exact ev_c)
  | (exact ev_var rfl)
  | ((with_reducible refine' ev_op ?k1 ?k2 ?k3); (case k1 => wtm_at "k49ev"); (case k2 => wtm_at "k49ev"); (case k3 => wtm_at "k49rv"))
  | ((with_reducible refine' ev_un ?k1 ru_neg); (case k1 => wtm_at "k49ev"))
  | ((with_reducible refine' ev_int1 ?k1); (case k1 => wtm_at "k49ev"))
  | ((with_reducible refine' ev_abs ?k1); (case k1 => wtm_at "k49ev"))
  | ((with_reducible refine' ev_above ?k1 ?k2 ?k3 ?k4); (case k1 => wtm_at "k49ev"); (case k2 => (with_reducible assumption)); (case k3 => exact Tx.cl ‹_›); (case k4 => exact Tx.n_above ‹_›))
  | ((with_reducible refine' ev_joins ?k1 ?k2 ?k3 ?k4); (case k1 => wtm_at "k49ev"); (case k2 => (with_reducible assumption)); (case k3 => exact Tx.cl ‹_›); (case k4 => exact Tx.n_joins ‹_›))
  | ((with_reducible refine' ev_meets ?k1 ?k2 ?k3 ?k4); (case k1 => wtm_at "k49ev"); (case k2 => (with_reducible assumption)); (case k3 => exact Tx.cl ‹_›); (case k4 => exact Tx.n_meets ‹_›))
  | ((with_reducible refine' ev_lenfT ?k1 ?k2); (case k1 => wtm_at "k49ev"); (case k2 => (with_reducible assumption)))
  | ((with_reducible refine' ev_lenfL ?k1 ?k2); (case k1 => wtm_at "k49ev"); (case k2 => (with_reducible assumption)))
  | ((with_reducible refine' ev_lenT ?k1 ?k2); (case k1 => wtm_at "k49ev"); (case k2 => wtm_at "k49sq"))
  | ((with_reducible refine' ev_len ?k1 ?k2); (case k1 => wtm_at "k49ev"); (case k2 => wtm_at "k49sq"))
  | ((with_reducible refine' ev_call0 ?k1 ?k2); (case k1 => wtm_at "k49ea"); (case k2 => wtm_at "k49sp"))
  | ((with_reducible refine' ev_notV ?k1); (case k1 => wtm_at "k49ev"))
  | ((with_reducible refine' ev_andV ?k1 ?k2); (case k1 => wtm_at "k49ev"); (case k2 => (intro _; wtm_at "k49ev")))
  | ((with_reducible refine' ev_orV ?k1 ?k2); (case k1 => wtm_at "k49ev"); (case k2 => (intro _; wtm_at "k49ev"))))
local macro_rules | `(tactic| wtm_at "k49ea") => `(tactic| first
  | (with_reducible exact ea_nil)
  | ((with_reducible refine' ea_cons ?k1 ?k2); (case k1 => wtm_at "k49ev"); (case k2 => wtm_at "k49ea")))
local macro_rules | `(tactic| wtm_at "k49sq") => `(tactic| first
  | (with_reducible assumption)
  | (refine' sq_of ?k1; (case k1 => (with_reducible assumption)))
  | (refine' st_of ?k1; (case k1 => (with_reducible assumption))))
local macro_rules | `(tactic| wtm_at "k49et") => `(tactic| first
  | ((with_reducible refine' et_test ?k1); (case k1 => wtm_at "k49ev"))
  | ((with_reducible refine' et_B ?k1); (case k1 => wtm_at "k49ev"))
  | ((with_reducible refine' et_and ?k1 ?k2); (case k1 => wtm_at "k49et"); (case k2 => (intro _; wtm_at "k49et")))
  | ((with_reducible refine' et_or ?k1 ?k2); (case k1 => wtm_at "k49et"); (case k2 => (intro _; wtm_at "k49et")))
  | ((with_reducible refine' et_not ?k1); (case k1 => wtm_at "k49et")))

section
variable {P : Program} {w : World} {K : PySem.W.Frag} {mg : Str → Option Value} {base : Heap}
/-! ### is_integer, has -/
def spIsInt (K : PySem.W.Frag) : Sp := fun vs H Q _ => ∃ (x : V) (n : String) (b1 b2 : Bool), vs = [x] ∧ (∀ H1, Ex H H1 → TyX K H1 x (.type n)) ∧ kitB n "int" = some b1 ∧ kitB n "bool" = some b2 ∧ RetV (.bl (b1 && !b2)) H Q
theorem sc_is_integer : FnScope ["value"] ["value"] (defScope s_is_integer) := ⟨rfl, rfl, rfl, by decide +kernel, rfl, by decide +kernel, by decide +kernel⟩
theorem ok_is_integer (T : Tx K mg) : FnOk P w K mg base CX0 1 T.a_is_integer T.d_is_integer ["value"] (spIsInt K) := by
  refine T.p_is_integer.F.ok sc_is_integer (fun vs H Q E h => ?_) (fun cdv A outer s H vs Q E hr h => ?_)
  · obtain ⟨x, n, b1, b2, rfl, _⟩ := h
    rfl
  · obtain ⟨x, n, b1, b2, rfl, ht, k1, k2, k⟩ := h
    refine ⟨_, (pss_one (ps_ret (pe_and (pe_callB (gisi (K := K) rfl) (by rfl) T.b_isinstance (by decide +kernel) (pa_cons (pv 0) (pa_cons (pe_bltn (v := .ty "int") (u := .type "int") rfl T.b_int (by decide +kernel) rfl) pa_nil))) (pe_one (pe_not (pe_callB (gisi (K := K) rfl) (by rfl) T.b_isinstance (by decide +kernel) (pa_cons (pv 0) (pa_cons (pe_bltn (v := .ty "bool") (u := .type "bool") rfl T.b_bool (by decide +kernel) rfl) pa_nil)))))))), ?_⟩
    exact s_ret (ev_andV (ev_isi (ev_var rfl) (ht H (Ex.refl H)) k1 ht) fun _ => ev_notV (ev_isi (ev_var rfl) (ht H (Ex.refl H)) k2 ht)) k
def spHas : Sp := fun vs H Q _ => ∃ (b x : Nat), vs = [.int (b : Int), .int (x : Int)] ∧ RetV (.bl (b.testBit x)) H Q
theorem has_eq (b x : Nat) : decide (V.int (Builtin.bitAnd ((b : Int) / 2 ^ (x : Int).toNat) 1) = V.int 1) = b.testBit x := by
  have e : Builtin.bitAnd ((b : Int) / 2 ^ (x : Int).toNat) 1 = ((b / 2 ^ x % 2 : Nat) : Int) := by
    have h := Bits.bitAnd_mask (x := (b : Int) / 2 ^ (x : Int).toNat) 1 (by
      apply Int.ediv_nonneg
      · exact Int.natCast_nonneg _
      · exact two_pow_nn _)
    rw [show (2 : Int) ^ 1 - 1 = 1 from rfl] at h
    rw [h]
    simp
  rw [e, dec_int, Nat.testBit_eq_decide_div_mod_eq]
  by_cases h : b / 2 ^ x % 2 = 1
  · simp [h]
  · simp only [h, decide_false]
    rw [beq_eq_false_iff_ne]
    exact fun e => h (by exact_mod_cast e)
theorem sc_has : FnScope ["bits", "x"] ["bits", "x"] (defScope s_has) := ⟨rfl, rfl, rfl, by decide +kernel, rfl, by decide +kernel, by decide +kernel⟩
theorem ok_has (T : Tx K mg) : FnOk P w K mg base CX0 1 T.a_has T.d_has ["bits", "x"] spHas := by
  refine T.p_has.F.ok sc_has (fun vs H Q E h => ?_) (fun cdv A outer s H vs Q E hr h => ?_)
  · obtain ⟨b, x, rfl, _⟩ := h
    rfl
  · obtain ⟨b, x, rfl, k⟩ := h
    refine ⟨_, (pss_one (ps_ret (pe_cmpR op_eq (pe_op op_and (pe_op op_shr (pv 0) (pv 1)) pe_int) pe_int (nomark _)))), ?_⟩
    refine s_ret (v := .bl (b.testBit x)) ?_ k
    rw [← has_eq]
    wtm_at "k49ev"
end
end K49
namespace K49
open PySem L2 Evl
/-! ### ints as bits -/
theorem bAnd (a b : Nat) : Builtin.bitAnd (a : Int) (b : Int) = ((a &&& b : Nat) : Int) := by
  rw [PyProof.Rows.bitAnd_pp (Int.natCast_nonneg _) (Int.natCast_nonneg _), Int.toNat_natCast, Int.toNat_natCast]
theorem bOr (a b : Nat) : Builtin.bitOr (a : Int) (b : Int) = ((a ||| b : Nat) : Int) := by
  rw [bitOr_nn (Int.natCast_nonneg _) (Int.natCast_nonneg _), Int.toNat_natCast, Int.toNat_natCast]
theorem shl1 (k : Nat) : (1 : Int) * 2 ^ (k : Int).toNat = ((2 ^ k : Nat) : Int) := by
  rw [Int.one_mul, Int.toNat_natCast]; simp
/-! ### lists told by a function -/
def fnl (m : Nat) (f : Nat → V) : List V := (List.range m).map f
theorem fnl_len {m : Nat} {f : Nat → V} : (fnl m f).length = m := by unfold fnl; rw [List.length_map, List.length_range]
theorem fnl_get {m : Nat} {f : Nat → V} {x : Nat} (h : x < m) : (fnl m f)[x]? = some (f x) := by
  unfold fnl
  rw [List.getElem?_map, List.getElem?_range h]
  rfl
theorem fnl_of {m : Nat} {f : Nat → V} {x : Nat} {v : V} (h : (fnl m f)[x]? = some v) : x < m ∧ v = f x := by
  have hx : x < m := by
    have := (List.getElem?_eq_some_iff.mp h).1
    rwa [fnl_len] at this
  rw [fnl_get hx] at h
  exact ⟨hx, (Option.some.inj h).symm⟩
theorem fnl_succ {m : Nat} {f : Nat → V} : fnl (m + 1) f = fnl m f ++ [f m] := by
  unfold fnl; rw [List.range_succ, List.map_append]; rfl
theorem fnl_congr {m : Nat} {f g : Nat → V} (h : ∀ x, x < m → f x = g x) : fnl m f = fnl m g := by
  unfold fnl
  exact List.map_congr_left fun x hx => h x (List.mem_range.mp hx)
theorem fnl_set {m x : Nat} {f : Nat → V} {v : V} (hx : x < m) : (fnl m f).set x v = fnl m fun i => if i = x then v else f i := by
  apply List.ext_getElem?
  intro i
  by_cases hi : i < m
  · rw [fnl_get hi]
    by_cases e : x = i
    · subst e
      rw [List.getElem?_set_self (by rw [fnl_len]; exact hx), if_pos rfl]
    · rw [List.getElem?_set_ne e, fnl_get hi, if_neg (fun q => e q.symm)]
  · rw [List.getElem?_eq_none (by rw [List.length_set, fnl_len]; omega), List.getElem?_eq_none (by rw [fnl_len]; omega)]
theorem given_all {m : Nat} {v : Nat → V} : given m (fun _ => true) v = fnl m v := by
  unfold given fnl
  rw [List.filter_eq_self.mpr (fun _ _ => rfl)]
theorem given_congr {m : Nat} {f g : Nat → Bool} {v : Nat → V} (h : ∀ k, k < m → f k = g k) : given m f v = given m g v := by
  unfold given
  rw [List.filter_congr fun k hk => h k (List.mem_range.mp hk)]
def iv (n : Nat) : V := .int (n : Int)
/-! ### tables -/
structure TabT (H : Hp) (a : Addr) (m : Nat) (T : Nat → Nat → Nat) (r : Nat → Addr) : Prop where
  top : H a = some (.tup (fnl m fun x => .ref (r x)))
  row : ∀ x, x < m → H (r x) = some (.tup (fnl m fun y => .int (T x y : Nat)))
structure TabL (H : Hp) (a : Addr) (m : Nat) (T : Nat → Nat → Nat) (r : Nat → Addr) : Prop where
  top : H a = some (.lst (fnl m fun x => .ref (r x)))
  row : ∀ x, x < m → H (r x) = some (.lst (fnl m fun y => .int (T x y : Nat)))
theorem TabT.ex {H H' : Hp} {a m T r} (h : TabT H a m T r) (e : Ex H H') : TabT H' a m T r := ⟨e _ _ h.top, fun x hx => e _ _ (h.row x hx)⟩
theorem TabL.ex {H H' : Hp} {a m T r} (h : TabL H a m T r) (e : Ex H H') : TabL H' a m T r := ⟨e _ _ h.top, fun x hx => e _ _ (h.row x hx)⟩
/-! ### the lattice object -/
def abv (m : Nat) (M : Nat → Nat → Nat) (x : Nat) : Nat := msk (fun y => lt M x y) m
structure LtD where
  p : Addr
  m : Nat
  J : Nat → Nat → Nat
  M : Nat → Nat → Nat
  dx : Addr
  aA : Addr
  aJ : Addr
  aM : Addr
  rJ : Nat → Addr
  rM : Nat → Addr
def lfs (a j k : Addr) : List (Str × V) := putF "meets" (.ref k) (putF "joins" (.ref j) (putF "above" (.ref a) []))
theorem n_mj : ¬ (("meets" : Str) = "joins") := by decide +kernel
theorem n_ma : ¬ (("meets" : Str) = "above") := by decide +kernel
theorem n_ja : ¬ (("joins" : Str) = "above") := by decide +kernel
theorem lfs_above (a j k : Addr) : (lfs a j k).lookup ("above" : Str) = some (.ref a) := by
  unfold lfs
  rw [lookup_putF, if_neg (fun e => n_ma e.symm), lookup_putF, if_neg (fun e => n_ja e.symm), lookup_putF, if_pos rfl]
theorem lfs_joins (a j k : Addr) : (lfs a j k).lookup ("joins" : Str) = some (.ref j) := by
  unfold lfs
  rw [lookup_putF, if_neg (fun e => n_mj e.symm), lookup_putF, if_pos rfl]
theorem lfs_meets (a j k : Addr) : (lfs a j k).lookup ("meets" : Str) = some (.ref k) := by
  unfold lfs
  rw [lookup_putF, if_pos rfl]
theorem lfs_no (a j k : Addr) {x : Str} (h1 : ¬ x = "meets") (h2 : ¬ x = "joins") (h3 : ¬ x = "above") : (lfs a j k).lookup x = none := by
  unfold lfs
  rw [lookup_putF, if_neg h1, lookup_putF, if_neg h2, lookup_putF, if_neg h3]
  rfl
structure LatAt (C : Addr) (H : Hp) (d : LtD) : Prop where
  ob : H d.p = some (.ins C d.dx (lfs d.aA d.aJ d.aM))
  ab : H d.aA = some (.tup (fnl d.m fun x => .int (abv d.m d.M x : Nat)))
  tJ : TabT H d.aJ d.m d.J d.rJ
  tM : TabT H d.aM d.m d.M d.rM
  L : Lat d.m d.J d.M
theorem LatAt.ex {C : Addr} {H H' : Hp} {d : LtD} (h : LatAt C H d) (e : Ex H H') : LatAt C H' d := ⟨e _ _ h.ob, e _ _ h.ab, h.tJ.ex e, h.tM.ex e, h.L⟩
/-! ### reading them -/
section
variable {K : PySem.W.Frag} {σ : L2.St} {H H' H0 : Hp} {ta tb te tx : TE} {t u : TT} {x y z v : V} {r : R2}
theorem rv_and {a b : Nat} : RV (rI0 fun i j => .int (Builtin.bitAnd i j)) (.int (a : Int)) (.int (b : Int)) H (.int ((a &&& b : Nat) : Int)) := by
  rw [← bAnd]; exact rv_I0
theorem rv_or {a b : Nat} : RV (rI0 fun i j => .int (Builtin.bitOr i j)) (.int (a : Int)) (.int (b : Int)) H (.int ((a ||| b : Nat) : Int)) := by
  rw [← bOr]; exact rv_I0
theorem rv_shl1 {k : Nat} (h : k ≤ 1000000) : RV (rI CPow fun i j => .int (i * 2 ^ j.toNat)) (.int 1) (.int (k : Int)) H (.int ((2 ^ k : Nat) : Int)) := by
  rw [← shl1]; exact rv_I (C := CPow) (g := fun i j => .int (i * 2 ^ j.toNat)) ⟨by omega, by omega, by decide⟩
theorem rv_fL {a : Addr} {m k : Nat} {f : Nat → V} (h : H a = some (.lst (fnl m f))) (hk : k < m) : RV (rIxL K) (.ref a) (.int (k : Int)) H (f k) := rv_ixL (sq_of h) (atI_nat (fnl_get hk))
theorem rv_fT {a : Addr} {m k : Nat} {f : Nat → V} (h : H a = some (.tup (fnl m f))) (hk : k < m) : RV (rIxT K) (.ref a) (.int (k : Int)) H (f k) := rv_ixT (st_of h) (atI_nat (fnl_get hk))
theorem rv_fL' {a : Addr} {m k : Nat} {f : Nat → V} {z : V} (h : H a = some (.lst (fnl m f))) (hk : k < m) (e : f k = z) : RV (rIxL K) (.ref a) (.int (k : Int)) H z := e ▸ rv_fL h hk
theorem rv_fT' {a : Addr} {m k : Nat} {f : Nat → V} {z : V} (h : H a = some (.tup (fnl m f))) (hk : k < m) (e : f k = z) : RV (rIxT K) (.ref a) (.int (k : Int)) H z := e ▸ rv_fT h hk
theorem rv_T1 {a : Addr} {m k : Nat} {T : Nat → Nat → Nat} {rr : Nat → Addr} (h : TabT H a m T rr) (hk : k < m) : RV (rIxT K) (.ref a) (.int (k : Int)) H (.ref (rr k)) := rv_fT h.top hk
theorem rv_T2 {a : Addr} {m k l : Nat} {T : Nat → Nat → Nat} {rr : Nat → Addr} (h : TabT H a m T rr) (hk : k < m) (hl : l < m) : RV (rIxT K) (.ref (rr k)) (.int (l : Int)) H (.int (T k l : Nat)) := rv_fT (f := fun y => .int (T k y : Nat)) (h.row k hk) hl
theorem rv_L1 {a : Addr} {m k : Nat} {T : Nat → Nat → Nat} {rr : Nat → Addr} (h : TabL H a m T rr) (hk : k < m) : RV (rIxL K) (.ref a) (.int (k : Int)) H (.ref (rr k)) := rv_fL h.top hk
theorem rv_L2 {a : Addr} {m k l : Nat} {T : Nat → Nat → Nat} {rr : Nat → Addr} (h : TabL H a m T rr) (hk : k < m) (hl : l < m) : RV (rIxL K) (.ref (rr k)) (.int (l : Int)) H (.int (T k l : Nat)) := rv_fL (f := fun y => .int (T k y : Nat)) (h.row k hk) hl
theorem ev_lenfT {p : Addr} {m : Nat} {f : Nat → V} (ha : Ev ta σ H (.ref p)) (h : H p = some (.tup (fnl m f))) : Ev (tCB (rLenS K) (tCons ta tNil)) σ H (.int (m : Nat)) := by
  have q := ev_lenT (K := K) ha (st_of h)
  rw [fnl_len] at q
  exact q
theorem ev_lenfL {p : Addr} {m : Nat} {f : Nat → V} (ha : Ev ta σ H (.ref p)) (h : H p = some (.lst (fnl m f))) : Ev (tCB (rLenS K) (tCons ta tNil)) σ H (.int (m : Nat)) := by
  have q := ev_len (K := K) ha (sq_of h)
  rw [fnl_len] at q
  exact q
theorem ev_above {C : Addr} {d : LtD} (h : Ev ta σ H (.ref d.p)) (hL : LatAt C H d) (hc : Cls K C) (hn : NoAttr K C "above") : Ev (tFld K ta "above") σ H (.ref d.aA) := ev_fld h hL.ob hc hn (lfs_above _ _ _)
theorem ev_joins {C : Addr} {d : LtD} (h : Ev ta σ H (.ref d.p)) (hL : LatAt C H d) (hc : Cls K C) (hn : NoAttr K C "joins") : Ev (tFld K ta "joins") σ H (.ref d.aJ) := ev_fld h hL.ob hc hn (lfs_joins _ _ _)
theorem ev_meets {C : Addr} {d : LtD} (h : Ev ta σ H (.ref d.p)) (hL : LatAt C H d) (hc : Cls K C) (hn : NoAttr K C "meets") : Ev (tFld K ta "meets") σ H (.ref d.aM) := ev_fld h hL.ob hc hn (lfs_meets _ _ _)
/-! ### statements over a base H0 -/
variable {D : Ends} {tu tw tz : TS} {g : TG}
theorem b_ret (e : Ex H0 H) (h : Ev te σ H0 v) (k : ∀ H1, Ex H H1 → Ex H0 H1 → D.rt v H1) : tRet te D σ H := h H e _ fun H1 e1 => k H1 e1 (e.trans e1)
theorem b_retL {xs : List V} (e : Ex H0 H) (h : EvL te σ H0 xs) (k : ∀ p H1, H p = none → Ex H H1 → Ex H0 H1 → H1 p = some (.lst xs) → D.rt (.ref p) H1) : tRet te D σ H := h H e _ fun p H1 hp e1 h1 => k p H1 hp e1 (e.trans e1) h1
theorem b_retU {xs : List V} (e : Ex H0 H) (h : EvU te σ H0 xs) (k : ∀ p H1, H p = none → Ex H H1 → Ex H0 H1 → H1 p = some (.tup xs) → D.rt (.ref p) H1) : tRet te D σ H := h H e _ fun p H1 hp e1 h1 => k p H1 hp e1 (e.trans e1) h1
theorem b_asg {i : Nat} (e : Ex H0 H) (h : Ev te σ H0 v) (k : ∀ H1, Ex H H1 → Ex H0 H1 → D.nx (σ.set i (some v)) H1) : tAsg te (gName i) D σ H := h H e _ fun H1 e1 => k H1 e1 (e.trans e1)
theorem c_asg {i : Nat} (e : Ex H0 H) (h : Ev te σ H0 v) (k : ∀ H1, Ex H H1 → Ex H0 H1 → tz D (σ.set i (some v)) H1) : tSeq (tAsg te (gName i)) tz D σ H := b_asg (D := { D with nx := tz D }) e h k
theorem b_asgL {i : Nat} {xs : List V} (e : Ex H0 H) (h : EvL te σ H0 xs) (k : ∀ p H1, H p = none → Ex H H1 → Ex H0 H1 → H1 p = some (.lst xs) → D.nx (σ.set i (some (.ref p))) H1) : tAsg te (gName i) D σ H := h H e _ fun p H1 hp e1 h1 => k p H1 hp e1 (e.trans e1) h1
theorem c_asgL {i : Nat} {xs : List V} (e : Ex H0 H) (h : EvL te σ H0 xs) (k : ∀ p H1, H p = none → Ex H H1 → Ex H0 H1 → H1 p = some (.lst xs) → tz D (σ.set i (some (.ref p))) H1) : tSeq (tAsg te (gName i)) tz D σ H := b_asgL (D := { D with nx := tz D }) e h k
theorem b_asgU {i : Nat} {xs : List V} (e : Ex H0 H) (h : EvU te σ H0 xs) (k : ∀ p H1, H p = none → Ex H H1 → Ex H0 H1 → H1 p = some (.tup xs) → D.nx (σ.set i (some (.ref p))) H1) : tAsg te (gName i) D σ H := h H e _ fun p H1 hp e1 h1 => k p H1 hp e1 (e.trans e1) h1
theorem c_asgU {i : Nat} {xs : List V} (e : Ex H0 H) (h : EvU te σ H0 xs) (k : ∀ p H1, H p = none → Ex H H1 → Ex H0 H1 → H1 p = some (.tup xs) → tz D (σ.set i (some (.ref p))) H1) : tSeq (tAsg te (gName i)) tz D σ H := b_asgU (D := { D with nx := tz D }) e h k
theorem b_if {b : Bool} (e : Ex H0 H) (h : EvT t σ H0 b) (h1 : b = true → ∀ H1, Ex H H1 → Ex H0 H1 → tu D σ H1) (h2 : b = false → ∀ H1, Ex H H1 → Ex H0 H1 → tw D σ H1) : tIfS t tu tw D σ H := h H e _ fun H1 e1 => by
  cases b with
  | true =>
    show tu D σ H1
    exact h1 rfl H1 e1 (e.trans e1)
  | false =>
    show tw D σ H1
    exact h2 rfl H1 e1 (e.trans e1)
theorem c_if {b : Bool} (e : Ex H0 H) (h : EvT t σ H0 b) (h1 : b = true → ∀ H1, Ex H H1 → Ex H0 H1 → tu { D with nx := tz D } σ H1) (h2 : b = false → ∀ H1, Ex H H1 → Ex H0 H1 → tw { D with nx := tz D } σ H1) : tSeq (tIfS t tu tw) tz D σ H := b_if (D := { D with nx := tz D }) e h h1 h2
/-- if that is not taken, without else -/
theorem c_not (e : Ex H0 H) (h : EvT t σ H0 false) (k : ∀ H1, Ex H H1 → Ex H0 H1 → tz D σ H1) : tSeq (tIfS t tu tNext) tz D σ H := b_if (D := { D with nx := tz D }) e h (fun q => nomatch q) fun _ => k
theorem b_not (e : Ex H0 H) (h : EvT t σ H0 false) (k : ∀ H1, Ex H H1 → Ex H0 H1 → D.nx σ H1) : tIfS t tu tNext D σ H := b_if e h (fun q => nomatch q) fun _ => k
theorem b_forR {ta : TA} {j n : Nat} (e : Ex H0 H) (h : EvA ta σ H0 [.int (n : Nat)]) (hn : n ≤ 100000) (Pv : Nat → L2.St → Hp → Prop) (h0 : ∀ H1, Ex H H1 → Ex H0 H1 → Pv 0 σ H1)
    (hs : ∀ (i : Nat) σ' H', i < n → Pv i σ' H' → tu { D with nx := Pv (i + 1), ct := Pv (i + 1), bk := D.nx } (σ'.set j (some (.int (i : Int)))) H') (hd : ∀ σ' H', Pv n σ' H' → D.nx σ' H') : tFor (iRng1 ta) (gName j) tu D σ H :=
  h H e _ fun H1 e1 => ⟨n, rfl, by omega, by omega, for_range (lo := 0) (n := (n : Int).toNat) Pv (h0 H1 e1 (e.trans e1)) (fun i σ' H' hi p => by
    have e0 : (0 : Int) + (i : Int) = (i : Int) := Int.zero_add _
    show tu { D with nx := Pv (i + 1), ct := Pv (i + 1), bk := D.nx } (σ'.set j (some (.int ((0 : Int) + (i : Int))))) H'
    rw [e0]
    exact hs i σ' H' (by omega) p) (by rw [Int.toNat_natCast]; exact hd)⟩
theorem c_forR {ta : TA} {j n : Nat} (e : Ex H0 H) (h : EvA ta σ H0 [.int (n : Nat)]) (hn : n ≤ 100000) (Pv : Nat → L2.St → Hp → Prop) (h0 : ∀ H1, Ex H H1 → Ex H0 H1 → Pv 0 σ H1)
    (hs : ∀ (i : Nat) σ' H', i < n → Pv i σ' H' → tu { D with nx := Pv (i + 1), ct := Pv (i + 1), bk := tz D } (σ'.set j (some (.int (i : Int)))) H') (hd : ∀ σ' H', Pv n σ' H' → tz D σ' H') : tSeq (tFor (iRng1 ta) (gName j) tu) tz D σ H :=
  b_forR (D := { D with nx := tz D }) e h hn Pv h0 hs hd
theorem b_forL {a : Addr} {xs : List V} {tl : TE} (e : Ex H0 H) (h : Ev tl σ H0 (.ref a)) (hx : SqL K H0 a xs) (Pv : Nat → L2.St → Hp → Prop) (h0 : ∀ H1, Ex H H1 → Ex H0 H1 → Pv 0 σ H1) (hl : ∀ i σ' H', i ≤ xs.length → Pv i σ' H' → SqL K H' a xs)
    (hs : ∀ i x σ' H', xs[i]? = some x → Pv i σ' H' → g x σ' H' fun σ2 H2 => tu { D with nx := Pv (i + 1), ct := Pv (i + 1), bk := D.nx } σ2 H2) (hd : ∀ σ' H', Pv xs.length σ' H' → D.nx σ' H') : tFor (iList K tl) g tu D σ H :=
  h H e _ fun H1 e1 => ⟨a, rfl, ⟨xs, ex_l (e.trans e1) hx⟩, for_list Pv (h0 H1 e1 (e.trans e1)) hl hs hd⟩
theorem c_forL {a : Addr} {xs : List V} {tl : TE} (e : Ex H0 H) (h : Ev tl σ H0 (.ref a)) (hx : SqL K H0 a xs) (Pv : Nat → L2.St → Hp → Prop) (h0 : ∀ H1, Ex H H1 → Ex H0 H1 → Pv 0 σ H1) (hl : ∀ i σ' H', i ≤ xs.length → Pv i σ' H' → SqL K H' a xs)
    (hs : ∀ i x σ' H', xs[i]? = some x → Pv i σ' H' → g x σ' H' fun σ2 H2 => tu { D with nx := Pv (i + 1), ct := Pv (i + 1), bk := tz D } σ2 H2) (hd : ∀ σ' H', Pv xs.length σ' H' → tz D σ' H') : tSeq (tFor (iList K tl) g tu) tz D σ H :=
  b_forL (D := { D with nx := tz D }) e h hx Pv h0 hl hs hd
theorem b_forT {a : Addr} {xs : List V} {tl : TE} (e : Ex H0 H) (h : Ev tl σ H0 (.ref a)) (hx : SqT K H0 a xs) (Pv : Nat → L2.St → Hp → Prop) (h0 : ∀ H1, Ex H H1 → Ex H0 H1 → Pv 0 σ H1) (hl : ∀ i σ' H', i ≤ xs.length → Pv i σ' H' → SqT K H' a xs)
    (hs : ∀ i x σ' H', xs[i]? = some x → Pv i σ' H' → g x σ' H' fun σ2 H2 => tu { D with nx := Pv (i + 1), ct := Pv (i + 1), bk := D.nx } σ2 H2) (hd : ∀ σ' H', Pv xs.length σ' H' → D.nx σ' H') : tFor (iTup K tl) g tu D σ H :=
  h H e _ fun H1 e1 => ⟨a, rfl, ⟨xs, ex_t (e.trans e1) hx⟩, for_tup Pv (h0 H1 e1 (e.trans e1)) hl hs hd⟩
theorem c_forT {a : Addr} {xs : List V} {tl : TE} (e : Ex H0 H) (h : Ev tl σ H0 (.ref a)) (hx : SqT K H0 a xs) (Pv : Nat → L2.St → Hp → Prop) (h0 : ∀ H1, Ex H H1 → Ex H0 H1 → Pv 0 σ H1) (hl : ∀ i σ' H', i ≤ xs.length → Pv i σ' H' → SqT K H' a xs)
    (hs : ∀ i x σ' H', xs[i]? = some x → Pv i σ' H' → g x σ' H' fun σ2 H2 => tu { D with nx := Pv (i + 1), ct := Pv (i + 1), bk := tz D } σ2 H2) (hd : ∀ σ' H', Pv xs.length σ' H' → tz D σ' H') : tSeq (tFor (iTup K tl) g tu) tz D σ H :=
  b_forT (D := { D with nx := tz D }) e h hx Pv h0 hl hs hd
theorem c_forNL {xs : List V} {tl : TE} (e : Ex H0 H) (h : EvL tl σ H0 xs) (Pv : Addr → Nat → L2.St → Hp → Prop) (h0 : ∀ p H1, H p = none → Ex H H1 → Ex H0 H1 → H1 p = some (.lst xs) → Pv p 0 σ H1) (hl : ∀ p i σ' H', i ≤ xs.length → Pv p i σ' H' → SqL K H' p xs)
    (hs : ∀ p i x σ' H', xs[i]? = some x → Pv p i σ' H' → g x σ' H' fun σ2 H2 => tu { D with nx := Pv p (i + 1), ct := Pv p (i + 1), bk := tz D } σ2 H2) (hd : ∀ p σ' H', Pv p xs.length σ' H' → tz D σ' H') : tSeq (tFor (iList K tl) g tu) tz D σ H :=
  h H e _ fun p H1 hp e1 h1 => ⟨p, rfl, ⟨xs, sq_of h1⟩, for_list (D := { D with nx := tz D }) (Pv p) (h0 p H1 hp e1 (e.trans e1) h1) (hl p) (hs p) (hd p)⟩
theorem b_forNL {xs : List V} {tl : TE} (e : Ex H0 H) (h : EvL tl σ H0 xs) (Pv : Addr → Nat → L2.St → Hp → Prop) (h0 : ∀ p H1, H p = none → Ex H H1 → Ex H0 H1 → H1 p = some (.lst xs) → Pv p 0 σ H1) (hl : ∀ p i σ' H', i ≤ xs.length → Pv p i σ' H' → SqL K H' p xs)
    (hs : ∀ p i x σ' H', xs[i]? = some x → Pv p i σ' H' → g x σ' H' fun σ2 H2 => tu { D with nx := Pv p (i + 1), ct := Pv p (i + 1), bk := D.nx } σ2 H2) (hd : ∀ p σ' H', Pv p xs.length σ' H' → D.nx σ' H') : tFor (iList K tl) g tu D σ H :=
  h H e _ fun p H1 hp e1 h1 => ⟨p, rfl, ⟨xs, sq_of h1⟩, for_list (Pv p) (h0 p H1 hp e1 (e.trans e1) h1) (hl p) (hs p) (hd p)⟩
/-- for x in a call that hands back a tuple -/
theorem c_forU {xs : List V} {tl : TE} (e : Ex H0 H) (h : EvU tl σ H0 xs) (Pv : Addr → Nat → L2.St → Hp → Prop) (h0 : ∀ p H1, H p = none → Ex H H1 → Ex H0 H1 → H1 p = some (.tup xs) → Pv p 0 σ H1) (hl : ∀ p i σ' H', i ≤ xs.length → Pv p i σ' H' → SqT K H' p xs)
    (hs : ∀ p i x σ' H', xs[i]? = some x → Pv p i σ' H' → g x σ' H' fun σ2 H2 => tu { D with nx := Pv p (i + 1), ct := Pv p (i + 1), bk := tz D } σ2 H2) (hd : ∀ p σ' H', Pv p xs.length σ' H' → tz D σ' H') : tSeq (tFor (iTup K tl) g tu) tz D σ H :=
  h H e _ fun p H1 hp e1 h1 => ⟨p, rfl, ⟨xs, st_of h1⟩, for_tup (D := { D with nx := tz D }) (Pv p) (h0 p H1 hp e1 (e.trans e1) h1) (hl p) (hs p) (hd p)⟩
def SpU (sp : Sp) (vs : List V) (H : Hp) (xs : List V) : Prop := ∀ H1, Ex H H1 → ∀ Q : VK, (∀ p H2, H1 p = none → Ex H1 H2 → H2 p = some (.tup xs) → Q (.ref p) H2) → ∀ E : XK, sp vs H1 Q E
theorem eu_call0 {sp : Sp} {vs xs : List V} {E : XK} {ta : TA} (h : EvA ta σ H vs) (hs : SpU sp vs H xs) : EvU (tCall sp [] E ta) σ H xs := fun H1 e Q q =>
  h H1 e _ fun H2 e2 => by
    rw [List.append_nil]
    exact hs H2 (e.trans e2) Q (fun p H3 hp e3 h3 => q p H3 (fresh_back e2 hp) (e2.trans e3) h3) E
theorem eu_meth0 {C : Addr} {m : Str} {sp : Sp} {E : XK} {ta : TE} {t : TA} {a dx : Addr} {fs : List (Str × V)} {vs xs : List V} (ha : Ev ta σ H (.ref a)) (ho : H a = some (.ins C dx fs)) (hl : fs.lookup m = none) (h : EvA t σ H vs) (hs : SpU sp (.ref a :: vs) H xs) :
    EvU (tMeth C m sp [] E ta t) σ H xs := fun H1 e Q q => ha H1 e _ fun H2 e2 => ⟨a, dx, fs, rfl, (e.trans e2) a _ ho, hl, h H2 (e.trans e2) _ fun H3 e3 => by
      rw [List.append_nil]
      exact hs H3 ((e.trans e2).trans e3) Q (fun p H4 hp e4 h4 => q p H4 (fresh_back (e2.trans e3) hp) ((e2.trans e3).trans e4) h4) E⟩
/-- the promises' third shape: a tuple made -/
def RetU (xs : List V) (H : Hp) (Q : VK) : Prop := ∀ p H2, H p = none → Ex H H2 → H2 p = some (.tup xs) → Q (.ref p) H2
theorem tab_congrT {a : Addr} {m : Nat} {f g : Nat → V} (h : H a = some (.tup (fnl m f))) (e : ∀ x, x < m → f x = g x) : H a = some (.tup (fnl m g)) := by rw [h, fnl_congr e]
theorem tab_congrL {a : Addr} {m : Nat} {f g : Nat → V} (h : H a = some (.lst (fnl m f))) (e : ∀ x, x < m → f x = g x) : H a = some (.lst (fnl m g)) := by rw [h, fnl_congr e]
end
end K49
namespace K49
open PySem L2 Evl
/-! ### the evaluator -/
local macro_rules | `(tactic| wtm_at "k49sd") => `(tactic| first
  | (with_reducible assumption)
  | decide
  | omega
  | ((with_reducible refine' Lat.ml ?k0 _ _ ?k1 ?k2); (case k0 => (with_reducible assumption)); (case k1 => wtm_at "k49sd"); (case k2 => wtm_at "k49sd"))
  | ((with_reducible refine' Lat.jl ?k0 _ _ ?k1 ?k2); (case k0 => (with_reducible assumption)); (case k1 => wtm_at "k49sd"); (case k2 => wtm_at "k49sd")))
local macro_rules | `(tactic| wtm_at "k49rv") => `(tactic| first
  | (with_reducible exact rv_and)
  | (with_reducible exact rv_or)
  | ((with_reducible refine' rv_shl1 ?k1); (case k1 => wtm_at "k49sd"))
  | (with_reducible exact rv_I0)
  | ((with_reducible refine' rv_T2 ?k1 ?k2 ?k3); (case k1 => (with_reducible assumption)); (case k2 => wtm_at "k49sd"); (case k3 => wtm_at "k49sd"))
  | ((with_reducible refine' rv_T1 ?k1 ?k2); (case k1 => (with_reducible assumption)); (case k2 => wtm_at "k49sd"))
  | ((with_reducible refine' rv_L2 ?k1 ?k2 ?k3); (case k1 => (with_reducible assumption)); (case k2 => wtm_at "k49sd"); (case k3 => wtm_at "k49sd"))
  | ((with_reducible refine' rv_L1 ?k1 ?k2); (case k1 => (with_reducible assumption)); (case k2 => wtm_at "k49sd"))
  | ((with_reducible refine' rv_fT' ?k1 ?k2 ?k3); (case k1 => (with_reducible assumption)); (case k2 => wtm_at "k49sd"); (case k3 => exact rfl))
  | ((with_reducible refine' rv_fL' ?k1 ?k2 ?k3); (case k1 => (with_reducible assumption)); (case k2 => wtm_at "k49sd"); (case k3 => exact rfl))
  | ((with_reducible refine' rv_mod ?k1); (case k1 => wtm_at "k49sd"))
  | ((with_reducible refine' rv_shr ?k1); (case k1 => wtm_at "k49sd"))
  | ((with_reducible refine' rv_I (C := CMul) ?k1); (case k1 => (first | exact Or.inr ⟨by decide, by decide⟩ | exact Or.inl ⟨by decide, by decide⟩ | exact Or.inl ⟨by omega, by omega⟩ | exact Or.inr ⟨by omega, by omega⟩)))
  | ((with_reducible refine' rv_I (C := CDiv) ?k1); (case k1 => (first | exact ⟨by decide, by decide⟩ | exact ⟨by omega, by omega⟩)))
  | ((with_reducible refine' rv_I (C := CPow) ?k1); (case k1 => (first | exact ⟨by omega, by omega, by decide⟩ | exact ⟨by omega, by omega, by omega⟩)))
  | ((with_reducible refine' rv_eq ?k1); (case k1 => rfl))
  | ((with_reducible refine' rv_ne ?k1); (case k1 => rfl))
  | (with_reducible exact rv_isN) | (with_reducible exact rv_notN) | (with_reducible exact rv_isB) | (with_reducible exact rv_notB)
  | (with_reducible assumption))
local macro_rules | `(tactic| wtm_at "k49ev") => `(tactic| first
  | (with_reducible exact ev_c)
  | (exact ev_var rfl)
  | ((with_reducible refine' ev_op ?k1 ?k2 ?k3); (case k1 => wtm_at "k49ev"); (case k2 => wtm_at "k49ev"); (case k3 => wtm_at "k49rv"))
  | ((with_reducible refine' ev_un ?k1 ru_neg); (case k1 => wtm_at "k49ev"))
  | ((with_reducible refine' ev_int1 ?k1); (case k1 => wtm_at "k49ev"))
  | ((with_reducible refine' ev_abs ?k1); (case k1 => wtm_at "k49ev"))
  | ((with_reducible refine' ev_above ?k1 ?k2 ?k3 ?k4); (case k1 => wtm_at "k49ev"); (case k2 => (with_reducible assumption)); (case k3 => exact Tx.cl ‹_›); (case k4 => exact Tx.n_above ‹_›))
  | ((with_reducible refine' ev_joins ?k1 ?k2 ?k3 ?k4); (case k1 => wtm_at "k49ev"); (case k2 => (with_reducible assumption)); (case k3 => exact Tx.cl ‹_›); (case k4 => exact Tx.n_joins ‹_›))
  | ((with_reducible refine' ev_meets ?k1 ?k2 ?k3 ?k4); (case k1 => wtm_at "k49ev"); (case k2 => (with_reducible assumption)); (case k3 => exact Tx.cl ‹_›); (case k4 => exact Tx.n_meets ‹_›))
  | ((with_reducible refine' ev_lenfT ?k1 ?k2); (case k1 => wtm_at "k49ev"); (case k2 => (with_reducible assumption)))
  | ((with_reducible refine' ev_lenfL ?k1 ?k2); (case k1 => wtm_at "k49ev"); (case k2 => (with_reducible assumption)))
  | ((with_reducible refine' ev_lenT ?k1 ?k2); (case k1 => wtm_at "k49ev"); (case k2 => wtm_at "k49sq"))
  | ((with_reducible refine' ev_len ?k1 ?k2); (case k1 => wtm_at "k49ev"); (case k2 => wtm_at "k49sq"))
  | ((with_reducible refine' ev_call0 ?k1 ?k2); (case k1 => wtm_at "k49ea"); (case k2 => wtm_at "k49sp"))
  | ((with_reducible refine' ev_notV ?k1); (case k1 => wtm_at "k49ev"))
  | ((with_reducible refine' ev_andV ?k1 ?k2); (case k1 => wtm_at "k49ev"); (case k2 => (intro _; wtm_at "k49ev")))
  | ((with_reducible refine' ev_orV ?k1 ?k2); (case k1 => wtm_at "k49ev"); (case k2 => (intro _; wtm_at "k49ev"))))
local macro_rules | `(tactic| wtm_at "k49ea") => `(tactic| first
  | (with_reducible exact ea_nil)
  | ((with_reducible refine' ea_cons ?k1 ?k2); (case k1 => wtm_at "k49ev"); (case k2 => wtm_at "k49ea")))
local macro_rules | `(tactic| wtm_at "k49sq") => `(tactic| first
  | (with_reducible assumption)
  | (refine' sq_of ?k1; (case k1 => (with_reducible assumption)))
  | (refine' st_of ?k1; (case k1 => (with_reducible assumption))))
local macro_rules | `(tactic| wtm_at "k49et") => `(tactic| first
  | ((with_reducible refine' et_test ?k1); (case k1 => wtm_at "k49ev"))
  | ((with_reducible refine' et_B ?k1); (case k1 => wtm_at "k49ev"))
  | ((with_reducible refine' et_and ?k1 ?k2); (case k1 => wtm_at "k49et"); (case k2 => (intro _; wtm_at "k49et")))
  | ((with_reducible refine' et_or ?k1 ?k2); (case k1 => wtm_at "k49et"); (case k2 => (intro _; wtm_at "k49et")))
  | ((with_reducible refine' et_not ?k1); (case k1 => wtm_at "k49et")))

section
variable {P : Program} {w : World} {K : PySem.W.Frag} {mg : Str → Option Value} {base : Heap}
/-! ### what is_integer, has give -/
theorem sv_int_int {H : Hp} {i : Int} : SpV (spIsInt K) [.int i] H (.bl true) := fun H1 e Q q E => ⟨.int i, "int", true, false, rfl, fun _ _ => .base (.int i), by decide +kernel, by decide +kernel, q⟩
theorem sv_int_bl {H : Hp} {i : Bool} : SpV (spIsInt K) [.bl i] H (.bl false) := fun H1 e Q q E => ⟨.bl i, "bool", true, true, rfl, fun _ _ => .base (.bl i), by decide +kernel, by decide +kernel, q⟩
theorem sv_int_non {H : Hp} : SpV (spIsInt K) [.non] H (.bl false) := fun H1 e Q q E => ⟨.non, "NoneType", false, false, rfl, fun _ _ => .base .non, by decide +kernel, by decide +kernel, q⟩
theorem sv_int_str {H : Hp} {z : Str} : SpV (spIsInt K) [.str z] H (.bl false) := fun H1 e Q q E => ⟨.str z, "str", false, false, rfl, fun _ _ => .base (.str z), by decide +kernel, by decide +kernel, q⟩
theorem sv_int_tup {H : Hp} {a : Addr} {xs : List V} (h : H a = some (.tup xs)) : SpV (spIsInt K) [.ref a] H (.bl false) := fun H1 e Q q E => ⟨.ref a, "tuple", false, false, rfl, fun _ e2 => .base (.tup ((e.trans e2) _ _ h)), by decide +kernel, by decide +kernel, q⟩
theorem sv_has {H : Hp} {b x : Nat} : SpV spHas [.int (b : Int), .int (x : Int)] H (.bl (b.testBit x)) := fun H1 e Q q E => ⟨b, x, rfl, q⟩
/-! ### len, joined, met -/
def spLen (C : Addr) : Sp := fun vs H Q _ => ∃ d : LtD, vs = [.ref d.p] ∧ LatAt C H d ∧ RetV (.int (d.m : Nat)) H Q
theorem sc_m_len : FnScope ["self"] ["self"] (defScope s_m_len) := ⟨rfl, rfl, rfl, by decide +kernel, rfl, by decide +kernel, by decide +kernel⟩
theorem ok_m_len (T : Tx K mg) : FnOk P w K mg base CX0 1 T.a_m_len T.d_m_len ["self"] (spLen T.C) := by
  refine T.p_m_len.F.ok sc_m_len (fun vs H Q E h => ?_) (fun cdv A outer s H vs Q E hr h => ?_)
  · obtain ⟨d, rfl, _⟩ := h
    rfl
  · obtain ⟨d, rfl, hL, k⟩ := h
    have hA := hL.ab
    refine ⟨_, (pss_one (ps_ret (pe_callB (glen (K := K) rfl) (by rfl) T.b_len (by decide +kernel) (pa_cons (gfld (K := K) rfl (pv 0) rfl) pa_nil)))), ?_⟩
    exact b_ret (Ex.refl H) (by wtm_at "k49ev") fun H1 e1 _ => k H1 e1
def spJoined (C : Addr) : Sp := fun vs H Q _ => ∃ (d : LtD) (x y : Nat), vs = [.ref d.p, .int (x : Int), .int (y : Int)] ∧ LatAt C H d ∧ x < d.m ∧ y < d.m ∧ RetV (.int (d.J x y : Nat)) H Q
theorem sc_m_joined : FnScope ["self", "x", "y"] ["self", "x", "y"] (defScope s_m_joined) := ⟨rfl, rfl, rfl, by decide +kernel, rfl, by decide +kernel, by decide +kernel⟩
theorem ok_m_joined (T : Tx K mg) : FnOk P w K mg base CX0 1 T.a_m_joined T.d_m_joined ["self", "x", "y"] (spJoined T.C) := by
  refine T.p_m_joined.F.ok sc_m_joined (fun vs H Q E h => ?_) (fun cdv A outer s H vs Q E hr h => ?_)
  · obtain ⟨d, x, y, rfl, _⟩ := h
    rfl
  · obtain ⟨d, x, y, rfl, hL, hx, hy, k⟩ := h
    have hJ := hL.tJ
    refine ⟨_, (pss_one (ps_ret (pe_ix (gixT (K := K) rfl) (pe_ix (gixT (K := K) rfl) (gfld (K := K) rfl (pv 0) rfl) (pv 1) (fun _ _ => rfl)) (pv 2) (fun _ _ => rfl)))), ?_⟩
    exact b_ret (Ex.refl H) (by wtm_at "k49ev") fun H1 e1 _ => k H1 e1
def spMet (C : Addr) : Sp := fun vs H Q _ => ∃ (d : LtD) (x y : Nat), vs = [.ref d.p, .int (x : Int), .int (y : Int)] ∧ LatAt C H d ∧ x < d.m ∧ y < d.m ∧ RetV (.int (d.M x y : Nat)) H Q
theorem sc_m_met : FnScope ["self", "x", "y"] ["self", "x", "y"] (defScope s_m_met) := ⟨rfl, rfl, rfl, by decide +kernel, rfl, by decide +kernel, by decide +kernel⟩
theorem ok_m_met (T : Tx K mg) : FnOk P w K mg base CX0 1 T.a_m_met T.d_m_met ["self", "x", "y"] (spMet T.C) := by
  refine T.p_m_met.F.ok sc_m_met (fun vs H Q E h => ?_) (fun cdv A outer s H vs Q E hr h => ?_)
  · obtain ⟨d, x, y, rfl, _⟩ := h
    rfl
  · obtain ⟨d, x, y, rfl, hL, hx, hy, k⟩ := h
    have hJ := hL.tM
    refine ⟨_, (pss_one (ps_ret (pe_ix (gixT (K := K) rfl) (pe_ix (gixT (K := K) rfl) (gfld (K := K) rfl (pv 0) rfl) (pv 1) (fun _ _ => rfl)) (pv 2) (fun _ _ => rfl)))), ?_⟩
    exact b_ret (Ex.refl H) (by wtm_at "k49ev") fun H1 e1 _ => k H1 e1
theorem ev_joined {C : Addr} {H : Hp} {σ : L2.St} {d : LtD} {x y : Nat} {ta tx ty : TE} {E : XK} (ha : Ev ta σ H (.ref d.p)) (hL : LatAt C H d) (hx : x < d.m) (hy : y < d.m) (h : EvA (tCons tx (tCons ty tNil)) σ H [.int (x : Int), .int (y : Int)]) :
    Ev (tMeth C "joined" (spJoined C) [] E ta (tCons tx (tCons ty tNil))) σ H (.int (d.J x y : Nat)) := ev_meth ha hL.ob (lfs_no _ _ _ (by decide +kernel) (by decide +kernel) (by decide +kernel)) h fun H1 e Q q E => ⟨d, x, y, rfl, hL.ex e, hx, hy, q⟩
theorem ev_met {C : Addr} {H : Hp} {σ : L2.St} {d : LtD} {x y : Nat} {ta tx ty : TE} {E : XK} (ha : Ev ta σ H (.ref d.p)) (hL : LatAt C H d) (hx : x < d.m) (hy : y < d.m) (h : EvA (tCons tx (tCons ty tNil)) σ H [.int (x : Int), .int (y : Int)]) :
    Ev (tMeth C "met" (spMet C) [] E ta (tCons tx (tCons ty tNil))) σ H (.int (d.M x y : Nat)) := ev_meth ha hL.ob (lfs_no _ _ _ (by decide +kernel) (by decide +kernel) (by decide +kernel)) h fun H1 e Q q E => ⟨d, x, y, rfl, hL.ex e, hx, hy, q⟩
/-! ### at_most -/
theorem dec_nat {a b : Nat} : decide (V.int (a : Int) = V.int (b : Int)) = (a == b) := by
  by_cases e : a = b
  · subst e
    rw [decide_eq_true rfl, beq_self_eq_true]
  · have n : ¬ (V.int (a : Int) = V.int (b : Int)) := fun q => e (Int.ofNat.inj (V.int.inj q))
    rw [decide_eq_false n, beq_eq_false_iff_ne.mpr e]
theorem abv_bit {m : Nat} {M : Nat → Nat → Nat} {x y : Nat} (hy : y < m) : (abv m M x).testBit y = lt M x y := by
  unfold abv
  rw [msk_bit]
  simp [hy]
theorem at_most_eq {m : Nat} {M : Nat → Nat → Nat} {x y : Nat} (hx : M x x = x) (hy : y < m) : (decide (V.int (x : Int) = V.int (y : Int)) || (abv m M x).testBit y) = (M x y == x) := by
  rw [abv_bit hy, dec_nat]
  unfold lt
  by_cases e : x = y
  · subst e
    rw [hx, beq_self_eq_true]
    rfl
  · rw [beq_eq_false_iff_ne.mpr e, bne_iff_ne.mpr e, Bool.false_or, Bool.true_and]
def spAtMost (C : Addr) : Sp := fun vs H Q _ => ∃ (d : LtD) (x y : Nat), vs = [.ref d.p, .int (x : Int), .int (y : Int)] ∧ LatAt C H d ∧ x < d.m ∧ y < d.m ∧ RetV (.bl (d.M x y == x)) H Q
local macro_rules | `(tactic| wtm_at "k49sp") => `(tactic| first | exact sv_has)
theorem sc_m_at_most : FnScope ["self", "x", "y"] ["self", "x", "y"] (defScope s_m_at_most) := ⟨rfl, rfl, rfl, by decide +kernel, rfl, by decide +kernel, by decide +kernel⟩
theorem ok_m_at_most (T : Tx K mg) : FnOk P w K mg base CX0 2 T.a_m_at_most T.d_m_at_most ["self", "x", "y"] (spAtMost T.C) := by
  refine T.p_m_at_most.F.ok sc_m_at_most (fun vs H Q E h => ?_) (fun cdv A outer s H vs Q E hr h => ?_)
  · obtain ⟨d, x, y, rfl, _⟩ := h
    rfl
  · obtain ⟨d, x, y, rfl, hL, hx, hy, k⟩ := h
    have hA := hL.ab
    refine ⟨_, (pss_one (ps_ret (pe_or (pe_cmpR op_eq (pv 1) (pv 2) (nomark _)) (pe_one (pe_call (ok_has T) (hr.mono (by decide)) rfl T.p_has.g T.p_has.k T.p_has.b .nil pass0 (pa_cons (pe_ix (gixT (K := K) rfl) (gfld (K := K) rfl (pv 0) rfl) (pv 1) (fun _ _ => rfl)) (pa_cons (pv 2) pa_nil))))))), ?_⟩
    refine b_ret (v := .bl (d.M x y == x)) (Ex.refl H) ?_ fun H1 e1 _ => k H1 e1
    rw [← at_most_eq (hL.L.mi x hx) hy]
    wtm_at "k49ev"
theorem ev_at_most {C : Addr} {H : Hp} {σ : L2.St} {d : LtD} {x y : Nat} {ta tx ty : TE} {E : XK} (ha : Ev ta σ H (.ref d.p)) (hL : LatAt C H d) (hx : x < d.m) (hy : y < d.m) (h : EvA (tCons tx (tCons ty tNil)) σ H [.int (x : Int), .int (y : Int)]) :
    Ev (tMeth C "at_most" (spAtMost C) [] E ta (tCons tx (tCons ty tNil))) σ H (.bl (d.M x y == x)) := ev_meth ha hL.ob (lfs_no _ _ _ (by decide +kernel) (by decide +kernel) (by decide +kernel)) h fun H1 e Q q E => ⟨d, x, y, rfl, hL.ex e, hx, hy, q⟩
/-! ### distributive_failure, is_distributive -/
def spDF (C : Addr) : Sp := fun vs H Q _ => ∃ d : LtD, vs = [.ref d.p] ∧ LatAt C H d ∧ (NoFail d.m d.J d.M → ∀ H', Ex H H' → Q .non H') ∧
  ∀ x y z, LeastFail d.m d.J d.M x y z → RetU [.int (x : Nat), .int (y : Nat), .int (z : Nat)] H Q
theorem fl_eq {J M : Nat → Nat → Nat} {x y z : Nat} : (!decide (V.int ((M x (J y z) : Nat) : Int) = V.int ((J (M x y) (M x z) : Nat) : Int))) = fl J M x y z := by
  unfold fl
  rw [dec_nat]
  rfl
theorem sc_m_distributive_failure : FnScope ["self", "n", "x", "y", "z"] ["self"] (defScope s_m_distributive_failure) := ⟨rfl, rfl, rfl, by decide +kernel, rfl, by decide +kernel, by decide +kernel⟩
theorem ok_m_distributive_failure (T : Tx K mg) : FnOk P w K mg base CX0 1 T.a_m_distributive_failure T.d_m_distributive_failure ["self"] (spDF T.C) := by
  refine T.p_m_distributive_failure.F.ok sc_m_distributive_failure (fun vs H Q E h => ?_) (fun cdv A outer s H vs Q E hr h => ?_)
  · obtain ⟨d, rfl, _⟩ := h
    rfl
  · obtain ⟨d, rfl, hL, k1, k2⟩ := h
    have hA := hL.ab
    have hJ := hL.tJ
    have hM := hL.tM
    have L := hL.L
    have sm := L.small
    refine ⟨_, (pss_cons (ps_set (i := 1) sc_m_distributive_failure.nd rfl (Or.inl rfl) (pe_callB (glen (K := K) rfl) (by rfl) T.b_len (by decide +kernel) (pa_cons (gfld (K := K) rfl (pv 0) rfl) pa_nil)))
  (pss_cons (ps_for PassesOwn.never rfl (pi_range1 rfl T.b_range (pa_cons (pv 1) pa_nil)) (pg_name (i := 2) sc_m_distributive_failure.nd rfl (Or.inl rfl))
   (pss_one (ps_for PassesOwn.never rfl (pi_range1 rfl T.b_range (pa_cons (pv 1) pa_nil)) (pg_name (i := 3) sc_m_distributive_failure.nd rfl (Or.inl rfl))
   (pss_one (ps_for PassesOwn.never rfl (pi_range1 rfl T.b_range (pa_cons (pv 1) pa_nil)) (pg_name (i := 4) sc_m_distributive_failure.nd rfl (Or.inl rfl))
   (pss_one (ps_if (pt_cmpR op_ne (pe_ix (gixT (K := K) rfl) (pe_ix (gixT (K := K) rfl) (gfld (K := K) rfl (pv 0) rfl) (pv 2) (fun _ _ => rfl)) (pe_ix (gixT (K := K) rfl) (pe_ix (gixT (K := K) rfl) (gfld (K := K) rfl (pv 0) rfl) (pv 3) (fun _ _ => rfl)) (pv 4) (fun _ _ => rfl)) (fun _ _ => rfl)) (pe_ix (gixT (K := K) rfl) (pe_ix (gixT (K := K) rfl) (gfld (K := K) rfl (pv 0) rfl) (pe_ix (gixT (K := K) rfl) (pe_ix (gixT (K := K) rfl) (gfld (K := K) rfl (pv 0) rfl) (pv 2) (fun _ _ => rfl)) (pv 3) (fun _ _ => rfl)) (fun _ _ => rfl)) (pe_ix (gixT (K := K) rfl) (pe_ix (gixT (K := K) rfl) (gfld (K := K) rfl (pv 0) rfl) (pv 2) (fun _ _ => rfl)) (pv 4) (fun _ _ => rfl)) (fun _ _ => rfl)) (nomark _)) (pss_one (ps_ret (pe_tup (pa_cons (pv 2) (pa_cons (pv 3) (pa_cons (pv 4) pa_nil)))))) pss_nil)))))))
  (pss_one (ps_ret pe_non)))), ?_⟩
    refine c_asg (v := .int (d.m : Nat)) (Ex.refl H) (by wtm_at "k49ev") fun H1 _ e1 => ?_
    refine c_forR e1 (n := d.m) (by wtm_at "k49ea") (by omega) (fun i σ H' => Ex H H' ∧ (∃ vx vy vz, σ = [some (.ref d.p), some (.int (d.m : Nat)), vx, vy, vz]) ∧ ∀ a b c, a < i → b < d.m → c < d.m → fl d.J d.M a b c = false)
      (fun H2 _ e2 => ⟨e2, ⟨_, _, _, rfl⟩, fun a b c ha => absurd ha (Nat.not_lt_zero _)⟩) ?_ ?_
    · rintro x σ H2 hx ⟨e2, ⟨vx, vy, vz, rfl⟩, f1⟩
      refine b_forR e2 (n := d.m) (by wtm_at "k49ea") (by omega) (fun i σ H' => Ex H H' ∧ (∃ vy vz, σ = [some (.ref d.p), some (.int (d.m : Nat)), some (.int (x : Nat)), vy, vz]) ∧ ∀ b c, b < i → c < d.m → fl d.J d.M x b c = false)
        (fun H3 _ e3 => ⟨e3, ⟨_, _, rfl⟩, fun b c hb => absurd hb (Nat.not_lt_zero _)⟩) ?_ ?_
      · rintro y σ H3 hy ⟨e3, ⟨vy, vz, rfl⟩, f2⟩
        refine b_forR e3 (n := d.m) (by wtm_at "k49ea") (by omega) (fun i σ H' => Ex H H' ∧ (∃ vz, σ = [some (.ref d.p), some (.int (d.m : Nat)), some (.int (x : Nat)), some (.int (y : Nat)), vz]) ∧ ∀ c, c < i → fl d.J d.M x y c = false)
          (fun H4 _ e4 => ⟨e4, ⟨_, rfl⟩, fun c hc => absurd hc (Nat.not_lt_zero _)⟩) ?_ ?_
        · rintro z σ H4 hz ⟨e4, ⟨vz, rfl⟩, f3⟩
          refine b_if (b := fl d.J d.M x y z) e4 ?_ (fun hf H5 _ e5 => ?_) (fun hf H5 _ e5 => ?_)
          · rw [← fl_eq]
            wtm_at "k49et"
          · refine b_retU (xs := [.int (x : Nat), .int (y : Nat), .int (z : Nat)]) e5 (eu_tup (by wtm_at "k49ea") (by show 3 ≤ 100000; decide)) fun p H6 hp _ e6 h6 => k2 x y z ⟨hx, hy, hz, hf, f1, f2, f3⟩ p H6 (fresh_back e5 hp) e6 h6
          · refine ⟨e5, ⟨_, rfl⟩, fun c hc => ?_⟩
            rcases Nat.lt_succ_iff_lt_or_eq.mp hc with h | h
            · exact f3 c h
            · rw [h]; exact hf
        · rintro σ H4 ⟨e4, ⟨vz, rfl⟩, f3⟩
          refine ⟨e4, ⟨_, _, rfl⟩, fun b c hb hc => ?_⟩
          rcases Nat.lt_succ_iff_lt_or_eq.mp hb with h | h
          · exact f2 b c h hc
          · rw [h]; exact f3 c hc
      · rintro σ H3 ⟨e3, ⟨vy, vz, rfl⟩, f2⟩
        refine ⟨e3, ⟨_, _, _, rfl⟩, fun a b c ha hb hc => ?_⟩
        rcases Nat.lt_succ_iff_lt_or_eq.mp ha with h | h
        · exact f1 a b c h hb hc
        · rw [h]; exact f2 b c hb hc
    · rintro σ H2 ⟨e2, ⟨vx, vy, vz, rfl⟩, f1⟩
      exact b_ret e2 ev_c fun H3 _ e3 => k1 (fun x y z hx hy hz => f1 x y z hx hy hz) H3 e3
def spDist (C : Addr) : Sp := fun vs H Q _ => ∃ d : LtD, vs = [.ref d.p] ∧ LatAt C H d ∧ NoFail d.m d.J d.M ∧ RetV (.bl true) H Q
theorem sc_m_is_distributive : FnScope ["self"] ["self"] (defScope s_m_is_distributive) := ⟨rfl, rfl, rfl, by decide +kernel, rfl, by decide +kernel, by decide +kernel⟩
theorem ok_m_is_distributive (T : Tx K mg) : FnOk P w K mg base CX0 2 T.a_m_is_distributive T.d_m_is_distributive ["self"] (spDist T.C) := by
  refine T.p_m_is_distributive.F.ok sc_m_is_distributive (fun vs H Q E h => ?_) (fun cdv A outer s H vs Q E hr h => ?_)
  · obtain ⟨d, rfl, _⟩ := h
    rfl
  · obtain ⟨d, rfl, hL, nf, k⟩ := h
    refine ⟨_, (pss_one (ps_ret (pe_cmpR op_isN1 (pe_meth0 (pv 0) T.cl T.p_m_distributive_failure.m (ok_m_distributive_failure T) (hr.mono (by decide)) T.p_m_distributive_failure.b .nil pass0) pe_non (nomark _)))), ?_⟩
    refine b_ret (v := .bl true) (Ex.refl H) (ev_op (x := .non) (y := .non) ?_ ev_c rv_isN) fun H1 e1 _ => k H1 e1
    exact ev_meth (ev_var rfl) hL.ob (lfs_no _ _ _ (by decide +kernel) (by decide +kernel) (by decide +kernel)) ea_nil fun H1 e Q q E => ⟨d, rfl, hL.ex e, fun _ => q, fun x y z hf => (hf.not nf).elim⟩
end
end K49
namespace K49
open PySem L2 Evl
/-! ### lists of references to new objects -/
def EvN (te : TE) (σ : L2.St) (H : Hp) (o : HO) : Prop := ∀ H1, Ex H H1 → ∀ Q : VK, (∀ p H2, H1 p = none → Ex H1 H2 → H2 p = some o → Q (.ref p) H2) → te σ H1 Q
structure RefsO (H : Hp) (D : Addr) (rs : List V) (os : List HO) : Prop where
  len : rs.length = os.length
  at_ : ∀ (i : Nat) (o : HO), os[i]? = some o → ∃ t, rs[i]? = some (.ref t) ∧ t ≠ D ∧ H t = some o
theorem RefsO.nil {H : Hp} {D : Addr} : RefsO H D [] [] := ⟨rfl, fun i o h => by simp at h⟩
theorem RefsO.ex {H H' : Hp} {D : Addr} {rs : List V} {os : List HO} (h : RefsO H D rs os) (e : ∀ t o, t ≠ D → H t = some o → H' t = some o) : RefsO H' D rs os := ⟨h.len, fun i o ho => by
  obtain ⟨t, h1, h2, h3⟩ := h.at_ i o ho
  exact ⟨t, h1, h2, e t o h2 h3⟩⟩
theorem RefsO.exs {H H' : Hp} {D : Addr} {rs : List V} {os : List HO} (h : RefsO H D rs os) (e : Ex H H') : RefsO H' D rs os := h.ex fun t o _ q => e t o q
theorem RefsO.snoc {H : Hp} {D p : Addr} {rs : List V} {os : List HO} {o : HO} (h : RefsO H D rs os) (hp : p ≠ D) (ho : H p = some o) : RefsO H D (rs ++ [.ref p]) (os ++ [o]) := by
  refine ⟨by rw [List.length_append, List.length_append, h.len]; rfl, fun i u hu => ?_⟩
  by_cases hi : i < os.length
  · rw [List.getElem?_append_left hi] at hu
    obtain ⟨t, h1, h2⟩ := h.at_ i u hu
    exact ⟨t, by rw [List.getElem?_append_left (by rw [h.len]; exact hi)]; exact h1, h2⟩
  · rw [List.getElem?_append_right (by omega)] at hu
    have e : i = os.length := by
      have := (List.getElem?_eq_some_iff.mp hu).1
      rw [List.length_singleton] at this
      omega
    subst e
    rw [Nat.sub_self] at hu
    cases hu
    exact ⟨p, by rw [List.getElem?_append_right (by rw [h.len]; exact Nat.le_refl _), h.len, Nat.sub_self]; rfl, hp, ho⟩
theorem RefsO.append {H : Hp} {D : Addr} {rs rs' : List V} {os os' : List HO} (h : RefsO H D rs os) (h' : RefsO H D rs' os') : RefsO H D (rs ++ rs') (os ++ os') := by
  refine ⟨by rw [List.length_append, List.length_append, h.len, h'.len], fun i u hu => ?_⟩
  by_cases hi : i < os.length
  · rw [List.getElem?_append_left hi] at hu
    obtain ⟨t, h1, h2⟩ := h.at_ i u hu
    exact ⟨t, by rw [List.getElem?_append_left (by rw [h.len]; exact hi)]; exact h1, h2⟩
  · rw [List.getElem?_append_right (by omega)] at hu
    obtain ⟨t, h1, h2⟩ := h'.at_ _ u hu
    exact ⟨t, by rw [List.getElem?_append_right (by rw [h.len]; omega), h.len]; exact h1, h2⟩
/-- as a function of the place -/
theorem RefsO.fn {H : Hp} {D : Addr} {rs : List V} {m : Nat} {o : Nat → HO} (h : RefsO H D rs ((List.range m).map o)) : ∃ r : Nat → Addr, rs = fnl m (fun x => .ref (r x)) ∧ ∀ x, x < m → r x ≠ D ∧ H (r x) = some (o x) := by
  have hl : rs.length = m := by rw [h.len, List.length_map, List.length_range]
  have ho : ∀ x, x < m → ((List.range m).map o)[x]? = some (o x) := fun x hx => by
    rw [List.getElem?_map, List.getElem?_range hx]
    rfl
  refine ⟨fun x => match rs[x]? with | some (.ref t) => t | _ => 0, ?_, fun x hx => ?_⟩
  · apply List.ext_getElem?
    intro i
    by_cases hi : i < m
    · obtain ⟨t, h1, h2, h3⟩ := h.at_ i _ (ho i hi)
      rw [fnl_get hi]
      dsimp only
      rw [h1]
    · rw [List.getElem?_eq_none (by omega), List.getElem?_eq_none (by rw [fnl_len]; omega)]
  · obtain ⟨t, h1, h2, h3⟩ := h.at_ x _ (ho x hx)
    dsimp only
    rw [h1]
    exact ⟨h2, h3⟩
def givenO (n : Nat) (f : Nat → Bool) (o : Nat → HO) : List HO := ((List.range n).filter f).map o
theorem givenO_yes {n : Nat} {f : Nat → Bool} {v : Nat → HO} (h : f n = true) : givenO (n + 1) f v = givenO n f v ++ [v n] := by
  unfold givenO
  rw [List.range_succ, List.filter_append, List.map_append, List.filter_cons, if_pos h] <;> rfl
theorem givenO_no {n : Nat} {f : Nat → Bool} {v : Nat → HO} (h : f n = false) : givenO (n + 1) f v = givenO n f v := by
  unfold givenO
  rw [List.range_succ, List.filter_append, List.map_append, List.filter_cons, if_neg (by rw [h]; decide)]
  show _ ++ [] = _
  rw [List.append_nil]
theorem givenO_len (n : Nat) (f : Nat → Bool) (v : Nat → HO) : (givenO n f v).length ≤ n := by
  unfold givenO
  rw [List.length_map]
  have h := List.length_filter_le f (List.range n)
  rw [List.length_range] at h
  exact h
theorem givenO_all {n : Nat} {v : Nat → HO} : givenO n (fun _ => true) v = (List.range n).map v := by
  unfold givenO
  rw [List.filter_eq_self.mpr (fun _ _ => rfl)]
section
variable {K : PySem.W.Frag} {σ : L2.St} {H H' H0 : Hp} {ta tb te tx tl : TE} {t u : TT} {x y z v : V} {r : R2}
/-- the list at Dl holds references to what the turns so far have made -/
def Cn (H : Hp) (f : Nat → Bool) (o : Nat → HO) (Dl : Addr) (i : Nat) (H' : Hp) : Prop := H Dl = none ∧ Ex H H' ∧ ∃ rs, H' Dl = some (.lst rs) ∧ RefsO H' Dl rs (givenO i f o)
theorem cn_turn {f : Nat → Bool} {o : Nat → HO} {Dl : Addr} {i : Nat} {σ2 : L2.St} (p : Cn H f o Dl i H') (hi : i < 50000) (ht : EvT t σ2 H (f i)) (he : f i = true → EvN te σ2 H (o i)) :
    t σ2 H' fun b H3 => if b = true then te σ2 H3 fun y H4 => ∃ acc, H4 Dl = some (.lst acc) ∧ acc.length < sizeLine ∧ Cn H f o Dl (i + 1) (upd H4 Dl (.lst (acc ++ [y]))) else Cn H f o Dl (i + 1) H3 := by
  obtain ⟨p1, p2, rs, p3, p4⟩ := p
  refine ht H' p2 _ fun H3 e3 => ?_
  cases hf : f i with
  | true =>
    show te σ2 H3 fun y H4 => ∃ acc, H4 Dl = some (.lst acc) ∧ acc.length < sizeLine ∧ Cn H f o Dl (i + 1) (upd H4 Dl (.lst (acc ++ [y])))
    refine he hf H3 (p2.trans e3) _ fun q H4 hq e4 ho => ?_
    have nq : q ≠ Dl := fun e => by rw [e, e3 _ _ p3] at hq; cases hq
    refine ⟨rs, e4 Dl _ (e3 Dl _ p3), sz_lt (by have := givenO_len i f o; rw [p4.len]; omega), p1, Ex.mut ((p2.trans e3).trans e4) p1, _, upd_same, ?_⟩
    rw [givenO_yes hf]
    have k : RefsO (upd H4 Dl (.lst (rs ++ [.ref q]))) Dl rs (givenO i f o) := (p4.exs (e3.trans e4)).ex fun b u hb hu => by rw [upd_ne hb]; exact hu
    exact k.snoc nq (by rw [upd_ne nq]; exact ho)
  | false =>
    show Cn H f o Dl (i + 1) H3
    refine ⟨p1, p2.trans e3, rs, e3 Dl _ p3, ?_⟩
    rw [givenO_no hf]
    exact p4.exs e3
/-- a new list of references -/
def EvR (te : TE) (σ : L2.St) (H : Hp) (os : List HO) : Prop := ∀ H1, Ex H H1 → ∀ Q : VK, (∀ p H2 rs, H1 p = none → Ex H1 H2 → H2 p = some (.lst rs) → RefsO H2 p rs os → Q (.ref p) H2) → te σ H1 Q
theorem er_lcU {xs : List V} {j : Nat} {vs : List Nat} (f : Nat → Bool) (o : Nat → HO) (h : EvU tl σ H xs) (hz : xs.length ≤ 40000) (hw : ∀ x, wipe ((wipe σ vs).set j (some x)) vs = wipe σ vs)
    (ht : ∀ (i : Nat) (x : V) H1, Ex H H1 → xs[i]? = some x → EvT t ((wipe σ vs).set j (some x)) H1 (f i)) (he : ∀ (i : Nat) (x : V) H1, Ex H H1 → xs[i]? = some x → f i = true → EvN te ((wipe σ vs).set j (some x)) H1 (o i)) :
    EvR (tLc (iTup K tl) (gName j) t te vs) σ H (givenO xs.length f o) := fun H0 e Q q => h H0 e _ fun a H1 ha e1 hx => ⟨a, rfl, ⟨xs, st_of hx⟩, fun Dl hD =>
  lc_tup (xs := xs) (Cn H1 f o Dl) ⟨hD, Ex.new hD, _, upd_same, .nil⟩ (fun i H' _ p => st_of (p.2.1 a _ hx)) (fun i x H' hi p => ⟨hw x, cn_turn p (by have := (List.getElem?_eq_some_iff.mp hi).1; omega) (ht i x H1 (e.trans e1) hi) (fun hf => he i x H1 (e.trans e1) hi hf)⟩)
    (fun H' p => by
      obtain ⟨p1, p2, rs, p3, p4⟩ := p
      exact q Dl H' rs (fresh_back e1 p1) (e1.trans p2) p3 p4)⟩
theorem er_lcL {a : Addr} {xs : List V} {j : Nat} {vs : List Nat} (f : Nat → Bool) (o : Nat → HO) (h : Ev tl σ H (.ref a)) (hx : SqL K H a xs) (hz : xs.length ≤ 40000) (hw : ∀ x, wipe ((wipe σ vs).set j (some x)) vs = wipe σ vs)
    (ht : ∀ (i : Nat) (x : V) H1, Ex H H1 → xs[i]? = some x → EvT t ((wipe σ vs).set j (some x)) H1 (f i)) (he : ∀ (i : Nat) (x : V) H1, Ex H H1 → xs[i]? = some x → f i = true → EvN te ((wipe σ vs).set j (some x)) H1 (o i)) :
    EvR (tLc (iList K tl) (gName j) t te vs) σ H (givenO xs.length f o) := fun H0 e Q q => h H0 e _ fun H1 e1 => ⟨a, rfl, ⟨xs, ex_l (e.trans e1) hx⟩, fun Dl hD =>
  lc_list (xs := xs) (Cn H1 f o Dl) ⟨hD, Ex.new hD, _, upd_same, .nil⟩ (fun i H' _ p => ex_l ((e.trans e1).trans p.2.1) hx) (fun i x H' hi p => ⟨hw x, cn_turn p (by have := (List.getElem?_eq_some_iff.mp hi).1; omega) (ht i x H1 (e.trans e1) hi) (fun hf => he i x H1 (e.trans e1) hi hf)⟩)
    (fun H' p => by
      obtain ⟨p1, p2, rs, p3, p4⟩ := p
      exact q Dl H' rs (fresh_back e1 p1) (e1.trans p2) p3 p4)⟩
theorem er_lcR {ta : TA} {n j : Nat} {vs : List Nat} (f : Nat → Bool) (o : Nat → HO) (h : EvA ta σ H [.int (n : Nat)]) (hn : n ≤ 40000) (hw : ∀ x, wipe ((wipe σ vs).set j (some x)) vs = wipe σ vs)
    (ht : ∀ (i : Nat) H1, Ex H H1 → i < n → EvT t ((wipe σ vs).set j (some (.int (i : Int)))) H1 (f i)) (he : ∀ (i : Nat) H1, Ex H H1 → i < n → f i = true → EvN te ((wipe σ vs).set j (some (.int (i : Int)))) H1 (o i)) :
    EvR (tLc (iRng1 ta) (gName j) t te vs) σ H (givenO n f o) := fun H0 e Q q => h H0 e _ fun H1 e1 => ⟨(n : Int), rfl, by omega, by omega, fun Dl hD =>
  lc_range (lo := 0) (n := (n : Int).toNat) (Cn H1 f o Dl) ⟨hD, Ex.new hD, _, upd_same, .nil⟩ (fun i H' hi p => by
    have e0 : (0 : Int) + (i : Int) = (i : Int) := Int.zero_add _
    show wipe ((wipe σ vs).set j (some (.int ((0 : Int) + (i : Int))))) vs = wipe σ vs ∧ t ((wipe σ vs).set j (some (.int ((0 : Int) + (i : Int))))) H' fun b H3 => if b = true then te ((wipe σ vs).set j (some (.int ((0 : Int) + (i : Int))))) H3 fun y H4 => ∃ acc, H4 Dl = some (.lst acc) ∧ acc.length < sizeLine ∧ Cn H1 f o Dl (i + 1) (upd H4 Dl (.lst (acc ++ [y]))) else Cn H1 f o Dl (i + 1) H3
    rw [e0]
    exact ⟨hw _, cn_turn p (by omega) (ht i H1 (e.trans e1) (by omega)) (fun hf => he i H1 (e.trans e1) (by omega) hf)⟩)
    (fun H' p => by
      obtain ⟨p1, p2, rs, p3, p4⟩ := p
      rw [Int.toNat_natCast] at p4
      exact q Dl H' rs (fresh_back e1 p1) (e1.trans p2) p3 p4)⟩
/-! ### comprehensions of plain values -/
theorem el_lcR {ta : TA} {n j : Nat} {vs : List Nat} (f : Nat → Bool) (v : Nat → V) (h : EvA ta σ H [.int (n : Nat)]) (hn : n ≤ 40000) (hw : ∀ x, wipe ((wipe σ vs).set j (some x)) vs = wipe σ vs)
    (ht : ∀ (i : Nat) H1, Ex H H1 → i < n → EvT t ((wipe σ vs).set j (some (.int (i : Int)))) H1 (f i)) (he : ∀ (i : Nat) H1, Ex H H1 → i < n → f i = true → Ev te ((wipe σ vs).set j (some (.int (i : Int)))) H1 (v i)) :
    EvL (tLc (iRng1 ta) (gName j) t te vs) σ H (given n f v) := by
  have q := el_lcR1 (te := te) (t := t) (vs := vs) (j := j) (n := (n : Int)) f v h (by omega) hw (fun i H1 e hi => ht i H1 e (by omega)) (fun i H1 e hi hf => he i H1 e (by omega) hf)
  rw [Int.toNat_natCast] at q
  exact q
/-- over a new tuple -/
theorem el_lcNT {xs : List V} {j : Nat} {vs : List Nat} (f : Nat → Bool) (v : Nat → V) (h : EvU tl σ H xs) (hz : xs.length ≤ 40000) (hw : ∀ x, wipe ((wipe σ vs).set j (some x)) vs = wipe σ vs)
    (ht : ∀ (i : Nat) (x : V) H1, Ex H H1 → xs[i]? = some x → EvT t ((wipe σ vs).set j (some x)) H1 (f i)) (he : ∀ (i : Nat) (x : V) H1, Ex H H1 → xs[i]? = some x → f i = true → Ev te ((wipe σ vs).set j (some x)) H1 (v i)) :
    EvL (tLc (iTup K tl) (gName j) t te vs) σ H (given xs.length f v) := fun H0 e Q q => h H0 e _ fun a H1 ha e1 hx => ⟨a, rfl, ⟨xs, st_of hx⟩, fun Dl hD =>
  lc_tup (xs := xs) (Cw H1 f v Dl) ⟨hD, Ex.new hD, upd_same⟩ (fun i H' _ p => st_of (p.2.1 a _ hx)) (fun i x H' hi p => ⟨hw x, cw_turn p (by have := (List.getElem?_eq_some_iff.mp hi).1; omega) (ht i x H1 (e.trans e1) hi) (fun hf => he i x H1 (e.trans e1) hi hf)⟩)
    (fun H' p => q Dl H' (fresh_back e1 p.1) (e1.trans p.2.1) p.2.2)⟩
variable {D : Ends} {tz : TS}
theorem b_ext {l : Addr} {xs : List V} {os : List HO} (e : Ex H0 H) (hl : H l = some (.lst xs)) (ha : Ev ta σ H0 (.ref l)) (h : EvR te σ H0 os) (hz : xs.length + os.length ≤ 100000)
    (k : ∀ p H1 rs, H p = none → Ex H H1 → Ex H0 H1 → RefsO H1 p rs os → D.nx σ (upd H1 l (.lst (xs ++ rs)))) : tDrop (tBM K "list" rExtend ta (tCons te tNil)) D σ H := ha H e _ fun H1 e1 =>
  ⟨Or.inl ⟨rfl, xs, sq_of (e1 l _ hl)⟩, h H1 (e.trans e1) _ fun p H2 rs hp e2 h2 hrs => ⟨l, p, xs, rs, rfl, rfl, e2 l _ (e1 l _ hl), h2, sz_of (by rw [hrs.len]; exact hz), k p H2 rs (fresh_back e1 hp) (e1.trans e2) (e.trans (e1.trans e2)) hrs⟩⟩
theorem b_app {l : Addr} {xs : List V} (e : Ex H0 H) (hl : H l = some (.lst xs)) (ha : Ev ta σ H0 (.ref l)) (h : Ev te σ H0 v) (hz : xs.length < 100000) (k : ∀ H1, Ex H H1 → Ex H0 H1 → D.nx σ (upd H1 l (.lst (xs ++ [v])))) :
    tDrop (tBM K "list" rAppend ta (tCons te tNil)) D σ H := ha H e _ fun H1 e1 =>
  ⟨Or.inl ⟨rfl, xs, sq_of (e1 l _ hl)⟩, h H1 (e.trans e1) _ fun H2 e2 => ⟨l, xs, v, rfl, rfl, e2 l _ (e1 l _ hl), sz_lt hz, k H2 (e1.trans e2) (e.trans (e1.trans e2))⟩⟩
theorem b_appN {l : Addr} {xs : List V} {o : HO} (e : Ex H0 H) (hl : H l = some (.lst xs)) (ha : Ev ta σ H0 (.ref l)) (h : EvN te σ H0 o) (hz : xs.length < 100000) (k : ∀ p H1, H p = none → Ex H H1 → Ex H0 H1 → H1 p = some o → D.nx σ (upd H1 l (.lst (xs ++ [.ref p])))) :
    tDrop (tBM K "list" rAppend ta (tCons te tNil)) D σ H := ha H e _ fun H1 e1 =>
  ⟨Or.inl ⟨rfl, xs, sq_of (e1 l _ hl)⟩, h H1 (e.trans e1) _ fun p H2 hp e2 h2 => ⟨l, xs, .ref p, rfl, rfl, e2 l _ (e1 l _ hl), sz_lt hz, k p H2 (fresh_back e1 hp) (e1.trans e2) (e.trans (e1.trans e2)) h2⟩⟩
theorem c_app {l : Addr} {xs : List V} (e : Ex H0 H) (hl : H l = some (.lst xs)) (ha : Ev ta σ H0 (.ref l)) (h : Ev te σ H0 v) (hz : xs.length < 100000) (k : ∀ H1, Ex H H1 → Ex H0 H1 → tz D σ (upd H1 l (.lst (xs ++ [v])))) :
    tSeq (tDrop (tBM K "list" rAppend ta (tCons te tNil))) tz D σ H := b_app (D := { D with nx := tz D }) e hl ha h hz k
theorem c_appN {l : Addr} {xs : List V} {o : HO} (e : Ex H0 H) (hl : H l = some (.lst xs)) (ha : Ev ta σ H0 (.ref l)) (h : EvN te σ H0 o) (hz : xs.length < 100000) (k : ∀ p H1, H p = none → Ex H H1 → Ex H0 H1 → H1 p = some o → tz D σ (upd H1 l (.lst (xs ++ [.ref p])))) :
    tSeq (tDrop (tBM K "list" rAppend ta (tCons te tNil))) tz D σ H := b_appN (D := { D with nx := tz D }) e hl ha h hz k
/-- xs[i] = v, the list a local one's that the base does not know -/
theorem b_setL {l : Addr} {xs : List V} {j : Nat} {to ti : TE} (e : Ex H0 H) (hl : H l = some (.lst xs)) (h : Ev te σ H0 v) (ho : Ev to σ H0 (.ref l)) (hi : Ev ti σ H0 (.int (j : Int))) (hj : j < xs.length) (k : ∀ H1, Ex H H1 → Ex H0 H1 → D.nx σ (upd H1 l (.lst (xs.set j v)))) :
    tAsg te (gSub to ti rSetL) D σ H := h H e _ fun H1 e1 => ho H1 (e.trans e1) _ fun H2 e2 => hi H2 (e.trans (e1.trans e2)) _ fun H3 e3 =>
  ⟨l, xs, (j : Int), j, rfl, rfl, ((e1.trans e2).trans e3) l _ hl, ixN_nat hj, k H3 ((e1.trans e2).trans e3) (e.trans ((e1.trans e2).trans e3))⟩
theorem c_setL {l : Addr} {xs : List V} {j : Nat} {to ti : TE} (e : Ex H0 H) (hl : H l = some (.lst xs)) (h : Ev te σ H0 v) (ho : Ev to σ H0 (.ref l)) (hi : Ev ti σ H0 (.int (j : Int))) (hj : j < xs.length) (k : ∀ H1, Ex H H1 → Ex H0 H1 → tz D σ (upd H1 l (.lst (xs.set j v)))) :
    tSeq (tAsg te (gSub to ti rSetL)) tz D σ H := b_setL (D := { D with nx := tz D }) e hl h ho hi hj k
theorem et_yes : EvT tYes σ H true := fun H1 _ _ q => q H1 (Ex.refl H1)
theorem ev_bits {i : Int} (h : Ev ta σ H (.int i)) : Ev (tBits ta) σ H (.int (Builtin.Int.intBits i : Nat)) := fun H1 e Q q => h H1 e _ fun H2 e2 => ⟨i, rfl, q H2 e2⟩
end
/-! ### set_of, members -/
theorem filter_more {f : Nat → Bool} {n : Nat} : ∀ {m : Nat}, n ≤ m → (∀ k, n ≤ k → f k = false) → (List.range m).filter f = (List.range n).filter f
  | 0, h, _ => by
    have : n = 0 := by omega
    subst this; rfl
  | m + 1, h, k => by
    rcases Nat.lt_or_ge n (m + 1) with g | g
    · rw [List.range_succ, List.filter_append, filter_more (by omega : n ≤ m) k, List.filter_cons, if_neg (by rw [k m (by omega)]; decide)]
      simp
    · have : n = m + 1 := by omega
      subst this; rfl
theorem bits_filter {b n m : Nat} (h1 : b < 2 ^ n) (h2 : b < 2 ^ m) : (List.range n).filter (fun k => b.testBit k) = (List.range m).filter (fun k => b.testBit k) := by
  have z : ∀ n, b < 2 ^ n → ∀ k, n ≤ k → b.testBit k = false := fun n h k hk => Nat.testBit_lt_two_pow (Nat.lt_of_lt_of_le h (Nat.pow_le_pow_right (by decide) hk))
  rcases Nat.le_total n m with h | h
  · exact (filter_more h (z n h1)).symm
  · exact filter_more h (z m h2)
end K49
namespace K49
open PySem L2 Evl
/-! ### the evaluator -/
local macro_rules | `(tactic| wtm_at "k49sd") => `(tactic| first
  | (with_reducible assumption)
  | decide
  | omega
  | ((with_reducible refine' Lat.ml ?k0 _ _ ?k1 ?k2); (case k0 => (with_reducible assumption)); (case k1 => wtm_at "k49sd"); (case k2 => wtm_at "k49sd"))
  | ((with_reducible refine' Lat.jl ?k0 _ _ ?k1 ?k2); (case k0 => (with_reducible assumption)); (case k1 => wtm_at "k49sd"); (case k2 => wtm_at "k49sd")))
local macro_rules | `(tactic| wtm_at "k49rv") => `(tactic| first
  | (with_reducible exact rv_and)
  | (with_reducible exact rv_or)
  | ((with_reducible refine' rv_shl1 ?k1); (case k1 => wtm_at "k49sd"))
  | (with_reducible exact rv_I0)
  | ((with_reducible refine' rv_T2 ?k1 ?k2 ?k3); (case k1 => (with_reducible assumption)); (case k2 => wtm_at "k49sd"); (case k3 => wtm_at "k49sd"))
  | ((with_reducible refine' rv_T1 ?k1 ?k2); (case k1 => (with_reducible assumption)); (case k2 => wtm_at "k49sd"))
  | ((with_reducible refine' rv_L2 ?k1 ?k2 ?k3); (case k1 => (with_reducible assumption)); (case k2 => wtm_at "k49sd"); (case k3 => wtm_at "k49sd"))
  | ((with_reducible refine' rv_L1 ?k1 ?k2); (case k1 => (with_reducible assumption)); (case k2 => wtm_at "k49sd"))
  | ((with_reducible refine' rv_fT' ?k1 ?k2 ?k3); (case k1 => (with_reducible assumption)); (case k2 => wtm_at "k49sd"); (case k3 => exact rfl))
  | ((with_reducible refine' rv_fL' ?k1 ?k2 ?k3); (case k1 => (with_reducible assumption)); (case k2 => wtm_at "k49sd"); (case k3 => exact rfl))
  | ((with_reducible refine' rv_mod ?k1); (case k1 => wtm_at "k49sd"))
  | ((with_reducible refine' rv_shr ?k1); (case k1 => wtm_at "k49sd"))
  | ((with_reducible refine' rv_I (C := CMul) ?k1); (case k1 => (first | exact Or.inr ⟨by decide, by decide⟩ | exact Or.inl ⟨by decide, by decide⟩ | exact Or.inl ⟨by omega, by omega⟩ | exact Or.inr ⟨by omega, by omega⟩)))
  | ((with_reducible refine' rv_I (C := CDiv) ?k1); (case k1 => (first | exact ⟨by decide, by decide⟩ | exact ⟨by omega, by omega⟩)))
  | ((with_reducible refine' rv_I (C := CPow) ?k1); (case k1 => (first | exact ⟨by omega, by omega, by decide⟩ | exact ⟨by omega, by omega, by omega⟩)))
  | ((with_reducible refine' rv_eq ?k1); (case k1 => rfl))
  | ((with_reducible refine' rv_ne ?k1); (case k1 => rfl))
  | (with_reducible exact rv_isN) | (with_reducible exact rv_notN) | (with_reducible exact rv_isB) | (with_reducible exact rv_notB)
  | (with_reducible assumption))
local macro_rules | `(tactic| wtm_at "k49ev") => `(tactic| first
  | (with_reducible exact ev_c)
  | (exact ev_var rfl)
  | ((with_reducible refine' ev_op ?k1 ?k2 ?k3); (case k1 => wtm_at "k49ev"); (case k2 => wtm_at "k49ev"); (case k3 => wtm_at "k49rv"))
  | ((with_reducible refine' ev_un ?k1 ru_neg); (case k1 => wtm_at "k49ev"))
  | ((with_reducible refine' ev_int1 ?k1); (case k1 => wtm_at "k49ev"))
  | ((with_reducible refine' ev_abs ?k1); (case k1 => wtm_at "k49ev"))
  | ((with_reducible refine' ev_above ?k1 ?k2 ?k3 ?k4); (case k1 => wtm_at "k49ev"); (case k2 => (with_reducible assumption)); (case k3 => exact Tx.cl ‹_›); (case k4 => exact Tx.n_above ‹_›))
  | ((with_reducible refine' ev_joins ?k1 ?k2 ?k3 ?k4); (case k1 => wtm_at "k49ev"); (case k2 => (with_reducible assumption)); (case k3 => exact Tx.cl ‹_›); (case k4 => exact Tx.n_joins ‹_›))
  | ((with_reducible refine' ev_meets ?k1 ?k2 ?k3 ?k4); (case k1 => wtm_at "k49ev"); (case k2 => (with_reducible assumption)); (case k3 => exact Tx.cl ‹_›); (case k4 => exact Tx.n_meets ‹_›))
  | ((with_reducible refine' ev_lenfT ?k1 ?k2); (case k1 => wtm_at "k49ev"); (case k2 => (with_reducible assumption)))
  | ((with_reducible refine' ev_lenfL ?k1 ?k2); (case k1 => wtm_at "k49ev"); (case k2 => (with_reducible assumption)))
  | ((with_reducible refine' ev_lenT ?k1 ?k2); (case k1 => wtm_at "k49ev"); (case k2 => wtm_at "k49sq"))
  | ((with_reducible refine' ev_len ?k1 ?k2); (case k1 => wtm_at "k49ev"); (case k2 => wtm_at "k49sq"))
  | ((with_reducible refine' ev_call0 ?k1 ?k2); (case k1 => wtm_at "k49ea"); (case k2 => wtm_at "k49sp"))
  | ((with_reducible refine' ev_notV ?k1); (case k1 => wtm_at "k49ev"))
  | ((with_reducible refine' ev_andV ?k1 ?k2); (case k1 => wtm_at "k49ev"); (case k2 => (intro _; wtm_at "k49ev")))
  | ((with_reducible refine' ev_orV ?k1 ?k2); (case k1 => wtm_at "k49ev"); (case k2 => (intro _; wtm_at "k49ev"))))
local macro_rules | `(tactic| wtm_at "k49ea") => `(tactic| first
  | (with_reducible exact ea_nil)
  | ((with_reducible refine' ea_cons ?k1 ?k2); (case k1 => wtm_at "k49ev"); (case k2 => wtm_at "k49ea")))
local macro_rules | `(tactic| wtm_at "k49sq") => `(tactic| first
  | (with_reducible assumption)
  | (refine' sq_of ?k1; (case k1 => (with_reducible assumption)))
  | (refine' st_of ?k1; (case k1 => (with_reducible assumption))))
local macro_rules | `(tactic| wtm_at "k49et") => `(tactic| first
  | ((with_reducible refine' et_test ?k1); (case k1 => wtm_at "k49ev"))
  | ((with_reducible refine' et_B ?k1); (case k1 => wtm_at "k49ev"))
  | ((with_reducible refine' et_and ?k1 ?k2); (case k1 => wtm_at "k49et"); (case k2 => (intro _; wtm_at "k49et")))
  | ((with_reducible refine' et_or ?k1 ?k2); (case k1 => wtm_at "k49et"); (case k2 => (intro _; wtm_at "k49et")))
  | ((with_reducible refine' et_not ?k1); (case k1 => wtm_at "k49et")))

section
variable {P : Program} {w : World} {K : PySem.W.Frag} {mg : Str → Option Value} {base : Heap}
/-! ### set_of -/
def spSetOf (K : PySem.W.Frag) : Sp := fun vs H Q _ => ∃ (a : Addr) (ks : List Nat), vs = [.ref a] ∧ SqL K H a (ks.map fun k => V.int (k : Nat)) ∧ (∀ k ∈ ks, k ≤ 1000000) ∧ RetV (.int (orl ks : Nat)) H Q
theorem sc_set_of : FnScope ["points", "out", "x"] ["points"] (defScope s_set_of) := ⟨rfl, rfl, rfl, by decide +kernel, rfl, by decide +kernel, by decide +kernel⟩
theorem ok_set_of (T : Tx K mg) : FnOk P w K mg base CX0 1 T.a_set_of T.d_set_of ["points"] (spSetOf K) := by
  refine T.p_set_of.F.ok sc_set_of (fun vs H Q E h => ?_) (fun cdv A outer s H vs Q E hr h => ?_)
  · obtain ⟨a, ks, rfl, _⟩ := h
    rfl
  · obtain ⟨a, ks, rfl, ha, hk, k⟩ := h
    refine ⟨_, (pss_cons (ps_set (i := 1) sc_set_of.nd rfl (Or.inl rfl) pe_int)
  (pss_cons (ps_for PassesOwn.never rfl (gpiL (K := K) rfl (pv 0)) (pg_name (i := 2) sc_set_of.nd rfl (Or.inl rfl))
   (pss_one (ps_set (i := 1) sc_set_of.nd rfl (Or.inl rfl) (pe_op op_or (pv 1) (pe_op op_shl pe_int (pv 2))))))
  (pss_one (ps_ret (pv 1))))), ?_⟩
    refine c_asg (v := .int 0) (Ex.refl H) ev_c fun H1 _ e1 => ?_
    refine c_forL e1 (a := a) (xs := ks.map fun k => V.int (k : Nat)) (by wtm_at "k49ev") ha (fun i σ H' => Ex H H' ∧ ∃ vx, σ = [some (.ref a), some (.int (orl (ks.take i) : Nat)), vx])
      (fun H2 _ e2 => ⟨e2, _, rfl⟩) (fun i σ H' _ p => ex_l p.1 ha) ?_ ?_
    · rintro i x σ H2 hx ⟨e2, vx, rfl⟩
      rw [List.getElem?_map] at hx
      cases hk1 : ks[i]? with
      | none => rw [hk1] at hx; cases hx
      | some q =>
        rw [hk1] at hx
        cases hx
        have hq := hk q (List.mem_of_getElem? hk1)
        refine b_asg (v := .int ((orl (ks.take i) ||| 2 ^ q : Nat) : Int)) e2 (by wtm_at "k49ev") fun H3 _ e3 => ⟨e3, some (.int (q : Nat)), ?_⟩
        rw [List.take_add_one, hk1]
        show _ = [_, some (V.int ((orl (List.take i ks ++ [q]) : Nat) : Int)), _]
        rw [orl_snoc]
        rfl
    · rintro σ H2 ⟨e2, vx, rfl⟩
      rw [List.length_map, List.take_length]
      exact b_ret e2 (by wtm_at "k49ev") fun H3 _ e3 => k H3 e3
theorem sv_set_of {H : Hp} {a : Addr} {ks : List Nat} (h : SqL K H a (ks.map fun k => V.int (k : Nat))) (hk : ∀ k ∈ ks, k ≤ 1000000) : SpV (spSetOf K) [.ref a] H (.int (orl ks : Nat)) := fun H1 e Q q E => ⟨a, ks, rfl, ex_l e h, hk, q⟩
/-- of a comprehension over a range -/
theorem ev_set_of {H : Hp} {σ : L2.St} {te : TE} {E : XK} {n : Nat} {f : Nat → Bool} (h : EvL te σ H (given n f fun k => .int (k : Nat))) (hn : n ≤ 1000000) : Ev (tCall (spSetOf K) [] E (tCons te tNil)) σ H (.int (msk f n : Nat)) := fun H1 e Q q =>
  h H1 e _ fun p H2 hp e2 h2 => by
    rw [← orl_filter] at q
    have q2 := sv_set_of (K := K) (H := H2) (a := p) (ks := (List.range n).filter f) (by
      rw [← show given n f (fun k => V.int (k : Nat)) = ((List.range n).filter f).map (fun k => V.int (k : Nat)) from rfl]
      exact sq_of h2) fun k hk => by
        have := List.mem_range.mp (List.mem_filter.mp hk).1
        omega
    exact q2 H2 (Ex.refl H2) Q (fun H3 e3 => q H3 (e2.trans e3)) E
/-! ### members -/
def mem (m b : Nat) : List V := given m (fun k => b.testBit k) fun k => .int (k : Nat)
def spMembers : Sp := fun vs H Q _ => ∃ (b m : Nat), vs = [.int (b : Int)] ∧ b < 2 ^ m ∧ m ≤ 1000 ∧ RetU (mem m b) H Q
theorem sc_members : FnScope ["bits", "x"] ["bits"] (defScope s_members) := ⟨rfl, rfl, rfl, by decide +kernel, rfl, by decide +kernel, by decide +kernel⟩
theorem ok_members (T : Tx K mg) : FnOk P w K mg base CX0 1 T.a_members T.d_members ["bits"] spMembers := by
  refine T.p_members.F.ok sc_members (fun vs H Q E h => ?_) (fun cdv A outer s H vs Q E hr h => ?_)
  · obtain ⟨b, m, rfl, _⟩ := h
    rfl
  · obtain ⟨b, m, rfl, hb, hm, k⟩ := h
    refine ⟨_, (pss_one (ps_ret (pe_callTy (gtuple (K := K) rfl) (by rfl) T.b_tuple (by decide +kernel) (pa_cons (pe_lc (own := [("x", 1)]) (g := (gName 1)) (by rfl) sc_members.nd (pi_range1 rfl T.b_range (pa_cons (pe_bits (pv 0)) pa_nil)) (blkOk_by (by kernel_rfl)) (fun _ _ _ _ _ => (pg_name (i := 1) sc_members.nd rfl (Or.inl rfl))) (fun _ _ _ _ _ => (pts_one (pt_cmpR op_eq (pe_op op_and (pe_op op_shr (pv 0) (pv 1)) pe_int) pe_int (nomark _)))) (fun _ _ _ _ _ => (pv 1))) pa_nil)))), ?_⟩
    have n1 : Builtin.Int.intBits (b : Int) ≤ m := intBits_le_iff.mpr (by simpa using hb)
    have n2 : b < 2 ^ Builtin.Int.intBits (b : Int) := by
      have := intBits_le_iff.mp (Nat.le_refl (Builtin.Int.intBits (b : Int)))
      simpa using this
    have em : mem m b = given (Builtin.Int.intBits (b : Int)) (fun k => b.testBit k) fun k => .int (k : Nat) := by
      unfold mem given
      rw [bits_filter n2 hb]
    refine b_retU (Ex.refl H) (eu_tupN (el_lcR (n := Builtin.Int.intBits (b : Int)) (fun k => b.testBit k) (fun k => .int (k : Nat)) (ea_cons (ev_bits (ev_var rfl)) ea_nil) (by omega) (fun x => rfl) ?_ ?_)) fun p H1 hp e1 _ h1 => k p H1 hp e1 (by rw [em]; exact h1)
    · intro i H1 e1 hi
      rw [← has_eq]
      wtm_at "k49et"
    · intro i H1 e1 hi hf
      wtm_at "k49ev"
theorem su_members {H : Hp} {b m : Nat} (hb : b < 2 ^ m) (hm : m ≤ 1000) : SpU spMembers [.int (b : Int)] H (mem m b) := fun H1 e Q q E => ⟨b, m, rfl, hb, hm, q⟩
end
end K49
namespace K49
open PySem L2 Evl
/-! ### the evaluator -/
local macro_rules | `(tactic| wtm_at "k49sd") => `(tactic| first
  | (with_reducible assumption)
  | decide
  | omega
  | ((with_reducible refine' Lat.ml ?k0 _ _ ?k1 ?k2); (case k0 => (with_reducible assumption)); (case k1 => wtm_at "k49sd"); (case k2 => wtm_at "k49sd"))
  | ((with_reducible refine' Lat.jl ?k0 _ _ ?k1 ?k2); (case k0 => (with_reducible assumption)); (case k1 => wtm_at "k49sd"); (case k2 => wtm_at "k49sd")))
local macro_rules | `(tactic| wtm_at "k49rv") => `(tactic| first
  | (with_reducible exact rv_and)
  | (with_reducible exact rv_or)
  | ((with_reducible refine' rv_shl1 ?k1); (case k1 => wtm_at "k49sd"))
  | (with_reducible exact rv_I0)
  | ((with_reducible refine' rv_T2 ?k1 ?k2 ?k3); (case k1 => (with_reducible assumption)); (case k2 => wtm_at "k49sd"); (case k3 => wtm_at "k49sd"))
  | ((with_reducible refine' rv_T1 ?k1 ?k2); (case k1 => (with_reducible assumption)); (case k2 => wtm_at "k49sd"))
  | ((with_reducible refine' rv_L2 ?k1 ?k2 ?k3); (case k1 => (with_reducible assumption)); (case k2 => wtm_at "k49sd"); (case k3 => wtm_at "k49sd"))
  | ((with_reducible refine' rv_L1 ?k1 ?k2); (case k1 => (with_reducible assumption)); (case k2 => wtm_at "k49sd"))
  | ((with_reducible refine' rv_fT' ?k1 ?k2 ?k3); (case k1 => (with_reducible assumption)); (case k2 => wtm_at "k49sd"); (case k3 => exact rfl))
  | ((with_reducible refine' rv_fL' ?k1 ?k2 ?k3); (case k1 => (with_reducible assumption)); (case k2 => wtm_at "k49sd"); (case k3 => exact rfl))
  | ((with_reducible refine' rv_mod ?k1); (case k1 => wtm_at "k49sd"))
  | ((with_reducible refine' rv_shr ?k1); (case k1 => wtm_at "k49sd"))
  | ((with_reducible refine' rv_I (C := CMul) ?k1); (case k1 => (first | exact Or.inr ⟨by decide, by decide⟩ | exact Or.inl ⟨by decide, by decide⟩ | exact Or.inl ⟨by omega, by omega⟩ | exact Or.inr ⟨by omega, by omega⟩)))
  | ((with_reducible refine' rv_I (C := CDiv) ?k1); (case k1 => (first | exact ⟨by decide, by decide⟩ | exact ⟨by omega, by omega⟩)))
  | ((with_reducible refine' rv_I (C := CPow) ?k1); (case k1 => (first | exact ⟨by omega, by omega, by decide⟩ | exact ⟨by omega, by omega, by omega⟩)))
  | ((with_reducible refine' rv_eq ?k1); (case k1 => rfl))
  | ((with_reducible refine' rv_ne ?k1); (case k1 => rfl))
  | (with_reducible exact rv_isN) | (with_reducible exact rv_notN) | (with_reducible exact rv_isB) | (with_reducible exact rv_notB)
  | (with_reducible assumption))
local macro_rules | `(tactic| wtm_at "k49ev") => `(tactic| first
  | (with_reducible exact ev_c)
  | (exact ev_var rfl)
  | ((with_reducible refine' ev_op ?k1 ?k2 ?k3); (case k1 => wtm_at "k49ev"); (case k2 => wtm_at "k49ev"); (case k3 => wtm_at "k49rv"))
  | ((with_reducible refine' ev_un ?k1 ru_neg); (case k1 => wtm_at "k49ev"))
  | ((with_reducible refine' ev_int1 ?k1); (case k1 => wtm_at "k49ev"))
  | ((with_reducible refine' ev_abs ?k1); (case k1 => wtm_at "k49ev"))
  | ((with_reducible refine' ev_above ?k1 ?k2 ?k3 ?k4); (case k1 => wtm_at "k49ev"); (case k2 => (with_reducible assumption)); (case k3 => exact Tx.cl ‹_›); (case k4 => exact Tx.n_above ‹_›))
  | ((with_reducible refine' ev_joins ?k1 ?k2 ?k3 ?k4); (case k1 => wtm_at "k49ev"); (case k2 => (with_reducible assumption)); (case k3 => exact Tx.cl ‹_›); (case k4 => exact Tx.n_joins ‹_›))
  | ((with_reducible refine' ev_meets ?k1 ?k2 ?k3 ?k4); (case k1 => wtm_at "k49ev"); (case k2 => (with_reducible assumption)); (case k3 => exact Tx.cl ‹_›); (case k4 => exact Tx.n_meets ‹_›))
  | ((with_reducible refine' ev_lenfT ?k1 ?k2); (case k1 => wtm_at "k49ev"); (case k2 => (with_reducible assumption)))
  | ((with_reducible refine' ev_lenfL ?k1 ?k2); (case k1 => wtm_at "k49ev"); (case k2 => (with_reducible assumption)))
  | ((with_reducible refine' ev_lenT ?k1 ?k2); (case k1 => wtm_at "k49ev"); (case k2 => wtm_at "k49sq"))
  | ((with_reducible refine' ev_len ?k1 ?k2); (case k1 => wtm_at "k49ev"); (case k2 => wtm_at "k49sq"))
  | ((with_reducible refine' ev_call0 ?k1 ?k2); (case k1 => wtm_at "k49ea"); (case k2 => wtm_at "k49sp"))
  | ((with_reducible refine' ev_notV ?k1); (case k1 => wtm_at "k49ev"))
  | ((with_reducible refine' ev_andV ?k1 ?k2); (case k1 => wtm_at "k49ev"); (case k2 => (intro _; wtm_at "k49ev")))
  | ((with_reducible refine' ev_orV ?k1 ?k2); (case k1 => wtm_at "k49ev"); (case k2 => (intro _; wtm_at "k49ev"))))
local macro_rules | `(tactic| wtm_at "k49ea") => `(tactic| first
  | (with_reducible exact ea_nil)
  | ((with_reducible refine' ea_cons ?k1 ?k2); (case k1 => wtm_at "k49ev"); (case k2 => wtm_at "k49ea")))
local macro_rules | `(tactic| wtm_at "k49sq") => `(tactic| first
  | (with_reducible assumption)
  | (refine' sq_of ?k1; (case k1 => (with_reducible assumption)))
  | (refine' st_of ?k1; (case k1 => (with_reducible assumption))))
local macro_rules | `(tactic| wtm_at "k49et") => `(tactic| first
  | ((with_reducible refine' et_test ?k1); (case k1 => wtm_at "k49ev"))
  | ((with_reducible refine' et_B ?k1); (case k1 => wtm_at "k49ev"))
  | ((with_reducible refine' et_and ?k1 ?k2); (case k1 => wtm_at "k49et"); (case k2 => (intro _; wtm_at "k49et")))
  | ((with_reducible refine' et_or ?k1 ?k2); (case k1 => wtm_at "k49et"); (case k2 => (intro _; wtm_at "k49et")))
  | ((with_reducible refine' et_not ?k1); (case k1 => wtm_at "k49et")))

/-! ### covers: the mathematics -/
def covP (m : Nat) (M : Nat → Nat → Nat) (n : Nat) : List (Nat × Nat) := (List.range n).flatMap fun x => ((List.range m).filter fun y => covB m M x y).map fun y => (x, y)
def prO (q : Nat × Nat) : HO := .tup [.int (q.1 : Nat), .int (q.2 : Nat)]
theorem covP_succ {m : Nat} {M : Nat → Nat → Nat} {n : Nat} : covP m M (n + 1) = covP m M n ++ ((List.range m).filter fun y => covB m M n y).map fun y => (n, y) := by
  unfold covP
  rw [List.range_succ, List.flatMap_append]
  simp
theorem foldl_bit {g : Nat → Nat} {k : Nat} : ∀ (ys : List Nat) (a : Nat), (ys.foldl (fun o z => o ||| g z) a).testBit k = (a.testBit k || ys.any fun z => (g z).testBit k)
  | [], a => by simp
  | y :: r, a => by
    rw [List.foldl_cons, foldl_bit r, Nat.testBit_or, List.any_cons, Bool.or_assoc]
theorem as_range {α : Type} (l : List α) (d : α) : l = (List.range l.length).map fun i => l.getD i d := by
  apply List.ext_getElem?
  intro i
  by_cases hi : i < l.length
  · rw [List.getElem?_map, List.getElem?_range hi]
    simp [hi]
  · rw [List.getElem?_eq_none (by omega), List.getElem?_eq_none (by simp; omega)]
theorem givenO_list (l : List Nat) (g : Nat → Bool) (o : Nat → HO) : givenO l.length (fun i => g (l.getD i 0)) (fun i => o (l.getD i 0)) = (l.filter g).map o := by
  unfold givenO
  conv => rhs; rw [as_range l 0]
  rw [List.filter_map, List.map_map]
  rfl
theorem lt_range (m : Nat) (M : Nat → Nat → Nat) (x : Nat) : (List.range m).filter (fun k => (abv m M x).testBit k) = (List.range m).filter fun k => lt M x k := by
  apply List.filter_congr
  intro k hk
  exact abv_bit (List.mem_range.mp hk)
/-- what is above x but not above what is above x: covers x -/
theorem cov_filter {m : Nat} {M : Nat → Nat → Nat} {x : Nat} :
    (((List.range m).filter fun k => lt M x k).filter fun y => !(((List.range m).filter fun k => lt M x k).foldl (fun o z => o ||| abv m M z) 0).testBit y) = (List.range m).filter fun y => covB m M x y := by
  rw [List.filter_filter]
  apply List.filter_congr
  intro y hy
  have hym := List.mem_range.mp hy
  unfold covB
  rw [foldl_bit, Nat.zero_testBit, Bool.false_or, Bool.and_comm]
  congr 1
  rw [List.any_filter, List.all_eq_not_any_not]
  congr 1
  apply Bool.eq_iff_iff.mpr
  rw [List.any_eq_true, List.any_eq_true]
  constructor
  · rintro ⟨z, hz, h⟩
    refine ⟨z, hz, ?_⟩
    rw [abv_bit hym] at h
    rw [h]; rfl
  · rintro ⟨z, hz, h⟩
    refine ⟨z, hz, ?_⟩
    rw [abv_bit hym]
    rw [Bool.not_not] at h
    exact h
theorem filter_eq_nodup {x : Nat} : ∀ (l : List Nat), l.Nodup → (l.filter fun y => y == x).length = if x ∈ l then 1 else 0
  | [], _ => rfl
  | a :: r, h => by
    rw [List.nodup_cons] at h
    rw [List.filter_cons]
    by_cases e : a = x
    · subst e
      rw [if_pos (by simp), List.length_cons, filter_eq_nodup r h.2, if_neg h.1, if_pos List.mem_cons_self]
    · rw [if_neg (by simpa using e), filter_eq_nodup r h.2]
      by_cases hm : x ∈ r
      · rw [if_pos hm, if_pos (List.mem_cons_of_mem _ hm)]
      · rw [if_neg hm, if_neg (fun q => by
          rcases List.mem_cons.mp q with z | z
          · exact e z.symm
          · exact hm z)]
theorem cov_count {m : Nat} {M : Nat → Nat → Nat} {x : Nat} (hx : x < m) : ∀ n, (((covP m M n).map (·.2)).filter fun y => y == x).length = ((List.range n).filter fun w => covB m M w x).length
  | 0 => rfl
  | n + 1 => by
    rw [covP_succ, List.map_append, List.filter_append, List.length_append, cov_count hx n, List.range_succ, List.filter_append, List.length_append, List.map_map]
    congr 1
    have e : (List.map ((fun (q : Nat × Nat) => q.2) ∘ fun y => (n, y)) (List.filter (fun y => covB m M n y) (List.range m))) = (List.filter (fun y => covB m M n y) (List.range m)) := by
      have : ((fun (q : Nat × Nat) => q.2) ∘ fun y => (n, y)) = (id : Nat → Nat) := rfl
      rw [this, List.map_id]
    rw [e, filter_eq_nodup _ (List.nodup_range.filter _), List.filter_cons, List.filter_nil]
    by_cases h : covB m M n x = true
    · rw [if_pos h, if_pos (List.mem_filter.mpr ⟨List.mem_range.mpr hx, h⟩)]; rfl
    · rw [if_neg h, if_neg (fun q => h (List.mem_filter.mp q).2)]; rfl
theorem covP_len {m : Nat} {M : Nat → Nat → Nat} : ∀ n, (covP m M n).length ≤ n * m
  | 0 => by simp [covP]
  | n + 1 => by
    rw [covP_succ, List.length_append, List.length_map]
    have h1 := covP_len (m := m) (M := M) n
    have h2 := List.length_filter_le (fun y => covB m M n y) (List.range m)
    rw [List.length_range] at h2
    rw [Nat.succ_mul]
    omega
theorem mem_get {m b i : Nat} {x : V} (h : (mem m b)[i]? = some x) : x = .int (((List.range m).filter (fun k => b.testBit k)).getD i 0 : Nat) ∧ ((List.range m).filter (fun k => b.testBit k)).getD i 0 < m := by
  unfold mem given at h
  rw [List.getElem?_map] at h
  cases e : ((List.range m).filter (fun k => b.testBit k))[i]? with
  | none => rw [e] at h; cases h
  | some q =>
    rw [e] at h
    rw [List.getD_eq_getElem?_getD, e]
    exact ⟨(Option.some.inj h).symm, List.mem_range.mp (List.mem_filter.mp (List.mem_of_getElem? e)).1⟩
section
variable {P : Program} {w : World} {K : PySem.W.Frag} {mg : Str → Option Value} {base : Heap}
theorem RefsO.chg {H : Hp} {D l : Addr} {rs xs : List V} {ps : List (Nat × Nat)} (h : RefsO H D rs (ps.map prO)) (hl : H l = some (.lst xs)) : RefsO H l rs (ps.map prO) := ⟨h.len, fun i o ho => by
  obtain ⟨t, h1, h2, h3⟩ := h.at_ i o ho
  refine ⟨t, h1, fun e => ?_, h3⟩
  rw [List.getElem?_map] at ho
  cases hp : ps[i]? with
  | none => rw [hp] at ho; cases ho
  | some q =>
    rw [hp] at ho
    cases ho
    rw [e, hl] at h3
    cases h3⟩
def spCovers (C : Addr) : Sp := fun vs H Q _ => ∃ d : LtD, vs = [.ref d.p] ∧ LatAt C H d ∧ ∀ p H' D rs, H p = none → Ex H H' → H' p = some (.tup rs) → RefsO H' D rs ((covP d.m d.M d.m).map prO) → Q (.ref p) H'
local macro_rules | `(tactic| wtm_at "k49sp") => `(tactic| first | exact sv_has)
theorem abv_lt {m : Nat} {M : Nat → Nat → Nat} {x : Nat} : abv m M x < 2 ^ m := msk_lt _ _
theorem sc_m_covers : FnScope ["self", "found", "x", "far", "y"] ["self"] (defScope s_m_covers) := ⟨rfl, rfl, rfl, by decide +kernel, rfl, by decide +kernel, by decide +kernel⟩
theorem ok_m_covers (T : Tx K mg) : FnOk P w K mg base CX0 2 T.a_m_covers T.d_m_covers ["self"] (spCovers T.C) := by
  refine T.p_m_covers.F.ok sc_m_covers (fun vs H Q E h => ?_) (fun cdv A outer s H vs Q E hr h => ?_)
  · obtain ⟨d, rfl, _⟩ := h
    rfl
  · obtain ⟨d, rfl, hL, k⟩ := h
    have hA := hL.ab
    have sm := hL.L.small
    refine ⟨_, (pss_cons (ps_set (i := 1) sc_m_covers.nd rfl (Or.inl rfl) (pe_lst pa_nil))
  (pss_cons (ps_for PassesOwn.never rfl (pi_range1 rfl T.b_range (pa_cons (pe_callB (glen (K := K) rfl) (by rfl) T.b_len (by decide +kernel) (pa_cons (gfld (K := K) rfl (pv 0) rfl) pa_nil)) pa_nil)) (pg_name (i := 2) sc_m_covers.nd rfl (Or.inr rfl))
   (pss_cons (ps_set (i := 3) sc_m_covers.nd rfl (Or.inr rfl) pe_int)
  (pss_cons (ps_for PassesOwn.never rfl (gpiT (K := K) rfl (pe_call (ok_members T) (hr.mono (by decide)) rfl T.p_members.g T.p_members.k T.p_members.b .nil pass0 (pa_cons (pe_ix (gixT (K := K) rfl) (gfld (K := K) rfl (pv 0) rfl) (pv 2) (fun _ _ => rfl)) pa_nil))) (pg_name (i := 4) sc_m_covers.nd rfl (Or.inl rfl))
   (pss_one (ps_set (i := 3) sc_m_covers.nd rfl (Or.inr rfl) (pe_op op_or (pv 3) (pe_ix (gixT (K := K) rfl) (gfld (K := K) rfl (pv 0) rfl) (pv 4) (fun _ _ => rfl))))))
  (pss_one (ps_expr (gbm (K := K) rfl PySem.F.plainAttrs_list PySem.F.slot_list_extend PySem.F.type_list_extend mt_extend (pv 1) (pa_cons (pe_lc (own := [("y", 4)]) (g := (gName 4)) (by rfl) sc_m_covers.nd (gpiT (K := K) rfl (pe_call (ok_members T) (hr.mono (by decide)) rfl T.p_members.g T.p_members.k T.p_members.b .nil pass0 (pa_cons (pe_ix (gixT (K := K) rfl) (gfld (K := K) rfl (pv 0) rfl) (pv 2) (fun _ _ => rfl)) pa_nil))) (blkOk_by (by kernel_rfl)) (fun _ _ _ _ _ => (pg_name (i := 4) sc_m_covers.nd rfl (Or.inl rfl))) (fun _ _ _ _ _ => (pts_one (pt_not (pt_val (pe_call (ok_has T) (hr.mono (by decide)) rfl T.p_has.g T.p_has.k T.p_has.b .nil pass0 (pa_cons (pv 3) (pa_cons (pv 4) pa_nil))))))) (fun _ _ _ _ _ => (pe_tup (pa_cons (pv 2) (pa_cons (pv 4) pa_nil))))) pa_nil)))))))
  (pss_one (ps_ret (pe_callTy (gtuple (K := K) rfl) (by rfl) T.b_tuple (by decide +kernel) (pa_cons (pv 1) pa_nil)))))), ?_⟩
    refine c_asgL (xs := []) (Ex.refl H) (el_lst ea_nil (Nat.zero_le _)) fun l H1 hl _ e1 h1 => ?_
    refine c_forR e1 (n := d.m) (by wtm_at "k49ea") (by omega)
      (fun i σ H' => Ex H H' ∧ (∃ vx vf vy, σ = [some (.ref d.p), some (.ref l), vx, vf, vy]) ∧ ∃ rs, H' l = some (.lst rs) ∧ RefsO H' l rs ((covP d.m d.M i).map prO))
      (fun H2 e12 e2 => ⟨e2, ⟨_, _, _, rfl⟩, [], e12 l _ h1, .nil⟩) ?_ ?_
    · rintro x σ H2 hx ⟨e2, ⟨vx, vf, vy, rfl⟩, rs, hl2, hrs⟩
      refine c_asg (v := .int 0) e2 ev_c fun H3 e23 e3 => ?_
      refine c_forU e3 (xs := mem d.m (abv d.m d.M x)) (eu_call0 (vs := [.int (abv d.m d.M x : Nat)]) (by wtm_at "k49ea") (su_members abv_lt (by omega)))
        (fun p i σ H' => Ex H H' ∧ (∃ vy, σ = [some (.ref d.p), some (.ref l), some (.int (x : Nat)), some (.int ((((List.range d.m).filter fun k => (abv d.m d.M x).testBit k).take i).foldl (fun o z => o ||| abv d.m d.M z) 0 : Nat)), vy]) ∧
          (H' p = some (.tup (mem d.m (abv d.m d.M x))) ∧ ∃ rs, H' l = some (.lst rs) ∧ RefsO H' l rs ((covP d.m d.M x).map prO)))
        (fun p H4 hp e34 e4 h4 => ⟨e4, ⟨_, rfl⟩, h4, rs, e34 l _ (e23 l _ hl2), hrs.exs (e23.trans e34)⟩) (fun p i σ H' _ q => st_of q.2.2.1) ?_ ?_
      · rintro p i y σ H4 hy ⟨e4, ⟨vy, rfl⟩, h4, rs4, hl4, hrs4⟩
        obtain ⟨rfl, hym⟩ := mem_get hy
        have hi : i < ((List.range d.m).filter fun k => (abv d.m d.M x).testBit k).length := by
          have := (List.getElem?_eq_some_iff.mp hy).1
          unfold mem given at this
          rwa [List.length_map] at this
        generalize hys : (List.range d.m).filter (fun k => (abv d.m d.M x).testBit k) = ys at hy hym hi ⊢
        generalize hyv : ys.getD i 0 = yv at hym ⊢
        have hget : ys[i]? = some yv := by
          rw [← hyv, List.getD_eq_getElem?_getD, List.getElem?_eq_getElem hi]
          rfl
        refine b_asg (v := .int (((ys.take i).foldl (fun o z => o ||| abv d.m d.M z) 0 ||| abv d.m d.M yv : Nat) : Int)) e4 (by wtm_at "k49ev") fun H5 e45 e5 => ⟨e5, ⟨some (.int (yv : Nat)), ?_⟩, e45 _ _ h4, rs4, e45 _ _ hl4, hrs4.exs e45⟩
        rw [List.take_add_one, hget, List.foldl_append]
        rfl
      · rintro p σ H4 ⟨e4, ⟨vy, rfl⟩, h4, rs4, hl4, hrs4⟩
        have hlen : (mem d.m (abv d.m d.M x)).length = ((List.range d.m).filter fun k => (abv d.m d.M x).testBit k).length := by
          unfold mem given
          rw [List.length_map]
        rw [hlen, List.take_length, lt_range]
        -- found.extend([..])
        generalize hys : (List.range d.m).filter (fun k => lt d.M x k) = ys at *
        have hlen2 : (mem d.m (abv d.m d.M x)).length = ys.length := by rw [hlen, lt_range, hys]
        refine b_ext (xs := rs4) (os := (ys.filter fun y => !(ys.foldl (fun o z => o ||| abv d.m d.M z) 0).testBit y).map fun y => prO (x, y)) e4 hl4 (by wtm_at "k49ev") ?_ ?_ ?_
        · rw [← givenO_list]
          rw [← hlen2]
          refine er_lcU (xs := mem d.m (abv d.m d.M x)) (fun i => !(ys.foldl (fun o z => o ||| abv d.m d.M z) 0).testBit (ys.getD i 0)) (fun i => prO (x, ys.getD i 0)) (eu_call0 (vs := [.int (abv d.m d.M x : Nat)]) (by wtm_at "k49ea") (su_members abv_lt (by omega))) (by rw [hlen2, ← hys]; have := List.length_filter_le (fun k => lt d.M x k) (List.range d.m); rw [List.length_range] at this; omega) (fun x => rfl) ?_ ?_
          · intro i y H5 e5 hy
            obtain ⟨rfl, hym⟩ := mem_get hy
            rw [lt_range, hys]
            wtm_at "k49et"
          · intro i y H5 e5 hy hf
            obtain ⟨rfl, hym⟩ := mem_get hy
            rw [lt_range, hys]
            exact eu_tup (vs := [.int (x : Nat), .int (ys.getD i 0 : Nat)]) (by wtm_at "k49ea") (by show 2 ≤ 100000; decide)
        · have h1 := covP_len (m := d.m) (M := d.M) x
          have h2 : x * d.m ≤ 16 * 16 := Nat.mul_le_mul (by omega) sm
          have h3 := List.length_filter_le (fun y => !(ys.foldl (fun o z => o ||| abv d.m d.M z) 0).testBit y) ys
          have h4 : ys.length ≤ d.m := by
            rw [← hys]
            have := List.length_filter_le (fun k => lt d.M x k) (List.range d.m)
            rwa [List.length_range] at this
          rw [hrs4.len, List.length_map, List.length_map]
          omega
        · intro p2 H5 rs5 hp2 e45 e5 hr5
          have cf := cov_filter (m := d.m) (M := d.M) (x := x)
          rw [hys] at cf
          rw [cf] at hr5
          have eo : (List.map (fun y => prO (x, y)) (List.filter (fun y => covB d.m d.M x y) (List.range d.m))) = List.map prO (List.map (fun y => (x, y)) (List.filter (fun y => covB d.m d.M x y) (List.range d.m))) := by
            rw [List.map_map]
            rfl
          rw [eo] at hr5
          have hr6 := (hrs4.exs e45).append (hr5.chg (e45 _ _ hl4))
          refine ⟨Ex.mut e5 hl, ⟨_, _, _, rfl⟩, _, upd_same, ?_⟩
          rw [covP_succ, List.map_append]
          exact hr6.ex fun b u hb hu => by rw [upd_ne hb]; exact hu
    · rintro σ H2 ⟨e2, ⟨vx, vf, vy, rfl⟩, rs, hl2, hrs⟩
      refine b_retU (xs := rs) (H0 := H2) (Ex.refl H2) (eu_tupL (by wtm_at "k49ev") (sq_of hl2)) fun p H3 hp e23 _ h3 => k p H3 l rs (fresh_back e2 hp) (e2.trans e23) h3 (hrs.exs e23)
end
end K49
namespace K49
open PySem L2 Evl
/-! ### the evaluator -/
local macro_rules | `(tactic| wtm_at "k49sd") => `(tactic| first
  | (with_reducible assumption)
  | decide
  | omega
  | ((with_reducible refine' Lat.ml ?k0 _ _ ?k1 ?k2); (case k0 => (with_reducible assumption)); (case k1 => wtm_at "k49sd"); (case k2 => wtm_at "k49sd"))
  | ((with_reducible refine' Lat.jl ?k0 _ _ ?k1 ?k2); (case k0 => (with_reducible assumption)); (case k1 => wtm_at "k49sd"); (case k2 => wtm_at "k49sd")))
local macro_rules | `(tactic| wtm_at "k49rv") => `(tactic| first
  | (with_reducible exact rv_and)
  | (with_reducible exact rv_or)
  | ((with_reducible refine' rv_shl1 ?k1); (case k1 => wtm_at "k49sd"))
  | (with_reducible exact rv_I0)
  | ((with_reducible refine' rv_T2 ?k1 ?k2 ?k3); (case k1 => (with_reducible assumption)); (case k2 => wtm_at "k49sd"); (case k3 => wtm_at "k49sd"))
  | ((with_reducible refine' rv_T1 ?k1 ?k2); (case k1 => (with_reducible assumption)); (case k2 => wtm_at "k49sd"))
  | ((with_reducible refine' rv_L2 ?k1 ?k2 ?k3); (case k1 => (with_reducible assumption)); (case k2 => wtm_at "k49sd"); (case k3 => wtm_at "k49sd"))
  | ((with_reducible refine' rv_L1 ?k1 ?k2); (case k1 => (with_reducible assumption)); (case k2 => wtm_at "k49sd"))
  | ((with_reducible refine' rv_fT' ?k1 ?k2 ?k3); (case k1 => (with_reducible assumption)); (case k2 => wtm_at "k49sd"); (case k3 => exact rfl))
  | ((with_reducible refine' rv_fL' ?k1 ?k2 ?k3); (case k1 => (with_reducible assumption)); (case k2 => wtm_at "k49sd"); (case k3 => exact rfl))
  | ((with_reducible refine' rv_mod ?k1); (case k1 => wtm_at "k49sd"))
  | ((with_reducible refine' rv_shr ?k1); (case k1 => wtm_at "k49sd"))
  | ((with_reducible refine' rv_I (C := CMul) ?k1); (case k1 => (first | exact Or.inr ⟨by decide, by decide⟩ | exact Or.inl ⟨by decide, by decide⟩ | exact Or.inl ⟨by omega, by omega⟩ | exact Or.inr ⟨by omega, by omega⟩)))
  | ((with_reducible refine' rv_I (C := CDiv) ?k1); (case k1 => (first | exact ⟨by decide, by decide⟩ | exact ⟨by omega, by omega⟩)))
  | ((with_reducible refine' rv_I (C := CPow) ?k1); (case k1 => (first | exact ⟨by omega, by omega, by decide⟩ | exact ⟨by omega, by omega, by omega⟩)))
  | ((with_reducible refine' rv_eq ?k1); (case k1 => rfl))
  | ((with_reducible refine' rv_ne ?k1); (case k1 => rfl))
  | (with_reducible exact rv_isN) | (with_reducible exact rv_notN) | (with_reducible exact rv_isB) | (with_reducible exact rv_notB)
  | (with_reducible assumption))
local macro_rules | `(tactic| wtm_at "k49ev") => `(tactic| first
  | (with_reducible exact ev_c)
  | (exact ev_var rfl)
  | ((with_reducible refine' ev_op ?k1 ?k2 ?k3); (case k1 => wtm_at "k49ev"); (case k2 => wtm_at "k49ev"); (case k3 => wtm_at "k49rv"))
  | ((with_reducible refine' ev_un ?k1 ru_neg); (case k1 => wtm_at "k49ev"))
  | ((with_reducible refine' ev_int1 ?k1); (case k1 => wtm_at "k49ev"))
  | ((with_reducible refine' ev_abs ?k1); (case k1 => wtm_at "k49ev"))
  | ((with_reducible refine' ev_above ?k1 ?k2 ?k3 ?k4); (case k1 => wtm_at "k49ev"); (case k2 => (with_reducible assumption)); (case k3 => exact Tx.cl ‹_›); (case k4 => exact Tx.n_above ‹_›))
  | ((with_reducible refine' ev_joins ?k1 ?k2 ?k3 ?k4); (case k1 => wtm_at "k49ev"); (case k2 => (with_reducible assumption)); (case k3 => exact Tx.cl ‹_›); (case k4 => exact Tx.n_joins ‹_›))
  | ((with_reducible refine' ev_meets ?k1 ?k2 ?k3 ?k4); (case k1 => wtm_at "k49ev"); (case k2 => (with_reducible assumption)); (case k3 => exact Tx.cl ‹_›); (case k4 => exact Tx.n_meets ‹_›))
  | ((with_reducible refine' ev_lenfT ?k1 ?k2); (case k1 => wtm_at "k49ev"); (case k2 => (with_reducible assumption)))
  | ((with_reducible refine' ev_lenfL ?k1 ?k2); (case k1 => wtm_at "k49ev"); (case k2 => (with_reducible assumption)))
  | ((with_reducible refine' ev_lenT ?k1 ?k2); (case k1 => wtm_at "k49ev"); (case k2 => wtm_at "k49sq"))
  | ((with_reducible refine' ev_len ?k1 ?k2); (case k1 => wtm_at "k49ev"); (case k2 => wtm_at "k49sq"))
  | ((with_reducible refine' ev_call0 ?k1 ?k2); (case k1 => wtm_at "k49ea"); (case k2 => wtm_at "k49sp"))
  | ((with_reducible refine' ev_notV ?k1); (case k1 => wtm_at "k49ev"))
  | ((with_reducible refine' ev_andV ?k1 ?k2); (case k1 => wtm_at "k49ev"); (case k2 => (intro _; wtm_at "k49ev")))
  | ((with_reducible refine' ev_orV ?k1 ?k2); (case k1 => wtm_at "k49ev"); (case k2 => (intro _; wtm_at "k49ev"))))
local macro_rules | `(tactic| wtm_at "k49ea") => `(tactic| first
  | (with_reducible exact ea_nil)
  | ((with_reducible refine' ea_cons ?k1 ?k2); (case k1 => wtm_at "k49ev"); (case k2 => wtm_at "k49ea")))
local macro_rules | `(tactic| wtm_at "k49sq") => `(tactic| first
  | (with_reducible assumption)
  | (refine' sq_of ?k1; (case k1 => (with_reducible assumption)))
  | (refine' st_of ?k1; (case k1 => (with_reducible assumption))))
local macro_rules | `(tactic| wtm_at "k49et") => `(tactic| first
  | ((with_reducible refine' et_test ?k1); (case k1 => wtm_at "k49ev"))
  | ((with_reducible refine' et_B ?k1); (case k1 => wtm_at "k49ev"))
  | ((with_reducible refine' et_and ?k1 ?k2); (case k1 => wtm_at "k49et"); (case k2 => (intro _; wtm_at "k49et")))
  | ((with_reducible refine' et_or ?k1 ?k2); (case k1 => wtm_at "k49et"); (case k2 => (intro _; wtm_at "k49et")))
  | ((with_reducible refine' et_not ?k1); (case k1 => wtm_at "k49et")))

section
variable {P : Program} {w : World} {K : PySem.W.Frag} {mg : Str → Option Value} {base : Heap}
theorem et3 {σ : L2.St} {H : Hp} {ta tb tc : TE} {x y : V} {o : HO} (ha : Ev ta σ H x) (hb : Ev tb σ H y) (hc : EvN tc σ H o) : ∀ H1, Ex H H1 → ∀ Q : VK, (∀ p q H2, H1 p = none → Ex H1 H2 → H2 p = some (.tup [x, y, .ref q]) → H2 q = some o → Q (.ref p) H2) → tTup (tCons ta (tCons tb (tCons tc tNil))) σ H1 Q := fun H1 e Q q =>
  ha H1 e _ fun H2 e2 => hb H2 (e.trans e2) _ fun H3 e3 => hc H3 ((e.trans e2).trans e3) _ fun r H4 hr e4 h4 => ⟨by show 3 ≤ sizeLine; exact sz_of (by decide), fun p hp => q p r _ (fresh_back ((e2.trans e3).trans e4) hp) (((e2.trans e3).trans e4).trans (Ex.new hp)) upd_same (by rw [upd_ne (ne_of_none h4 hp)]; exact h4)⟩
theorem ev_lenU {σ : L2.St} {H : Hp} {ta : TE} {xs : List V} (ha : EvU ta σ H xs) : Ev (tCB (rLenS K) (tCons ta tNil)) σ H (.int (xs.length : Int)) := fun H1 e Q q =>
  ha H1 e _ fun p H2 _ e2 h2 => ⟨p, xs, rfl, Or.inr (st_of h2), q H2 e2⟩
/-! ### join_irreducibles -/
/-- a new tuple of references to pairs -/
def EvP (te : TE) (σ : L2.St) (H : Hp) (ps : List (Nat × Nat)) : Prop := ∀ H1, Ex H H1 → ∀ Q : VK, (∀ p H2 D rs, H1 p = none → Ex H1 H2 → H2 p = some (.tup rs) → RefsO H2 D rs (ps.map prO) → Q (.ref p) H2) → te σ H1 Q
theorem el_pairs {σ : L2.St} {H : Hp} {tl : TE} {ps : List (Nat × Nat)} {j k : Nat} {vs : List Nat} (h : EvP tl σ H ps) (hz : ps.length ≤ 40000)
    (hw : ∀ x y, wipe (((wipe σ vs).set j (some x)).set k (some y)) vs = wipe σ vs) (hk : ∀ x y, (((wipe σ vs).set j (some x)).set k (some y))[k]? = some (some y)) :
    EvL (tLc (iTup K tl) (gTup K 2 (gCons (gName j) (gCons (gName k) gNil))) tYes (tVar k) vs) σ H (ps.map fun q => .int (q.2 : Nat)) := fun H0 e Q q => h H0 e _ fun a H1 D rs ha e1 hx hrs => ⟨a, rfl, ⟨rs, st_of hx⟩, fun Dl hD =>
  lc_tup (xs := rs) (fun i H' => H1 Dl = none ∧ Ex H1 H' ∧ H' Dl = some (.lst ((ps.take i).map fun q => .int (q.2 : Nat)))) ⟨hD, Ex.new hD, upd_same⟩ (fun i H' _ p => st_of (p.2.1 a _ hx))
    (fun i x H' hi p => by
      have hil : i < ps.length := by
        have := (List.getElem?_eq_some_iff.mp hi).1
        rwa [hrs.len, List.length_map] at this
      obtain ⟨t, h1, h2, h3⟩ := hrs.at_ i (prO ps[i]) (by rw [List.getElem?_map, List.getElem?_eq_getElem hil]; rfl)
      rw [hi] at h1
      cases h1
      refine ⟨t, _, rfl, st_of (p.2.1 t _ h3), rfl, _, _, rfl, _, _, rfl, rfl, hw _ _, ?_⟩
      unfold tYes
      refine iteT ?_
      refine ⟨_, hk _ _, _, p.2.2, sz_lt (by rw [List.length_map, List.length_take]; omega), p.1, Ex.mut p.2.1 p.1, ?_⟩
      rw [upd_same, List.take_add_one, List.getElem?_eq_getElem hil, List.map_append]
      rfl)
    (fun H' p => by
      obtain ⟨p1, p2, p3⟩ := p
      rw [hrs.len, List.length_map, List.take_length] at p3
      exact q Dl H' (fresh_back e1 p1) (e1.trans p2) p3)⟩
theorem ep_covers {C : Addr} {H : Hp} {σ : L2.St} {d : LtD} {ta : TE} {E : XK} (ha : Ev ta σ H (.ref d.p)) (hL : LatAt C H d) : EvP (tMeth C "covers" (spCovers C) [] E ta tNil) σ H (covP d.m d.M d.m) := fun H1 e Q q => ha H1 e _ fun H2 e2 =>
  ⟨d.p, d.dx, _, rfl, (e.trans e2) _ _ hL.ob, lfs_no _ _ _ (by decide +kernel) (by decide +kernel) (by decide +kernel), ⟨d, rfl, hL.ex (e.trans e2), fun p H3 D rs hp e3 h3 hr => q p H3 D rs (fresh_back e2 hp) (e2.trans e3) h3 hr⟩⟩
def irrV (m : Nat) (M : Nat → Nat → Nat) : List V := (irr m M).map fun x => .int (x : Nat)
def spIrr (C : Addr) : Sp := fun vs H Q _ => ∃ d : LtD, vs = [.ref d.p] ∧ LatAt C H d ∧ RetU (irrV d.m d.M) H Q
theorem irrV_given {m : Nat} {M : Nat → Nat → Nat} : irrV m M = given m (fun x => decide (V.int (((((covP m M m).map (·.2)).filter fun y => y == x).length : Nat) : Int) = V.int 1)) fun x => .int (x : Nat) := by
  unfold irrV irr given
  congr 1
  apply List.filter_congr
  intro x hx
  rw [cov_count (List.mem_range.mp hx) m]
  exact (dec_nat (b := 1)).symm
theorem given_list {l : List Nat} {x : Nat} : (given l.length (fun i => l.getD i 0 == x) fun i => V.int (l.getD i 0 : Nat)).length = (l.filter fun y => y == x).length := by
  unfold given
  conv => rhs; rw [as_range l 0]
  rw [List.filter_map, List.length_map, List.length_map]
  rfl
theorem sc_m_join_irreducibles : FnScope ["self", "lower", "_", "y", "x"] ["self"] (defScope s_m_join_irreducibles) := ⟨rfl, rfl, rfl, by decide +kernel, rfl, by decide +kernel, by decide +kernel⟩
theorem ok_m_join_irreducibles (T : Tx K mg) : FnOk P w K mg base CX0 3 T.a_m_join_irreducibles T.d_m_join_irreducibles ["self"] (spIrr T.C) := by
  refine T.p_m_join_irreducibles.F.ok sc_m_join_irreducibles (fun vs H Q E h => ?_) (fun cdv A outer s H vs Q E hr h => ?_)
  · obtain ⟨d, rfl, _⟩ := h
    rfl
  · obtain ⟨d, rfl, hL, k⟩ := h
    have hA := hL.ab
    have sm := hL.L.small
    have pl := covP_len (m := d.m) (M := d.M) d.m
    have pl2 : d.m * d.m ≤ 16 * 16 := Nat.mul_le_mul sm sm
    refine ⟨_, (pss_cons (ps_set (i := 1) sc_m_join_irreducibles.nd rfl (Or.inr rfl) (pe_lc (own := [("_", 2), ("y", 3)]) (g := (gTup K 2 (gCons (gName 2) (gCons (gName 3) gNil)))) (by rfl) sc_m_join_irreducibles.nd (gpiT (K := K) rfl (pe_meth0 (pv 0) T.cl T.p_m_covers.m (ok_m_covers T) (hr.mono (by decide)) T.p_m_covers.b .nil pass0)) (blkOk_by (by kernel_rfl)) (fun _ _ _ _ _ => (gptup (K := K) rfl rfl (pgs_cons (pg_name (i := 2) sc_m_join_irreducibles.nd rfl (Or.inl rfl)) (pgs_cons (pg_name (i := 3) sc_m_join_irreducibles.nd rfl (Or.inl rfl)) pgs_nil)))) (fun _ _ _ _ _ => pts_nil) (fun _ _ _ _ _ => (pv 3))))
  (pss_one (ps_ret (pe_callTy (gtuple (K := K) rfl) (by rfl) T.b_tuple (by decide +kernel) (pa_cons (pe_lc (own := [("x", 4)]) (g := (gName 4)) (by rfl) sc_m_join_irreducibles.nd (pi_range1 rfl T.b_range (pa_cons (pe_callB (glen (K := K) rfl) (by rfl) T.b_len (by decide +kernel) (pa_cons (gfld (K := K) rfl (pv 0) rfl) pa_nil)) pa_nil)) (blkOk_by (by kernel_rfl)) (fun _ _ _ _ _ => (pg_name (i := 4) sc_m_join_irreducibles.nd rfl (Or.inr rfl))) (fun _ _ _ _ _ => (pts_one (pt_cmpR op_eq (pe_callB (glen (K := K) rfl) (by rfl) T.b_len (by decide +kernel) (pa_cons (pe_lc (own := [("y", 3)]) (g := (gName 3)) (by rfl) sc_m_join_irreducibles.nd (gpiL (K := K) rfl (pv 1)) (blkOk_by (by kernel_rfl)) (fun _ _ _ _ _ => (pg_name (i := 3) sc_m_join_irreducibles.nd rfl (Or.inl rfl))) (fun _ _ _ _ _ => (pts_one (pt_cmpR op_eq (pv 3) (pv 4) (nomark _)))) (fun _ _ _ _ _ => (pv 3))) pa_nil)) pe_int (nomark _)))) (fun _ _ _ _ _ => (pv 4))) pa_nil))))), ?_⟩
    refine c_asgL (xs := (covP d.m d.M d.m).map fun q => .int (q.2 : Nat)) (Ex.refl H) (el_pairs (ep_covers (ev_var rfl) hL) (by omega) (fun x y => rfl) (fun x y => rfl)) fun l H1 hl _ e1 h1 => ?_
    have hA1 := e1 _ _ hA
    have hL1 := hL.ex e1
    generalize hls : (covP d.m d.M d.m).map (·.2) = ls
    have hls2 : (covP d.m d.M d.m).map (fun q => V.int (q.2 : Nat)) = ls.map fun x => V.int (x : Nat) := by
      rw [← hls, List.map_map]
      rfl
    have hll : ls.length ≤ 256 := by
      rw [← hls, List.length_map]
      omega
    rw [hls2] at h1
    refine b_retU (H0 := H1) (Ex.refl H1) (eu_tupN (el_lcR (n := d.m) (fun x => decide (V.int (((ls.filter fun y => y == x).length : Nat) : Int) = V.int 1)) (fun x => .int (x : Nat)) (by wtm_at "k49ea") (by omega) (fun x => rfl) ?_ ?_)) fun p H2 hp e12 _ h2 => k p H2 (fresh_back e1 hp) (e1.trans e12) (by rw [irrV_given, hls]; exact h2)
    · intro x H2 e2 hx
      rw [← given_list]
      refine et_test (ev_op (ev_lenN ?_) ev_c (rv_eq rfl))
      have hlen : (ls.map fun x => V.int (x : Nat)).length = ls.length := List.length_map ..
      rw [← hlen]
      refine el_lcL (xs := ls.map fun x => V.int (x : Nat)) (fun i => ls.getD i 0 == x) (fun i => .int (ls.getD i 0 : Nat)) (ev_var rfl) (sq_of (e2 _ _ h1)) (by rw [hlen]; omega) (fun x => rfl) ?_ ?_
      · intro i y H3 e3 hy
        have : y = V.int (ls.getD i 0 : Nat) := by
          rw [List.getElem?_map] at hy
          rw [List.getD_eq_getElem?_getD]
          cases hi : ls[i]? with
          | none => rw [hi] at hy; cases hy
          | some q => rw [hi] at hy; exact (Option.some.inj hy).symm
        subst this
        rw [← dec_nat]
        wtm_at "k49et"
      · intro i y H3 e3 hy hf
        have : y = V.int (ls.getD i 0 : Nat) := by
          rw [List.getElem?_map] at hy
          rw [List.getD_eq_getElem?_getD]
          cases hi : ls[i]? with
          | none => rw [hi] at hy; cases hy
          | some q => rw [hi] at hy; exact (Option.some.inj hy).symm
        subst this
        wtm_at "k49ev"
    · intro x H2 e2 hx hf
      wtm_at "k49ev"
theorem eu_irr {C : Addr} {H : Hp} {σ : L2.St} {d : LtD} {ta : TE} {E : XK} (ha : Ev ta σ H (.ref d.p)) (hL : LatAt C H d) : EvU (tMeth C "join_irreducibles" (spIrr C) [] E ta tNil) σ H (irrV d.m d.M) :=
  eu_meth0 ha hL.ob (lfs_no _ _ _ (by decide +kernel) (by decide +kernel) (by decide +kernel)) ea_nil fun H1 e Q q E => ⟨d, rfl, hL.ex e, q⟩
/-! ### images -/
def imgV (m : Nat) (M : Nat → Nat → Nat) : List V := fnl m fun x => .int (img m M x : Nat)
def spImages (C : Addr) : Sp := fun vs H Q _ => ∃ d : LtD, vs = [.ref d.p] ∧ LatAt C H d ∧ NoFail d.m d.J d.M ∧ RetU (imgV d.m d.M) H Q
theorem irrV_len {m : Nat} {M : Nat → Nat → Nat} : (irrV m M).length = (irr m M).length := List.length_map ..
theorem irrV_get {m : Nat} {M : Nat → Nat → Nat} {i : Nat} (h : i < (irr m M).length) : (irrV m M)[i]? = some (.int ((irr m M).getD i 0 : Nat)) := by
  unfold irrV
  rw [List.getElem?_map, List.getD_eq_getElem?_getD, List.getElem?_eq_getElem h]
  rfl
theorem irr_getD_lt {m : Nat} {M : Nat → Nat → Nat} {i : Nat} (h : i < (irr m M).length) : (irr m M).getD i 0 < m := by
  rw [List.getD_eq_getElem?_getD, List.getElem?_eq_getElem h]
  exact irr_lt (List.getElem_mem h)
theorem sc_images : FnScope ["lattice", "chosen", "found", "x", "k"] ["lattice"] (defScope s_images) := ⟨rfl, rfl, rfl, by decide +kernel, rfl, by decide +kernel, by decide +kernel⟩
theorem ok_images (T : Tx K mg) : FnOk P w K mg base CX0 4 T.a_images T.d_images ["lattice"] (spImages T.C) := by
  refine T.p_images.F.ok sc_images (fun vs H Q E h => ?_) (fun cdv A outer s H vs Q E hr h => ?_)
  · obtain ⟨d, rfl, _⟩ := h
    rfl
  · obtain ⟨d, rfl, hL, nf, k⟩ := h
    have hA := hL.ab
    have sm := hL.L.small
    have few := hL.L.few
    refine ⟨_, (pss_cons (ps_if (pt_not (pt_val (pe_meth0 (pv 0) T.cl T.p_m_is_distributive.m (ok_m_is_distributive T) (hr.mono (by decide)) T.p_m_is_distributive.b .nil pass0))) pss_never pss_nil)
  (pss_cons (ps_set (i := 1) sc_images.nd rfl (Or.inr rfl) (pe_meth0 (pv 0) T.cl T.p_m_join_irreducibles.m (ok_m_join_irreducibles T) (hr.mono (by decide)) T.p_m_join_irreducibles.b .nil pass0))
  (pss_cons (ps_if (pt_cmpR op_gt (pe_callB (glen (K := K) rfl) (by rfl) T.b_len (by decide +kernel) (pa_cons (pv 1) pa_nil)) pe_int (nomark _)) pss_never pss_nil)
  (pss_cons (ps_set (i := 2) sc_images.nd rfl (Or.inl rfl) (pe_lst pa_nil))
  (pss_cons (ps_for PassesOwn.never rfl (pi_range1 rfl T.b_range (pa_cons (pe_callB (glen (K := K) rfl) (by rfl) T.b_len (by decide +kernel) (pa_cons (gfld (K := K) rfl (pv 0) rfl) pa_nil)) pa_nil)) (pg_name (i := 3) sc_images.nd rfl (Or.inr rfl))
   (pss_one (ps_expr (gbm (K := K) rfl PySem.F.plainAttrs_list PySem.F.slot_list_append PySem.F.type_list_append mt_append (pv 2) (pa_cons (pe_call (ok_set_of T) (hr.mono (by decide)) rfl T.p_set_of.g T.p_set_of.k T.p_set_of.b .nil pass0 (pa_cons (pe_lc (own := [("k", 4)]) (g := (gName 4)) (by rfl) sc_images.nd (pi_range1 rfl T.b_range (pa_cons (pe_callB (glen (K := K) rfl) (by rfl) T.b_len (by decide +kernel) (pa_cons (pv 1) pa_nil)) pa_nil)) (blkOk_by (by kernel_rfl)) (fun _ _ _ _ _ => (pg_name (i := 4) sc_images.nd rfl (Or.inl rfl))) (fun _ _ _ _ _ => (pts_one (pt_val (pe_meth (pv 0) T.cl T.p_m_at_most.m (ok_m_at_most T) (hr.mono (by decide)) T.p_m_at_most.b .nil pass0 (pa_cons (pe_ix (gixT (K := K) rfl) (pv 1) (pv 4) (fun _ _ => rfl)) (pa_cons (pv 3) pa_nil)))))) (fun _ _ _ _ _ => (pv 4))) pa_nil)) pa_nil)))))
  (pss_one (ps_ret (pe_callTy (gtuple (K := K) rfl) (by rfl) T.b_tuple (by decide +kernel) (pa_cons (pv 2) pa_nil))))))))), ?_⟩
    refine c_not (Ex.refl H) (et_not (a := true) (et_B (ev_meth (ev_var rfl) hL.ob (lfs_no _ _ _ (by decide +kernel) (by decide +kernel) (by decide +kernel)) ea_nil fun H1 e Q q E => ⟨d, rfl, hL.ex e, nf, q⟩))) fun H1 _ e1 => ?_
    refine c_asgU (xs := irrV d.m d.M) e1 (eu_irr (ev_var rfl) hL) fun c H2 hc _ e2 h2 => ?_
    have hL2 := hL.ex e2
    have hA2 := e2 _ _ hA
    refine c_not (H0 := H2) (Ex.refl H2) ?_ fun H3 _ e3 => ?_
    · refine et_is (et_test (ev_op (ev_lenT (ev_var rfl) (st_of h2)) ev_c rv_I0)) ?_
      rw [irrV_len]
      exact decide_eq_false (by omega)
    refine c_asgL (xs := []) e3 (el_lst ea_nil (Nat.zero_le _)) fun l H4 hl e34 e4 h4 => ?_
    refine c_forR e4 (n := d.m) (by wtm_at "k49ea") (by omega) (fun i σ H' => Ex H2 H' ∧ (∃ vx vk, σ = [some (.ref d.p), some (.ref c), some (.ref l), vx, vk]) ∧ H' l = some (.lst (fnl i fun x => .int (img d.m d.M x : Nat))))
      (fun H5 e45 e5 => ⟨e5, ⟨_, _, rfl⟩, e45 _ _ h4⟩) ?_ ?_
    · rintro x σ H5 hx ⟨e5, ⟨vx, vk, rfl⟩, h5⟩
      refine b_app (v := .int (img d.m d.M x : Nat)) e5 h5 (ev_var rfl) (ev_set_of (n := (irr d.m d.M).length) ?_ (by omega)) (by rw [fnl_len]; omega) fun H6 e56 e6 => ⟨Ex.mut e6 (fresh_back e3 hl), ⟨_, _, rfl⟩, by rw [upd_same, fnl_succ]⟩
      refine el_lcR (n := (irr d.m d.M).length) (fun k => d.M ((irr d.m d.M).getD k 0) x == (irr d.m d.M).getD k 0) (fun k => .int (k : Nat)) ?_ (by omega) (fun x => rfl) ?_ ?_
      · rw [← irrV_len]
        exact ea_cons (ev_lenT (ev_var rfl) (st_of h2)) ea_nil
      · intro i H6 e6 hi
        exact et_B (ev_at_most (ev_var rfl) (hL2.ex e6) (irr_getD_lt hi) hx (ea_cons (ev_op (ev_var rfl) (ev_var rfl) (rv_ixT (st_of (e6 _ _ h2)) (atI_nat (irrV_get hi)))) (ea_cons (ev_var rfl) ea_nil)))
      · intro i H6 e6 hi hf
        wtm_at "k49ev"
    · rintro σ H5 ⟨e5, ⟨vx, vk, rfl⟩, h5⟩
      exact b_retU (H0 := H5) (Ex.refl H5) (eu_tupL (ev_var rfl) (sq_of h5)) fun p H6 hp e56 _ h6 => k p H6 (fresh_back (e2.trans e5) hp) ((e2.trans e5).trans e56) h6
/-! ### lattice_paper -/
def spPaper (C : Addr) : Sp := fun vs H Q _ => ∃ d : LtD, vs = [.ref d.p] ∧ LatAt C H d ∧
  (NoFail d.m d.J d.M → ∀ p q H', H p = none → Ex H H' → H' p = some (.tup [.str "lower", .int ((irr d.m d.M).length : Nat), .ref q]) → H' q = some (.tup (imgV d.m d.M)) → Q (.ref p) H') ∧
  ∀ x y z, LeastFail d.m d.J d.M x y z → ∀ p q H', H p = none → Ex H H' → H' p = some (.tup [.str "failure", .ref q]) → H' q = some (.tup [.int (x : Nat), .int (y : Nat), .int (z : Nat)]) → Q (.ref p) H'
theorem sc_lattice_paper : FnScope ["lattice", "failure"] ["lattice"] (defScope s_lattice_paper) := ⟨rfl, rfl, rfl, by decide +kernel, rfl, by decide +kernel, by decide +kernel⟩
theorem ok_lattice_paper (T : Tx K mg) : FnOk P w K mg base CX0 5 T.a_lattice_paper T.d_lattice_paper ["lattice"] (spPaper T.C) := by
  refine T.p_lattice_paper.F.ok sc_lattice_paper (fun vs H Q E h => ?_) (fun cdv A outer s H vs Q E hr h => ?_)
  · obtain ⟨d, rfl, _⟩ := h
    rfl
  · obtain ⟨d, rfl, hL, k1, k2⟩ := h
    refine ⟨_, (pss_cons (ps_set (i := 1) sc_lattice_paper.nd rfl (Or.inl rfl) (pe_meth0 (pv 0) T.cl T.p_m_distributive_failure.m (ok_m_distributive_failure T) (hr.mono (by decide)) T.p_m_distributive_failure.b .nil pass0))
  (pss_cons (ps_if (pt_cmpR op_notN1 (pv 1) pe_non (nomark _)) (pss_one (ps_ret (pe_tup (pa_cons pe_str (pa_cons (pv 1) pa_nil))))) pss_nil)
  (pss_one (ps_ret (pe_tup (pa_cons pe_str (pa_cons (pe_callB (glen (K := K) rfl) (by rfl) T.b_len (by decide +kernel) (pa_cons (pe_meth0 (pv 0) T.cl T.p_m_join_irreducibles.m (ok_m_join_irreducibles T) (hr.mono (by decide)) T.p_m_join_irreducibles.b .nil pass0) pa_nil)) (pa_cons (pe_call (ok_images T) (hr.mono (by decide)) rfl T.p_images.g T.p_images.k T.p_images.b .nil pass0 (pa_cons (pv 0) pa_nil)) pa_nil)))))))), ?_⟩
    refine ⟨_, rfl, d.p, d.dx, _, rfl, hL.ob, lfs_no _ _ _ (by decide +kernel) (by decide +kernel) (by decide +kernel), ⟨d, rfl, hL, fun nf H1 e1 => ?_, fun x y z lf q H1 hq e1 h1 => ?_⟩⟩
    · -- no failure
      refine c_not (H := H1) (H0 := H) e1 (et_is (et_test (ev_op (ev_var rfl) ev_c rv_notN)) (by rfl)) fun H2 _ e2 => ?_
      -- the tuple
      exact et3 ev_c (ev_lenU (eu_irr (ev_var rfl) hL)) (eu_call0 (ea_cons (ev_var rfl) ea_nil) fun H3 e3 Q q E => ⟨d, rfl, hL.ex e3, nf, q⟩) H2 e2 _ fun p q H3 hp e23 h3 h4 => k1 nf p q H3 (fresh_back e2 hp) (e2.trans e23) (by rw [irrV_len] at h3; exact h3) h4
    · refine b_if (b := true) (H := H1) (H0 := H1) (Ex.refl H1) (et_is (et_test (ev_op (ev_var rfl) ev_c rv_notN)) (by rfl)) (fun _ H2 e12 _ => ?_) (fun q => nomatch q)
      exact b_retU (xs := [.str "failure", .ref q]) (H0 := H2) (Ex.refl H2) (eu_tup (ea_cons ev_c (ea_cons (ev_var rfl) ea_nil)) (by show 2 ≤ 100000; decide)) fun p H3 hp e23 _ h3 => k2 x y z lf p q H3 (fresh_back (e1.trans e12) hp) ((e1.trans e12).trans e23) h3 ((e12.trans e23) _ _ h1)
end
end K49
namespace K49
open PySem L2 Evl
/-! ### the evaluator -/
local macro_rules | `(tactic| wtm_at "k49sd") => `(tactic| first
  | (with_reducible assumption)
  | decide
  | omega
  | ((with_reducible refine' Lat.ml ?k0 _ _ ?k1 ?k2); (case k0 => (with_reducible assumption)); (case k1 => wtm_at "k49sd"); (case k2 => wtm_at "k49sd"))
  | ((with_reducible refine' Lat.jl ?k0 _ _ ?k1 ?k2); (case k0 => (with_reducible assumption)); (case k1 => wtm_at "k49sd"); (case k2 => wtm_at "k49sd")))
local macro_rules | `(tactic| wtm_at "k49rv") => `(tactic| first
  | (with_reducible exact rv_and)
  | (with_reducible exact rv_or)
  | ((with_reducible refine' rv_shl1 ?k1); (case k1 => wtm_at "k49sd"))
  | (with_reducible exact rv_I0)
  | ((with_reducible refine' rv_T2 ?k1 ?k2 ?k3); (case k1 => (with_reducible assumption)); (case k2 => wtm_at "k49sd"); (case k3 => wtm_at "k49sd"))
  | ((with_reducible refine' rv_T1 ?k1 ?k2); (case k1 => (with_reducible assumption)); (case k2 => wtm_at "k49sd"))
  | ((with_reducible refine' rv_L2 ?k1 ?k2 ?k3); (case k1 => (with_reducible assumption)); (case k2 => wtm_at "k49sd"); (case k3 => wtm_at "k49sd"))
  | ((with_reducible refine' rv_L1 ?k1 ?k2); (case k1 => (with_reducible assumption)); (case k2 => wtm_at "k49sd"))
  | ((with_reducible refine' rv_fT' ?k1 ?k2 ?k3); (case k1 => (with_reducible assumption)); (case k2 => wtm_at "k49sd"); (case k3 => exact rfl))
  | ((with_reducible refine' rv_fL' ?k1 ?k2 ?k3); (case k1 => (with_reducible assumption)); (case k2 => wtm_at "k49sd"); (case k3 => exact rfl))
  | ((with_reducible refine' rv_mod ?k1); (case k1 => wtm_at "k49sd"))
  | ((with_reducible refine' rv_shr ?k1); (case k1 => wtm_at "k49sd"))
  | ((with_reducible refine' rv_I (C := CMul) ?k1); (case k1 => (first | exact Or.inr ⟨by decide, by decide⟩ | exact Or.inl ⟨by decide, by decide⟩ | exact Or.inl ⟨by omega, by omega⟩ | exact Or.inr ⟨by omega, by omega⟩)))
  | ((with_reducible refine' rv_I (C := CDiv) ?k1); (case k1 => (first | exact ⟨by decide, by decide⟩ | exact ⟨by omega, by omega⟩)))
  | ((with_reducible refine' rv_I (C := CPow) ?k1); (case k1 => (first | exact ⟨by omega, by omega, by decide⟩ | exact ⟨by omega, by omega, by omega⟩)))
  | ((with_reducible refine' rv_eq ?k1); (case k1 => rfl))
  | ((with_reducible refine' rv_ne ?k1); (case k1 => rfl))
  | (with_reducible exact rv_isN) | (with_reducible exact rv_notN) | (with_reducible exact rv_isB) | (with_reducible exact rv_notB)
  | (with_reducible assumption))
local macro_rules | `(tactic| wtm_at "k49ev") => `(tactic| first
  | (with_reducible exact ev_c)
  | (exact ev_var rfl)
  | ((with_reducible refine' ev_op ?k1 ?k2 ?k3); (case k1 => wtm_at "k49ev"); (case k2 => wtm_at "k49ev"); (case k3 => wtm_at "k49rv"))
  | ((with_reducible refine' ev_un ?k1 ru_neg); (case k1 => wtm_at "k49ev"))
  | ((with_reducible refine' ev_int1 ?k1); (case k1 => wtm_at "k49ev"))
  | ((with_reducible refine' ev_abs ?k1); (case k1 => wtm_at "k49ev"))
  | ((with_reducible refine' ev_above ?k1 ?k2 ?k3 ?k4); (case k1 => wtm_at "k49ev"); (case k2 => (with_reducible assumption)); (case k3 => exact Tx.cl ‹_›); (case k4 => exact Tx.n_above ‹_›))
  | ((with_reducible refine' ev_joins ?k1 ?k2 ?k3 ?k4); (case k1 => wtm_at "k49ev"); (case k2 => (with_reducible assumption)); (case k3 => exact Tx.cl ‹_›); (case k4 => exact Tx.n_joins ‹_›))
  | ((with_reducible refine' ev_meets ?k1 ?k2 ?k3 ?k4); (case k1 => wtm_at "k49ev"); (case k2 => (with_reducible assumption)); (case k3 => exact Tx.cl ‹_›); (case k4 => exact Tx.n_meets ‹_›))
  | ((with_reducible refine' ev_lenfT ?k1 ?k2); (case k1 => wtm_at "k49ev"); (case k2 => (with_reducible assumption)))
  | ((with_reducible refine' ev_lenfL ?k1 ?k2); (case k1 => wtm_at "k49ev"); (case k2 => (with_reducible assumption)))
  | ((with_reducible refine' ev_lenT ?k1 ?k2); (case k1 => wtm_at "k49ev"); (case k2 => wtm_at "k49sq"))
  | ((with_reducible refine' ev_len ?k1 ?k2); (case k1 => wtm_at "k49ev"); (case k2 => wtm_at "k49sq"))
  | ((with_reducible refine' ev_call0 ?k1 ?k2); (case k1 => wtm_at "k49ea"); (case k2 => wtm_at "k49sp"))
  | ((with_reducible refine' ev_notV ?k1); (case k1 => wtm_at "k49ev"))
  | ((with_reducible refine' ev_andV ?k1 ?k2); (case k1 => wtm_at "k49ev"); (case k2 => (intro _; wtm_at "k49ev")))
  | ((with_reducible refine' ev_orV ?k1 ?k2); (case k1 => wtm_at "k49ev"); (case k2 => (intro _; wtm_at "k49ev"))))
local macro_rules | `(tactic| wtm_at "k49ea") => `(tactic| first
  | (with_reducible exact ea_nil)
  | ((with_reducible refine' ea_cons ?k1 ?k2); (case k1 => wtm_at "k49ev"); (case k2 => wtm_at "k49ea")))
local macro_rules | `(tactic| wtm_at "k49sq") => `(tactic| first
  | (with_reducible assumption)
  | (refine' sq_of ?k1; (case k1 => (with_reducible assumption)))
  | (refine' st_of ?k1; (case k1 => (with_reducible assumption))))
local macro_rules | `(tactic| wtm_at "k49et") => `(tactic| first
  | ((with_reducible refine' et_test ?k1); (case k1 => wtm_at "k49ev"))
  | ((with_reducible refine' et_B ?k1); (case k1 => wtm_at "k49ev"))
  | ((with_reducible refine' et_and ?k1 ?k2); (case k1 => wtm_at "k49et"); (case k2 => (intro _; wtm_at "k49et")))
  | ((with_reducible refine' et_or ?k1 ?k2); (case k1 => wtm_at "k49et"); (case k2 => (intro _; wtm_at "k49et")))
  | ((with_reducible refine' et_not ?k1); (case k1 => wtm_at "k49et")))

section
variable {K : PySem.W.Frag} {σ : L2.St} {H H' H0 : Hp} {ta tb te tx : TE} {t u : TT} {x y z v : V} {D : Ends} {tu tw tz : TS}
theorem c_yes (e : Ex H0 H) (h : EvT t σ H0 true) (k : ∀ H1, Ex H H1 → Ex H0 H1 → tu { D with nx := tz D } σ H1) : tSeq (tIfS t tu tw) tz D σ H := b_if (D := { D with nx := tz D }) e h (fun _ => k) fun q => nomatch q
theorem c_when {b : Bool} (e : Ex H0 H) (h : EvT t σ H0 b) (h1 : b = true → ∀ H1, Ex H H1 → Ex H0 H1 → tu { D with nx := tz D } σ H1) (h2 : b = false → ∀ H1, Ex H H1 → Ex H0 H1 → tz D σ H1) : tSeq (tIfS t tu tNext) tz D σ H := b_if (D := { D with nx := tz D }) e h h1 h2
theorem b_when {b : Bool} (e : Ex H0 H) (h : EvT t σ H0 b) (h1 : b = true → ∀ H1, Ex H H1 → Ex H0 H1 → tu D σ H1) (h2 : b = false → ∀ H1, Ex H H1 → Ex H0 H1 → D.nx σ H1) : tIfS t tu tNext D σ H := b_if e h h1 h2
theorem b_yes (e : Ex H0 H) (h : EvT t σ H0 true) (k : ∀ H1, Ex H H1 → Ex H0 H1 → tu D σ H1) : tIfS t tu tw D σ H := b_if e h (fun _ => k) fun q => nomatch q
theorem et_or1 (h1 : EvT t σ H true) : EvT (tOr t u) σ H true := et_or (b := true) h1 fun q => nomatch q
theorem et_or0 {b : Bool} (h1 : EvT t σ H false) (h2 : EvT u σ H b) : EvT (tOr t u) σ H b := et_or (a := false) h1 fun _ => h2
theorem ev_andF (h1 : Ev ta σ H (.bl false)) : Ev (tAndV ta tb) σ H (.bl false) := ev_andV (a := false) (b := true) h1 fun q => nomatch q
theorem ev_andT {b : Bool} (h1 : Ev ta σ H (.bl true)) (h2 : Ev tb σ H (.bl b)) : Ev (tAndV ta tb) σ H (.bl b) := ev_andV (a := true) h1 fun _ => h2
theorem ev_isiT {a : Addr} {xs : List V} {T : String} {b : Bool} (h : Ev ta σ H (.ref a)) (ht : H a = some (.tup xs)) (hk : kitB "tuple" T = some b) : Ev (tCB (rIsi K) (tCons ta (tCons (tC (.ty T)) tNil))) σ H (.bl b) := ev_isi h (.base (.tup ht)) hk fun H1 e => .base (.tup (e _ _ ht))
theorem ev_isiL {a : Addr} {xs : List V} {T : String} {b : Bool} (h : Ev ta σ H (.ref a)) (ht : H a = some (.lst xs)) (hk : kitB "list" T = some b) : Ev (tCB (rIsi K) (tCons ta (tCons (tC (.ty T)) tNil))) σ H (.bl b) := ev_isi h (.base (.lst ht)) hk fun H1 e => .base (.lst (e _ _ ht))
theorem ev_isiN {T : String} {b : Bool} (h : Ev ta σ H .non) (hk : kitB "NoneType" T = some b) : Ev (tCB (rIsi K) (tCons ta (tCons (tC (.ty T)) tNil))) σ H (.bl b) := ev_isi h (.base .non) hk fun H1 e => .base .non
theorem rv_ixTn {p : Addr} {xs : List V} {k : Nat} (h : H p = some (.tup xs)) (hx : xs[k]? = some v) : RV (rIxT K) (.ref p) (.int (k : Int)) H v := rv_ixT (st_of h) (atI_nat hx)
theorem ev_len2 {p : Addr} {xs : List V} {i : Int} (ha : Ev ta σ H (.ref p)) (h : H p = some (.tup xs)) (e : (xs.length : Int) = i) : Ev (tCB (rLenS K) (tCons ta tNil)) σ H (.int i) := e ▸ ev_lenT ha (st_of h)
theorem k_tt : kitB "tuple" "tuple" = some true := by decide +kernel
theorem k_lt : kitB "list" "tuple" = some false := by decide +kernel
theorem k_nt : kitB "NoneType" "tuple" = some false := by decide +kernel
/-- t[:k], not the whole -/
theorem eu_slT {p : Addr} {xs : List V} {k : Nat} (h : Ev ta σ H (.ref p)) (hp : H p = some (.tup xs)) (hi : Ev tb σ H (.int (k : Int))) (hk : k < xs.length) : EvU (tSl (rSlA K) ta tNoPart (tPart tb)) σ H (xs.take k) := fun H1 e Q q =>
  h H1 e _ fun H2 e2 => hi H2 (e.trans e2) _ fun H3 e3 => ⟨(k : Int), rfl, p, xs, rfl, st_of (((e.trans e2).trans e3) _ _ hp), fun w => absurd w.2 (by rw [HT.sIx_nat]; omega), fun _ r hr => by
    have ec : cutV xs none (some (k : Int)) = xs.take k := by
      unfold cutV
      rw [HT.sIx_none, HT.sIx_nat, List.drop_zero, Nat.sub_zero, Nat.min_eq_left (by omega)]
    rw [ec]
    exact q r _ (fresh_back (e2.trans e3) hr) ((e2.trans e3).trans (Ex.new hr)) upd_same⟩
end
/-! ### what stands in a triple -/
def IB : V → Prop
  | .int _ => True
  | .bl _ => True
  | _ => False
def good (m : Nat) : V → Bool
  | .int i => decide (0 ≤ i) && decide (i < m)
  | _ => false
def num : V → Nat
  | .int i => i.toNat
  | _ => 0
theorem good_int {m : Nat} {i : Int} : good m (.int i) = (decide (0 ≤ i) && decide (i < m)) := rfl
theorem num_int {i : Int} : num (.int i) = i.toNat := rfl
theorem good_num {m : Nat} {v : V} (h : good m v = true) : v = .int (num v : Nat) ∧ num v < m := by
  cases v with
  | int i =>
    rw [good_int, Bool.and_eq_true, decide_eq_true_eq, decide_eq_true_eq] at h
    rw [num_int]
    constructor
    · congr 1; omega
    · omega
  | _ => cases h
inductive FailV (H : Hp) (d : LtD) : V → Bool → Prop where
  | lst {a : Addr} {xs : List V} (h : H a = some (.lst xs)) : FailV H d (.ref a) false
  | len {a : Addr} {xs : List V} (h : H a = some (.tup xs)) (hl : xs.length ≠ 3) : FailV H d (.ref a) false
  | tri {a : Addr} {u v w : V} {b : Bool} (h : H a = some (.tup [u, v, w])) (hu : IB u) (hv : IB v) (hw : IB w)
      (hb : b = (good d.m u && good d.m v && good d.m w && fl d.J d.M (num u) (num v) (num w))) : FailV H d (.ref a) b
theorem FailV.ex {H H' : Hp} {d : LtD} {v : V} {b : Bool} (e : Ex H H') (h : FailV H d v b) : FailV H' d v b := by
  cases h with
  | lst h => exact .lst (e _ _ h)
  | len h hl => exact .len (e _ _ h) hl
  | tri h hu hv hw hb => exact .tri (e _ _ h) hu hv hw hb
section
variable {P : Program} {w : World} {K : PySem.W.Frag} {mg : Str → Option Value} {base : Heap}
def spIsFail (C : Addr) : Sp := fun vs H Q _ => ∃ (d : LtD) (v : V) (b : Bool), vs = [.ref d.p, .int (d.m : Nat), v] ∧ LatAt C H d ∧ FailV H d v b ∧ RetV (.bl b) H Q
local macro_rules | `(tactic| wtm_at "k49sp") => `(tactic| first | exact sv_int_int | exact sv_int_bl | exact sv_has)
/-- one item of the triple looked at -/
theorem et_item {H : Hp} {σ : L2.St} {m : Nat} {v : V} {ta tb tc : TE} (hv : IB v) (h1 : Ev ta σ H v) (h2 : v ≠ .bl true → v ≠ .bl false → Ev tb σ H v) (h3 : Ev tc σ H (.int (m : Nat))) (h4 : v ≠ .bl true → v ≠ .bl false → Ev te σ H v) :
    EvT (tOr (tNot (tB (tCall (spIsInt K) [] E0 (tCons ta tNil)))) (tOr (tTest (tOp (rI0 fun i j => .bl (decide (i < j))) tb (tC (.int 0)))) (tTest (tOp (rI0 fun i j => .bl (decide (j ≤ i))) te tc)))) σ H (!good m v) := by
  cases v with
  | bl b =>
    have : EvT (tNot (tB (tCall (spIsInt K) [] E0 (tCons ta tNil)))) σ H true := et_not (a := false) (et_B (ev_call0 (ea_cons h1 ea_nil) sv_int_bl))
    exact et_or1 this
  | int i =>
    have a1 : EvT (tNot (tB (tCall (spIsInt K) [] E0 (tCons ta tNil)))) σ H false := et_not (a := true) (et_B (ev_call0 (ea_cons h1 ea_nil) sv_int_int))
    refine et_is (et_or0 a1 (et_or (et_test (ev_op (h2 (fun q => nomatch q) (fun q => nomatch q)) ev_c rv_I0)) fun _ => et_test (ev_op (h4 (fun q => nomatch q) (fun q => nomatch q)) h3 rv_I0))) ?_
    rw [good_int]
    by_cases c1 : i < 0
    · rw [decide_eq_true c1, decide_eq_false (show ¬ 0 ≤ i by omega)]
      rfl
    · rw [decide_eq_false c1, decide_eq_true (show 0 ≤ i by omega), Bool.false_or, Bool.true_and]
      by_cases c2 : i < (m : Int)
      · rw [decide_eq_true c2, decide_eq_false (show ¬ (m : Int) ≤ i by omega)]; rfl
      · rw [decide_eq_false c2, decide_eq_true (show (m : Int) ≤ i by omega)]; rfl
  | _ => exact hv.elim
theorem sc_is_failure : FnScope ["lattice", "size", "value", "x", "y", "z", "one"] ["lattice", "size", "value"] (defScope s_is_failure) := ⟨rfl, rfl, rfl, by decide +kernel, rfl, by decide +kernel, by decide +kernel⟩
theorem ok_is_failure (T : Tx K mg) : FnOk P w K mg base CX0 2 T.a_is_failure T.d_is_failure ["lattice", "size", "value"] (spIsFail T.C) := by
  refine T.p_is_failure.F.ok sc_is_failure (fun vs H Q E h => ?_) (fun cdv A outer s H vs Q E hr h => ?_)
  · obtain ⟨d, v, b, rfl, _⟩ := h
    rfl
  · obtain ⟨d, v, b, rfl, hL, hv, k⟩ := h
    refine ⟨_, (pss_cons (ps_if (PW.pt (pw_or (pt_not (pt_val (pe_callB (gisi (K := K) rfl) (by rfl) T.b_isinstance (by decide +kernel) (pa_cons (pv 2) (pa_cons (pe_bltn (v := .ty "tuple") (u := .type "tuple") rfl T.b_tuple (by decide +kernel) rfl) pa_nil))))) (pw_or1 (pt_cmpR op_ne (pe_callB (glen (K := K) rfl) (by rfl) T.b_len (by decide +kernel) (pa_cons (pv 2) pa_nil)) pe_int (nomark _))))) (pss_one (ps_ret pe_bl)) pss_nil)
  (pss_cons (ps_for PassesOwn.never rfl (gpiT (K := K) rfl (pv 2)) (pg_name (i := 3) sc_is_failure.nd rfl (Or.inl rfl))
   (pss_one (ps_if (PW.pt (pw_or (pt_not (pt_val (pe_call (ok_is_integer T) (hr.mono (by decide)) rfl T.p_is_integer.g T.p_is_integer.k T.p_is_integer.b .nil pass0 (pa_cons (pv 3) pa_nil)))) (pw_or (pt_cmpR op_lt (pv 3) pe_int (nomark _)) (pw_or1 (pt_cmpR op_ge (pv 3) (pv 1) (nomark _)))))) (pss_one (ps_ret pe_bl)) pss_nil)))
  (pss_cons (ps_asg (pv 2) (gptup (K := K) rfl rfl (pgs_cons (pg_name (i := 3) sc_is_failure.nd rfl (Or.inl rfl)) (pgs_cons (pg_name (i := 4) sc_is_failure.nd rfl (Or.inl rfl)) (pgs_cons (pg_name (i := 5) sc_is_failure.nd rfl (Or.inl rfl)) pgs_nil)))))
  (pss_cons (ps_set (i := 6) sc_is_failure.nd rfl (Or.inl rfl) (pe_meth (pv 0) T.cl T.p_m_met.m (ok_m_met T) (hr.mono (by decide)) T.p_m_met.b .nil pass0 (pa_cons (pv 3) (pa_cons (pe_meth (pv 0) T.cl T.p_m_joined.m (ok_m_joined T) (hr.mono (by decide)) T.p_m_joined.b .nil pass0 (pa_cons (pv 4) (pa_cons (pv 5) pa_nil))) pa_nil))))
  (pss_one (ps_ret (pe_cmpR op_ne (pv 6) (pe_meth (pv 0) T.cl T.p_m_joined.m (ok_m_joined T) (hr.mono (by decide)) T.p_m_joined.b .nil pass0 (pa_cons (pe_meth (pv 0) T.cl T.p_m_met.m (ok_m_met T) (hr.mono (by decide)) T.p_m_met.b .nil pass0 (pa_cons (pv 3) (pa_cons (pv 4) pa_nil))) (pa_cons (pe_meth (pv 0) T.cl T.p_m_met.m (ok_m_met T) (hr.mono (by decide)) T.p_m_met.b .nil pass0 (pa_cons (pv 3) (pa_cons (pv 5) pa_nil))) pa_nil))) (nomark _)))))))), ?_⟩
    cases hv with
    | lst ha => exact c_yes (Ex.refl H) (et_or1 (et_not (a := false) (et_B (ev_isiL (ev_var rfl) ha k_lt)))) fun H1 _ e1 => b_ret (H0 := H1) (Ex.refl H1) ev_c fun H2 e2 _ => k H2 (e1.trans e2)
    | len ha hl =>
      rename_i a xs
      refine c_yes (Ex.refl H) (et_or0 (et_not (a := true) (et_B (ev_isiT (ev_var rfl) ha k_tt))) (et_is (et_test (ev_op (ev_lenT (ev_var rfl) (st_of ha)) ev_c (rv_ne rfl))) ?_)) fun H1 _ e1 => b_ret (H0 := H1) (Ex.refl H1) ev_c fun H2 e2 _ => k H2 (e1.trans e2)
      have := dec_nat (a := xs.length) (b := 3)
      rw [show (V.int 3) = V.int ((3 : Nat) : Int) from rfl, this, beq_eq_false_iff_ne.mpr hl]
      rfl
    | tri ha hu hv hw hb =>
      rename_i a u v w
      refine c_not (Ex.refl H) (et_or0 (et_not (a := true) (et_B (ev_isiT (ev_var rfl) ha k_tt))) (et_is (et_test (ev_op (ev_lenT (ev_var rfl) (st_of ha)) ev_c (rv_ne rfl))) rfl)) fun H1 _ e1 => ?_
      refine c_forT e1 (a := a) (xs := [u, v, w]) (ev_var rfl) (st_of ha) (fun i σ H' => Ex H H' ∧ (∃ vx vy vz vo, σ = [some (.ref d.p), some (.int (d.m : Nat)), some (.ref a), vx, vy, vz, vo]) ∧ ∀ (j : Nat) z, j < i → [u, v, w][j]? = some z → good d.m z = true)
        (fun H2 _ e2 => ⟨e2, ⟨_, _, _, _, rfl⟩, fun j z hj => absurd hj (Nat.not_lt_zero _)⟩) (fun i σ H' _ p => st_of (p.1 _ _ ha)) ?_ ?_
      · rintro i x σ H2 hx ⟨e2, ⟨vx, vy, vz, vo, rfl⟩, hg⟩
        have hib : IB x := by
          have := List.mem_of_getElem? hx
          simp only [List.mem_cons, List.not_mem_nil, or_false] at this
          rcases this with rfl | rfl | rfl
          · exact hu
          · exact hv
          · exact hw
        refine b_if (b := !good d.m x) e2 (et_item (m := d.m) hib (ev_var rfl) (fun _ _ => ev_var rfl) (ev_var rfl) (fun _ _ => ev_var rfl)) (fun hx2 H3 _ e3 => ?_) (fun hx2 H3 _ e3 => ?_)
        · refine b_ret (H0 := H3) (Ex.refl H3) (v := .bl b) ?_ fun H4 e4 _ => k H4 (e3.trans e4)
          have : b = false := by
            rw [Bool.not_eq_true'] at hx2
            have := List.mem_of_getElem? hx
            simp only [List.mem_cons, List.not_mem_nil, or_false] at this
            rw [hb]
            rcases this with rfl | rfl | rfl
            · rw [hx2]; rfl
            · rw [hx2, Bool.and_false]; rfl
            · rw [hx2, Bool.and_false]; rfl
          subst this
          exact ev_c
        · refine ⟨e3, ⟨_, _, _, _, rfl⟩, fun j z hj hz => ?_⟩
          rcases Nat.lt_succ_iff_lt_or_eq.mp hj with h | h
          · exact hg j z h hz
          · subst h
            rw [hx] at hz
            cases hz
            simpa using hx2
      · rintro σ H2 ⟨e2, ⟨vx, vy, vz, vo, rfl⟩, hg⟩
        have g0 := hg 0 u (by show 0 < 3; decide) rfl
        have g1 := hg 1 v (by show 1 < 3; decide) rfl
        have g2 := hg 2 w (by show 2 < 3; decide) rfl
        obtain ⟨q0, l0⟩ := good_num g0
        obtain ⟨q1, l1⟩ := good_num g1
        obtain ⟨q2, l2⟩ := good_num g2
        rw [g0, g1, g2] at hb
        have hb' : b = fl d.J d.M (num u) (num v) (num w) := hb
        generalize num u = x at q0 l0 hb'
        generalize num v = y at q1 l1 hb'
        generalize num w = z at q2 l2 hb'
        subst q0
        subst q1
        subst q2
        subst hb'
        refine ⟨_, rfl, a, _, rfl, st_of (e2 _ _ ha), rfl, _, _, rfl, _, _, rfl, _, _, rfl, rfl, ?_⟩
        have lj := hL.L.jl _ _ l1 l2
        have lxy := hL.L.ml _ _ l0 l1
        have lxz := hL.L.ml _ _ l0 l2
        refine c_asg (v := .int (d.M x (d.J y z) : Nat)) e2 (ev_met (ev_var rfl) hL l0 lj (ea_cons (ev_var rfl) (ea_cons (ev_joined (ev_var rfl) hL l1 l2 (by wtm_at "k49ea")) ea_nil))) fun H3 _ e3 => ?_
        refine b_ret (v := .bl (fl d.J d.M x y z)) e3 ?_ fun H4 _ e4 => k H4 e4
        rw [← fl_eq]
        exact ev_op (ev_var rfl) (ev_joined (ev_var rfl) hL lxy lxz (ea_cons (ev_met (ev_var rfl) hL l0 l1 (by wtm_at "k49ea")) (ea_cons (ev_met (ev_var rfl) hL l0 l2 (by wtm_at "k49ea")) ea_nil))) (rv_ne rfl)
end
end K49
namespace K49
open PySem L2 Evl
/-! ### the evaluator -/
local macro_rules | `(tactic| wtm_at "k49sd") => `(tactic| first
  | (with_reducible assumption)
  | decide
  | omega
  | ((with_reducible refine' Lat.ml ?k0 _ _ ?k1 ?k2); (case k0 => (with_reducible assumption)); (case k1 => wtm_at "k49sd"); (case k2 => wtm_at "k49sd"))
  | ((with_reducible refine' Lat.jl ?k0 _ _ ?k1 ?k2); (case k0 => (with_reducible assumption)); (case k1 => wtm_at "k49sd"); (case k2 => wtm_at "k49sd")))
local macro_rules | `(tactic| wtm_at "k49rv") => `(tactic| first
  | (with_reducible exact rv_and)
  | (with_reducible exact rv_or)
  | ((with_reducible refine' rv_shl1 ?k1); (case k1 => wtm_at "k49sd"))
  | (with_reducible exact rv_I0)
  | ((with_reducible refine' rv_T2 ?k1 ?k2 ?k3); (case k1 => (with_reducible assumption)); (case k2 => wtm_at "k49sd"); (case k3 => wtm_at "k49sd"))
  | ((with_reducible refine' rv_T1 ?k1 ?k2); (case k1 => (with_reducible assumption)); (case k2 => wtm_at "k49sd"))
  | ((with_reducible refine' rv_L2 ?k1 ?k2 ?k3); (case k1 => (with_reducible assumption)); (case k2 => wtm_at "k49sd"); (case k3 => wtm_at "k49sd"))
  | ((with_reducible refine' rv_L1 ?k1 ?k2); (case k1 => (with_reducible assumption)); (case k2 => wtm_at "k49sd"))
  | ((with_reducible refine' rv_fT' ?k1 ?k2 ?k3); (case k1 => (with_reducible assumption)); (case k2 => wtm_at "k49sd"); (case k3 => exact rfl))
  | ((with_reducible refine' rv_fL' ?k1 ?k2 ?k3); (case k1 => (with_reducible assumption)); (case k2 => wtm_at "k49sd"); (case k3 => exact rfl))
  | ((with_reducible refine' rv_mod ?k1); (case k1 => wtm_at "k49sd"))
  | ((with_reducible refine' rv_shr ?k1); (case k1 => wtm_at "k49sd"))
  | ((with_reducible refine' rv_I (C := CMul) ?k1); (case k1 => (first | exact Or.inr ⟨by decide, by decide⟩ | exact Or.inl ⟨by decide, by decide⟩ | exact Or.inl ⟨by omega, by omega⟩ | exact Or.inr ⟨by omega, by omega⟩)))
  | ((with_reducible refine' rv_I (C := CDiv) ?k1); (case k1 => (first | exact ⟨by decide, by decide⟩ | exact ⟨by omega, by omega⟩)))
  | ((with_reducible refine' rv_I (C := CPow) ?k1); (case k1 => (first | exact ⟨by omega, by omega, by decide⟩ | exact ⟨by omega, by omega, by omega⟩)))
  | ((with_reducible refine' rv_eq ?k1); (case k1 => rfl))
  | ((with_reducible refine' rv_ne ?k1); (case k1 => rfl))
  | (with_reducible exact rv_isN) | (with_reducible exact rv_notN) | (with_reducible exact rv_isB) | (with_reducible exact rv_notB)
  | (with_reducible assumption))
local macro_rules | `(tactic| wtm_at "k49ev") => `(tactic| first
  | (with_reducible exact ev_c)
  | (exact ev_var rfl)
  | ((with_reducible refine' ev_op ?k1 ?k2 ?k3); (case k1 => wtm_at "k49ev"); (case k2 => wtm_at "k49ev"); (case k3 => wtm_at "k49rv"))
  | ((with_reducible refine' ev_un ?k1 ru_neg); (case k1 => wtm_at "k49ev"))
  | ((with_reducible refine' ev_int1 ?k1); (case k1 => wtm_at "k49ev"))
  | ((with_reducible refine' ev_abs ?k1); (case k1 => wtm_at "k49ev"))
  | ((with_reducible refine' ev_above ?k1 ?k2 ?k3 ?k4); (case k1 => wtm_at "k49ev"); (case k2 => (with_reducible assumption)); (case k3 => exact Tx.cl ‹_›); (case k4 => exact Tx.n_above ‹_›))
  | ((with_reducible refine' ev_joins ?k1 ?k2 ?k3 ?k4); (case k1 => wtm_at "k49ev"); (case k2 => (with_reducible assumption)); (case k3 => exact Tx.cl ‹_›); (case k4 => exact Tx.n_joins ‹_›))
  | ((with_reducible refine' ev_meets ?k1 ?k2 ?k3 ?k4); (case k1 => wtm_at "k49ev"); (case k2 => (with_reducible assumption)); (case k3 => exact Tx.cl ‹_›); (case k4 => exact Tx.n_meets ‹_›))
  | ((with_reducible refine' ev_lenfT ?k1 ?k2); (case k1 => wtm_at "k49ev"); (case k2 => (with_reducible assumption)))
  | ((with_reducible refine' ev_lenfL ?k1 ?k2); (case k1 => wtm_at "k49ev"); (case k2 => (with_reducible assumption)))
  | ((with_reducible refine' ev_lenT ?k1 ?k2); (case k1 => wtm_at "k49ev"); (case k2 => wtm_at "k49sq"))
  | ((with_reducible refine' ev_len ?k1 ?k2); (case k1 => wtm_at "k49ev"); (case k2 => wtm_at "k49sq"))
  | ((with_reducible refine' ev_call0 ?k1 ?k2); (case k1 => wtm_at "k49ea"); (case k2 => wtm_at "k49sp"))
  | ((with_reducible refine' ev_notV ?k1); (case k1 => wtm_at "k49ev"))
  | ((with_reducible refine' ev_andV ?k1 ?k2); (case k1 => wtm_at "k49ev"); (case k2 => (intro _; wtm_at "k49ev")))
  | ((with_reducible refine' ev_orV ?k1 ?k2); (case k1 => wtm_at "k49ev"); (case k2 => (intro _; wtm_at "k49ev"))))
local macro_rules | `(tactic| wtm_at "k49ea") => `(tactic| first
  | (with_reducible exact ea_nil)
  | ((with_reducible refine' ea_cons ?k1 ?k2); (case k1 => wtm_at "k49ev"); (case k2 => wtm_at "k49ea")))
local macro_rules | `(tactic| wtm_at "k49sq") => `(tactic| first
  | (with_reducible assumption)
  | (refine' sq_of ?k1; (case k1 => (with_reducible assumption)))
  | (refine' st_of ?k1; (case k1 => (with_reducible assumption))))
local macro_rules | `(tactic| wtm_at "k49et") => `(tactic| first
  | ((with_reducible refine' et_test ?k1); (case k1 => wtm_at "k49ev"))
  | ((with_reducible refine' et_B ?k1); (case k1 => wtm_at "k49ev"))
  | ((with_reducible refine' et_and ?k1 ?k2); (case k1 => wtm_at "k49et"); (case k2 => (intro _; wtm_at "k49et")))
  | ((with_reducible refine' et_or ?k1 ?k2); (case k1 => wtm_at "k49et"); (case k2 => (intro _; wtm_at "k49et")))
  | ((with_reducible refine' et_not ?k1); (case k1 => wtm_at "k49et")))

/-! ### papers -/
def BadV (H : Hp) (v : V) : Prop := (∃ b, v = .bl b) ∨ v = .non ∨ (∃ i : Int, i < 0 ∧ v = .int i) ∨ (∃ z, v = .str z) ∨ ∃ a xs, v = .ref a ∧ H a = some (.tup xs)
theorem BadV.ex {H H' : Hp} {v : V} (e : Ex H H') (h : BadV H v) : BadV H' v := by
  rcases h with h | h | h | h | ⟨a, xs, h1, h2⟩
  · exact .inl h
  · exact .inr (.inl h)
  · exact .inr (.inr (.inl h))
  · exact .inr (.inr (.inr (.inl h)))
  · exact .inr (.inr (.inr (.inr ⟨a, xs, h1, e _ _ h2⟩)))
/-- v is no number from 0 on -/
def BadN (v : V) : Prop := (∃ b, v = .bl b) ∨ ∃ i : Int, i < 0 ∧ v = .int i
inductive TakeV (H : Hp) (d : LtD) : V → Bool → Prop where
  | non : TakeV H d .non false
  | lst {a : Addr} {xs : List V} (h : H a = some (.lst xs)) : TakeV H d (.ref a) false
  | short {a : Addr} {xs : List V} (h : H a = some (.tup xs)) (hl : xs.length < 2) : TakeV H d (.ref a) false
  | fail {a : Addr} {v : V} {b : Bool} (h : H a = some (.tup [.str "failure", v])) (hv : FailV H d v b) : TakeV H d (.ref a) b
  | fail3 {a : Addr} {v u : V} (h : H a = some (.tup [.str "failure", v, u])) : TakeV H d (.ref a) false
  | lowLen {a : Addr} {v : V} {xs : List V} (h : H a = some (.tup (.str "lower" :: v :: xs))) (hl : xs.length ≠ 1) : TakeV H d (.ref a) false
  | lowN {a : Addr} {v u : V} (h : H a = some (.tup [.str "lower", v, u])) (hv : BadN v) : TakeV H d (.ref a) false
  | lowL {a c : Addr} {n : Nat} {xs : List V} (h : H a = some (.tup [.str "lower", .int (n : Int), .ref c])) (hc : H c = some (.lst xs)) : TakeV H d (.ref a) false
  | lowC {a c : Addr} {n : Nat} {xs : List V} (h : H a = some (.tup [.str "lower", .int (n : Int), .ref c])) (hc : H c = some (.tup xs)) (hl : xs.length ≠ d.m) : TakeV H d (.ref a) false
  | low {a c : Addr} {n : Nat} {xs : List V} {s : Nat → Nat} {t : Nat} {b : Bool} (h : H a = some (.tup [.str "lower", .int (n : Int), .ref c])) (hc : H c = some (.tup xs)) (hl : xs.length = d.m) (ht : t ≤ d.m)
      (hs : ∀ j, j < t → xs[j]? = some (.int (s j : Nat))) (hb : t < d.m → b = false ∧ ∃ v, xs[t]? = some v ∧ BadV H v) (hg : t = d.m → (b = true ↔ Goes d.m d.J d.M n s)) : TakeV H d (.ref a) b
theorem TakeV.ex {H H' : Hp} {d : LtD} {v : V} {b : Bool} (e : Ex H H') (h : TakeV H d v b) : TakeV H' d v b := by
  cases h with
  | non => exact .non
  | lst h => exact .lst (e _ _ h)
  | short h hl => exact .short (e _ _ h) hl
  | fail h hv => exact .fail (e _ _ h) (hv.ex e)
  | fail3 h => exact .fail3 (e _ _ h)
  | lowLen h hl => exact .lowLen (e _ _ h) hl
  | lowN h hv => exact .lowN (e _ _ h) hv
  | lowL h hc => exact .lowL (e _ _ h) (e _ _ hc)
  | lowC h hc hl => exact .lowC (e _ _ h) (e _ _ hc) hl
  | low h hc hl ht hs hb hg => exact .low (e _ _ h) (e _ _ hc) hl ht hs (fun q => ⟨(hb q).1, (hb q).2.elim fun v hv => ⟨v, hv.1, hv.2.ex e⟩⟩) hg
theorem d_lf : decide (V.str "lower" = V.str "failure") = false := by decide +kernel
theorem d_ff : decide (V.str "failure" = V.str "failure") = true := decide_eq_true rfl
theorem d_ll : decide (V.str "lower" = V.str "lower") = true := decide_eq_true rfl
section
variable {P : Program} {w : World} {K : PySem.W.Frag} {mg : Str → Option Value} {base : Heap}
def spTakes (C : Addr) : Sp := fun vs H Q _ => ∃ (d : LtD) (v : V) (b : Bool), vs = [.ref d.p, v] ∧ LatAt C H d ∧ TakeV H d v b ∧ RetV (.bl b) H Q
theorem ev_lenI {C : Addr} {H : Hp} {σ : L2.St} {d : LtD} {ta : TE} (ha : Ev ta σ H (.ref d.p)) (hL : LatAt C H d) : Ev (tCB (rLenI C (spLen C)) (tCons ta tNil)) σ H (.int (d.m : Nat)) := fun H1 e Q q =>
  ha H1 e _ fun H2 e2 => ⟨d.p, d.dx, _, rfl, (e.trans e2) _ _ hL.ob, d, rfl, hL.ex (e.trans e2), fun H3 e3 => ⟨d.m, rfl, by have := hL.L.small; omega, q H3 (e2.trans e3)⟩⟩
local macro_rules | `(tactic| wtm_at "k49sp") => `(tactic| first | exact sv_int_int | exact sv_int_bl | exact sv_has)
/-- is_integer of what stands there -/
theorem sv_bad {H : Hp} {v : V} (h : BadV H v) : ∃ b, SpV (spIsInt K) [v] H (.bl b) ∧ (b = true → ∃ i : Int, i < 0 ∧ v = .int i) := by
  rcases h with ⟨b, rfl⟩ | rfl | ⟨i, hi, rfl⟩ | ⟨z, rfl⟩ | ⟨a, xs, rfl, h2⟩
  · exact ⟨false, sv_int_bl, fun q => nomatch q⟩
  · exact ⟨false, sv_int_non, fun q => nomatch q⟩
  · exact ⟨true, sv_int_int, fun _ => ⟨i, hi, rfl⟩⟩
  · exact ⟨false, sv_int_str, fun q => nomatch q⟩
  · exact ⟨false, sv_int_tup h2, fun q => nomatch q⟩
theorem take_fnl {xs : List V} {s : Nat → Nat} {k : Nat} (hk : k ≤ xs.length) (h : ∀ j, j < k → xs[j]? = some (.int (s j : Nat))) : xs.take k = fnl k fun j => .int (s j : Nat) := by
  apply List.ext_getElem?
  intro i
  by_cases hi : i < k
  · rw [List.getElem?_take_of_lt hi, h i hi, fnl_get hi]
  · rw [List.getElem?_eq_none (by rw [List.length_take]; omega), List.getElem?_eq_none (by rw [fnl_len]; omega)]
theorem fnl_flat {k : Nat} {s : Nat → Nat} : (fnl k fun j => V.int (s j : Nat)).all flatV = true := by
  rw [List.all_eq_true]
  intro v hv
  obtain ⟨i, hi⟩ := List.getElem?_of_mem hv
  obtain ⟨_, rfl⟩ := fnl_of hi
  rfl
theorem in_fnl {k a : Nat} {s : Nat → Nat} : inV (.int (a : Nat)) (fnl k fun j => .int (s j : Nat)) = true ↔ ∃ j, j < k ∧ s j = a := by
  unfold inV
  rw [List.any_eq_true]
  constructor
  · rintro ⟨v, hv, he⟩
    obtain ⟨i, hi⟩ := List.getElem?_of_mem hv
    obtain ⟨h1, rfl⟩ := fnl_of hi
    refine ⟨i, h1, ?_⟩
    have : ((s i : Nat) : Int) = (a : Nat) := by simpa [eqV] using he
    omega
  · rintro ⟨j, hj, rfl⟩
    exact ⟨_, List.mem_of_getElem? (fnl_get hj), by simp [eqV]⟩
theorem sc_takes_lattice : FnScope ["lattice", "paper", "size", "images", "k", "x", "y"] ["lattice", "paper"] (defScope s_takes_lattice) := ⟨rfl, rfl, rfl, by decide +kernel, rfl, by decide +kernel, by decide +kernel⟩
theorem ok_takes_lattice (T : Tx K mg) : FnOk P w K mg base CX0 3 T.a_takes_lattice T.d_takes_lattice ["lattice", "paper"] (spTakes T.C) := by
  refine T.p_takes_lattice.F.ok sc_takes_lattice (fun vs H Q E h => ?_) (fun cdv A outer s H vs Q E hr h => ?_)
  · obtain ⟨d, v, b, rfl, _⟩ := h
    rfl
  · obtain ⟨d, v, b, rfl, hL, hv, k⟩ := h
    have sm := hL.L.small
    have L := hL.L
    refine ⟨_, (pss_cons (ps_if (PW.pt (pw_or (pt_not (pt_val (pe_callB (gisi (K := K) rfl) (by rfl) T.b_isinstance (by decide +kernel) (pa_cons (pv 1) (pa_cons (pe_bltn (v := .ty "tuple") (u := .type "tuple") rfl T.b_tuple (by decide +kernel) rfl) pa_nil))))) (pw_or1 (pt_cmpR op_lt (pe_callB (glen (K := K) rfl) (by rfl) T.b_len (by decide +kernel) (pa_cons (pv 1) pa_nil)) pe_int (nomark _))))) (pss_one (ps_ret pe_bl)) pss_nil)
  (pss_cons (ps_set (i := 2) sc_takes_lattice.nd rfl (Or.inl rfl) (pe_callB (glenI (C := T.C) (ok_m_len T) (hr.mono (by decide)) T.p_m_len.m.at_ T.p_m_len.m.fn T.p_m_len.b) (by rfl) T.b_len (by decide +kernel) (pa_cons (pv 0) pa_nil)))
  (pss_cons (ps_if (pt_cmpR op_eq (pe_ix (gixT (K := K) rfl) (pv 1) pe_int (fun _ _ => rfl)) pe_str (nomark _)) (pss_one (ps_ret (pe_and (pe_cmpR op_eq (pe_callB (glen (K := K) rfl) (by rfl) T.b_len (by decide +kernel) (pa_cons (pv 1) pa_nil)) pe_int (nomark _)) (pe_one (pe_call (ok_is_failure T) (hr.mono (by decide)) rfl T.p_is_failure.g T.p_is_failure.k T.p_is_failure.b .nil pass0 (pa_cons (pv 0) (pa_cons (pv 2) (pa_cons (pe_ix (gixT (K := K) rfl) (pv 1) pe_int (fun _ _ => rfl)) pa_nil)))))))) pss_nil)
  (pss_cons (ps_if (PW.pt (pw_or (pt_cmpR op_ne (pe_ix (gixT (K := K) rfl) (pv 1) pe_int (fun _ _ => rfl)) pe_str (nomark _)) (pw_or (pt_cmpR op_ne (pe_callB (glen (K := K) rfl) (by rfl) T.b_len (by decide +kernel) (pa_cons (pv 1) pa_nil)) pe_int (nomark _)) (pw_or (pt_not (pt_val (pe_call (ok_is_integer T) (hr.mono (by decide)) rfl T.p_is_integer.g T.p_is_integer.k T.p_is_integer.b .nil pass0 (pa_cons (pe_ix (gixT (K := K) rfl) (pv 1) pe_int (fun _ _ => rfl)) pa_nil)))) (pw_or1 (pt_cmpR op_lt (pe_ix (gixT (K := K) rfl) (pv 1) pe_int (fun _ _ => rfl)) pe_int (nomark _))))))) (pss_one (ps_ret pe_bl)) pss_nil)
  (pss_cons (ps_set (i := 3) sc_takes_lattice.nd rfl (Or.inl rfl) (pe_ix (gixT (K := K) rfl) (pv 1) pe_int (fun _ _ => rfl)))
  (pss_cons (ps_if (PW.pt (pw_or (pt_not (pt_val (pe_callB (gisi (K := K) rfl) (by rfl) T.b_isinstance (by decide +kernel) (pa_cons (pv 3) (pa_cons (pe_bltn (v := .ty "tuple") (u := .type "tuple") rfl T.b_tuple (by decide +kernel) rfl) pa_nil))))) (pw_or1 (pt_cmpR op_ne (pe_callB (glen (K := K) rfl) (by rfl) T.b_len (by decide +kernel) (pa_cons (pv 3) pa_nil)) (pv 2) (nomark _))))) (pss_one (ps_ret pe_bl)) pss_nil)
  (pss_cons (ps_for PassesOwn.never rfl (pi_range1 rfl T.b_range (pa_cons (pv 2) pa_nil)) (pg_name (i := 4) sc_takes_lattice.nd rfl (Or.inl rfl))
   (pss_one (ps_if (PW.pt (pw_or (pt_not (pt_val (pe_call (ok_is_integer T) (hr.mono (by decide)) rfl T.p_is_integer.g T.p_is_integer.k T.p_is_integer.b .nil pass0 (pa_cons (pe_ix (gixT (K := K) rfl) (pv 3) (pv 4) (fun _ _ => rfl)) pa_nil)))) (pw_or (pt_cmpR op_lt (pe_ix (gixT (K := K) rfl) (pv 3) (pv 4) (fun _ _ => rfl)) pe_int (nomark _)) (pw_or (pt_cmpR op_gt (pe_bits (pe_ix (gixT (K := K) rfl) (pv 3) (pv 4) (fun _ _ => rfl))) (pe_ix (gixT (K := K) rfl) (pv 1) pe_int (fun _ _ => rfl)) (nomark _)) (pw_or1 (pt_cmpR (gin (K := K) rfl) (pe_ix (gixT (K := K) rfl) (pv 3) (pv 4) (fun _ _ => rfl)) (pe_slice (gslT (K := K) rfl) (pv 3) po_none (po_some (pv 4))) (by rfl))))))) (pss_one (ps_ret pe_bl)) pss_nil)))
  (pss_cons (ps_for PassesOwn.never rfl (pi_range1 rfl T.b_range (pa_cons (pv 2) pa_nil)) (pg_name (i := 5) sc_takes_lattice.nd rfl (Or.inl rfl))
   (pss_one (ps_for PassesOwn.never rfl (pi_range1 rfl T.b_range (pa_cons (pv 2) pa_nil)) (pg_name (i := 6) sc_takes_lattice.nd rfl (Or.inl rfl))
   (pss_cons (ps_if (pt_cmpR op_ne (pe_ix (gixT (K := K) rfl) (pv 3) (pe_meth (pv 0) T.cl T.p_m_joined.m (ok_m_joined T) (hr.mono (by decide)) T.p_m_joined.b .nil pass0 (pa_cons (pv 5) (pa_cons (pv 6) pa_nil))) (fun _ _ => rfl)) (pe_op op_or (pe_ix (gixT (K := K) rfl) (pv 3) (pv 5) (fun _ _ => rfl)) (pe_ix (gixT (K := K) rfl) (pv 3) (pv 6) (fun _ _ => rfl))) (nomark _)) (pss_one (ps_ret pe_bl)) pss_nil)
  (pss_one (ps_if (pt_cmpR op_ne (pe_ix (gixT (K := K) rfl) (pv 3) (pe_meth (pv 0) T.cl T.p_m_met.m (ok_m_met T) (hr.mono (by decide)) T.p_m_met.b .nil pass0 (pa_cons (pv 5) (pa_cons (pv 6) pa_nil))) (fun _ _ => rfl)) (pe_op op_and (pe_ix (gixT (K := K) rfl) (pv 3) (pv 5) (fun _ _ => rfl)) (pe_ix (gixT (K := K) rfl) (pv 3) (pv 6) (fun _ _ => rfl))) (nomark _)) (pss_one (ps_ret pe_bl)) pss_nil))))))
  (pss_one (ps_ret pe_bl)))))))))), ?_⟩
    -- the first test, for a tuple of at least two items
    have two : ∀ {a : Addr} {xs : List V} {σ : L2.St}, H a = some (.tup xs) → 2 ≤ xs.length → σ[1]? = some (some (.ref a)) →
        EvT (tOr (tNot (tB (tCB (rIsi K) (tCons (tVar 1) (tCons (tC (.ty "tuple")) tNil))))) (tTest (tOp (rI0 fun i j => .bl (decide (i < j))) (tCB (rLenS K) (tCons (tVar 1) tNil)) (tC (.int 2))))) σ H false := fun {a xs σ} ha hl hσ =>
      et_or0 (et_not (a := true) (et_B (ev_isiT (ev_var hσ) ha k_tt))) (et_is (et_test (ev_op (ev_lenT (ev_var hσ) (st_of ha)) ev_c rv_I0)) (decide_eq_false (by omega)))
    -- the first word
    have w0 : ∀ {a : Addr} {xs : List V} {z : Str} {σ : L2.St}, H a = some (.tup (.str z :: xs)) → σ[1]? = some (some (.ref a)) → Ev (tOp (rIxT K) (tVar 1) (tC (.int 0))) σ H (.str z) := fun {a xs z σ} ha hσ =>
      ev_op (ev_var hσ) ev_c (rv_ixT (i := 0) (st_of ha) (atI_nat (j := 0) rfl))
    have w1 : ∀ {a : Addr} {xs : List V} {u v : V} {σ : L2.St}, H a = some (.tup (u :: v :: xs)) → σ[1]? = some (some (.ref a)) → Ev (tOp (rIxT K) (tVar 1) (tC (.int 1))) σ H v := fun {a xs u v σ} ha hσ =>
      ev_op (ev_var hσ) ev_c (rv_ixT (i := 1) (st_of ha) (atI_nat (j := 1) rfl))
    have w2 : ∀ {a : Addr} {xs : List V} {u v w : V} {σ : L2.St}, H a = some (.tup (u :: v :: w :: xs)) → σ[1]? = some (some (.ref a)) → Ev (tOp (rIxT K) (tVar 1) (tC (.int 2))) σ H w := fun {a xs u v w σ} ha hσ =>
      ev_op (ev_var hσ) ev_c (rv_ixT (i := 2) (st_of ha) (atI_nat (j := 2) rfl))
    cases hv with
    | non => exact c_yes (Ex.refl H) (et_or1 (et_not (a := false) (et_B (ev_isiN (ev_var rfl) k_nt)))) fun H1 _ e1 => b_ret (H0 := H1) (Ex.refl H1) ev_c fun H2 e2 _ => k H2 (e1.trans e2)
    | lst ha => exact c_yes (Ex.refl H) (et_or1 (et_not (a := false) (et_B (ev_isiL (ev_var rfl) ha k_lt)))) fun H1 _ e1 => b_ret (H0 := H1) (Ex.refl H1) ev_c fun H2 e2 _ => k H2 (e1.trans e2)
    | short ha hl =>
      exact c_yes (Ex.refl H) (et_or0 (et_not (a := true) (et_B (ev_isiT (ev_var rfl) ha k_tt))) (et_is (et_test (ev_op (ev_lenT (ev_var rfl) (st_of ha)) ev_c rv_I0)) (decide_eq_true (by omega)))) fun H1 _ e1 => b_ret (H0 := H1) (Ex.refl H1) ev_c fun H2 e2 _ => k H2 (e1.trans e2)
    | fail ha hf =>
      refine c_not (Ex.refl H) (two ha (by show 2 ≤ 2; decide) rfl) fun H1 _ e1 => ?_
      refine c_asg (v := .int (d.m : Nat)) e1 (ev_lenI (ev_var rfl) hL) fun H2 _ e2 => ?_
      refine c_yes e2 (et_is (et_test (ev_op (w0 ha rfl) ev_c (rv_eq rfl))) d_ff) fun H3 _ e3 => ?_
      refine b_ret (v := .bl b) e3 (ev_andT (ev_is (ev_op (ev_lenT (ev_var rfl) (st_of ha)) ev_c (rv_eq rfl)) rfl) ?_) fun H4 _ e4 => k H4 e4
      exact ev_call0 (ea_cons (ev_var rfl) (ea_cons (ev_var rfl) (ea_cons (w1 ha rfl) ea_nil))) fun H5 e5 Q q E => ⟨d, _, b, rfl, hL.ex e5, hf.ex e5, q⟩
    | fail3 ha =>
      refine c_not (Ex.refl H) (two ha (by show 2 ≤ 3; decide) rfl) fun H1 _ e1 => ?_
      refine c_asg (v := .int (d.m : Nat)) e1 (ev_lenI (ev_var rfl) hL) fun H2 _ e2 => ?_
      refine c_yes e2 (et_is (et_test (ev_op (w0 ha rfl) ev_c (rv_eq rfl))) d_ff) fun H3 _ e3 => ?_
      exact b_ret (v := .bl false) e3 (ev_andF (ev_is (ev_op (ev_lenT (ev_var rfl) (st_of ha)) ev_c (rv_eq rfl)) rfl)) fun H4 _ e4 => k H4 e4
    | lowLen ha hl =>
      rename_i a v xs
      refine c_not (Ex.refl H) (two ha (by rw [List.length_cons, List.length_cons]; omega) rfl) fun H1 _ e1 => ?_
      refine c_asg (v := .int (d.m : Nat)) e1 (ev_lenI (ev_var rfl) hL) fun H2 _ e2 => ?_
      refine c_not e2 (et_is (et_test (ev_op (w0 ha rfl) ev_c (rv_eq rfl))) d_lf) fun H3 _ e3 => ?_
      refine c_yes e3 (et_or0 (et_is (et_test (ev_op (w0 ha rfl) ev_c (rv_ne rfl))) (by rw [d_ll]; rfl)) (et_or1 (et_is (et_test (ev_op (ev_lenT (ev_var rfl) (st_of ha)) ev_c (rv_ne rfl))) ?_))) fun H4 _ e4 => b_ret (H0 := H4) (Ex.refl H4) ev_c fun H5 e5 _ => k H5 (e4.trans e5)
      have e := dec_nat (a := (V.str "lower" :: v :: xs).length) (b := 3)
      rw [show (V.int 3) = V.int ((3 : Nat) : Int) from rfl, e, beq_eq_false_iff_ne.mpr (by rw [List.length_cons, List.length_cons]; omega)]
      rfl
    | lowN ha hn =>
      rename_i a v u
      refine c_not (Ex.refl H) (two ha (by show 2 ≤ 3; decide) rfl) fun H1 _ e1 => ?_
      refine c_asg (v := .int (d.m : Nat)) e1 (ev_lenI (ev_var rfl) hL) fun H2 _ e2 => ?_
      refine c_not e2 (et_is (et_test (ev_op (w0 ha rfl) ev_c (rv_eq rfl))) d_lf) fun H3 _ e3 => ?_
      refine c_yes e3 (et_or0 (et_is (et_test (ev_op (w0 ha rfl) ev_c (rv_ne rfl))) (by rw [d_ll]; rfl)) (et_or0 (et_is (et_test (ev_op (ev_lenT (ev_var rfl) (st_of ha)) ev_c (rv_ne rfl))) rfl) ?_)) fun H4 _ e4 => b_ret (H0 := H4) (Ex.refl H4) ev_c fun H5 e5 _ => k H5 (e4.trans e5)
      rcases hn with ⟨c, rfl⟩ | ⟨i, hi, rfl⟩
      · exact et_or1 (et_not (a := false) (et_B (ev_call0 (ea_cons (w1 ha rfl) ea_nil) sv_int_bl)))
      · exact et_or0 (et_not (a := true) (et_B (ev_call0 (ea_cons (w1 ha rfl) ea_nil) sv_int_int))) (et_is (et_test (ev_op (w1 ha rfl) ev_c rv_I0)) (decide_eq_true hi))
    | lowL ha hc =>
      rename_i a c n xs
      refine c_not (Ex.refl H) (two ha (by show 2 ≤ 3; decide) rfl) fun H1 _ e1 => ?_
      refine c_asg (v := .int (d.m : Nat)) e1 (ev_lenI (ev_var rfl) hL) fun H2 _ e2 => ?_
      refine c_not e2 (et_is (et_test (ev_op (w0 ha rfl) ev_c (rv_eq rfl))) d_lf) fun H3 _ e3 => ?_
      refine c_not e3 (et_or0 (et_is (et_test (ev_op (w0 ha rfl) ev_c (rv_ne rfl))) (by rw [d_ll]; rfl)) (et_or0 (et_is (et_test (ev_op (ev_lenT (ev_var rfl) (st_of ha)) ev_c (rv_ne rfl))) rfl) (et_or0 (et_not (a := true) (et_B (ev_call0 (ea_cons (w1 ha rfl) ea_nil) sv_int_int))) (et_is (et_test (ev_op (w1 ha rfl) ev_c rv_I0)) (decide_eq_false (by omega)))))) fun H4 _ e4 => ?_
      refine c_asg (v := .ref c) e4 (w2 ha rfl) fun H5 _ e5 => ?_
      exact c_yes e5 (et_or1 (et_not (a := false) (et_B (ev_isiL (ev_var rfl) hc k_lt)))) fun H6 _ e6 => b_ret (H0 := H6) (Ex.refl H6) ev_c fun H7 e7 _ => k H7 (e6.trans e7)
    | lowC ha hc hl =>
      rename_i a c n xs
      refine c_not (Ex.refl H) (two ha (by show 2 ≤ 3; decide) rfl) fun H1 _ e1 => ?_
      refine c_asg (v := .int (d.m : Nat)) e1 (ev_lenI (ev_var rfl) hL) fun H2 _ e2 => ?_
      refine c_not e2 (et_is (et_test (ev_op (w0 ha rfl) ev_c (rv_eq rfl))) d_lf) fun H3 _ e3 => ?_
      refine c_not e3 (et_or0 (et_is (et_test (ev_op (w0 ha rfl) ev_c (rv_ne rfl))) (by rw [d_ll]; rfl)) (et_or0 (et_is (et_test (ev_op (ev_lenT (ev_var rfl) (st_of ha)) ev_c (rv_ne rfl))) rfl) (et_or0 (et_not (a := true) (et_B (ev_call0 (ea_cons (w1 ha rfl) ea_nil) sv_int_int))) (et_is (et_test (ev_op (w1 ha rfl) ev_c rv_I0)) (decide_eq_false (by omega)))))) fun H4 _ e4 => ?_
      refine c_asg (v := .ref c) e4 (w2 ha rfl) fun H5 _ e5 => ?_
      refine c_yes e5 (et_or0 (et_not (a := true) (et_B (ev_isiT (ev_var rfl) hc k_tt))) (et_is (et_test (ev_op (ev_lenT (ev_var rfl) (st_of hc)) (ev_var rfl) (rv_ne rfl))) ?_)) fun H6 _ e6 => b_ret (H0 := H6) (Ex.refl H6) ev_c fun H7 e7 _ => k H7 (e6.trans e7)
      rw [dec_nat, beq_eq_false_iff_ne.mpr hl]
      rfl
    | low ha hc hl ht hs hb hg =>
      rename_i a c n xs s t
      refine c_not (Ex.refl H) (two ha (by show 2 ≤ 3; decide) rfl) fun H1 _ e1 => ?_
      refine c_asg (v := .int (d.m : Nat)) e1 (ev_lenI (ev_var rfl) hL) fun H2 _ e2 => ?_
      refine c_not e2 (et_is (et_test (ev_op (w0 ha rfl) ev_c (rv_eq rfl))) d_lf) fun H3 _ e3 => ?_
      refine c_not e3 (et_or0 (et_is (et_test (ev_op (w0 ha rfl) ev_c (rv_ne rfl))) (by rw [d_ll]; rfl)) (et_or0 (et_is (et_test (ev_op (ev_lenT (ev_var rfl) (st_of ha)) ev_c (rv_ne rfl))) rfl) (et_or0 (et_not (a := true) (et_B (ev_call0 (ea_cons (w1 ha rfl) ea_nil) sv_int_int))) (et_is (et_test (ev_op (w1 ha rfl) ev_c rv_I0)) (decide_eq_false (by omega)))))) fun H4 _ e4 => ?_
      refine c_asg (v := .ref c) e4 (w2 ha rfl) fun H5 _ e5 => ?_
      refine c_not e5 (et_or0 (et_not (a := true) (et_B (ev_isiT (ev_var rfl) hc k_tt))) (et_is (et_test (ev_op (ev_lenT (ev_var rfl) (st_of hc)) (ev_var rfl) (rv_ne rfl))) (by rw [hl, dec_nat, beq_self_eq_true]; rfl))) fun H6 _ e6 => ?_
      have no : ∀ {H' : Hp}, Ex H H' → b = false → Q (.bl false) H' := fun {H'} e hbf => by
        have := k H' e
        rw [hbf] at this
        exact this
      -- each image by itself
      refine c_forR e6 (n := d.m) (by wtm_at "k49ea") (by omega) (fun i σ H' => Ex H H' ∧ (∃ vk vx vy, σ = [some (.ref d.p), some (.ref a), some (.int (d.m : Nat)), some (.ref c), vk, vx, vy]) ∧ i ≤ t ∧ ∀ j, j < i → s j < 2 ^ n ∧ ∀ l, l < j → s j ≠ s l)
        (fun H7 _ e7 => ⟨e7, ⟨_, _, _, rfl⟩, Nat.zero_le _, fun j hj => absurd hj (Nat.not_lt_zero _)⟩) ?_ ?_
      · rintro i σ H7 hi ⟨e7, ⟨vk, vx, vy, rfl⟩, hit, hgo⟩
        by_cases hti : i < t
        · -- an int
          have ix : ∀ {σ' : L2.St}, σ'[3]? = some (some (.ref c)) → σ'[4]? = some (some (.int (i : Int))) → Ev (tOp (rIxT K) (tVar 3) (tVar 4)) σ' H (.int (s i : Nat)) := fun h3 h4 => ev_op (ev_var h3) (ev_var h4) (rv_ixTn hc (hs i hti))
          refine b_if (b := (decide (((n : Nat) : Int) < (Builtin.Int.intBits ((s i : Nat) : Int) : Nat)) || inV (.int (s i : Nat)) (fnl i fun j => .int (s j : Nat)))) e7 ?_ (fun ht2 H8 _ e8 => ?_) (fun ht2 H8 _ e8 => ?_)
          · refine et_or0 (et_not (a := true) (et_B (ev_call0 (ea_cons (ix rfl rfl) ea_nil) sv_int_int))) (et_or0 (et_is (et_test (ev_op (ix rfl rfl) ev_c rv_I0)) (decide_eq_false (by omega))) (et_or (et_test (ev_op (ev_bits (ix rfl rfl)) (w1 ha rfl) rv_I0)) fun _ => et_test ?_))
            rw [← take_fnl (by omega) (fun j hj => hs j (by omega))]
            refine ev_inU (ix rfl rfl) (eu_slT (ev_var rfl) hc (ev_var rfl) (by omega)) rfl ?_
            rw [take_fnl (by omega) (fun j hj => hs j (by omega))]
            exact fnl_flat
          · refine b_ret (H0 := H8) (Ex.refl H8) ev_c fun H9 e9 _ => no (e8.trans e9) ?_
            by_cases htm : t < d.m
            · exact (hb htm).1
            · have tm : t = d.m := by omega
              have gg := hg tm
              cases hbb : b with
              | false => rfl
              | true =>
                exfalso
                have G := (gg.mp hbb).1 i hi
                rw [Bool.or_eq_true, decide_eq_true_eq] at ht2
                rcases ht2 with h | h
                · have : Builtin.Int.intBits ((s i : Nat) : Int) ≤ n := intBits_le_iff.mpr (by simpa using G.1)
                  omega
                · obtain ⟨j, hj, he⟩ := in_fnl.mp h
                  exact G.2 j hj he.symm
          · refine ⟨e8, ⟨_, _, _, rfl⟩, hti, fun j hj => ?_⟩
            rcases Nat.lt_succ_iff_lt_or_eq.mp hj with h | h
            · exact hgo j h
            · subst h
              rw [Bool.or_eq_false_iff, decide_eq_false_iff_not] at ht2
              refine ⟨?_, fun l hl2 he => ?_⟩
              · have : Builtin.Int.intBits ((s j : Nat) : Int) ≤ n := by omega
                have := intBits_le_iff.mp this
                simpa using this
              · have := in_fnl.mpr ⟨l, hl2, he.symm⟩
                rw [ht2.2] at this
                cases this
        · -- what is none
          have it : i = t := by omega
          subst it
          obtain ⟨hbf, v, hv, hbad⟩ := hb (by omega)
          have ix : ∀ {σ' : L2.St}, σ'[3]? = some (some (.ref c)) → σ'[4]? = some (some (.int (i : Int))) → Ev (tOp (rIxT K) (tVar 3) (tVar 4)) σ' H v := fun h3 h4 => ev_op (ev_var h3) (ev_var h4) (rv_ixTn hc hv)
          obtain ⟨bi, sv, hi2⟩ := sv_bad (K := K) hbad
          refine b_yes e7 ?_ fun H8 _ e8 => b_ret (H0 := H8) (Ex.refl H8) ev_c fun H9 e9 _ => no (e8.trans e9) hbf
          cases bi with
          | false => exact et_or1 (et_not (a := false) (et_B (ev_call0 (ea_cons (ix rfl rfl) ea_nil) sv)))
          | true =>
            obtain ⟨z, hz, rfl⟩ := hi2 rfl
            exact et_or0 (et_not (a := true) (et_B (ev_call0 (ea_cons (ix rfl rfl) ea_nil) sv))) (et_or1 (et_is (et_test (ev_op (ix rfl rfl) ev_c rv_I0)) (decide_eq_true hz)))
      · rintro σ H7 ⟨e7, ⟨vk, vx, vy, rfl⟩, hit, hgo⟩
        have tm : t = d.m := by omega
        subst tm
        have gg := hg rfl
        have ixn : ∀ {σ' : L2.St} {te : TE} {i : Nat}, i < d.m → σ'[3]? = some (some (.ref c)) → Ev te σ' H (.int (i : Nat)) → Ev (tOp (rIxT K) (tVar 3) te) σ' H (.int (s i : Nat)) := fun hi h3 h4 => ev_op (ev_var h3) h4 (rv_ixTn hc (hs _ hi))
        -- the pairs
        refine c_forR e7 (n := d.m) (by wtm_at "k49ea") (by omega) (fun i σ H' => Ex H H' ∧ (∃ vk vx vy, σ = [some (.ref d.p), some (.ref a), some (.int (d.m : Nat)), some (.ref c), vk, vx, vy]) ∧ ∀ x y, x < i → y < d.m → s (d.J x y) = s x ||| s y ∧ s (d.M x y) = s x &&& s y)
          (fun H8 _ e8 => ⟨e8, ⟨_, _, _, rfl⟩, fun x y hx => absurd hx (Nat.not_lt_zero _)⟩) ?_ ?_
        · rintro x σ H8 hx ⟨e8, ⟨vk, vx, vy, rfl⟩, hp⟩
          refine b_forR e8 (n := d.m) (by wtm_at "k49ea") (by omega) (fun i σ H' => Ex H H' ∧ (∃ vk vy, σ = [some (.ref d.p), some (.ref a), some (.int (d.m : Nat)), some (.ref c), vk, some (.int (x : Nat)), vy]) ∧ ∀ y, y < i → s (d.J x y) = s x ||| s y ∧ s (d.M x y) = s x &&& s y)
            (fun H9 _ e9 => ⟨e9, ⟨_, _, rfl⟩, fun y hy => absurd hy (Nat.not_lt_zero _)⟩) ?_ ?_
          · rintro y σ H9 hy ⟨e9, ⟨vk, vy, rfl⟩, hq⟩
            refine c_when (b := !(s (d.J x y) == (s x ||| s y))) e9 ?_ (fun h1 H10 _ e10 => ?_) (fun h1 H10 _ e10 => ?_)
            · rw [← dec_nat]
              exact et_test (ev_op (ixn (L.jl _ _ hx hy) rfl (ev_joined (ev_var rfl) hL hx hy (by wtm_at "k49ea"))) (ev_op (ixn hx rfl (ev_var rfl)) (ixn hy rfl (ev_var rfl)) rv_or) (rv_ne rfl))
            · refine b_ret (H0 := H10) (Ex.refl H10) ev_c fun H11 e11 _ => no (e10.trans e11) ?_
              cases hbb : b with
              | false => rfl
              | true =>
                have G := ((gg.mp hbb).2 x y hx hy).1
                rw [G, beq_self_eq_true] at h1
                cases h1
            · have j1 : s (d.J x y) = s x ||| s y := by simpa using h1
              refine b_if (b := !(s (d.M x y) == (s x &&& s y))) e10 ?_ (fun h2 H11 _ e11 => ?_) (fun h2 H11 _ e11 => ?_)
              · rw [← dec_nat]
                exact et_test (ev_op (ixn (L.ml _ _ hx hy) rfl (ev_met (ev_var rfl) hL hx hy (by wtm_at "k49ea"))) (ev_op (ixn hx rfl (ev_var rfl)) (ixn hy rfl (ev_var rfl)) rv_and) (rv_ne rfl))
              · refine b_ret (H0 := H11) (Ex.refl H11) ev_c fun H12 e12 _ => no (e11.trans e12) ?_
                cases hbb : b with
                | false => rfl
                | true =>
                  have G := ((gg.mp hbb).2 x y hx hy).2
                  rw [G, beq_self_eq_true] at h2
                  cases h2
              · have m1 : s (d.M x y) = s x &&& s y := by simpa using h2
                refine ⟨e11, ⟨_, _, rfl⟩, fun z hz => ?_⟩
                rcases Nat.lt_succ_iff_lt_or_eq.mp hz with h | h
                · exact hq z h
                · subst h; exact ⟨j1, m1⟩
          · rintro σ H9 ⟨e9, ⟨vk, vy, rfl⟩, hq⟩
            refine ⟨e9, ⟨_, _, _, rfl⟩, fun z y hz hy => ?_⟩
            rcases Nat.lt_succ_iff_lt_or_eq.mp hz with h | h
            · exact hp z y h hy
            · subst h; exact hq y hy
        · rintro σ H8 ⟨e8, ⟨vk, vx, vy, rfl⟩, hp⟩
          have : b = true := gg.mpr ⟨fun k hk => hgo k hk, hp⟩
          subst this
          exact b_ret (H0 := H8) (Ex.refl H8) ev_c fun H9 e9 _ => k H9 (e8.trans e9)
end
end K49
namespace K49
open PySem L2 Evl
/-! ### the evaluator -/
local macro_rules | `(tactic| wtm_at "k49sd") => `(tactic| first
  | (with_reducible assumption)
  | decide
  | omega
  | ((with_reducible refine' Lat.ml ?k0 _ _ ?k1 ?k2); (case k0 => (with_reducible assumption)); (case k1 => wtm_at "k49sd"); (case k2 => wtm_at "k49sd"))
  | ((with_reducible refine' Lat.jl ?k0 _ _ ?k1 ?k2); (case k0 => (with_reducible assumption)); (case k1 => wtm_at "k49sd"); (case k2 => wtm_at "k49sd")))
local macro_rules | `(tactic| wtm_at "k49rv") => `(tactic| first
  | (with_reducible exact rv_and)
  | (with_reducible exact rv_or)
  | ((with_reducible refine' rv_shl1 ?k1); (case k1 => wtm_at "k49sd"))
  | (with_reducible exact rv_I0)
  | ((with_reducible refine' rv_T2 ?k1 ?k2 ?k3); (case k1 => (with_reducible assumption)); (case k2 => wtm_at "k49sd"); (case k3 => wtm_at "k49sd"))
  | ((with_reducible refine' rv_T1 ?k1 ?k2); (case k1 => (with_reducible assumption)); (case k2 => wtm_at "k49sd"))
  | ((with_reducible refine' rv_L2 ?k1 ?k2 ?k3); (case k1 => (with_reducible assumption)); (case k2 => wtm_at "k49sd"); (case k3 => wtm_at "k49sd"))
  | ((with_reducible refine' rv_L1 ?k1 ?k2); (case k1 => (with_reducible assumption)); (case k2 => wtm_at "k49sd"))
  | ((with_reducible refine' rv_fT' ?k1 ?k2 ?k3); (case k1 => (with_reducible assumption)); (case k2 => wtm_at "k49sd"); (case k3 => exact rfl))
  | ((with_reducible refine' rv_fL' ?k1 ?k2 ?k3); (case k1 => (with_reducible assumption)); (case k2 => wtm_at "k49sd"); (case k3 => exact rfl))
  | ((with_reducible refine' rv_mod ?k1); (case k1 => wtm_at "k49sd"))
  | ((with_reducible refine' rv_shr ?k1); (case k1 => wtm_at "k49sd"))
  | ((with_reducible refine' rv_I (C := CMul) ?k1); (case k1 => (first | exact Or.inr ⟨by decide, by decide⟩ | exact Or.inl ⟨by decide, by decide⟩ | exact Or.inl ⟨by omega, by omega⟩ | exact Or.inr ⟨by omega, by omega⟩)))
  | ((with_reducible refine' rv_I (C := CDiv) ?k1); (case k1 => (first | exact ⟨by decide, by decide⟩ | exact ⟨by omega, by omega⟩)))
  | ((with_reducible refine' rv_I (C := CPow) ?k1); (case k1 => (first | exact ⟨by omega, by omega, by decide⟩ | exact ⟨by omega, by omega, by omega⟩)))
  | ((with_reducible refine' rv_eq ?k1); (case k1 => rfl))
  | ((with_reducible refine' rv_ne ?k1); (case k1 => rfl))
  | (with_reducible exact rv_isN) | (with_reducible exact rv_notN) | (with_reducible exact rv_isB) | (with_reducible exact rv_notB)
  | (with_reducible assumption))
local macro_rules | `(tactic| wtm_at "k49ev") => `(tactic| first
  | (with_reducible exact ev_c)
  | (exact ev_var rfl)
  | ((with_reducible refine' ev_op ?k1 ?k2 ?k3); (case k1 => wtm_at "k49ev"); (case k2 => wtm_at "k49ev"); (case k3 => wtm_at "k49rv"))
  | ((with_reducible refine' ev_un ?k1 ru_neg); (case k1 => wtm_at "k49ev"))
  | ((with_reducible refine' ev_int1 ?k1); (case k1 => wtm_at "k49ev"))
  | ((with_reducible refine' ev_abs ?k1); (case k1 => wtm_at "k49ev"))
  | ((with_reducible refine' ev_above ?k1 ?k2 ?k3 ?k4); (case k1 => wtm_at "k49ev"); (case k2 => (with_reducible assumption)); (case k3 => exact Tx.cl ‹_›); (case k4 => exact Tx.n_above ‹_›))
  | ((with_reducible refine' ev_joins ?k1 ?k2 ?k3 ?k4); (case k1 => wtm_at "k49ev"); (case k2 => (with_reducible assumption)); (case k3 => exact Tx.cl ‹_›); (case k4 => exact Tx.n_joins ‹_›))
  | ((with_reducible refine' ev_meets ?k1 ?k2 ?k3 ?k4); (case k1 => wtm_at "k49ev"); (case k2 => (with_reducible assumption)); (case k3 => exact Tx.cl ‹_›); (case k4 => exact Tx.n_meets ‹_›))
  | ((with_reducible refine' ev_lenfT ?k1 ?k2); (case k1 => wtm_at "k49ev"); (case k2 => (with_reducible assumption)))
  | ((with_reducible refine' ev_lenfL ?k1 ?k2); (case k1 => wtm_at "k49ev"); (case k2 => (with_reducible assumption)))
  | ((with_reducible refine' ev_lenT ?k1 ?k2); (case k1 => wtm_at "k49ev"); (case k2 => wtm_at "k49sq"))
  | ((with_reducible refine' ev_len ?k1 ?k2); (case k1 => wtm_at "k49ev"); (case k2 => wtm_at "k49sq"))
  | ((with_reducible refine' ev_call0 ?k1 ?k2); (case k1 => wtm_at "k49ea"); (case k2 => wtm_at "k49sp"))
  | ((with_reducible refine' ev_notV ?k1); (case k1 => wtm_at "k49ev"))
  | ((with_reducible refine' ev_andV ?k1 ?k2); (case k1 => wtm_at "k49ev"); (case k2 => (intro _; wtm_at "k49ev")))
  | ((with_reducible refine' ev_orV ?k1 ?k2); (case k1 => wtm_at "k49ev"); (case k2 => (intro _; wtm_at "k49ev"))))
local macro_rules | `(tactic| wtm_at "k49ea") => `(tactic| first
  | (with_reducible exact ea_nil)
  | ((with_reducible refine' ea_cons ?k1 ?k2); (case k1 => wtm_at "k49ev"); (case k2 => wtm_at "k49ea")))
local macro_rules | `(tactic| wtm_at "k49sq") => `(tactic| first
  | (with_reducible assumption)
  | (refine' sq_of ?k1; (case k1 => (with_reducible assumption)))
  | (refine' st_of ?k1; (case k1 => (with_reducible assumption))))
local macro_rules | `(tactic| wtm_at "k49et") => `(tactic| first
  | ((with_reducible refine' et_test ?k1); (case k1 => wtm_at "k49ev"))
  | ((with_reducible refine' et_B ?k1); (case k1 => wtm_at "k49ev"))
  | ((with_reducible refine' et_and ?k1 ?k2); (case k1 => wtm_at "k49et"); (case k2 => (intro _; wtm_at "k49et")))
  | ((with_reducible refine' et_or ?k1 ?k2); (case k1 => wtm_at "k49et"); (case k2 => (intro _; wtm_at "k49et")))
  | ((with_reducible refine' et_not ?k1); (case k1 => wtm_at "k49et")))

/-! ### the pairs of an order -/
structure PairsAt (H : Hp) (a : Addr) (ps : List (Nat × Nat)) (rs : List V) : Prop where
  l : H a = some (.lst rs)
  r : ∃ D, RefsO H D rs (ps.map prO)
theorem PairsAt.ex {H H' : Hp} {a : Addr} {ps : List (Nat × Nat)} {rs : List V} (h : PairsAt H a ps rs) (e : Ex H H') : PairsAt H' a ps rs := ⟨e _ _ h.l, let ⟨D, r⟩ := h.r; ⟨D, r.exs e⟩⟩
theorem PairsAt.len {H : Hp} {a : Addr} {ps : List (Nat × Nat)} {rs : List V} (h : PairsAt H a ps rs) : rs.length = ps.length := by
  obtain ⟨D, r⟩ := h.r
  rw [r.len, List.length_map]
theorem PairsAt.get {H : Hp} {a : Addr} {ps : List (Nat × Nat)} {rs : List V} (h : PairsAt H a ps rs) {i : Nat} {v : V} (hv : rs[i]? = some v) : ∃ t q, v = .ref t ∧ ps[i]? = some q ∧ H t = some (.tup [.int (q.1 : Nat), .int (q.2 : Nat)]) := by
  have hl := h.len
  obtain ⟨D, r⟩ := h.r
  have hi : i < ps.length := by
    have := (List.getElem?_eq_some_iff.mp hv).1
    omega
  obtain ⟨t, h1, _, h3⟩ := r.at_ i (prO ps[i]) (by rw [List.getElem?_map, List.getElem?_eq_getElem hi]; rfl)
  rw [hv] at h1
  cases h1
  exact ⟨t, ps[i], rfl, List.getElem?_eq_getElem hi, h3⟩
/-- the pairs of the order of M: x properly below y -/
def OrdP (m : Nat) (M : Nat → Nat → Nat) (ps : List (Nat × Nat)) : Prop := ∀ x y, (x, y) ∈ ps ↔ x < m ∧ y < m ∧ lt M x y = true
def orp (ps : List (Nat × Nat)) (x : Nat) : Nat := ps.foldl (fun o q => if q.1 = x then o ||| 2 ^ q.2 else o) 0
theorem orp_snoc (ps : List (Nat × Nat)) (q : Nat × Nat) (x : Nat) : orp (ps ++ [q]) x = if x = q.1 then orp ps x ||| 2 ^ q.2 else orp ps x := by
  unfold orp
  rw [List.foldl_append]
  show (if q.1 = x then _ else _) = _
  by_cases e : q.1 = x
  · rw [if_pos e, if_pos e.symm]
  · rw [if_neg e, if_neg (fun z => e z.symm)]
theorem orp_bit {x k : Nat} : ∀ (ps : List (Nat × Nat)) (a : Nat), (ps.foldl (fun o q => if q.1 = x then o ||| 2 ^ q.2 else o) a).testBit k = (a.testBit k || decide ((x, k) ∈ ps))
  | [], a => by simp
  | q :: r, a => by
    rw [List.foldl_cons, orp_bit r]
    by_cases e : q.1 = x
    · rw [if_pos e, Nat.testBit_or, Nat.testBit_two_pow, Bool.or_assoc]
      congr 1
      by_cases e2 : q.2 = k
      · have : q = (x, k) := by rw [← e, ← e2]
        rw [decide_eq_true e2, this, Bool.true_or, decide_eq_true List.mem_cons_self]
      · rw [decide_eq_false e2, Bool.false_or]
        have n : (x, k) ≠ q := fun z => e2 (by rw [← z])
        by_cases hm : (x, k) ∈ r
        · rw [decide_eq_true hm, decide_eq_true (List.mem_cons_of_mem _ hm)]
        · rw [decide_eq_false hm, decide_eq_false (fun z => (List.mem_cons.mp z).elim n hm)]
    · rw [if_neg e]
      congr 1
      have n : (x, k) ≠ q := fun z => e (by rw [← z])
      by_cases hm : (x, k) ∈ r
      · rw [decide_eq_true hm, decide_eq_true (List.mem_cons_of_mem _ hm)]
      · rw [decide_eq_false hm, decide_eq_false (fun z => (List.mem_cons.mp z).elim n hm)]
theorem orp_abv {m : Nat} {M : Nat → Nat → Nat} {ps : List (Nat × Nat)} (h : OrdP m M ps) {x : Nat} (hx : x < m) : orp ps x = abv m M x := by
  apply Nat.eq_of_testBit_eq
  intro i
  unfold orp abv
  rw [orp_bit, Nat.zero_testBit, Bool.false_or, msk_bit]
  by_cases hi : i < m
  · rw [decide_eq_true hi, Bool.true_and]
    by_cases hl : lt M x i = true
    · rw [hl, decide_eq_true ((h x i).mpr ⟨hx, hi, hl⟩)]
    · rw [decide_eq_false (fun z => hl ((h x i).mp z).2.2)]
      simpa using hl
  · rw [decide_eq_false hi, Bool.false_and, decide_eq_false (fun z => hi ((h x i).mp z).2.1)]
theorem Lat.lt_trans {m : Nat} {J M : Nat → Nat → Nat} (L : Lat m J M) {x y z : Nat} (hx : x < m) (hy : y < m) (hz : z < m) (a : lt M x y = true) (b : lt M y z = true) : lt M x z = true := by
  have p := lt_iff.mp a
  have q := lt_iff.mp b
  refine lt_iff.mpr ⟨fun e => ?_, L.trans hx hy hz p.2 q.2⟩
  subst e
  exact p.1 (L.anti hx hy p.2 q.2)
theorem Lat.abv_abs {m : Nat} {J M : Nat → Nat → Nat} (L : Lat m J M) {x y : Nat} (hx : x < m) (hy : y < m) (h : lt M x y = true) : abv m M x ||| abv m M y = abv m M x := by
  apply Nat.eq_of_testBit_eq
  intro i
  rw [Nat.testBit_or]
  by_cases hi : i < m
  · rw [abv_bit hi, abv_bit hi]
    cases h1 : lt M x i with
    | true => rfl
    | false =>
      cases h2 : lt M y i with
      | false => rfl
      | true => rw [L.lt_trans hx hy hi h h2] at h1; cases h1
  · unfold abv
    rw [msk_bit, msk_bit, decide_eq_false hi, Bool.false_and, Bool.false_and]
    rfl
section
variable {P : Program} {w : World} {K : PySem.W.Frag} {mg : Str → Option Value} {base : Heap}
local macro_rules | `(tactic| wtm_at "k49sp") => `(tactic| first | exact sv_int_int | exact sv_int_bl | exact sv_has)
/-! ### checked_pairs -/
def spChecked : Sp := fun vs H Q _ => ∃ (m : Nat) (a : Addr) (ps : List (Nat × Nat)) (rs : List V), vs = [.int (m : Nat), .ref a] ∧ PairsAt H a ps rs ∧ (∀ q ∈ ps, q.1 < m ∧ q.2 < m) ∧ RetV (.ref a) H Q
theorem kit2 {K : PySem.W.Frag} : PySem.W.kitAny K (.type "list") [.type "list", .type "tuple"] = some true :=
  kitAny_cons (b := true) (kit_ty (by decide +kernel)) (fun q => nomatch q) fun _ => rfl
theorem ev_isi2 {H : Hp} {σ : L2.St} {ta : TE} {a : Addr} {xs : List V} (h : Ev ta σ H (.ref a)) (ha : H a = some (.lst xs)) : Ev (tCB (rIsiT K) (tCons ta (tCons (tTup (tCons (tC (.ty "list")) (tCons (tC (.ty "tuple")) tNil))) tNil))) σ H (.bl true) := fun H1 e Q q =>
  h H1 e _ fun H2 e2 => ⟨by show 2 ≤ sizeLine; exact sz_of (by decide), fun p hp => ⟨.ref a, p, _, .type "list", _, true, rfl, upd_same, .cons (.ty _) (.cons (.ty _) .nil), .base (.lst ((e2.trans (Ex.new hp)) _ _ (e _ _ ha))), kit2, q _ (e2.trans (Ex.new hp))⟩⟩
theorem sc_checked_pairs : FnScope ["n", "pairs", "pair", "x"] ["n", "pairs"] (defScope s_checked_pairs) := ⟨rfl, rfl, rfl, by decide +kernel, rfl, by decide +kernel, by decide +kernel⟩
theorem ok_checked_pairs (T : Tx K mg) : FnOk P w K mg base CX0 2 T.a_checked_pairs T.d_checked_pairs ["n", "pairs"] spChecked := by
  refine T.p_checked_pairs.F.ok sc_checked_pairs (fun vs H Q E h => ?_) (fun cdv A outer s H vs Q E hr h => ?_)
  · obtain ⟨m, a, ps, rs, rfl, _⟩ := h
    rfl
  · obtain ⟨m, a, ps, rs, rfl, hP, hq, k⟩ := h
    refine ⟨_, (pss_cons (ps_if (pt_not (pt_val (pe_callB (gisiT (K := K) rfl) (by rfl) T.b_isinstance (by decide +kernel) (pa_cons (pv 1) (pa_cons (pe_tup (pa_cons (pe_bltn (v := .ty "list") (u := .type "list") rfl T.b_list (by decide +kernel) rfl) (pa_cons (pe_bltn (v := .ty "tuple") (u := .type "tuple") rfl T.b_tuple (by decide +kernel) rfl) pa_nil))) pa_nil))))) pss_never pss_nil)
  (pss_cons (ps_for PassesOwn.never rfl (gpiL (K := K) rfl (pv 1)) (pg_name (i := 2) sc_checked_pairs.nd rfl (Or.inl rfl))
   (pss_cons (ps_if (PW.pt (pw_or (pt_not (pt_val (pe_callB (gisi (K := K) rfl) (by rfl) T.b_isinstance (by decide +kernel) (pa_cons (pv 2) (pa_cons (pe_bltn (v := .ty "tuple") (u := .type "tuple") rfl T.b_tuple (by decide +kernel) rfl) pa_nil))))) (pw_or1 (pt_cmpR op_ne (pe_callB (glen (K := K) rfl) (by rfl) T.b_len (by decide +kernel) (pa_cons (pv 2) pa_nil)) pe_int (nomark _))))) pss_never pss_nil)
  (pss_one (ps_for PassesOwn.never rfl (gpiT (K := K) rfl (pv 2)) (pg_name (i := 3) sc_checked_pairs.nd rfl (Or.inl rfl))
   (pss_one (ps_if (PW.pt (pw_or (pt_not (pt_val (pe_call (ok_is_integer T) (hr.mono (by decide)) rfl T.p_is_integer.g T.p_is_integer.k T.p_is_integer.b .nil pass0 (pa_cons (pv 3) pa_nil)))) (pw_or (pt_cmpR op_lt (pv 3) pe_int (nomark _)) (pw_or1 (pt_cmpR op_ge (pv 3) (pv 0) (nomark _)))))) pss_never pss_nil))))))
  (pss_one (ps_ret (pv 1))))), ?_⟩
    refine c_not (Ex.refl H) (et_not (a := true) (et_B (ev_isi2 (ev_var rfl) hP.l))) fun H1 _ e1 => ?_
    refine c_forL e1 (a := a) (xs := rs) (ev_var rfl) (sq_of hP.l) (fun i σ H' => Ex H H' ∧ ∃ vp vx, σ = [some (.int (m : Nat)), some (.ref a), vp, vx]) (fun H2 _ e2 => ⟨e2, _, _, rfl⟩) (fun i σ H' _ p => sq_of (p.1 _ _ hP.l)) ?_ ?_
    · rintro i x σ H2 hx ⟨e2, vp, vx, rfl⟩
      obtain ⟨t, q, rfl, hqi, ht⟩ := hP.get hx
      obtain ⟨q1, q2⟩ := hq q (List.mem_of_getElem? hqi)
      refine c_not e2 (et_or0 (et_not (a := true) (et_B (ev_isiT (ev_var rfl) ht k_tt))) (et_is (et_test (ev_op (ev_lenT (ev_var rfl) (st_of ht)) ev_c (rv_ne rfl))) rfl)) fun H3 _ e3 => ?_
      refine b_forT e3 (a := t) (xs := [.int (q.1 : Nat), .int (q.2 : Nat)]) (ev_var rfl) (st_of ht) (fun i σ H' => Ex H H' ∧ ∃ vx, σ = [some (.int (m : Nat)), some (.ref a), some (.ref t), vx]) (fun H4 _ e4 => ⟨e4, _, rfl⟩) (fun i σ H' _ p => st_of (p.1 _ _ ht)) ?_ ?_
      · rintro j y σ H4 hy ⟨e4, vx, rfl⟩
        have hyy := List.mem_of_getElem? hy
        simp only [List.mem_cons, List.not_mem_nil, or_false] at hyy
        have hg : IB y ∧ good m y = true := by
          rcases hyy with rfl | rfl
          · exact ⟨True.intro, by rw [good_int, decide_eq_true (by omega), decide_eq_true (by omega)]; rfl⟩
          · exact ⟨True.intro, by rw [good_int, decide_eq_true (by omega), decide_eq_true (by omega)]; rfl⟩
        refine b_not e4 (et_is (et_item (m := m) hg.1 (ev_var rfl) (fun _ _ => ev_var rfl) (ev_var rfl) (fun _ _ => ev_var rfl)) (by rw [hg.2]; rfl)) fun H5 _ e5 => ⟨e5, _, rfl⟩
      · rintro σ H4 ⟨e4, vx, rfl⟩
        exact ⟨e4, _, _, rfl⟩
    · rintro σ H2 ⟨e2, vp, vx, rfl⟩
      exact b_ret e2 (ev_var rfl) fun H3 _ e3 => k H3 e3
/-! ### closed_above -/
def spClosed : Sp := fun vs H Q _ => ∃ (m : Nat) (J M : Nat → Nat → Nat) (a : Addr) (ps : List (Nat × Nat)) (rs : List V), vs = [.int (m : Nat), .ref a] ∧ PairsAt H a ps rs ∧ Lat m J M ∧ OrdP m M ps ∧ RetU (fnl m fun x => .int (abv m M x : Nat)) H Q
theorem sc_closed_above : FnScope ["n", "pairs", "above", "x", "y", "_"] ["n", "pairs"] (defScope s_closed_above) := ⟨rfl, rfl, rfl, by decide +kernel, rfl, by decide +kernel, by decide +kernel⟩
theorem ok_closed_above (T : Tx K mg) : FnOk P w K mg base CX0 2 T.a_closed_above T.d_closed_above ["n", "pairs"] spClosed := by
  refine T.p_closed_above.F.ok sc_closed_above (fun vs H Q E h => ?_) (fun cdv A outer s H vs Q E hr h => ?_)
  · obtain ⟨m, J, M, a, ps, rs, rfl, _⟩ := h
    rfl
  · obtain ⟨m, J, M, a, ps, rs, rfl, hP, L, ho, k⟩ := h
    have sm := L.small
    refine ⟨_, (pss_cons (ps_setLc (i := 2) (own := [("_", 5)]) (g := (gName 5)) (by rfl) sc_closed_above.nd rfl rfl (sw_true rfl rfl rfl (by kernel_rfl)) (pi_range1 rfl T.b_range (pa_cons (pv 0) pa_nil)) (blkOk_by (by kernel_rfl)) (fun _ _ _ _ _ => (pg_name (i := 5) sc_closed_above.nd rfl (Or.inl rfl))) (fun _ _ _ _ _ => pts_nil) (fun _ _ _ _ _ => pe_int))
  (pss_cons (ps_for PassesOwn.never rfl (gpiL (K := K) rfl (pv 1)) (gptup (K := K) rfl rfl (pgs_cons (pg_name (i := 3) sc_closed_above.nd rfl (Or.inl rfl)) (pgs_cons (pg_name (i := 4) sc_closed_above.nd rfl (Or.inl rfl)) pgs_nil)))
   (pss_one (ps_asg (pe_op op_or (pe_ix (gixL (K := K) rfl) (pv 2) (pv 3) (fun _ _ => rfl)) (pe_op op_shl pe_int (pv 4))) (pg_sub (pv 2) (pv 3) set_list))))
  (pss_cons (ps_for PassesOwn.never rfl (pi_range1 rfl T.b_range (pa_cons (pv 0) pa_nil)) (pg_name (i := 4) sc_closed_above.nd rfl (Or.inl rfl))
   (pss_one (ps_for PassesOwn.never rfl (pi_range1 rfl T.b_range (pa_cons (pv 0) pa_nil)) (pg_name (i := 3) sc_closed_above.nd rfl (Or.inl rfl))
   (pss_one (ps_if (pt_val (pe_call (ok_has T) (hr.mono (by decide)) rfl T.p_has.g T.p_has.k T.p_has.b .nil pass0 (pa_cons (pe_ix (gixL (K := K) rfl) (pv 2) (pv 3) (fun _ _ => rfl)) (pa_cons (pv 4) pa_nil)))) (pss_one (ps_asg (pe_op op_or (pe_ix (gixL (K := K) rfl) (pv 2) (pv 3) (fun _ _ => rfl)) (pe_ix (gixL (K := K) rfl) (pv 2) (pv 4) (fun _ _ => rfl))) (pg_sub (pv 2) (pv 3) set_list))) pss_nil)))))
  (pss_cons (ps_for PassesOwn.never rfl (pi_range1 rfl T.b_range (pa_cons (pv 0) pa_nil)) (pg_name (i := 3) sc_closed_above.nd rfl (Or.inl rfl))
   (pss_one (ps_if (pt_val (pe_call (ok_has T) (hr.mono (by decide)) rfl T.p_has.g T.p_has.k T.p_has.b .nil pass0 (pa_cons (pe_ix (gixL (K := K) rfl) (pv 2) (pv 3) (fun _ _ => rfl)) (pa_cons (pv 3) pa_nil)))) pss_never pss_nil)))
  (pss_one (ps_ret (pe_callTy (gtuple (K := K) rfl) (by rfl) T.b_tuple (by decide +kernel) (pa_cons (pv 2) pa_nil)))))))), ?_⟩
    refine c_asgL (xs := fnl m fun _ => .int 0) (Ex.refl H) ?_ fun l H1 hl _ e1 h1 => ?_
    · rw [← given_all]
      exact el_lcR (n := m) (fun _ => true) (fun _ => .int 0) (by wtm_at "k49ea") (by omega) (fun x => rfl) (fun i H1 e hi => et_yes) (fun i H1 e hi hf => ev_c)
    -- the pairs
    refine c_forL (H0 := H1) (Ex.refl H1) (a := a) (xs := rs) (ev_var rfl) (sq_of (e1 _ _ hP.l)) (fun i σ H' => Ex H H' ∧ (∃ vx vy vu, σ = [some (.int (m : Nat)), some (.ref a), some (.ref l), vx, vy, vu]) ∧ H' l = some (.lst (fnl m fun x => .int (orp (ps.take i) x : Nat))))
      (fun H2 e12 _ => ⟨e1.trans e12, ⟨_, _, _, rfl⟩, e12 _ _ h1⟩) (fun i σ H' _ p => sq_of (p.1 _ _ hP.l)) ?_ ?_
    · rintro i x σ H2 hx ⟨e2, ⟨vx, vy, vu, rfl⟩, h2⟩
      obtain ⟨t, q, rfl, hqi, ht⟩ := hP.get hx
      obtain ⟨q1, q2, _⟩ := (ho q.1 q.2).mp (List.mem_of_getElem? hqi)
      have ht2 := e2 _ _ ht
      refine ⟨t, _, rfl, st_of ht2, rfl, _, _, rfl, _, _, rfl, rfl, ?_⟩
      refine b_setL (j := q.1) (v := .int ((orp (ps.take i) q.1 ||| 2 ^ q.2 : Nat) : Int)) (H0 := H2) (Ex.refl H2) h2 (by wtm_at "k49ev") (ev_var rfl) (ev_var rfl) (by rw [fnl_len]; exact q1) fun H3 e23 _ => ?_
      refine ⟨Ex.mut (e2.trans e23) hl, ⟨_, _, _, rfl⟩, ?_⟩
      rw [upd_same, fnl_set q1, List.take_add_one, hqi]
      congr 2
      apply fnl_congr
      intro x hx
      show (if x = q.1 then _ else _) = V.int ((orp (List.take i ps ++ [q]) x : Nat) : Int)
      rw [orp_snoc]
      by_cases e : x = q.1
      · subst e
        rw [if_pos rfl, if_pos rfl]
      · rw [if_neg e, if_neg e]
    · rintro σ H2 ⟨e2, ⟨vx, vy, vu, rfl⟩, h2⟩
      have hA : H2 l = some (.lst (fnl m fun x => .int (abv m M x : Nat))) := by
        rw [hP.len, List.take_length] at h2
        rw [h2]
        congr 2
        exact fnl_congr fun x hx => by rw [orp_abv ho hx]
      -- closing changes nothing
      refine c_forR (H0 := H2) (Ex.refl H2) (n := m) (by wtm_at "k49ea") (by omega) (fun i σ H' => Ex H H' ∧ (∃ vx vy vu, σ = [some (.int (m : Nat)), some (.ref a), some (.ref l), vx, vy, vu]) ∧ H' l = some (.lst (fnl m fun x => .int (abv m M x : Nat))))
        (fun H3 e23 _ => ⟨e2.trans e23, ⟨_, _, _, rfl⟩, e23 _ _ hA⟩) ?_ ?_
      · rintro y σ H3 hy ⟨e3, ⟨vx, vy, vu, rfl⟩, h3⟩
        refine b_forR (H0 := H3) (Ex.refl H3) (n := m) (by wtm_at "k49ea") (by omega) (fun i σ H' => Ex H H' ∧ (∃ vx vu, σ = [some (.int (m : Nat)), some (.ref a), some (.ref l), vx, some (.int (y : Nat)), vu]) ∧ H' l = some (.lst (fnl m fun x => .int (abv m M x : Nat))))
          (fun H4 e34 _ => ⟨e3.trans e34, ⟨_, _, rfl⟩, e34 _ _ h3⟩) ?_ ?_
        · rintro x σ H4 hx ⟨e4, ⟨vx, vu, rfl⟩, h4⟩
          refine b_when (b := lt M x y) (H0 := H4) (Ex.refl H4) ?_ (fun hlt H5 e45 _ => ?_) (fun hlt H5 e45 _ => ⟨e4.trans e45, ⟨_, _, rfl⟩, e45 _ _ h4⟩)
          · rw [← abv_bit hy]
            wtm_at "k49et"
          · have h5 := e45 _ _ h4
            refine b_setL (j := x) (v := .int ((abv m M x ||| abv m M y : Nat) : Int)) (H0 := H5) (Ex.refl H5) h5 (by wtm_at "k49ev") (ev_var rfl) (ev_var rfl) (by rw [fnl_len]; exact hx) fun H6 e56 _ => ?_
            refine ⟨Ex.mut ((e4.trans e45).trans e56) hl, ⟨_, _, rfl⟩, ?_⟩
            rw [upd_same, fnl_set hx]
            congr 2
            apply fnl_congr
            intro z hz
            by_cases e : z = x
            · subst e
              rw [if_pos rfl, L.abv_abs hx hy hlt]
            · rw [if_neg e]
        · rintro σ H4 ⟨e4, ⟨vx, vu, rfl⟩, h4⟩
          exact ⟨e4, ⟨_, _, _, rfl⟩, h4⟩
      · rintro σ H3 ⟨e3, ⟨vx, vy, vu, rfl⟩, h3⟩
        refine c_forR (H0 := H3) (Ex.refl H3) (n := m) (by wtm_at "k49ea") (by omega) (fun i σ H' => Ex H3 H' ∧ (∃ vx vy vu, σ = [some (.int (m : Nat)), some (.ref a), some (.ref l), vx, vy, vu]))
          (fun H4 e34 _ => ⟨e34, ⟨_, _, _, rfl⟩⟩) ?_ ?_
        · rintro x σ H4 hx ⟨e4, ⟨vx, vy, vu, rfl⟩⟩
          refine b_not e4 (et_is (a := (abv m M x).testBit x) (by wtm_at "k49et") ?_) fun H5 _ e5 => ⟨e5, _, _, _, rfl⟩
          rw [abv_bit hx]
          unfold lt
          rw [bne_self_eq_false]
          rfl
        · rintro σ H4 ⟨e4, ⟨vx, vy, vu, rfl⟩⟩
          exact b_retU (H0 := H4) (Ex.refl H4) (eu_tupL (ev_var rfl) (sq_of (e4 _ _ h3))) fun p H5 hp e45 _ h5 => k p H5 (fresh_back (e3.trans e4) hp) ((e3.trans e4).trans e45) h5
end
end K49
namespace K49
open PySem L2 Evl
/-! ### the evaluator -/
local macro_rules | `(tactic| wtm_at "k49sd") => `(tactic| first
  | (with_reducible assumption)
  | decide
  | omega
  | ((with_reducible refine' Lat.ml ?k0 _ _ ?k1 ?k2); (case k0 => (with_reducible assumption)); (case k1 => wtm_at "k49sd"); (case k2 => wtm_at "k49sd"))
  | ((with_reducible refine' Lat.jl ?k0 _ _ ?k1 ?k2); (case k0 => (with_reducible assumption)); (case k1 => wtm_at "k49sd"); (case k2 => wtm_at "k49sd")))
local macro_rules | `(tactic| wtm_at "k49rv") => `(tactic| first
  | (with_reducible exact rv_and)
  | (with_reducible exact rv_or)
  | ((with_reducible refine' rv_shl1 ?k1); (case k1 => wtm_at "k49sd"))
  | (with_reducible exact rv_I0)
  | ((with_reducible refine' rv_T2 ?k1 ?k2 ?k3); (case k1 => (with_reducible assumption)); (case k2 => wtm_at "k49sd"); (case k3 => wtm_at "k49sd"))
  | ((with_reducible refine' rv_T1 ?k1 ?k2); (case k1 => (with_reducible assumption)); (case k2 => wtm_at "k49sd"))
  | ((with_reducible refine' rv_L2 ?k1 ?k2 ?k3); (case k1 => (with_reducible assumption)); (case k2 => wtm_at "k49sd"); (case k3 => wtm_at "k49sd"))
  | ((with_reducible refine' rv_L1 ?k1 ?k2); (case k1 => (with_reducible assumption)); (case k2 => wtm_at "k49sd"))
  | ((with_reducible refine' rv_fT' ?k1 ?k2 ?k3); (case k1 => (with_reducible assumption)); (case k2 => wtm_at "k49sd"); (case k3 => exact rfl))
  | ((with_reducible refine' rv_fL' ?k1 ?k2 ?k3); (case k1 => (with_reducible assumption)); (case k2 => wtm_at "k49sd"); (case k3 => exact rfl))
  | ((with_reducible refine' rv_mod ?k1); (case k1 => wtm_at "k49sd"))
  | ((with_reducible refine' rv_shr ?k1); (case k1 => wtm_at "k49sd"))
  | ((with_reducible refine' rv_I (C := CMul) ?k1); (case k1 => (first | exact Or.inr ⟨by decide, by decide⟩ | exact Or.inl ⟨by decide, by decide⟩ | exact Or.inl ⟨by omega, by omega⟩ | exact Or.inr ⟨by omega, by omega⟩)))
  | ((with_reducible refine' rv_I (C := CDiv) ?k1); (case k1 => (first | exact ⟨by decide, by decide⟩ | exact ⟨by omega, by omega⟩)))
  | ((with_reducible refine' rv_I (C := CPow) ?k1); (case k1 => (first | exact ⟨by omega, by omega, by decide⟩ | exact ⟨by omega, by omega, by omega⟩)))
  | ((with_reducible refine' rv_eq ?k1); (case k1 => rfl))
  | ((with_reducible refine' rv_ne ?k1); (case k1 => rfl))
  | (with_reducible exact rv_isN) | (with_reducible exact rv_notN) | (with_reducible exact rv_isB) | (with_reducible exact rv_notB)
  | (with_reducible assumption))
local macro_rules | `(tactic| wtm_at "k49ev") => `(tactic| first
  | (with_reducible exact ev_c)
  | (exact ev_var rfl)
  | ((with_reducible refine' ev_op ?k1 ?k2 ?k3); (case k1 => wtm_at "k49ev"); (case k2 => wtm_at "k49ev"); (case k3 => wtm_at "k49rv"))
  | ((with_reducible refine' ev_un ?k1 ru_neg); (case k1 => wtm_at "k49ev"))
  | ((with_reducible refine' ev_int1 ?k1); (case k1 => wtm_at "k49ev"))
  | ((with_reducible refine' ev_abs ?k1); (case k1 => wtm_at "k49ev"))
  | ((with_reducible refine' ev_above ?k1 ?k2 ?k3 ?k4); (case k1 => wtm_at "k49ev"); (case k2 => (with_reducible assumption)); (case k3 => exact Tx.cl ‹_›); (case k4 => exact Tx.n_above ‹_›))
  | ((with_reducible refine' ev_joins ?k1 ?k2 ?k3 ?k4); (case k1 => wtm_at "k49ev"); (case k2 => (with_reducible assumption)); (case k3 => exact Tx.cl ‹_›); (case k4 => exact Tx.n_joins ‹_›))
  | ((with_reducible refine' ev_meets ?k1 ?k2 ?k3 ?k4); (case k1 => wtm_at "k49ev"); (case k2 => (with_reducible assumption)); (case k3 => exact Tx.cl ‹_›); (case k4 => exact Tx.n_meets ‹_›))
  | ((with_reducible refine' ev_lenfT ?k1 ?k2); (case k1 => wtm_at "k49ev"); (case k2 => (with_reducible assumption)))
  | ((with_reducible refine' ev_lenfL ?k1 ?k2); (case k1 => wtm_at "k49ev"); (case k2 => (with_reducible assumption)))
  | ((with_reducible refine' ev_lenT ?k1 ?k2); (case k1 => wtm_at "k49ev"); (case k2 => wtm_at "k49sq"))
  | ((with_reducible refine' ev_len ?k1 ?k2); (case k1 => wtm_at "k49ev"); (case k2 => wtm_at "k49sq"))
  | ((with_reducible refine' ev_call0 ?k1 ?k2); (case k1 => wtm_at "k49ea"); (case k2 => wtm_at "k49sp"))
  | ((with_reducible refine' ev_notV ?k1); (case k1 => wtm_at "k49ev"))
  | ((with_reducible refine' ev_andV ?k1 ?k2); (case k1 => wtm_at "k49ev"); (case k2 => (intro _; wtm_at "k49ev")))
  | ((with_reducible refine' ev_orV ?k1 ?k2); (case k1 => wtm_at "k49ev"); (case k2 => (intro _; wtm_at "k49ev"))))
local macro_rules | `(tactic| wtm_at "k49ea") => `(tactic| first
  | (with_reducible exact ea_nil)
  | ((with_reducible refine' ea_cons ?k1 ?k2); (case k1 => wtm_at "k49ev"); (case k2 => wtm_at "k49ea")))
local macro_rules | `(tactic| wtm_at "k49sq") => `(tactic| first
  | (with_reducible assumption)
  | (refine' sq_of ?k1; (case k1 => (with_reducible assumption)))
  | (refine' st_of ?k1; (case k1 => (with_reducible assumption))))
local macro_rules | `(tactic| wtm_at "k49et") => `(tactic| first
  | ((with_reducible refine' et_test ?k1); (case k1 => wtm_at "k49ev"))
  | ((with_reducible refine' et_B ?k1); (case k1 => wtm_at "k49ev"))
  | ((with_reducible refine' et_and ?k1 ?k2); (case k1 => wtm_at "k49et"); (case k2 => (intro _; wtm_at "k49et")))
  | ((with_reducible refine' et_or ?k1 ?k2); (case k1 => wtm_at "k49et"); (case k2 => (intro _; wtm_at "k49et")))
  | ((with_reducible refine' et_not ?k1); (case k1 => wtm_at "k49et")))

/-! ### the dict of places -/
def kvs (u : Nat → Nat) (i : Nat) : List (Key × V) := (List.range i).map fun x => (Sum.inl ((u x : Nat) : Int), V.int (x : Nat))
theorem kvs_succ {u : Nat → Nat} {i : Nat} : kvs u (i + 1) = kvs u i ++ [(Sum.inl ((u i : Nat) : Int), V.int (i : Nat))] := by
  unfold kvs
  rw [List.range_succ, List.map_append]
  rfl
theorem kvs_len {u : Nat → Nat} {i : Nat} : (kvs u i).length = i := by
  unfold kvs
  rw [List.length_map, List.length_range]
theorem kvs_none {u : Nat → Nat} {z : Nat} {i : Nat} (h : ∀ x, x < i → u x ≠ z) : valV (kvs u i) (Sum.inl ((z : Nat) : Int) : Key) = none := by
  unfold valV kvs
  rw [Option.map_eq_none_iff, List.find?_eq_none]
  intro q hq
  obtain ⟨x, hx, rfl⟩ := List.mem_map.mp hq
  rw [decide_eq_true_eq]
  intro e
  have := Sum.inl.inj e
  exact h x (List.mem_range.mp hx) (by omega)
theorem kvs_get {u : Nat → Nat} {m : Nat} (inj : ∀ x y, x < m → y < m → u x = u y → x = y) {t : Nat} : ∀ {i : Nat}, i ≤ m → t < i → valV (kvs u i) (Sum.inl ((u t : Nat) : Int) : Key) = some (.int (t : Nat))
  | 0, _, h => absurd h (Nat.not_lt_zero _)
  | i + 1, hi, ht => by
    have nn : valV (kvs u i) (Sum.inl ((u i : Nat) : Int) : Key) = none := kvs_none fun x hx e => by
      have := inj x i (by omega) (by omega) e
      omega
    rw [kvs_succ, valV_snoc _ _ _ _ nn]
    by_cases e : t = i
    · subst e
      rw [if_pos rfl]
    · rw [if_neg, kvs_get inj (by omega) (by omega)]
      intro q
      have := Sum.inl.inj q
      exact e (inj t i (by omega) (by omega) (by omega))
section
variable {K : PySem.W.Frag} {σ : L2.St} {H H0 : Hp} {te : TE} {D : Ends} {tz : TS}
theorem en_dict : EvN tDNewK σ H (.dK []) := fun H1 e Q q p hp => q p _ hp (Ex.new hp) upd_same
theorem c_asgN {i : Nat} {o : HO} (e : Ex H0 H) (h : EvN te σ H0 o) (k : ∀ p H1, H p = none → Ex H H1 → Ex H0 H1 → H1 p = some o → tz D (σ.set i (some (.ref p))) H1) : tSeq (tAsg te (gName i)) tz D σ H := h H e _ fun p H1 hp e1 h1 => k p H1 hp e1 (e.trans e1) h1
end
section
variable {P : Program} {w : World} {K : PySem.W.Frag} {mg : Str → Option Value} {base : Heap}
local macro_rules | `(tactic| wtm_at "k49sp") => `(tactic| first | exact sv_int_int | exact sv_int_bl | exact sv_has)
def spBounds : Sp := fun vs H Q _ => ∃ (a : Addr) (m : Nat) (u : Nat → Nat) (T : Nat → Nat → Nat), vs = [.ref a] ∧ H a = some (.lst (fnl m fun x => .int (u x : Nat))) ∧ m ≤ 64 ∧
  (∀ x y, x < m → y < m → u x = u y → x = y) ∧ (∀ x y, x < m → y < m → T x y < m ∧ u x &&& u y = u (T x y)) ∧ ∀ p H' r, H p = none → Ex H H' → TabT H' p m T r → Q (.ref p) H'
theorem ev_get {H : Hp} {σ : L2.St} {td ty tx : TE} {a : Addr} {k : Key} {kk : List (Key × V)} {z v : V} (hd : Ev td σ H (.ref a)) (hk : Ev ty σ H (kV k)) (hx : Ev tx σ H z) (ha : H a = some (.dK kk)) (hv : valV kk k = some v) : Ev (tDGet2 td ty tx) σ H v := fun H1 e Q q =>
  hd H1 e _ fun H2 e2 => ⟨a, rfl, .inl ⟨kk, .inl ((e.trans e2) _ _ ha)⟩, hk H2 (e.trans e2) _ fun H3 e3 => hx H3 ((e.trans e2).trans e3) _ fun H4 e4 => ⟨some v, by
    rw [← hv]
    exact DGet.k ((((e.trans e2).trans e3).trans e4) _ _ ha), q H4 ((e2.trans e3).trans e4)⟩⟩
theorem sc_bounds_table : FnScope ["sets", "places", "x", "rows", "one", "row", "two"] ["sets"] (defScope s_bounds_table) := ⟨rfl, rfl, rfl, by decide +kernel, rfl, by decide +kernel, by decide +kernel⟩
theorem ok_bounds_table (T : Tx K mg) : FnOk P w K mg base CX0 1 T.a_bounds_table T.d_bounds_table ["sets"] spBounds := by
  refine T.p_bounds_table.F.ok sc_bounds_table (fun vs H Q E h => ?_) (fun cdv A outer s H vs Q E hr h => ?_)
  · obtain ⟨a, m, u, T, rfl, _⟩ := h
    rfl
  · obtain ⟨a, m, u, Tt, rfl, ha, hm, inj, hT, k⟩ := h
    refine ⟨_, (pss_cons (ps_set (i := 1) sc_bounds_table.nd rfl (Or.inr rfl) pe_dnewK)
  (pss_cons (ps_for PassesOwn.never rfl (pi_range1 rfl T.b_range (pa_cons (pe_callB (glen (K := K) rfl) (by rfl) T.b_len (by decide +kernel) (pa_cons (pv 0) pa_nil)) pa_nil)) (pg_name (i := 2) sc_bounds_table.nd rfl (Or.inl rfl))
   (pss_one (ps_dput (hu_of hr) (pv 1) (pe_ix (gixL (K := K) rfl) (pv 0) (pv 2) (fun _ _ => rfl)) (pv 2) rfl)))
  (pss_cons (ps_set (i := 3) sc_bounds_table.nd rfl (Or.inl rfl) (pe_lst pa_nil))
  (pss_cons (ps_for PassesOwn.never rfl (gpiL (K := K) rfl (pv 0)) (pg_name (i := 4) sc_bounds_table.nd rfl (Or.inr rfl))
   (pss_cons (ps_setLc (i := 5) (own := [("two", 6)]) (g := (gName 6)) (by rfl) sc_bounds_table.nd rfl rfl (sw_true rfl rfl rfl (by kernel_rfl)) (gpiL (K := K) rfl (pv 0)) (blkOk_by (by kernel_rfl)) (fun _ _ _ _ _ => (pg_name (i := 6) sc_bounds_table.nd rfl (Or.inl rfl))) (fun _ _ _ _ _ => pts_nil) (fun _ _ _ _ _ => (pe_dget2 (hu_of hr) (pv 1) (pe_op op_and (pv 4) (pv 6)) (pe_un un_neg pe_int) ⟨rfl, by rfl, by rfl, rfl⟩)))
  (pss_cons (ps_if (pt_cmpR (gin (K := K) rfl) (pe_un un_neg pe_int) (pv 5) (by rfl)) (pss_one (ps_ret pe_non)) pss_nil)
  (pss_one (ps_expr (gbm (K := K) rfl PySem.F.plainAttrs_list PySem.F.slot_list_append PySem.F.type_list_append mt_append (pv 3) (pa_cons (pe_callTy (gtuple (K := K) rfl) (by rfl) T.b_tuple (by decide +kernel) (pa_cons (pv 5) pa_nil)) pa_nil)))))))
  (pss_one (ps_ret (pe_callTy (gtuple (K := K) rfl) (by rfl) T.b_tuple (by decide +kernel) (pa_cons (pv 3) pa_nil)))))))), ?_⟩
    -- places
    refine c_asgN (Ex.refl H) en_dict fun dl H1 hdl _ e1 h1 => ?_
    refine c_forR (H0 := H) e1 (n := m) (by wtm_at "k49ea") (by omega) (fun i σ H' => Ex H H' ∧ (∃ vx, σ = [some (.ref a), some (.ref dl), vx, none, none, none, none]) ∧ H' dl = some (.dK (kvs u i)))
      (fun H2 e12 e2 => ⟨e2, ⟨_, rfl⟩, e12 _ _ h1⟩) ?_ ?_
    · rintro x σ H2 hx ⟨e2, ⟨vx, rfl⟩, h2⟩
      refine ev_var (v := .int (x : Nat)) rfl H2 (Ex.refl H2) _ fun H3 e23 => ev_var (v := .ref dl) rfl H3 e23 _ fun H4 e34 => ?_
      have e4 := e2.trans (e23.trans e34)
      refine ev_op (ev_var rfl) (ev_var rfl) (rv_fL' (e4 _ _ ha) hx rfl) H4 (Ex.refl H4) _ fun H5 e45 => ?_
      have h5 := (e23.trans (e34.trans e45)) _ _ h2
      refine ⟨dl, _, rfl, DPut.k (k := Sum.inl ((u x : Nat) : Int)) h5 (by rw [kvs_len]; exact small1000 (by omega)), Ex.mut (e4.trans e45) hdl, ⟨_, rfl⟩, ?_⟩
      rw [upd_same, putK_new, kvs_succ]
      exact kvs_none fun z hz e => by
        have := inj z x (by omega) hx e
        omega
    · rintro σ H2 ⟨e2, ⟨vx, rfl⟩, h2⟩
      refine c_asgL (xs := []) (H0 := H2) (Ex.refl H2) (el_lst ea_nil (Nat.zero_le _)) fun l H3 hl e23 _ h3 => ?_
      have h3d := e23 _ _ h2
      have h3a := (e2.trans e23) _ _ ha
      refine c_forL (H0 := H3) (Ex.refl H3) (a := a) (xs := fnl m fun x => .int (u x : Nat)) (ev_var rfl) (sq_of h3a)
        (fun i σ H' => Ex H2 H' ∧ (∃ vx vo vr, σ = [some (.ref a), some (.ref dl), vx, some (.ref l), vo, vr, none]) ∧ ∃ rs, H' l = some (.lst rs) ∧ RefsO H' l rs ((List.range i).map fun x => .tup (fnl m fun y => .int (Tt x y : Nat))))
        (fun H4 e34 _ => ⟨e23.trans e34, ⟨_, _, _, rfl⟩, [], e34 _ _ h3, .nil⟩) (fun i σ H' _ p => sq_of (p.1 _ _ (e2 _ _ ha))) ?_ ?_
      · rintro x v σ H4 hv ⟨e4, ⟨vx, vo, vr, rfl⟩, rs, h4, hrs⟩
        obtain ⟨hx, rfl⟩ := fnl_of hv
        have h4a := e4 _ _ (e2 _ _ ha)
        have h4d := e4 _ _ h2
        refine c_asgL (H0 := H4) (xs := fnl m fun y => .int (Tt x y : Nat)) (Ex.refl H4) ?_ fun r H5 hr e45 _ h5 => ?_
        · have q := el_lcL (K := K) (σ := [some (.ref a), some (.ref dl), vx, some (.ref l), some (.int (u x : Nat)), vr, none]) (H := H4) (xs := fnl m fun x => .int (u x : Nat)) (tl := tVar 0) (t := tYes) (te := tDGet2 (tVar 1) (tOp (rI0 fun i j => .int (Builtin.bitAnd i j)) (tVar 4) (tVar 6)) (tUn (rU fun i => .int (-i)) (tC (.int 1)))) (j := 6) (vs := [6])
            (fun _ => true) (fun y => .int (Tt x y : Nat)) (ev_var rfl) (sq_of h4a) (by rw [fnl_len]; omega) (fun x => rfl) (fun i y H1 e hi => et_yes) ?_
          · rw [fnl_len, given_all] at q
            exact q
          · intro y v H5 e5 hv _
            obtain ⟨hy, rfl⟩ := fnl_of hv
            obtain ⟨hT1, hT2⟩ := hT x y hx hy
            refine ev_get (k := Sum.inl ((u x &&& u y : Nat) : Int)) (ev_var rfl) (ev_op (ev_var rfl) (ev_var rfl) rv_and) (ev_un ev_c ru_neg) (e5 _ _ h4d) ?_
            rw [hT2]
            exact kvs_get inj (Nat.le_refl _) hT1
        refine c_not (H0 := H5) (Ex.refl H5) (et_is (et_test (ev_op (ev_un ev_c ru_neg) (ev_var rfl) (rv_isL (sq_of h5) rfl ?_))) ?_) fun H6 e56 _ => ?_
        · rw [List.all_eq_true]
          intro v hv
          obtain ⟨i, hi⟩ := List.getElem?_of_mem hv
          obtain ⟨_, rfl⟩ := fnl_of hi
          rfl
        · unfold inV
          rw [List.any_eq_false]
          intro v hv he
          obtain ⟨i, hi⟩ := List.getElem?_of_mem hv
          obtain ⟨_, rfl⟩ := fnl_of hi
          have : ((Tt x i : Nat) : Int) = -1 := by simpa [eqV] using he
          omega
        · have h6 := (e45.trans e56) _ _ h4
          have hlen : rs.length = x := by rw [hrs.len, List.length_map, List.length_range]
          refine b_appN (H0 := H6) (o := .tup (fnl m fun y => .int (Tt x y : Nat))) (Ex.refl H6) h6 (ev_var rfl) (eu_tupL (ev_var rfl) (sq_of (e56 _ _ h5))) (by omega) fun p H7 hp e67 _ h7 => ?_
          have np : p ≠ l := fun e => by rw [e, h6] at hp; cases hp
          refine ⟨Ex.mut (e4.trans (e45.trans (e56.trans e67))) hl, ⟨_, _, _, rfl⟩, _, upd_same, ?_⟩
          rw [List.range_succ, List.map_append]
          have kk : RefsO (upd H7 l (.lst (rs ++ [.ref p]))) l rs ((List.range x).map fun x => .tup (fnl m fun y => .int (Tt x y : Nat))) := (hrs.exs (e45.trans (e56.trans e67))).ex fun b o hb ho => by rw [upd_ne hb]; exact ho
          exact kk.snoc np (by rw [upd_ne np]; exact h7)
      · rintro σ H4 ⟨e4, ⟨vx, vo, vr, rfl⟩, rs, h4, hrs⟩
        rw [fnl_len] at hrs
        obtain ⟨r, hrr, hr2⟩ := hrs.fn
        subst hrr
        exact b_retU (H0 := H4) (Ex.refl H4) (eu_tupL (ev_var rfl) (sq_of h4)) fun p H5 hp e45 _ h5 => k p H5 r (fresh_back (e2.trans e4) hp) ((e2.trans e4).trans e45) ⟨h5, fun x hx => e45 _ _ (hr2 x hx).2⟩
end
end K49
namespace K49
open PySem L2 Evl
/-! ### the evaluator -/
local macro_rules | `(tactic| wtm_at "k49sd") => `(tactic| first
  | (with_reducible assumption)
  | decide
  | omega
  | ((with_reducible refine' Lat.ml ?k0 _ _ ?k1 ?k2); (case k0 => (with_reducible assumption)); (case k1 => wtm_at "k49sd"); (case k2 => wtm_at "k49sd"))
  | ((with_reducible refine' Lat.jl ?k0 _ _ ?k1 ?k2); (case k0 => (with_reducible assumption)); (case k1 => wtm_at "k49sd"); (case k2 => wtm_at "k49sd")))
local macro_rules | `(tactic| wtm_at "k49rv") => `(tactic| first
  | (with_reducible exact rv_and)
  | (with_reducible exact rv_or)
  | ((with_reducible refine' rv_shl1 ?k1); (case k1 => wtm_at "k49sd"))
  | (with_reducible exact rv_I0)
  | ((with_reducible refine' rv_T2 ?k1 ?k2 ?k3); (case k1 => (with_reducible assumption)); (case k2 => wtm_at "k49sd"); (case k3 => wtm_at "k49sd"))
  | ((with_reducible refine' rv_T1 ?k1 ?k2); (case k1 => (with_reducible assumption)); (case k2 => wtm_at "k49sd"))
  | ((with_reducible refine' rv_L2 ?k1 ?k2 ?k3); (case k1 => (with_reducible assumption)); (case k2 => wtm_at "k49sd"); (case k3 => wtm_at "k49sd"))
  | ((with_reducible refine' rv_L1 ?k1 ?k2); (case k1 => (with_reducible assumption)); (case k2 => wtm_at "k49sd"))
  | ((with_reducible refine' rv_fT' ?k1 ?k2 ?k3); (case k1 => (with_reducible assumption)); (case k2 => wtm_at "k49sd"); (case k3 => exact rfl))
  | ((with_reducible refine' rv_fL' ?k1 ?k2 ?k3); (case k1 => (with_reducible assumption)); (case k2 => wtm_at "k49sd"); (case k3 => exact rfl))
  | ((with_reducible refine' rv_mod ?k1); (case k1 => wtm_at "k49sd"))
  | ((with_reducible refine' rv_shr ?k1); (case k1 => wtm_at "k49sd"))
  | ((with_reducible refine' rv_I (C := CMul) ?k1); (case k1 => (first | exact Or.inr ⟨by decide, by decide⟩ | exact Or.inl ⟨by decide, by decide⟩ | exact Or.inl ⟨by omega, by omega⟩ | exact Or.inr ⟨by omega, by omega⟩)))
  | ((with_reducible refine' rv_I (C := CDiv) ?k1); (case k1 => (first | exact ⟨by decide, by decide⟩ | exact ⟨by omega, by omega⟩)))
  | ((with_reducible refine' rv_I (C := CPow) ?k1); (case k1 => (first | exact ⟨by omega, by omega, by decide⟩ | exact ⟨by omega, by omega, by omega⟩)))
  | ((with_reducible refine' rv_eq ?k1); (case k1 => rfl))
  | ((with_reducible refine' rv_ne ?k1); (case k1 => rfl))
  | (with_reducible exact rv_isN) | (with_reducible exact rv_notN) | (with_reducible exact rv_isB) | (with_reducible exact rv_notB)
  | (with_reducible assumption))
local macro_rules | `(tactic| wtm_at "k49ev") => `(tactic| first
  | (with_reducible exact ev_c)
  | (exact ev_var rfl)
  | ((with_reducible refine' ev_op ?k1 ?k2 ?k3); (case k1 => wtm_at "k49ev"); (case k2 => wtm_at "k49ev"); (case k3 => wtm_at "k49rv"))
  | ((with_reducible refine' ev_un ?k1 ru_neg); (case k1 => wtm_at "k49ev"))
  | ((with_reducible refine' ev_int1 ?k1); (case k1 => wtm_at "k49ev"))
  | ((with_reducible refine' ev_abs ?k1); (case k1 => wtm_at "k49ev"))
  | ((with_reducible refine' ev_above ?k1 ?k2 ?k3 ?k4); (case k1 => wtm_at "k49ev"); (case k2 => (with_reducible assumption)); (case k3 => exact Tx.cl ‹_›); (case k4 => exact Tx.n_above ‹_›))
  | ((with_reducible refine' ev_joins ?k1 ?k2 ?k3 ?k4); (case k1 => wtm_at "k49ev"); (case k2 => (with_reducible assumption)); (case k3 => exact Tx.cl ‹_›); (case k4 => exact Tx.n_joins ‹_›))
  | ((with_reducible refine' ev_meets ?k1 ?k2 ?k3 ?k4); (case k1 => wtm_at "k49ev"); (case k2 => (with_reducible assumption)); (case k3 => exact Tx.cl ‹_›); (case k4 => exact Tx.n_meets ‹_›))
  | ((with_reducible refine' ev_lenfT ?k1 ?k2); (case k1 => wtm_at "k49ev"); (case k2 => (with_reducible assumption)))
  | ((with_reducible refine' ev_lenfL ?k1 ?k2); (case k1 => wtm_at "k49ev"); (case k2 => (with_reducible assumption)))
  | ((with_reducible refine' ev_lenT ?k1 ?k2); (case k1 => wtm_at "k49ev"); (case k2 => wtm_at "k49sq"))
  | ((with_reducible refine' ev_len ?k1 ?k2); (case k1 => wtm_at "k49ev"); (case k2 => wtm_at "k49sq"))
  | ((with_reducible refine' ev_call0 ?k1 ?k2); (case k1 => wtm_at "k49ea"); (case k2 => wtm_at "k49sp"))
  | ((with_reducible refine' ev_notV ?k1); (case k1 => wtm_at "k49ev"))
  | ((with_reducible refine' ev_andV ?k1 ?k2); (case k1 => wtm_at "k49ev"); (case k2 => (intro _; wtm_at "k49ev")))
  | ((with_reducible refine' ev_orV ?k1 ?k2); (case k1 => wtm_at "k49ev"); (case k2 => (intro _; wtm_at "k49ev"))))
local macro_rules | `(tactic| wtm_at "k49ea") => `(tactic| first
  | (with_reducible exact ea_nil)
  | ((with_reducible refine' ea_cons ?k1 ?k2); (case k1 => wtm_at "k49ev"); (case k2 => wtm_at "k49ea")))
local macro_rules | `(tactic| wtm_at "k49sq") => `(tactic| first
  | (with_reducible assumption)
  | (refine' sq_of ?k1; (case k1 => (with_reducible assumption)))
  | (refine' st_of ?k1; (case k1 => (with_reducible assumption))))
local macro_rules | `(tactic| wtm_at "k49et") => `(tactic| first
  | ((with_reducible refine' et_test ?k1); (case k1 => wtm_at "k49ev"))
  | ((with_reducible refine' et_B ?k1); (case k1 => wtm_at "k49ev"))
  | ((with_reducible refine' et_and ?k1 ?k2); (case k1 => wtm_at "k49et"); (case k2 => (intro _; wtm_at "k49et")))
  | ((with_reducible refine' et_or ?k1 ?k2); (case k1 => wtm_at "k49et"); (case k2 => (intro _; wtm_at "k49et")))
  | ((with_reducible refine' et_not ?k1); (case k1 => wtm_at "k49et")))

def EvP2 (te : TE) (σ : L2.St) (H : Hp) (R : V → Hp → Prop) : Prop := ∀ H1, Ex H H1 → ∀ Q : VK, (∀ v H2, Ex H1 H2 → R v H2 → Q v H2) → te σ H1 Q
section
variable {K : PySem.W.Frag} {σ : L2.St} {H H0 : Hp} {te ta tv : TE} {D : Ends} {tz : TS}
theorem c_fldP {R : V → Hp → Prop} {a C dx : Addr} {fs : List (Str × V)} {f : Str} (e : Ex H0 H) (hv : EvP2 tv σ H0 R) (hR : ∀ v H1 H2, Ex H1 H2 → R v H1 → R v H2) (ha : Ev ta σ H0 (.ref a)) (ho : H a = some (.ins C dx fs)) (hc : Cls K C) (hn : NoAttr K C f) (hl : fs.length < 1000)
    (k : ∀ y H1, Ex H H1 → Ex H0 H1 → R y H1 → tz D σ (upd H1 a (.ins C dx (putF f y fs)))) : tSeq (sFld K ta tv f) tz D σ H := hv H e _ fun y H1 e1 h1 => ha H1 (e.trans e1) _ fun H2 e2 =>
  ⟨a, C, dx, fs, rfl, (e1.trans e2) _ _ ho, hc, hn, hl, k y H2 (e1.trans e2) (e.trans (e1.trans e2)) (hR _ _ _ e2 h1)⟩
theorem TabT.off {a x : Addr} {m : Nat} {T : Nat → Nat → Nat} {r : Nat → Addr} {o : HO} {C dx : Addr} {fs : List (Str × V)} (h : TabT H a m T r) (hx : H x = some (.ins C dx fs)) : TabT (upd H x o) a m T r := by
  have n1 : ∀ {b : Addr} {ys : List V}, H b = some (.tup ys) → b ≠ x := fun hb e => by rw [e, hx] at hb; cases hb
  exact ⟨by rw [upd_ne (n1 h.top)]; exact h.top, fun y hy => by rw [upd_ne (n1 (h.row y hy))]; exact h.row y hy⟩
end
theorem up_eq {m : Nat} {J M : Nat → Nat → Nat} (L : Lat m J M) {x : Nat} (hx : x < m) : abv m M x ||| 2 ^ x = msk (fun y => M x y == x) m := by
  apply Nat.eq_of_testBit_eq
  intro i
  rw [Nat.testBit_or, Nat.testBit_two_pow]
  unfold abv
  rw [msk_bit, msk_bit]
  by_cases hi : i < m
  · rw [decide_eq_true hi, Bool.true_and, Bool.true_and]
    unfold lt
    by_cases e : x = i
    · subst e
      rw [decide_eq_true rfl, Bool.or_true, L.mi x hx, beq_self_eq_true]
    · rw [decide_eq_false e, Bool.or_false, bne_iff_ne.mpr e, Bool.true_and]
  · rw [decide_eq_false hi, Bool.false_and, Bool.false_and, Bool.false_or]
    exact decide_eq_false (by omega)
section
variable {P : Program} {w : World} {K : PySem.W.Frag} {mg : Str → Option Value} {base : Heap}
local macro_rules | `(tactic| wtm_at "k49sp") => `(tactic| first | exact sv_int_int | exact sv_int_bl | exact sv_has)
def spInit (C : Addr) : Sp := fun vs H Q _ => ∃ (x dx : Addr) (m : Nat) (J M : Nat → Nat → Nat) (a : Addr) (ps : List (Nat × Nat)) (rs : List V), vs = [.ref x, .int (m : Nat), .ref a] ∧ H x = some (.ins C dx []) ∧ PairsAt H a ps rs ∧ Lat m J M ∧ OrdP m M ps ∧
  ∀ (d : LtD) (H' : Hp), d.p = x → d.m = m → d.J = J → d.M = M → LatAt C H' d → (∀ b o, H b = some o → b ≠ x → H' b = some o) → Q .non H'
theorem eu_closed {H : Hp} {σ : L2.St} {m : Nat} {J M : Nat → Nat → Nat} {a : Addr} {ps : List (Nat × Nat)} {rs : List V} {tn ta : TE} (hn : Ev tn σ H (.int (m : Nat))) (ha : Ev ta σ H (.ref a)) (hP : PairsAt H a ps rs) (L : Lat m J M) (ho : OrdP m M ps) :
    EvU (tCall spClosed [] E0 (tCons tn (tCons (tCall spChecked [] E0 (tCons tn (tCons ta tNil))) tNil))) σ H (fnl m fun x => .int (abv m M x : Nat)) :=
  eu_call0 (ea_cons hn (ea_cons (ev_call0 (z := .ref a) (ea_cons hn (ea_cons ha ea_nil)) fun H1 e Q q E => ⟨m, a, ps, rs, rfl, hP.ex e, fun q hq => let h := (ho q.1 q.2).mp hq; ⟨h.1, h.2.1⟩, q⟩) ea_nil)) fun H1 e Q q E => ⟨m, J, M, a, ps, rs, rfl, hP.ex e, L, ho, q⟩
theorem ep_bounds {H : Hp} {σ : L2.St} {m : Nat} {u : Nat → Nat} {T : Nat → Nat → Nat} {a : Addr} {ta : TE} (hs : Ev ta σ H (.ref a)) (ha : H a = some (.lst (fnl m fun x => .int (u x : Nat)))) (hm : m ≤ 64) (inj : ∀ x y, x < m → y < m → u x = u y → x = y) (hT : ∀ x y, x < m → y < m → T x y < m ∧ u x &&& u y = u (T x y)) :
    EvP2 (tCall spBounds [] E0 (tCons ta tNil)) σ H (fun v H' => ∃ p r, v = .ref p ∧ TabT H' p m T r) := fun H1 e Q q =>
  hs H1 e _ fun H2 e2 => ⟨a, m, u, T, rfl, (e.trans e2) _ _ ha, hm, inj, hT, fun p H3 r hp e3 h3 => q _ H3 (e2.trans e3) ⟨p, r, rfl, h3⟩⟩
theorem sc_m_init : FnScope ["self", "n", "pairs", "ups", "downs", "x", "y"] ["self", "n", "pairs"] (defScope s_m_init) := ⟨rfl, rfl, rfl, by decide +kernel, rfl, by decide +kernel, by decide +kernel⟩
theorem ok_m_init (T : Tx K mg) : FnOk P w K mg base CX0 3 T.a_m_init T.d_m_init ["self", "n", "pairs"] (spInit T.C) := by
  refine T.p_m_init.F.ok sc_m_init (fun vs H Q E h => ?_) (fun cdv A outer s H vs Q E hr h => ?_)
  · obtain ⟨x, dx, m, J, M, a, ps, rs, rfl, _⟩ := h
    rfl
  · obtain ⟨x, dx, m, J, M, a, ps, rs, rfl, hx, hP, L, ho, k⟩ := h
    have sm := L.small
    have ps0 := L.pos
    refine ⟨_, (pss_cons (ps_if (PW.pt (pw_and (pt_val (pe_call (ok_is_integer T) (hr.mono (by decide)) rfl T.p_is_integer.g T.p_is_integer.k T.p_is_integer.b .nil pass0 (pa_cons (pv 1) pa_nil))) (pw_and1 (pt_cmpR op_gt (pv 1) (pe_glob (v := .int 64) rfl T.mM.choose_spec ⟨_, rfl⟩) (nomark _))))) pss_never pss_nil)
  (pss_cons (ps_if (PW.pt (pw_or (pt_not (pt_val (pe_call (ok_is_integer T) (hr.mono (by decide)) rfl T.p_is_integer.g T.p_is_integer.k T.p_is_integer.b .nil pass0 (pa_cons (pv 1) pa_nil)))) (pw_or1 (pt_cmpR op_lt (pv 1) pe_int (nomark _))))) pss_never pss_nil)
  (pss_cons (gsfld (K := K) rfl (pv 0) (pe_call (ok_closed_above T) (hr.mono (by decide)) rfl T.p_closed_above.g T.p_closed_above.k T.p_closed_above.b .nil pass0 (pa_cons (pv 1) (pa_cons (pe_call (ok_checked_pairs T) (hr.mono (by decide)) rfl T.p_checked_pairs.g T.p_checked_pairs.k T.p_checked_pairs.b .nil pass0 (pa_cons (pv 1) (pa_cons (pv 2) pa_nil))) pa_nil))) rfl)
  (pss_cons (ps_set (i := 3) sc_m_init.nd rfl (Or.inr rfl) (pe_lc (own := [("x", 5)]) (g := (gName 5)) (by rfl) sc_m_init.nd (pi_range1 rfl T.b_range (pa_cons (pv 1) pa_nil)) (blkOk_by (by kernel_rfl)) (fun _ _ _ _ _ => (pg_name (i := 5) sc_m_init.nd rfl (Or.inl rfl))) (fun _ _ _ _ _ => pts_nil) (fun _ _ _ _ _ => (pe_op op_or (pe_ix (gixT (K := K) rfl) (gfld (K := K) rfl (pv 0) rfl) (pv 5) (fun _ _ => rfl)) (pe_op op_shl pe_int (pv 5))))))
  (pss_cons (ps_setLc (i := 4) (own := [("y", 6)]) (g := (gName 6)) (by rfl) sc_m_init.nd rfl rfl (sw_true rfl rfl rfl (by kernel_rfl)) (pi_range1 rfl T.b_range (pa_cons (pv 1) pa_nil)) (blkOk_by (by kernel_rfl)) (fun _ _ _ _ _ => (pg_name (i := 6) sc_m_init.nd rfl (Or.inr rfl))) (fun _ _ _ _ _ => pts_nil) (fun _ _ _ _ _ => (pe_call (ok_set_of T) (hr.mono (by decide)) rfl T.p_set_of.g T.p_set_of.k T.p_set_of.b .nil pass0 (pa_cons (pe_lc (own := [("x", 5)]) (g := (gName 5)) (by rfl) sc_m_init.nd (pi_range1 rfl T.b_range (pa_cons (pv 1) pa_nil)) (blkOk_by (by kernel_rfl)) (fun _ _ _ _ _ => (pg_name (i := 5) sc_m_init.nd rfl (Or.inl rfl))) (fun _ _ _ _ _ => (pts_one (pt_val (pe_call (ok_has T) (hr.mono (by decide)) rfl T.p_has.g T.p_has.k T.p_has.b .nil pass0 (pa_cons (pe_ix (gixL (K := K) rfl) (pv 3) (pv 5) (fun _ _ => rfl)) (pa_cons (pv 6) pa_nil)))))) (fun _ _ _ _ _ => (pv 5))) pa_nil))))
  (pss_cons (gsfld (K := K) rfl (pv 0) (pe_call (ok_bounds_table T) (hr.mono (by decide)) rfl T.p_bounds_table.g T.p_bounds_table.k T.p_bounds_table.b .nil pass0 (pa_cons (pv 3) pa_nil)) rfl)
  (pss_cons (gsfld (K := K) rfl (pv 0) (pe_call (ok_bounds_table T) (hr.mono (by decide)) rfl T.p_bounds_table.g T.p_bounds_table.k T.p_bounds_table.b .nil pass0 (pa_cons (pv 4) pa_nil)) rfl)
  (pss_one (ps_if (PW.pt (pw_or (pt_cmpR op_eq (pv 1) pe_int (nomark _)) (pw_or (pt_cmpR op_isN1 (gfld (K := K) rfl (pv 0) rfl) pe_non (nomark _)) (pw_or1 (pt_cmpR op_isN1 (gfld (K := K) rfl (pv 0) rfl) pe_non (nomark _)))))) pss_never pss_nil))))))))), ?_⟩
    refine c_not (Ex.refl H) (et_is (et_and (a := true) (et_B (ev_call0 (ea_cons (ev_var rfl) ea_nil) sv_int_int)) fun _ => et_test (ev_op (ev_var rfl) ev_c rv_I0)) (decide_eq_false (by omega))) fun H1 _ e1 => ?_
    refine c_not e1 (et_or0 (et_not (a := true) (et_B (ev_call0 (ea_cons (ev_var rfl) ea_nil) sv_int_int))) (et_is (et_test (ev_op (ev_var rfl) ev_c rv_I0)) (decide_eq_false (by omega)))) fun H2 _ e2 => ?_
    -- self.above
    refine c_fldP (a := x) (C := T.C) (dx := dx) (fs := []) (R := fun v H' => ∃ p, v = .ref p ∧ H' p = some (.tup (fnl m fun x => .int (abv m M x : Nat)))) e2 (fun H3 e3 Q q => eu_closed (ev_var rfl) (ev_var rfl) hP L ho H3 e3 Q fun p H4 hp e4 h4 => q _ H4 e4 ⟨p, rfl, h4⟩)
      (fun v H3 H4 e ⟨p, hv, h⟩ => ⟨p, hv, e _ _ h⟩) (ev_var rfl) (e2 _ _ hx) T.cl T.n_above (by decide) ?_
    rintro _ H3 e23 e3 ⟨aA, rfl, hA⟩
    have hx3 := e3 _ _ hx
    have nA : aA ≠ x := fun e => by rw [e, hx3] at hA; cases hA
    have keep3 : ∀ b o, H b = some o → b ≠ x → upd H3 x (.ins T.C dx (putF "above" (.ref aA) [])) b = some o := fun b o hb hne => by rw [upd_ne hne]; exact e3 _ _ hb
    have ob4 : upd H3 x (.ins T.C dx (putF "above" (.ref aA) [])) x = some (.ins T.C dx (putF "above" (.ref aA) [])) := upd_same
    have hA4 : upd H3 x (.ins T.C dx (putF "above" (.ref aA) [])) aA = some (.tup (fnl m fun x => .int (abv m M x : Nat))) := by rw [upd_ne nA]; exact hA
    generalize upd H3 x (.ins T.C dx (putF "above" (.ref aA) [])) = H4 at keep3 ob4 hA4 ⊢
    -- ups
    refine c_asgL (H0 := H4) (xs := fnl m fun x => .int (msk (fun y => M x y == x) m : Nat)) (Ex.refl H4) ?_ fun lu H5 hlu e5 _ h5 => ?_
    · rw [← given_all]
      refine el_lcR (n := m) (fun _ => true) (fun x => .int (msk (fun y => M x y == x) m : Nat)) (by wtm_at "k49ea") (by omega) (fun x => rfl) (fun i H1 e hi => et_yes) fun i H1 e hi _ => ?_
      rw [← up_eq L hi]
      have hA5 := e _ _ hA4
      exact ev_op (ev_op (ev_fld (ev_var rfl) (e _ _ ob4) T.cl T.n_above (by rw [lookup_putF, if_pos rfl])) (ev_var rfl) (rv_fT' hA5 hi rfl)) (ev_op ev_c (ev_var rfl) (rv_shl1 (by omega))) rv_or
    -- downs
    refine c_asgL (H0 := H5) (xs := fnl m fun y => .int (msk (fun x => M x y == x) m : Nat)) (Ex.refl H5) ?_ fun ld H6 hld e6 _ h6 => ?_
    · rw [← given_all]
      refine el_lcR (n := m) (fun _ => true) (fun y => .int (msk (fun x => M x y == x) m : Nat)) (by wtm_at "k49ea") (by omega) (fun x => rfl) (fun i H1 e hi => et_yes) fun y H1 e hy _ => ?_
      have ec : msk (fun x => M x y == x) m = msk (fun x => (msk (fun y => M x y == x) m).testBit y) m := msk_congr fun x hx => by
        rw [msk_bit, decide_eq_true hy, Bool.true_and]
      rw [ec]
      refine ev_set_of (el_lcR (n := m) (fun x => (msk (fun y => M x y == x) m).testBit y) (fun x => .int (x : Nat)) (by wtm_at "k49ea") (by omega) (fun x => rfl) (fun x H2 e2 hx => ?_) fun x H2 e2 hx _ => ev_var rfl) (by omega)
      exact et_B (ev_call0 (ea_cons (ev_op (ev_var rfl) (ev_var rfl) (rv_fL' ((e.trans e2) _ _ h5) hx rfl)) (ea_cons (ev_var rfl) ea_nil)) sv_has)
    -- self.joins
    have e46 := e5.trans e6
    refine c_fldP (a := x) (C := T.C) (dx := dx) (fs := putF "above" (.ref aA) []) (H0 := H6) (Ex.refl H6) (ep_bounds (u := fun x => msk (fun y => M x y == x) m) (T := J) (ev_var rfl) (e6 _ _ h5) (by omega) (fun x y hx hy e => L.up_inj hx hy e) fun x y hx hy => ⟨L.jl x y hx hy, L.up_and hx hy⟩)
      (fun v H3 H4 e ⟨p, r, hv, h⟩ => ⟨p, r, hv, h.ex e⟩) (ev_var rfl) (e46 _ _ ob4) T.cl T.n_joins (Nat.lt_of_le_of_lt (length_putF _ _ _) (by decide)) ?_
    rintro _ H7 e7 _ ⟨aJ, rJ, rfl, hJ⟩
    have ob7 := (e46.trans e7) _ _ ob4
    have hJ8 := hJ.off (o := .ins T.C dx (putF "joins" (.ref aJ) (putF "above" (.ref aA) []))) ob7
    have nL : ld ≠ x := fun e => by have := (e7 _ _ h6); rw [e, ob7] at this; cases this
    have hA8 : upd H7 x (.ins T.C dx (putF "joins" (.ref aJ) (putF "above" (.ref aA) []))) aA = some (.tup (fnl m fun x => .int (abv m M x : Nat))) := by rw [upd_ne nA]; exact (e46.trans e7) _ _ hA4
    have hD8 : upd H7 x (.ins T.C dx (putF "joins" (.ref aJ) (putF "above" (.ref aA) []))) ld = some (.lst (fnl m fun y => .int (msk (fun x => M x y == x) m : Nat))) := by rw [upd_ne nL]; exact e7 _ _ h6
    have ob8 : upd H7 x (.ins T.C dx (putF "joins" (.ref aJ) (putF "above" (.ref aA) []))) x = some (.ins T.C dx (putF "joins" (.ref aJ) (putF "above" (.ref aA) []))) := upd_same
    have keep8 : ∀ b o, H b = some o → b ≠ x → upd H7 x (.ins T.C dx (putF "joins" (.ref aJ) (putF "above" (.ref aA) []))) b = some o := fun b o hb hne => by rw [upd_ne hne]; exact (e46.trans e7) _ _ (keep3 b o hb hne)
    generalize upd H7 x (.ins T.C dx (putF "joins" (.ref aJ) (putF "above" (.ref aA) []))) = H8 at hJ8 hA8 hD8 ob8 keep8 ⊢
    -- self.meets
    refine c_fldP (a := x) (C := T.C) (dx := dx) (fs := putF "joins" (.ref aJ) (putF "above" (.ref aA) [])) (H0 := H8) (Ex.refl H8) (ep_bounds (u := fun y => msk (fun x => M x y == x) m) (T := M) (ev_var rfl) hD8 (by omega) (fun x y hx hy e => L.dn_inj hx hy e) fun x y hx hy => ⟨L.ml x y hx hy, L.dn_and hx hy⟩)
      (fun v H3 H4 e ⟨p, r, hv, h⟩ => ⟨p, r, hv, h.ex e⟩) (ev_var rfl) ob8 T.cl T.n_meets (Nat.lt_of_le_of_lt (length_putF _ _ _) (Nat.lt_of_le_of_lt (Nat.add_le_add_right (length_putF _ _ _) 1) (by decide))) ?_
    rintro _ H9 e9 _ ⟨aM, rM, rfl, hM⟩
    have ob9 := e9 _ _ ob8
    have hM10 := hM.off (o := .ins T.C dx (lfs aA aJ aM)) ob9
    have hJ10 := (hJ8.ex e9).off (o := .ins T.C dx (lfs aA aJ aM)) ob9
    have hA10 : upd H9 x (.ins T.C dx (lfs aA aJ aM)) aA = some (.tup (fnl m fun x => .int (abv m M x : Nat))) := by rw [upd_ne nA]; exact e9 _ _ hA8
    have ob10 : upd H9 x (.ins T.C dx (lfs aA aJ aM)) x = some (.ins T.C dx (lfs aA aJ aM)) := upd_same
    have keep10 : ∀ b o, H b = some o → b ≠ x → upd H9 x (.ins T.C dx (lfs aA aJ aM)) b = some o := fun b o hb hne => by rw [upd_ne hne]; exact e9 _ _ (keep8 b o hb hne)
    have eq10 : (upd H9 x (.ins T.C dx (putF "meets" (.ref aM) (putF "joins" (.ref aJ) (putF "above" (.ref aA) []))))) = upd H9 x (.ins T.C dx (lfs aA aJ aM)) := rfl
    rw [eq10]
    generalize upd H9 x (.ins T.C dx (lfs aA aJ aM)) = H10 at hM10 hJ10 hA10 ob10 keep10 ⊢
    have fin : LatAt T.C H10 ⟨x, m, J, M, dx, aA, aJ, aM, rJ, rM⟩ := ⟨ob10, hA10, hJ10, hM10, L⟩
    refine b_not (H0 := H10) (Ex.refl H10) (et_or0 (et_is (et_test (ev_op (ev_var rfl) ev_c (rv_eq rfl))) ?_) (et_or0 (et_is (et_test (ev_op (ev_joins (ev_var rfl) fin T.cl T.n_joins) ev_c rv_isN)) rfl) (et_is (et_test (ev_op (ev_meets (ev_var rfl) fin T.cl T.n_meets) ev_c rv_isN)) rfl))) fun H11 e11 _ => ?_
    · have := dec_nat (a := m) (b := 0)
      rw [show (V.int 0) = V.int ((0 : Nat) : Int) from rfl, this, beq_eq_false_iff_ne]
      omega
    · exact k _ H11 rfl rfl rfl rfl (fin.ex e11) fun b o hb hne => e11 _ _ (keep10 b o hb hne)
end
end K49
section
set_option autoImplicit false
namespace K49
/-! ### a family of sets with common parts, as a lattice -/
/-- m sets s 0 < s 1 < .. of points below 4, with all points and with two sets their common part -/
structure Fam (m : Nat) (s : Nat → Nat) : Prop where
  pos : 0 < m
  small : m ≤ 16
  lt : ∀ x, x < m → s x < 16
  asc : ∀ x y, x < y → y < m → s x < s y
  cap : ∀ x y, x < m → y < m → ∃ z, z < m ∧ s z = s x &&& s y
  top : ∃ t, t < m ∧ ∀ x, x < m → s x &&& s t = s x
/-- the first place below n at which p holds (n if there is none) -/
def fst (p : Nat → Bool) : Nat → Nat → Nat
  | 0, i => i
  | n + 1, i => if p i = true then i else fst p n (i + 1)
theorem fst_spec {p : Nat → Bool} : ∀ (n i : Nat), (∃ k, i ≤ k ∧ k < i + n ∧ p k = true) → p (fst p n i) = true ∧ fst p n i < i + n ∧ i ≤ fst p n i ∧ ∀ k, i ≤ k → k < fst p n i → p k = false
  | 0, i, ⟨k, h1, h2, _⟩ => by omega
  | n + 1, i, ⟨k, h1, h2, h3⟩ => by
    unfold fst
    by_cases h : p i = true
    · rw [if_pos h]
      exact ⟨h, by omega, Nat.le_refl _, fun k a b => by omega⟩
    · rw [if_neg h]
      have hk : i + 1 ≤ k := by
        rcases Nat.lt_or_ge i k with g | g
        · exact g
        · have : i = k := by omega
          subst this
          exact absurd h3 h
      have q := fst_spec n (i + 1) ⟨k, hk, by omega, h3⟩
      refine ⟨q.1, by omega, by omega, fun j a b => ?_⟩
      by_cases e : i = j
      · subst e
        simpa using h
      · exact q.2.2.2 j (by omega) b
def mtF (m : Nat) (s : Nat → Nat) (x y : Nat) : Nat := fst (fun z => s z == (s x &&& s y)) m 0
def jnF (m : Nat) (s : Nat → Nat) (x y : Nat) : Nat := fst (fun z => (s x &&& s z == s x) && (s y &&& s z == s y)) m 0
section
variable {m : Nat} {s : Nat → Nat} (F : Fam m s)
include F
theorem Fam.inj {x y : Nat} (hx : x < m) (hy : y < m) (h : s x = s y) : x = y := by
  rcases Nat.lt_trichotomy x y with g | g | g
  · have := F.asc x y g hy; omega
  · exact g
  · have := F.asc y x g hx; omega
theorem Fam.le {x y : Nat} (hx : x < m) (hy : y < m) (h : s x ≤ s y) : x ≤ y := by
  rcases Nat.lt_or_ge y x with g | g
  · have := F.asc y x g hx; omega
  · exact g
theorem Fam.mt {x y : Nat} (hx : x < m) (hy : y < m) : mtF m s x y < m ∧ s (mtF m s x y) = s x &&& s y := by
  obtain ⟨z, hz, e⟩ := F.cap x y hx hy
  have q := fst_spec (p := fun z => s z == (s x &&& s y)) m 0 ⟨z, Nat.zero_le _, by omega, by rw [e, beq_self_eq_true]⟩
  exact ⟨by have := q.2.1; unfold mtF; omega, beq_iff_eq.mp q.1⟩
theorem Fam.sub {x y : Nat} (hx : x < m) (hy : y < m) : mtF m s x y = x ↔ s x &&& s y = s x := by
  have q := F.mt hx hy
  constructor
  · intro h
    rw [h] at q
    exact q.2.symm
  · intro h
    exact F.inj q.1 hx (by rw [q.2, h])
theorem Fam.jn {x y : Nat} (hx : x < m) (hy : y < m) : jnF m s x y < m ∧ s x &&& s (jnF m s x y) = s x ∧ s y &&& s (jnF m s x y) = s y ∧ ∀ z, z < jnF m s x y → ¬ (s x &&& s z = s x ∧ s y &&& s z = s y) := by
  obtain ⟨t, ht, e⟩ := F.top
  have q := fst_spec (p := fun z => (s x &&& s z == s x) && (s y &&& s z == s y)) m 0 ⟨t, Nat.zero_le _, by omega, by rw [e x hx, e y hy]; simp⟩
  have q1 := q.1
  rw [Bool.and_eq_true, beq_iff_eq, beq_iff_eq] at q1
  refine ⟨by have := q.2.1; unfold jnF; omega, q1.1, q1.2, fun z hz h => ?_⟩
  have := q.2.2.2 z (Nat.zero_le _) hz
  rw [h.1, h.2] at this
  simp at this
theorem Fam.lat : Lat m (jnF m s) (mtF m s) := by
  have ml : ∀ x y, x < m → y < m → mtF m s x y < m := fun x y hx hy => (F.mt hx hy).1
  have ms : ∀ x y, x < m → y < m → s (mtF m s x y) = s x &&& s y := fun x y hx hy => (F.mt hx hy).2
  have jl : ∀ x y, x < m → y < m → jnF m s x y < m := fun x y hx hy => (F.jn hx hy).1
  refine ⟨F.pos, F.small, ml, jl, fun x y hx hy => ?_, fun x hx => ?_, fun x y z hx hy hz => ?_, fun x y hx hy h => ?_, fun x y hx hy => ?_, fun x y hx hy => ?_, fun x y z hx hy hz h1 h2 => ?_, ⟨s, F.lt, ms, fun x y hx hy e => F.inj hx hy e⟩⟩
  · exact F.inj (ml x y hx hy) (ml y x hy hx) (by rw [ms x y hx hy, ms y x hy hx, Nat.and_comm])
  · exact (F.sub hx hx).mpr (Nat.and_self _)
  · exact F.inj (ml _ _ (ml x y hx hy) hz) (ml _ _ hx (ml y z hy hz)) (by rw [ms _ _ (ml x y hx hy) hz, ms _ _ hx (ml y z hy hz), ms x y hx hy, ms y z hy hz, Nat.and_assoc])
  · have := (F.sub hx hy).mp h
    refine F.le hx hy ?_
    rw [← this]
    exact Nat.and_le_right
  · exact (F.sub hx (jl x y hx hy)).mpr (F.jn hx hy).2.1
  · exact (F.sub hy (jl x y hx hy)).mpr (F.jn hx hy).2.2.1
  · -- the join lies below every upper bound: the common part of both is an upper bound
    have a1 := (F.sub hx hz).mp h1
    have a2 := (F.sub hy hz).mp h2
    obtain ⟨jm, b1, b2, b3⟩ := F.jn hx hy
    have lm := ml _ _ jm hz
    have c1 : s x &&& s (mtF m s (jnF m s x y) z) = s x := by rw [ms _ _ jm hz, ← Nat.and_assoc, b1, a1]
    have c2 : s y &&& s (mtF m s (jnF m s x y) z) = s y := by rw [ms _ _ jm hz, ← Nat.and_assoc, b2, a2]
    have d : ¬ mtF m s (jnF m s x y) z < jnF m s x y := fun h => b3 _ h ⟨c1, c2⟩
    have e : mtF m s (jnF m s x y) z ≤ jnF m s x y := by
      refine F.le lm jm ?_
      rw [ms _ _ jm hz]
      exact Nat.and_le_left
    omega
/-- no upper bound ahead of the join -/
theorem Fam.first {x y z : Nat} (hx : x < m) (hy : y < m) (hz : z < m) (h1 : mtF m s x z = x) (h2 : mtF m s y z = y) : jnF m s x y ≤ z := by
  rcases Nat.lt_or_ge z (jnF m s x y) with g | g
  · exact absurd ⟨(F.sub hx hz).mp h1, (F.sub hy hz).mp h2⟩ ((F.jn hx hy).2.2.2 z g)
  · exact g
end

/-! ### the family's making -/
def addN (f : List Nat) (x : Nat) : List Nat := if x ∈ f then f else f ++ [x]
theorem mem_addN {f : List Nat} {x y : Nat} : y ∈ addN f x ↔ y ∈ f ∨ y = x := by
  unfold addN
  split
  · rename_i h
    exact ⟨.inl, fun q => q.elim id fun e => e ▸ h⟩
  · rw [List.mem_append, List.mem_singleton]
theorem nodup_addN {f : List Nat} {x : Nat} (h : f.Nodup) : (addN f x).Nodup := by
  unfold addN
  split
  · exact h
  · rename_i hx
    rw [List.nodup_append]
    exact ⟨h, by simp, fun a ha b hb => by
      rw [List.mem_singleton] at hb
      subst hb
      intro e
      subst e
      exact hx ha⟩
def addAll (f : List Nat) (w : Nat) (l : List Nat) : List Nat := l.foldl (fun f o => addN f (o &&& w)) f
theorem addAll_snoc (f : List Nat) (w : Nat) (l : List Nat) (o : Nat) : addAll f w (l ++ [o]) = addN (addAll f w l) (o &&& w) := by
  unfold addAll
  rw [List.foldl_append]
  rfl
theorem mem_addAll {w y : Nat} : ∀ {l f : List Nat}, y ∈ addAll f w l ↔ y ∈ f ∨ ∃ o, o ∈ l ∧ y = o &&& w
  | [], f => by simp [addAll]
  | o :: l, f => by
    unfold addAll
    rw [List.foldl_cons]
    have ih := mem_addAll (w := w) (y := y) (l := l) (f := addN f (o &&& w))
    unfold addAll at ih
    rw [ih, mem_addN]
    constructor
    · rintro ((h | h) | ⟨p, hp, h⟩)
      · exact .inl h
      · exact .inr ⟨o, List.mem_cons_self, h⟩
      · exact .inr ⟨p, List.mem_cons_of_mem _ hp, h⟩
    · rintro (h | ⟨p, hp, h⟩)
      · exact .inl (.inl h)
      · rcases List.mem_cons.mp hp with e | e
        · subst e; exact .inl (.inr h)
        · exact .inr ⟨p, e, h⟩
theorem nodup_addAll {w : Nat} : ∀ {l f : List Nat}, f.Nodup → (addAll f w l).Nodup
  | [], f, h => h
  | o :: l, f, h => by
    unfold addAll
    rw [List.foldl_cons]
    exact nodup_addAll (l := l) (nodup_addN h)
/-- what holds of the list between two turns -/
structure Pre (n : Nat) (f : List Nat) : Prop where
  n4 : n ≤ 4
  nd : f.Nodup
  lt : ∀ x ∈ f, x < 2 ^ n
  full : 2 ^ n - 1 ∈ f
  cap : ∀ x ∈ f, ∀ y ∈ f, x &&& y ∈ f
theorem Pre.len {n : Nat} {f : List Nat} (h : Pre n f) : f.length ≤ 16 := by
  refine len_le_of_lt 16 f h.nd fun x hx => ?_
  have := h.lt x hx
  have h4 : 2 ^ n ≤ 2 ^ 4 := Nat.pow_le_pow_right (by decide) h.n4
  omega
theorem pre_one {n : Nat} (h : n ≤ 4) : Pre n [2 ^ n - 1] := by
  refine ⟨h, by simp, fun x hx => ?_, by simp, fun x hx y hy => ?_⟩
  · rw [List.mem_singleton] at hx
    have := Nat.two_pow_pos n
    omega
  · rw [List.mem_singleton] at hx hy
    subst hx
    subst hy
    rw [Nat.and_self]
    simp
theorem Pre.full_and {n : Nat} {f : List Nat} (h : Pre n f) {w : Nat} (hw : w < 2 ^ n) : (2 ^ n - 1) &&& w = w := by
  rw [Nat.and_comm, Nat.and_two_pow_sub_one_eq_mod, Nat.mod_eq_of_lt hw]
theorem Pre.add {n : Nat} {f : List Nat} (h : Pre n f) {w : Nat} (hw : w < 2 ^ n) : Pre n (addN (addAll f w f) w) := by
  have mem : ∀ y, y ∈ addN (addAll f w f) w ↔ y ∈ f ∨ ∃ o, o ∈ f ∧ y = o &&& w := by
    intro y
    rw [mem_addN, mem_addAll]
    constructor
    · rintro (q | q)
      · exact q
      · exact .inr ⟨2 ^ n - 1, h.full, by rw [h.full_and hw]; exact q⟩
    · exact .inl
  refine ⟨h.n4, nodup_addN (nodup_addAll h.nd), fun x hx => ?_, (mem _).mpr (.inl h.full), fun x hx y hy => ?_⟩
  · rcases (mem x).mp hx with q | ⟨o, _, q⟩
    · exact h.lt x q
    · rw [q]
      exact Nat.lt_of_le_of_lt Nat.and_le_right hw
  · rw [mem]
    rcases (mem x).mp hx with q | ⟨o, ho, q⟩ <;> rcases (mem y).mp hy with r | ⟨p, hp, r⟩
    · exact .inl (h.cap x q y r)
    · exact .inr ⟨x &&& p, h.cap x q p hp, by rw [r, Nat.and_assoc]⟩
    · refine .inr ⟨o &&& y, h.cap o ho y r, ?_⟩
      rw [q, Nat.and_assoc, Nat.and_assoc, Nat.and_comm w y]
    · refine .inr ⟨o &&& p, h.cap o ho p hp, ?_⟩
      rw [q, r, Nat.and_assoc, Nat.and_assoc, Nat.and_comm w (p &&& w), Nat.and_assoc, Nat.and_self]
/-- sorted -/
theorem Pre.fam {n : Nat} {f g : List Nat} (h : Pre n f) (hp : ∀ x, x ∈ g ↔ x ∈ f) (hl : g.length = f.length) (hs : g.Pairwise fun a b => a ≤ b) (hn : g.Nodup) : Fam g.length fun i => g.getD i 0 := by
  have at_ : ∀ i, (hi : i < g.length) → g.getD i 0 = g[i] := fun i hi => by
    rw [List.getD_eq_getElem?_getD, List.getElem?_eq_getElem hi]
    rfl
  have mem : ∀ i, i < g.length → g.getD i 0 ∈ f := fun i hi => by
    rw [at_ i hi]
    exact (hp _).mp (List.getElem_mem hi)
  have find : ∀ v, v ∈ f → ∃ z, z < g.length ∧ g.getD z 0 = v := fun v hv => by
    obtain ⟨z, hz, e⟩ := List.getElem_of_mem ((hp v).mpr hv)
    exact ⟨z, hz, by rw [at_ z hz]; exact e⟩
  refine ⟨?_, ?_, fun x hx => ?_, fun x y hxy hy => ?_, fun x y hx hy => ?_, ?_⟩
  · obtain ⟨z, hz, _⟩ := find _ h.full
    omega
  · rw [hl]
    exact h.len
  · have := h.lt _ (mem x hx)
    have h4 : 2 ^ n ≤ 2 ^ 4 := Nat.pow_le_pow_right (by decide) h.n4
    omega
  · have hx : x < g.length := by omega
    have le := List.pairwise_iff_getElem.mp hs x y hx hy hxy
    have ne : g[x] ≠ g[y] := fun e => by
      have := (List.getElem_inj hn).mp e
      omega
    rw [at_ x hx, at_ y hy]
    omega
  · exact find _ (h.cap _ (mem x hx) _ (mem y hy))
  · obtain ⟨t, ht, e⟩ := find _ h.full
    refine ⟨t, ht, fun x hx => ?_⟩
    rw [e, Nat.and_comm, h.full_and (h.lt _ (mem x hx))]
end K49
end
namespace K49
open PySem L2 Evl
/-! ### the evaluator -/
local macro_rules | `(tactic| wtm_at "k49sd") => `(tactic| first
  | (with_reducible assumption)
  | decide
  | omega
  | ((with_reducible refine' Lat.ml ?k0 _ _ ?k1 ?k2); (case k0 => (with_reducible assumption)); (case k1 => wtm_at "k49sd"); (case k2 => wtm_at "k49sd"))
  | ((with_reducible refine' Lat.jl ?k0 _ _ ?k1 ?k2); (case k0 => (with_reducible assumption)); (case k1 => wtm_at "k49sd"); (case k2 => wtm_at "k49sd")))
local macro_rules | `(tactic| wtm_at "k49rv") => `(tactic| first
  | (with_reducible exact rv_and)
  | (with_reducible exact rv_or)
  | ((with_reducible refine' rv_shl1 ?k1); (case k1 => wtm_at "k49sd"))
  | (with_reducible exact rv_I0)
  | ((with_reducible refine' rv_T2 ?k1 ?k2 ?k3); (case k1 => (with_reducible assumption)); (case k2 => wtm_at "k49sd"); (case k3 => wtm_at "k49sd"))
  | ((with_reducible refine' rv_T1 ?k1 ?k2); (case k1 => (with_reducible assumption)); (case k2 => wtm_at "k49sd"))
  | ((with_reducible refine' rv_L2 ?k1 ?k2 ?k3); (case k1 => (with_reducible assumption)); (case k2 => wtm_at "k49sd"); (case k3 => wtm_at "k49sd"))
  | ((with_reducible refine' rv_L1 ?k1 ?k2); (case k1 => (with_reducible assumption)); (case k2 => wtm_at "k49sd"))
  | ((with_reducible refine' rv_fT' ?k1 ?k2 ?k3); (case k1 => (with_reducible assumption)); (case k2 => wtm_at "k49sd"); (case k3 => exact rfl))
  | ((with_reducible refine' rv_fL' ?k1 ?k2 ?k3); (case k1 => (with_reducible assumption)); (case k2 => wtm_at "k49sd"); (case k3 => exact rfl))
  | ((with_reducible refine' rv_mod ?k1); (case k1 => wtm_at "k49sd"))
  | ((with_reducible refine' rv_shr ?k1); (case k1 => wtm_at "k49sd"))
  | ((with_reducible refine' rv_I (C := CMul) ?k1); (case k1 => (first | exact Or.inr ⟨by decide, by decide⟩ | exact Or.inl ⟨by decide, by decide⟩ | exact Or.inl ⟨by omega, by omega⟩ | exact Or.inr ⟨by omega, by omega⟩)))
  | ((with_reducible refine' rv_I (C := CDiv) ?k1); (case k1 => (first | exact ⟨by decide, by decide⟩ | exact ⟨by omega, by omega⟩)))
  | ((with_reducible refine' rv_I (C := CPow) ?k1); (case k1 => (first | exact ⟨by omega, by omega, by decide⟩ | exact ⟨by omega, by omega, by omega⟩)))
  | ((with_reducible refine' rv_eq ?k1); (case k1 => rfl))
  | ((with_reducible refine' rv_ne ?k1); (case k1 => rfl))
  | (with_reducible exact rv_isN) | (with_reducible exact rv_notN) | (with_reducible exact rv_isB) | (with_reducible exact rv_notB)
  | (with_reducible assumption))
local macro_rules | `(tactic| wtm_at "k49ev") => `(tactic| first
  | (with_reducible exact ev_c)
  | (exact ev_var rfl)
  | ((with_reducible refine' ev_op ?k1 ?k2 ?k3); (case k1 => wtm_at "k49ev"); (case k2 => wtm_at "k49ev"); (case k3 => wtm_at "k49rv"))
  | ((with_reducible refine' ev_un ?k1 ru_neg); (case k1 => wtm_at "k49ev"))
  | ((with_reducible refine' ev_int1 ?k1); (case k1 => wtm_at "k49ev"))
  | ((with_reducible refine' ev_abs ?k1); (case k1 => wtm_at "k49ev"))
  | ((with_reducible refine' ev_above ?k1 ?k2 ?k3 ?k4); (case k1 => wtm_at "k49ev"); (case k2 => (with_reducible assumption)); (case k3 => exact Tx.cl ‹_›); (case k4 => exact Tx.n_above ‹_›))
  | ((with_reducible refine' ev_joins ?k1 ?k2 ?k3 ?k4); (case k1 => wtm_at "k49ev"); (case k2 => (with_reducible assumption)); (case k3 => exact Tx.cl ‹_›); (case k4 => exact Tx.n_joins ‹_›))
  | ((with_reducible refine' ev_meets ?k1 ?k2 ?k3 ?k4); (case k1 => wtm_at "k49ev"); (case k2 => (with_reducible assumption)); (case k3 => exact Tx.cl ‹_›); (case k4 => exact Tx.n_meets ‹_›))
  | ((with_reducible refine' ev_lenfT ?k1 ?k2); (case k1 => wtm_at "k49ev"); (case k2 => (with_reducible assumption)))
  | ((with_reducible refine' ev_lenfL ?k1 ?k2); (case k1 => wtm_at "k49ev"); (case k2 => (with_reducible assumption)))
  | ((with_reducible refine' ev_lenT ?k1 ?k2); (case k1 => wtm_at "k49ev"); (case k2 => wtm_at "k49sq"))
  | ((with_reducible refine' ev_len ?k1 ?k2); (case k1 => wtm_at "k49ev"); (case k2 => wtm_at "k49sq"))
  | ((with_reducible refine' ev_call0 ?k1 ?k2); (case k1 => wtm_at "k49ea"); (case k2 => wtm_at "k49sp"))
  | ((with_reducible refine' ev_notV ?k1); (case k1 => wtm_at "k49ev"))
  | ((with_reducible refine' ev_andV ?k1 ?k2); (case k1 => wtm_at "k49ev"); (case k2 => (intro _; wtm_at "k49ev")))
  | ((with_reducible refine' ev_orV ?k1 ?k2); (case k1 => wtm_at "k49ev"); (case k2 => (intro _; wtm_at "k49ev"))))
local macro_rules | `(tactic| wtm_at "k49ea") => `(tactic| first
  | (with_reducible exact ea_nil)
  | ((with_reducible refine' ea_cons ?k1 ?k2); (case k1 => wtm_at "k49ev"); (case k2 => wtm_at "k49ea")))
local macro_rules | `(tactic| wtm_at "k49sq") => `(tactic| first
  | (with_reducible assumption)
  | (refine' sq_of ?k1; (case k1 => (with_reducible assumption)))
  | (refine' st_of ?k1; (case k1 => (with_reducible assumption))))
local macro_rules | `(tactic| wtm_at "k49et") => `(tactic| first
  | ((with_reducible refine' et_test ?k1); (case k1 => wtm_at "k49ev"))
  | ((with_reducible refine' et_B ?k1); (case k1 => wtm_at "k49ev"))
  | ((with_reducible refine' et_and ?k1 ?k2); (case k1 => wtm_at "k49et"); (case k2 => (intro _; wtm_at "k49et")))
  | ((with_reducible refine' et_or ?k1 ?k2); (case k1 => wtm_at "k49et"); (case k2 => (intro _; wtm_at "k49et")))
  | ((with_reducible refine' et_not ?k1); (case k1 => wtm_at "k49et")))

/-! ### the state of the draws -/
abbrev PR : Int := 2147483647
def StA (a : Addr) (H : Hp) : Prop := ∃ s t : Int, H a = some (.lst [.int s, .int t]) ∧ 0 ≤ s ∧ 0 ≤ t ∧ t < PR
/-- all but a as it was -/
def Off (a : Addr) (H H' : Hp) : Prop := ∀ b o, b ≠ a → H b = some o → H' b = some o
theorem Off.refl (a : Addr) (H : Hp) : Off a H H := fun _ _ _ h => h
theorem Off.trans {a : Addr} {H H1 H2 : Hp} (x : Off a H H1) (y : Off a H1 H2) : Off a H H2 := fun b o n h => y b o n (x b o n h)
theorem Off.of {a : Addr} {H H' : Hp} (e : Ex H H') : Off a H H' := fun b o _ h => e b o h
theorem Off.upd {a : Addr} {H : Hp} {o : HO} : Off a H (upd H a o) := fun b u n h => by rw [upd_ne n]; exact h
theorem StA.ex {a : Addr} {H H' : Hp} (h : StA a H) (e : Ex H H') : StA a H' := by
  obtain ⟨s, t, h1, h2⟩ := h
  exact ⟨s, t, e _ _ h1, h2⟩
theorem Ex.off {a : Addr} {G H H' : Hp} (e : Ex G H) (hg : G a = none) (o : Off a H H') : Ex G H' := fun b u h => o b u (ne_of_none h hg) (e b u h)
section
variable {P : Program} {w : World} {K : PySem.W.Frag} {mg : Str → Option Value} {base : Heap}
/-! ### _law_state -/
def spState (K : PySem.W.Frag) : Sp := fun vs H Q _ => ∃ (a : Addr) (ns : List Int), vs = [.ref a] ∧ SqL K H a (ns.map V.int) ∧ ∀ p H', H p = none → Ex H H' → StA p H' → Q (.ref p) H'
theorem cut_int {ns : List Int} {lo hi : Option Int} {v : V} (h : v ∈ cutV (ns.map V.int) lo hi) : ∃ n, v = .int n := by
  unfold cutV at h
  obtain ⟨n, _, e⟩ := List.mem_map.mp (List.mem_of_mem_drop (List.mem_of_mem_take h))
  exact ⟨n, e.symm⟩
theorem sc__law_state : FnScope ["_law_script", "_law_seed", "_law_total", "_law_cell"] ["_law_script"] (defScope s__law_state) := ⟨rfl, rfl, rfl, by decide +kernel, rfl, by decide +kernel, by decide +kernel⟩
theorem ok__law_state (T : Tx K mg) : FnOk P w K mg base CX0 1 T.a__law_state T.d__law_state ["_law_script"] (spState K) := by
  refine T.p__law_state.F.ok sc__law_state (fun vs H Q E h => ?_) (fun cdv A outer s H vs Q E hr h => ?_)
  · obtain ⟨a, ns, rfl, _⟩ := h
    rfl
  · obtain ⟨a, ns, rfl, ha, k⟩ := h
    refine ⟨_, (pss_cons (ps_set (i := 1) sc__law_state.nd rfl (Or.inl rfl) pe_int)
  (pss_cons (ps_set (i := 2) sc__law_state.nd rfl (Or.inl rfl) pe_int)
  (pss_cons (ps_for PassesOwn.never rfl (gpiL (K := K) rfl (pe_slice (gslL (K := K) rfl) (pv 0) po_none (po_some pe_int))) (pg_name (i := 3) sc__law_state.nd rfl (Or.inl rfl))
   (pss_cons (ps_set (i := 1) sc__law_state.nd rfl (Or.inl rfl) (pe_op op_add (pe_op op_mul (pv 1) pe_int) (pe_callB call_abs (by rfl) T.b_abs (by decide +kernel) (pa_cons (pv 3) pa_nil))))
  (pss_one (ps_set (i := 2) sc__law_state.nd rfl (Or.inl rfl) (pe_op op_mod (pe_callTy call_int1 (by rfl) T.b_int (by decide +kernel) (pa_cons (pe_op op_add (pe_op op_mul (pv 2) pe_int) (pv 3)) pa_nil)) pe_int)))))
  (pss_one (ps_ret (pe_lst (pa_cons (pv 1) (pa_cons (pv 2) pa_nil)))))))), ?_⟩
    refine c_asg (v := .int 0) (Ex.refl H) ev_c fun H1 _ e1 => ?_
    refine c_asg (v := .int 1) e1 ev_c fun H2 _ e2 => ?_
    refine c_forNL e2 (el_sl (ev_var rfl) eo_none (eo_some ev_c) ha) (fun p i σ H' => Ex H H' ∧ (∃ s t v, σ = [some (.ref a), some (.int s), some (.int t), v] ∧ 0 ≤ s ∧ 0 ≤ t ∧ t < PR) ∧ H' p = some (.lst (cutV (ns.map V.int) none (some 63))))
      (fun p H3 hp _ e3 h3 => ⟨e3, ⟨0, 1, _, rfl, by decide, by decide, by decide⟩, h3⟩) (fun p i σ H' _ q => sq_of q.2.2) ?_ ?_
    · rintro p i x σ H3 hx ⟨e3, ⟨s, t, v, rfl, h1, h2, h3⟩, hp⟩
      obtain ⟨n, rfl⟩ := cut_int (List.mem_of_getElem? hx)
      refine c_asg (v := .int (s * 1000003 + (if n < 0 then -n else n))) (H0 := H3) (Ex.refl H3) (by wtm_at "k49ev") fun H4 e34 _ => ?_
      refine b_asg (v := .int ((t * 48271 + n) % PR)) (H0 := H4) (Ex.refl H4) (by wtm_at "k49ev") fun H5 e45 _ => ?_
      refine ⟨e3.trans (e34.trans e45), ⟨_, _, _, rfl, ?_, Int.emod_nonneg _ (by decide), Int.emod_lt_of_pos _ (by decide)⟩, (e34.trans e45) _ _ hp⟩
      split <;> omega
    · rintro p σ H3 ⟨e3, ⟨s, t, v, rfl, h1, h2, h3⟩, hp⟩
      exact b_retL (H0 := H3) (Ex.refl H3) (el_lst (vs := [.int s, .int t]) (by wtm_at "k49ea") (by show 2 ≤ 100000; decide)) fun q H4 hq e4 _ h4 => k q H4 (fresh_back e3 hq) (e3.trans e4) ⟨s, t, h4, h1, h2, h3⟩
/-! ### _law_take -/
def spTake : Sp := fun vs H Q _ => ∃ (a : Addr) (m : Nat), vs = [.ref a, .int (m : Nat)] ∧ StA a H ∧ 0 < m ∧ m < 1073741824 ∧ ∀ (k : Nat) H', k < m → Off a H H' → StA a H' → Q (.int (k : Nat)) H'
theorem em_nat {i : Int} {m : Nat} (h : 0 < m) : ∃ k : Nat, i % (m : Int) = (k : Int) ∧ k < m := by
  have h1 := Int.emod_nonneg i (show (m : Int) ≠ 0 by omega)
  have h2 := Int.emod_lt_of_pos i (show (0 : Int) < m by omega)
  exact ⟨(i % (m : Int)).toNat, by omega, by omega⟩
theorem sc__law_take : FnScope ["_law_state_here", "_law_m", "_law_value"] ["_law_state_here", "_law_m"] (defScope s__law_take) := ⟨rfl, rfl, rfl, by decide +kernel, rfl, by decide +kernel, by decide +kernel⟩
theorem ok__law_take (T : Tx K mg) : FnOk P w K mg base CX0 1 T.a__law_take T.d__law_take ["_law_state_here", "_law_m"] spTake := by
  refine T.p__law_take.F.ok sc__law_take (fun vs H Q E h => ?_) (fun cdv A outer s H vs Q E hr h => ?_)
  · obtain ⟨a, m, rfl, _⟩ := h
    rfl
  · obtain ⟨a, m, rfl, ⟨s, t, ha, h1, h2, h3⟩, hm, hm2, k⟩ := h
    refine ⟨_, (pss_cons (ps_if (pt_cmpR op_gt (pe_ix (gixL (K := K) rfl) (pv 0) pe_int (fun _ _ => rfl)) pe_int (nomark _)) (pss_cons (ps_set (i := 2) sc__law_take.nd rfl (Or.inl rfl) (pe_op op_mod (pe_callTy call_int1 (by rfl) T.b_int (by decide +kernel) (pa_cons (pe_ix (gixL (K := K) rfl) (pv 0) pe_int (fun _ _ => rfl)) pa_nil)) (pv 1)))
  (pss_cons (ps_asg (pe_op op_fdiv (pe_ix (gixL (K := K) rfl) (pv 0) pe_int (fun _ _ => rfl)) (pv 1)) (pg_sub (pv 0) pe_int set_list))
  (pss_one (ps_ret (pv 2))))) pss_nil)
  (pss_cons (ps_asg (pe_op op_mod (pe_callTy call_int1 (by rfl) T.b_int (by decide +kernel) (pa_cons (pe_op op_add (pe_op op_mul (pe_ix (gixL (K := K) rfl) (pv 0) pe_int (fun _ _ => rfl)) pe_int) pe_int) pa_nil)) pe_int) (pg_sub (pv 0) pe_int set_list))
  (pss_one (ps_ret (pe_op op_mod (pe_callTy call_int1 (by rfl) T.b_int (by decide +kernel) (pa_cons (pe_op op_fdiv (pe_ix (gixL (K := K) rfl) (pv 0) pe_int (fun _ _ => rfl)) pe_int) pa_nil)) (pv 1)))))), ?_⟩
    have i0 : ∀ {σ : L2.St} {H' : Hp} {x y : V}, H' a = some (.lst [x, y]) → σ[0]? = some (some (.ref a)) → Ev (tOp (rIxL K) (tVar 0) (tC (.int 0))) σ H' x := fun h h0 => ev_op (ev_var h0) ev_c (rv_ixL (i := 0) (sq_of h) (atI_nat (j := 0) rfl))
    have i1 : ∀ {σ : L2.St} {H' : Hp} {x y : V}, H' a = some (.lst [x, y]) → σ[0]? = some (some (.ref a)) → Ev (tOp (rIxL K) (tVar 0) (tC (.int 1))) σ H' y := fun h h0 => ev_op (ev_var h0) ev_c (rv_ixL (i := 1) (sq_of h) (atI_nat (j := 1) rfl))
    refine c_when (b := decide (0 < s)) (Ex.refl H) (et_test (ev_op (i0 ha rfl) ev_c rv_I0)) (fun hs H1 _ e1 => ?_) (fun hs H1 _ e1 => ?_)
    · obtain ⟨v, ev, vm⟩ := em_nat (i := s) hm
      refine c_asg (v := .int (v : Nat)) e1 ?_ fun H2 _ e2 => ?_
      · rw [← ev]
        exact ev_op (ev_int1 (i0 ha rfl)) (ev_var rfl) (rv_mod (by omega))
      have h2a := e2 _ _ ha
      refine c_setL (H0 := H2) (j := 0) (v := .int (s / m)) (Ex.refl H2) h2a (ev_op (i0 h2a rfl) (ev_var rfl) (rv_I (C := CDiv) ⟨by omega, by omega⟩)) (ev_var rfl) ev_c (by show 0 < 2; decide) fun H3 e3 _ => ?_
      refine b_ret (H0 := upd H3 a (.lst [.int (s / m), .int t])) (Ex.refl _) (ev_var (v := .int (v : Nat)) rfl) fun H4 e4 _ => ?_
      refine k v H4 vm ((Off.of (e2.trans e3)).trans (Off.upd.trans (Off.of e4))) ⟨s / m, t, e4 _ _ upd_same, Int.ediv_nonneg h1 (by omega), h2, h3⟩
    · refine c_setL (H0 := H1) (j := 1) (v := .int ((t * 48271 + 11) % PR)) (Ex.refl H1) (e1 _ _ ha) (ev_op (ev_int1 (ev_op (ev_op (i1 (e1 _ _ ha) rfl) ev_c (rv_I (C := CMul) (Or.inr ⟨by decide, by decide⟩))) ev_c rv_I0)) ev_c (rv_mod (by decide))) (ev_var rfl) ev_c (by show 1 < 2; decide) fun H3 e3 _ => ?_
      generalize ht : (t * 48271 + 11) % PR = u
      have u1 : 0 ≤ u := by rw [← ht]; exact Int.emod_nonneg _ (by decide)
      have u2 : u < PR := by rw [← ht]; exact Int.emod_lt_of_pos _ (by decide)
      have hn : upd H3 a (.lst [.int s, .int u]) a = some (.lst [.int s, .int u]) := upd_same
      obtain ⟨v, ev, vm⟩ := em_nat (i := u / 7) hm
      refine b_ret (H0 := upd H3 a (.lst [.int s, .int u])) (v := .int (v : Nat)) (Ex.refl _) ?_ fun H4 e4 _ => ?_
      · rw [← ev]
        exact ev_op (ev_int1 (ev_op (i1 hn rfl) ev_c (rv_I (C := CDiv) ⟨by decide, by decide⟩))) (ev_var rfl) (rv_mod (by omega))
      exact k v H4 vm ((Off.of (e1.trans e3)).trans (Off.upd.trans (Off.of e4))) ⟨s, u, e4 _ _ hn, h1, u1, u2⟩
/-! ### _law_common, _law_united, _law_power -/
theorem dv_nat (a b : Nat) : decide (V.int ((a : Int) / (b : Int) % 2) = V.int 1) = (a / b % 2 == 1) := by
  rw [show (a : Int) / (b : Int) % 2 = ((a / b % 2 : Nat) : Int) from rfl]
  exact dec_nat (b := 1)
def spCommon : Sp := fun vs H Q _ => ∃ a b n : Nat, vs = [.int (a : Nat), .int (b : Nat), .int (n : Nat)] ∧ n ≤ 20 ∧ RetV (.int ((a &&& b) % 2 ^ n : Nat)) H Q
theorem pow_small {i n : Nat} (hn : n ≤ 20) (hi : i ≤ n) : 2 ^ i ≤ 1048576 := by
  have := Nat.pow_le_pow_right (by decide : 1 ≤ 2) (show i ≤ 20 by omega)
  exact this
theorem sc__law_common : FnScope ["_law_a", "_law_b", "_law_n", "_law_total", "_law_place", "_law_k"] ["_law_a", "_law_b", "_law_n"] (defScope s__law_common) := ⟨rfl, rfl, rfl, by decide +kernel, rfl, by decide +kernel, by decide +kernel⟩
theorem ok__law_common (T : Tx K mg) : FnOk P w K mg base CX0 1 T.a__law_common T.d__law_common ["_law_a", "_law_b", "_law_n"] spCommon := by
  refine T.p__law_common.F.ok sc__law_common (fun vs H Q E h => ?_) (fun cdv A outer s H vs Q E hr h => ?_)
  · obtain ⟨a, b, n, rfl, _⟩ := h
    rfl
  · obtain ⟨a, b, n, rfl, hn, k⟩ := h
    refine ⟨_, (pss_cons (ps_set (i := 3) sc__law_common.nd rfl (Or.inl rfl) pe_int)
  (pss_cons (ps_set (i := 4) sc__law_common.nd rfl (Or.inl rfl) pe_int)
  (pss_cons (ps_for PassesOwn.never rfl (pi_range1 rfl T.b_range (pa_cons (pv 2) pa_nil)) (pg_name (i := 5) sc__law_common.nd rfl (Or.inl rfl))
   (pss_cons (ps_if (PW.pt (pw_and (pt_cmpR op_eq (pe_op op_mod (pe_callTy call_int1 (by rfl) T.b_int (by decide +kernel) (pa_cons (pe_op op_fdiv (pv 0) (pv 4)) pa_nil)) pe_int) pe_int (nomark _)) (pw_and1 (pt_cmpR op_eq (pe_op op_mod (pe_callTy call_int1 (by rfl) T.b_int (by decide +kernel) (pa_cons (pe_op op_fdiv (pv 1) (pv 4)) pa_nil)) pe_int) pe_int (nomark _))))) (pss_one (ps_set (i := 3) sc__law_common.nd rfl (Or.inl rfl) (pe_op op_add (pv 3) (pv 4)))) pss_nil)
  (pss_one (ps_set (i := 4) sc__law_common.nd rfl (Or.inl rfl) (pe_op op_mul (pv 4) pe_int)))))
  (pss_one (ps_ret (pv 3)))))), ?_⟩
    refine c_asg (v := .int 0) (Ex.refl H) ev_c fun H1 _ e1 => ?_
    refine c_asg (v := .int 1) e1 ev_c fun H2 _ e2 => ?_
    refine c_forR e2 (n := n) (by wtm_at "k49ea") (by omega) (fun i σ H' => Ex H H' ∧ ∃ vk, σ = [some (.int (a : Nat)), some (.int (b : Nat)), some (.int (n : Nat)), some (.int ((a &&& b) % 2 ^ i : Nat)), some (.int (2 ^ i : Nat)), vk])
      (fun H3 _ e3 => ⟨e3, none, by rw [Nat.pow_zero, Nat.mod_one]; rfl⟩) ?_ ?_
    · rintro i σ H3 hi ⟨e3, vk, rfl⟩
      have p1 := Nat.two_pow_pos i
      have p2 := pow_small hn (Nat.le_of_lt hi)
      have hs := and_step a b i
      generalize hpl : 2 ^ i = pl at hs p1 p2 ⊢
      have fin : ∀ {H' : Hp}, Ex H H' → ∀ z : Nat, z = (a &&& b) % 2 ^ (i + 1) → tAsg (tOp (rI CMul fun i j => .int (i * j)) (tVar 4) (tC (.int 2))) (gName 4) { nx := fun σ H' => Ex H H' ∧ ∃ vk, σ = [some (.int (a : Nat)), some (.int (b : Nat)), some (.int (n : Nat)), some (.int ((a &&& b) % 2 ^ (i + 1) : Nat)), some (.int (2 ^ (i + 1) : Nat)), vk], rt := Q }
          [some (.int (a : Nat)), some (.int (b : Nat)), some (.int (n : Nat)), some (.int (z : Nat)), some (.int (pl : Nat)), some (.int (i : Nat))] H' := fun {H'} e z hz => by
        refine b_asg (v := .int ((pl : Int) * 2)) e (by wtm_at "k49ev") fun H5 _ e5 => ⟨e5, some (.int (i : Nat)), ?_⟩
        rw [hz, Nat.pow_succ, hpl]
        rfl
      refine c_when (b := (a / pl % 2 == 1) && (b / pl % 2 == 1)) e3 ?_ (fun ht H4 _ e4 => ?_) (fun ht H4 _ e4 => ?_)
      · rw [← dv_nat, ← dv_nat]
        wtm_at "k49et"
      · rw [Bool.and_eq_true, beq_iff_eq, beq_iff_eq] at ht
        rw [if_pos ht] at hs
        refine b_asg (v := .int (((a &&& b) % pl + pl : Nat) : Int)) e4 ?_ fun H5 _ e5 => fin e5 _ hs.symm
        rw [Int.natCast_add]
        wtm_at "k49ev"
      · have hne : ¬ (a / pl % 2 = 1 ∧ b / pl % 2 = 1) := fun q => by
          rw [q.1, q.2] at ht
          cases ht
        rw [if_neg hne, Nat.add_zero] at hs
        exact fin e4 _ hs.symm
    · rintro σ H3 ⟨e3, vk, rfl⟩
      exact b_ret e3 (ev_var rfl) fun H4 _ e4 => k H4 e4
theorem sv_common {H : Hp} {a b n : Nat} (hn : n ≤ 20) : SpV spCommon [.int (a : Nat), .int (b : Nat), .int (n : Nat)] H (.int ((a &&& b) % 2 ^ n : Nat)) := fun H1 e Q q E => ⟨a, b, n, rfl, hn, q⟩
def spUnited : Sp := fun vs H Q _ => ∃ a b : Nat, vs = [.int (a : Nat), .int (b : Nat)] ∧ RetV (.int ((a ||| b) % 2 ^ 17 : Nat)) H Q
theorem sc__law_united : FnScope ["_law_a", "_law_b", "_law_total", "_law_place", "_law_k"] ["_law_a", "_law_b"] (defScope s__law_united) := ⟨rfl, rfl, rfl, by decide +kernel, rfl, by decide +kernel, by decide +kernel⟩
theorem ok__law_united (T : Tx K mg) : FnOk P w K mg base CX0 1 T.a__law_united T.d__law_united ["_law_a", "_law_b"] spUnited := by
  refine T.p__law_united.F.ok sc__law_united (fun vs H Q E h => ?_) (fun cdv A outer s H vs Q E hr h => ?_)
  · obtain ⟨a, b, rfl, _⟩ := h
    rfl
  · obtain ⟨a, b, rfl, k⟩ := h
    refine ⟨_, (pss_cons (ps_set (i := 2) sc__law_united.nd rfl (Or.inl rfl) pe_int)
  (pss_cons (ps_set (i := 3) sc__law_united.nd rfl (Or.inl rfl) pe_int)
  (pss_cons (ps_for PassesOwn.never rfl (pi_range1 rfl T.b_range (pa_cons pe_int pa_nil)) (pg_name (i := 4) sc__law_united.nd rfl (Or.inl rfl))
   (pss_cons (ps_if (PW.pt (pw_or (pt_cmpR op_eq (pe_op op_mod (pe_callTy call_int1 (by rfl) T.b_int (by decide +kernel) (pa_cons (pe_op op_fdiv (pv 0) (pv 3)) pa_nil)) pe_int) pe_int (nomark _)) (pw_or1 (pt_cmpR op_eq (pe_op op_mod (pe_callTy call_int1 (by rfl) T.b_int (by decide +kernel) (pa_cons (pe_op op_fdiv (pv 1) (pv 3)) pa_nil)) pe_int) pe_int (nomark _))))) (pss_one (ps_set (i := 2) sc__law_united.nd rfl (Or.inl rfl) (pe_op op_add (pv 2) (pv 3)))) pss_nil)
  (pss_one (ps_set (i := 3) sc__law_united.nd rfl (Or.inl rfl) (pe_op op_mul (pv 3) pe_int)))))
  (pss_one (ps_ret (pv 2)))))), ?_⟩
    refine c_asg (v := .int 0) (Ex.refl H) ev_c fun H1 _ e1 => ?_
    refine c_asg (v := .int 1) e1 ev_c fun H2 _ e2 => ?_
    refine c_forR e2 (n := 17) (ea_cons ev_c ea_nil) (by omega) (fun i σ H' => Ex H H' ∧ ∃ vk, σ = [some (.int (a : Nat)), some (.int (b : Nat)), some (.int ((a ||| b) % 2 ^ i : Nat)), some (.int (2 ^ i : Nat)), vk])
      (fun H3 _ e3 => ⟨e3, none, by rw [Nat.pow_zero, Nat.mod_one]; rfl⟩) ?_ ?_
    · rintro i σ H3 hi ⟨e3, vk, rfl⟩
      have p1 := Nat.two_pow_pos i
      have p2 := pow_small (n := 17) (by decide) (Nat.le_of_lt hi)
      have hs := or_step a b i
      generalize hpl : 2 ^ i = pl at hs p1 p2 ⊢
      have fin : ∀ {H' : Hp}, Ex H H' → ∀ z : Nat, z = (a ||| b) % 2 ^ (i + 1) → tAsg (tOp (rI CMul fun i j => .int (i * j)) (tVar 3) (tC (.int 2))) (gName 3) { nx := fun σ H' => Ex H H' ∧ ∃ vk, σ = [some (.int (a : Nat)), some (.int (b : Nat)), some (.int ((a ||| b) % 2 ^ (i + 1) : Nat)), some (.int (2 ^ (i + 1) : Nat)), vk], rt := Q }
          [some (.int (a : Nat)), some (.int (b : Nat)), some (.int (z : Nat)), some (.int (pl : Nat)), some (.int (i : Nat))] H' := fun {H'} e z hz => by
        refine b_asg (v := .int ((pl : Int) * 2)) e (by wtm_at "k49ev") fun H5 _ e5 => ⟨e5, some (.int (i : Nat)), ?_⟩
        rw [hz, Nat.pow_succ, hpl]
        rfl
      refine c_when (b := (a / pl % 2 == 1) || (b / pl % 2 == 1)) e3 ?_ (fun ht H4 _ e4 => ?_) (fun ht H4 _ e4 => ?_)
      · rw [← dv_nat, ← dv_nat]
        wtm_at "k49et"
      · rw [Bool.or_eq_true, beq_iff_eq, beq_iff_eq] at ht
        rw [if_pos ht] at hs
        refine b_asg (v := .int (((a ||| b) % pl + pl : Nat) : Int)) e4 ?_ fun H5 _ e5 => fin e5 _ hs.symm
        rw [Int.natCast_add]
        wtm_at "k49ev"
      · have hne : ¬ (a / pl % 2 = 1 ∨ b / pl % 2 = 1) := fun q => by
          rcases q with q | q
          · rw [q] at ht
            cases ht
          · rw [q, Bool.or_eq_false_iff] at ht
            cases ht.2
        rw [if_neg hne, Nat.add_zero] at hs
        exact fin e4 _ hs.symm
    · rintro σ H3 ⟨e3, vk, rfl⟩
      exact b_ret e3 (ev_var rfl) fun H4 _ e4 => k H4 e4
theorem sv_united {H : Hp} {a b : Nat} : SpV spUnited [.int (a : Nat), .int (b : Nat)] H (.int ((a ||| b) % 2 ^ 17 : Nat)) := fun H1 e Q q E => ⟨a, b, rfl, q⟩
def spPower : Sp := fun vs H Q _ => ∃ n : Nat, vs = [.int (n : Nat)] ∧ n ≤ 1000 ∧ RetV (.int (2 ^ n : Nat)) H Q
theorem sc__law_power : FnScope ["_law_k", "_law_total", "_law_turn"] ["_law_k"] (defScope s__law_power) := ⟨rfl, rfl, rfl, by decide +kernel, rfl, by decide +kernel, by decide +kernel⟩
theorem ok__law_power (T : Tx K mg) : FnOk P w K mg base CX0 1 T.a__law_power T.d__law_power ["_law_k"] spPower := by
  refine T.p__law_power.F.ok sc__law_power (fun vs H Q E h => ?_) (fun cdv A outer s H vs Q E hr h => ?_)
  · obtain ⟨n, rfl, _⟩ := h
    rfl
  · obtain ⟨n, rfl, hn, k⟩ := h
    refine ⟨_, (pss_cons (ps_set (i := 1) sc__law_power.nd rfl (Or.inl rfl) pe_int)
  (pss_cons (ps_for PassesOwn.never rfl (pi_range1 rfl T.b_range (pa_cons (pv 0) pa_nil)) (pg_name (i := 2) sc__law_power.nd rfl (Or.inl rfl))
   (pss_one (ps_set (i := 1) sc__law_power.nd rfl (Or.inl rfl) (pe_op op_mul (pv 1) pe_int))))
  (pss_one (ps_ret (pv 1))))), ?_⟩
    refine c_asg (v := .int 1) (Ex.refl H) ev_c fun H1 _ e1 => ?_
    refine c_forR e1 (n := n) (by wtm_at "k49ea") (by omega) (fun i σ H' => Ex H H' ∧ ∃ vk, σ = [some (.int (n : Nat)), some (.int (2 ^ i : Nat)), vk])
      (fun H3 _ e3 => ⟨e3, none, rfl⟩) ?_ ?_
    · rintro i σ H3 hi ⟨e3, vk, rfl⟩
      refine b_asg (v := .int (((2 ^ i : Nat) : Int) * 2)) e3 (by wtm_at "k49ev") fun H5 _ e5 => ⟨e5, some (.int (i : Nat)), ?_⟩
      rw [Nat.pow_succ]
      rfl
    · rintro σ H3 ⟨e3, vk, rfl⟩
      exact b_ret e3 (ev_var rfl) fun H4 _ e4 => k H4 e4
theorem sv_power {H : Hp} {n : Nat} (hn : n ≤ 1000) : SpV spPower [.int (n : Nat)] H (.int (2 ^ n : Nat)) := fun H1 e Q q E => ⟨n, rfl, hn, q⟩
end
end K49
namespace K49
open PySem L2 Evl
/-! ### the evaluator -/
local macro_rules | `(tactic| wtm_at "k49sd") => `(tactic| first
  | (with_reducible assumption)
  | decide
  | omega
  | ((with_reducible refine' Lat.ml ?k0 _ _ ?k1 ?k2); (case k0 => (with_reducible assumption)); (case k1 => wtm_at "k49sd"); (case k2 => wtm_at "k49sd"))
  | ((with_reducible refine' Lat.jl ?k0 _ _ ?k1 ?k2); (case k0 => (with_reducible assumption)); (case k1 => wtm_at "k49sd"); (case k2 => wtm_at "k49sd")))
local macro_rules | `(tactic| wtm_at "k49rv") => `(tactic| first
  | (with_reducible exact rv_and)
  | (with_reducible exact rv_or)
  | ((with_reducible refine' rv_shl1 ?k1); (case k1 => wtm_at "k49sd"))
  | (with_reducible exact rv_I0)
  | ((with_reducible refine' rv_T2 ?k1 ?k2 ?k3); (case k1 => (with_reducible assumption)); (case k2 => wtm_at "k49sd"); (case k3 => wtm_at "k49sd"))
  | ((with_reducible refine' rv_T1 ?k1 ?k2); (case k1 => (with_reducible assumption)); (case k2 => wtm_at "k49sd"))
  | ((with_reducible refine' rv_L2 ?k1 ?k2 ?k3); (case k1 => (with_reducible assumption)); (case k2 => wtm_at "k49sd"); (case k3 => wtm_at "k49sd"))
  | ((with_reducible refine' rv_L1 ?k1 ?k2); (case k1 => (with_reducible assumption)); (case k2 => wtm_at "k49sd"))
  | ((with_reducible refine' rv_fT' ?k1 ?k2 ?k3); (case k1 => (with_reducible assumption)); (case k2 => wtm_at "k49sd"); (case k3 => exact rfl))
  | ((with_reducible refine' rv_fL' ?k1 ?k2 ?k3); (case k1 => (with_reducible assumption)); (case k2 => wtm_at "k49sd"); (case k3 => exact rfl))
  | ((with_reducible refine' rv_mod ?k1); (case k1 => wtm_at "k49sd"))
  | ((with_reducible refine' rv_shr ?k1); (case k1 => wtm_at "k49sd"))
  | ((with_reducible refine' rv_I (C := CMul) ?k1); (case k1 => (first | exact Or.inr ⟨by decide, by decide⟩ | exact Or.inl ⟨by decide, by decide⟩ | exact Or.inl ⟨by omega, by omega⟩ | exact Or.inr ⟨by omega, by omega⟩)))
  | ((with_reducible refine' rv_I (C := CDiv) ?k1); (case k1 => (first | exact ⟨by decide, by decide⟩ | exact ⟨by omega, by omega⟩)))
  | ((with_reducible refine' rv_I (C := CPow) ?k1); (case k1 => (first | exact ⟨by omega, by omega, by decide⟩ | exact ⟨by omega, by omega, by omega⟩)))
  | ((with_reducible refine' rv_eq ?k1); (case k1 => rfl))
  | ((with_reducible refine' rv_ne ?k1); (case k1 => rfl))
  | (with_reducible exact rv_isN) | (with_reducible exact rv_notN) | (with_reducible exact rv_isB) | (with_reducible exact rv_notB)
  | (with_reducible assumption))
local macro_rules | `(tactic| wtm_at "k49ev") => `(tactic| first
  | (with_reducible exact ev_c)
  | (exact ev_var rfl)
  | ((with_reducible refine' ev_op ?k1 ?k2 ?k3); (case k1 => wtm_at "k49ev"); (case k2 => wtm_at "k49ev"); (case k3 => wtm_at "k49rv"))
  | ((with_reducible refine' ev_un ?k1 ru_neg); (case k1 => wtm_at "k49ev"))
  | ((with_reducible refine' ev_int1 ?k1); (case k1 => wtm_at "k49ev"))
  | ((with_reducible refine' ev_abs ?k1); (case k1 => wtm_at "k49ev"))
  | ((with_reducible refine' ev_above ?k1 ?k2 ?k3 ?k4); (case k1 => wtm_at "k49ev"); (case k2 => (with_reducible assumption)); (case k3 => exact Tx.cl ‹_›); (case k4 => exact Tx.n_above ‹_›))
  | ((with_reducible refine' ev_joins ?k1 ?k2 ?k3 ?k4); (case k1 => wtm_at "k49ev"); (case k2 => (with_reducible assumption)); (case k3 => exact Tx.cl ‹_›); (case k4 => exact Tx.n_joins ‹_›))
  | ((with_reducible refine' ev_meets ?k1 ?k2 ?k3 ?k4); (case k1 => wtm_at "k49ev"); (case k2 => (with_reducible assumption)); (case k3 => exact Tx.cl ‹_›); (case k4 => exact Tx.n_meets ‹_›))
  | ((with_reducible refine' ev_lenfT ?k1 ?k2); (case k1 => wtm_at "k49ev"); (case k2 => (with_reducible assumption)))
  | ((with_reducible refine' ev_lenfL ?k1 ?k2); (case k1 => wtm_at "k49ev"); (case k2 => (with_reducible assumption)))
  | ((with_reducible refine' ev_lenT ?k1 ?k2); (case k1 => wtm_at "k49ev"); (case k2 => wtm_at "k49sq"))
  | ((with_reducible refine' ev_len ?k1 ?k2); (case k1 => wtm_at "k49ev"); (case k2 => wtm_at "k49sq"))
  | ((with_reducible refine' ev_call0 ?k1 ?k2); (case k1 => wtm_at "k49ea"); (case k2 => wtm_at "k49sp"))
  | ((with_reducible refine' ev_notV ?k1); (case k1 => wtm_at "k49ev"))
  | ((with_reducible refine' ev_andV ?k1 ?k2); (case k1 => wtm_at "k49ev"); (case k2 => (intro _; wtm_at "k49ev")))
  | ((with_reducible refine' ev_orV ?k1 ?k2); (case k1 => wtm_at "k49ev"); (case k2 => (intro _; wtm_at "k49ev"))))
local macro_rules | `(tactic| wtm_at "k49ea") => `(tactic| first
  | (with_reducible exact ea_nil)
  | ((with_reducible refine' ea_cons ?k1 ?k2); (case k1 => wtm_at "k49ev"); (case k2 => wtm_at "k49ea")))
local macro_rules | `(tactic| wtm_at "k49sq") => `(tactic| first
  | (with_reducible assumption)
  | (refine' sq_of ?k1; (case k1 => (with_reducible assumption)))
  | (refine' st_of ?k1; (case k1 => (with_reducible assumption))))
local macro_rules | `(tactic| wtm_at "k49et") => `(tactic| first
  | ((with_reducible refine' et_test ?k1); (case k1 => wtm_at "k49ev"))
  | ((with_reducible refine' et_B ?k1); (case k1 => wtm_at "k49ev"))
  | ((with_reducible refine' et_and ?k1 ?k2); (case k1 => wtm_at "k49et"); (case k2 => (intro _; wtm_at "k49et")))
  | ((with_reducible refine' et_or ?k1 ?k2); (case k1 => wtm_at "k49et"); (case k2 => (intro _; wtm_at "k49et")))
  | ((with_reducible refine' et_not ?k1); (case k1 => wtm_at "k49et")))

section
variable {P : Program} {w : World} {K : PySem.W.Frag} {mg : Str → Option Value} {base : Heap}
/-! ### the law's tables -/
structure TbD where
  aJ : Addr
  aM : Addr
  m : Nat
  J : Nat → Nat → Nat
  M : Nat → Nat → Nat
  rJ : Nat → Addr
  rM : Nat → Addr
structure TbAt (H : Hp) (d : TbD) : Prop where
  tJ : TabL H d.aJ d.m d.J d.rJ
  tM : TabL H d.aM d.m d.M d.rM
  L : Lat d.m d.J d.M
theorem TbAt.ex {H H' : Hp} {d : TbD} (h : TbAt H d) (e : Ex H H') : TbAt H' d := ⟨h.tJ.ex e, h.tM.ex e, h.L⟩
def spFails : Sp := fun vs H Q _ => ∃ (d : TbD) (x y z : Nat), vs = [.ref d.aJ, .ref d.aM, .int (x : Nat), .int (y : Nat), .int (z : Nat)] ∧ TbAt H d ∧ x < d.m ∧ y < d.m ∧ z < d.m ∧ RetV (.bl (fl d.J d.M x y z)) H Q
theorem sc__law_fails : FnScope ["_law_joins", "_law_meets", "_law_x", "_law_y", "_law_z"] ["_law_joins", "_law_meets", "_law_x", "_law_y", "_law_z"] (defScope s__law_fails) := ⟨rfl, rfl, rfl, by decide +kernel, rfl, by decide +kernel, by decide +kernel⟩
theorem ok__law_fails (T : Tx K mg) : FnOk P w K mg base CX0 1 T.a__law_fails T.d__law_fails ["_law_joins", "_law_meets", "_law_x", "_law_y", "_law_z"] spFails := by
  refine T.p__law_fails.F.ok sc__law_fails (fun vs H Q E h => ?_) (fun cdv A outer s H vs Q E hr h => ?_)
  · obtain ⟨d, x, y, z, rfl, _⟩ := h
    rfl
  · obtain ⟨d, x, y, z, rfl, hT, hx, hy, hz, k⟩ := h
    have hJ := hT.tJ
    have hM := hT.tM
    have L := hT.L
    refine ⟨_, (pss_one (ps_ret (pe_cmpR op_ne (pe_ix (gixL (K := K) rfl) (pe_ix (gixL (K := K) rfl) (pv 1) (pv 2) (fun _ _ => rfl)) (pe_ix (gixL (K := K) rfl) (pe_ix (gixL (K := K) rfl) (pv 0) (pv 3) (fun _ _ => rfl)) (pv 4) (fun _ _ => rfl)) (fun _ _ => rfl)) (pe_ix (gixL (K := K) rfl) (pe_ix (gixL (K := K) rfl) (pv 0) (pe_ix (gixL (K := K) rfl) (pe_ix (gixL (K := K) rfl) (pv 1) (pv 2) (fun _ _ => rfl)) (pv 3) (fun _ _ => rfl)) (fun _ _ => rfl)) (pe_ix (gixL (K := K) rfl) (pe_ix (gixL (K := K) rfl) (pv 1) (pv 2) (fun _ _ => rfl)) (pv 4) (fun _ _ => rfl)) (fun _ _ => rfl)) (nomark _)))), ?_⟩
    refine b_ret (v := .bl (fl d.J d.M x y z)) (Ex.refl H) ?_ fun H1 _ e1 => k H1 e1
    rw [← fl_eq]
    wtm_at "k49ev"
theorem sv_fails {H : Hp} {d : TbD} {x y z : Nat} (h : TbAt H d) (hx : x < d.m) (hy : y < d.m) (hz : z < d.m) : SpV spFails [.ref d.aJ, .ref d.aM, .int (x : Nat), .int (y : Nat), .int (z : Nat)] H (.bl (fl d.J d.M x y z)) := fun H1 e Q q E => ⟨d, x, y, z, rfl, h.ex e, hx, hy, hz, q⟩
def spLF : Sp := fun vs H Q _ => ∃ d : TbD, vs = [.ref d.aJ, .ref d.aM] ∧ TbAt H d ∧ (NoFail d.m d.J d.M → ∀ H', Ex H H' → Q .non H') ∧
  ∀ x y z, LeastFail d.m d.J d.M x y z → RetU [.int (x : Nat), .int (y : Nat), .int (z : Nat)] H Q
theorem sc__law_least_failure : FnScope ["_law_joins", "_law_meets", "_law_size", "_law_x", "_law_y", "_law_z"] ["_law_joins", "_law_meets"] (defScope s__law_least_failure) := ⟨rfl, rfl, rfl, by decide +kernel, rfl, by decide +kernel, by decide +kernel⟩
theorem ok__law_least_failure (T : Tx K mg) : FnOk P w K mg base CX0 2 T.a__law_least_failure T.d__law_least_failure ["_law_joins", "_law_meets"] spLF := by
  refine T.p__law_least_failure.F.ok sc__law_least_failure (fun vs H Q E h => ?_) (fun cdv A outer s H vs Q E hr h => ?_)
  · obtain ⟨d, rfl, _⟩ := h
    rfl
  · obtain ⟨d, rfl, hT, k1, k2⟩ := h
    have hJt := hT.tJ.top
    have L := hT.L
    have sm := L.small
    refine ⟨_, (pss_cons (ps_set (i := 2) sc__law_least_failure.nd rfl (Or.inl rfl) (pe_callB (glen (K := K) rfl) (by rfl) T.b_len (by decide +kernel) (pa_cons (pv 0) pa_nil)))
  (pss_cons (ps_for PassesOwn.never rfl (pi_range1 rfl T.b_range (pa_cons (pv 2) pa_nil)) (pg_name (i := 3) sc__law_least_failure.nd rfl (Or.inl rfl))
   (pss_one (ps_for PassesOwn.never rfl (pi_range1 rfl T.b_range (pa_cons (pv 2) pa_nil)) (pg_name (i := 4) sc__law_least_failure.nd rfl (Or.inl rfl))
   (pss_one (ps_for PassesOwn.never rfl (pi_range1 rfl T.b_range (pa_cons (pv 2) pa_nil)) (pg_name (i := 5) sc__law_least_failure.nd rfl (Or.inl rfl))
   (pss_one (ps_if (pt_val (pe_call (ok__law_fails T) (hr.mono (by decide)) rfl T.p__law_fails.g T.p__law_fails.k T.p__law_fails.b .nil pass0 (pa_cons (pv 0) (pa_cons (pv 1) (pa_cons (pv 3) (pa_cons (pv 4) (pa_cons (pv 5) pa_nil))))))) (pss_one (ps_ret (pe_tup (pa_cons (pv 3) (pa_cons (pv 4) (pa_cons (pv 5) pa_nil)))))) pss_nil)))))))
  (pss_one (ps_ret pe_non)))), ?_⟩
    refine c_asg (v := .int (d.m : Nat)) (Ex.refl H) (by wtm_at "k49ev") fun H1 _ e1 => ?_
    refine c_forR e1 (n := d.m) (by wtm_at "k49ea") (by omega) (fun i σ H' => Ex H H' ∧ (∃ vx vy vz, σ = [some (.ref d.aJ), some (.ref d.aM), some (.int (d.m : Nat)), vx, vy, vz]) ∧ ∀ a b c, a < i → b < d.m → c < d.m → fl d.J d.M a b c = false)
      (fun H2 _ e2 => ⟨e2, ⟨_, _, _, rfl⟩, fun a b c ha => absurd ha (Nat.not_lt_zero _)⟩) ?_ ?_
    · rintro x σ H2 hx ⟨e2, ⟨vx, vy, vz, rfl⟩, f1⟩
      refine b_forR e2 (n := d.m) (by wtm_at "k49ea") (by omega) (fun i σ H' => Ex H H' ∧ (∃ vy vz, σ = [some (.ref d.aJ), some (.ref d.aM), some (.int (d.m : Nat)), some (.int (x : Nat)), vy, vz]) ∧ ∀ b c, b < i → c < d.m → fl d.J d.M x b c = false)
        (fun H3 _ e3 => ⟨e3, ⟨_, _, rfl⟩, fun b c hb => absurd hb (Nat.not_lt_zero _)⟩) ?_ ?_
      · rintro y σ H3 hy ⟨e3, ⟨vy, vz, rfl⟩, f2⟩
        refine b_forR e3 (n := d.m) (by wtm_at "k49ea") (by omega) (fun i σ H' => Ex H H' ∧ (∃ vz, σ = [some (.ref d.aJ), some (.ref d.aM), some (.int (d.m : Nat)), some (.int (x : Nat)), some (.int (y : Nat)), vz]) ∧ ∀ c, c < i → fl d.J d.M x y c = false)
          (fun H4 _ e4 => ⟨e4, ⟨_, rfl⟩, fun c hc => absurd hc (Nat.not_lt_zero _)⟩) ?_ ?_
        · rintro z σ H4 hz ⟨e4, ⟨vz, rfl⟩, f3⟩
          refine b_if (b := fl d.J d.M x y z) e4 (et_B (ev_call0 (by wtm_at "k49ea") (sv_fails hT hx hy hz))) (fun hf H5 _ e5 => ?_) (fun hf H5 _ e5 => ?_)
          · refine b_retU (xs := [.int (x : Nat), .int (y : Nat), .int (z : Nat)]) e5 (eu_tup (by wtm_at "k49ea") (by show 3 ≤ 100000; decide)) fun p H6 hp _ e6 h6 => k2 x y z ⟨hx, hy, hz, hf, f1, f2, f3⟩ p H6 (fresh_back e5 hp) e6 h6
          · refine ⟨e5, ⟨_, rfl⟩, fun c hc => ?_⟩
            rcases Nat.lt_succ_iff_lt_or_eq.mp hc with h | h
            · exact f3 c h
            · rw [h]; exact hf
        · rintro σ H4 ⟨e4, ⟨vz, rfl⟩, f3⟩
          refine ⟨e4, ⟨_, _, rfl⟩, fun b c hb hc => ?_⟩
          rcases Nat.lt_succ_iff_lt_or_eq.mp hb with h | h
          · exact f2 b c h hc
          · rw [h]; exact f3 c hc
      · rintro σ H3 ⟨e3, ⟨vy, vz, rfl⟩, f2⟩
        refine ⟨e3, ⟨_, _, _, rfl⟩, fun a b c ha hb hc => ?_⟩
        rcases Nat.lt_succ_iff_lt_or_eq.mp ha with h | h
        · exact f1 a b c h hb hc
        · rw [h]; exact f2 b c hb hc
    · rintro σ H2 ⟨e2, ⟨vx, vy, vz, rfl⟩, f1⟩
      exact b_ret e2 ev_c fun H3 _ e3 => k1 (fun x y z hx hy hz => f1 x y z hx hy hz) H3 e3
/-! ### _law_below, _law_irreducibles -/
def belV (m : Nat) (M : Nat → Nat → Nat) (x : Nat) : List V := given m (fun y => lt M y x) fun y => .int (y : Nat)
theorem lt_dec {M : Nat → Nat → Nat} {x y : Nat} : ((!decide (V.int (y : Int) = V.int (x : Int))) && decide (V.int ((M y x : Nat) : Int) = V.int (y : Int))) = lt M y x := by
  rw [dec_nat, dec_nat]
  rfl
def spBelow : Sp := fun vs H Q _ => ∃ (d : TbD) (x : Nat), vs = [.ref d.aM, .int (x : Nat)] ∧ TbAt H d ∧ x < d.m ∧ RetL (belV d.m d.M x) H Q
theorem sc__law_below : FnScope ["_law_meets", "_law_x", "_law_y"] ["_law_meets", "_law_x"] (defScope s__law_below) := ⟨rfl, rfl, rfl, by decide +kernel, rfl, by decide +kernel, by decide +kernel⟩
theorem ok__law_below (T : Tx K mg) : FnOk P w K mg base CX0 1 T.a__law_below T.d__law_below ["_law_meets", "_law_x"] spBelow := by
  refine T.p__law_below.F.ok sc__law_below (fun vs H Q E h => ?_) (fun cdv A outer s H vs Q E hr h => ?_)
  · obtain ⟨d, x, rfl, _⟩ := h
    rfl
  · obtain ⟨d, x, rfl, hT, hx, k⟩ := h
    have hMt := hT.tM.top
    have sm := hT.L.small
    refine ⟨_, (pss_one (ps_ret (pe_lc (own := [("_law_y", 2)]) (g := (gName 2)) (by rfl) sc__law_below.nd (pi_range1 rfl T.b_range (pa_cons (pe_callB (glen (K := K) rfl) (by rfl) T.b_len (by decide +kernel) (pa_cons (pv 0) pa_nil)) pa_nil)) (blkOk_by (by kernel_rfl)) (fun _ _ _ _ _ => (pg_name (i := 2) sc__law_below.nd rfl (Or.inl rfl))) (fun _ _ _ _ _ => (pts_one (PW.pt (pw_and (pt_cmpR op_ne (pv 2) (pv 1) (nomark _)) (pw_and1 (pt_cmpR op_eq (pe_ix (gixL (K := K) rfl) (pe_ix (gixL (K := K) rfl) (pv 0) (pv 2) (fun _ _ => rfl)) (pv 1) (fun _ _ => rfl)) (pv 2) (nomark _))))))) (fun _ _ _ _ _ => (pv 2))))), ?_⟩
    refine b_retL (Ex.refl H) (el_lcR (n := d.m) (fun y => lt d.M y x) (fun y => .int (y : Nat)) (by wtm_at "k49ea") (by omega) (fun x => rfl) (fun y H1 e hy => ?_) fun y H1 e hy _ => ev_var rfl) fun p H1 hp _ e1 h1 => k p H1 hp e1 h1
    have hM := hT.tM.ex e
    rw [← lt_dec]
    wtm_at "k49et"
theorem sl_below {H : Hp} {d : TbD} {x : Nat} (h : TbAt H d) (hx : x < d.m) : SpL spBelow [.ref d.aM, .int (x : Nat)] H (belV d.m d.M x) := fun H1 e Q q E => ⟨d, x, rfl, h.ex e, hx, q⟩
/-- the members of below in a list -/
def bel (m : Nat) (M : Nat → Nat → Nat) (x : Nat) : List Nat := (List.range m).filter fun y => lt M y x
theorem belV_eq {m : Nat} {M : Nat → Nat → Nat} {x : Nat} : belV m M x = (bel m M x).map fun y => .int (y : Nat) := rfl
theorem map_get {l : List Nat} {i : Nat} {v : V} (h : (l.map fun y => V.int (y : Nat))[i]? = some v) : i < l.length ∧ v = .int (l.getD i 0 : Nat) := by
  have hi : i < l.length := by
    have := (List.getElem?_eq_some_iff.mp h).1
    rwa [List.length_map] at this
  rw [List.getElem?_map, List.getElem?_eq_getElem hi] at h
  refine ⟨hi, ?_⟩
  rw [List.getD_eq_getElem?_getD, List.getElem?_eq_getElem hi]
  exact (Option.some.inj h).symm
theorem given_map {l : List Nat} {g : Nat → Bool} : given l.length (fun i => g (l.getD i 0)) (fun i => V.int (l.getD i 0 : Nat)) = (l.filter g).map fun y => .int (y : Nat) := by
  unfold given
  conv => rhs; rw [as_range l 0]
  rw [List.filter_map, List.map_map]
  rfl
theorem bel_lt {m : Nat} {M : Nat → Nat → Nat} {x i : Nat} (h : i < (bel m M x).length) : (bel m M x).getD i 0 < m := by
  rw [List.getD_eq_getElem?_getD, List.getElem?_eq_getElem h]
  exact List.mem_range.mp (List.mem_filter.mp (List.getElem_mem h)).1
theorem bel_len {m : Nat} {M : Nat → Nat → Nat} {x : Nat} : (bel m M x).length ≤ m := by
  have := List.length_filter_le (fun y => lt M y x) (List.range m)
  rwa [List.length_range] at this
/-- the greatest of what is below x: what x covers -/
theorem upper_eq {m : Nat} {M : Nat → Nat → Nat} {x : Nat} : ((bel m M x).filter fun y => ((bel m M x).filter fun z => lt M y z).length == 0) = (List.range m).filter fun w => covB m M w x := by
  unfold bel
  rw [List.filter_filter]
  apply List.filter_congr
  intro y hy
  unfold covB
  rw [Bool.and_comm]
  congr 1
  rw [List.filter_filter]
  apply Bool.eq_iff_iff.mpr
  rw [beq_iff_eq, List.length_eq_zero_iff, List.filter_eq_nil_iff, List.all_eq_true]
  constructor
  · intro h z hz
    have := h z hz
    rw [Bool.not_eq_true'] 
    cases h1 : (lt M y z && lt M z x) with
    | false => rfl
    | true => exact absurd h1 this
  · intro h z hz q
    have := h z hz
    rw [q] at this
    cases this
def spIrrL : Sp := fun vs H Q _ => ∃ d : TbD, vs = [.ref d.aM] ∧ TbAt H d ∧ RetL (irrV d.m d.M) H Q
theorem irrV_pre {m : Nat} {M : Nat → Nat → Nat} {i : Nat} : given (i + 1) (fun x => ((List.range m).filter fun w => covB m M w x).length == 1) (fun x => V.int (x : Nat)) =
    if (((List.range m).filter fun w => covB m M w i).length == 1) = true then given i (fun x => ((List.range m).filter fun w => covB m M w x).length == 1) (fun x => V.int (x : Nat)) ++ [.int (i : Nat)] else given i (fun x => ((List.range m).filter fun w => covB m M w x).length == 1) (fun x => V.int (x : Nat)) := by
  by_cases h : (((List.range m).filter fun w => covB m M w i).length == 1) = true
  · rw [if_pos h]
    exact given_yes (f := fun x => ((List.range m).filter fun w => covB m M w x).length == 1) h
  · rw [if_neg h]
    exact given_no (f := fun x => ((List.range m).filter fun w => covB m M w x).length == 1) (by simpa using h)
theorem sc__law_irreducibles : FnScope ["_law_meets", "_law_found", "_law_x", "_law_below_here", "_law_upper", "_law_y", "_law_z"] ["_law_meets"] (defScope s__law_irreducibles) := ⟨rfl, rfl, rfl, by decide +kernel, rfl, by decide +kernel, by decide +kernel⟩
theorem ok__law_irreducibles (T : Tx K mg) : FnOk P w K mg base CX0 2 T.a__law_irreducibles T.d__law_irreducibles ["_law_meets"] spIrrL := by
  refine T.p__law_irreducibles.F.ok sc__law_irreducibles (fun vs H Q E h => ?_) (fun cdv A outer s H vs Q E hr h => ?_)
  · obtain ⟨d, rfl, _⟩ := h
    rfl
  · obtain ⟨d, rfl, hT, k⟩ := h
    have hMt := hT.tM.top
    have sm := hT.L.small
    refine ⟨_, (pss_cons (ps_set (i := 1) sc__law_irreducibles.nd rfl (Or.inl rfl) (pe_lst pa_nil))
  (pss_cons (ps_for PassesOwn.never rfl (pi_range1 rfl T.b_range (pa_cons (pe_callB (glen (K := K) rfl) (by rfl) T.b_len (by decide +kernel) (pa_cons (pv 0) pa_nil)) pa_nil)) (pg_name (i := 2) sc__law_irreducibles.nd rfl (Or.inl rfl))
   (pss_cons (ps_set (i := 3) sc__law_irreducibles.nd rfl (Or.inr rfl) (pe_call (ok__law_below T) (hr.mono (by decide)) rfl T.p__law_below.g T.p__law_below.k T.p__law_below.b .nil pass0 (pa_cons (pv 0) (pa_cons (pv 2) pa_nil))))
  (pss_cons (ps_setLc (i := 4) (own := [("_law_y", 5)]) (g := (gName 5)) (by rfl) sc__law_irreducibles.nd rfl rfl (sw_true rfl rfl rfl (by kernel_rfl)) (gpiL (K := K) rfl (pv 3)) (blkOk_by (by kernel_rfl)) (fun _ _ _ _ _ => (pg_name (i := 5) sc__law_irreducibles.nd rfl (Or.inr rfl))) (fun _ _ _ _ _ => (pts_one (pt_cmpR op_eq (pe_callB (glen (K := K) rfl) (by rfl) T.b_len (by decide +kernel) (pa_cons (pe_lc (own := [("_law_z", 6)]) (g := (gName 6)) (by rfl) sc__law_irreducibles.nd (gpiL (K := K) rfl (pv 3)) (blkOk_by (by kernel_rfl)) (fun _ _ _ _ _ => (pg_name (i := 6) sc__law_irreducibles.nd rfl (Or.inl rfl))) (fun _ _ _ _ _ => (pts_one (PW.pt (pw_and (pt_cmpR op_ne (pv 6) (pv 5) (nomark _)) (pw_and1 (pt_cmpR op_eq (pe_ix (gixL (K := K) rfl) (pe_ix (gixL (K := K) rfl) (pv 0) (pv 5) (fun _ _ => rfl)) (pv 6) (fun _ _ => rfl)) (pv 5) (nomark _))))))) (fun _ _ _ _ _ => (pv 6))) pa_nil)) pe_int (nomark _)))) (fun _ _ _ _ _ => (pv 5)))
  (pss_one (ps_if (pt_cmpR op_eq (pe_callB (glen (K := K) rfl) (by rfl) T.b_len (by decide +kernel) (pa_cons (pv 4) pa_nil)) pe_int (nomark _)) (pss_one (ps_expr (gbm (K := K) rfl PySem.F.plainAttrs_list PySem.F.slot_list_append PySem.F.type_list_append mt_append (pv 1) (pa_cons (pv 2) pa_nil)))) pss_nil)))))
  (pss_one (ps_ret (pv 1))))), ?_⟩
    refine c_asgL (xs := []) (Ex.refl H) (el_lst ea_nil (Nat.zero_le _)) fun l H1 hl _ e1 h1 => ?_
    refine c_forR e1 (n := d.m) (by wtm_at "k49ea") (by omega) (fun i σ H' => Ex H H' ∧ (∃ vx vb vu vy vz, σ = [some (.ref d.aM), some (.ref l), vx, vb, vu, vy, vz]) ∧ H' l = some (.lst (given i (fun x => ((List.range d.m).filter fun w => covB d.m d.M w x).length == 1) fun x => .int (x : Nat))))
      (fun H2 e12 e2 => ⟨e2, ⟨_, _, _, _, _, rfl⟩, e12 _ _ h1⟩) ?_ ?_
    · rintro x σ H2 hx ⟨e2, ⟨vx, vb, vu, vy, vz, rfl⟩, h2⟩
      refine c_asgL (H0 := H) (xs := belV d.m d.M x) e2 (el_call0 (by wtm_at "k49ea") (sl_below hT hx)) fun b H3 hb e23 e3 h3 => ?_
      have hT3 := hT.ex e3
      have hlen : (belV d.m d.M x).length = (bel d.m d.M x).length := by rw [belV_eq, List.length_map]
      have bl := bel_len (m := d.m) (M := d.M) (x := x)
      -- upper
      refine c_asgL (H0 := H3) (xs := ((List.range d.m).filter fun w => covB d.m d.M w x).map fun y => .int (y : Nat)) (Ex.refl H3) ?_ fun c H4 hc e34 _ h4 => ?_
      · rw [← upper_eq, ← given_map, ← hlen]
        refine el_lcL (xs := belV d.m d.M x) (fun i => (((bel d.m d.M x).filter fun z => lt d.M ((bel d.m d.M x).getD i 0) z).length == 0)) (fun i => .int ((bel d.m d.M x).getD i 0 : Nat)) (ev_var rfl) (sq_of h3) (by rw [hlen]; omega) (fun x => rfl) ?_ ?_
        · intro i v H5 e5 hv
          obtain ⟨hi, rfl⟩ := map_get (l := bel d.m d.M x) hv
          have hy := bel_lt hi
          generalize (bel d.m d.M x).getD i 0 = y at hy ⊢
          have hT5 := hT3.ex e5
          have e0 := dec_nat (a := ((bel d.m d.M x).filter fun z => lt d.M y z).length) (b := 0)
          rw [← e0]
          have el : ((bel d.m d.M x).filter fun z => lt d.M y z).length = (given (belV d.m d.M x).length (fun i => lt d.M y ((bel d.m d.M x).getD i 0)) (fun i => V.int ((bel d.m d.M x).getD i 0 : Nat))).length := by
            rw [hlen, given_map (l := bel d.m d.M x) (g := fun z => lt d.M y z), List.length_map]
          rw [el]
          refine et_test (ev_op (ev_lenN (el_lcL (xs := belV d.m d.M x) (fun i => lt d.M y ((bel d.m d.M x).getD i 0)) (fun i => V.int ((bel d.m d.M x).getD i 0 : Nat)) (ev_var rfl) (sq_of (e5 _ _ h3)) (by rw [hlen]; omega) (fun x => rfl) ?_ ?_)) ev_c (rv_eq rfl))
          · intro j u H6 e6 hu
            obtain ⟨hj, rfl⟩ := map_get (l := bel d.m d.M x) hu
            have hz := bel_lt hj
            generalize (bel d.m d.M x).getD j 0 = z at hz ⊢
            have hM := (hT5.ex e6).tM
            have ez : ((!decide (V.int (z : Int) = V.int (y : Int))) && decide (V.int ((d.M y z : Nat) : Int) = V.int (y : Int))) = lt d.M y z := by
              rw [dec_nat, dec_nat]
              unfold lt
              rw [bne, Bool.beq_comm]
            rw [← ez]
            wtm_at "k49et"
          · intro j u H6 e6 hu _
            obtain ⟨hj, rfl⟩ := map_get (l := bel d.m d.M x) hu
            exact ev_var rfl
        · intro i v H5 e5 hv _
          obtain ⟨hi, rfl⟩ := map_get (l := bel d.m d.M x) hv
          exact ev_var rfl
      have e1' := dec_nat (a := ((List.range d.m).filter fun w => covB d.m d.M w x).length) (b := 1)
      have h4l := (e23.trans e34) _ _ h2
      refine b_when (H0 := H4) (b := ((List.range d.m).filter fun w => covB d.m d.M w x).length == 1) (Ex.refl H4) ?_ (fun ht H5 e45 _ => ?_) (fun ht H5 e45 _ => ?_)
      · rw [← e1']
        have q := ev_len (K := K) (σ := [some (.ref d.aM), some (.ref l), some (.int (x : Nat)), some (.ref b), some (.ref c), vy, vz]) (H := H4) (ta := tVar 4) (ev_var rfl) (sq_of h4)
        rw [List.length_map] at q
        exact et_test (ev_op q ev_c (rv_eq rfl))
      · refine b_app (H0 := H5) (v := .int (x : Nat)) (Ex.refl H5) (e45 _ _ h4l) (ev_var rfl) (ev_var rfl) (by have := given_len x (fun x => ((List.range d.m).filter fun w => covB d.m d.M w x).length == 1) (fun x => V.int (x : Nat)); omega) fun H6 e56 _ => ?_
        refine ⟨Ex.mut (e2.trans (e23.trans (e34.trans (e45.trans e56)))) hl, ⟨_, _, _, _, _, rfl⟩, ?_⟩
        rw [upd_same, irrV_pre, if_pos ht]
      · refine ⟨e2.trans (e23.trans (e34.trans e45)), ⟨_, _, _, _, _, rfl⟩, ?_⟩
        rw [irrV_pre, if_neg (by rw [ht]; decide)]
        exact e45 _ _ h4l
    · rintro σ H2 ⟨e2, ⟨vx, vb, vu, vy, vz, rfl⟩, h2⟩
      exact b_ret (H0 := H2) (Ex.refl H2) (ev_var rfl) fun H3 e23 _ => k l H3 hl (e2.trans e23) (e23 _ _ h2)
theorem sl_irr {H : Hp} {d : TbD} (h : TbAt H d) : SpL spIrrL [.ref d.aM] H (irrV d.m d.M) := fun H1 e Q q E => ⟨d, rfl, h.ex e, q⟩
end
end K49
namespace K49
open PySem L2 Evl
/-! ### the evaluator -/
local macro_rules | `(tactic| wtm_at "k49sd") => `(tactic| first
  | (with_reducible assumption)
  | decide
  | omega
  | ((with_reducible refine' Lat.ml ?k0 _ _ ?k1 ?k2); (case k0 => (with_reducible assumption)); (case k1 => wtm_at "k49sd"); (case k2 => wtm_at "k49sd"))
  | ((with_reducible refine' Lat.jl ?k0 _ _ ?k1 ?k2); (case k0 => (with_reducible assumption)); (case k1 => wtm_at "k49sd"); (case k2 => wtm_at "k49sd")))
local macro_rules | `(tactic| wtm_at "k49rv") => `(tactic| first
  | (with_reducible exact rv_and)
  | (with_reducible exact rv_or)
  | ((with_reducible refine' rv_shl1 ?k1); (case k1 => wtm_at "k49sd"))
  | (with_reducible exact rv_I0)
  | ((with_reducible refine' rv_T2 ?k1 ?k2 ?k3); (case k1 => (with_reducible assumption)); (case k2 => wtm_at "k49sd"); (case k3 => wtm_at "k49sd"))
  | ((with_reducible refine' rv_T1 ?k1 ?k2); (case k1 => (with_reducible assumption)); (case k2 => wtm_at "k49sd"))
  | ((with_reducible refine' rv_L2 ?k1 ?k2 ?k3); (case k1 => (with_reducible assumption)); (case k2 => wtm_at "k49sd"); (case k3 => wtm_at "k49sd"))
  | ((with_reducible refine' rv_L1 ?k1 ?k2); (case k1 => (with_reducible assumption)); (case k2 => wtm_at "k49sd"))
  | ((with_reducible refine' rv_fT' ?k1 ?k2 ?k3); (case k1 => (with_reducible assumption)); (case k2 => wtm_at "k49sd"); (case k3 => exact rfl))
  | ((with_reducible refine' rv_fL' ?k1 ?k2 ?k3); (case k1 => (with_reducible assumption)); (case k2 => wtm_at "k49sd"); (case k3 => exact rfl))
  | ((with_reducible refine' rv_mod ?k1); (case k1 => wtm_at "k49sd"))
  | ((with_reducible refine' rv_shr ?k1); (case k1 => wtm_at "k49sd"))
  | ((with_reducible refine' rv_I (C := CMul) ?k1); (case k1 => (first | exact Or.inr ⟨by decide, by decide⟩ | exact Or.inl ⟨by decide, by decide⟩ | exact Or.inl ⟨by omega, by omega⟩ | exact Or.inr ⟨by omega, by omega⟩)))
  | ((with_reducible refine' rv_I (C := CDiv) ?k1); (case k1 => (first | exact ⟨by decide, by decide⟩ | exact ⟨by omega, by omega⟩)))
  | ((with_reducible refine' rv_I (C := CPow) ?k1); (case k1 => (first | exact ⟨by omega, by omega, by decide⟩ | exact ⟨by omega, by omega, by omega⟩)))
  | ((with_reducible refine' rv_eq ?k1); (case k1 => rfl))
  | ((with_reducible refine' rv_ne ?k1); (case k1 => rfl))
  | (with_reducible exact rv_isN) | (with_reducible exact rv_notN) | (with_reducible exact rv_isB) | (with_reducible exact rv_notB)
  | (with_reducible assumption))
local macro_rules | `(tactic| wtm_at "k49ev") => `(tactic| first
  | (with_reducible exact ev_c)
  | (exact ev_var rfl)
  | ((with_reducible refine' ev_op ?k1 ?k2 ?k3); (case k1 => wtm_at "k49ev"); (case k2 => wtm_at "k49ev"); (case k3 => wtm_at "k49rv"))
  | ((with_reducible refine' ev_un ?k1 ru_neg); (case k1 => wtm_at "k49ev"))
  | ((with_reducible refine' ev_int1 ?k1); (case k1 => wtm_at "k49ev"))
  | ((with_reducible refine' ev_abs ?k1); (case k1 => wtm_at "k49ev"))
  | ((with_reducible refine' ev_above ?k1 ?k2 ?k3 ?k4); (case k1 => wtm_at "k49ev"); (case k2 => (with_reducible assumption)); (case k3 => exact Tx.cl ‹_›); (case k4 => exact Tx.n_above ‹_›))
  | ((with_reducible refine' ev_joins ?k1 ?k2 ?k3 ?k4); (case k1 => wtm_at "k49ev"); (case k2 => (with_reducible assumption)); (case k3 => exact Tx.cl ‹_›); (case k4 => exact Tx.n_joins ‹_›))
  | ((with_reducible refine' ev_meets ?k1 ?k2 ?k3 ?k4); (case k1 => wtm_at "k49ev"); (case k2 => (with_reducible assumption)); (case k3 => exact Tx.cl ‹_›); (case k4 => exact Tx.n_meets ‹_›))
  | ((with_reducible refine' ev_lenfT ?k1 ?k2); (case k1 => wtm_at "k49ev"); (case k2 => (with_reducible assumption)))
  | ((with_reducible refine' ev_lenfL ?k1 ?k2); (case k1 => wtm_at "k49ev"); (case k2 => (with_reducible assumption)))
  | ((with_reducible refine' ev_lenT ?k1 ?k2); (case k1 => wtm_at "k49ev"); (case k2 => wtm_at "k49sq"))
  | ((with_reducible refine' ev_len ?k1 ?k2); (case k1 => wtm_at "k49ev"); (case k2 => wtm_at "k49sq"))
  | ((with_reducible refine' ev_call0 ?k1 ?k2); (case k1 => wtm_at "k49ea"); (case k2 => wtm_at "k49sp"))
  | ((with_reducible refine' ev_notV ?k1); (case k1 => wtm_at "k49ev"))
  | ((with_reducible refine' ev_andV ?k1 ?k2); (case k1 => wtm_at "k49ev"); (case k2 => (intro _; wtm_at "k49ev")))
  | ((with_reducible refine' ev_orV ?k1 ?k2); (case k1 => wtm_at "k49ev"); (case k2 => (intro _; wtm_at "k49ev"))))
local macro_rules | `(tactic| wtm_at "k49ea") => `(tactic| first
  | (with_reducible exact ea_nil)
  | ((with_reducible refine' ea_cons ?k1 ?k2); (case k1 => wtm_at "k49ev"); (case k2 => wtm_at "k49ea")))
local macro_rules | `(tactic| wtm_at "k49sq") => `(tactic| first
  | (with_reducible assumption)
  | (refine' sq_of ?k1; (case k1 => (with_reducible assumption)))
  | (refine' st_of ?k1; (case k1 => (with_reducible assumption))))
local macro_rules | `(tactic| wtm_at "k49et") => `(tactic| first
  | ((with_reducible refine' et_test ?k1); (case k1 => wtm_at "k49ev"))
  | ((with_reducible refine' et_B ?k1); (case k1 => wtm_at "k49ev"))
  | ((with_reducible refine' et_and ?k1 ?k2); (case k1 => wtm_at "k49et"); (case k2 => (intro _; wtm_at "k49et")))
  | ((with_reducible refine' et_or ?k1 ?k2); (case k1 => wtm_at "k49et"); (case k2 => (intro _; wtm_at "k49et")))
  | ((with_reducible refine' et_not ?k1); (case k1 => wtm_at "k49et")))

section
variable {P : Program} {w : World} {K : PySem.W.Frag} {mg : Str → Option Value} {base : Heap}
/-! ### sums of powers -/
theorem ev_sum {H : Hp} {σ : L2.St} {ta : TE} {n : Nat} {f : Nat → Bool} (h : EvL ta σ H (given n f fun k => .int (2 ^ k : Nat))) : Ev (tCB (rSum K) (tCons ta tNil)) σ H (.int (msk f n : Nat)) := fun H1 e Q q =>
  h H1 e _ fun p H2 hp e2 h2 => ⟨p, ((List.range n).filter f).map (fun k => ((2 ^ k : Nat) : Int)), rfl, by
    have : given n f (fun k => V.int (2 ^ k : Nat)) = (((List.range n).filter f).map (fun k => ((2 ^ k : Nat) : Int))).map V.int := by
      unfold given
      rw [List.map_map]
      rfl
    rw [← this]
    exact sq_of h2, by
    rw [sum_filter]
    exact q H2 e2⟩
/-! ### _law_due_paper -/
def spDue : Sp := fun vs H Q _ => ∃ d : TbD, vs = [.ref d.aJ, .ref d.aM] ∧ TbAt H d ∧
  (NoFail d.m d.J d.M → ∀ p q H', H p = none → Ex H H' → H' p = some (.tup [.str "lower", .int ((irr d.m d.M).length : Nat), .ref q]) → H' q = some (.tup (imgV d.m d.M)) → Q (.ref p) H') ∧
  ∀ x y z, LeastFail d.m d.J d.M x y z → ∀ p q H', H p = none → Ex H H' → H' p = some (.tup [.str "failure", .ref q]) → H' q = some (.tup [.int (x : Nat), .int (y : Nat), .int (z : Nat)]) → Q (.ref p) H'
theorem sc__law_due_paper : FnScope ["_law_joins", "_law_meets", "_law_failure", "_law_points", "_law_images", "_law_x", "_law_k"] ["_law_joins", "_law_meets"] (defScope s__law_due_paper) := ⟨rfl, rfl, rfl, by decide +kernel, rfl, by decide +kernel, by decide +kernel⟩
theorem ok__law_due_paper (T : Tx K mg) : FnOk P w K mg base CX0 3 T.a__law_due_paper T.d__law_due_paper ["_law_joins", "_law_meets"] spDue := by
  refine T.p__law_due_paper.F.ok sc__law_due_paper (fun vs H Q E h => ?_) (fun cdv A outer s H vs Q E hr h => ?_)
  · obtain ⟨d, rfl, _⟩ := h
    rfl
  · obtain ⟨d, rfl, hT, k1, k2⟩ := h
    have sm := hT.L.small
    have few := hT.L.few
    refine ⟨_, (pss_cons (ps_set (i := 2) sc__law_due_paper.nd rfl (Or.inl rfl) (pe_call (ok__law_least_failure T) (hr.mono (by decide)) rfl T.p__law_least_failure.g T.p__law_least_failure.k T.p__law_least_failure.b .nil pass0 (pa_cons (pv 0) (pa_cons (pv 1) pa_nil))))
  (pss_cons (ps_if (pt_cmpR op_notN1 (pv 2) pe_non (nomark _)) (pss_one (ps_ret (pe_tup (pa_cons pe_str (pa_cons (pv 2) pa_nil))))) pss_nil)
  (pss_cons (ps_set (i := 3) sc__law_due_paper.nd rfl (Or.inr rfl) (pe_call (ok__law_irreducibles T) (hr.mono (by decide)) rfl T.p__law_irreducibles.g T.p__law_irreducibles.k T.p__law_irreducibles.b .nil pass0 (pa_cons (pv 1) pa_nil)))
  (pss_cons (ps_set (i := 4) sc__law_due_paper.nd rfl (Or.inl rfl) (pe_lst pa_nil))
  (pss_cons (ps_for PassesOwn.never rfl (pi_range1 rfl T.b_range (pa_cons (pe_callB (glen (K := K) rfl) (by rfl) T.b_len (by decide +kernel) (pa_cons (pv 1) pa_nil)) pa_nil)) (pg_name (i := 5) sc__law_due_paper.nd rfl (Or.inr rfl))
   (pss_one (ps_expr (gbm (K := K) rfl PySem.F.plainAttrs_list PySem.F.slot_list_append PySem.F.type_list_append mt_append (pv 4) (pa_cons (pe_callB (gsum (K := K) rfl rfl) (by rfl) T.b_sum (by decide +kernel) (pa_cons (pe_lc (own := [("_law_k", 6)]) (g := (gName 6)) (by rfl) sc__law_due_paper.nd (pi_range1 rfl T.b_range (pa_cons (pe_callB (glen (K := K) rfl) (by rfl) T.b_len (by decide +kernel) (pa_cons (pv 3) pa_nil)) pa_nil)) (blkOk_by (by kernel_rfl)) (fun _ _ _ _ _ => (pg_name (i := 6) sc__law_due_paper.nd rfl (Or.inl rfl))) (fun _ _ _ _ _ => (pts_one (pt_cmpR op_eq (pe_ix (gixL (K := K) rfl) (pe_ix (gixL (K := K) rfl) (pv 1) (pe_ix (gixL (K := K) rfl) (pv 3) (pv 6) (fun _ _ => rfl)) (fun _ _ => rfl)) (pv 5) (fun _ _ => rfl)) (pe_ix (gixL (K := K) rfl) (pv 3) (pv 6) (fun _ _ => rfl)) (nomark _)))) (fun _ _ _ _ _ => (pe_call (ok__law_power T) (hr.mono (by decide)) rfl T.p__law_power.g T.p__law_power.k T.p__law_power.b .nil pass0 (pa_cons (pv 6) pa_nil)))) pa_nil)) pa_nil)))))
  (pss_one (ps_ret (pe_tup (pa_cons pe_str (pa_cons (pe_callB (glen (K := K) rfl) (by rfl) T.b_len (by decide +kernel) (pa_cons (pv 3) pa_nil)) (pa_cons (pe_callTy (gtuple (K := K) rfl) (by rfl) T.b_tuple (by decide +kernel) (pa_cons (pv 4) pa_nil)) pa_nil))))))))))), ?_⟩
    refine ⟨_, rfl, _, rfl, d, rfl, hT, fun nf H1 e1 => ?_, fun x y z lf q H1 hq e1 h1 => ?_⟩
    · refine c_not (H := H1) (H0 := H) e1 (et_is (et_test (ev_op (ev_var rfl) ev_c rv_notN)) (by rfl)) fun H2 _ e2 => ?_
      refine c_asgL (xs := irrV d.m d.M) e2 (el_call0 (by wtm_at "k49ea") (sl_irr hT)) fun lp H3 hlp _ e3 h3 => ?_
      refine c_asgL (H0 := H3) (xs := []) (Ex.refl H3) (el_lst ea_nil (Nat.zero_le _)) fun l H4 hl e34 _ h4 => ?_
      have hT4 := hT.ex (e3.trans e34)
      have hMt := hT4.tM.top
      refine c_forR (H0 := H4) (Ex.refl H4) (n := d.m) (by wtm_at "k49ea") (by omega) (fun i σ H' => Ex H3 H' ∧ (∃ vx vk, σ = [some (.ref d.aJ), some (.ref d.aM), some .non, some (.ref lp), some (.ref l), vx, vk]) ∧ H' l = some (.lst (fnl i fun x => .int (img d.m d.M x : Nat))))
        (fun H5 e45 _ => ⟨e34.trans e45, ⟨_, _, rfl⟩, e45 _ _ h4⟩) ?_ ?_
      · rintro x σ H5 hx ⟨e5, ⟨vx, vk, rfl⟩, h5⟩
        have h5p := e5 _ _ h3
        have hT5 := hT.ex (e3.trans e5)
        refine b_app (H0 := H5) (v := .int (img d.m d.M x : Nat)) (Ex.refl H5) h5 (ev_var rfl) (ev_sum (n := (irr d.m d.M).length) (f := fun k => d.M ((irr d.m d.M).getD k 0) x == (irr d.m d.M).getD k 0) ?_) (by rw [fnl_len]; omega) fun H6 e56 _ => ⟨Ex.mut (e5.trans e56) hl, ⟨_, _, rfl⟩, by rw [upd_same, fnl_succ]⟩
        refine el_lcR (n := (irr d.m d.M).length) (fun k => d.M ((irr d.m d.M).getD k 0) x == (irr d.m d.M).getD k 0) (fun k => .int (2 ^ k : Nat)) ?_ (by omega) (fun x => rfl) ?_ ?_
        · rw [← irrV_len]
          exact ea_cons (ev_len (ev_var rfl) (sq_of h5p)) ea_nil
        · intro i H6 e6 hi
          have hM := (hT5.ex e6).tM
          have hp := irr_getD_lt hi
          have gp := irrV_get hi
          generalize (irr d.m d.M).getD i 0 = y at hp gp ⊢
          have pt : RV (rIxL K) (.ref lp) (.int (i : Int)) H6 (.int (y : Nat)) := rv_ixL (sq_of (e6 _ _ h5p)) (atI_nat gp)
          rw [← dec_nat]
          wtm_at "k49et"
        · intro i H6 e6 hi _
          exact ev_call0 (ea_cons (ev_var rfl) ea_nil) (sv_power (by omega))
      · rintro σ H5 ⟨e5, ⟨vx, vk, rfl⟩, h5⟩
        have h5p := e5 _ _ h3
        have q := ev_len (K := K) (σ := [some (.ref d.aJ), some (.ref d.aM), some .non, some (.ref lp), some (.ref l), vx, vk]) (H := H5) (ta := tVar 3) (ev_var rfl) (sq_of h5p)
        rw [irrV_len] at q
        exact et3 ev_c q (eu_tupL (ev_var rfl) (sq_of h5)) H5 (Ex.refl H5) _ fun p q H6 hp e56 h6 h7 => k1 nf p q H6 (fresh_back (e3.trans e5) hp) ((e3.trans e5).trans e56) h6 h7
    · refine c_yes (H := H1) (H0 := H1) (Ex.refl H1) (et_is (et_test (ev_op (ev_var rfl) ev_c rv_notN)) (by rfl)) fun H2 e12 _ => ?_
      exact b_retU (xs := [.str "failure", .ref q]) (H0 := H2) (Ex.refl H2) (eu_tup (ea_cons ev_c (ea_cons (ev_var rfl) ea_nil)) (by show 2 ≤ 100000; decide)) fun p H3 hp e23 _ h3 => k2 x y z lf p q H3 (fresh_back (e1.trans e12) hp) ((e1.trans e12).trans e23) h3 ((e12.trans e23) _ _ h1)
/-! ### _law_not_above -/
def naS (m : Nat) (M : Nat → Nat → Nat) (x : Nat) : Nat := msk (fun k => M x k != x) m
def spNot : Sp := fun vs H Q _ => ∃ d : TbD, vs = [.ref d.aM] ∧ TbAt H d ∧ ∀ p q H', H p = none → Ex H H' → H' p = some (.tup [.int (d.m : Nat), .ref q]) → H' q = some (.tup (fnl d.m fun x => .int (naS d.m d.M x : Nat))) → Q (.ref p) H'
theorem et2 {σ : L2.St} {H : Hp} {ta tc : TE} {x : V} {o : HO} (ha : Ev ta σ H x) (hc : EvN tc σ H o) : ∀ H1, Ex H H1 → ∀ Q : VK, (∀ p q H2, H1 p = none → Ex H1 H2 → H2 p = some (.tup [x, .ref q]) → H2 q = some o → Q (.ref p) H2) → tTup (tCons ta (tCons tc tNil)) σ H1 Q := fun H1 e Q q =>
  ha H1 e _ fun H2 e2 => hc H2 (e.trans e2) _ fun r H4 hr e4 h4 => ⟨by show 2 ≤ sizeLine; exact sz_of (by decide), fun p hp => q p r _ (fresh_back (e2.trans e4) hp) ((e2.trans e4).trans (Ex.new hp)) upd_same (by rw [upd_ne (ne_of_none h4 hp)]; exact h4)⟩
theorem sc__law_not_above : FnScope ["_law_meets", "_law_images", "_law_size", "_law_x", "_law_k"] ["_law_meets"] (defScope s__law_not_above) := ⟨rfl, rfl, rfl, by decide +kernel, rfl, by decide +kernel, by decide +kernel⟩
theorem ok__law_not_above (T : Tx K mg) : FnOk P w K mg base CX0 2 T.a__law_not_above T.d__law_not_above ["_law_meets"] spNot := by
  refine T.p__law_not_above.F.ok sc__law_not_above (fun vs H Q E h => ?_) (fun cdv A outer s H vs Q E hr h => ?_)
  · obtain ⟨d, rfl, _⟩ := h
    rfl
  · obtain ⟨d, rfl, hT, k⟩ := h
    have sm := hT.L.small
    have hMt := hT.tM.top
    refine ⟨_, (pss_cons (ps_set (i := 1) sc__law_not_above.nd rfl (Or.inl rfl) (pe_lst pa_nil))
  (pss_cons (ps_set (i := 2) sc__law_not_above.nd rfl (Or.inl rfl) (pe_callB (glen (K := K) rfl) (by rfl) T.b_len (by decide +kernel) (pa_cons (pv 0) pa_nil)))
  (pss_cons (ps_for PassesOwn.never rfl (pi_range1 rfl T.b_range (pa_cons (pv 2) pa_nil)) (pg_name (i := 3) sc__law_not_above.nd rfl (Or.inr rfl))
   (pss_one (ps_expr (gbm (K := K) rfl PySem.F.plainAttrs_list PySem.F.slot_list_append PySem.F.type_list_append mt_append (pv 1) (pa_cons (pe_callB (gsum (K := K) rfl rfl) (by rfl) T.b_sum (by decide +kernel) (pa_cons (pe_lc (own := [("_law_k", 4)]) (g := (gName 4)) (by rfl) sc__law_not_above.nd (pi_range1 rfl T.b_range (pa_cons (pv 2) pa_nil)) (blkOk_by (by kernel_rfl)) (fun _ _ _ _ _ => (pg_name (i := 4) sc__law_not_above.nd rfl (Or.inl rfl))) (fun _ _ _ _ _ => (pts_one (pt_cmpR op_ne (pe_ix (gixL (K := K) rfl) (pe_ix (gixL (K := K) rfl) (pv 0) (pv 3) (fun _ _ => rfl)) (pv 4) (fun _ _ => rfl)) (pv 3) (nomark _)))) (fun _ _ _ _ _ => (pe_call (ok__law_power T) (hr.mono (by decide)) rfl T.p__law_power.g T.p__law_power.k T.p__law_power.b .nil pass0 (pa_cons (pv 4) pa_nil)))) pa_nil)) pa_nil)))))
  (pss_one (ps_ret (pe_tup (pa_cons (pv 2) (pa_cons (pe_callTy (gtuple (K := K) rfl) (by rfl) T.b_tuple (by decide +kernel) (pa_cons (pv 1) pa_nil)) pa_nil)))))))), ?_⟩
    refine c_asgL (xs := []) (Ex.refl H) (el_lst ea_nil (Nat.zero_le _)) fun l H1 hl _ e1 h1 => ?_
    refine c_asg (v := .int (d.m : Nat)) e1 (by wtm_at "k49ev") fun H2 e12 e2 => ?_
    refine c_forR e2 (n := d.m) (by wtm_at "k49ea") (by omega) (fun i σ H' => Ex H H' ∧ (∃ vx vk, σ = [some (.ref d.aM), some (.ref l), some (.int (d.m : Nat)), vx, vk]) ∧ H' l = some (.lst (fnl i fun x => .int (naS d.m d.M x : Nat))))
      (fun H3 e23 e3 => ⟨e3, ⟨_, _, rfl⟩, (e12.trans e23) _ _ h1⟩) ?_ ?_
    · rintro x σ H3 hx ⟨e3, ⟨vx, vk, rfl⟩, h3⟩
      have hT3 := hT.ex e3
      refine b_app (H0 := H3) (v := .int (naS d.m d.M x : Nat)) (Ex.refl H3) h3 (ev_var rfl) (ev_sum (n := d.m) (f := fun k => d.M x k != x) ?_) (by rw [fnl_len]; omega) fun H4 e34 _ => ⟨Ex.mut (e3.trans e34) hl, ⟨_, _, rfl⟩, by rw [upd_same, fnl_succ]⟩
      refine el_lcR (n := d.m) (fun k => d.M x k != x) (fun k => .int (2 ^ k : Nat)) (by wtm_at "k49ea") (by omega) (fun x => rfl) ?_ ?_
      · intro i H4 e4 hi
        have hM := (hT3.ex e4).tM
        rw [bne, ← dec_nat]
        wtm_at "k49et"
      · intro i H4 e4 hi _
        exact ev_call0 (ea_cons (ev_var rfl) ea_nil) (sv_power (by omega))
    · rintro σ H3 ⟨e3, ⟨vx, vk, rfl⟩, h3⟩
      exact et2 (ev_var rfl) (eu_tupL (ev_var rfl) (sq_of h3)) H3 (Ex.refl H3) _ fun p q H4 hp e4 h4 h5 => k p q H4 (fresh_back e3 hp) (e3.trans e4) h4 h5
/-! ### _law_goes -/
def spGoes : Sp := fun vs H Q _ => ∃ (d : TbD) (n : Nat) (c : Addr) (s : Nat → Nat) (b : Bool), vs = [.ref d.aJ, .ref d.aM, .int (n : Nat), .ref c] ∧ TbAt H d ∧ n ≤ 1000 ∧ H c = some (.tup (fnl d.m fun x => .int (s x : Nat))) ∧
  (∀ x, x < d.m → s x < 2 ^ 17) ∧ (b = true ↔ Goes d.m d.J d.M n s) ∧ RetV (.bl b) H Q
theorem sc__law_goes : FnScope ["_law_joins", "_law_meets", "_law_n", "_law_images", "_law_bound", "_law_k", "_law_x", "_law_y"] ["_law_joins", "_law_meets", "_law_n", "_law_images"] (defScope s__law_goes) := ⟨rfl, rfl, rfl, by decide +kernel, rfl, by decide +kernel, by decide +kernel⟩
theorem ok__law_goes (T : Tx K mg) : FnOk P w K mg base CX0 2 T.a__law_goes T.d__law_goes ["_law_joins", "_law_meets", "_law_n", "_law_images"] spGoes := by
  refine T.p__law_goes.F.ok sc__law_goes (fun vs H Q E h => ?_) (fun cdv A outer s H vs Q E hr h => ?_)
  · obtain ⟨d, n, c, s, b, rfl, _⟩ := h
    rfl
  · obtain ⟨d, n, c, s, b, rfl, hT, hn, hc, h17, gg, k⟩ := h
    have L := hT.L
    have sm := L.small
    have hJ := hT.tJ
    have hM := hT.tM
    refine ⟨_, (pss_cons (ps_set (i := 4) sc__law_goes.nd rfl (Or.inl rfl) pe_int)
  (pss_cons (ps_for PassesOwn.never rfl (pi_range1 rfl T.b_range (pa_cons (pv 2) pa_nil)) (pg_name (i := 5) sc__law_goes.nd rfl (Or.inl rfl))
   (pss_one (ps_set (i := 4) sc__law_goes.nd rfl (Or.inl rfl) (pe_op op_mul (pv 4) pe_int))))
  (pss_cons (ps_for PassesOwn.never rfl (pi_range1 rfl T.b_range (pa_cons (pe_callB (glen (K := K) rfl) (by rfl) T.b_len (by decide +kernel) (pa_cons (pv 3) pa_nil)) pa_nil)) (pg_name (i := 6) sc__law_goes.nd rfl (Or.inl rfl))
   (pss_one (ps_if (PW.pt (pw_or (pt_cmpR op_lt (pe_ix (gixT (K := K) rfl) (pv 3) (pv 6) (fun _ _ => rfl)) pe_int (nomark _)) (pw_or (pt_cmpR op_ge (pe_ix (gixT (K := K) rfl) (pv 3) (pv 6) (fun _ _ => rfl)) (pv 4) (nomark _)) (pw_or1 (pt_cmpR (gin (K := K) rfl) (pe_ix (gixT (K := K) rfl) (pv 3) (pv 6) (fun _ _ => rfl)) (pe_slice (gslT (K := K) rfl) (pv 3) po_none (po_some (pv 6))) (by rfl)))))) (pss_one (ps_ret pe_bl)) pss_nil)))
  (pss_cons (ps_for PassesOwn.never rfl (pi_range1 rfl T.b_range (pa_cons (pe_callB (glen (K := K) rfl) (by rfl) T.b_len (by decide +kernel) (pa_cons (pv 3) pa_nil)) pa_nil)) (pg_name (i := 6) sc__law_goes.nd rfl (Or.inl rfl))
   (pss_one (ps_for PassesOwn.never rfl (pi_range1 rfl T.b_range (pa_cons (pe_callB (glen (K := K) rfl) (by rfl) T.b_len (by decide +kernel) (pa_cons (pv 3) pa_nil)) pa_nil)) (pg_name (i := 7) sc__law_goes.nd rfl (Or.inl rfl))
   (pss_cons (ps_if (pt_cmpR op_ne (pe_ix (gixT (K := K) rfl) (pv 3) (pe_ix (gixL (K := K) rfl) (pe_ix (gixL (K := K) rfl) (pv 0) (pv 6) (fun _ _ => rfl)) (pv 7) (fun _ _ => rfl)) (fun _ _ => rfl)) (pe_call (ok__law_united T) (hr.mono (by decide)) rfl T.p__law_united.g T.p__law_united.k T.p__law_united.b .nil pass0 (pa_cons (pe_ix (gixT (K := K) rfl) (pv 3) (pv 6) (fun _ _ => rfl)) (pa_cons (pe_ix (gixT (K := K) rfl) (pv 3) (pv 7) (fun _ _ => rfl)) pa_nil))) (nomark _)) (pss_one (ps_ret pe_bl)) pss_nil)
  (pss_one (ps_if (pt_cmpR op_ne (pe_ix (gixT (K := K) rfl) (pv 3) (pe_ix (gixL (K := K) rfl) (pe_ix (gixL (K := K) rfl) (pv 1) (pv 6) (fun _ _ => rfl)) (pv 7) (fun _ _ => rfl)) (fun _ _ => rfl)) (pe_call (ok__law_common T) (hr.mono (by decide)) rfl T.p__law_common.g T.p__law_common.k T.p__law_common.b .nil pass0 (pa_cons (pe_ix (gixT (K := K) rfl) (pv 3) (pv 6) (fun _ _ => rfl)) (pa_cons (pe_ix (gixT (K := K) rfl) (pv 3) (pv 7) (fun _ _ => rfl)) (pa_cons pe_int pa_nil)))) (nomark _)) (pss_one (ps_ret pe_bl)) pss_nil))))))
  (pss_one (ps_ret pe_bl)))))), ?_⟩
    have no : ∀ {H' : Hp}, Ex H H' → b = false → Q (.bl false) H' := fun {H'} e hbf => by
      have := k H' e
      rw [hbf] at this
      exact this
    refine c_asg (v := .int 1) (Ex.refl H) ev_c fun H1 _ e1 => ?_
    refine c_forR e1 (n := n) (by wtm_at "k49ea") (by omega) (fun i σ H' => Ex H H' ∧ ∃ vk, σ = [some (.ref d.aJ), some (.ref d.aM), some (.int (n : Nat)), some (.ref c), some (.int (2 ^ i : Nat)), vk, none, none])
      (fun H2 _ e2 => ⟨e2, none, rfl⟩) ?_ ?_
    · rintro i σ H2 hi ⟨e2, vk, rfl⟩
      refine b_asg (v := .int (((2 ^ i : Nat) : Int) * 2)) e2 (by wtm_at "k49ev") fun H3 _ e3 => ⟨e3, some (.int (i : Nat)), ?_⟩
      rw [Nat.pow_succ]
      rfl
    · rintro σ H2 ⟨e2, vk, rfl⟩
      generalize hbo : 2 ^ n = bo
      refine c_forR e2 (n := d.m) (by wtm_at "k49ea") (by omega) (fun i σ H' => Ex H H' ∧ (∃ vk vx vy, σ = [some (.ref d.aJ), some (.ref d.aM), some (.int (n : Nat)), some (.ref c), some (.int (bo : Nat)), vk, vx, vy]) ∧ ∀ j, j < i → s j < 2 ^ n ∧ ∀ l, l < j → s j ≠ s l)
        (fun H3 _ e3 => ⟨e3, ⟨_, _, _, rfl⟩, fun j hj => absurd hj (Nat.not_lt_zero _)⟩) ?_ ?_
      · rintro x σ H3 hx ⟨e3, ⟨vk, vx, vy, rfl⟩, hgo⟩
        have ix : ∀ {σ' : L2.St}, σ'[3]? = some (some (.ref c)) → σ'[6]? = some (some (.int (x : Int))) → Ev (tOp (rIxT K) (tVar 3) (tVar 6)) σ' H (.int (s x : Nat)) := fun h3 h4 => ev_op (ev_var h3) (ev_var h4) (rv_fT' hc hx rfl)
        have tk : (fnl d.m fun x => V.int (s x : Nat)).take x = fnl x fun j => .int (s j : Nat) := take_fnl (by rw [fnl_len]; omega) fun j hj => fnl_get (by omega)
        refine b_when (b := (decide (((bo : Nat) : Int) ≤ (s x : Nat)) || inV (.int (s x : Nat)) (fnl x fun j => .int (s j : Nat)))) e3 ?_ (fun ht H4 _ e4 => ?_) (fun ht H4 _ e4 => ?_)
        · refine et_or0 (et_is (et_test (ev_op (ix rfl rfl) ev_c rv_I0)) (decide_eq_false (by omega))) (et_or (et_test (ev_op (ix rfl rfl) (ev_var rfl) rv_I0)) fun _ => et_test ?_)
          rw [← tk]
          refine ev_inU (ix rfl rfl) (eu_slT (ev_var rfl) hc (ev_var rfl) (by rw [fnl_len]; omega)) rfl ?_
          rw [tk]
          exact fnl_flat
        · refine b_ret (H0 := H4) (Ex.refl H4) ev_c fun H5 e5 _ => no (e4.trans e5) ?_
          cases hbb : b with
          | false => rfl
          | true =>
            exfalso
            have G := (gg.mp hbb).1 x hx
            rw [hbo] at G
            rw [Bool.or_eq_true, decide_eq_true_eq] at ht
            rcases ht with h | h
            · omega
            · obtain ⟨j, hj, he⟩ := in_fnl.mp h
              exact G.2 j hj he.symm
        · refine ⟨e4, ⟨_, _, _, rfl⟩, fun j hj => ?_⟩
          rcases Nat.lt_succ_iff_lt_or_eq.mp hj with h | h
          · exact hgo j h
          · subst h
            rw [Bool.or_eq_false_iff, decide_eq_false_iff_not] at ht
            refine ⟨by rw [hbo]; omega, fun l hl2 he => ?_⟩
            have := in_fnl.mpr ⟨l, hl2, he.symm⟩
            rw [ht.2] at this
            cases this
      · rintro σ H3 ⟨e3, ⟨vk, vx, vy, rfl⟩, hgo⟩
        have ixn : ∀ {σ' : L2.St} {te : TE} {i : Nat}, i < d.m → σ'[3]? = some (some (.ref c)) → Ev te σ' H (.int (i : Nat)) → Ev (tOp (rIxT K) (tVar 3) te) σ' H (.int (s i : Nat)) := fun hi h3 h4 => ev_op (ev_var h3) h4 (rv_fT' hc hi rfl)
        refine c_forR e3 (n := d.m) (by wtm_at "k49ea") (by omega) (fun i σ H' => Ex H H' ∧ (∃ vk vx vy, σ = [some (.ref d.aJ), some (.ref d.aM), some (.int (n : Nat)), some (.ref c), some (.int (bo : Nat)), vk, vx, vy]) ∧ ∀ x y, x < i → y < d.m → s (d.J x y) = s x ||| s y ∧ s (d.M x y) = s x &&& s y)
          (fun H4 _ e4 => ⟨e4, ⟨_, _, _, rfl⟩, fun x y hx => absurd hx (Nat.not_lt_zero _)⟩) ?_ ?_
        · rintro x σ H4 hx ⟨e4, ⟨vk, vx, vy, rfl⟩, hp⟩
          refine b_forR e4 (n := d.m) (by wtm_at "k49ea") (by omega) (fun i σ H' => Ex H H' ∧ (∃ vk vy, σ = [some (.ref d.aJ), some (.ref d.aM), some (.int (n : Nat)), some (.ref c), some (.int (bo : Nat)), vk, some (.int (x : Nat)), vy]) ∧ ∀ y, y < i → s (d.J x y) = s x ||| s y ∧ s (d.M x y) = s x &&& s y)
            (fun H5 _ e5 => ⟨e5, ⟨_, _, rfl⟩, fun y hy => absurd hy (Nat.not_lt_zero _)⟩) ?_ ?_
          · rintro y σ H5 hy ⟨e5, ⟨vk, vy, rfl⟩, hq⟩
            have lo : s x ||| s y < 2 ^ 17 := Nat.or_lt_two_pow (h17 x hx) (h17 y hy)
            have la : s x &&& s y < 2 ^ 17 := Nat.lt_of_le_of_lt Nat.and_le_left (h17 x hx)
            refine c_when (b := !(s (d.J x y) == (s x ||| s y))) e5 ?_ (fun h1 H6 _ e6 => ?_) (fun h1 H6 _ e6 => ?_)
            · rw [← dec_nat]
              have q := sv_united (H := H) (a := s x) (b := s y)
              rw [Nat.mod_eq_of_lt lo] at q
              exact et_test (ev_op (ixn (L.jl _ _ hx hy) rfl (by wtm_at "k49ev")) (ev_call0 (ea_cons (ixn hx rfl (ev_var rfl)) (ea_cons (ixn hy rfl (ev_var rfl)) ea_nil)) q) (rv_ne rfl))
            · refine b_ret (H0 := H6) (Ex.refl H6) ev_c fun H7 e7 _ => no (e6.trans e7) ?_
              cases hbb : b with
              | false => rfl
              | true =>
                have G := ((gg.mp hbb).2 x y hx hy).1
                rw [G, beq_self_eq_true] at h1
                cases h1
            · have j1 : s (d.J x y) = s x ||| s y := by simpa using h1
              refine b_when (b := !(s (d.M x y) == (s x &&& s y))) e6 ?_ (fun h2 H7 _ e7 => ?_) (fun h2 H7 _ e7 => ?_)
              · rw [← dec_nat]
                have q := sv_common (H := H) (a := s x) (b := s y) (n := 17) (by decide)
                rw [Nat.mod_eq_of_lt la] at q
                exact et_test (ev_op (ixn (L.ml _ _ hx hy) rfl (by wtm_at "k49ev")) (ev_call0 (ea_cons (ixn hx rfl (ev_var rfl)) (ea_cons (ixn hy rfl (ev_var rfl)) (ea_cons ev_c ea_nil))) q) (rv_ne rfl))
              · refine b_ret (H0 := H7) (Ex.refl H7) ev_c fun H8 e8 _ => no (e7.trans e8) ?_
                cases hbb : b with
                | false => rfl
                | true =>
                  have G := ((gg.mp hbb).2 x y hx hy).2
                  rw [G, beq_self_eq_true] at h2
                  cases h2
              · have m1 : s (d.M x y) = s x &&& s y := by simpa using h2
                refine ⟨e7, ⟨_, _, rfl⟩, fun z hz => ?_⟩
                rcases Nat.lt_succ_iff_lt_or_eq.mp hz with h | h
                · exact hq z h
                · subst h; exact ⟨j1, m1⟩
          · rintro σ H5 ⟨e5, ⟨vk, vy, rfl⟩, hq⟩
            refine ⟨e5, ⟨_, _, _, rfl⟩, fun z y hz hy => ?_⟩
            rcases Nat.lt_succ_iff_lt_or_eq.mp hz with h | h
            · exact hp z y h hy
            · subst h; exact hq y hy
        · rintro σ H4 ⟨e4, ⟨vk, vx, vy, rfl⟩, hp⟩
          have : b = true := gg.mpr ⟨fun k hk => hgo k hk, hp⟩
          subst this
          exact b_ret (H0 := H4) (Ex.refl H4) ev_c fun H5 e5 _ => k H5 (e4.trans e5)
end
end K49
namespace K49
open PySem L2 Evl
/-! ### the evaluator -/
local macro_rules | `(tactic| wtm_at "k49sd") => `(tactic| first
  | (with_reducible assumption)
  | decide
  | omega
  | ((with_reducible refine' Lat.ml ?k0 _ _ ?k1 ?k2); (case k0 => (with_reducible assumption)); (case k1 => wtm_at "k49sd"); (case k2 => wtm_at "k49sd"))
  | ((with_reducible refine' Lat.jl ?k0 _ _ ?k1 ?k2); (case k0 => (with_reducible assumption)); (case k1 => wtm_at "k49sd"); (case k2 => wtm_at "k49sd")))
local macro_rules | `(tactic| wtm_at "k49rv") => `(tactic| first
  | (with_reducible exact rv_and)
  | (with_reducible exact rv_or)
  | ((with_reducible refine' rv_shl1 ?k1); (case k1 => wtm_at "k49sd"))
  | (with_reducible exact rv_I0)
  | ((with_reducible refine' rv_T2 ?k1 ?k2 ?k3); (case k1 => (with_reducible assumption)); (case k2 => wtm_at "k49sd"); (case k3 => wtm_at "k49sd"))
  | ((with_reducible refine' rv_T1 ?k1 ?k2); (case k1 => (with_reducible assumption)); (case k2 => wtm_at "k49sd"))
  | ((with_reducible refine' rv_L2 ?k1 ?k2 ?k3); (case k1 => (with_reducible assumption)); (case k2 => wtm_at "k49sd"); (case k3 => wtm_at "k49sd"))
  | ((with_reducible refine' rv_L1 ?k1 ?k2); (case k1 => (with_reducible assumption)); (case k2 => wtm_at "k49sd"))
  | ((with_reducible refine' rv_fT' ?k1 ?k2 ?k3); (case k1 => (with_reducible assumption)); (case k2 => wtm_at "k49sd"); (case k3 => exact rfl))
  | ((with_reducible refine' rv_fL' ?k1 ?k2 ?k3); (case k1 => (with_reducible assumption)); (case k2 => wtm_at "k49sd"); (case k3 => exact rfl))
  | ((with_reducible refine' rv_mod ?k1); (case k1 => wtm_at "k49sd"))
  | ((with_reducible refine' rv_shr ?k1); (case k1 => wtm_at "k49sd"))
  | ((with_reducible refine' rv_I (C := CMul) ?k1); (case k1 => (first | exact Or.inr ⟨by decide, by decide⟩ | exact Or.inl ⟨by decide, by decide⟩ | exact Or.inl ⟨by omega, by omega⟩ | exact Or.inr ⟨by omega, by omega⟩)))
  | ((with_reducible refine' rv_I (C := CDiv) ?k1); (case k1 => (first | exact ⟨by decide, by decide⟩ | exact ⟨by omega, by omega⟩)))
  | ((with_reducible refine' rv_I (C := CPow) ?k1); (case k1 => (first | exact ⟨by omega, by omega, by decide⟩ | exact ⟨by omega, by omega, by omega⟩)))
  | ((with_reducible refine' rv_eq ?k1); (case k1 => rfl))
  | ((with_reducible refine' rv_ne ?k1); (case k1 => rfl))
  | (with_reducible exact rv_isN) | (with_reducible exact rv_notN) | (with_reducible exact rv_isB) | (with_reducible exact rv_notB)
  | (with_reducible assumption))
local macro_rules | `(tactic| wtm_at "k49ev") => `(tactic| first
  | (with_reducible exact ev_c)
  | (exact ev_var rfl)
  | ((with_reducible refine' ev_op ?k1 ?k2 ?k3); (case k1 => wtm_at "k49ev"); (case k2 => wtm_at "k49ev"); (case k3 => wtm_at "k49rv"))
  | ((with_reducible refine' ev_un ?k1 ru_neg); (case k1 => wtm_at "k49ev"))
  | ((with_reducible refine' ev_int1 ?k1); (case k1 => wtm_at "k49ev"))
  | ((with_reducible refine' ev_abs ?k1); (case k1 => wtm_at "k49ev"))
  | ((with_reducible refine' ev_above ?k1 ?k2 ?k3 ?k4); (case k1 => wtm_at "k49ev"); (case k2 => (with_reducible assumption)); (case k3 => exact Tx.cl ‹_›); (case k4 => exact Tx.n_above ‹_›))
  | ((with_reducible refine' ev_joins ?k1 ?k2 ?k3 ?k4); (case k1 => wtm_at "k49ev"); (case k2 => (with_reducible assumption)); (case k3 => exact Tx.cl ‹_›); (case k4 => exact Tx.n_joins ‹_›))
  | ((with_reducible refine' ev_meets ?k1 ?k2 ?k3 ?k4); (case k1 => wtm_at "k49ev"); (case k2 => (with_reducible assumption)); (case k3 => exact Tx.cl ‹_›); (case k4 => exact Tx.n_meets ‹_›))
  | ((with_reducible refine' ev_lenfT ?k1 ?k2); (case k1 => wtm_at "k49ev"); (case k2 => (with_reducible assumption)))
  | ((with_reducible refine' ev_lenfL ?k1 ?k2); (case k1 => wtm_at "k49ev"); (case k2 => (with_reducible assumption)))
  | ((with_reducible refine' ev_lenT ?k1 ?k2); (case k1 => wtm_at "k49ev"); (case k2 => wtm_at "k49sq"))
  | ((with_reducible refine' ev_len ?k1 ?k2); (case k1 => wtm_at "k49ev"); (case k2 => wtm_at "k49sq"))
  | ((with_reducible refine' ev_call0 ?k1 ?k2); (case k1 => wtm_at "k49ea"); (case k2 => wtm_at "k49sp"))
  | ((with_reducible refine' ev_notV ?k1); (case k1 => wtm_at "k49ev"))
  | ((with_reducible refine' ev_andV ?k1 ?k2); (case k1 => wtm_at "k49ev"); (case k2 => (intro _; wtm_at "k49ev")))
  | ((with_reducible refine' ev_orV ?k1 ?k2); (case k1 => wtm_at "k49ev"); (case k2 => (intro _; wtm_at "k49ev"))))
local macro_rules | `(tactic| wtm_at "k49ea") => `(tactic| first
  | (with_reducible exact ea_nil)
  | ((with_reducible refine' ea_cons ?k1 ?k2); (case k1 => wtm_at "k49ev"); (case k2 => wtm_at "k49ea")))
local macro_rules | `(tactic| wtm_at "k49sq") => `(tactic| first
  | (with_reducible assumption)
  | (refine' sq_of ?k1; (case k1 => (with_reducible assumption)))
  | (refine' st_of ?k1; (case k1 => (with_reducible assumption))))
local macro_rules | `(tactic| wtm_at "k49et") => `(tactic| first
  | ((with_reducible refine' et_test ?k1); (case k1 => wtm_at "k49ev"))
  | ((with_reducible refine' et_B ?k1); (case k1 => wtm_at "k49ev"))
  | ((with_reducible refine' et_and ?k1 ?k2); (case k1 => wtm_at "k49et"); (case k2 => (intro _; wtm_at "k49et")))
  | ((with_reducible refine' et_or ?k1 ?k2); (case k1 => wtm_at "k49et"); (case k2 => (intro _; wtm_at "k49et")))
  | ((with_reducible refine' et_not ?k1); (case k1 => wtm_at "k49et")))

/-! ### a range whose end is drawn -/
section
variable {σ : L2.St} {H : Hp} {D : Ends} {tu tz : TS}
theorem c_forS {ta : TA} {j : Nat} (S : Nat → Hp → Prop) (h : ∀ R : List V → Hp → Prop, (∀ (n : Nat) H1, S n H1 → R [.int (n : Nat)] H1) → ta σ H R) (hn : ∀ n H1, S n H1 → n ≤ 100000) (Pv : Nat → Nat → L2.St → Hp → Prop) (h0 : ∀ n H1, S n H1 → Pv n 0 σ H1)
    (hs : ∀ (n i : Nat) σ' H', i < n → Pv n i σ' H' → tu { D with nx := Pv n (i + 1), ct := Pv n (i + 1), bk := tz D } (σ'.set j (some (.int (i : Int)))) H') (hd : ∀ n σ' H', Pv n n σ' H' → tz D σ' H') : tSeq (tFor (iRng1 ta) (gName j) tu) tz D σ H :=
  h _ fun n H1 s1 => ⟨n, rfl, by omega, by have := hn n H1 s1; omega, for_range (D := { D with nx := tz D }) (lo := 0) (n := (n : Int).toNat) (Pv n) (h0 n H1 s1) (fun i σ' H' hi p => by
    have e0 : (0 : Int) + (i : Int) = (i : Int) := Int.zero_add _
    show tu { D with nx := Pv n (i + 1), ct := Pv n (i + 1), bk := tz D } (σ'.set j (some (.int ((0 : Int) + (i : Int))))) H'
    rw [e0]
    exact hs n i σ' H' (by omega) p) (by rw [Int.toNat_natCast]; exact fun σ' H' p => hd n σ' H' p)⟩
end
/-! ### values drawn from the state -/
def EvS (te : TE) (σ : L2.St) (H : Hp) (R : V → Hp → Prop) : Prop := ∀ Q : VK, (∀ v H1, R v H1 → Q v H1) → te σ H Q
section
variable {σ : L2.St} {H : Hp} {D : Ends} {te : TE} {ta : TA} {tz : TS} {R : V → Hp → Prop}
theorem c_asgS {i : Nat} (h : EvS te σ H R) (k : ∀ v H1, R v H1 → tz D (σ.set i (some v)) H1) : tSeq (tAsg te (gName i)) tz D σ H := h _ k
def Took (st : Addr) (m : Nat) (H : Hp) (v : V) (H1 : Hp) : Prop := ∃ k : Nat, v = .int (k : Nat) ∧ k < m ∧ Off st H H1 ∧ StA st H1
theorem es_take {st : Addr} {m : Nat} {E : XK} (h : EvA ta σ H [.ref st, .int (m : Nat)]) (s : StA st H) (h0 : 0 < m) (h1 : m < 1073741824) : EvS (tCall spTake [] E ta) σ H (Took st m H) := fun Q q => h H (Ex.refl H) _ fun H1 e1 =>
  ⟨st, m, rfl, s.ex e1, h0, h1, fun k H2 hk o2 s2 => q _ H2 ⟨k, rfl, hk, (Off.of e1).trans o2, s2⟩⟩
theorem es_addc {st : Addr} {c m : Nat} (h : EvS te σ H (Took st m H)) : EvS (tOp (rI0 fun i j => .int (i + j)) (tC (.int (c : Nat))) te) σ H (fun v H1 => ∃ k : Nat, v = .int ((c + k : Nat) : Int) ∧ k < m ∧ Off st H H1 ∧ StA st H1) := fun Q q =>
  h _ fun v H1 ⟨k, e, hk, o, s⟩ => by
    subst e
    exact ⟨_, _, rfl, rfl, q _ H1 ⟨k, rfl, hk, o, s⟩⟩
end
theorem Off.fresh {a p : Addr} {H H' : Hp} (o : Off a H H') (h : H' p = none) (st : StA a H') : H p = none := by
  cases e : H p with
  | none => rfl
  | some u =>
    exfalso
    by_cases n : p = a
    · subst n
      obtain ⟨_, _, h1, _⟩ := st
      rw [h] at h1
      cases h1
    · rw [o p u n e] at h
      cases h
def nv (n : Nat) : V := .int (n : Nat)
theorem in_nv {l : List Nat} {x : Nat} : inV (.int (x : Nat)) (l.map nv) = decide (x ∈ l) := by
  unfold inV
  apply Bool.eq_iff_iff.mpr
  rw [List.any_eq_true, decide_eq_true_eq]
  constructor
  · rintro ⟨v, hv, he⟩
    obtain ⟨y, hy, rfl⟩ := List.mem_map.mp hv
    have : ((y : Nat) : Int) = (x : Nat) := by simpa [eqV, nv] using he
    have : y = x := by omega
    subst this
    exact hy
  · intro h
    exact ⟨nv x, List.mem_map.mpr ⟨x, h, rfl⟩, by simp [eqV, nv]⟩
theorem nv_flat {l : List Nat} : (l.map nv).all flatV = true := by
  rw [List.all_eq_true]
  intro v hv
  obtain ⟨y, _, rfl⟩ := List.mem_map.mp hv
  rfl
theorem nv_get {l : List Nat} {i : Nat} {v : V} (h : (l.map nv)[i]? = some v) : ∃ q, l[i]? = some q ∧ v = .int (q : Nat) := by
  rw [List.getElem?_map] at h
  cases e : l[i]? with
  | none => rw [e] at h; cases h
  | some q => rw [e] at h; exact ⟨q, rfl, (Option.some.inj h).symm⟩
theorem nv_fnl (l : List Nat) : l.map nv = fnl l.length fun x => .int (l.getD x 0 : Nat) := by
  conv => lhs; rw [as_range l 0]
  unfold fnl
  rw [List.map_map]
  rfl
section
variable {P : Program} {w : World} {K : PySem.W.Frag} {mg : Str → Option Value} {base : Heap}
def spFamily : Sp := fun vs H Q _ => ∃ st : Addr, vs = [.ref st] ∧ StA st H ∧ ∀ (p : Addr) (H' : Hp) (m : Nat) (s : Nat → Nat), Fam m s → H p = none → Off st H H' → StA st H' → H' p = some (.lst (fnl m fun x => .int (s x : Nat))) → Q (.ref p) H'
theorem sc__law_family : FnScope ["_law_state_here", "_law_n", "_law_full", "_law_k", "_law_found", "_law_turn", "_law_new", "_law_old", "_law_both", "_law_a", "_law_b"] ["_law_state_here"] (defScope s__law_family) := ⟨rfl, rfl, rfl, by decide +kernel, rfl, by decide +kernel, by decide +kernel⟩
theorem ok__law_family (T : Tx K mg) : FnOk P w K mg base CX0 2 T.a__law_family T.d__law_family ["_law_state_here"] spFamily := by
  refine T.p__law_family.F.ok sc__law_family (fun vs H Q E h => ?_) (fun cdv A outer s H vs Q E hr h => ?_)
  · obtain ⟨st, rfl, _⟩ := h
    rfl
  · obtain ⟨st, rfl, hst, k⟩ := h
    refine ⟨_, (pss_cons (ps_set (i := 1) sc__law_family.nd rfl (Or.inl rfl) (pe_op op_add pe_int (pe_call (ok__law_take T) (hr.mono (by decide)) rfl T.p__law_take.g T.p__law_take.k T.p__law_take.b .nil pass0 (pa_cons (pv 0) (pa_cons pe_int pa_nil)))))
  (pss_cons (ps_set (i := 2) sc__law_family.nd rfl (Or.inl rfl) pe_int)
  (pss_cons (ps_for PassesOwn.never rfl (pi_range1 rfl T.b_range (pa_cons (pv 1) pa_nil)) (pg_name (i := 3) sc__law_family.nd rfl (Or.inl rfl))
   (pss_one (ps_set (i := 2) sc__law_family.nd rfl (Or.inl rfl) (pe_op op_mul (pv 2) pe_int))))
  (pss_cons (ps_set (i := 2) sc__law_family.nd rfl (Or.inl rfl) (pe_op op_sub (pv 2) pe_int))
  (pss_cons (ps_set (i := 4) sc__law_family.nd rfl (Or.inl rfl) (pe_lst (pa_cons (pv 2) pa_nil)))
  (pss_cons (ps_for PassesOwn.never rfl (pi_range1 rfl T.b_range (pa_cons (pe_call (ok__law_take T) (hr.mono (by decide)) rfl T.p__law_take.g T.p__law_take.k T.p__law_take.b .nil pass0 (pa_cons (pv 0) (pa_cons pe_int pa_nil))) pa_nil)) (pg_name (i := 5) sc__law_family.nd rfl (Or.inl rfl))
   (pss_cons (ps_set (i := 6) sc__law_family.nd rfl (Or.inl rfl) (pe_call (ok__law_take T) (hr.mono (by decide)) rfl T.p__law_take.g T.p__law_take.k T.p__law_take.b .nil pass0 (pa_cons (pv 0) (pa_cons (pe_op op_add (pv 2) pe_int) pa_nil))))
  (pss_cons (ps_for PassesOwn.never rfl (gpiL (K := K) rfl (pe_callTy (glist (K := K) rfl) (by rfl) T.b_list (by decide +kernel) (pa_cons (pv 4) pa_nil))) (pg_name (i := 7) sc__law_family.nd rfl (Or.inl rfl))
   (pss_cons (ps_set (i := 8) sc__law_family.nd rfl (Or.inl rfl) (pe_call (ok__law_common T) (hr.mono (by decide)) rfl T.p__law_common.g T.p__law_common.k T.p__law_common.b .nil pass0 (pa_cons (pv 7) (pa_cons (pv 6) (pa_cons (pv 1) pa_nil)))))
  (pss_one (ps_if (pt_cmpR (gnin (K := K) rfl) (pv 8) (pv 4) (by rfl)) (pss_one (ps_expr (gbm (K := K) rfl PySem.F.plainAttrs_list PySem.F.slot_list_append PySem.F.type_list_append mt_append (pv 4) (pa_cons (pv 8) pa_nil)))) pss_nil))))
  (pss_one (ps_if (pt_cmpR (gnin (K := K) rfl) (pv 6) (pv 4) (by rfl)) (pss_one (ps_expr (gbm (K := K) rfl PySem.F.plainAttrs_list PySem.F.slot_list_append PySem.F.type_list_append mt_append (pv 4) (pa_cons (pv 6) pa_nil)))) pss_nil)))))
  (pss_cons (ps_for PassesOwn.never rfl (pi_range1 rfl T.b_range (pa_cons pe_int pa_nil)) (pg_name (i := 5) sc__law_family.nd rfl (Or.inl rfl))
   (pss_one (ps_for PassesOwn.never rfl (gpiL (K := K) rfl (pe_callTy (glist (K := K) rfl) (by rfl) T.b_list (by decide +kernel) (pa_cons (pv 4) pa_nil))) (pg_name (i := 9) sc__law_family.nd rfl (Or.inl rfl))
   (pss_one (ps_for PassesOwn.never rfl (gpiL (K := K) rfl (pe_callTy (glist (K := K) rfl) (by rfl) T.b_list (by decide +kernel) (pa_cons (pv 4) pa_nil))) (pg_name (i := 10) sc__law_family.nd rfl (Or.inl rfl))
   (pss_cons (ps_set (i := 8) sc__law_family.nd rfl (Or.inl rfl) (pe_call (ok__law_common T) (hr.mono (by decide)) rfl T.p__law_common.g T.p__law_common.k T.p__law_common.b .nil pass0 (pa_cons (pv 9) (pa_cons (pv 10) (pa_cons (pv 1) pa_nil)))))
  (pss_one (ps_if (pt_cmpR (gnin (K := K) rfl) (pv 8) (pv 4) (by rfl)) (pss_one (ps_expr (gbm (K := K) rfl PySem.F.plainAttrs_list PySem.F.slot_list_append PySem.F.type_list_append mt_append (pv 4) (pa_cons (pv 8) pa_nil)))) pss_nil))))))))
  (pss_one (ps_ret (pe_callB (gsorted (K := K) rfl) (by rfl) T.b_sorted (by decide +kernel) (pa_cons (pv 4) pa_nil))))))))))), ?_⟩
    -- n
    refine c_asgS (es_addc (c := 1) (es_take (m := 4) (ea_cons (ev_var rfl) (ea_cons ev_c ea_nil)) hst (by decide) (by decide))) ?_
    rintro _ H1 ⟨n0, rfl, hn0, o1, s1⟩
    obtain ⟨n, hn⟩ : ∃ n, n = 1 + n0 := ⟨_, rfl⟩
    rw [← hn]
    have n4 : n ≤ 4 := by omega
    -- full
    refine c_asg (H := H1) (H0 := H1) (v := .int 1) (Ex.refl H1) ev_c fun H2 e12 _ => ?_
    refine c_forR (H0 := H2) (Ex.refl H2) (n := n) (ea_cons (ev_var rfl) ea_nil) (by omega) (fun i σ H' => Ex H1 H' ∧ ∃ vk, σ = [some (.ref st), some (.int (n : Nat)), some (.int (2 ^ i : Nat)), vk, none, none, none, none, none, none, none])
      (fun H3 e23 _ => ⟨e12.trans e23, none, rfl⟩) ?_ ?_
    · rintro i σ H3 hi ⟨e3, vk, rfl⟩
      refine b_asg (H0 := H3) (v := .int (((2 ^ i : Nat) : Int) * 2)) (Ex.refl H3) (by wtm_at "k49ev") fun H4 e34 _ => ⟨e3.trans e34, some (.int (i : Nat)), ?_⟩
      rw [Nat.pow_succ]
      rfl
    rintro σ H3 ⟨e3, vk, rfl⟩
    have pw := Nat.two_pow_pos n
    refine c_asg (H0 := H3) (v := .int (((2 ^ n : Nat) : Int) - 1)) (Ex.refl H3) (by wtm_at "k49ev") fun H4 e34 _ => ?_
    have ef : ((2 ^ n : Nat) : Int) - 1 = ((2 ^ n - 1 : Nat) : Int) := by omega
    rw [ef]
    refine c_asgL (H0 := H4) (xs := [2 ^ n - 1].map nv) (Ex.refl H4) (el_lst (ea_cons (ev_var rfl) ea_nil) (by show 1 ≤ 100000; decide)) fun l H5 hl4 e45 _ h5 => ?_
    have o5 : Off st H H5 := o1.trans (Off.of ((e3.trans e34).trans e45))
    have s5 : StA st H5 := s1.ex ((e3.trans e34).trans e45)
    have s4 : StA st H4 := s1.ex (e3.trans e34)
    have nl : l ≠ st := fun e => by
      obtain ⟨_, _, h1, _⟩ := s4
      rw [← e, hl4] at h1
      cases h1
    have hl : H l = none := (o1.trans (Off.of (e3.trans e34))).fresh hl4 s4
    have p1 := pre_one n4
    -- the drawn sets
    refine c_forS (fun q H' => q < 6 ∧ Off st H5 H' ∧ StA st H') (fun R hR => ?_) (fun q H' hq => by omega) (fun q i σ H' => (Off st H H' ∧ StA st H' ∧ ∃ f, Pre n f ∧ H' l = some (.lst (f.map nv))) ∧ ∃ vk vt vw vo vb, σ = [some (.ref st), some (.int (n : Nat)), some (.int (2 ^ n - 1 : Nat)), vk, some (.ref l), vt, vw, vo, vb, none, none])
      (fun q H6 ⟨_, o6, s6⟩ => ⟨⟨o5.trans o6, s6, _, p1, o6 _ _ nl h5⟩, _, _, _, _, _, rfl⟩) ?_ ?_
    · exact ⟨_, rfl, st, 6, rfl, s5, by decide, by decide, fun q H6 hq o6 s6 => hR q H6 ⟨hq, o6, s6⟩⟩
    · rintro q i σ H6 _ ⟨⟨o6, s6, f, pf, h6⟩, vk, vt, vw, vo, vb, rfl⟩
      -- new
      have e2n : ((2 ^ n - 1 : Nat) : Int) + 1 = ((2 ^ n : Nat) : Int) := by omega
      have p16 : 2 ^ n ≤ 16 := Nat.pow_le_pow_right (by decide : 1 ≤ 2) n4
      refine c_asgS (es_take (m := 2 ^ n) (by rw [← e2n]; wtm_at "k49ea") s6 pw (by omega)) ?_
      rintro _ H7 ⟨w, rfl, hw, o7, s7⟩
      have h7 := o7 _ _ nl h6
      have o67 := o6.trans o7
      -- the common parts
      refine c_forNL (H := H7) (H0 := H7) (xs := f.map nv) (Ex.refl H7) (el_list (ev_var rfl) (sq_of h7))
        (fun p i σ H' => (Off st H H' ∧ StA st H' ∧ H' l = some (.lst ((addAll f w (f.take i)).map nv)) ∧ p ≠ l ∧ H' p = some (.lst (f.map nv))) ∧ ∃ vk vt vo vb, σ = [some (.ref st), some (.int (n : Nat)), some (.int (2 ^ n - 1 : Nat)), vk, some (.ref l), vt, some (.int (w : Nat)), vo, vb, none, none])
        (fun p H8 hp e78 _ h8 => ⟨⟨o67.trans (Off.of e78), s7.ex e78, e78 _ _ h7, (fun e => by rw [e, h7] at hp; cases hp), h8⟩, _, _, _, _, rfl⟩) (fun p i σ H' _ q => sq_of q.1.2.2.2.2) ?_ ?_
      · rintro p i x σ H8 hx ⟨⟨o8, s8, h8, npl, hp⟩, vk, vt, vo, vb, rfl⟩
        obtain ⟨o, ho, rfl⟩ := nv_get hx
        have om := List.mem_of_getElem? ho
        have hlt : o &&& w < 2 ^ n := Nat.lt_of_le_of_lt Nat.and_le_right hw
        have sv := sv_common (H := H8) (a := o) (b := w) (n := n) (by omega)
        rw [Nat.mod_eq_of_lt hlt] at sv
        refine c_asg (H0 := H8) (v := .int ((o &&& w : Nat) : Int)) (Ex.refl H8) (ev_call0 (by wtm_at "k49ea") sv) fun H9 e89 _ => ?_
        have h9 := e89 _ _ h8
        have tk : addAll f w (f.take (i + 1)) = addN (addAll f w (f.take i)) (o &&& w) := by
          rw [List.take_add_one, ho]
          exact addAll_snoc _ _ _ _
        have flen : (addAll f w (f.take i)).length ≤ 16 := len_le_of_lt 16 _ (nodup_addAll pf.nd) fun y hy => by
          rcases mem_addAll.mp hy with z | ⟨o', _, z⟩
          · have := pf.lt y z; omega
          · rw [z]
            have := Nat.lt_of_le_of_lt (Nat.and_le_right (n := o') (m := w)) hw
            omega
        refine b_when (H0 := H9) (b := !decide ((o &&& w) ∈ addAll f w (f.take i))) (Ex.refl H9) ?_ (fun ht H10 e910 _ => ?_) (fun ht H10 e910 _ => ?_)
        · rw [← in_nv]
          exact et_test (ev_op (ev_var rfl) (ev_var rfl) (rv_niL (sq_of h9) rfl nv_flat))
        · have hn : ¬ (o &&& w) ∈ addAll f w (f.take i) := by simpa using ht
          refine b_app (H0 := H10) (v := nv (o &&& w)) (Ex.refl H10) (e910 _ _ h9) (ev_var rfl) (ev_var rfl) (by rw [List.length_map]; omega) fun H11 e1011 _ => ?_
          refine ⟨⟨?_, ?_, ?_, npl, ?_⟩, _, _, _, _, rfl⟩
          · exact fun b u hb hu => by
              rw [upd_ne (ne_of_none hu hl)]
              exact (e89.trans (e910.trans e1011)) _ _ (o8 b u hb hu)
          · obtain ⟨s', t', h1, h2⟩ := s8
            exact ⟨s', t', by rw [upd_ne (fun e => nl e.symm)]; exact (e89.trans (e910.trans e1011)) _ _ h1, h2⟩
          · rw [upd_same, tk]
            unfold addN
            rw [if_neg hn, List.map_append]
            rfl
          · rw [upd_ne npl]
            exact (e89.trans (e910.trans e1011)) _ _ hp
        · have hn : (o &&& w) ∈ addAll f w (f.take i) := by simpa using ht
          refine ⟨⟨o8.trans (Off.of (e89.trans e910)), s8.ex (e89.trans e910), ?_, npl, (e89.trans e910) _ _ hp⟩, _, _, _, _, rfl⟩
          rw [tk]
          unfold addN
          rw [if_pos hn]
          exact e910 _ _ h9
      · rintro p σ H8 ⟨⟨o8, s8, h8, npl, hp⟩, vk, vt, vo, vb, rfl⟩
        rw [List.length_map, List.take_length] at h8
        have pa := pf.add hw
        have flen : (addAll f w f).length ≤ 16 := len_le_of_lt 16 _ (nodup_addAll pf.nd) fun y hy => by
          rcases mem_addAll.mp hy with z | ⟨o', _, z⟩
          · have := pf.lt y z; omega
          · rw [z]
            have := Nat.lt_of_le_of_lt (Nat.and_le_right (n := o') (m := w)) hw
            omega
        refine b_when (H0 := H8) (b := !decide (w ∈ addAll f w f)) (Ex.refl H8) ?_ (fun ht H9 e89 _ => ?_) (fun ht H9 e89 _ => ?_)
        · rw [← in_nv]
          exact et_test (ev_op (ev_var rfl) (ev_var rfl) (rv_niL (sq_of h8) rfl nv_flat))
        · have hn : ¬ w ∈ addAll f w f := by simpa using ht
          refine b_app (H0 := H9) (v := nv w) (Ex.refl H9) (e89 _ _ h8) (ev_var rfl) (ev_var rfl) (by rw [List.length_map]; omega) fun H10 e910 _ => ?_
          refine ⟨⟨?_, ?_, _, pa, ?_⟩, _, _, _, _, _, rfl⟩
          · exact fun b u hb hu => by
              rw [upd_ne (ne_of_none hu hl)]
              exact (e89.trans e910) _ _ (o8 b u hb hu)
          · obtain ⟨s', t', h1, h2⟩ := s8
            exact ⟨s', t', by rw [upd_ne (fun e => nl e.symm)]; exact (e89.trans e910) _ _ h1, h2⟩
          · rw [upd_same]
            unfold addN
            rw [if_neg hn, List.map_append]
            rfl
        · have hn : w ∈ addAll f w f := by simpa using ht
          refine ⟨⟨o8.trans (Off.of e89), s8.ex e89, _, pa, ?_⟩, _, _, _, _, _, rfl⟩
          unfold addN
          rw [if_pos hn]
          exact e89 _ _ h8
    · rintro q σ H6 ⟨⟨o6, s6, f, pf, h6⟩, vk, vt, vw, vo, vb, rfl⟩
      -- it is closed: nothing more is found
      refine c_forR (H0 := H6) (Ex.refl H6) (n := 6) (ea_cons ev_c ea_nil) (by decide) (fun i σ H' => Ex H6 H' ∧ ∃ vk vt vw vo vb va vc, σ = [some (.ref st), some (.int (n : Nat)), some (.int (2 ^ n - 1 : Nat)), vk, some (.ref l), vt, vw, vo, vb, va, vc])
        (fun H7 e67 _ => ⟨e67, _, _, _, _, _, _, _, rfl⟩) ?_ ?_
      · rintro i σ H7 _ ⟨e7, vk, vt, vw, vo, vb, va, vc, rfl⟩
        refine b_forNL (H0 := H7) (xs := f.map nv) (Ex.refl H7) (el_list (ev_var rfl) (sq_of (e7 _ _ h6))) (fun p i σ H' => (Ex H6 H' ∧ H' p = some (.lst (f.map nv))) ∧ ∃ vk vt vw vo vb va vc, σ = [some (.ref st), some (.int (n : Nat)), some (.int (2 ^ n - 1 : Nat)), vk, some (.ref l), vt, vw, vo, vb, va, vc])
          (fun p H8 _ e78 _ h8 => ⟨⟨e7.trans e78, h8⟩, _, _, _, _, _, _, _, rfl⟩) (fun p i σ H' _ q => sq_of q.1.2) ?_ (fun p σ H' q => ⟨q.1.1, q.2⟩)
        rintro p i x σ H8 hx ⟨⟨e8, hp⟩, vk, vt, vw, vo, vb, va, vc, rfl⟩
        obtain ⟨a, ha, rfl⟩ := nv_get hx
        have am := List.mem_of_getElem? ha
        refine b_forNL (H0 := H8) (xs := f.map nv) (Ex.refl H8) (el_list (ev_var rfl) (sq_of (e8 _ _ h6))) (fun r i σ H' => (Ex H6 H' ∧ H' p = some (.lst (f.map nv)) ∧ H' r = some (.lst (f.map nv))) ∧ ∃ vk vt vw vo vb vc, σ = [some (.ref st), some (.int (n : Nat)), some (.int (2 ^ n - 1 : Nat)), vk, some (.ref l), vt, vw, vo, vb, some (.int (a : Nat)), vc])
          (fun r H9 _ e89 _ h9 => ⟨⟨e8.trans e89, e89 _ _ hp, h9⟩, _, _, _, _, _, _, rfl⟩) (fun r i σ H' _ q => sq_of q.1.2.2) ?_ ?_
        · rintro r j y σ H9 hy ⟨⟨e9, hp9, hr9⟩, vk, vt, vw, vo, vb, vc, rfl⟩
          obtain ⟨b, hb, rfl⟩ := nv_get hy
          have bm := List.mem_of_getElem? hb
          have cm := pf.cap a am b bm
          have sv := sv_common (H := H9) (a := a) (b := b) (n := n) (by omega)
          rw [Nat.mod_eq_of_lt (pf.lt _ cm)] at sv
          refine c_asg (H0 := H9) (v := .int ((a &&& b : Nat) : Int)) (Ex.refl H9) (ev_call0 (by wtm_at "k49ea") sv) fun H10 e910 _ => ?_
          refine b_not (H0 := H10) (Ex.refl H10) (et_is (et_test (ev_op (ev_var rfl) (ev_var rfl) (rv_niL (sq_of ((e9.trans e910) _ _ h6)) rfl nv_flat))) ?_) fun H11 e1011 _ => ?_
          · rw [in_nv, decide_eq_true cm]
            rfl
          · exact ⟨⟨e9.trans (e910.trans e1011), (e910.trans e1011) _ _ hp9, (e910.trans e1011) _ _ hr9⟩, _, _, _, _, _, _, rfl⟩
        · rintro r σ H9 ⟨⟨e9, hp9, hr9⟩, vk, vt, vw, vo, vb, vc, rfl⟩
          exact ⟨⟨e9, hp9⟩, _, _, _, _, _, _, _, rfl⟩
      · rintro σ H7 ⟨e7, vk, vt, vw, vo, vb, va, vc, rfl⟩
        -- sorted
        have h7 := e7 _ _ h6
        have ei : f.map nv = (f.map fun x => ((x : Nat) : Int)).map V.int := by
          rw [List.map_map]
          rfl
        refine ⟨_, rfl, l, f.map fun x => ((x : Nat) : Int), rfl, ?_, by rw [List.length_map]; have := pf.len; omega, fun ns p hpm hps hp => ?_⟩
        · rw [← ei]
          exact sq_of h7
        · -- the sorted ints are naturals
          obtain ⟨g, hg⟩ : ∃ g : List Nat, ns = g.map fun x => ((x : Nat) : Int) := by
            refine ⟨ns.map Int.toNat, ?_⟩
            rw [List.map_map]
            conv => lhs; rw [← List.map_id ns]
            apply List.map_congr_left
            intro z hz
            obtain ⟨y, _, rfl⟩ := List.mem_map.mp (hpm.mem_iff.mp hz)
            rfl
          subst hg
          have gm : ∀ x, x ∈ g ↔ x ∈ f := fun x => by
            have := hpm.mem_iff (a := ((x : Nat) : Int))
            constructor
            · intro hx
              obtain ⟨y, hy, e⟩ := List.mem_map.mp (this.mp (List.mem_map.mpr ⟨x, hx, rfl⟩))
              have : y = x := by omega
              exact this ▸ hy
            · intro hx
              obtain ⟨y, hy, e⟩ := List.mem_map.mp (this.mpr (List.mem_map.mpr ⟨x, hx, rfl⟩))
              have : y = x := by omega
              exact this ▸ hy
          have gl : g.length = f.length := by
            have := hpm.length_eq
            rwa [List.length_map, List.length_map] at this
          have gs : g.Pairwise fun a b => a ≤ b := by
            have := List.pairwise_map.mp hps
            exact this.imp fun h => by omega
          have gn : g.Nodup := by
            have fi : (f.map fun x => ((x : Nat) : Int)).Nodup := List.pairwise_map.mpr (pf.nd.imp fun h e => h (by omega))
            have := hpm.nodup_iff.mpr fi
            exact (List.pairwise_map.mp this).imp fun h e => h (by rw [e])
          have F := pf.fam gm gl gs gn
          have o7 := o6.trans (Off.of e7)
          have s7 := s6.ex e7
          refine k p _ g.length (fun i => g.getD i 0) F (o7.fresh hp s7) (o7.trans (Off.of (Ex.new hp))) (s7.ex (Ex.new hp)) ?_
          rw [upd_same, List.map_map]
          exact congrArg (fun l => some (HO.lst l)) (nv_fnl g)
end
end K49
namespace K49
open PySem L2 Evl
/-! ### the evaluator -/
local macro_rules | `(tactic| wtm_at "k49sd") => `(tactic| first
  | (with_reducible assumption)
  | decide
  | omega
  | ((with_reducible refine' Lat.ml ?k0 _ _ ?k1 ?k2); (case k0 => (with_reducible assumption)); (case k1 => wtm_at "k49sd"); (case k2 => wtm_at "k49sd"))
  | ((with_reducible refine' Lat.jl ?k0 _ _ ?k1 ?k2); (case k0 => (with_reducible assumption)); (case k1 => wtm_at "k49sd"); (case k2 => wtm_at "k49sd")))
local macro_rules | `(tactic| wtm_at "k49rv") => `(tactic| first
  | (with_reducible exact rv_and)
  | (with_reducible exact rv_or)
  | ((with_reducible refine' rv_shl1 ?k1); (case k1 => wtm_at "k49sd"))
  | (with_reducible exact rv_I0)
  | ((with_reducible refine' rv_T2 ?k1 ?k2 ?k3); (case k1 => (with_reducible assumption)); (case k2 => wtm_at "k49sd"); (case k3 => wtm_at "k49sd"))
  | ((with_reducible refine' rv_T1 ?k1 ?k2); (case k1 => (with_reducible assumption)); (case k2 => wtm_at "k49sd"))
  | ((with_reducible refine' rv_L2 ?k1 ?k2 ?k3); (case k1 => (with_reducible assumption)); (case k2 => wtm_at "k49sd"); (case k3 => wtm_at "k49sd"))
  | ((with_reducible refine' rv_L1 ?k1 ?k2); (case k1 => (with_reducible assumption)); (case k2 => wtm_at "k49sd"))
  | ((with_reducible refine' rv_fT' ?k1 ?k2 ?k3); (case k1 => (with_reducible assumption)); (case k2 => wtm_at "k49sd"); (case k3 => exact rfl))
  | ((with_reducible refine' rv_fL' ?k1 ?k2 ?k3); (case k1 => (with_reducible assumption)); (case k2 => wtm_at "k49sd"); (case k3 => exact rfl))
  | ((with_reducible refine' rv_mod ?k1); (case k1 => wtm_at "k49sd"))
  | ((with_reducible refine' rv_shr ?k1); (case k1 => wtm_at "k49sd"))
  | ((with_reducible refine' rv_I (C := CMul) ?k1); (case k1 => (first | exact Or.inr ⟨by decide, by decide⟩ | exact Or.inl ⟨by decide, by decide⟩ | exact Or.inl ⟨by omega, by omega⟩ | exact Or.inr ⟨by omega, by omega⟩)))
  | ((with_reducible refine' rv_I (C := CDiv) ?k1); (case k1 => (first | exact ⟨by decide, by decide⟩ | exact ⟨by omega, by omega⟩)))
  | ((with_reducible refine' rv_I (C := CPow) ?k1); (case k1 => (first | exact ⟨by omega, by omega, by decide⟩ | exact ⟨by omega, by omega, by omega⟩)))
  | ((with_reducible refine' rv_eq ?k1); (case k1 => rfl))
  | ((with_reducible refine' rv_ne ?k1); (case k1 => rfl))
  | (with_reducible exact rv_isN) | (with_reducible exact rv_notN) | (with_reducible exact rv_isB) | (with_reducible exact rv_notB)
  | (with_reducible assumption))
local macro_rules | `(tactic| wtm_at "k49ev") => `(tactic| first
  | (with_reducible exact ev_c)
  | (exact ev_var rfl)
  | ((with_reducible refine' ev_op ?k1 ?k2 ?k3); (case k1 => wtm_at "k49ev"); (case k2 => wtm_at "k49ev"); (case k3 => wtm_at "k49rv"))
  | ((with_reducible refine' ev_un ?k1 ru_neg); (case k1 => wtm_at "k49ev"))
  | ((with_reducible refine' ev_int1 ?k1); (case k1 => wtm_at "k49ev"))
  | ((with_reducible refine' ev_abs ?k1); (case k1 => wtm_at "k49ev"))
  | ((with_reducible refine' ev_above ?k1 ?k2 ?k3 ?k4); (case k1 => wtm_at "k49ev"); (case k2 => (with_reducible assumption)); (case k3 => exact Tx.cl ‹_›); (case k4 => exact Tx.n_above ‹_›))
  | ((with_reducible refine' ev_joins ?k1 ?k2 ?k3 ?k4); (case k1 => wtm_at "k49ev"); (case k2 => (with_reducible assumption)); (case k3 => exact Tx.cl ‹_›); (case k4 => exact Tx.n_joins ‹_›))
  | ((with_reducible refine' ev_meets ?k1 ?k2 ?k3 ?k4); (case k1 => wtm_at "k49ev"); (case k2 => (with_reducible assumption)); (case k3 => exact Tx.cl ‹_›); (case k4 => exact Tx.n_meets ‹_›))
  | ((with_reducible refine' ev_lenfT ?k1 ?k2); (case k1 => wtm_at "k49ev"); (case k2 => (with_reducible assumption)))
  | ((with_reducible refine' ev_lenfL ?k1 ?k2); (case k1 => wtm_at "k49ev"); (case k2 => (with_reducible assumption)))
  | ((with_reducible refine' ev_lenT ?k1 ?k2); (case k1 => wtm_at "k49ev"); (case k2 => wtm_at "k49sq"))
  | ((with_reducible refine' ev_len ?k1 ?k2); (case k1 => wtm_at "k49ev"); (case k2 => wtm_at "k49sq"))
  | ((with_reducible refine' ev_call0 ?k1 ?k2); (case k1 => wtm_at "k49ea"); (case k2 => wtm_at "k49sp"))
  | ((with_reducible refine' ev_notV ?k1); (case k1 => wtm_at "k49ev"))
  | ((with_reducible refine' ev_andV ?k1 ?k2); (case k1 => wtm_at "k49ev"); (case k2 => (intro _; wtm_at "k49ev")))
  | ((with_reducible refine' ev_orV ?k1 ?k2); (case k1 => wtm_at "k49ev"); (case k2 => (intro _; wtm_at "k49ev"))))
local macro_rules | `(tactic| wtm_at "k49ea") => `(tactic| first
  | (with_reducible exact ea_nil)
  | ((with_reducible refine' ea_cons ?k1 ?k2); (case k1 => wtm_at "k49ev"); (case k2 => wtm_at "k49ea")))
local macro_rules | `(tactic| wtm_at "k49sq") => `(tactic| first
  | (with_reducible assumption)
  | (refine' sq_of ?k1; (case k1 => (with_reducible assumption)))
  | (refine' st_of ?k1; (case k1 => (with_reducible assumption))))
local macro_rules | `(tactic| wtm_at "k49et") => `(tactic| first
  | ((with_reducible refine' et_test ?k1); (case k1 => wtm_at "k49ev"))
  | ((with_reducible refine' et_B ?k1); (case k1 => wtm_at "k49ev"))
  | ((with_reducible refine' et_and ?k1 ?k2); (case k1 => wtm_at "k49et"); (case k2 => (intro _; wtm_at "k49et")))
  | ((with_reducible refine' et_or ?k1 ?k2); (case k1 => wtm_at "k49et"); (case k2 => (intro _; wtm_at "k49et")))
  | ((with_reducible refine' et_not ?k1); (case k1 => wtm_at "k49et")))

section
variable {K : PySem.W.Frag} {σ : L2.St} {H H' H0 : Hp} {ta tb te to tx : TE} {t u : TT} {x y z v : V} {D : Ends} {tz : TS}
theorem c_asgR {i : Nat} {os : List HO} (e : Ex H0 H) (h : EvR te σ H0 os) (k : ∀ p H1 rs, H p = none → Ex H H1 → Ex H0 H1 → H1 p = some (.lst rs) → RefsO H1 p rs os → tz D (σ.set i (some (.ref p))) H1) : tSeq (tAsg te (gName i)) tz D σ H :=
  h H e _ fun p H1 rs hp e1 h1 hr => k p H1 rs hp e1 (e.trans e1) h1 hr
theorem ev_index {l : Addr} {m j : Nat} {s : Nat → Nat} (ho : Ev to σ H (.ref l)) (hl : H l = some (.lst (fnl m fun x => .int (s x : Nat)))) (ha : Ev ta σ H (.int (s j : Nat))) (hj : j < m) (inj : ∀ a b, a < m → b < m → s a = s b → a = b) :
    Ev (tBM K "list" (rIndex K) to (tCons ta tNil)) σ H (.int (j : Nat)) := fun H1 e Q q => ho H1 e _ fun H2 e2 =>
  ⟨Or.inl ⟨rfl, _, sq_of ((e.trans e2) _ _ hl)⟩, ha H2 (e.trans e2) _ fun H3 e3 => ⟨l, _, .int (s j : Nat), j, .int (s j : Nat), rfl, rfl, sq_of (((e.trans e2).trans e3) _ _ hl), rfl, fnl_flat, fnl_get (f := fun x => .int (s x : Nat)) hj, by simp [eqV], fun i z hi hz => by
    obtain ⟨him, rfl⟩ := fnl_of hz
    have ne : s i ≠ s j := fun e => by
      have := inj i j him hj e
      omega
    show eqV (.int (s i : Nat)) (.int (s j : Nat)) = false
    simp only [eqV]
    rw [beq_eq_false_iff_ne]
    omega, q H3 (e2.trans e3)⟩⟩
/-! ### new lists in a new list, each its own -/
def EvRD (te : TE) (σ : L2.St) (H : Hp) (os : List HO) : Prop := ∀ H1, Ex H H1 → ∀ Q : VK, (∀ p H2 rs, H1 p = none → Ex H1 H2 → H2 p = some (.lst rs) → RefsO H2 p rs os → rs.Nodup → (∀ t, V.ref t ∈ rs → H1 t = none) → Q (.ref p) H2) → te σ H1 Q
def Cd (H : Hp) (o : Nat → HO) (Dl : Addr) (i : Nat) (H' : Hp) : Prop := H Dl = none ∧ Ex H H' ∧ ∃ rs, H' Dl = some (.lst rs) ∧ RefsO H' Dl rs ((List.range i).map o) ∧ rs.Nodup ∧ ∀ t, V.ref t ∈ rs → H t = none
theorem cd_turn {o : Nat → HO} {Dl : Addr} {i : Nat} {σ2 : L2.St} (p : Cd H o Dl i H') (hi : i < 50000) (ht : EvT t σ2 H true) (he : EvN te σ2 H (o i)) :
    t σ2 H' fun b H3 => if b = true then te σ2 H3 fun y H4 => ∃ acc, H4 Dl = some (.lst acc) ∧ acc.length < sizeLine ∧ Cd H o Dl (i + 1) (upd H4 Dl (.lst (acc ++ [y]))) else Cd H o Dl (i + 1) H3 := by
  obtain ⟨p1, p2, rs, p3, p4, p5, p6⟩ := p
  refine ht H' p2 _ fun H3 e3 => ?_
  show te σ2 H3 fun y H4 => ∃ acc, H4 Dl = some (.lst acc) ∧ acc.length < sizeLine ∧ Cd H o Dl (i + 1) (upd H4 Dl (.lst (acc ++ [y])))
  refine he H3 (p2.trans e3) _ fun q H4 hq e4 ho => ?_
  have nq : q ≠ Dl := fun e => by rw [e, e3 _ _ p3] at hq; cases hq
  refine ⟨rs, e4 Dl _ (e3 Dl _ p3), sz_lt (by rw [p4.len, List.length_map, List.length_range]; omega), p1, Ex.mut ((p2.trans e3).trans e4) p1, _, upd_same, ?_, ?_, ?_⟩
  · rw [List.range_succ, List.map_append]
    have k : RefsO (upd H4 Dl (.lst (rs ++ [.ref q]))) Dl rs ((List.range i).map o) := (p4.exs (e3.trans e4)).ex fun b u hb hu => by rw [upd_ne hb]; exact hu
    exact k.snoc nq (by rw [upd_ne nq]; exact ho)
  · refine List.nodup_append.mpr ⟨p5, List.nodup_cons.mpr ⟨List.not_mem_nil, List.nodup_nil⟩, fun a ha b hb e => ?_⟩
    rw [List.mem_singleton] at hb
    subst hb; subst e
    obtain ⟨j, hj⟩ := List.getElem?_of_mem ha
    have hj2 : j < ((List.range i).map o).length := by
      have := (List.getElem?_eq_some_iff.mp hj).1
      rw [← p4.len]; exact this
    obtain ⟨t, h1, _, h3⟩ := p4.at_ j _ (List.getElem?_eq_getElem hj2)
    rw [hj] at h1
    cases h1
    rw [e3 _ _ h3] at hq
    cases hq
  · intro t ht
    rcases List.mem_append.mp ht with h | h
    · exact p6 t h
    · rw [List.mem_singleton] at h
      cases h
      exact fresh_back (p2.trans e3) hq
theorem er_lcRD {ta : TA} {n j : Nat} {vs : List Nat} (o : Nat → HO) (h : EvA ta σ H [.int (n : Nat)]) (hn : n ≤ 40000) (hw : ∀ x, wipe ((wipe σ vs).set j (some x)) vs = wipe σ vs)
    (ht : ∀ (i : Nat) H1, Ex H H1 → i < n → EvT t ((wipe σ vs).set j (some (.int (i : Int)))) H1 true) (he : ∀ (i : Nat) H1, Ex H H1 → i < n → EvN te ((wipe σ vs).set j (some (.int (i : Int)))) H1 (o i)) :
    EvRD (tLc (iRng1 ta) (gName j) t te vs) σ H ((List.range n).map o) := fun H0 e Q q => h H0 e _ fun H1 e1 => ⟨(n : Int), rfl, by omega, by omega, fun Dl hD =>
  lc_range (lo := 0) (n := (n : Int).toNat) (Cd H1 o Dl) ⟨hD, Ex.new hD, _, upd_same, .nil, List.nodup_nil, fun t ht => absurd ht List.not_mem_nil⟩ (fun i H' hi p => by
    have e0 : (0 : Int) + (i : Int) = (i : Int) := Int.zero_add _
    show wipe ((wipe σ vs).set j (some (.int ((0 : Int) + (i : Int))))) vs = wipe σ vs ∧ t ((wipe σ vs).set j (some (.int ((0 : Int) + (i : Int))))) H' fun b H3 => if b = true then te ((wipe σ vs).set j (some (.int ((0 : Int) + (i : Int))))) H3 fun y H4 => ∃ acc, H4 Dl = some (.lst acc) ∧ acc.length < sizeLine ∧ Cd H1 o Dl (i + 1) (upd H4 Dl (.lst (acc ++ [y]))) else Cd H1 o Dl (i + 1) H3
    rw [e0]
    exact ⟨hw _, cd_turn p (by omega) (ht i H1 (e.trans e1) (by omega)) (he i H1 (e.trans e1) (by omega))⟩)
    (fun H' p => by
      obtain ⟨p1, p2, rs, p3, p4, p5, p6⟩ := p
      rw [Int.toNat_natCast] at p4
      exact q Dl H' rs (fresh_back e1 p1) (e1.trans p2) p3 p4 p5 fun t ht => fresh_back e1 (p6 t ht))⟩
theorem er_lcLD {a : Addr} {xs : List V} {tl : TE} {j : Nat} {vs : List Nat} (o : Nat → HO) (h : Ev tl σ H (.ref a)) (hx : SqL K H a xs) (hz : xs.length ≤ 40000) (hw : ∀ x, wipe ((wipe σ vs).set j (some x)) vs = wipe σ vs)
    (ht : ∀ (i : Nat) (x : V) H1, Ex H H1 → xs[i]? = some x → EvT t ((wipe σ vs).set j (some x)) H1 true) (he : ∀ (i : Nat) (x : V) H1, Ex H H1 → xs[i]? = some x → EvN te ((wipe σ vs).set j (some x)) H1 (o i)) :
    EvRD (tLc (iList K tl) (gName j) t te vs) σ H ((List.range xs.length).map o) := fun H0 e Q q => h H0 e _ fun H1 e1 => ⟨a, rfl, ⟨xs, ex_l (e.trans e1) hx⟩, fun Dl hD =>
  lc_list (xs := xs) (Cd H1 o Dl) ⟨hD, Ex.new hD, _, upd_same, .nil, List.nodup_nil, fun t ht => absurd ht List.not_mem_nil⟩ (fun i H' _ p => ex_l ((e.trans e1).trans p.2.1) hx) (fun i x H' hi p => ⟨hw x, cd_turn p (by have := (List.getElem?_eq_some_iff.mp hi).1; omega) (ht i x H1 (e.trans e1) hi) (he i x H1 (e.trans e1) hi)⟩)
    (fun H' p => by
      obtain ⟨p1, p2, rs, p3, p4, p5, p6⟩ := p
      exact q Dl H' rs (fresh_back e1 p1) (e1.trans p2) p3 p4 p5 fun t ht => fresh_back e1 (p6 t ht))⟩
theorem c_asgRD {i : Nat} {os : List HO} (e : Ex H0 H) (h : EvRD te σ H0 os) (k : ∀ p H1 rs, H p = none → Ex H H1 → Ex H0 H1 → H1 p = some (.lst rs) → RefsO H1 p rs os → rs.Nodup → (∀ t, V.ref t ∈ rs → H t = none) → tz D (σ.set i (some (.ref p))) H1) : tSeq (tAsg te (gName i)) tz D σ H :=
  h H e _ fun p H1 rs hp e1 h1 hr hn hf => k p H1 rs hp e1 (e.trans e1) h1 hr hn hf
end
/-! ### a square of numbers, each row its own -/
structure Sq (H : Hp) (p : Addr) (m : Nat) (T : Nat → Nat → Nat) (r : Nat → Addr) : Prop where
  t : TabL H p m T r
  np : ∀ x, x < m → r x ≠ p
  inj : ∀ x y, x < m → y < m → r x = r y → x = y
theorem Sq.ex {H H' : Hp} {p m T r} (h : Sq H p m T r) (e : Ex H H') : Sq H' p m T r := ⟨h.t.ex e, h.np, h.inj⟩
def put2 (T : Nat → Nat → Nat) (x y v : Nat) : Nat → Nat → Nat := fun a b => if a = x ∧ b = y then v else T a b
theorem Sq.put {H : Hp} {p : Addr} {m : Nat} {T : Nat → Nat → Nat} {r : Nat → Addr} (h : Sq H p m T r) {x y v : Nat} (hx : x < m) (hy : y < m) :
    Sq (upd H (r x) (.lst ((fnl m fun b => V.int (T x b : Nat)).set y (.int (v : Nat))))) p m (put2 T x y v) r := by
  refine ⟨⟨?_, fun a ha => ?_⟩, h.np, h.inj⟩
  · rw [upd_ne (fun e => h.np x hx e.symm)]
    exact h.t.top
  · by_cases e : a = x
    · subst e
      rw [upd_same, fnl_set hy]
      refine congrArg (fun l => some (HO.lst l)) (fnl_congr fun b hb => ?_)
      unfold put2
      by_cases eb : b = y
      · rw [if_pos eb, if_pos ⟨rfl, eb⟩]
      · rw [if_neg eb, if_neg fun q => eb q.2]
    · rw [upd_ne fun q => e (h.inj a x ha hx q), h.t.row a ha]
      refine congrArg (fun l => some (HO.lst l)) (fnl_congr fun b hb => ?_)
      unfold put2
      rw [if_neg fun q => e q.1]
section
variable {P : Program} {w : World} {K : PySem.W.Frag} {mg : Str → Option Value} {base : Heap}
def spTables : Sp := fun vs H Q _ => ∃ (fa : Addr) (m : Nat) (s : Nat → Nat), vs = [.ref fa] ∧ Fam m s ∧ H fa = some (.lst (fnl m fun x => .int (s x : Nat))) ∧
  ∀ (p : Addr) (d : TbD) H', d.m = m → d.J = jnF m s → d.M = mtF m s → Ex H H' → TbAt H' d → (H d.aJ = none ∧ H d.aM = none ∧ ∀ x, x < m → H (d.rJ x) = none ∧ H (d.rM x) = none) → H' p = some (.tup [.ref d.aJ, .ref d.aM]) → Q (.ref p) H'
theorem sc__law_tables : FnScope ["_law_family_here", "_law_size", "_law_meets", "_law_joins", "_law_x", "_law_y", "_law_best", "_law_z", "_law_a", "_law_b"] ["_law_family_here"] (defScope s__law_tables) := ⟨rfl, rfl, rfl, by decide +kernel, rfl, by decide +kernel, by decide +kernel⟩
theorem ok__law_tables (T : Tx K mg) : FnOk P w K mg base CX0 2 T.a__law_tables T.d__law_tables ["_law_family_here"] spTables := by
  refine T.p__law_tables.F.ok sc__law_tables (fun vs H Q E h => ?_) (fun cdv A outer s H vs Q E hr h => ?_)
  · obtain ⟨fa, m, s, rfl, _⟩ := h
    rfl
  · obtain ⟨fa, m, s, rfl, F, hf, k⟩ := h
    have sm := F.small
    have L := F.lat
    refine ⟨_, (pss_cons (ps_set (i := 1) sc__law_tables.nd rfl (Or.inr rfl) (pe_callB (glen (K := K) rfl) (by rfl) T.b_len (by decide +kernel) (pa_cons (pv 0) pa_nil)))
  (pss_cons (ps_setLc (i := 2) (own := [("_law_a", 8)]) (g := (gName 8)) (by rfl) sc__law_tables.nd rfl rfl (sw_true rfl rfl rfl (by kernel_rfl)) (gpiL (K := K) rfl (pv 0)) (blkOk_by (by kernel_rfl)) (fun _ _ _ _ _ => (pg_name (i := 8) sc__law_tables.nd rfl (Or.inr rfl))) (fun _ _ _ _ _ => pts_nil) (fun _ _ _ _ _ => (pe_lc (own := [("_law_b", 9)]) (g := (gName 9)) (by rfl) sc__law_tables.nd (gpiL (K := K) rfl (pv 0)) (blkOk_by (by kernel_rfl)) (fun _ _ _ _ _ => (pg_name (i := 9) sc__law_tables.nd rfl (Or.inl rfl))) (fun _ _ _ _ _ => pts_nil) (fun _ _ _ _ _ => (gbm (K := K) rfl PySem.F.plainAttrs_list PySem.F.slot_list_index PySem.F.type_list_index (gidx (K := K) rfl) (pv 0) (pa_cons (pe_call (ok__law_common T) (hr.mono (by decide)) rfl T.p__law_common.g T.p__law_common.k T.p__law_common.b .nil pass0 (pa_cons (pv 8) (pa_cons (pv 9) (pa_cons pe_int pa_nil)))) pa_nil))))))
  (pss_cons (ps_setLc (i := 3) (own := [("_law_x", 4)]) (g := (gName 4)) (by rfl) sc__law_tables.nd rfl rfl (sw_true rfl rfl rfl (by kernel_rfl)) (pi_range1 rfl T.b_range (pa_cons (pv 1) pa_nil)) (blkOk_by (by kernel_rfl)) (fun _ _ _ _ _ => (pg_name (i := 4) sc__law_tables.nd rfl (Or.inl rfl))) (fun _ _ _ _ _ => pts_nil) (fun _ _ _ _ _ => (pe_lc (own := [("_law_y", 5)]) (g := (gName 5)) (by rfl) sc__law_tables.nd (pi_range1 rfl T.b_range (pa_cons (pv 1) pa_nil)) (blkOk_by (by kernel_rfl)) (fun _ _ _ _ _ => (pg_name (i := 5) sc__law_tables.nd rfl (Or.inl rfl))) (fun _ _ _ _ _ => pts_nil) (fun _ _ _ _ _ => pe_int))))
  (pss_cons (ps_for PassesOwn.never rfl (pi_range1 rfl T.b_range (pa_cons (pv 1) pa_nil)) (pg_name (i := 4) sc__law_tables.nd rfl (Or.inl rfl))
   (pss_one (ps_for PassesOwn.never rfl (pi_range1 rfl T.b_range (pa_cons (pv 1) pa_nil)) (pg_name (i := 5) sc__law_tables.nd rfl (Or.inl rfl))
   (pss_cons (ps_set (i := 6) sc__law_tables.nd rfl (Or.inl rfl) pe_non)
  (pss_cons (ps_for PassesOwn.never rfl (pi_range1 rfl T.b_range (pa_cons (pv 1) pa_nil)) (pg_name (i := 7) sc__law_tables.nd rfl (Or.inl rfl))
   (pss_one (ps_if (PW.pt (pw_and (pt_cmpR op_eq (pe_ix (gixL (K := K) rfl) (pe_ix (gixL (K := K) rfl) (pv 2) (pv 4) (fun _ _ => rfl)) (pv 7) (fun _ _ => rfl)) (pv 4) (nomark _)) (pw_and (pt_cmpR op_eq (pe_ix (gixL (K := K) rfl) (pe_ix (gixL (K := K) rfl) (pv 2) (pv 5) (fun _ _ => rfl)) (pv 7) (fun _ _ => rfl)) (pv 5) (nomark _)) (pw_and1 (PW.pt (pw_or (pt_cmpR op_isN1 (pv 6) pe_non (nomark _)) (pw_or1 (pt_cmpR op_eq (pe_ix (gixL (K := K) rfl) (pe_ix (gixL (K := K) rfl) (pv 2) (pv 7) (fun _ _ => rfl)) (pv 6) (fun _ _ => rfl)) (pv 7) (nomark _))))))))) (pss_one (ps_set (i := 6) sc__law_tables.nd rfl (Or.inl rfl) (pv 7))) pss_nil)))
  (pss_one (ps_asg (pv 6) (pg_sub (pe_ix (gixL (K := K) rfl) (pv 3) (pv 4) (fun _ _ => rfl)) (pv 5) set_list))))))))
  (pss_one (ps_ret (pe_tup (pa_cons (pv 3) (pa_cons (pv 2) pa_nil))))))))), ?_⟩
    refine c_asg (H := H) (H0 := H) (v := .int (m : Nat)) (Ex.refl H) (by wtm_at "k49ev") fun H1 e1 _ => ?_
    -- meets
    refine c_asgRD (H := H1) (H0 := H1) (os := (List.range (fnl m fun x => V.int (s x : Nat)).length).map fun x => .lst (fnl m fun y => .int (mtF m s x y : Nat))) (Ex.refl H1) ?_ fun aM H2 rsM haM e12 _ h2 hR _ hfM => ?_
    · refine er_lcLD _ (ev_var rfl) (sq_of (e1 _ _ hf)) (by rw [fnl_len]; omega) (fun x => rfl) (fun i x H2 e12 hx => et_yes) fun i x H2 e12 hx => ?_
      obtain ⟨hi, rfl⟩ := fnl_of hx
      have hf2 := (e1.trans e12) _ _ hf
      have el := el_lcL (K := K) (te := tBM K "list" (rIndex K) (tVar 0) (tCons (tCall spCommon [] E0 (tCons (tVar 8) (tCons (tVar 9) (tCons (tC (.int 5)) tNil)))) tNil)) (t := tYes) (vs := [9]) (j := 9) (tl := tVar 0) (σ := (wipe (([some (.ref fa), some (.int (m : Nat)), none, none, none, none, none, none, none, none] : L2.St)) [8]).set 8 (some (.int (s i : Nat)))) (fun _ => true) (fun y => .int (mtF m s i y : Nat)) (ev_var rfl) (sq_of hf2) (by rw [fnl_len]; omega) (fun x => rfl) (fun j y H3 e23 hy => et_yes) fun j y H3 e23 hy _ => by
        obtain ⟨hj, rfl⟩ := fnl_of hy
        have q := F.mt hi hj
        refine ev_index (ev_var rfl) (e23 _ _ hf2) (ev_call0 (vs := [.int (s i : Nat), .int (s j : Nat), .int (5 : Nat)]) (ea_cons (ev_var rfl) (ea_cons (ev_var rfl) (ea_cons ev_c ea_nil))) ?_) q.1 fun a b ha hb e => F.inj ha hb e
        have lt := F.lt _ q.1
        have sv := sv_common (H := H3) (a := s i) (b := s j) (n := 5) (by decide)
        rw [q.2] at lt ⊢
        rw [Nat.mod_eq_of_lt (Nat.lt_trans lt (by decide))] at sv
        exact sv
      rw [fnl_len, given_all] at el
      exact el
    rw [fnl_len] at hR
    obtain ⟨rM, rfl, hrM⟩ := hR.fn
    have tM : TabL H2 aM m (mtF m s) rM := ⟨h2, fun x hx => (hrM x hx).2⟩
    -- joins
    refine c_asgRD (H := H2) (H0 := H2) (os := (List.range m).map fun _ => .lst (fnl m fun _ => V.int 0)) (Ex.refl H2) ?_ fun aJ H3 rsJ haJ e23 _ h3 hR hnd hfr => ?_
    · refine er_lcRD _ (by wtm_at "k49ea") (by omega) (fun x => rfl) (fun i H3 e23 hi => et_yes) fun i H3 e23 hi => ?_
      rw [← given_all]
      exact el_lcR _ _ (by wtm_at "k49ea") (by omega) (fun x => rfl) (fun i H4 e34 hi => et_yes) fun i H4 e34 hi _ => ev_c
    obtain ⟨rJ, rfl, hrJ⟩ := hR.fn
    have sq0 : Sq H3 aJ m (fun _ _ => 0) rJ := by
      refine ⟨⟨h3, fun x hx => (hrJ x hx).2⟩, fun x hx => (hrJ x hx).1, fun x y hx hy e => ?_⟩
      have g1 := fnl_get (f := fun x => V.ref (rJ x)) hx
      have g2 := fnl_get (f := fun x => V.ref (rJ x)) hy
      exact (List.getElem?_inj (by rw [fnl_len]; exact hx) hnd).mp (g1.trans ((congrArg some (congrArg V.ref e)).trans g2.symm))
    have rfr : ∀ x, x < m → H2 (rJ x) = none := fun x hx => hfr _ (List.mem_of_getElem? (fnl_get (f := fun x => V.ref (rJ x)) hx))
    -- the joins
    refine c_forR (H := H3) (H0 := H3) (n := m) (Ex.refl H3) (by wtm_at "k49ea") (by omega) (fun i σ H' => (Ex H2 H' ∧ ∃ T, Sq H' aJ m T rJ ∧ ∀ a b, a < i → b < m → T a b = jnF m s a b) ∧ ∃ vx vy vb vz, σ = [some (.ref fa), some (.int (m : Nat)), some (.ref aM), some (.ref aJ), vx, vy, vb, vz, none, none])
      (fun H4 e34 _ => ⟨⟨e23.trans e34, _, sq0.ex e34, fun a b ha => absurd ha (Nat.not_lt_zero _)⟩, _, _, _, _, rfl⟩) ?_ ?_
    · rintro x σ H4 hx ⟨⟨e4, T0, hT0, g0⟩, vx, vy, vb, vz, rfl⟩
      refine b_forR (H0 := H4) (n := m) (Ex.refl H4) (by wtm_at "k49ea") (by omega) (fun i σ H' => (Ex H2 H' ∧ ∃ T, Sq H' aJ m T rJ ∧ ∀ a b, b < m → (a < x ∨ a = x ∧ b < i) → T a b = jnF m s a b) ∧ ∃ vy vb vz, σ = [some (.ref fa), some (.int (m : Nat)), some (.ref aM), some (.ref aJ), some (.int (x : Nat)), vy, vb, vz, none, none])
        (fun H5 e45 _ => ⟨⟨e4.trans e45, _, hT0.ex e45, fun a b hb h => by
          rcases h with h | h
          · exact g0 a b h hb
          · exact absurd h.2 (Nat.not_lt_zero _)⟩, _, _, _, rfl⟩) ?_ ?_
      · rintro y σ H5 hy ⟨⟨e5, T1, hT1, g1⟩, vy, vb, vz, rfl⟩
        refine c_asg (H0 := H5) (v := .non) (Ex.refl H5) ev_c fun H6 e56 _ => ?_
        have jn := F.jn hx hy
        have j1 := L.j1 x y hx hy
        have j2 := L.j2 x y hx hy
        have t6 := tM.ex (e5.trans e56)
        refine c_forR (H0 := H6) (n := m) (Ex.refl H6) (by wtm_at "k49ea") (by omega) (fun i σ H' => Ex H6 H' ∧ ∃ vz, σ = [some (.ref fa), some (.int (m : Nat)), some (.ref aM), some (.ref aJ), some (.int (x : Nat)), some (.int (y : Nat)), some (if jnF m s x y < i then V.int (jnF m s x y : Nat) else .non), vz, none, none])
          (fun H7 e67 _ => ⟨e67, _, rfl⟩) ?_ ?_
        · rintro z σ H7 hz ⟨e7, vz, rfl⟩
          have t7 := t6.ex e7
          have c1 : ∀ {σ : L2.St}, σ[2]? = some (some (.ref aM)) → σ[4]? = some (some (.int (x : Nat))) → σ[7]? = some (some (.int (z : Nat))) → EvT (tTest (tOp rEq (tOp (rIxL K) (tOp (rIxL K) (tVar 2) (tVar 4)) (tVar 7)) (tVar 4))) σ H7 (mtF m s x z == x) := fun a b c => by
            rw [← dec_nat]
            exact et_test (ev_op (ev_op (ev_op (ev_var a) (ev_var b) (rv_L1 t7 hx)) (ev_var c) (rv_L2 t7 hx hz)) (ev_var b) (rv_eq rfl))
          have c2 : ∀ {σ : L2.St}, σ[2]? = some (some (.ref aM)) → σ[5]? = some (some (.int (y : Nat))) → σ[7]? = some (some (.int (z : Nat))) → EvT (tTest (tOp rEq (tOp (rIxL K) (tOp (rIxL K) (tVar 2) (tVar 5)) (tVar 7)) (tVar 5))) σ H7 (mtF m s y z == y) := fun a b c => by
            rw [← dec_nat]
            exact et_test (ev_op (ev_op (ev_op (ev_var a) (ev_var b) (rv_L1 t7 hy)) (ev_var c) (rv_L2 t7 hy hz)) (ev_var b) (rv_eq rfl))
          by_cases hj : jnF m s x y < z
          · rw [if_pos hj]
            refine b_not (H0 := H7) (Ex.refl H7) (et_is (et_and (c1 rfl rfl rfl) fun _ => et_and (c2 rfl rfl rfl) fun _ => et_or0 (et_is (et_test (ev_op (ev_var rfl) ev_c rv_isN)) rfl) (et_test (ev_op (ev_op (ev_op (ev_var rfl) (ev_var rfl) (rv_L1 t7 hz)) (ev_var rfl) (rv_L2 t7 hz jn.1)) (ev_var rfl) (rv_eq rfl)))) ?_) fun H8 e78 _ => ⟨e7.trans e78, some (.int (z : Nat)), ?_⟩
            · rw [dec_nat, Bool.eq_false_iff]
              intro h
              rw [Bool.and_eq_true, Bool.and_eq_true, beq_iff_eq, beq_iff_eq, beq_iff_eq] at h
              have := L.j3 x y z hx hy hz h.1 h.2.1
              have c := L.mc _ _ jn.1 hz
              rw [this, h.2.2] at c
              omega
            · rw [if_pos (Nat.lt_succ_of_lt hj)]
              rfl
          · rw [if_neg hj]
            refine b_when (H0 := H7) (b := (mtF m s x z == x) && (mtF m s y z == y)) (Ex.refl H7) (et_and (c1 rfl rfl rfl) fun _ => et_is (et_and (c2 rfl rfl rfl) fun _ => et_or1 (et_is (et_test (ev_op (ev_var rfl) ev_c rv_isN)) rfl)) (Bool.and_true _)) (fun ht H8 e78 _ => ?_) (fun ht H8 e78 _ => ?_)
            · rw [Bool.and_eq_true, beq_iff_eq, beq_iff_eq] at ht
              have e : jnF m s x y = z := by
                have := F.first hx hy hz ht.1 ht.2
                omega
              refine b_asg (H0 := H8) (Ex.refl H8) (ev_var (v := .int (z : Nat)) rfl) fun H9 e89 _ => ⟨e7.trans (e78.trans e89), some (.int (z : Nat)), ?_⟩
              rw [if_pos (show jnF m s x y < z + 1 by omega), e]
              rfl
            · have ne : jnF m s x y ≠ z := fun e => by
                subst e
                have a1 : mtF m s x (jnF m s x y) = x := j1
                have a2 : mtF m s y (jnF m s x y) = y := j2
                rw [a1, a2, beq_self_eq_true, beq_self_eq_true] at ht
                cases ht
              refine ⟨e7.trans e78, some (.int (z : Nat)), ?_⟩
              rw [if_neg (show ¬ jnF m s x y < z + 1 by omega)]
              rfl
        · rintro σ H7 ⟨e7, vz, rfl⟩
          rw [if_pos jn.1]
          have h7 := hT1.ex (e56.trans e7)
          refine b_setL (l := rJ x) (H0 := H7) (j := y) (v := .int (jnF m s x y : Nat)) (Ex.refl H7) (h7.t.row x hx) (ev_var rfl) (ev_op (ev_var rfl) (ev_var rfl) (rv_L1 h7.t hx)) (ev_var rfl) (by rw [fnl_len]; exact hy) fun H8 e78 _ => ?_
          refine ⟨⟨((e5.trans (e56.trans e7)).trans e78).mut (rfr x hx), _, (h7.ex e78).put hx hy, fun a b hb h => ?_⟩, _, _, _, rfl⟩
          unfold put2
          by_cases q : a = x ∧ b = y
          · rw [if_pos q, q.1, q.2]
          · rw [if_neg q]
            refine g1 a b hb ?_
            rcases h with h | h
            · exact Or.inl h
            · refine Or.inr ⟨h.1, ?_⟩
              have : b ≠ y := fun e => q ⟨h.1, e⟩
              omega
      · rintro σ H5 ⟨⟨e5, T1, hT1, g1⟩, vy, vb, vz, rfl⟩
        exact ⟨⟨e5, T1, hT1, fun a b ha hb => g1 a b hb (by rcases Nat.lt_or_ge a x with h | h; exact Or.inl h; exact Or.inr ⟨by omega, hb⟩)⟩, _, _, _, _, rfl⟩
    · rintro σ H4 ⟨⟨e4, T0, hT0, g0⟩, vx, vy, vb, vz, rfl⟩
      refine b_retU (H0 := H4) (Ex.refl H4) (eu_tup (vs := [.ref aJ, .ref aM]) (ea_cons (ev_var rfl) (ea_cons (ev_var rfl) ea_nil)) (by show 2 ≤ 100000; decide)) fun p H5 hp e45 _ h5 => ?_
      refine k p ⟨aJ, aM, m, jnF m s, mtF m s, rJ, rM⟩ H5 rfl rfl rfl ((e1.trans e12).trans (e4.trans e45)) ⟨?_, tM.ex (e4.trans e45), L⟩ ⟨fresh_back (e1.trans e12) haJ, fresh_back e1 haM, fun x hx => ⟨fresh_back (e1.trans e12) (rfr x hx), fresh_back e1 (hfM _ (List.mem_of_getElem? (fnl_get (f := fun x => V.ref (rM x)) hx)))⟩⟩ h5
      refine (TabL.ex ⟨hT0.t.top, fun x hx => ?_⟩ e45)
      rw [hT0.t.row x hx]
      exact congrArg (fun l => some (HO.lst l)) (fnl_congr fun y hy => by rw [g0 x y hx hy])
/-! ### the lattice of the family -/
def spLattice (C : Addr) : Sp := fun vs H Q _ => ∃ (fa : Addr) (f : Nat → V) (d : TbD), vs = [.ref fa, .ref d.aM] ∧ H fa = some (.lst (fnl d.m f)) ∧ TbAt H d ∧
  ∀ (l : LtD) H', l.m = d.m → l.J = d.J → l.M = d.M → Ex H H' → LatAt C H' l → Q (.ref l.p) H'
theorem sc__law_lattice : FnScope ["_law_family_here", "_law_meets", "_law_pairs", "_law_x", "_law_y"] ["_law_family_here", "_law_meets"] (defScope s__law_lattice) := ⟨rfl, rfl, rfl, by decide +kernel, rfl, by decide +kernel, by decide +kernel⟩
theorem ok__law_lattice (T : Tx K mg) : FnOk P w K mg base CX0 5 T.a__law_lattice T.d__law_lattice ["_law_family_here", "_law_meets"] (spLattice T.C) := by
  refine T.p__law_lattice.F.ok sc__law_lattice (fun vs H Q E h => ?_) (fun cdv A outer s H vs Q E hr h => ?_)
  · obtain ⟨fa, f, d, rfl, _⟩ := h
    rfl
  · obtain ⟨fa, f, d, rfl, hf, hT, k⟩ := h
    have L := hT.L
    have sm := L.small
    refine ⟨_, (pss_cons (ps_set (i := 2) sc__law_lattice.nd rfl (Or.inl rfl) (pe_lst pa_nil))
  (pss_cons (ps_for PassesOwn.never rfl (pi_range1 rfl T.b_range (pa_cons (pe_callB (glen (K := K) rfl) (by rfl) T.b_len (by decide +kernel) (pa_cons (pv 0) pa_nil)) pa_nil)) (pg_name (i := 3) sc__law_lattice.nd rfl (Or.inl rfl))
   (pss_one (ps_for PassesOwn.never rfl (pi_range1 rfl T.b_range (pa_cons (pe_callB (glen (K := K) rfl) (by rfl) T.b_len (by decide +kernel) (pa_cons (pv 0) pa_nil)) pa_nil)) (pg_name (i := 4) sc__law_lattice.nd rfl (Or.inl rfl))
   (pss_one (ps_if (PW.pt (pw_and (pt_cmpR op_ne (pv 3) (pv 4) (nomark _)) (pw_and1 (pt_cmpR op_eq (pe_ix (gixL (K := K) rfl) (pe_ix (gixL (K := K) rfl) (pv 1) (pv 3) (fun _ _ => rfl)) (pv 4) (fun _ _ => rfl)) (pv 3) (nomark _))))) (pss_one (ps_expr (gbm (K := K) rfl PySem.F.plainAttrs_list PySem.F.slot_list_append PySem.F.type_list_append mt_append (pv 2) (pa_cons (pe_tup (pa_cons (pv 3) (pa_cons (pv 4) pa_nil))) pa_nil)))) pss_nil)))))
  (pss_one (ps_ret (pe_make T.mkC (ok_m_init T) (hr.mono (by decide)) rfl T.gC T.p_m_init.b .nil pass0 (pa_cons (pe_callB (glen (K := K) rfl) (by rfl) T.b_len (by decide +kernel) (pa_cons (pv 0) pa_nil)) (pa_cons (pv 2) pa_nil))))))), ?_⟩
    refine c_asgL (H := H) (H0 := H) (xs := []) (Ex.refl H) (el_lst ea_nil (by show 0 ≤ 100000; decide)) fun l H1 hl e1 _ h1 => ?_
    have nf : fa ≠ l := ne_of_none hf hl
    refine c_forR (H := H1) (H0 := H1) (n := d.m) (Ex.refl H1) (by have hf1 := e1 _ _ hf; wtm_at "k49ea") (by omega) (fun i σ H' => (Ex H H' ∧ ∃ ps rs, H' l = some (.lst rs) ∧ RefsO H' l rs (ps.map prO) ∧ ps.length ≤ i * 16 ∧ ∀ a b, (a, b) ∈ ps ↔ a < d.m ∧ b < d.m ∧ lt d.M a b = true ∧ a < i) ∧ ∃ vx vy, σ = [some (.ref fa), some (.ref d.aM), some (.ref l), vx, vy])
      (fun H2 e12 _ => ⟨⟨e1.trans e12, [], [], e12 _ _ h1, .nil, Nat.le_refl _, fun a b => ⟨fun h => absurd h List.not_mem_nil, fun h => absurd h.2.2.2 (Nat.not_lt_zero _)⟩⟩, _, _, rfl⟩) ?_ ?_
    · rintro x σ H2 hx ⟨⟨e2, ps, rs, h2, hR, hn, hps⟩, vx, vy, rfl⟩
      refine b_forR (H0 := H2) (n := d.m) (Ex.refl H2) (by have hf2 := e2 _ _ hf; wtm_at "k49ea") (by omega) (fun i σ H' => (Ex H H' ∧ ∃ ps rs, H' l = some (.lst rs) ∧ RefsO H' l rs (ps.map prO) ∧ ps.length ≤ x * 16 + i ∧ ∀ a b, (a, b) ∈ ps ↔ a < d.m ∧ b < d.m ∧ lt d.M a b = true ∧ (a < x ∨ a = x ∧ b < i)) ∧ ∃ vy, σ = [some (.ref fa), some (.ref d.aM), some (.ref l), some (.int (x : Nat)), vy])
        (fun H3 e23 _ => ⟨⟨e2.trans e23, ps, rs, e23 _ _ h2, hR.exs e23, hn, fun a b => by
          rw [hps]
          exact ⟨fun h => ⟨h.1, h.2.1, h.2.2.1, Or.inl h.2.2.2⟩, fun h => ⟨h.1, h.2.1, h.2.2.1, by rcases h.2.2.2 with q | q; exact q; exact absurd q.2 (Nat.not_lt_zero _)⟩⟩⟩, _, rfl⟩) ?_ ?_
      · rintro y σ H3 hy ⟨⟨e3, ps, rs, h3, hR, hn, hps⟩, vy, rfl⟩
        have hM := (hT.ex e3).tM
        refine b_when (H0 := H3) (b := lt d.M x y) (Ex.refl H3) ?_ (fun ht H4 e34 _ => ?_) (fun ht H4 e34 _ => ?_)
        · unfold lt
          rw [show (x != y) = !(x == y) from rfl, ← dec_nat, ← dec_nat]
          wtm_at "k49et"
        · refine b_appN (H0 := H4) (l := l) (o := prO (x, y)) (Ex.refl H4) (e34 _ _ h3) (ev_var rfl) (fun H5 e45 Q q => eu_tup (ea_cons (ev_var rfl) (ea_cons (ev_var rfl) ea_nil)) (by show 2 ≤ 100000; decide) H5 e45 Q q) (by rw [hR.len, List.length_map]; omega) fun p H5 hp e45 _ h5 => ?_
          have np : p ≠ l := fun e => by rw [e, e34 _ _ h3] at hp; cases hp
          refine ⟨⟨((e3.trans e34).trans e45).mut hl, ps ++ [(x, y)], _, upd_same, ?_, by rw [List.length_append, List.length_singleton]; omega, fun a b => ?_⟩, _, rfl⟩
          · rw [List.map_append]
            exact ((hR.exs (e34.trans e45)).ex fun b u hb hu => by rw [upd_ne hb]; exact hu).snoc np (by rw [upd_ne np]; exact h5)
          · rw [List.mem_append, List.mem_singleton, hps, Prod.mk.injEq]
            constructor
            · rintro (h | ⟨rfl, rfl⟩)
              · exact ⟨h.1, h.2.1, h.2.2.1, h.2.2.2.imp_right fun q => ⟨q.1, by omega⟩⟩
              · exact ⟨hx, hy, ht, Or.inr ⟨rfl, Nat.lt_succ_self _⟩⟩
            · rintro ⟨h1, h2, h3, h4⟩
              by_cases q : a = x ∧ b = y
              · exact Or.inr q
              · refine Or.inl ⟨h1, h2, h3, h4.imp_right fun r => ⟨r.1, ?_⟩⟩
                have : b ≠ y := fun e => q ⟨r.1, e⟩
                omega
        · refine ⟨⟨e3.trans e34, ps, rs, e34 _ _ h3, hR.exs e34, by omega, fun a b => ?_⟩, _, rfl⟩
          rw [hps]
          constructor
          · exact fun h => ⟨h.1, h.2.1, h.2.2.1, h.2.2.2.imp_right fun q => ⟨q.1, by omega⟩⟩
          · rintro ⟨h1, h2, h3, h4⟩
            refine ⟨h1, h2, h3, h4.imp_right fun r => ⟨r.1, ?_⟩⟩
            have : b ≠ y := fun e => by
              rw [r.1, e, ht] at h3
              cases h3
            omega
      · rintro σ H3 ⟨⟨e3, ps, rs, h3, hR, hn, hps⟩, vy, rfl⟩
        refine ⟨⟨e3, ps, rs, h3, hR, by omega, fun a b => ?_⟩, _, _, rfl⟩
        rw [hps]
        constructor
        · exact fun h => ⟨h.1, h.2.1, h.2.2.1, by omega⟩
        · exact fun h => ⟨h.1, h.2.1, h.2.2.1, by omega⟩
    · rintro σ H2 ⟨⟨e2, ps, rs, h2, hR, hn, hps⟩, vx, vy, rfl⟩
      have hf2 := e2 _ _ hf
      have ea : EvA (tCons (tCB (rLenS K) (tCons (tVar 0) tNil)) (tCons (tVar 2) tNil)) [some (.ref fa), some (.ref d.aM), some (.ref l), vx, vy] H2 [.int (d.m : Nat), .ref l] := ea_cons (ev_lenfL (ev_var rfl) hf2) (ea_cons (ev_var rfl) ea_nil)
      unfold tRet tMake
      refine ea H2 (Ex.refl H2) _ fun H3 e23 => ?_
      intro x dx hx hdx ne
      have e34 : Ex H3 (upd (upd H3 dx (.own x)) x (.ins T.C dx [])) := ((Ex.refl H3).mut hdx).mut hx
      refine ⟨x, dx, d.m, d.J, d.M, l, ps, rs, rfl, upd_same, ⟨(e23.trans e34) _ _ h2, l, hR.exs (e23.trans e34)⟩, L, fun a b => ?_, fun ld H4 h1 h2 h3 h4 hL he => ⟨rfl, ?_⟩⟩
      · rw [hps]
        exact ⟨fun h => ⟨h.1, h.2.1, h.2.2.1⟩, fun h => ⟨h.1, h.2.1, h.2.2, h.1⟩⟩
      · rw [← h1]
        refine k ld H4 h2 h3 h4 ((e2.trans e23).trans fun b o hb => ?_) hL
        refine he b o (e34 _ _ hb) (ne_of_none hb hx)
end
end K49
namespace K49
open PySem L2 Evl
/-! ### the evaluator -/
local macro_rules | `(tactic| wtm_at "k49sd") => `(tactic| first
  | (with_reducible assumption)
  | decide
  | omega
  | ((with_reducible refine' Lat.ml ?k0 _ _ ?k1 ?k2); (case k0 => (with_reducible assumption)); (case k1 => wtm_at "k49sd"); (case k2 => wtm_at "k49sd"))
  | ((with_reducible refine' Lat.jl ?k0 _ _ ?k1 ?k2); (case k0 => (with_reducible assumption)); (case k1 => wtm_at "k49sd"); (case k2 => wtm_at "k49sd")))
local macro_rules | `(tactic| wtm_at "k49rv") => `(tactic| first
  | (with_reducible exact rv_and)
  | (with_reducible exact rv_or)
  | ((with_reducible refine' rv_shl1 ?k1); (case k1 => wtm_at "k49sd"))
  | (with_reducible exact rv_I0)
  | ((with_reducible refine' rv_T2 ?k1 ?k2 ?k3); (case k1 => (with_reducible assumption)); (case k2 => wtm_at "k49sd"); (case k3 => wtm_at "k49sd"))
  | ((with_reducible refine' rv_T1 ?k1 ?k2); (case k1 => (with_reducible assumption)); (case k2 => wtm_at "k49sd"))
  | ((with_reducible refine' rv_L2 ?k1 ?k2 ?k3); (case k1 => (with_reducible assumption)); (case k2 => wtm_at "k49sd"); (case k3 => wtm_at "k49sd"))
  | ((with_reducible refine' rv_L1 ?k1 ?k2); (case k1 => (with_reducible assumption)); (case k2 => wtm_at "k49sd"))
  | ((with_reducible refine' rv_fT' ?k1 ?k2 ?k3); (case k1 => (with_reducible assumption)); (case k2 => wtm_at "k49sd"); (case k3 => exact rfl))
  | ((with_reducible refine' rv_fL' ?k1 ?k2 ?k3); (case k1 => (with_reducible assumption)); (case k2 => wtm_at "k49sd"); (case k3 => exact rfl))
  | ((with_reducible refine' rv_mod ?k1); (case k1 => wtm_at "k49sd"))
  | ((with_reducible refine' rv_shr ?k1); (case k1 => wtm_at "k49sd"))
  | ((with_reducible refine' rv_I (C := CMul) ?k1); (case k1 => (first | exact Or.inr ⟨by decide, by decide⟩ | exact Or.inl ⟨by decide, by decide⟩ | exact Or.inl ⟨by omega, by omega⟩ | exact Or.inr ⟨by omega, by omega⟩)))
  | ((with_reducible refine' rv_I (C := CDiv) ?k1); (case k1 => (first | exact ⟨by decide, by decide⟩ | exact ⟨by omega, by omega⟩)))
  | ((with_reducible refine' rv_I (C := CPow) ?k1); (case k1 => (first | exact ⟨by omega, by omega, by decide⟩ | exact ⟨by omega, by omega, by omega⟩)))
  | ((with_reducible refine' rv_eq ?k1); (case k1 => rfl))
  | ((with_reducible refine' rv_ne ?k1); (case k1 => rfl))
  | (with_reducible exact rv_isN) | (with_reducible exact rv_notN) | (with_reducible exact rv_isB) | (with_reducible exact rv_notB)
  | (with_reducible assumption))
local macro_rules | `(tactic| wtm_at "k49ev") => `(tactic| first
  | (with_reducible exact ev_c)
  | (exact ev_var rfl)
  | ((with_reducible refine' ev_op ?k1 ?k2 ?k3); (case k1 => wtm_at "k49ev"); (case k2 => wtm_at "k49ev"); (case k3 => wtm_at "k49rv"))
  | ((with_reducible refine' ev_un ?k1 ru_neg); (case k1 => wtm_at "k49ev"))
  | ((with_reducible refine' ev_int1 ?k1); (case k1 => wtm_at "k49ev"))
  | ((with_reducible refine' ev_abs ?k1); (case k1 => wtm_at "k49ev"))
  | ((with_reducible refine' ev_above ?k1 ?k2 ?k3 ?k4); (case k1 => wtm_at "k49ev"); (case k2 => (with_reducible assumption)); (case k3 => exact Tx.cl ‹_›); (case k4 => exact Tx.n_above ‹_›))
  | ((with_reducible refine' ev_joins ?k1 ?k2 ?k3 ?k4); (case k1 => wtm_at "k49ev"); (case k2 => (with_reducible assumption)); (case k3 => exact Tx.cl ‹_›); (case k4 => exact Tx.n_joins ‹_›))
  | ((with_reducible refine' ev_meets ?k1 ?k2 ?k3 ?k4); (case k1 => wtm_at "k49ev"); (case k2 => (with_reducible assumption)); (case k3 => exact Tx.cl ‹_›); (case k4 => exact Tx.n_meets ‹_›))
  | ((with_reducible refine' ev_lenfT ?k1 ?k2); (case k1 => wtm_at "k49ev"); (case k2 => (with_reducible assumption)))
  | ((with_reducible refine' ev_lenfL ?k1 ?k2); (case k1 => wtm_at "k49ev"); (case k2 => (with_reducible assumption)))
  | ((with_reducible refine' ev_lenT ?k1 ?k2); (case k1 => wtm_at "k49ev"); (case k2 => wtm_at "k49sq"))
  | ((with_reducible refine' ev_len ?k1 ?k2); (case k1 => wtm_at "k49ev"); (case k2 => wtm_at "k49sq"))
  | ((with_reducible refine' ev_call0 ?k1 ?k2); (case k1 => wtm_at "k49ea"); (case k2 => wtm_at "k49sp"))
  | ((with_reducible refine' ev_notV ?k1); (case k1 => wtm_at "k49ev"))
  | ((with_reducible refine' ev_andV ?k1 ?k2); (case k1 => wtm_at "k49ev"); (case k2 => (intro _; wtm_at "k49ev")))
  | ((with_reducible refine' ev_orV ?k1 ?k2); (case k1 => wtm_at "k49ev"); (case k2 => (intro _; wtm_at "k49ev"))))
local macro_rules | `(tactic| wtm_at "k49ea") => `(tactic| first
  | (with_reducible exact ea_nil)
  | ((with_reducible refine' ea_cons ?k1 ?k2); (case k1 => wtm_at "k49ev"); (case k2 => wtm_at "k49ea")))
local macro_rules | `(tactic| wtm_at "k49sq") => `(tactic| first
  | (with_reducible assumption)
  | (refine' sq_of ?k1; (case k1 => (with_reducible assumption)))
  | (refine' st_of ?k1; (case k1 => (with_reducible assumption))))
local macro_rules | `(tactic| wtm_at "k49et") => `(tactic| first
  | ((with_reducible refine' et_test ?k1); (case k1 => wtm_at "k49ev"))
  | ((with_reducible refine' et_B ?k1); (case k1 => wtm_at "k49ev"))
  | ((with_reducible refine' et_and ?k1 ?k2); (case k1 => wtm_at "k49et"); (case k2 => (intro _; wtm_at "k49et")))
  | ((with_reducible refine' et_or ?k1 ?k2); (case k1 => wtm_at "k49et"); (case k2 => (intro _; wtm_at "k49et")))
  | ((with_reducible refine' et_not ?k1); (case k1 => wtm_at "k49et")))

/-! ### tuples stay, lists stay lists -/
structure Tl (H H' : Hp) : Prop where
  t : ∀ a xs, H a = some (.tup xs) → H' a = some (.tup xs)
  l : ∀ a xs, H a = some (.lst xs) → ∃ ys, H' a = some (.lst ys)
theorem Tl.refl (H : Hp) : Tl H H := ⟨fun _ _ h => h, fun _ _ h => ⟨_, h⟩⟩
theorem Tl.trans {H H1 H2 : Hp} (a : Tl H H1) (b : Tl H1 H2) : Tl H H2 := ⟨fun x xs h => b.t x xs (a.t x xs h), fun x xs h => let ⟨ys, q⟩ := a.l x xs h; b.l x ys q⟩
theorem Tl.of {H H' : Hp} (e : Ex H H') : Tl H H' := ⟨fun a xs h => e _ _ h, fun a xs h => ⟨_, e _ _ h⟩⟩
theorem Tl.upd {H : Hp} {l : Addr} {xs ys : List V} (h : H l = some (.lst xs)) : Tl H (upd H l (.lst ys)) := ⟨fun a zs q => by
  rw [upd_ne (fun e => by rw [e, h] at q; cases q)]
  exact q, fun a zs q => by
  by_cases e : a = l
  · subst e
    exact ⟨ys, upd_same⟩
  · rw [upd_ne e]
    exact ⟨zs, q⟩⟩
theorem Tl.off {st : Addr} {H H' : Hp} (o : Off st H H') (s : StA st H) (s' : StA st H') : Tl H H' := by
  obtain ⟨_, _, h1, _⟩ := s
  obtain ⟨_, _, h2, _⟩ := s'
  refine ⟨fun a xs h => o a _ (fun e => by rw [e, h1] at h; cases h) h, fun a xs h => ?_⟩
  by_cases e : a = st
  · rw [e]
    exact ⟨_, h2⟩
  · exact ⟨_, o a _ e h⟩
theorem FailV.tl {H H' : Hp} {d : LtD} {v : V} {b : Bool} (e : Tl H H') (h : FailV H d v b) : FailV H' d v b := by
  cases h with
  | lst h => exact (e.l _ _ h).elim fun _ h => .lst h
  | len h hl => exact .len (e.t _ _ h) hl
  | tri h hu hv hw hb => exact .tri (e.t _ _ h) hu hv hw hb
theorem BadV.tl {H H' : Hp} {v : V} (e : Tl H H') (h : BadV H v) : BadV H' v := by
  rcases h with h | h | h | h | ⟨a, xs, h1, h2⟩
  · exact .inl h
  · exact .inr (.inl h)
  · exact .inr (.inr (.inl h))
  · exact .inr (.inr (.inr (.inl h)))
  · exact .inr (.inr (.inr (.inr ⟨a, xs, h1, e.t _ _ h2⟩)))
theorem TakeV.tl {H H' : Hp} {d : LtD} {v : V} {b : Bool} (e : Tl H H') (h : TakeV H d v b) : TakeV H' d v b := by
  cases h with
  | non => exact .non
  | lst h => exact (e.l _ _ h).elim fun _ h => .lst h
  | short h hl => exact .short (e.t _ _ h) hl
  | fail h hv => exact .fail (e.t _ _ h) (hv.tl e)
  | fail3 h => exact .fail3 (e.t _ _ h)
  | lowLen h hl => exact .lowLen (e.t _ _ h) hl
  | lowN h hv => exact .lowN (e.t _ _ h) hv
  | lowL h hc => exact (e.l _ _ hc).elim fun _ hc => .lowL (e.t _ _ h) hc
  | lowC h hc hl => exact .lowC (e.t _ _ h) (e.t _ _ hc) hl
  | low h hc hl ht hs hb hg => exact .low (e.t _ _ h) (e.t _ _ hc) hl ht hs (fun q => ⟨(hb q).1, (hb q).2.elim fun v hv => ⟨v, hv.1, hv.2.tl e⟩⟩) hg
/-! ### values of a kind -/
def IsT (xs : List V) : V → Hp → Prop := fun v H => ∃ p, v = .ref p ∧ H p = some (.tup xs)
def IsL : V → Hp → Prop := fun v H => ∃ p xs, v = .ref p ∧ H p = some (.lst xs)
def EvPA (ta : TA) (σ : L2.St) (H : Hp) (R : V → Hp → Prop) (n : Nat) : Prop := ∀ H1, Ex H H1 → ∀ Q : List V → Hp → Prop, (∀ vs H2, Ex H1 H2 → vs.length = n → (∀ v ∈ vs, R v H2) → Q vs H2) → ta σ H1 Q
def EvPL (te : TE) (σ : L2.St) (H : Hp) (R : V → Hp → Prop) (n : Nat) : Prop := ∀ H1, Ex H H1 → ∀ Q : VK, (∀ p H2 vs, H1 p = none → Ex H1 H2 → H2 p = some (.lst vs) → vs.length = n → (∀ v ∈ vs, R v H2) → Q (.ref p) H2) → te σ H1 Q
section
variable {K : PySem.W.Frag} {σ : L2.St} {H H' H0 : Hp} {ta tb te tc to tx : TE} {t : TA} {x y z v v1 v2 v3 : V} {D : Ends} {tz tu : TS} {R R' : V → Hp → Prop} {n : Nat}
theorem ep_of (h : Ev te σ H v) (k : ∀ H2, Ex H H2 → R v H2) : EvP2 te σ H R := fun H1 e Q q => h H1 e _ fun H2 e2 => q v H2 e2 (k H2 (e.trans e2))
theorem ep_eu {xs : List V} (h : EvU te σ H xs) : EvP2 te σ H (IsT xs) := fun H1 e Q q => h H1 e _ fun p H2 _ e2 h2 => q _ H2 e2 ⟨p, rfl, h2⟩
theorem ep_el {xs : List V} (h : EvL te σ H xs) : EvP2 te σ H IsL := fun H1 e Q q => h H1 e _ fun p H2 _ e2 h2 => q _ H2 e2 ⟨p, _, rfl, h2⟩
theorem ep_tup {vs : List V} (h : EvA t σ H vs) (hl : vs.length ≤ 100000) (k : ∀ p H2, Ex H H2 → H2 p = some (.tup vs) → R (.ref p) H2) : EvP2 (tTup t) σ H R := fun H1 e Q q =>
  eu_tup h hl H1 e _ fun p H2 _ e2 h2 => q _ H2 e2 (k p H2 (e.trans e2) h2)
theorem ep_lst {vs : List V} (h : EvA t σ H vs) (hl : vs.length ≤ 100000) (k : ∀ p H2, Ex H H2 → H2 p = some (.lst vs) → R (.ref p) H2) : EvP2 (tLst t) σ H R := fun H1 e Q q =>
  el_lst h hl H1 e _ fun p H2 _ e2 h2 => q _ H2 e2 (k p H2 (e.trans e2) h2)
theorem ep_tup3 (h1 : Ev ta σ H v1) (h2 : Ev tb σ H v2) (h3 : EvP2 tc σ H R') (k : ∀ w p H2 H3, Ex H H2 → R' w H2 → Ex H2 H3 → H3 p = some (.tup [v1, v2, w]) → R (.ref p) H3) : EvP2 (tTup (tCons ta (tCons tb (tCons tc tNil)))) σ H R := fun H1 e Q q =>
  h1 H1 e _ fun H2 e2 => h2 H2 (e.trans e2) _ fun H3 e3 => h3 H3 ((e.trans e2).trans e3) _ fun w H4 e4 r => ⟨sz_of (by show 3 ≤ 100000; decide), fun p hp => q _ _ (((e2.trans e3).trans e4).trans (Ex.new hp)) (k w p H4 _ (((e.trans e2).trans e3).trans e4) r (Ex.new hp) upd_same)⟩
theorem ep_tup2 (h1 : Ev ta σ H v1) (h3 : EvP2 tc σ H R') (k : ∀ w p H2 H3, Ex H H2 → R' w H2 → Ex H2 H3 → H3 p = some (.tup [v1, w]) → R (.ref p) H3) : EvP2 (tTup (tCons ta (tCons tc tNil))) σ H R := fun H1 e Q q =>
  h1 H1 e _ fun H2 e2 => h3 H2 (e.trans e2) _ fun w H4 e4 r => ⟨sz_of (by show 2 ≤ 100000; decide), fun p hp => q _ _ ((e2.trans e4).trans (Ex.new hp)) (k w p H4 _ ((e.trans e2).trans e4) r (Ex.new hp) upd_same)⟩
theorem ep_tup3m (h1 : Ev ta σ H v1) (h2 : EvP2 tb σ H R') (h3 : Ev tc σ H v3) (k : ∀ w p H2 H3, Ex H H2 → R' w H2 → Ex H2 H3 → H3 p = some (.tup [v1, w, v3]) → R (.ref p) H3) : EvP2 (tTup (tCons ta (tCons tb (tCons tc tNil)))) σ H R := fun H1 e Q q =>
  h1 H1 e _ fun H2 e2 => h2 H2 (e.trans e2) _ fun w H3 e3 r => h3 H3 ((e.trans e2).trans e3) _ fun H4 e4 => ⟨sz_of (by show 3 ≤ 100000; decide), fun p hp => q _ _ (((e2.trans e3).trans e4).trans (Ex.new hp)) (k w p H3 _ ((e.trans e2).trans e3) r (e4.trans (Ex.new hp)) upd_same)⟩
theorem epa_nil : EvPA tNil σ H R 0 := fun H1 e Q q => q [] H1 (Ex.refl H1) rfl fun v hv => absurd hv List.not_mem_nil
theorem epa_cons (up : ∀ v H H', Ex H H' → R v H → R v H') (h : EvP2 te σ H R) (h2 : EvPA t σ H R n) : EvPA (tCons te t) σ H R (n + 1) := fun H1 e Q q =>
  h H1 e _ fun v H2 e2 r => h2 H2 (e.trans e2) _ fun vs H3 e3 hl hr => q (v :: vs) H3 (e2.trans e3) (by rw [List.length_cons, hl]) fun u hu => by
    rcases List.mem_cons.mp hu with h | h
    · rw [h]
      exact up _ _ _ e3 r
    · exact hr u h
theorem epl_lst (up : ∀ v H H', Ex H H' → R v H → R v H') (h : EvPA t σ H R n) (hn : n ≤ 100000) : EvPL (tLst t) σ H R n := fun H1 e Q q =>
  h H1 e _ fun vs H2 e2 hl hr => ⟨sz_of (by rw [hl]; exact hn), fun p hp => q p _ vs (fresh_back e2 hp) (e2.trans (Ex.new hp)) upd_same hl fun v hv => up _ _ _ (Ex.new hp) (hr v hv)⟩
theorem epl_cat {l : Addr} {xs : List V} (up : ∀ v H H', Ex H H' → R v H → R v H') (h1 : Ev ta σ H (.ref l)) (hl : H l = some (.lst xs)) (hx : ∀ v ∈ xs, R v H) (h2 : EvPL tb σ H R n) (hn : xs.length + n ≤ 100000) : EvPL (tOp rCat ta tb) σ H R (xs.length + n) := fun H1 e Q q =>
  h1 H1 e _ fun H2 e2 => h2 H2 (e.trans e2) _ fun b H3 zs hb e3 h3 hz hr => ⟨l, b, xs, zs, rfl, rfl, ((e.trans e2).trans e3) _ _ hl, h3, sz_of (by rw [hz]; exact hn), fun p hp =>
    q p _ _ (fresh_back (e2.trans e3) hp) ((e2.trans e3).trans (Ex.new hp)) upd_same (by rw [List.length_append, hz]) fun v hv => by
      rcases List.mem_append.mp hv with h | h
      · exact up _ _ _ (((e.trans e2).trans e3).trans (Ex.new hp)) (hx v h)
      · exact up _ _ _ (Ex.new hp) (hr v h)⟩
theorem c_asgPL {i : Nat} (e : Ex H0 H) (h : EvPL te σ H0 R n) (k : ∀ p H1 vs, H p = none → Ex H H1 → H1 p = some (.lst vs) → vs.length = n → (∀ v ∈ vs, R v H1) → tz D (σ.set i (some (.ref p))) H1) : tSeq (tAsg te (gName i)) tz D σ H :=
  h H e _ fun p H1 vs hp e1 h1 hl hr => k p H1 vs hp e1 h1 hl hr
theorem c_forPL {g : TG} (e : Ex H0 H) (h : EvPL te σ H0 R n) (Pv : Addr → List V → Nat → L2.St → Hp → Prop) (h0 : ∀ p H1 vs, H p = none → Ex H H1 → H1 p = some (.lst vs) → vs.length = n → (∀ v ∈ vs, R v H1) → Pv p vs 0 σ H1) (hl : ∀ p vs i σ' H', i ≤ vs.length → Pv p vs i σ' H' → SqL K H' p vs)
    (hs : ∀ p vs i x σ' H', vs[i]? = some x → Pv p vs i σ' H' → g x σ' H' fun σ2 H2 => tu { D with nx := Pv p vs (i + 1), ct := Pv p vs (i + 1), bk := tz D } σ2 H2) (hd : ∀ p vs σ' H', Pv p vs vs.length σ' H' → tz D σ' H') : tSeq (tFor (iList K te) g tu) tz D σ H :=
  h H e _ fun p H1 vs hp e1 h1 hn hr => ⟨p, rfl, ⟨vs, sq_of h1⟩, for_list (D := { D with nx := tz D }) (Pv p vs) (h0 p H1 vs hp e1 h1 hn hr) (hl p vs) (hs p vs) (hd p vs)⟩
theorem b_appP {l : Addr} {xs : List V} (e : Ex H0 H) (hl : H l = some (.lst xs)) (ha : Ev ta σ H0 (.ref l)) (h : EvP2 te σ H0 R) (hz : xs.length < 100000) (k : ∀ v H1, Ex H H1 → R v H1 → D.nx σ (upd H1 l (.lst (xs ++ [v])))) :
    tDrop (tBM K "list" rAppend ta (tCons te tNil)) D σ H := ha H e _ fun H1 e1 =>
  ⟨Or.inl ⟨rfl, xs, sq_of (e1 l _ hl)⟩, h H1 (e.trans e1) _ fun v H2 e2 r => ⟨l, xs, v, rfl, rfl, e2 l _ (e1 l _ hl), sz_lt hz, k v H2 (e1.trans e2) r⟩⟩
theorem c_appP {l : Addr} {xs : List V} (e : Ex H0 H) (hl : H l = some (.lst xs)) (ha : Ev ta σ H0 (.ref l)) (h : EvP2 te σ H0 R) (hz : xs.length < 100000) (k : ∀ v H1, Ex H H1 → R v H1 → tz D σ (upd H1 l (.lst (xs ++ [v])))) :
    tSeq (tDrop (tBM K "list" rAppend ta (tCons te tNil))) tz D σ H := b_appP (D := { D with nx := tz D }) e hl ha h hz k
theorem ep_catT {xs ys : List V} (h1 : EvP2 ta σ H (IsT xs)) (h2 : EvP2 tb σ H (IsT ys)) (hz : xs.length + ys.length ≤ 100000) : EvP2 (tOp (rCatA K) ta tb) σ H (IsT (xs ++ ys)) := fun H1 e Q q =>
  h1 H1 e _ fun v H2 e2 ⟨p, hp, hx⟩ => h2 H2 (e.trans e2) _ fun u H3 e3 ⟨r, hr, hy⟩ => ⟨p, r, xs, ys, hp, hr, st_of (e3 _ _ hx), st_of hy, sz_of hz,
    fun n => q _ H3 (e2.trans e3) ⟨r, rfl, by rw [n]; exact hy⟩, fun _ n => q _ H3 (e2.trans e3) ⟨p, rfl, by rw [n, List.append_nil]; exact e3 _ _ hx⟩, fun _ _ a ha => q _ _ ((e2.trans e3).trans (Ex.new ha)) ⟨a, rfl, upd_same⟩⟩
theorem eu_slF {p : Addr} {xs : List V} {k : Nat} (h : Ev ta σ H (.ref p)) (hp : H p = some (.tup xs)) (hi : Ev tb σ H (.int (k : Int))) (hk : k ≤ xs.length) (h0 : 0 < k) : EvU (tSl (rSlA K) ta (tPart tb) tNoPart) σ H (xs.drop k) := fun H1 e Q q =>
  h H1 e _ fun H2 e2 => hi H2 (e.trans e2) _ fun H3 e3 => ⟨(k : Int), rfl, p, xs, rfl, st_of (((e.trans e2).trans e3) _ _ hp), fun w => absurd w.1 (by rw [HT.sIx_nat]; omega), fun _ r hr => by
    have ec : cutV xs (some (k : Int)) none = xs.drop k := by
      unfold cutV
      rw [HT.sIx_none, HT.sIx_nat, Nat.min_eq_left hk]
      exact List.take_of_length_le (by rw [List.length_drop]; exact Nat.le_refl _)
    rw [ec]
    exact q r _ (fresh_back (e2.trans e3) hr) ((e2.trans e3).trans (Ex.new hr)) upd_same⟩
theorem el_listT {p : Addr} {xs : List V} (ha : Ev ta σ H (.ref p)) (h : H p = some (.tup xs)) : EvL (tCB (rListS K) (tCons ta tNil)) σ H xs := fun H1 e Q q =>
  ha H1 e _ fun H2 e2 => ⟨p, xs, rfl, Or.inr (st_of ((e.trans e2) _ _ h)), fun l hl => q l _ (fresh_back e2 hl) (e2.trans (Ex.new hl)) upd_same⟩
end
/-- one place of a tuple exchanged -/
theorem cut3 {m k : Nat} {f : Nat → V} {v : V} (hk : k < m) : (fnl m f).take k ++ [v] ++ (fnl m f).drop (k + 1) = fnl m fun j => if j = k then v else f j := by
  rw [← fnl_set hk, List.set_eq_take_append_cons_drop, if_pos (by rw [fnl_len]; exact hk), List.append_assoc]
  rfl
section
variable {K : PySem.W.Frag} {σ : L2.St} {H : Hp} {ti tk tl tv : TE} {v : V}
theorem ep_cut3 {c : Addr} {m k : Nat} {f : Nat → V} (hi : Ev ti σ H (.ref c)) (hc : H c = some (.tup (fnl m f))) (hk : Ev tk σ H (.int (k : Nat))) (km : k < m) (hm : m ≤ 16) (hv : Ev tv σ H v) :
    EvP2 (tOp (rCatA K) (tOp (rCatA K) (tSl (rSlA K) ti tNoPart (tPart tk)) (tTup (tCons tv tNil))) (tSl (rSlA K) ti (tPart (tOp (rI0 fun i j => .int (i + j)) tk (tC (.int 1)))) tNoPart)) σ H (IsT (fnl m fun j => if j = k then v else f j)) := by
  rw [← cut3 km]
  refine ep_catT (ep_catT (ep_eu (eu_slT hi hc hk (by rw [fnl_len]; exact km))) (ep_eu (eu_tup (ea_cons hv ea_nil) (by show 1 ≤ 100000; decide))) ?_) (ep_eu (eu_slF (k := k + 1) hi hc (ev_op hk ev_c rv_I0) (by rw [fnl_len]; omega) (Nat.succ_pos k))) ?_
  · rw [List.length_take, fnl_len]
    show min k m + 1 ≤ 100000
    omega
  · rw [List.length_append, List.length_take, List.length_drop, fnl_len]
    show min k m + 1 + (m - (k + 1)) ≤ 100000
    omega
end
section
variable {P : Program} {w : World} {K : PySem.W.Frag} {mg : Str → Option Value} {base : Heap}
def spForms : Sp := fun vs H Q _ => ∃ (st c : Addr) (d : LtD) (bk : Bool) (n : Nat) (s : Nat → Nat), vs = [.ref st, .int (d.m : Nat), .bl bk, .int (n : Nat), .ref c] ∧ StA st H ∧ Lat d.m d.J d.M ∧ H c = some (.tup (fnl d.m fun x => .int (s x : Nat))) ∧ (bk = false → NoFail d.m d.J d.M) ∧
  ∀ p H' ws, H p = none → Off st H H' → StA st H' → H' p = some (.lst ws) → (∀ v ∈ ws, TakeV H' d v false) → Q (.ref p) H'
structure Fm (st l : Addr) (d : LtD) (G : Hp) (N : Nat) (H : Hp) : Prop where
  o : Off st G H
  s : StA st H
  ws : ∃ ws, H l = some (.lst ws) ∧ ws.length ≤ N ∧ ∀ v ∈ ws, TakeV H d v false
theorem Fm.ex {st l : Addr} {d : LtD} {G H H' : Hp} {N : Nat} (f : Fm st l d G N H) (e : Ex H H') : Fm st l d G N H' := ⟨f.o.trans (Off.of e), f.s.ex e, let ⟨ws, h1, h2, h3⟩ := f.ws; ⟨ws, e _ _ h1, h2, fun v hv => (h3 v hv).ex e⟩⟩
theorem Fm.take {st l : Addr} {d : LtD} {G H H' : Hp} {N : Nat} (f : Fm st l d G N H) (nl : l ≠ st) (o : Off st H H') (s : StA st H') : Fm st l d G N H' := ⟨f.o.trans o, s, let ⟨ws, h1, h2, h3⟩ := f.ws; ⟨ws, o _ _ nl h1, h2, fun v hv => (h3 v hv).tl (Tl.off o f.s s)⟩⟩
theorem c_appF {st l : Addr} {d : LtD} {G H : Hp} {N : Nat} {σ : L2.St} {ta te : TE} {D : Ends} {tz : TS} (hG : G l = none) (nl : l ≠ st) (f : Fm st l d G N H) (hn : N < 1000) (ha : Ev ta σ H (.ref l)) (h : EvP2 te σ H (fun v H => TakeV H d v false))
    (k : ∀ H1, Fm st l d G (N + 1) H1 → Off l H H1 → Tl H H1 → tz D σ H1) : tSeq (tDrop (tBM K "list" rAppend ta (tCons te tNil))) tz D σ H := by
  obtain ⟨o, s, ws, h1, h2, h3⟩ := f
  refine c_appP (Ex.refl H) h1 ha h (by omega) fun v H1 e1 r => ?_
  have h11 := e1 _ _ h1
  have tl := Tl.upd (ys := ws ++ [v]) h11
  refine k _ ⟨fun b u hb hu => ?_, ?_, ws ++ [v], upd_same, by rw [List.length_append]; show ws.length + 1 ≤ N + 1; omega, fun u hu => ?_⟩ ((Off.of e1).trans Off.upd) ((Tl.of e1).trans tl)
  · rw [upd_ne (ne_of_none hu hG)]
    exact e1 _ _ (o b u hb hu)
  · obtain ⟨x, y, q1, q2⟩ := s.ex e1
    exact ⟨x, y, by rw [upd_ne fun e => nl e.symm]; exact q1, q2⟩
  · rcases List.mem_append.mp hu with h | h
    · exact (h3 u h).tl ((Tl.of e1).trans tl)
    · rw [List.mem_singleton] at h
      rw [h]
      exact TakeV.tl tl r
theorem b_appF {st l : Addr} {d : LtD} {G H : Hp} {N : Nat} {σ : L2.St} {ta te : TE} {D : Ends} (hG : G l = none) (nl : l ≠ st) (f : Fm st l d G N H) (hn : N < 1000) (ha : Ev ta σ H (.ref l)) (h : EvP2 te σ H (fun v H => TakeV H d v false))
    (k : ∀ H1, Fm st l d G (N + 1) H1 → Off l H H1 → Tl H H1 → D.nx σ H1) : tDrop (tBM K "list" rAppend ta (tCons te tNil)) D σ H := c_appF (tz := fun E => E.nx) (D := D) hG nl f hn ha h k
theorem sc__law_forms : FnScope ["_law_state_here", "_law_size", "_law_broken", "_law_n", "_law_images", "_law_bent", "_law_k", "_law_value", "_law_one", "_law_two", "_law_triple"] ["_law_state_here", "_law_size", "_law_broken", "_law_n", "_law_images"] (defScope s__law_forms) := ⟨rfl, rfl, rfl, by decide +kernel, rfl, by decide +kernel, by decide +kernel⟩
theorem ok__law_forms (T : Tx K mg) : FnOk P w K mg base CX0 2 T.a__law_forms T.d__law_forms ["_law_state_here", "_law_size", "_law_broken", "_law_n", "_law_images"] spForms := by
  refine T.p__law_forms.F.ok sc__law_forms (fun vs H Q E h => ?_) (fun cdv A outer s H vs Q E hr h => ?_)
  · obtain ⟨st, c, d, bk, n, s, rfl, _⟩ := h
    rfl
  · obtain ⟨st, c, d, bk, n, s, rfl, hst, L, hc, hnf, k⟩ := h
    have sm := L.small
    have pos := L.pos
    have up : ∀ v H H', Ex H H' → TakeV H d v false → TakeV H' d v false := fun v H H' e h => h.ex e
    refine ⟨_, (pss_cons (ps_set (i := 5) sc__law_forms.nd rfl (Or.inl rfl) (pe_lst (pa_cons (pe_tup (pa_cons pe_str (pa_cons (pv 3) (pa_cons (pe_callTy (glist (K := K) rfl) (by rfl) T.b_list (by decide +kernel) (pa_cons (pv 4) pa_nil)) pa_nil)))) (pa_cons (pe_tup (pa_cons pe_str (pa_cons (pe_un un_neg pe_int) (pa_cons (pv 4) pa_nil)))) (pa_cons (pe_tup (pa_cons pe_str (pa_cons pe_bl (pa_cons (pv 4) pa_nil)))) (pa_cons (pe_tup (pa_cons pe_str (pa_cons (pv 3) (pa_cons (pv 4) (pa_cons pe_int pa_nil))))) (pa_cons (pe_tup (pa_cons pe_str (pa_cons (pv 3) pa_nil))) pa_nil)))))))
  (pss_cons (ps_set (i := 5) sc__law_forms.nd rfl (Or.inl rfl) (pe_op op_cat (pv 5) (pe_lst (pa_cons (pe_tup (pa_cons pe_str pa_nil)) (pa_cons (pe_tup (pa_cons pe_str pa_nil)) (pa_cons (pe_tup (pa_cons pe_str (pa_cons (pv 3) (pa_cons (pe_op (gcatT (K := K) rfl) (pv 4) (pe_tup (pa_cons pe_int pa_nil))) pa_nil)))) (pa_cons (pe_tup (pa_cons pe_str (pa_cons (pv 3) (pa_cons (pe_tup pa_nil) pa_nil)))) (pa_cons (pe_lst (pa_cons pe_str (pa_cons (pv 3) (pa_cons (pv 4) pa_nil)))) (pa_cons pe_non (pa_cons (pe_tup pa_nil) pa_nil))))))))))
  (pss_cons (ps_set (i := 6) sc__law_forms.nd rfl (Or.inl rfl) (pe_call (ok__law_take T) (hr.mono (by decide)) rfl T.p__law_take.g T.p__law_take.k T.p__law_take.b .nil pass0 (pa_cons (pv 0) (pa_cons (pv 1) pa_nil))))
  (pss_cons (ps_expr (gbm (K := K) rfl PySem.F.plainAttrs_list PySem.F.slot_list_append PySem.F.type_list_append mt_append (pv 5) (pa_cons (pe_tup (pa_cons pe_str (pa_cons (pv 3) (pa_cons (pe_slice (gslT (K := K) rfl) (pv 4) po_none (po_some (pv 6))) pa_nil)))) pa_nil)))
  (pss_cons (ps_for PassesOwn.never rfl (gpiL (K := K) rfl (pe_lst (pa_cons pe_bl (pa_cons pe_non (pa_cons (pe_un un_neg pe_int) (pa_cons (pe_tup (pa_cons (pe_ix (gixT (K := K) rfl) (pv 4) (pv 6) (fun _ _ => rfl)) pa_nil)) (pa_cons pe_str pa_nil))))))) (pg_name (i := 7) sc__law_forms.nd rfl (Or.inl rfl))
   (pss_one (ps_expr (gbm (K := K) rfl PySem.F.plainAttrs_list PySem.F.slot_list_append PySem.F.type_list_append mt_append (pv 5) (pa_cons (pe_tup (pa_cons pe_str (pa_cons (pv 3) (pa_cons (pe_op (gcatT (K := K) rfl) (pe_op (gcatT (K := K) rfl) (pe_slice (gslT (K := K) rfl) (pv 4) po_none (po_some (pv 6))) (pe_tup (pa_cons (pv 7) pa_nil))) (pe_slice (gslT (K := K) rfl) (pv 4) (po_some (pe_op op_add (pv 6) pe_int)) po_none)) pa_nil)))) pa_nil)))))
  (pss_cons (ps_set (i := 8) sc__law_forms.nd rfl (Or.inl rfl) (pe_call (ok__law_take T) (hr.mono (by decide)) rfl T.p__law_take.g T.p__law_take.k T.p__law_take.b .nil pass0 (pa_cons (pv 0) (pa_cons (pv 1) pa_nil))))
  (pss_cons (ps_set (i := 9) sc__law_forms.nd rfl (Or.inl rfl) (pe_call (ok__law_take T) (hr.mono (by decide)) rfl T.p__law_take.g T.p__law_take.k T.p__law_take.b .nil pass0 (pa_cons (pv 0) (pa_cons (pv 1) pa_nil))))
  (pss_cons (ps_for PassesOwn.never rfl (gpiL (K := K) rfl (pe_lst (pa_cons (pe_tup (pa_cons (pv 8) (pa_cons (pv 9) pa_nil))) (pa_cons (pe_tup (pa_cons (pv 8) (pa_cons (pv 9) (pa_cons (pv 6) (pa_cons (pv 6) pa_nil))))) (pa_cons (pe_lst (pa_cons (pv 8) (pa_cons (pv 9) (pa_cons (pv 6) pa_nil)))) (pa_cons (pe_tup (pa_cons (pe_un un_neg pe_int) (pa_cons (pv 8) (pa_cons (pv 9) pa_nil)))) (pa_cons (pe_tup (pa_cons (pv 8) (pa_cons (pv 1) (pa_cons (pv 9) pa_nil)))) (pa_cons (pe_tup (pa_cons (pv 8) (pa_cons (pv 9) (pa_cons (pe_un un_neg pe_int) pa_nil)))) (pa_cons (pe_tup (pa_cons pe_bl (pa_cons (pv 8) (pa_cons (pv 9) pa_nil)))) pa_nil))))))))) (pg_name (i := 10) sc__law_forms.nd rfl (Or.inl rfl))
   (pss_one (ps_expr (gbm (K := K) rfl PySem.F.plainAttrs_list PySem.F.slot_list_append PySem.F.type_list_append mt_append (pv 5) (pa_cons (pe_tup (pa_cons pe_str (pa_cons (pv 10) pa_nil))) pa_nil)))))
  (pss_cons (ps_expr (gbm (K := K) rfl PySem.F.plainAttrs_list PySem.F.slot_list_append PySem.F.type_list_append mt_append (pv 5) (pa_cons (pe_tup (pa_cons pe_str (pa_cons (pe_tup (pa_cons (pv 8) (pa_cons (pv 9) (pa_cons (pv 6) pa_nil)))) (pa_cons pe_int pa_nil)))) pa_nil)))
  (pss_cons (ps_if (pt_not (pt_val (pv 2))) (pss_one (ps_expr (gbm (K := K) rfl PySem.F.plainAttrs_list PySem.F.slot_list_append PySem.F.type_list_append mt_append (pv 5) (pa_cons (pe_tup (pa_cons pe_str (pa_cons (pe_tup (pa_cons (pv 8) (pa_cons (pv 9) (pa_cons (pv 6) pa_nil)))) pa_nil))) pa_nil)))) pss_nil)
  (pss_one (ps_ret (pv 5))))))))))))), ?_⟩
    -- the first list
    refine c_asgPL (H0 := H) (n := 5) (R := fun v H => TakeV H d v false) (Ex.refl H) (epl_lst up (epa_cons up ?_ (epa_cons up ?_ (epa_cons up ?_ (epa_cons up ?_ (epa_cons up ?_ epa_nil))))) (by decide)) fun q H1 ws1 hq e1 h1 hl1 hr1 => ?_
    · exact ep_tup3 (v1 := .str "lower") (v2 := .int (n : Nat)) ev_c (ev_var rfl) (ep_el (el_listT (ev_var rfl) hc)) fun w p H2 H3 _ ⟨a, xs, ea, ha⟩ e23 h3 => by
        subst ea
        exact .lowL h3 (e23 _ _ ha)
    · exact ep_tup (vs := [.str "lower", .int (-1), .ref c]) (ea_cons ev_c (ea_cons (ev_un ev_c ru_neg) (ea_cons (ev_var rfl) ea_nil))) (by show 3 ≤ 100000; decide) fun p H2 e h => .lowN h (Or.inr ⟨-1, by decide, rfl⟩)
    · exact ep_tup (vs := [.str "lower", .bl true, .ref c]) (ea_cons ev_c (ea_cons ev_c (ea_cons (ev_var rfl) ea_nil))) (by show 3 ≤ 100000; decide) fun p H2 e h => .lowN h (Or.inl ⟨true, rfl⟩)
    · exact ep_tup (vs := [.str "lower", .int (n : Nat), .ref c, .int 7]) (ea_cons ev_c (ea_cons (ev_var rfl) (ea_cons (ev_var rfl) (ea_cons ev_c ea_nil)))) (by show 4 ≤ 100000; decide) fun p H2 e h => .lowLen h (by show 2 ≠ 1; decide)
    · exact ep_tup (vs := [.str "lower", .int (n : Nat)]) (ea_cons ev_c (ea_cons (ev_var rfl) ea_nil)) (by show 2 ≤ 100000; decide) fun p H2 e h => .lowLen h (by show 0 ≠ 1; decide)
    have hc1 := e1 _ _ hc
    -- the second
    refine c_asgPL (H0 := H1) (n := ws1.length + 7) (R := fun v H => TakeV H d v false) (Ex.refl H1) (epl_cat up (ev_var rfl) h1 hr1 (epl_lst up (epa_cons up ?_ (epa_cons up ?_ (epa_cons up ?_ (epa_cons up ?_ (epa_cons up ?_ (epa_cons up ?_ (epa_cons up ?_ epa_nil))))))) (by decide)) (by omega)) fun l H2 ws2 hl2 e12 h2 hn2 hr2 => ?_
    · exact ep_tup (vs := [.str "lower"]) (ea_cons ev_c ea_nil) (by show 1 ≤ 100000; decide) fun p H2 e h => .short h (by show 1 < 2; decide)
    · exact ep_tup (vs := [.str "failure"]) (ea_cons ev_c ea_nil) (by show 1 ≤ 100000; decide) fun p H2 e h => .short h (by show 1 < 2; decide)
    · exact ep_tup3 (v1 := .str "lower") (v2 := .int (n : Nat)) ev_c (ev_var rfl) (ep_catT (ep_of (R := IsT (fnl d.m fun x => .int (s x : Nat))) (ev_var rfl) fun H2 e => ⟨c, rfl, e _ _ hc1⟩) (ep_eu (eu_tup (vs := [.int 0]) (ea_cons ev_c ea_nil) (by show 1 ≤ 100000; decide))) (by rw [fnl_len]; show d.m + 1 ≤ 100000; omega)) fun w p H2 H3 _ ⟨a, ea, ha⟩ e23 h3 => by
        subst ea
        exact .lowC h3 (e23 _ _ ha) (by rw [List.length_append, fnl_len]; show d.m + 1 ≠ d.m; omega)
    · exact ep_tup3 (v1 := .str "lower") (v2 := .int (n : Nat)) ev_c (ev_var rfl) (ep_eu (eu_tup (vs := []) ea_nil (by show 0 ≤ 100000; decide))) fun w p H2 H3 _ ⟨a, ea, ha⟩ e23 h3 => by
        subst ea
        exact .lowC h3 (e23 _ _ ha) (by show 0 ≠ d.m; omega)
    · exact ep_lst (vs := [.str "lower", .int (n : Nat), .ref c]) (ea_cons ev_c (ea_cons (ev_var rfl) (ea_cons (ev_var rfl) ea_nil))) (by show 3 ≤ 100000; decide) fun p H2 e h => .lst h
    · exact ep_of (v := .non) ev_c fun H2 e => .non
    · exact ep_tup (vs := []) ea_nil (by show 0 ≤ 100000; decide) fun p H2 e h => .short h (by show 0 < 2; decide)
    have e2 := e1.trans e12
    have hl : H l = none := fresh_back e1 hl2
    have nl : l ≠ st := fun e => by
      obtain ⟨_, _, h, _⟩ := hst
      rw [← e, hl] at h
      cases h
    have nc : c ≠ st := fun e => by
      obtain ⟨_, _, h, _⟩ := hst
      rw [← e, hc] at h
      cases h
    have fm2 : Fm st l d H 12 H2 := ⟨Off.of e2, hst.ex e2, ws2, h2, by omega, hr2⟩
    clear hr2 hr1 h1 hc1
    -- k
    refine c_asgS (es_take (m := d.m) (ea_cons (ev_var rfl) (ea_cons (ev_var rfl) ea_nil)) fm2.s pos (by omega)) ?_
    rintro _ H3 ⟨kk, rfl, hk, o3, s3⟩
    have fm3 := fm2.take nl o3 s3
    have hc3 := fm3.o _ _ nc hc
    refine c_appF hl nl fm3 (by decide) (ev_var rfl) ?_ fun H4 fm4 _ _ => ?_
    · exact ep_tup3 (v1 := .str "lower") (v2 := .int (n : Nat)) ev_c (ev_var rfl) (ep_eu (eu_slT (ev_var rfl) hc3 (ev_var rfl) (by rw [fnl_len]; exact hk))) fun w p H2 H3 _ ⟨a, ea, ha⟩ e23 h3 => by
        subst ea
        exact .lowC h3 (e23 _ _ ha) (by rw [List.length_take, fnl_len]; omega)
    have hc4 := fm4.o _ _ nc hc
    -- one item of the tuple exchanged
    have upb : ∀ v H H', Ex H H' → BadV H v → BadV H' v := fun v H H' e h => h.ex e
    refine c_forPL (H := H4) (H0 := H4) (n := 5) (R := fun v H => BadV H v) (Ex.refl H4) (epl_lst upb (epa_cons upb ?_ (epa_cons upb ?_ (epa_cons upb ?_ (epa_cons upb ?_ (epa_cons upb ?_ epa_nil))))) (by decide))
      (fun p vs i σ H' => (vs.length = 5 ∧ i ≤ 5 ∧ Fm st l d H (13 + i) H' ∧ p ≠ l ∧ p ≠ st ∧ H' p = some (.lst vs) ∧ ∀ v ∈ vs, BadV H' v) ∧ ∃ vv, σ = [some (.ref st), some (.int (d.m : Nat)), some (.bl bk), some (.int (n : Nat)), some (.ref c), some (.ref l), some (.int (kk : Nat)), vv, none, none, none])
      (fun p H5 vs hp e45 h5 hn5 hr5 => ⟨⟨hn5, Nat.zero_le _, fm4.ex e45, fun e => ?_, fun e => ?_, h5, hr5⟩, _, rfl⟩) (fun p vs i σ H' _ q => sq_of q.1.2.2.2.2.2.1) ?_ ?_
    · exact ep_of (v := .bl true) ev_c fun H2 e => .inl ⟨true, rfl⟩
    · exact ep_of (v := .non) ev_c fun H2 e => .inr (.inl rfl)
    · exact ep_of (v := .int (-1)) (ev_un ev_c ru_neg) fun H2 e => .inr (.inr (.inl ⟨-1, by decide, rfl⟩))
    · exact ep_tup (vs := [.int (s kk : Nat)]) (ea_cons (ev_op (ev_var rfl) (ev_var rfl) (rv_fT' hc4 hk rfl)) ea_nil) (by show 1 ≤ 100000; decide) fun p H2 e h => .inr (.inr (.inr (.inr ⟨p, _, rfl, h⟩)))
    · exact ep_of (v := .str "0") ev_c fun H2 e => .inr (.inr (.inr (.inl ⟨_, rfl⟩)))
    · obtain ⟨_, hw, _⟩ := fm4.ws
      rw [e, hw] at hp
      cases hp
    · obtain ⟨_, _, hw, _⟩ := fm4.s
      rw [e, hw] at hp
      cases hp
    · rintro p vs i v σ H5 hv ⟨⟨hn5, i5, fm5, npl, nps, hp, hb⟩, vv, rfl⟩
      have hi : i < vs.length := (List.getElem?_eq_some_iff.mp hv).1
      have hbv := hb v (List.mem_of_getElem? hv)
      have hc5 := fm5.o _ _ nc hc
      refine b_appF hl nl fm5 (by omega) (ev_var rfl) ?_ fun H6 fm6 o56 t56 => ⟨⟨hn5, by omega, fm6, npl, nps, o56 _ _ npl hp, fun u hu => (hb u hu).tl t56⟩, some v, rfl⟩
      refine ep_tup3 (v1 := .str "lower") (v2 := .int (n : Nat)) ev_c (ev_var rfl) (ep_cut3 (v := v) (ev_var rfl) hc5 (ev_var rfl) hk sm (ev_var rfl)) fun w p H2 H3 e2 ⟨a, ea, ha⟩ e23 h3 => ?_
      subst ea
      refine .low (s := s) (t := kk) h3 (e23 _ _ ha) fnl_len (Nat.le_of_lt hk) (fun j hj => ?_) (fun _ => ⟨rfl, v, ?_, hbv.ex (e2.trans e23)⟩) fun e => absurd e (Nat.ne_of_lt hk)
      · rw [fnl_get (Nat.lt_trans hj hk)]
        exact congrArg some (if_neg (Nat.ne_of_lt hj))
      · rw [fnl_get hk]
        exact congrArg some (if_pos rfl)
    · rintro p vs σ H5 ⟨⟨hn5, i5, fm5, npl, nps, hp, hb⟩, vv, rfl⟩
      -- one, two
      refine c_asgS (es_take (m := d.m) (ea_cons (ev_var rfl) (ea_cons (ev_var rfl) ea_nil)) fm5.s pos (by omega)) ?_
      rintro _ H6 ⟨one, rfl, h1, o6, s6⟩
      have fm6 := fm5.take nl o6 s6
      refine c_asgS (es_take (m := d.m) (ea_cons (ev_var rfl) (ea_cons (ev_var rfl) ea_nil)) fm6.s pos (by omega)) ?_
      rintro _ H7 ⟨two, rfl, h2, o7, s7⟩
      have fm7 := fm6.take nl o7 s7
      rw [hn5] at fm7
      have upf : ∀ v H H', Ex H H' → FailV H d v false → FailV H' d v false := fun v H H' e h => h.ex e
      have g0 : ∀ {i : Nat}, i < d.m → good d.m (.int (i : Nat)) = true := fun {i} hi => by
        rw [good_int, decide_eq_true (show (0 : Int) ≤ (i : Int) by omega), decide_eq_true (show (i : Int) < (d.m : Int) by omega)]
        rfl
      have gm : good d.m (.int (d.m : Nat)) = false := by
        rw [good_int, decide_eq_false (show ¬ (d.m : Int) < (d.m : Int) by omega), Bool.and_false]
      have gn : good d.m (.int (-1)) = false := rfl
      have gb : good d.m (.bl true) = false := rfl
      refine c_forPL (H := H7) (H0 := H7) (n := 7) (R := fun v H => FailV H d v false) (Ex.refl H7) (epl_lst upf (epa_cons upf ?_ (epa_cons upf ?_ (epa_cons upf ?_ (epa_cons upf ?_ (epa_cons upf ?_ (epa_cons upf ?_ (epa_cons upf ?_ epa_nil))))))) (by decide))
        (fun p vs i σ H' => (vs.length = 7 ∧ i ≤ 7 ∧ Fm st l d H (18 + i) H' ∧ p ≠ l ∧ p ≠ st ∧ H' p = some (.lst vs) ∧ ∀ v ∈ vs, FailV H' d v false) ∧ ∃ vv vt, σ = [some (.ref st), some (.int (d.m : Nat)), some (.bl bk), some (.int (n : Nat)), some (.ref c), some (.ref l), some (.int (kk : Nat)), vv, some (.int (one : Nat)), some (.int (two : Nat)), vt])
        (fun p H8 vs hp e78 h8 hn8 hr8 => ⟨⟨hn8, Nat.zero_le _, fm7.ex e78, fun e => ?_, fun e => ?_, h8, hr8⟩, _, _, rfl⟩) (fun p vs i σ H' _ q => sq_of q.1.2.2.2.2.2.1) ?_ ?_
      · exact ep_tup (vs := [.int (one : Nat), .int (two : Nat)]) (ea_cons (ev_var rfl) (ea_cons (ev_var rfl) ea_nil)) (by show 2 ≤ 100000; decide) fun p H2 e h => .len h (by show 2 ≠ 3; decide)
      · exact ep_tup (vs := [.int (one : Nat), .int (two : Nat), .int (kk : Nat), .int (kk : Nat)]) (ea_cons (ev_var rfl) (ea_cons (ev_var rfl) (ea_cons (ev_var rfl) (ea_cons (ev_var rfl) ea_nil)))) (by show 4 ≤ 100000; decide) fun p H2 e h => .len h (by show 4 ≠ 3; decide)
      · exact ep_lst (vs := [.int (one : Nat), .int (two : Nat), .int (kk : Nat)]) (ea_cons (ev_var rfl) (ea_cons (ev_var rfl) (ea_cons (ev_var rfl) ea_nil))) (by show 3 ≤ 100000; decide) fun p H2 e h => .lst h
      · exact ep_tup (vs := [.int (-1), .int (one : Nat), .int (two : Nat)]) (ea_cons (ev_un ev_c ru_neg) (ea_cons (ev_var rfl) (ea_cons (ev_var rfl) ea_nil))) (by show 3 ≤ 100000; decide) fun p H2 e h => .tri h trivial trivial trivial (by rw [gn]; rfl)
      · exact ep_tup (vs := [.int (one : Nat), .int (d.m : Nat), .int (two : Nat)]) (ea_cons (ev_var rfl) (ea_cons (ev_var rfl) (ea_cons (ev_var rfl) ea_nil))) (by show 3 ≤ 100000; decide) fun p H2 e h => .tri h trivial trivial trivial (by rw [gm, Bool.and_false]; rfl)
      · exact ep_tup (vs := [.int (one : Nat), .int (two : Nat), .int (-1)]) (ea_cons (ev_var rfl) (ea_cons (ev_var rfl) (ea_cons (ev_un ev_c ru_neg) ea_nil))) (by show 3 ≤ 100000; decide) fun p H2 e h => .tri h trivial trivial trivial (by rw [gn, Bool.and_false]; rfl)
      · exact ep_tup (vs := [.bl true, .int (one : Nat), .int (two : Nat)]) (ea_cons ev_c (ea_cons (ev_var rfl) (ea_cons (ev_var rfl) ea_nil))) (by show 3 ≤ 100000; decide) fun p H2 e h => .tri h trivial trivial trivial (by rw [gb]; rfl)
      · obtain ⟨_, hw, _⟩ := fm7.ws
        rw [e, hw] at hp
        cases hp
      · obtain ⟨_, _, hw, _⟩ := fm7.s
        rw [e, hw] at hp
        cases hp
      · rintro p vs i v σ H8 hv ⟨⟨hn8, i8, fm8, npl, nps, hp, hb⟩, vv, vt, rfl⟩
        have hi : i < vs.length := (List.getElem?_eq_some_iff.mp hv).1
        have hbv := hb v (List.mem_of_getElem? hv)
        refine b_appF hl nl fm8 (by omega) (ev_var rfl) ?_ fun H9 fm9 o89 t89 => ⟨⟨hn8, by omega, fm9, npl, nps, o89 _ _ npl hp, fun u hu => (hb u hu).tl t89⟩, vv, some v, rfl⟩
        exact ep_tup (vs := [.str "failure", v]) (ea_cons ev_c (ea_cons (ev_var rfl) ea_nil)) (by show 2 ≤ 100000; decide) fun p H2 e h => .fail h (hbv.ex e)
      · rintro p vs σ H8 ⟨⟨hn8, i8, fm8, npl, nps, hp, hb⟩, vv, vt, rfl⟩
        rw [hn8] at fm8
        refine c_appF hl nl fm8 (by decide) (ev_var rfl) ?_ fun H9 fm9 _ _ => ?_
        · exact ep_tup3m (v1 := .str "failure") (v3 := .int 7) ev_c (ep_eu (eu_tup (vs := [.int (one : Nat), .int (two : Nat), .int (kk : Nat)]) (ea_cons (ev_var rfl) (ea_cons (ev_var rfl) (ea_cons (ev_var rfl) ea_nil))) (by show 3 ≤ 100000; decide))) ev_c fun w p H2 H3 e2 r e23 h3 => .fail3 h3
        have fin : ∀ N H', Fm st l d H N H' → tRet (tVar 5) { nx := fun _ H' => Q .non H', rt := Q } [some (.ref st), some (.int (d.m : Nat)), some (.bl bk), some (.int (n : Nat)), some (.ref c), some (.ref l), some (.int (kk : Nat)), vv, some (.int (one : Nat)), some (.int (two : Nat)), vt] H' := fun N H' fm => by
          refine b_ret (H0 := H') (Ex.refl H') (ev_var (v := .ref l) rfl) fun H2 e _ => ?_
          obtain ⟨o, s, ws, w1, w2, w3⟩ := fm.ex e
          exact k l H2 ws hl o s w1 w3
        refine c_when (H0 := H9) (b := !bk) (Ex.refl H9) (et_not (et_B (ev_var rfl))) (fun ht H10 e910 _ => ?_) (fun ht H10 e910 _ => fin _ _ (fm9.ex e910))
        have nf := hnf (by simpa using ht)
        refine b_appF hl nl (fm9.ex e910) (by decide) (ev_var rfl) ?_ fun H11 fm11 _ _ => fin _ _ fm11
        refine ep_tup2 (v1 := .str "failure") ev_c (ep_eu (eu_tup (vs := [.int (one : Nat), .int (two : Nat), .int (kk : Nat)]) (ea_cons (ev_var rfl) (ea_cons (ev_var rfl) (ea_cons (ev_var rfl) ea_nil))) (by show 3 ≤ 100000; decide))) fun w p H2 H3 e2 ⟨a, ea, ha⟩ e23 h3 => ?_
        subst ea
        exact .fail h3 (.tri (e23 _ _ ha) trivial trivial trivial (by rw [g0 h1, g0 h2, g0 hk]; exact (nf one two kk h1 h2 hk).symm))
end
end K49
namespace K49
open PySem L2 Evl
/-! ### the evaluator -/
local macro_rules | `(tactic| wtm_at "k49sd") => `(tactic| first
  | (with_reducible assumption)
  | decide
  | omega
  | ((with_reducible refine' Lat.ml ?k0 _ _ ?k1 ?k2); (case k0 => (with_reducible assumption)); (case k1 => wtm_at "k49sd"); (case k2 => wtm_at "k49sd"))
  | ((with_reducible refine' Lat.jl ?k0 _ _ ?k1 ?k2); (case k0 => (with_reducible assumption)); (case k1 => wtm_at "k49sd"); (case k2 => wtm_at "k49sd")))
local macro_rules | `(tactic| wtm_at "k49rv") => `(tactic| first
  | (with_reducible exact rv_and)
  | (with_reducible exact rv_or)
  | ((with_reducible refine' rv_shl1 ?k1); (case k1 => wtm_at "k49sd"))
  | (with_reducible exact rv_I0)
  | ((with_reducible refine' rv_T2 ?k1 ?k2 ?k3); (case k1 => (with_reducible assumption)); (case k2 => wtm_at "k49sd"); (case k3 => wtm_at "k49sd"))
  | ((with_reducible refine' rv_T1 ?k1 ?k2); (case k1 => (with_reducible assumption)); (case k2 => wtm_at "k49sd"))
  | ((with_reducible refine' rv_L2 ?k1 ?k2 ?k3); (case k1 => (with_reducible assumption)); (case k2 => wtm_at "k49sd"); (case k3 => wtm_at "k49sd"))
  | ((with_reducible refine' rv_L1 ?k1 ?k2); (case k1 => (with_reducible assumption)); (case k2 => wtm_at "k49sd"))
  | ((with_reducible refine' rv_fT' ?k1 ?k2 ?k3); (case k1 => (with_reducible assumption)); (case k2 => wtm_at "k49sd"); (case k3 => exact rfl))
  | ((with_reducible refine' rv_fL' ?k1 ?k2 ?k3); (case k1 => (with_reducible assumption)); (case k2 => wtm_at "k49sd"); (case k3 => exact rfl))
  | ((with_reducible refine' rv_mod ?k1); (case k1 => wtm_at "k49sd"))
  | ((with_reducible refine' rv_shr ?k1); (case k1 => wtm_at "k49sd"))
  | ((with_reducible refine' rv_I (C := CMul) ?k1); (case k1 => (first | exact Or.inr ⟨by decide, by decide⟩ | exact Or.inl ⟨by decide, by decide⟩ | exact Or.inl ⟨by omega, by omega⟩ | exact Or.inr ⟨by omega, by omega⟩)))
  | ((with_reducible refine' rv_I (C := CDiv) ?k1); (case k1 => (first | exact ⟨by decide, by decide⟩ | exact ⟨by omega, by omega⟩)))
  | ((with_reducible refine' rv_I (C := CPow) ?k1); (case k1 => (first | exact ⟨by omega, by omega, by decide⟩ | exact ⟨by omega, by omega, by omega⟩)))
  | ((with_reducible refine' rv_eq ?k1); (case k1 => rfl))
  | ((with_reducible refine' rv_ne ?k1); (case k1 => rfl))
  | (with_reducible exact rv_isN) | (with_reducible exact rv_notN) | (with_reducible exact rv_isB) | (with_reducible exact rv_notB)
  | (with_reducible assumption))
local macro_rules | `(tactic| wtm_at "k49ev") => `(tactic| first
  | (with_reducible exact ev_c)
  | (exact ev_var rfl)
  | ((with_reducible refine' ev_op ?k1 ?k2 ?k3); (case k1 => wtm_at "k49ev"); (case k2 => wtm_at "k49ev"); (case k3 => wtm_at "k49rv"))
  | ((with_reducible refine' ev_un ?k1 ru_neg); (case k1 => wtm_at "k49ev"))
  | ((with_reducible refine' ev_int1 ?k1); (case k1 => wtm_at "k49ev"))
  | ((with_reducible refine' ev_abs ?k1); (case k1 => wtm_at "k49ev"))
  | ((with_reducible refine' ev_above ?k1 ?k2 ?k3 ?k4); (case k1 => wtm_at "k49ev"); (case k2 => (with_reducible assumption)); (case k3 => exact Tx.cl ‹_›); (case k4 => exact Tx.n_above ‹_›))
  | ((with_reducible refine' ev_joins ?k1 ?k2 ?k3 ?k4); (case k1 => wtm_at "k49ev"); (case k2 => (with_reducible assumption)); (case k3 => exact Tx.cl ‹_›); (case k4 => exact Tx.n_joins ‹_›))
  | ((with_reducible refine' ev_meets ?k1 ?k2 ?k3 ?k4); (case k1 => wtm_at "k49ev"); (case k2 => (with_reducible assumption)); (case k3 => exact Tx.cl ‹_›); (case k4 => exact Tx.n_meets ‹_›))
  | ((with_reducible refine' ev_lenfT ?k1 ?k2); (case k1 => wtm_at "k49ev"); (case k2 => (with_reducible assumption)))
  | ((with_reducible refine' ev_lenfL ?k1 ?k2); (case k1 => wtm_at "k49ev"); (case k2 => (with_reducible assumption)))
  | ((with_reducible refine' ev_lenT ?k1 ?k2); (case k1 => wtm_at "k49ev"); (case k2 => wtm_at "k49sq"))
  | ((with_reducible refine' ev_len ?k1 ?k2); (case k1 => wtm_at "k49ev"); (case k2 => wtm_at "k49sq"))
  | ((with_reducible refine' ev_call0 ?k1 ?k2); (case k1 => wtm_at "k49ea"); (case k2 => wtm_at "k49sp"))
  | ((with_reducible refine' ev_notV ?k1); (case k1 => wtm_at "k49ev"))
  | ((with_reducible refine' ev_andV ?k1 ?k2); (case k1 => wtm_at "k49ev"); (case k2 => (intro _; wtm_at "k49ev")))
  | ((with_reducible refine' ev_orV ?k1 ?k2); (case k1 => wtm_at "k49ev"); (case k2 => (intro _; wtm_at "k49ev"))))
local macro_rules | `(tactic| wtm_at "k49ea") => `(tactic| first
  | (with_reducible exact ea_nil)
  | ((with_reducible refine' ea_cons ?k1 ?k2); (case k1 => wtm_at "k49ev"); (case k2 => wtm_at "k49ea")))
local macro_rules | `(tactic| wtm_at "k49sq") => `(tactic| first
  | (with_reducible assumption)
  | (refine' sq_of ?k1; (case k1 => (with_reducible assumption)))
  | (refine' st_of ?k1; (case k1 => (with_reducible assumption))))
local macro_rules | `(tactic| wtm_at "k49et") => `(tactic| first
  | ((with_reducible refine' et_test ?k1); (case k1 => wtm_at "k49ev"))
  | ((with_reducible refine' et_B ?k1); (case k1 => wtm_at "k49ev"))
  | ((with_reducible refine' et_and ?k1 ?k2); (case k1 => wtm_at "k49et"); (case k2 => (intro _; wtm_at "k49et")))
  | ((with_reducible refine' et_or ?k1 ?k2); (case k1 => wtm_at "k49et"); (case k2 => (intro _; wtm_at "k49et")))
  | ((with_reducible refine' et_not ?k1); (case k1 => wtm_at "k49et")))

/-! ### the heap without the state -/
def del (H : Hp) (a : Addr) : Hp := fun b => if b = a then none else H b
theorem del_self {H : Hp} {a : Addr} : del H a a = none := if_pos rfl
theorem del_ne {H : Hp} {a b : Addr} (h : b ≠ a) : del H a b = H b := if_neg h
theorem del_ex (H : Hp) (a : Addr) : Ex (del H a) H := fun b o h => by
  by_cases e : b = a
  · rw [e, del_self] at h
    cases h
  · rwa [del_ne e] at h
theorem del_at {H : Hp} {a b : Addr} {o : HO} (h : H b = some o) (n : b ≠ a) : del H a b = some o := by rw [del_ne n, h]
theorem StA.ne {st a : Addr} {H : Hp} {o : HO} (s : StA st H) (h : H a = some o) (n : ∀ xs, o ≠ .lst xs) : a ≠ st := fun e => by
  obtain ⟨_, _, h1, _⟩ := s
  rw [e, h1] at h
  cases h
  exact n _ rfl
theorem TabT.del {st a : Addr} {H : Hp} {m : Nat} {T : Nat → Nat → Nat} {r : Nat → Addr} (h : TabT H a m T r) (s : StA st H) : TabT (K49.del H st) a m T r :=
  ⟨del_at h.top (s.ne h.top fun _ => nofun), fun x hx => del_at (h.row x hx) (s.ne (h.row x hx) fun _ => nofun)⟩
theorem LatAt.del {st C : Addr} {H : Hp} {d : LtD} (h : LatAt C H d) (s : StA st H) : LatAt C (K49.del H st) d :=
  ⟨del_at h.ob (s.ne h.ob fun _ => nofun), del_at h.ab (s.ne h.ab fun _ => nofun), h.tJ.del s, h.tM.del s, h.L⟩
theorem TbAt.del {st : Addr} {H G : Hp} {d : TbD} (h : TbAt H d) (s : StA st G) (f : G d.aJ = none ∧ G d.aM = none ∧ ∀ x, x < d.m → G (d.rJ x) = none ∧ G (d.rM x) = none) : TbAt (K49.del H st) d := by
  have ne : ∀ {a : Addr}, G a = none → a ≠ st := fun h e => by
    obtain ⟨_, _, h1, _⟩ := s
    rw [e, h1] at h
    cases h
  exact ⟨⟨del_at h.tJ.top (ne f.1), fun x hx => del_at (h.tJ.row x hx) (ne (f.2.2 x hx).1)⟩, ⟨del_at h.tM.top (ne f.2.1), fun x hx => del_at (h.tM.row x hx) (ne (f.2.2 x hx).2)⟩, h.L⟩
/-! ### the paper due -/
def DueR (m : Nat) (J M : Nat → Nat → Nat) (bk : Bool) : V → Hp → Prop := fun v H => ∃ p q, v = .ref p ∧
  ((bk = false ∧ NoFail m J M ∧ H p = some (.tup [.str "lower", .int ((irr m M).length : Nat), .ref q]) ∧ H q = some (.tup (imgV m M))) ∨
   (bk = true ∧ ∃ x y z, LeastFail m J M x y z ∧ H p = some (.tup [.str "failure", .ref q]) ∧ H q = some (.tup [.int (x : Nat), .int (y : Nat), .int (z : Nat)])))
theorem DueR.ex {m : Nat} {J M : Nat → Nat → Nat} {bk : Bool} {v : V} {H H' : Hp} (e : Ex H H') (h : DueR m J M bk v H) : DueR m J M bk v H' := by
  obtain ⟨p, q, rfl, ⟨h1, h2, h3, h4⟩ | ⟨h1, x, y, z, h2, h3, h4⟩⟩ := h
  · exact ⟨p, q, rfl, .inl ⟨h1, h2, e _ _ h3, e _ _ h4⟩⟩
  · exact ⟨p, q, rfl, .inr ⟨h1, x, y, z, h2, e _ _ h3, e _ _ h4⟩⟩
theorem DueR.del {m : Nat} {J M : Nat → Nat → Nat} {bk : Bool} {v : V} {H : Hp} {st : Addr} (s : StA st H) (h : DueR m J M bk v H) : DueR m J M bk v (K49.del H st) := by
  obtain ⟨p, q, rfl, ⟨h1, h2, h3, h4⟩ | ⟨h1, x, y, z, h2, h3, h4⟩⟩ := h
  · exact ⟨p, q, rfl, .inl ⟨h1, h2, del_at h3 (s.ne h3 fun _ => nofun), del_at h4 (s.ne h4 fun _ => nofun)⟩⟩
  · exact ⟨p, q, rfl, .inr ⟨h1, x, y, z, h2, del_at h3 (s.ne h3 fun _ => nofun), del_at h4 (s.ne h4 fun _ => nofun)⟩⟩
/-- its data -/
def dN (ns : List Nat) : List PyData := ns.map fun n => .int (n : Nat)
theorem dN_dp {K : PySem.W.Frag} {H : Hp} : ∀ ns : List Nat, DpAll K H (ns.map nv) (dN ns)
  | [] => .nil
  | n :: ns => .cons (.int (n : Nat)) (dN_dp ns)
theorem dN_lay : ∀ ns : List Nat, PyData.canLayAll0 (dN ns) = true
  | [] => rfl
  | n :: ns => by
    show (PyData.canLay0 (.int (n : Nat)) && PyData.canLayAll0 (dN ns)) = true
    rw [dN_lay ns]
    rfl
theorem dN_depth : ∀ ns : List Nat, PyData.depthAll (dN ns) = 0
  | [] => rfl
  | n :: ns => by
    show max (PyData.depth (.int (n : Nat))) (PyData.depthAll (dN ns)) = 0
    rw [dN_depth ns]
    rfl
def imgN (m : Nat) (M : Nat → Nat → Nat) : List Nat := (List.range m).map (img m M)
theorem imgV_nv {m : Nat} {M : Nat → Nat → Nat} : imgV m M = (imgN m M).map nv := by
  unfold imgV imgN fnl
  rw [List.map_map]
  rfl
def dLow (m : Nat) (M : Nat → Nat → Nat) : PyData := .tuple [.str "lower", .int ((irr m M).length : Nat), .tuple (dN (imgN m M))]
def dFail (x y z : Nat) : PyData := .tuple [.str "failure", .tuple (dN [x, y, z])]
theorem lay_low {m : Nat} {M : Nat → Nat → Nat} : SeqAt.shaped (dLow m M) = true := by
  have h1 : (dLow m M).canLay0 = true := by
    unfold dLow
    simp only [PyData.canLay0, PyData.canLayAll0, dN_lay, Bool.and_true]
    decide +kernel
  have h2 : (dLow m M).depth = 2 := by
    unfold dLow
    simp only [PyData.depth, PyData.depthAll, dN_depth]
    rfl
  unfold SeqAt.shaped
  rw [h1, h2]
  rfl
theorem lay_fail {x y z : Nat} : SeqAt.shaped (dFail x y z) = true := by
  have h1 : (dFail x y z).canLay0 = true := by
    unfold dFail
    simp only [PyData.canLay0, PyData.canLayAll0, dN_lay, Bool.and_true]
    decide +kernel
  have h2 : (dFail x y z).depth = 2 := by
    unfold dFail
    simp only [PyData.depth, PyData.depthAll, dN_depth]
    rfl
  unfold SeqAt.shaped
  rw [h1, h2]
  rfl
theorem due_same {K : PySem.W.Frag} {m : Nat} {J M : Nat → Nat → Nat} {b1 b2 : Bool} {v1 v2 : V} {H : Hp} (h1 : DueR m J M b1 v1 H) (h2 : DueR m J M b2 v2 H) : ∃ d, Dp K H v1 d ∧ Dp K H v2 d ∧ SeqAt.shaped d = true := by
  have low : ∀ {p q : Addr}, H p = some (.tup [.str "lower", .int ((irr m M).length : Nat), .ref q]) → H q = some (.tup (imgV m M)) → Dp K H (.ref p) (dLow m M) := fun {p q} a b =>
    .tup (st_of a) (.cons (.str _) (.cons (.int _) (.cons (.tup (xs := (imgN m M).map nv) (st_of (by rw [← imgV_nv]; exact b)) (dN_dp _)) .nil)))
  have fai : ∀ {p q : Addr} {x y z : Nat}, H p = some (.tup [.str "failure", .ref q]) → H q = some (.tup [.int (x : Nat), .int (y : Nat), .int (z : Nat)]) → Dp K H (.ref p) (dFail x y z) := fun {p q x y z} a b =>
    .tup (st_of a) (.cons (.str _) (.cons (.tup (xs := [x, y, z].map nv) (st_of b) (dN_dp _)) .nil))
  obtain ⟨p, q, rfl, ⟨a1, a2, a3, a4⟩ | ⟨a1, x, y, z, a2, a3, a4⟩⟩ := h1 <;> obtain ⟨p', q', rfl, ⟨c1, c2, c3, c4⟩ | ⟨c1, x', y', z', c2, c3, c4⟩⟩ := h2
  · exact ⟨_, low a3 a4, low c3 c4, lay_low⟩
  · exact absurd a2 fun h => c2.not h
  · exact absurd c2 fun h => a2.not h
  · obtain ⟨rfl, rfl, rfl⟩ := a2.uniq c2
    exact ⟨_, fai a3 a4, fai c3 c4, lay_fail⟩
section
variable {K : PySem.W.Frag} {σ : L2.St} {H H' H0 : Hp} {ta tb te tc to tx : TE} {t : TA} {x y z v v1 v2 v3 : V} {D : Ends} {tz tu tw : TS} {R R' : V → Hp → Prop} {n : Nat} {E : XK} {g : TG}
theorem ep_call {sp : Sp} {vs : List V} (h : EvA t σ H vs) (hs : ∀ H1, Ex H H1 → ∀ Q : VK, (∀ v H2, Ex H1 H2 → R v H2 → Q v H2) → sp vs H1 Q E) : EvP2 (tCall sp [] E t) σ H R := fun H1 e Q q => h H1 e _ fun H2 e2 => by
  rw [List.append_nil]
  exact hs H2 (e.trans e2) Q fun v H3 e3 r => q v H3 (e2.trans e3) r
theorem ep_due {d : TbD} (h : EvA t σ H [.ref d.aJ, .ref d.aM]) (hT : TbAt H d) : EvP2 (tCall spDue [] E t) σ H (fun v H => ∃ bk, DueR d.m d.J d.M bk v H) := ep_call h fun H1 e Q q =>
  ⟨d, rfl, hT.ex e, fun nf p r H2 _ e2 h1 h2 => q _ H2 e2 ⟨false, p, r, rfl, .inl ⟨rfl, nf, h1, h2⟩⟩, fun x y z lf p r H2 _ e2 h1 h2 => q _ H2 e2 ⟨true, p, r, rfl, .inr ⟨rfl, x, y, z, lf, h1, h2⟩⟩⟩
theorem ep_paper {C : Addr} {d : LtD} (h : EvA t σ H [.ref d.p]) (hL : LatAt C H d) : EvP2 (tCall (spPaper C) [] E t) σ H (fun v H => ∃ bk, DueR d.m d.J d.M bk v H) := ep_call h fun H1 e Q q =>
  ⟨d, rfl, hL.ex e, fun nf p r H2 _ e2 h1 h2 => q _ H2 e2 ⟨false, p, r, rfl, .inl ⟨rfl, nf, h1, h2⟩⟩, fun x y z lf p r H2 _ e2 h1 h2 => q _ H2 e2 ⟨true, p, r, rfl, .inr ⟨rfl, x, y, z, lf, h1, h2⟩⟩⟩
theorem ep_same {m : Nat} {J M : Nat → Nat → Nat} {bk : Bool} (h1 : EvP2 ta σ H (fun v H => ∃ bk, DueR m J M bk v H)) (h2 : Ev tb σ H v) (hd : DueR m J M bk v H) : Ev (tOp (rNeD K) ta tb) σ H (.bl false) := fun H1 e Q q =>
  h1 H1 e _ fun u H2 e2 ⟨b2, hu⟩ => h2 H2 (e.trans e2) _ fun H3 e3 => by
    obtain ⟨d, d1, d2, d3⟩ := due_same (K := K) (hu.ex e3) (hd.ex ((e.trans e2).trans e3))
    refine ⟨d, d, d1, d2, d3, d3, ?_⟩
    rw [SeqAt.eqv_refl d (SeqAt.canLay_of_shaped d3)]
    exact q H3 (e2.trans e3)
theorem c_asgP {i : Nat} (e : Ex H0 H) (h : EvP2 te σ H0 R) (k : ∀ v H1, Ex H H1 → R v H1 → tz D (σ.set i (some v)) H1) : tSeq (tAsg te (gName i)) tz D σ H := h H e _ k
theorem ev_takes {C : Addr} {d : LtD} {b : Bool} (ho : Ev to σ H (.ref d.p)) (hL : LatAt C H d) (h : EvP2 tc σ H (fun v H => TakeV H d v b)) : Ev (tCall (spTakes C) [] E (tCons to (tCons tc tNil))) σ H (.bl b) := fun H1 e Q q =>
  ho H1 e _ fun H2 e2 => h H2 (e.trans e2) _ fun v H3 e3 r => by
    show spTakes C ([.ref d.p, v] ++ []) H3 Q E
    rw [List.append_nil]
    exact ⟨d, v, b, rfl, hL.ex ((e.trans e2).trans e3), r, fun H4 e4 => q H4 ((e2.trans e3).trans e4)⟩
/-! ### what changes the state -/
theorem c_asgS2 {i j : Nat} (h : EvS te σ H R) (k : ∀ v H1, R v H1 → ∃ a x y, v = .ref a ∧ H1 a = some (.tup [x, y]) ∧ tz D ((σ.set i (some x)).set j (some y)) H1) : tSeq (tAsg te (gTup K 2 (gCons (gName i) (gCons (gName j) gNil)))) tz D σ H := h _ fun v H1 r => by
  obtain ⟨a, x, y, rfl, h1, h2⟩ := k v H1 r
  exact ⟨a, [x, y], rfl, st_of h1, rfl, x, [y], rfl, y, [], rfl, rfl, h2⟩
theorem es_of (h : EvP2 te σ H R) : EvS te σ H (fun v H1 => Ex H H1 ∧ R v H1) := fun Q q => h H (Ex.refl H) Q fun v H1 e r => q v H1 ⟨e, r⟩
theorem es_state {a : Addr} {ns : List Int} (h : EvA t σ H [.ref a]) (ha : SqL K H a (ns.map V.int)) : EvS (tCall (spState K) [] E t) σ H (fun v H1 => ∃ st, v = .ref st ∧ StA st H1) := fun Q q => h H (Ex.refl H) _ fun H1 e1 =>
  ⟨a, ns, rfl, ex_l e1 ha, fun p H2 _ _ s2 => q _ H2 ⟨p, rfl, s2⟩⟩
theorem es_family {st : Addr} (h : EvA t σ H [.ref st]) (s : StA st H) : EvS (tCall spFamily [] E t) σ H (fun v H1 => ∃ fa m s, v = .ref fa ∧ Fam m s ∧ fa ≠ st ∧ StA st H1 ∧ H1 fa = some (.lst (fnl m fun x => .int (s x : Nat)))) := fun Q q => h H (Ex.refl H) _ fun H1 e1 =>
  ⟨st, rfl, s.ex e1, fun p H2 m f F hp _ s2 h2 => q _ H2 ⟨p, m, f, rfl, F, (fun e => by
    obtain ⟨_, _, h, _⟩ := s.ex e1
    rw [← e, hp] at h
    cases h), s2, h2⟩⟩
theorem es_tables {fa : Addr} {m : Nat} {s : Nat → Nat} (h : EvA t σ H [.ref fa]) (F : Fam m s) (hf : H fa = some (.lst (fnl m fun x => .int (s x : Nat)))) : EvS (tCall spTables [] E t) σ H (fun v H1 => ∃ p d, v = .ref p ∧ d.m = m ∧ d.J = jnF m s ∧ d.M = mtF m s ∧ Ex H H1 ∧ TbAt H1 d ∧
    (H d.aJ = none ∧ H d.aM = none ∧ ∀ x, x < m → H (d.rJ x) = none ∧ H (d.rM x) = none) ∧ H1 p = some (.tup [.ref d.aJ, .ref d.aM])) := fun Q q => h H (Ex.refl H) _ fun H1 e1 =>
  ⟨fa, m, s, rfl, F, e1 _ _ hf, fun p d H2 h1 h2 h3 e2 hT hfr hp => q _ H2 ⟨p, d, rfl, h1, h2, h3, e1.trans e2, hT, ⟨fresh_back e1 hfr.1, fresh_back e1 hfr.2.1, fun x hx => ⟨fresh_back e1 (hfr.2.2 x hx).1, fresh_back e1 (hfr.2.2 x hx).2⟩⟩, hp⟩⟩
theorem es_lattice {C fa : Addr} {f : Nat → V} {d : TbD} (h : EvA t σ H [.ref fa, .ref d.aM]) (hf : H fa = some (.lst (fnl d.m f))) (hT : TbAt H d) : EvS (tCall (spLattice C) [] E t) σ H (fun v H1 => ∃ l : LtD, v = .ref l.p ∧ l.m = d.m ∧ l.J = d.J ∧ l.M = d.M ∧ Ex H H1 ∧ LatAt C H1 l) := fun Q q => h H (Ex.refl H) _ fun H1 e1 =>
  ⟨fa, f, d, rfl, e1 _ _ hf, hT.ex e1, fun l H2 h1 h2 h3 e2 hL => q _ H2 ⟨l, rfl, h1, h2, h3, e1.trans e2, hL⟩⟩
theorem es_triple {st : Addr} {m : Nat} (h1 : ∀ H1, StA st H1 → EvS ta σ H1 (Took st m H1)) (h2 : ∀ H1, StA st H1 → EvS tb σ H1 (Took st m H1)) (h3 : ∀ H1, StA st H1 → EvS tc σ H1 (Took st m H1)) (s : StA st H) :
    EvS (tTup (tCons ta (tCons tb (tCons tc tNil)))) σ H (fun v H1 => ∃ p a b c, v = .ref p ∧ a < m ∧ b < m ∧ c < m ∧ H1 p = some (.tup [.int (a : Nat), .int (b : Nat), .int (c : Nat)]) ∧ Off st H H1 ∧ StA st H1) := fun Q q =>
  h1 H s _ fun _ H1 ⟨a, e1, a1, o1, s1⟩ => h2 H1 s1 _ fun _ H2 ⟨b, e2, a2, o2, s2⟩ => h3 H2 s2 _ fun _ H3 ⟨c, e3, a3, o3, s3⟩ => ⟨sz_of (by show 3 ≤ 100000; decide), fun p hp => q _ _ ⟨p, a, b, c, rfl, a1, a2, a3, by rw [upd_same, e1, e2, e3], ((o1.trans o2).trans o3).trans (Off.of (Ex.new hp)), s3.ex (Ex.new hp)⟩⟩
theorem es_images {st : Addr} {m j : Nat} {vs : List Nat} (h : EvA t σ H [.int (m : Nat)]) (hm : m ≤ 16) (s : StA st H) (hw : ∀ x, wipe ((wipe σ vs).set j (some x)) vs = wipe σ vs) (he : ∀ (i : Nat) H1, StA st H1 → i < m → EvS te ((wipe σ vs).set j (some (.int (i : Int)))) H1 (Took st 8 H1)) :
    EvS (tCB (rTupO K) (tCons (tLc (iRng1 t) (gName j) tYes te vs) tNil)) σ H (fun v H1 => ∃ (p : Addr) (f : Nat → Nat), v = .ref p ∧ H1 p = some (.tup (fnl m fun x => .int (f x : Nat))) ∧ (∀ x, x < m → f x < 8) ∧ Off st H H1 ∧ StA st H1) := fun Q q =>
  h H (Ex.refl H) _ fun H1 e1 => ⟨(m : Int), rfl, by omega, by omega, fun Dl hD => by
    have nd : Dl ≠ st := fun e => by
      obtain ⟨_, _, h1, _⟩ := s.ex e1
      rw [← e, hD] at h1
      cases h1
    refine lc_range (lo := 0) (n := (m : Int).toNat) (fun i H' => Off st H H' ∧ StA st H' ∧ ∃ f : Nat → Nat, H' Dl = some (.lst (fnl i fun x => .int (f x : Nat))) ∧ ∀ x, x < i → f x < 8) ⟨(Off.of e1).trans (Off.of (Ex.new hD)), (s.ex e1).ex (Ex.new hD), fun _ => 0, upd_same, fun x hx => absurd hx (Nat.not_lt_zero _)⟩ (fun i H' hi p => ?_) fun H' p => ?_
    · have e0 : (0 : Int) + (i : Int) = (i : Int) := Int.zero_add _
      obtain ⟨o, s', f, h1, h2⟩ := p
      show wipe ((wipe σ vs).set j (some (.int ((0 : Int) + (i : Int))))) vs = wipe σ vs ∧ te ((wipe σ vs).set j (some (.int ((0 : Int) + (i : Int))))) H' fun y H4 => ∃ acc, H4 Dl = some (.lst acc) ∧ acc.length < sizeLine ∧ _
      rw [e0]
      refine ⟨hw _, he i H' s' (by omega) _ fun _ H4 ⟨k, e, hk, o4, s4⟩ => ⟨_, o4 _ _ nd h1, sz_lt (by rw [fnl_len]; omega), fun b u hb hu => ?_, ?_, fun x => if x = i then k else f x, ?_, fun x hx => ?_⟩⟩
      · have hd : Dl ≠ b := fun e => by
          subst e
          rw [fresh_back e1 hD] at hu
          cases hu
        rw [upd_ne fun e => hd e.symm]
        exact (o.trans o4) b u hb hu
      · obtain ⟨x, y, q1, q2⟩ := s4
        exact ⟨x, y, by rw [upd_ne fun e => nd e.symm]; exact q1, q2⟩
      · subst e
        rw [upd_same, fnl_succ]
        dsimp only
        rw [if_pos rfl]
        refine congrArg (fun l => some (HO.lst (l ++ [V.int (k : Nat)]))) (fnl_congr fun x hx => ?_)
        rw [if_neg (Nat.ne_of_lt hx)]
      · dsimp only
        by_cases e : x = i
        · rw [if_pos e]
          exact hk
        · rw [if_neg e]
          exact h2 x (by omega)
    · obtain ⟨o, s', f, h1, h2⟩ := p
      rw [Int.toNat_natCast] at h1 h2
      exact ⟨Dl, _, rfl, .inl ⟨sq_of h1, fun l hl => q _ _ ⟨l, f, rfl, upd_same, h2, o.trans (Off.of (Ex.new hl)), s'.ex (Ex.new hl)⟩⟩⟩⟩
theorem es_forms {st c : Addr} {d : LtD} {bk : Bool} {s : Nat → Nat} (h : EvA t σ H [.ref st, .int (d.m : Nat), .bl bk, .int (n : Nat), .ref c]) (hs : StA st H) (L : Lat d.m d.J d.M) (hc : H c = some (.tup (fnl d.m fun x => .int (s x : Nat)))) (nf : bk = false → NoFail d.m d.J d.M) :
    EvS (tCall spForms [] E t) σ H (fun v H1 => ∃ p ws, v = .ref p ∧ Off st H H1 ∧ H1 p = some (.lst ws) ∧ ∀ v ∈ ws, TakeV H1 d v false) := fun Q q => h H (Ex.refl H) _ fun H1 e1 =>
  ⟨st, c, d, bk, n, s, rfl, hs.ex e1, L, e1 _ _ hc, nf, fun p H2 ws _ o2 _ h2 h3 => q _ H2 ⟨p, ws, rfl, (Off.of e1).trans o2, h2, h3⟩⟩
theorem c_forLS (h : EvS te σ H R) (hr : ∀ v H1, R v H1 → ∃ p vs, v = .ref p ∧ H1 p = some (.lst vs) ∧ ∃ Pv : Nat → L2.St → Hp → Prop, Pv 0 σ H1 ∧ (∀ i σ' H', i ≤ vs.length → Pv i σ' H' → SqL K H' p vs) ∧
    (∀ i x σ' H', vs[i]? = some x → Pv i σ' H' → g x σ' H' fun σ2 H2 => tu { D with nx := Pv (i + 1), ct := Pv (i + 1), bk := tz D } σ2 H2) ∧ ∀ σ' H', Pv vs.length σ' H' → tz D σ' H') : tSeq (tFor (iList K te) g tu) tz D σ H := h _ fun v H1 r => by
  obtain ⟨p, vs, rfl, h1, Pv, p0, pl, ps, pd⟩ := hr v H1 r
  exact ⟨p, rfl, ⟨vs, sq_of h1⟩, for_list (D := { D with nx := tz D }) Pv p0 pl ps pd⟩
theorem c_whenJ {t : TT} {b : Bool} (J : L2.St → Hp → Prop) (k : ∀ σ' H', J σ' H' → tz D σ' H') (e : Ex H0 H) (h : EvT t σ H0 b) (h1 : (∀ σ' H', J σ' H' → tz D σ' H') → b = true → ∀ H1, Ex H H1 → Ex H0 H1 → tu { D with nx := tz D } σ H1) (h2 : b = false → ∀ H1, Ex H H1 → Ex H0 H1 → J σ H1) : tSeq (tIfS t tu tNext) tz D σ H :=
  c_when e h (h1 k) fun hb H1 e1 e2 => k _ _ (h2 hb H1 e1 e2)
/-! ### the tries -/
def TryV (m : Nat) : V → Hp → Prop := fun v H => ∃ (p c : Addr) (n : Nat) (s : Nat → Nat), v = .ref p ∧ H p = some (.tup [.int (n : Nat), .ref c]) ∧ H c = some (.tup (fnl m fun x => .int (s x : Nat))) ∧ n ≤ 1000 ∧ ∀ x, x < m → s x < 131072
theorem TryV.tl {m : Nat} (e : Tl H H') (h : TryV m v H) : TryV m v H' := by
  obtain ⟨p, c, n, s, rfl, h1, h2, h3, h4⟩ := h
  exact ⟨p, c, n, s, rfl, e.t _ _ h1, e.t _ _ h2, h3, h4⟩
theorem ep_try {m : Nat} {s : Nat → Nat} (h1 : Ev ta σ H (.int (n : Nat))) (h2 : EvP2 tc σ H (IsT (fnl m fun x => .int (s x : Nat)))) (hn : n ≤ 1000) (hs : ∀ x, x < m → s x < 131072) : EvP2 (tTup (tCons ta (tCons tc tNil))) σ H (TryV m) :=
  ep_tup2 h1 h2 fun w p H2 H3 e2 ⟨a, ea, ha⟩ e23 h3 => by
    subst ea
    exact ⟨p, a, n, s, rfl, h3, e23 _ _ ha, hn, hs⟩
/-- tuple([32 * x for x in a list]), in a tuple -/
theorem eu_32L {a : Addr} {m j : Nat} {s : Nat → Nat} {vs : List Nat} (h : Ev ta σ H (.ref a)) (ha : H a = some (.lst (fnl m fun x => .int (s x : Nat)))) (hm : m ≤ 16) (hs : ∀ x, x < m → s x < 1000) (hw : ∀ x, wipe ((wipe σ vs).set j (some x)) vs = wipe σ vs) (hj : ∀ x, ((wipe σ vs).set j (some x))[j]? = some (some x)) :
    EvU (tCB (rTupO K) (tCons (tLc (iList K ta) (gName j) tYes (tOp (rI CMul fun i j => .int (i * j)) (tC (.int 32)) (tVar j)) vs) tNil)) σ H (fnl m fun x => .int ((32 * s x : Nat) : Nat)) := by
  have el := el_lcL (K := K) (te := tOp (rI CMul fun i j => .int (i * j)) (tC (.int 32)) (tVar j)) (t := tYes) (vs := vs) (j := j) (σ := σ) (fun _ => true) (fun x => .int ((32 * s x : Nat) : Nat)) h (sq_of ha) (by rw [fnl_len]; omega) hw (fun i x H2 e12 hx => et_yes) fun i x H2 e12 hx _ => by
    obtain ⟨hi, rfl⟩ := fnl_of hx
    have := hs i hi
    rw [Int.natCast_mul]
    exact ev_op ev_c (ev_var (hj _)) (rv_I (C := CMul) (.inl ⟨by decide, by decide⟩))
  rw [fnl_len, given_all] at el
  exact eu_tupN el
theorem eu_32T {a : Addr} {m j : Nat} {s : Nat → Nat} {vs : List Nat} (h : Ev ta σ H (.ref a)) (ha : H a = some (.tup (fnl m fun x => .int (s x : Nat)))) (hm : m ≤ 16) (hs : ∀ x, x < m → s x < 1000) (hw : ∀ x, wipe ((wipe σ vs).set j (some x)) vs = wipe σ vs) (hj : ∀ x, ((wipe σ vs).set j (some x))[j]? = some (some x)) :
    EvU (tCB (rTupO K) (tCons (tLc (iTup K ta) (gName j) tYes (tOp (rI CMul fun i j => .int (i * j)) (tC (.int 32)) (tVar j)) vs) tNil)) σ H (fnl m fun x => .int ((32 * s x : Nat) : Nat)) := by
  have el : EvL (tLc (iTup K ta) (gName j) tYes (tOp (rI CMul fun i j => .int (i * j)) (tC (.int 32)) (tVar j)) vs) σ H (given (fnl m fun x => V.int (s x : Nat)).length (fun _ => true) fun x => .int ((32 * s x : Nat) : Nat)) := fun H0 e Q q => h H0 e _ fun H1 e1 => ⟨a, rfl, ⟨_, st_of ((e.trans e1) _ _ ha)⟩, fun Dl hD =>
    lc_tup (xs := fnl m fun x => .int (s x : Nat)) (Cw H1 (fun _ => true) (fun x => .int ((32 * s x : Nat) : Nat)) Dl) ⟨hD, Ex.new hD, upd_same⟩ (fun i H' _ p => st_of (p.2.1 a _ ((e.trans e1) _ _ ha))) (fun i x H' hi p => ⟨hw x, cw_turn p (by have := (List.getElem?_eq_some_iff.mp hi).1; rw [fnl_len] at this; omega) et_yes (fun _ => by
      obtain ⟨hi', rfl⟩ := fnl_of hi
      have := hs i hi'
      rw [Int.natCast_mul]
      exact ev_op ev_c (ev_var (hj _)) (rv_I (C := CMul) (.inl ⟨by decide, by decide⟩)))⟩)
      (fun H' p => q Dl H' (fresh_back e1 p.1) (e1.trans p.2.1) p.2.2)⟩
  rw [fnl_len, given_all] at el
  exact eu_tupN el
theorem ep_32L {fa : Addr} {m : Nat} {s : Nat → Nat} (hl : σ.length = 20) (h1 : Ev ta σ H (.int (n : Nat))) (h : Ev tb σ H (.ref fa)) (ha : H fa = some (.lst (fnl m fun x => .int (s x : Nat)))) (hm : m ≤ 16) (hs : ∀ x, x < m → s x < 16) (hn : n ≤ 1000) :
    EvP2 (tTup (tCons ta (tCons (tCB (rTupO K) (tCons (tLc (iList K tb) (gName 19) tYes (tOp (rI CMul fun i j => .int (i * j)) (tC (.int 32)) (tVar 19)) [19]) tNil)) tNil))) σ H (TryV m) := by
  have h2 := eu_32L (K := K) (vs := [19]) (j := 19) h ha hm (fun x hx => Nat.lt_trans (hs x hx) (by decide)) (fun x => by show ((σ.set 19 none).set 19 (some x)).set 19 none = σ.set 19 none; rw [List.set_set, List.set_set]) (fun x => by show ((σ.set 19 none).set 19 (some x))[19]? = some (some x); rw [List.getElem?_set_self (by rw [List.length_set, hl]; decide)])
  exact ep_try (s := fun x => 32 * s x) h1 (ep_eu h2) hn fun x hx => by have := hs x hx; omega
theorem ep_32T {fa : Addr} {m : Nat} {s : Nat → Nat} (hl : σ.length = 20) (h1 : Ev ta σ H (.int (n : Nat))) (h : Ev tb σ H (.ref fa)) (ha : H fa = some (.tup (fnl m fun x => .int (s x : Nat)))) (hm : m ≤ 16) (hs : ∀ x, x < m → s x < 16) (hn : n ≤ 1000) :
    EvP2 (tTup (tCons ta (tCons (tCB (rTupO K) (tCons (tLc (iTup K tb) (gName 19) tYes (tOp (rI CMul fun i j => .int (i * j)) (tC (.int 32)) (tVar 19)) [19]) tNil)) tNil))) σ H (TryV m) := by
  have h2 := eu_32T (K := K) (vs := [19]) (j := 19) h ha hm (fun x hx => Nat.lt_trans (hs x hx) (by decide)) (fun x => by show ((σ.set 19 none).set 19 (some x)).set 19 none = σ.set 19 none; rw [List.set_set, List.set_set]) (fun x => by show ((σ.set 19 none).set 19 (some x))[19]? = some (some x); rw [List.getElem?_set_self (by rw [List.length_set, hl]; decide)])
  exact ep_try (s := fun x => 32 * s x) h1 (ep_eu h2) hn fun x hx => by have := hs x hx; omega
end
end K49
namespace K49
open PySem L2 Evl
/-! ### the evaluator -/
local macro_rules | `(tactic| wtm_at "k49sd") => `(tactic| first
  | (with_reducible assumption)
  | decide
  | omega
  | ((with_reducible refine' Lat.ml ?k0 _ _ ?k1 ?k2); (case k0 => (with_reducible assumption)); (case k1 => wtm_at "k49sd"); (case k2 => wtm_at "k49sd"))
  | ((with_reducible refine' Lat.jl ?k0 _ _ ?k1 ?k2); (case k0 => (with_reducible assumption)); (case k1 => wtm_at "k49sd"); (case k2 => wtm_at "k49sd")))
local macro_rules | `(tactic| wtm_at "k49rv") => `(tactic| first
  | (with_reducible exact rv_and)
  | (with_reducible exact rv_or)
  | ((with_reducible refine' rv_shl1 ?k1); (case k1 => wtm_at "k49sd"))
  | (with_reducible exact rv_I0)
  | ((with_reducible refine' rv_T2 ?k1 ?k2 ?k3); (case k1 => (with_reducible assumption)); (case k2 => wtm_at "k49sd"); (case k3 => wtm_at "k49sd"))
  | ((with_reducible refine' rv_T1 ?k1 ?k2); (case k1 => (with_reducible assumption)); (case k2 => wtm_at "k49sd"))
  | ((with_reducible refine' rv_L2 ?k1 ?k2 ?k3); (case k1 => (with_reducible assumption)); (case k2 => wtm_at "k49sd"); (case k3 => wtm_at "k49sd"))
  | ((with_reducible refine' rv_L1 ?k1 ?k2); (case k1 => (with_reducible assumption)); (case k2 => wtm_at "k49sd"))
  | ((with_reducible refine' rv_fT' ?k1 ?k2 ?k3); (case k1 => (with_reducible assumption)); (case k2 => wtm_at "k49sd"); (case k3 => exact rfl))
  | ((with_reducible refine' rv_fL' ?k1 ?k2 ?k3); (case k1 => (with_reducible assumption)); (case k2 => wtm_at "k49sd"); (case k3 => exact rfl))
  | ((with_reducible refine' rv_mod ?k1); (case k1 => wtm_at "k49sd"))
  | ((with_reducible refine' rv_shr ?k1); (case k1 => wtm_at "k49sd"))
  | ((with_reducible refine' rv_I (C := CMul) ?k1); (case k1 => (first | exact Or.inr ⟨by decide, by decide⟩ | exact Or.inl ⟨by decide, by decide⟩ | exact Or.inl ⟨by omega, by omega⟩ | exact Or.inr ⟨by omega, by omega⟩)))
  | ((with_reducible refine' rv_I (C := CDiv) ?k1); (case k1 => (first | exact ⟨by decide, by decide⟩ | exact ⟨by omega, by omega⟩)))
  | ((with_reducible refine' rv_I (C := CPow) ?k1); (case k1 => (first | exact ⟨by omega, by omega, by decide⟩ | exact ⟨by omega, by omega, by omega⟩)))
  | ((with_reducible refine' rv_eq ?k1); (case k1 => rfl))
  | ((with_reducible refine' rv_ne ?k1); (case k1 => rfl))
  | (with_reducible exact rv_isN) | (with_reducible exact rv_notN) | (with_reducible exact rv_isB) | (with_reducible exact rv_notB)
  | (with_reducible assumption))
local macro_rules | `(tactic| wtm_at "k49ev") => `(tactic| first
  | (with_reducible exact ev_c)
  | (exact ev_var rfl)
  | ((with_reducible refine' ev_op ?k1 ?k2 ?k3); (case k1 => wtm_at "k49ev"); (case k2 => wtm_at "k49ev"); (case k3 => wtm_at "k49rv"))
  | ((with_reducible refine' ev_un ?k1 ru_neg); (case k1 => wtm_at "k49ev"))
  | ((with_reducible refine' ev_int1 ?k1); (case k1 => wtm_at "k49ev"))
  | ((with_reducible refine' ev_abs ?k1); (case k1 => wtm_at "k49ev"))
  | ((with_reducible refine' ev_above ?k1 ?k2 ?k3 ?k4); (case k1 => wtm_at "k49ev"); (case k2 => (with_reducible assumption)); (case k3 => exact Tx.cl ‹_›); (case k4 => exact Tx.n_above ‹_›))
  | ((with_reducible refine' ev_joins ?k1 ?k2 ?k3 ?k4); (case k1 => wtm_at "k49ev"); (case k2 => (with_reducible assumption)); (case k3 => exact Tx.cl ‹_›); (case k4 => exact Tx.n_joins ‹_›))
  | ((with_reducible refine' ev_meets ?k1 ?k2 ?k3 ?k4); (case k1 => wtm_at "k49ev"); (case k2 => (with_reducible assumption)); (case k3 => exact Tx.cl ‹_›); (case k4 => exact Tx.n_meets ‹_›))
  | ((with_reducible refine' ev_lenfT ?k1 ?k2); (case k1 => wtm_at "k49ev"); (case k2 => (with_reducible assumption)))
  | ((with_reducible refine' ev_lenfL ?k1 ?k2); (case k1 => wtm_at "k49ev"); (case k2 => (with_reducible assumption)))
  | ((with_reducible refine' ev_lenT ?k1 ?k2); (case k1 => wtm_at "k49ev"); (case k2 => wtm_at "k49sq"))
  | ((with_reducible refine' ev_len ?k1 ?k2); (case k1 => wtm_at "k49ev"); (case k2 => wtm_at "k49sq"))
  | ((with_reducible refine' ev_call0 ?k1 ?k2); (case k1 => wtm_at "k49ea"); (case k2 => wtm_at "k49sp"))
  | ((with_reducible refine' ev_notV ?k1); (case k1 => wtm_at "k49ev"))
  | ((with_reducible refine' ev_andV ?k1 ?k2); (case k1 => wtm_at "k49ev"); (case k2 => (intro _; wtm_at "k49ev")))
  | ((with_reducible refine' ev_orV ?k1 ?k2); (case k1 => wtm_at "k49ev"); (case k2 => (intro _; wtm_at "k49ev"))))
local macro_rules | `(tactic| wtm_at "k49ea") => `(tactic| first
  | (with_reducible exact ea_nil)
  | ((with_reducible refine' ea_cons ?k1 ?k2); (case k1 => wtm_at "k49ev"); (case k2 => wtm_at "k49ea")))
local macro_rules | `(tactic| wtm_at "k49sq") => `(tactic| first
  | (with_reducible assumption)
  | (refine' sq_of ?k1; (case k1 => (with_reducible assumption)))
  | (refine' st_of ?k1; (case k1 => (with_reducible assumption))))
local macro_rules | `(tactic| wtm_at "k49et") => `(tactic| first
  | ((with_reducible refine' et_test ?k1); (case k1 => wtm_at "k49ev"))
  | ((with_reducible refine' et_B ?k1); (case k1 => wtm_at "k49ev"))
  | ((with_reducible refine' et_and ?k1 ?k2); (case k1 => wtm_at "k49et"); (case k2 => (intro _; wtm_at "k49et")))
  | ((with_reducible refine' et_or ?k1 ?k2); (case k1 => wtm_at "k49et"); (case k2 => (intro _; wtm_at "k49et")))
  | ((with_reducible refine' et_not ?k1); (case k1 => wtm_at "k49et")))

section
variable {P : Program} {w : World} {K : PySem.W.Frag} {mg : Str → Option Value} {base : Heap}
theorem img_small {m : Nat} {J M : Nat → Nat → Nat} (L : Lat m J M) {x : Nat} : img m M x < 16 := by
  have h := img_lt (m := m) (M := M) (x := x)
  have h2 : 2 ^ (irr m M).length ≤ 2 ^ 4 := Nat.pow_le_pow_right (by decide) L.few
  omega
theorem c_norm {σ σ' : L2.St} {H : Hp} {D : Ends} {tz : TS} (e : σ = σ') (k : tz D σ' H) : tz D σ H := by
  rw [e]
  exact k
/-! ### the list of tries -/
structure Tw (st lt : Addr) (m : Nat) (G : Hp) (N : Nat) (H : Hp) : Prop where
  e : Ex G H
  s : StA st H
  ws : ∃ ws, H lt = some (.lst ws) ∧ ws.length ≤ N ∧ ∀ v ∈ ws, TryV m v H
theorem Tw.ex {st lt : Addr} {m : Nat} {G H H' : Hp} {N : Nat} (f : Tw st lt m G N H) (e : Ex H H') : Tw st lt m G N H' := ⟨f.e.trans e, f.s.ex e, let ⟨ws, h1, h2, h3⟩ := f.ws; ⟨ws, e _ _ h1, h2, fun v hv => (h3 v hv).tl (Tl.of e)⟩⟩
theorem Tw.take {st lt : Addr} {m : Nat} {G H H' : Hp} {N : Nat} (f : Tw st lt m G N H) (nl : lt ≠ st) (gst : G st = none) (o : Off st H H') (s : StA st H') : Tw st lt m G N H' := ⟨Ex.off f.e gst o, s, let ⟨ws, h1, h2, h3⟩ := f.ws; ⟨ws, o _ _ nl h1, h2, fun v hv => (h3 v hv).tl (Tl.off o f.s s)⟩⟩
theorem c_appT {st lt : Addr} {m : Nat} {G H : Hp} {N : Nat} {σ : L2.St} {ta te : TE} {D : Ends} {tz : TS} (hG : G lt = none) (nl : lt ≠ st) (f : Tw st lt m G N H) (hn : N < 1000) (ha : Ev ta σ H (.ref lt)) (h : EvP2 te σ H (TryV m))
    (k : ∀ H1, Tw st lt m G (N + 1) H1 → Tl H H1 → tz D σ H1) : tSeq (tDrop (tBM K "list" rAppend ta (tCons te tNil))) tz D σ H := by
  obtain ⟨e, s, ws, h1, h2, h3⟩ := f
  refine c_appP (Ex.refl H) h1 ha h (by omega) fun v H1 e1 r => ?_
  have h11 := e1 _ _ h1
  have tl := Tl.upd (ys := ws ++ [v]) h11
  refine k _ ⟨(e.trans e1).mut hG, ?_, ws ++ [v], upd_same, by rw [List.length_append]; show ws.length + 1 ≤ N + 1; omega, fun u hu => ?_⟩ ((Tl.of e1).trans tl)
  · obtain ⟨x, y, q1, q2⟩ := s.ex e1
    exact ⟨x, y, by rw [upd_ne fun e => nl e.symm]; exact q1, q2⟩
  · rcases List.mem_append.mp hu with h | h
    · exact (h3 u h).tl ((Tl.of e1).trans tl)
    · rw [List.mem_singleton] at h
      rw [h]
      exact TryV.tl tl r
theorem b_appT {st lt : Addr} {m : Nat} {G H : Hp} {N : Nat} {σ : L2.St} {ta te : TE} {D : Ends} (hG : G lt = none) (nl : lt ≠ st) (f : Tw st lt m G N H) (hn : N < 1000) (ha : Ev ta σ H (.ref lt)) (h : EvP2 te σ H (TryV m))
    (k : ∀ H1, Tw st lt m G (N + 1) H1 → Tl H H1 → D.nx σ H1) : tDrop (tBM K "list" rAppend ta (tCons te tNil)) D σ H := c_appT (tz := fun E => E.nx) (D := D) hG nl f hn ha h k
theorem isT_if {m k u : Nat} {f : Nat → Nat} {te : TE} {σ : L2.St} {H : Hp} (h : EvP2 te σ H (IsT (fnl m fun j => if j = k then V.int (u : Nat) else .int (f j : Nat)))) : EvP2 te σ H (IsT (fnl m fun j => .int ((if j = k then u else f j : Nat) : Nat))) := by
  rw [show (fnl m fun j => V.int ((if j = k then u else f j : Nat) : Nat)) = fnl m fun j => if j = k then V.int (u : Nat) else .int (f j : Nat) from fnl_congr fun x _ => by split <;> rfl]
  exact h
def spLaw (K : PySem.W.Frag) : Sp := fun vs H Q _ => ∃ (a : Addr) (ns : List Int), vs = [.ref a] ∧ SqL K H a (ns.map V.int) ∧ ns.length ≤ 63 ∧ ∀ H', Q (.bl true) H'
theorem sc_law : FnScope ["_law_script", "_law_state_here", "_law_family_here", "_law_joins", "_law_meets", "_law_size", "_law_lattice_here", "_law_due", "_law_broken", "_law_triple", "_law_n", "_law_images", "_law_tries", "_law_at", "_law_other", "_law_bound", "_law_values", "_law_told", "_law_data", "_law_x"] ["_law_script"] (defScope s_law) := ⟨rfl, rfl, rfl, by decide +kernel, rfl, by decide +kernel, by decide +kernel⟩
theorem ok_law (T : Tx K mg) : FnOk P w K mg base CX0 6 T.a_law T.d_law ["_law_script"] (spLaw K) := by
  refine T.p_law.F.ok sc_law (fun vs H Q E h => ?_) (fun cdv A outer s H vs Q E hr h => ?_)
  · obtain ⟨a, ns, rfl, _⟩ := h
    rfl
  · obtain ⟨a, ns, rfl, ha, _, k⟩ := h
    refine ⟨_, (pss_cons (ps_set (i := 1) sc_law.nd rfl (Or.inr rfl) (pe_call (ok__law_state T) (hr.mono (by decide)) rfl T.p__law_state.g T.p__law_state.k T.p__law_state.b .nil pass0 (pa_cons (pv 0) pa_nil)))
  (pss_cons (ps_set (i := 2) sc_law.nd rfl (Or.inl rfl) (pe_call (ok__law_family T) (hr.mono (by decide)) rfl T.p__law_family.g T.p__law_family.k T.p__law_family.b .nil pass0 (pa_cons (pv 1) pa_nil)))
  (pss_cons (ps_asg (pe_call (ok__law_tables T) (hr.mono (by decide)) rfl T.p__law_tables.g T.p__law_tables.k T.p__law_tables.b .nil pass0 (pa_cons (pv 2) pa_nil)) (gptup (K := K) rfl rfl (pgs_cons (pg_name (i := 3) sc_law.nd rfl (Or.inl rfl)) (pgs_cons (pg_name (i := 4) sc_law.nd rfl (Or.inl rfl)) pgs_nil))))
  (pss_cons (ps_set (i := 5) sc_law.nd rfl (Or.inl rfl) (pe_callB (glen (K := K) rfl) (by rfl) T.b_len (by decide +kernel) (pa_cons (pv 2) pa_nil)))
  (pss_cons (ps_set (i := 6) sc_law.nd rfl (Or.inl rfl) (pe_call (ok__law_lattice T) (hr.mono (by decide)) rfl T.p__law_lattice.g T.p__law_lattice.k T.p__law_lattice.b .nil pass0 (pa_cons (pv 2) (pa_cons (pv 4) pa_nil))))
  (pss_cons (ps_set (i := 7) sc_law.nd rfl (Or.inl rfl) (pe_call (ok__law_due_paper T) (hr.mono (by decide)) rfl T.p__law_due_paper.g T.p__law_due_paper.k T.p__law_due_paper.b .nil pass0 (pa_cons (pv 3) (pa_cons (pv 4) pa_nil))))
  (pss_cons (ps_set (i := 8) sc_law.nd rfl (Or.inl rfl) (pe_cmpR op_eq (pe_ix (gixT (K := K) rfl) (pv 7) pe_int (fun _ _ => rfl)) pe_str (nomark _)))
  (pss_cons (ps_if (PW.pt (pw_or (pt_cmpR (gneD (K := K) rfl hr.units) (pe_call (ok_lattice_paper T) (hr.mono (by decide)) rfl T.p_lattice_paper.g T.p_lattice_paper.k T.p_lattice_paper.b .nil pass0 (pa_cons (pv 6) pa_nil)) (pv 7) (nomark _)) (pw_or1 (pt_cmpR op_notBl (pe_call (ok_takes_lattice T) (hr.mono (by decide)) rfl T.p_takes_lattice.g T.p_takes_lattice.k T.p_takes_lattice.b .nil pass0 (pa_cons (pv 6) (pa_cons (pv 7) pa_nil))) pe_bl (nomark _))))) (pss_one (ps_ret pe_bl)) pss_nil)
  (pss_cons (ps_set (i := 9) sc_law.nd rfl (Or.inl rfl) (pe_tup (pa_cons (pe_call (ok__law_take T) (hr.mono (by decide)) rfl T.p__law_take.g T.p__law_take.k T.p__law_take.b .nil pass0 (pa_cons (pv 1) (pa_cons (pv 5) pa_nil))) (pa_cons (pe_call (ok__law_take T) (hr.mono (by decide)) rfl T.p__law_take.g T.p__law_take.k T.p__law_take.b .nil pass0 (pa_cons (pv 1) (pa_cons (pv 5) pa_nil))) (pa_cons (pe_call (ok__law_take T) (hr.mono (by decide)) rfl T.p__law_take.g T.p__law_take.k T.p__law_take.b .nil pass0 (pa_cons (pv 1) (pa_cons (pv 5) pa_nil))) pa_nil)))))
  (pss_cons (ps_if (pt_cmpR op_ne (pe_call (ok_takes_lattice T) (hr.mono (by decide)) rfl T.p_takes_lattice.g T.p_takes_lattice.k T.p_takes_lattice.b .nil pass0 (pa_cons (pv 6) (pa_cons (pe_tup (pa_cons pe_str (pa_cons (pv 9) pa_nil))) pa_nil))) (pe_call (ok__law_fails T) (hr.mono (by decide)) rfl T.p__law_fails.g T.p__law_fails.k T.p__law_fails.b .nil pass0 (pa_cons (pv 3) (pa_cons (pv 4) (pa_cons (pe_ix (gixT (K := K) rfl) (pv 9) pe_int (fun _ _ => rfl)) (pa_cons (pe_ix (gixT (K := K) rfl) (pv 9) pe_int (fun _ _ => rfl)) (pa_cons (pe_ix (gixT (K := K) rfl) (pv 9) pe_int (fun _ _ => rfl)) pa_nil)))))) (nomark _)) (pss_one (ps_ret pe_bl)) pss_nil)
  (pss_cons (ps_set (i := 10) sc_law.nd rfl (Or.inl rfl) (pe_op op_add pe_int (pe_call (ok__law_take T) (hr.mono (by decide)) rfl T.p__law_take.g T.p__law_take.k T.p__law_take.b .nil pass0 (pa_cons (pv 1) (pa_cons pe_int pa_nil)))))
  (pss_cons (ps_set (i := 11) sc_law.nd rfl (Or.inl rfl) (pe_callTy (gtuple (K := K) rfl) (by rfl) T.b_tuple (by decide +kernel) (pa_cons (pe_lc (own := [("_law_x", 19)]) (g := (gName 19)) (by rfl) sc_law.nd (pi_range1 rfl T.b_range (pa_cons (pv 5) pa_nil)) (blkOk_by (by kernel_rfl)) (fun _ _ _ _ _ => (pg_name (i := 19) sc_law.nd rfl (Or.inl rfl))) (fun _ _ _ _ _ => pts_nil) (fun _ _ _ _ _ => (pe_call (ok__law_take T) (hr.mono (by decide)) rfl T.p__law_take.g T.p__law_take.k T.p__law_take.b .nil pass0 (pa_cons (pv 1) (pa_cons pe_int pa_nil))))) pa_nil)))
  (pss_cons (ps_set (i := 12) sc_law.nd rfl (Or.inl rfl) (pe_lst (pa_cons (pe_tup (pa_cons pe_int (pa_cons (pe_callTy (gtuple (K := K) rfl) (by rfl) T.b_tuple (by decide +kernel) (pa_cons (pv 2) pa_nil)) pa_nil))) (pa_cons (pe_tup (pa_cons pe_int (pa_cons (pv 11) pa_nil))) (pa_cons (pe_call (ok__law_not_above T) (hr.mono (by decide)) rfl T.p__law_not_above.g T.p__law_not_above.k T.p__law_not_above.b .nil pass0 (pa_cons (pv 4) pa_nil)) (pa_cons (pe_tup (pa_cons (pv 10) (pa_cons (pe_callTy (gtuple (K := K) rfl) (by rfl) T.b_tuple (by decide +kernel) (pa_cons (pe_lc (own := [("_law_x", 19)]) (g := (gName 19)) (by rfl) sc_law.nd (gpiL (K := K) rfl (pv 2)) (blkOk_by (by kernel_rfl)) (fun _ _ _ _ _ => (pg_name (i := 19) sc_law.nd rfl (Or.inl rfl))) (fun _ _ _ _ _ => pts_nil) (fun _ _ _ _ _ => (pe_op op_mul pe_int (pv 19)))) pa_nil)) pa_nil))) pa_nil))))))
  (pss_cons (ps_expr (gbm (K := K) rfl PySem.F.plainAttrs_list PySem.F.slot_list_append PySem.F.type_list_append mt_append (pv 12) (pa_cons (pe_tup (pa_cons pe_int (pa_cons (pe_callTy (gtuple (K := K) rfl) (by rfl) T.b_tuple (by decide +kernel) (pa_cons (pe_lc (own := [("_law_x", 19)]) (g := (gName 19)) (by rfl) sc_law.nd (gpiL (K := K) rfl (pv 2)) (blkOk_by (by kernel_rfl)) (fun _ _ _ _ _ => (pg_name (i := 19) sc_law.nd rfl (Or.inl rfl))) (fun _ _ _ _ _ => pts_nil) (fun _ _ _ _ _ => (pe_op op_mul pe_int (pv 19)))) pa_nil)) pa_nil))) pa_nil)))
  (pss_cons (ps_if (pt_not (pt_val (pv 8))) (pss_cons (ps_asg (pe_slice (gslT (K := K) rfl) (pv 7) (po_some pe_int) po_none) (gptup (K := K) rfl rfl (pgs_cons (pg_name (i := 10) sc_law.nd rfl (Or.inl rfl)) (pgs_cons (pg_name (i := 11) sc_law.nd rfl (Or.inl rfl)) pgs_nil))))
  (pss_cons (ps_set (i := 13) sc_law.nd rfl (Or.inl rfl) (pe_call (ok__law_take T) (hr.mono (by decide)) rfl T.p__law_take.g T.p__law_take.k T.p__law_take.b .nil pass0 (pa_cons (pv 1) (pa_cons (pv 5) pa_nil))))
  (pss_cons (ps_set (i := 14) sc_law.nd rfl (Or.inl rfl) (pe_call (ok__law_take T) (hr.mono (by decide)) rfl T.p__law_take.g T.p__law_take.k T.p__law_take.b .nil pass0 (pa_cons (pv 1) (pa_cons pe_int pa_nil))))
  (pss_cons (ps_expr (gbm (K := K) rfl PySem.F.plainAttrs_list PySem.F.slot_list_append PySem.F.type_list_append mt_append (pv 12) (pa_cons (pe_tup (pa_cons (pv 10) (pa_cons (pe_op (gcatT (K := K) rfl) (pe_op (gcatT (K := K) rfl) (pe_slice (gslT (K := K) rfl) (pv 11) po_none (po_some (pv 13))) (pe_tup (pa_cons (pv 14) pa_nil))) (pe_slice (gslT (K := K) rfl) (pv 11) (po_some (pe_op op_add (pv 13) pe_int)) po_none)) pa_nil))) pa_nil)))
  (pss_cons (ps_expr (gbm (K := K) rfl PySem.F.plainAttrs_list PySem.F.slot_list_append PySem.F.type_list_append mt_append (pv 12) (pa_cons (pe_tup (pa_cons (pe_callB (call_max2 rfl) (by rfl) T.b_max (by decide +kernel) (pa_cons (pe_op op_sub (pv 10) pe_int) (pa_cons pe_int pa_nil))) (pa_cons (pv 11) pa_nil))) pa_nil)))
  (pss_cons (ps_expr (gbm (K := K) rfl PySem.F.plainAttrs_list PySem.F.slot_list_append PySem.F.type_list_append mt_append (pv 12) (pa_cons (pe_tup (pa_cons (pe_op op_add (pv 10) pe_int) (pa_cons (pv 11) pa_nil))) pa_nil)))
  (pss_one (ps_expr (gbm (K := K) rfl PySem.F.plainAttrs_list PySem.F.slot_list_append PySem.F.type_list_append mt_append (pv 12) (pa_cons (pe_tup (pa_cons (pe_op op_add (pv 10) pe_int) (pa_cons (pe_callTy (gtuple (K := K) rfl) (by rfl) T.b_tuple (by decide +kernel) (pa_cons (pe_lc (own := [("_law_x", 19)]) (g := (gName 19)) (by rfl) sc_law.nd (gpiT (K := K) rfl (pv 11)) (blkOk_by (by kernel_rfl)) (fun _ _ _ _ _ => (pg_name (i := 19) sc_law.nd rfl (Or.inl rfl))) (fun _ _ _ _ _ => pts_nil) (fun _ _ _ _ _ => (pe_op op_mul pe_int (pv 19)))) pa_nil)) pa_nil))) pa_nil)))))))))) pss_nil)
  (pss_cons (ps_for PassesOwn.never rfl (gpiL (K := K) rfl (pv 12)) (gptup (K := K) rfl rfl (pgs_cons (pg_name (i := 15) sc_law.nd rfl (Or.inl rfl)) (pgs_cons (pg_name (i := 16) sc_law.nd rfl (Or.inl rfl)) pgs_nil)))
   (pss_cons (ps_set (i := 17) sc_law.nd rfl (Or.inl rfl) (pe_call (ok_takes_lattice T) (hr.mono (by decide)) rfl T.p_takes_lattice.g T.p_takes_lattice.k T.p_takes_lattice.b .nil pass0 (pa_cons (pv 6) (pa_cons (pe_tup (pa_cons pe_str (pa_cons (pv 15) (pa_cons (pv 16) pa_nil)))) pa_nil))))
  (pss_one (ps_if (PW.pt (pw_or (pt_cmpR op_ne (pv 17) (pe_call (ok__law_goes T) (hr.mono (by decide)) rfl T.p__law_goes.g T.p__law_goes.k T.p__law_goes.b .nil pass0 (pa_cons (pv 3) (pa_cons (pv 4) (pa_cons (pv 15) (pa_cons (pv 16) pa_nil))))) (nomark _)) (pw_or1 (PW.pt (pw_and (pt_val (pv 17)) (pw_and1 (pt_val (pv 8)))))))) (pss_one (ps_ret pe_bl)) pss_nil))))
  (pss_cons (ps_for PassesOwn.never rfl (gpiL (K := K) rfl (pe_call (ok__law_forms T) (hr.mono (by decide)) rfl T.p__law_forms.g T.p__law_forms.k T.p__law_forms.b .nil pass0 (pa_cons (pv 1) (pa_cons (pv 5) (pa_cons (pv 8) (pa_cons (pv 10) (pa_cons (pv 11) pa_nil))))))) (pg_name (i := 18) sc_law.nd rfl (Or.inl rfl))
   (pss_one (ps_if (pt_cmpR op_notBl (pe_call (ok_takes_lattice T) (hr.mono (by decide)) rfl T.p_takes_lattice.g T.p_takes_lattice.k T.p_takes_lattice.b .nil pass0 (pa_cons (pv 6) (pa_cons (pv 18) pa_nil))) pe_bl (nomark _)) (pss_one (ps_ret pe_bl)) pss_nil)))
  (pss_one (ps_ret pe_bl))))))))))))))))))), ?_⟩
    -- the state, the family, its tables
    refine c_asgS (es_state (ea_cons (ev_var rfl) ea_nil) ha) ?_
    rintro _ H1 ⟨st, rfl, s1⟩
    refine c_asgS (es_family (ea_cons (ev_var rfl) ea_nil) s1) ?_
    rintro _ H2 ⟨fa, m, s, rfl, F, nf, s2, hf2⟩
    refine c_asgS2 (es_tables (ea_cons (ev_var rfl) ea_nil) F hf2) ?_
    rintro _ H3 ⟨p3, d, rfl, em, eJ, eM, e23, hT3, hfr, hp3⟩
    refine ⟨p3, _, _, rfl, hp3, ?_⟩
    have hf3 := e23 _ _ hf2
    have L := hT3.L
    have sm := L.small
    have pos := L.pos
    rw [← em] at hf3
    rw [← em] at hfr
    have hF : ∀ x, x < d.m → s x < 16 := fun x hx => F.lt x (by omega)
    refine c_asg (H0 := H3) (v := .int (d.m : Nat)) (Ex.refl H3) (ev_lenfL (ev_var rfl) hf3) fun H4 e34 _ => ?_
    refine c_asgS (es_lattice (ea_cons (ev_var rfl) (ea_cons (ev_var rfl) ea_nil)) (e34 _ _ hf3) (hT3.ex e34)) ?_
    rintro _ H5 ⟨⟨lp, lm', lJ', lM', dx, aA, aJ, aM, rJ, rM⟩, rfl, lm, lJ, lM, e45, hL5⟩
    dsimp only at lm lJ lM ⊢
    subst lm lJ lM
    have hT5 := hT3.ex (e34.trans e45)
    refine c_asgP (H0 := H5) (Ex.refl H5) (ep_due (ea_cons (ev_var rfl) (ea_cons (ev_var rfl) ea_nil)) hT5) ?_
    rintro due H6 e56 ⟨bk, hD6⟩
    -- what stays
    have s6 := s2.ex (e23.trans (e34.trans (e45.trans e56)))
    have hLG := (hL5.ex e56).del s6
    have hTG := (hT5.ex e56).del s2 hfr
    have hDG := hD6.del s6
    have hfG : del H6 st fa = some (.lst (fnl d.m fun x => .int (s x : Nat))) := del_at ((e34.trans (e45.trans e56)) _ _ hf3) nf
    have eG6 := del_ex H6 st
    have gst : del H6 st st = none := del_self
    clear hL5 hT5 hD6 hT3 hfr hf3 hf2 e56 e45 e34 e23 hp3 nf s2 s1 ha
    generalize del H6 st = G at hLG hTG hDG hfG eG6 gst
    obtain ⟨l, hl⟩ : ∃ l : LtD, l = ⟨lp, d.m, d.J, d.M, dx, aA, aJ, aM, rJ, rM⟩ := ⟨_, rfl⟩
    have el : lp = l.p := by rw [hl]
    have em1 : l.m = d.m := by rw [hl]
    have eJ1 : l.J = d.J := by rw [hl]
    have eM1 : l.M = d.M := by rw [hl]
    rw [← hl] at hLG
    rw [el]
    -- the paper due is taken
    have hNF : bk = false → NoFail d.m d.J d.M := fun e => by
      obtain ⟨p, q, _, ⟨_, h, _, _⟩ | ⟨h, _⟩⟩ := hDG
      · exact h
      · rw [h] at e
        cases e
    have hBF : bk = true → ∀ n f, ¬ Goes d.m d.J d.M n f := fun e n f g => by
      obtain ⟨p, q, _, ⟨h, _, _, _⟩ | ⟨_, x, y, z, lf, _⟩⟩ := hDG
      · rw [h] at e
        cases e
      · exact lf.not (g.noFail L)
    have g0 : ∀ {i : Nat}, i < l.m → good l.m (.int (i : Nat)) = true := fun {i} hi => by
      rw [good_int, decide_eq_true (show (0 : Int) ≤ (i : Int) by omega), decide_eq_true (show (i : Int) < (l.m : Int) by omega)]
      rfl
    have hTri : ∀ {H' : Hp} {p : Addr} {x y z : Nat}, x < d.m → y < d.m → z < d.m → H' p = some (.tup [.int (x : Nat), .int (y : Nat), .int (z : Nat)]) → FailV H' l (.ref p) (fl d.J d.M x y z) := fun {H' p x y z} hx hy hz h =>
      .tri h trivial trivial trivial (by rw [g0 (by omega), g0 (by omega), g0 (by omega), eJ1, eM1]; rfl)
    have hTD : ∀ H', Ex G H' → TakeV H' l due true := fun H' e => by
      obtain ⟨p, q, rfl, ⟨_, nf, h1, h2⟩ | ⟨_, x, y, z, lf, h1, h2⟩⟩ := hDG
      · refine .low (s := img d.m d.M) (t := l.m) (e _ _ h1) (e _ _ h2) ?_ (Nat.le_refl _) (fun j hj => ?_) (fun h => absurd h (Nat.lt_irrefl _)) fun _ => ?_
        · unfold imgV
          rw [fnl_len, em1]
        · rw [em1] at hj
          exact fnl_get hj
        · rw [em1, eJ1, eM1]
          exact ⟨fun _ => L.goes nf, fun _ => rfl⟩
      · refine .fail (e _ _ h1) ?_
        have := hTri (H' := H') lf.hx lf.hy lf.hz (e _ _ h2)
        rw [lf.f] at this
        exact this
    -- broken
    refine c_norm (σ' := [some (.ref a), some (.ref st), some (.ref fa), some (.ref d.aJ), some (.ref d.aM), some (.int (d.m : Nat)), some (.ref l.p), some due, none, none, none, none, none, none, none, none, none, none, none, none]) rfl ?_
    refine c_asg (H0 := H6) (v := .bl bk) (Ex.refl H6) ?_ fun H7 e67 _ => ?_
    · obtain ⟨p, q, rfl, ⟨rfl, _, h1, _⟩ | ⟨rfl, x, y, z, _, h1, _⟩⟩ := hDG
      · exact ev_is (ev_op (ev_op (ev_var rfl) ev_c (rv_ixT (i := 0) (st_of (eG6 _ _ h1)) (atI_nat (j := 0) rfl))) ev_c (rv_eq rfl)) (congrArg V.bl d_lf)
      · exact ev_is (ev_op (ev_op (ev_var rfl) ev_c (rv_ixT (i := 0) (st_of (eG6 _ _ h1)) (atI_nat (j := 0) rfl))) ev_c (rv_eq rfl)) (congrArg V.bl d_ff)
    have eG7 := eG6.trans e67
    have hL7 := hLG.ex eG7
    have hpap : EvP2 (tCall (spPaper T.C) [] E0 (tCons (tVar 6) tNil)) [some (.ref a), some (.ref st), some (.ref fa), some (.ref d.aJ), some (.ref d.aM), some (.int (d.m : Nat)), some (.ref l.p), some due, some (.bl bk), none, none, none, none, none, none, none, none, none, none, none] H7 (fun v H => ∃ bk, DueR d.m d.J d.M bk v H) := by
      have := ep_paper (E := E0) (t := tCons (tVar 6) tNil) (σ := [some (.ref a), some (.ref st), some (.ref fa), some (.ref d.aJ), some (.ref d.aM), some (.int (d.m : Nat)), some (.ref l.p), some due, some (.bl bk), none, none, none, none, none, none, none, none, none, none, none]) (ea_cons (ev_var rfl) ea_nil) hL7
      rw [em1, eJ1, eM1] at this
      exact this
    refine c_not (H0 := H7) (Ex.refl H7) (et_or0 (et_test (ep_same hpap (ev_var rfl) (hDG.ex eG7))) (et_is (et_test (ev_op (ev_takes (b := true) (ev_var rfl) hL7 (ep_of (v := due) (ev_var rfl) fun H2 e => hTD H2 (eG7.trans e))) ev_c rv_notB)) rfl)) fun H8 e78 _ => ?_
    have eG8 := eG7.trans e78
    have s8 := s6.ex (e67.trans e78)
    -- a triple
    refine c_asgS (es_triple (m := d.m) (fun H1 s => es_take (ea_cons (ev_var rfl) (ea_cons (ev_var rfl) ea_nil)) s pos (by omega)) (fun H1 s => es_take (ea_cons (ev_var rfl) (ea_cons (ev_var rfl) ea_nil)) s pos (by omega)) (fun H1 s => es_take (ea_cons (ev_var rfl) (ea_cons (ev_var rfl) ea_nil)) s pos (by omega)) s8) ?_
    rintro _ H9 ⟨pt, x, y, z, rfl, hx, hy, hz, h9, o9, s9⟩
    have eG9 := Ex.off eG8 gst o9
    have hL9 := hLG.ex eG9
    refine c_not (H0 := H9) (Ex.refl H9) (et_is (et_test (ev_op (ev_takes (b := fl d.J d.M x y z) (ev_var rfl) hL9 (ep_tup (vs := [.str "failure", .ref pt]) (ea_cons ev_c (ea_cons (ev_var rfl) ea_nil)) (by show 2 ≤ 100000; decide) fun p H2 e h => .fail h (hTri hx hy hz (e _ _ h9))))
      (ev_call0 (ea_cons (ev_var rfl) (ea_cons (ev_var rfl) (ea_cons (ev_op (ev_var rfl) ev_c (rv_ixT (i := 0) (st_of h9) (atI_nat (j := 0) rfl))) (ea_cons (ev_op (ev_var rfl) ev_c (rv_ixT (i := 1) (st_of h9) (atI_nat (j := 1) rfl))) (ea_cons (ev_op (ev_var rfl) ev_c (rv_ixT (i := 2) (st_of h9) (atI_nat (j := 2) rfl))) ea_nil))))) (sv_fails (hTG.ex eG9) hx hy hz)) (rv_ne rfl))) (by rw [decide_eq_true rfl]; rfl)) fun H10 e910 _ => ?_
    -- n, images
    refine c_asgS (es_addc (c := 3) (es_take (m := 3) (ea_cons (ev_var rfl) (ea_cons ev_c ea_nil)) (s9.ex e910) (by decide) (by decide))) ?_
    rintro _ H11 ⟨n0, rfl, hn0, o11, s11⟩
    have eG11 := Ex.off (eG9.trans e910) gst o11
    refine c_asgS (es_images (m := d.m) (ea_cons (ev_var rfl) ea_nil) sm s11 (fun x => rfl) (fun i H1 s _ => es_take (ea_cons (ev_var rfl) (ea_cons ev_c ea_nil)) s (by decide) (by decide))) ?_
    rintro _ H12 ⟨ci, f, rfl, hci, hf8, o12, s12⟩
    have eG12 := Ex.off eG11 gst o12
    have hf12 := eG12 _ _ hfG
    -- the tries
    refine c_norm (σ' := [some (.ref a), some (.ref st), some (.ref fa), some (.ref d.aJ), some (.ref d.aM), some (.int (d.m : Nat)), some (.ref l.p), some due, some (.bl bk), some (.ref pt), some (.int (3 + n0 : Nat)), some (.ref ci), none, none, none, none, none, none, none, none]) rfl ?_
    have up : ∀ v H H', Ex H H' → TryV d.m v H → TryV d.m v H' := fun v H H' e h => h.tl (Tl.of e)
    refine c_asgPL (H0 := H12) (n := 4) (R := TryV d.m) (Ex.refl H12) (epl_lst up (epa_cons up ?_ (epa_cons up ?_ (epa_cons up ?_ (epa_cons up ?_ epa_nil)))) (by decide)) fun lt H13 ws hlt e1213 h13 hn13 hr13 => ?_
    · exact ep_try (n := 4) (s := s) ev_c (ep_eu (eu_tupL (ev_var rfl) (sq_of hf12))) (by decide) fun x hx => by have := hF x hx; omega
    · exact ep_try (n := 3) (s := f) ev_c (ep_of (v := .ref ci) (ev_var rfl) fun H2 e => ⟨ci, rfl, e _ _ hci⟩) (by decide) fun x hx => by have := hf8 x hx; omega
    · exact ep_call (vs := [.ref d.aM]) (ea_cons (ev_var rfl) ea_nil) fun H1 e Q q => ⟨d, rfl, hTG.ex (eG12.trans e), fun p r H2 _ e2 h1 h2 => q _ H2 e2 ⟨p, r, d.m, naS d.m d.M, rfl, h1, h2, by omega, fun x hx => by
        have h1 := msk_lt (fun k => d.M x k != x) d.m
        have h2 : 2 ^ d.m ≤ 2 ^ 16 := Nat.pow_le_pow_right (by decide) sm
        show msk (fun k => d.M x k != x) d.m < 131072
        omega⟩⟩
    · exact ep_32L (n := 3 + n0) rfl (ev_var rfl) (ev_var rfl) hf12 sm hF (by omega)
    have glt : G lt = none := fresh_back eG12 hlt
    have nlt : lt ≠ st := fun e => by
      obtain ⟨_, _, h, _⟩ := s12
      rw [← e, hlt] at h
      cases h
    have t13 : Tw st lt d.m G 4 H13 := ⟨eG12.trans e1213, s12.ex e1213, ws, h13, by omega, hr13⟩
    have hf13 := t13.e _ _ hfG
    refine c_appT glt nlt t13 (by decide) (ev_var rfl) (ep_32L (n := 9) rfl ev_c (ev_var rfl) hf13 sm hF (by decide)) fun H14 t14 tl14 => ?_
    have hci14 := tl14.t _ _ (e1213 _ _ hci)
    -- further ones where nothing fails
    refine c_whenJ (H0 := H14) (b := !bk) (fun σ H' => ∃ (n : Nat) (c : Addr) (g : Nat → Nat) (va vo : Option V), σ = [some (.ref a), some (.ref st), some (.ref fa), some (.ref d.aJ), some (.ref d.aM), some (.int (d.m : Nat)), some (.ref l.p), some due, some (.bl bk), some (.ref pt), some (.int (n : Nat)), some (.ref c), some (.ref lt), va, vo, none, none, none, none, none] ∧
      Tw st lt d.m G 20 H' ∧ H' c = some (.tup (fnl d.m fun x => .int (g x : Nat)))) ?_ (Ex.refl H14) (et_not (et_B (ev_var rfl))) (fun kk hb H15 e1415 _ => ?_) (fun hb H15 e1415 _ => ?_)
    · -- the rest
      rintro σ H' ⟨n, c, g, va, vo, rfl, tw, hc⟩
      obtain ⟨t1, t2, ws, t3, t4, t5⟩ := tw
      have hL' := hLG.ex t1
      have hT' := hTG.ex t1
      refine c_forL (H0 := H') (a := lt) (xs := ws) (Ex.refl H') (ev_var rfl) (sq_of t3) (fun i σ H'' => Ex H' H'' ∧ ∃ vb vv vt, σ = [some (.ref a), some (.ref st), some (.ref fa), some (.ref d.aJ), some (.ref d.aM), some (.int (d.m : Nat)), some (.ref l.p), some due, some (.bl bk), some (.ref pt), some (.int (n : Nat)), some (.ref c), some (.ref lt), va, vo, vb, vv, vt, none, none])
        (fun H1 e _ => ⟨e, _, _, _, rfl⟩) (fun i σ H'' _ q => sq_of (q.1 _ _ t3)) ?_ ?_
      · rintro i v σ H1 hv ⟨e1, vb, vv, vt, rfl⟩
        obtain ⟨p, q, n', g', rfl, h1, h2, h3, h4⟩ := t5 v (List.mem_of_getElem? hv)
        refine ⟨p, _, rfl, st_of (e1 _ _ h1), rfl, _, _, rfl, _, _, rfl, rfl, ?_⟩
        obtain ⟨b, hb⟩ : ∃ b : Bool, b = true ↔ Goes d.m d.J d.M n' g' := by
          by_cases h : Goes d.m d.J d.M n' g'
          · exact ⟨true, fun _ => h, fun _ => rfl⟩
          · exact ⟨false, ⟨fun q => (nomatch q), fun q => absurd q h⟩⟩
        have h21 := e1 _ _ h2
        refine c_asg (H0 := H1) (v := .bl b) (Ex.refl H1) (ev_takes (ev_var rfl) (hL'.ex e1) (ep_tup (vs := [.str "lower", .int (n' : Nat), .ref q]) (ea_cons ev_c (ea_cons (ev_var rfl) (ea_cons (ev_var rfl) ea_nil))) (by show 3 ≤ 100000; decide) fun r H2 e h => ?_)) fun H2 e12 _ => ?_
        · refine .low (s := g') (t := l.m) h (e _ _ h21) (by rw [fnl_len, em1]) (Nat.le_refl _) (fun j hj => ?_) (fun h => absurd h (Nat.lt_irrefl _)) fun _ => ?_
          · rw [em1] at hj
            exact fnl_get hj
          · rw [em1, eJ1, eM1]
            exact hb
        · refine b_not (H0 := H2) (Ex.refl H2) (et_or0 (et_is (et_test (ev_op (ev_var (v := .bl b) rfl) (ev_call0 (z := .bl b) (vs := [.ref d.aJ, .ref d.aM, .int (n' : Nat), .ref q]) (ea_cons (ev_var rfl) (ea_cons (ev_var rfl) (ea_cons (ev_var rfl) (ea_cons (ev_var rfl) ea_nil)))) fun H3 e Q q1 E => ⟨d, n', q, g', b, rfl, hT'.ex (e1.trans (e12.trans e)), h3, (e12.trans e) _ _ h21, fun x hx => h4 x hx, hb, q1⟩) (rv_ne rfl))) (by rw [decide_eq_true rfl]; rfl)) (et_is (et_and (a := b) (b := bk) (et_B (ev_var rfl)) fun _ => et_B (ev_var rfl)) ?_)) fun H3 e23 _ => ⟨e1.trans (e12.trans e23), _, _, _, rfl⟩
          cases b with
          | false => rfl
          | true =>
            cases hbk : bk with
            | false => rfl
            | true => exact absurd (hb.mp rfl) (hBF hbk n' g')
      · rintro σ H1 ⟨e1, vb, vv, vt, rfl⟩
        refine c_forLS (es_forms (d := l) (n := n) (s := g) (bk := bk) (c := c) (st := st) (ea_cons (ev_var rfl) (ea_cons (ev_var (by rw [em1]; rfl)) (ea_cons (ev_var rfl) (ea_cons (ev_var rfl) (ea_cons (ev_var rfl) ea_nil))))) (t2.ex e1) (by rw [em1, eJ1, eM1]; exact L) (by rw [em1]; exact e1 _ _ hc) (by rw [em1, eJ1, eM1]; exact hNF)) ?_
        rintro _ H2 ⟨p, vs, rfl, o2, h2, h3⟩
        have hL2 := hLG.ex (Ex.off (t1.trans e1) gst o2)
        refine ⟨p, vs, rfl, h2, fun i σ H3 => Ex H2 H3 ∧ ∃ vd, σ = [some (.ref a), some (.ref st), some (.ref fa), some (.ref d.aJ), some (.ref d.aM), some (.int (d.m : Nat)), some (.ref l.p), some due, some (.bl bk), some (.ref pt), some (.int (n : Nat)), some (.ref c), some (.ref lt), va, vo, vb, vv, vt, vd, none], ⟨Ex.refl _, _, rfl⟩, fun i σ H3 _ q => sq_of (q.1 _ _ h2), ?_, ?_⟩
        · rintro i v σ H3 hv ⟨e3, vd, rfl⟩
          have hv3 := (h3 v (List.mem_of_getElem? hv)).ex e3
          exact b_not (H0 := H3) (Ex.refl H3) (et_is (et_test (ev_op (ev_takes (b := false) (ev_var rfl) (hL2.ex e3) (ep_of (v := v) (ev_var rfl) fun H4 e => hv3.ex e)) ev_c rv_notB)) rfl) fun H4 e34 _ => ⟨e3.trans e34, _, rfl⟩
        · rintro σ H3 ⟨e3, vd, rfl⟩
          exact b_ret (H0 := H3) (v := .bl true) (Ex.refl H3) ev_c fun H4 _ _ => k H4
    · have hbk : bk = false := by simpa using hb
      obtain ⟨p, q, rfl, ⟨_, nfl, hp, hq⟩ | ⟨h, _⟩⟩ := hDG
      rotate_left
      · rw [h] at hbk
        cases hbk
      have few := L.few
      have i16 : ∀ x, img d.m d.M x < 16 := fun x => img_small L
      have t15 := t14.ex e1415
      -- n, images = due[1:]
      refine c_asgS2 (es_of (ep_eu (eu_slF (k := 1) (xs := [.str "lower", .int ((irr d.m d.M).length : Nat), .ref q]) (ev_var rfl) (t15.e _ _ hp) ev_c (by show 1 ≤ 3; decide) (by decide)))) ?_
      rintro _ H16 ⟨e1516, p16, rfl, h16⟩
      refine ⟨p16, _, _, rfl, h16, ?_⟩
      have t16 := t15.ex e1516
      refine c_asgS (es_take (m := d.m) (ea_cons (ev_var rfl) (ea_cons (ev_var rfl) ea_nil)) t16.s pos (by omega)) ?_
      rintro _ H17 ⟨at', rfl, hat, o17, s17⟩
      have t17 := t16.take nlt gst o17 s17
      refine c_asgS (es_take (m := 16) (ea_cons (ev_var rfl) (ea_cons ev_c ea_nil)) t17.s (by decide) (by decide)) ?_
      rintro _ H18 ⟨ot, rfl, hot, o18, s18⟩
      have t18 := t17.take nlt gst o18 s18
      generalize hn : (irr d.m d.M).length = n
      rw [hn] at few
      refine c_norm (σ' := [some (.ref a), some (.ref st), some (.ref fa), some (.ref d.aJ), some (.ref d.aM), some (.int (d.m : Nat)), some (.ref l.p), some (.ref p), some (.bl bk), some (.ref pt), some (.int (n : Nat)), some (.ref q), some (.ref lt), some (.int (at' : Nat)), some (.int (ot : Nat)), none, none, none, none, none]) rfl ?_
      have hq18 : H18 q = some (.tup (fnl d.m fun x => .int (img d.m d.M x : Nat))) := t18.e _ _ hq
      refine c_appT glt nlt t18 (by decide) (ev_var rfl) (ep_try (n := n) (s := fun j => if j = at' then ot else img d.m d.M j) (ev_var rfl) (isT_if (ep_cut3 (ev_var rfl) hq18 (ev_var rfl) hat sm (ev_var rfl))) (by omega) fun x hx => ?_) fun H19 t19 _ => ?_
      · have := i16 x
        split <;> omega
      have hq19 : H19 q = some (.tup (fnl d.m fun x => .int (img d.m d.M x : Nat))) := t19.e _ _ hq
      refine c_appT glt nlt t19 (by decide) (ev_var rfl) (ep_try (n := n - 1) (s := img d.m d.M) (ev_is (ev_max2 (ev_op (ev_var rfl) ev_c rv_I0) ev_c) ?_) (ep_of (v := .ref q) (ev_var rfl) fun H2 e => ⟨q, rfl, e _ _ hq19⟩) (by omega) fun x hx => by have := i16 x; omega) fun H20 t20 _ => ?_
      · refine congrArg V.int ?_
        split <;> omega
      have hq20 : H20 q = some (.tup (fnl d.m fun x => .int (img d.m d.M x : Nat))) := t20.e _ _ hq
      refine c_appT glt nlt t20 (by decide) (ev_var rfl) (ep_try (n := n + 1) (s := img d.m d.M) (ev_op (ev_var rfl) ev_c rv_I0) (ep_of (v := .ref q) (ev_var rfl) fun H2 e => ⟨q, rfl, e _ _ hq20⟩) (by omega) fun x hx => by have := i16 x; omega) fun H21 t21 _ => ?_
      have hq21 : H21 q = some (.tup (fnl d.m fun x => .int (img d.m d.M x : Nat))) := t21.e _ _ hq
      refine b_appT glt nlt t21 (by decide) (ev_var rfl) (ep_32T (n := n + 5) rfl (ev_op (ev_var rfl) ev_c rv_I0) (ev_var rfl) hq21 sm (fun x _ => i16 x) (by omega)) fun H22 t22 _ => ?_
      refine kk _ _ ⟨n, q, img d.m d.M, _, _, rfl, ?_, t22.e _ _ hq⟩
      obtain ⟨t1, t2, ws, t3, t4, t5⟩ := t22
      exact ⟨t1, t2, ws, t3, by omega, t5⟩
    · refine ⟨_, ci, f, none, none, rfl, ?_, e1415 _ _ hci14⟩
      obtain ⟨t1, t2, ws, t3, t4, t5⟩ := t14.ex e1415
      exact ⟨t1, t2, ws, t3, by omega, t5⟩
end
end K49
namespace K49
open PySem L2
theorem all_mk {l : PySem.W.OpenLaw} {w : World} {K : PySem.W.Frag} {h : Heap} {mg : Str → Option Value} {fa C f_is_integer f_members f_set_of f_has f_m_len f_m_met f_m_joined f_is_failure f_takes_lattice f_checked_pairs f_closed_above f_bounds_table f_m_init f_m_at_most f_m_covers f_m_join_irreducibles f_m_distributive_failure f_m_is_distributive f_images f_lattice_paper f__law_state f__law_take f__law_common f__law_family f__law_tables f__law_lattice f__law_fails f__law_least_failure f__law_below f__law_irreducibles f__law_power f__law_due_paper f__law_not_above f__law_united f__law_goes f__law_forms f_law : Addr} {tM : Tok} (X : K.In h) (G : h.Ns mainGlobals mg) (hfa : mg "law" = some (.ref fa))
    {od_is_integer an_is_integer od_members an_members od_set_of an_set_of od_has an_has od_m_len an_m_len od_m_met an_m_met od_m_joined an_m_joined od_is_failure an_is_failure od_takes_lattice an_takes_lattice od_checked_pairs an_checked_pairs od_closed_above an_closed_above od_bounds_table an_bounds_table od_m_init an_m_init od_m_at_most an_m_at_most od_m_covers an_m_covers od_m_join_irreducibles an_m_join_irreducibles od_m_distributive_failure an_m_distributive_failure od_m_is_distributive an_m_is_distributive od_images an_images od_lattice_paper an_lattice_paper od__law_state an__law_state od__law_take an__law_take od__law_common an__law_common od__law_family an__law_family od__law_tables an__law_tables od__law_lattice an__law_lattice od__law_fails an__law_fails od__law_least_failure an__law_least_failure od__law_below an__law_below od__law_irreducibles an__law_irreducibles od__law_power an__law_power od__law_due_paper an__law_due_paper od__law_not_above an__law_not_above od__law_united an__law_united od__law_goes an__law_goes od__law_forms an__law_forms od_law an_law : Option Addr}
    {sl_is_integer sl_members sl_set_of sl_has sl_m_len sl_m_met sl_m_joined sl_is_failure sl_takes_lattice sl_checked_pairs sl_closed_above sl_bounds_table sl_m_init sl_m_at_most sl_m_covers sl_m_join_irreducibles sl_m_distributive_failure sl_m_is_distributive sl_images sl_lattice_paper sl__law_state sl__law_take sl__law_common sl__law_family sl__law_tables sl__law_lattice sl__law_fails sl__law_least_failure sl__law_below sl__law_irreducibles sl__law_power sl__law_due_paper sl__law_not_above sl__law_united sl__law_goes sl__law_forms sl_law : Array (Option Value)}
    {oc_is_integer kV_is_integer dc_is_integer pm_is_integer cd_is_integer ct_is_integer oc_members kV_members dc_members pm_members cd_members ct_members oc_set_of kV_set_of dc_set_of pm_set_of cd_set_of ct_set_of oc_has kV_has dc_has pm_has cd_has ct_has oc_m_len kV_m_len dc_m_len pm_m_len cd_m_len ct_m_len oc_m_met kV_m_met dc_m_met pm_m_met cd_m_met ct_m_met oc_m_joined kV_m_joined dc_m_joined pm_m_joined cd_m_joined ct_m_joined oc_is_failure kV_is_failure dc_is_failure pm_is_failure cd_is_failure ct_is_failure oc_takes_lattice kV_takes_lattice dc_takes_lattice pm_takes_lattice cd_takes_lattice ct_takes_lattice oc_checked_pairs kV_checked_pairs dc_checked_pairs pm_checked_pairs cd_checked_pairs ct_checked_pairs oc_closed_above kV_closed_above dc_closed_above pm_closed_above cd_closed_above ct_closed_above oc_bounds_table kV_bounds_table dc_bounds_table pm_bounds_table cd_bounds_table ct_bounds_table oc_m_init kV_m_init dc_m_init pm_m_init cd_m_init ct_m_init oc_m_at_most kV_m_at_most dc_m_at_most pm_m_at_most cd_m_at_most ct_m_at_most oc_m_covers kV_m_covers dc_m_covers pm_m_covers cd_m_covers ct_m_covers oc_m_join_irreducibles kV_m_join_irreducibles dc_m_join_irreducibles pm_m_join_irreducibles cd_m_join_irreducibles ct_m_join_irreducibles oc_m_distributive_failure kV_m_distributive_failure dc_m_distributive_failure pm_m_distributive_failure cd_m_distributive_failure ct_m_distributive_failure oc_m_is_distributive kV_m_is_distributive dc_m_is_distributive pm_m_is_distributive cd_m_is_distributive ct_m_is_distributive oc_images kV_images dc_images pm_images cd_images ct_images oc_lattice_paper kV_lattice_paper dc_lattice_paper pm_lattice_paper cd_lattice_paper ct_lattice_paper oc__law_state kV__law_state dc__law_state pm__law_state cd__law_state ct__law_state oc__law_take kV__law_take dc__law_take pm__law_take cd__law_take ct__law_take oc__law_common kV__law_common dc__law_common pm__law_common cd__law_common ct__law_common oc__law_family kV__law_family dc__law_family pm__law_family cd__law_family ct__law_family oc__law_tables kV__law_tables dc__law_tables pm__law_tables cd__law_tables ct__law_tables oc__law_lattice kV__law_lattice dc__law_lattice pm__law_lattice cd__law_lattice ct__law_lattice oc__law_fails kV__law_fails dc__law_fails pm__law_fails cd__law_fails ct__law_fails oc__law_least_failure kV__law_least_failure dc__law_least_failure pm__law_least_failure cd__law_least_failure ct__law_least_failure oc__law_below kV__law_below dc__law_below pm__law_below cd__law_below ct__law_below oc__law_irreducibles kV__law_irreducibles dc__law_irreducibles pm__law_irreducibles cd__law_irreducibles ct__law_irreducibles oc__law_power kV__law_power dc__law_power pm__law_power cd__law_power ct__law_power oc__law_due_paper kV__law_due_paper dc__law_due_paper pm__law_due_paper cd__law_due_paper ct__law_due_paper oc__law_not_above kV__law_not_above dc__law_not_above pm__law_not_above cd__law_not_above ct__law_not_above oc__law_united kV__law_united dc__law_united pm__law_united cd__law_united ct__law_united oc__law_goes kV__law_goes dc__law_goes pm__law_goes cd__law_goes ct__law_goes oc__law_forms kV__law_forms dc__law_forms pm__law_forms cd__law_forms ct__law_forms oc_law kV_law dc_law pm_law cd_law ct_law : Value}
    (aC : PySem.W.nsIn K mainGlobals "Lattice" = some (some (.ref C)))
    (n_is_integer : PySem.W.nsIn K mainGlobals "is_integer" = some (some (.ref f_is_integer)))
    (l_is_integer : K.lookup f_is_integer = some ⟨oc_is_integer, od_is_integer, .func (PySem.W.fnOf "is_integer" "is_integer" (defArgs s_is_integer) (defBody s_is_integer) (defScope s_is_integer) .none kV_is_integer dc_is_integer pm_is_integer an_is_integer cd_is_integer ct_is_integer), sl_is_integer⟩)
    (c_is_integer : PySem.W.codeIn K cd_is_integer "is_integer" = true)
    (k_is_integer : PySem.W.keepIn K (.ref f_is_integer) = true)
    (n_members : PySem.W.nsIn K mainGlobals "members" = some (some (.ref f_members)))
    (l_members : K.lookup f_members = some ⟨oc_members, od_members, .func (PySem.W.fnOf "members" "members" (defArgs s_members) (defBody s_members) (defScope s_members) .none kV_members dc_members pm_members an_members cd_members ct_members), sl_members⟩)
    (c_members : PySem.W.codeIn K cd_members "members" = true)
    (k_members : PySem.W.keepIn K (.ref f_members) = true)
    (n_set_of : PySem.W.nsIn K mainGlobals "set_of" = some (some (.ref f_set_of)))
    (l_set_of : K.lookup f_set_of = some ⟨oc_set_of, od_set_of, .func (PySem.W.fnOf "set_of" "set_of" (defArgs s_set_of) (defBody s_set_of) (defScope s_set_of) .none kV_set_of dc_set_of pm_set_of an_set_of cd_set_of ct_set_of), sl_set_of⟩)
    (c_set_of : PySem.W.codeIn K cd_set_of "set_of" = true)
    (k_set_of : PySem.W.keepIn K (.ref f_set_of) = true)
    (n_has : PySem.W.nsIn K mainGlobals "has" = some (some (.ref f_has)))
    (l_has : K.lookup f_has = some ⟨oc_has, od_has, .func (PySem.W.fnOf "has" "has" (defArgs s_has) (defBody s_has) (defScope s_has) .none kV_has dc_has pm_has an_has cd_has ct_has), sl_has⟩)
    (c_has : PySem.W.codeIn K cd_has "has" = true)
    (k_has : PySem.W.keepIn K (.ref f_has) = true)
    (n_m_len : PySem.W.findIn K (.ref C) "__len__" = some (some (.ref f_m_len)))
    (i_m_len : PySem.W.isFn K (.ref f_m_len) = true)
    (l_m_len : K.lookup f_m_len = some ⟨oc_m_len, od_m_len, .func (PySem.W.fnOf "__len__" "Lattice.__len__" (defArgs s_m_len) (defBody s_m_len) (defScope s_m_len) .none kV_m_len dc_m_len pm_m_len an_m_len cd_m_len ct_m_len), sl_m_len⟩)
    (c_m_len : PySem.W.codeIn K cd_m_len "Lattice.__len__" = true)
    (k_m_len : PySem.W.keepIn K (.ref f_m_len) = true)
    (n_m_met : PySem.W.findIn K (.ref C) "met" = some (some (.ref f_m_met)))
    (i_m_met : PySem.W.isFn K (.ref f_m_met) = true)
    (l_m_met : K.lookup f_m_met = some ⟨oc_m_met, od_m_met, .func (PySem.W.fnOf "met" "Lattice.met" (defArgs s_m_met) (defBody s_m_met) (defScope s_m_met) .none kV_m_met dc_m_met pm_m_met an_m_met cd_m_met ct_m_met), sl_m_met⟩)
    (c_m_met : PySem.W.codeIn K cd_m_met "Lattice.met" = true)
    (k_m_met : PySem.W.keepIn K (.ref f_m_met) = true)
    (n_m_joined : PySem.W.findIn K (.ref C) "joined" = some (some (.ref f_m_joined)))
    (i_m_joined : PySem.W.isFn K (.ref f_m_joined) = true)
    (l_m_joined : K.lookup f_m_joined = some ⟨oc_m_joined, od_m_joined, .func (PySem.W.fnOf "joined" "Lattice.joined" (defArgs s_m_joined) (defBody s_m_joined) (defScope s_m_joined) .none kV_m_joined dc_m_joined pm_m_joined an_m_joined cd_m_joined ct_m_joined), sl_m_joined⟩)
    (c_m_joined : PySem.W.codeIn K cd_m_joined "Lattice.joined" = true)
    (k_m_joined : PySem.W.keepIn K (.ref f_m_joined) = true)
    (n_is_failure : PySem.W.nsIn K mainGlobals "is_failure" = some (some (.ref f_is_failure)))
    (l_is_failure : K.lookup f_is_failure = some ⟨oc_is_failure, od_is_failure, .func (PySem.W.fnOf "is_failure" "is_failure" (defArgs s_is_failure) (defBody s_is_failure) (defScope s_is_failure) .none kV_is_failure dc_is_failure pm_is_failure an_is_failure cd_is_failure ct_is_failure), sl_is_failure⟩)
    (c_is_failure : PySem.W.codeIn K cd_is_failure "is_failure" = true)
    (k_is_failure : PySem.W.keepIn K (.ref f_is_failure) = true)
    (n_takes_lattice : PySem.W.nsIn K mainGlobals "takes_lattice" = some (some (.ref f_takes_lattice)))
    (l_takes_lattice : K.lookup f_takes_lattice = some ⟨oc_takes_lattice, od_takes_lattice, .func (PySem.W.fnOf "takes_lattice" "takes_lattice" (defArgs s_takes_lattice) (defBody s_takes_lattice) (defScope s_takes_lattice) .none kV_takes_lattice dc_takes_lattice pm_takes_lattice an_takes_lattice cd_takes_lattice ct_takes_lattice), sl_takes_lattice⟩)
    (c_takes_lattice : PySem.W.codeIn K cd_takes_lattice "takes_lattice" = true)
    (k_takes_lattice : PySem.W.keepIn K (.ref f_takes_lattice) = true)
    (n_checked_pairs : PySem.W.nsIn K mainGlobals "checked_pairs" = some (some (.ref f_checked_pairs)))
    (l_checked_pairs : K.lookup f_checked_pairs = some ⟨oc_checked_pairs, od_checked_pairs, .func (PySem.W.fnOf "checked_pairs" "checked_pairs" (defArgs s_checked_pairs) (defBody s_checked_pairs) (defScope s_checked_pairs) .none kV_checked_pairs dc_checked_pairs pm_checked_pairs an_checked_pairs cd_checked_pairs ct_checked_pairs), sl_checked_pairs⟩)
    (c_checked_pairs : PySem.W.codeIn K cd_checked_pairs "checked_pairs" = true)
    (k_checked_pairs : PySem.W.keepIn K (.ref f_checked_pairs) = true)
    (n_closed_above : PySem.W.nsIn K mainGlobals "closed_above" = some (some (.ref f_closed_above)))
    (l_closed_above : K.lookup f_closed_above = some ⟨oc_closed_above, od_closed_above, .func (PySem.W.fnOf "closed_above" "closed_above" (defArgs s_closed_above) (defBody s_closed_above) (defScope s_closed_above) .none kV_closed_above dc_closed_above pm_closed_above an_closed_above cd_closed_above ct_closed_above), sl_closed_above⟩)
    (c_closed_above : PySem.W.codeIn K cd_closed_above "closed_above" = true)
    (k_closed_above : PySem.W.keepIn K (.ref f_closed_above) = true)
    (n_bounds_table : PySem.W.nsIn K mainGlobals "bounds_table" = some (some (.ref f_bounds_table)))
    (l_bounds_table : K.lookup f_bounds_table = some ⟨oc_bounds_table, od_bounds_table, .func (PySem.W.fnOf "bounds_table" "bounds_table" (defArgs s_bounds_table) (defBody s_bounds_table) (defScope s_bounds_table) .none kV_bounds_table dc_bounds_table pm_bounds_table an_bounds_table cd_bounds_table ct_bounds_table), sl_bounds_table⟩)
    (c_bounds_table : PySem.W.codeIn K cd_bounds_table "bounds_table" = true)
    (k_bounds_table : PySem.W.keepIn K (.ref f_bounds_table) = true)
    (n_m_init : PySem.W.findIn K (.ref C) "__init__" = some (some (.ref f_m_init)))
    (i_m_init : PySem.W.isFn K (.ref f_m_init) = true)
    (l_m_init : K.lookup f_m_init = some ⟨oc_m_init, od_m_init, .func (PySem.W.fnOf "__init__" "Lattice.__init__" (defArgs s_m_init) (defBody s_m_init) (defScope s_m_init) .none kV_m_init dc_m_init pm_m_init an_m_init cd_m_init ct_m_init), sl_m_init⟩)
    (c_m_init : PySem.W.codeIn K cd_m_init "Lattice.__init__" = true)
    (k_m_init : PySem.W.keepIn K (.ref f_m_init) = true)
    (n_m_at_most : PySem.W.findIn K (.ref C) "at_most" = some (some (.ref f_m_at_most)))
    (i_m_at_most : PySem.W.isFn K (.ref f_m_at_most) = true)
    (l_m_at_most : K.lookup f_m_at_most = some ⟨oc_m_at_most, od_m_at_most, .func (PySem.W.fnOf "at_most" "Lattice.at_most" (defArgs s_m_at_most) (defBody s_m_at_most) (defScope s_m_at_most) .none kV_m_at_most dc_m_at_most pm_m_at_most an_m_at_most cd_m_at_most ct_m_at_most), sl_m_at_most⟩)
    (c_m_at_most : PySem.W.codeIn K cd_m_at_most "Lattice.at_most" = true)
    (k_m_at_most : PySem.W.keepIn K (.ref f_m_at_most) = true)
    (n_m_covers : PySem.W.findIn K (.ref C) "covers" = some (some (.ref f_m_covers)))
    (i_m_covers : PySem.W.isFn K (.ref f_m_covers) = true)
    (l_m_covers : K.lookup f_m_covers = some ⟨oc_m_covers, od_m_covers, .func (PySem.W.fnOf "covers" "Lattice.covers" (defArgs s_m_covers) (defBody s_m_covers) (defScope s_m_covers) .none kV_m_covers dc_m_covers pm_m_covers an_m_covers cd_m_covers ct_m_covers), sl_m_covers⟩)
    (c_m_covers : PySem.W.codeIn K cd_m_covers "Lattice.covers" = true)
    (k_m_covers : PySem.W.keepIn K (.ref f_m_covers) = true)
    (n_m_join_irreducibles : PySem.W.findIn K (.ref C) "join_irreducibles" = some (some (.ref f_m_join_irreducibles)))
    (i_m_join_irreducibles : PySem.W.isFn K (.ref f_m_join_irreducibles) = true)
    (l_m_join_irreducibles : K.lookup f_m_join_irreducibles = some ⟨oc_m_join_irreducibles, od_m_join_irreducibles, .func (PySem.W.fnOf "join_irreducibles" "Lattice.join_irreducibles" (defArgs s_m_join_irreducibles) (defBody s_m_join_irreducibles) (defScope s_m_join_irreducibles) .none kV_m_join_irreducibles dc_m_join_irreducibles pm_m_join_irreducibles an_m_join_irreducibles cd_m_join_irreducibles ct_m_join_irreducibles), sl_m_join_irreducibles⟩)
    (c_m_join_irreducibles : PySem.W.codeIn K cd_m_join_irreducibles "Lattice.join_irreducibles" = true)
    (k_m_join_irreducibles : PySem.W.keepIn K (.ref f_m_join_irreducibles) = true)
    (n_m_distributive_failure : PySem.W.findIn K (.ref C) "distributive_failure" = some (some (.ref f_m_distributive_failure)))
    (i_m_distributive_failure : PySem.W.isFn K (.ref f_m_distributive_failure) = true)
    (l_m_distributive_failure : K.lookup f_m_distributive_failure = some ⟨oc_m_distributive_failure, od_m_distributive_failure, .func (PySem.W.fnOf "distributive_failure" "Lattice.distributive_failure" (defArgs s_m_distributive_failure) (defBody s_m_distributive_failure) (defScope s_m_distributive_failure) .none kV_m_distributive_failure dc_m_distributive_failure pm_m_distributive_failure an_m_distributive_failure cd_m_distributive_failure ct_m_distributive_failure), sl_m_distributive_failure⟩)
    (c_m_distributive_failure : PySem.W.codeIn K cd_m_distributive_failure "Lattice.distributive_failure" = true)
    (k_m_distributive_failure : PySem.W.keepIn K (.ref f_m_distributive_failure) = true)
    (n_m_is_distributive : PySem.W.findIn K (.ref C) "is_distributive" = some (some (.ref f_m_is_distributive)))
    (i_m_is_distributive : PySem.W.isFn K (.ref f_m_is_distributive) = true)
    (l_m_is_distributive : K.lookup f_m_is_distributive = some ⟨oc_m_is_distributive, od_m_is_distributive, .func (PySem.W.fnOf "is_distributive" "Lattice.is_distributive" (defArgs s_m_is_distributive) (defBody s_m_is_distributive) (defScope s_m_is_distributive) .none kV_m_is_distributive dc_m_is_distributive pm_m_is_distributive an_m_is_distributive cd_m_is_distributive ct_m_is_distributive), sl_m_is_distributive⟩)
    (c_m_is_distributive : PySem.W.codeIn K cd_m_is_distributive "Lattice.is_distributive" = true)
    (k_m_is_distributive : PySem.W.keepIn K (.ref f_m_is_distributive) = true)
    (n_images : PySem.W.nsIn K mainGlobals "images" = some (some (.ref f_images)))
    (l_images : K.lookup f_images = some ⟨oc_images, od_images, .func (PySem.W.fnOf "images" "images" (defArgs s_images) (defBody s_images) (defScope s_images) .none kV_images dc_images pm_images an_images cd_images ct_images), sl_images⟩)
    (c_images : PySem.W.codeIn K cd_images "images" = true)
    (k_images : PySem.W.keepIn K (.ref f_images) = true)
    (n_lattice_paper : PySem.W.nsIn K mainGlobals "lattice_paper" = some (some (.ref f_lattice_paper)))
    (l_lattice_paper : K.lookup f_lattice_paper = some ⟨oc_lattice_paper, od_lattice_paper, .func (PySem.W.fnOf "lattice_paper" "lattice_paper" (defArgs s_lattice_paper) (defBody s_lattice_paper) (defScope s_lattice_paper) .none kV_lattice_paper dc_lattice_paper pm_lattice_paper an_lattice_paper cd_lattice_paper ct_lattice_paper), sl_lattice_paper⟩)
    (c_lattice_paper : PySem.W.codeIn K cd_lattice_paper "lattice_paper" = true)
    (k_lattice_paper : PySem.W.keepIn K (.ref f_lattice_paper) = true)
    (n__law_state : PySem.W.nsIn K mainGlobals "_law_state" = some (some (.ref f__law_state)))
    (l__law_state : K.lookup f__law_state = some ⟨oc__law_state, od__law_state, .func (PySem.W.fnOf "_law_state" "_law_state" (defArgs s__law_state) (defBody s__law_state) (defScope s__law_state) .none kV__law_state dc__law_state pm__law_state an__law_state cd__law_state ct__law_state), sl__law_state⟩)
    (c__law_state : PySem.W.codeIn K cd__law_state "_law_state" = true)
    (k__law_state : PySem.W.keepIn K (.ref f__law_state) = true)
    (n__law_take : PySem.W.nsIn K mainGlobals "_law_take" = some (some (.ref f__law_take)))
    (l__law_take : K.lookup f__law_take = some ⟨oc__law_take, od__law_take, .func (PySem.W.fnOf "_law_take" "_law_take" (defArgs s__law_take) (defBody s__law_take) (defScope s__law_take) .none kV__law_take dc__law_take pm__law_take an__law_take cd__law_take ct__law_take), sl__law_take⟩)
    (c__law_take : PySem.W.codeIn K cd__law_take "_law_take" = true)
    (k__law_take : PySem.W.keepIn K (.ref f__law_take) = true)
    (n__law_common : PySem.W.nsIn K mainGlobals "_law_common" = some (some (.ref f__law_common)))
    (l__law_common : K.lookup f__law_common = some ⟨oc__law_common, od__law_common, .func (PySem.W.fnOf "_law_common" "_law_common" (defArgs s__law_common) (defBody s__law_common) (defScope s__law_common) .none kV__law_common dc__law_common pm__law_common an__law_common cd__law_common ct__law_common), sl__law_common⟩)
    (c__law_common : PySem.W.codeIn K cd__law_common "_law_common" = true)
    (k__law_common : PySem.W.keepIn K (.ref f__law_common) = true)
    (n__law_family : PySem.W.nsIn K mainGlobals "_law_family" = some (some (.ref f__law_family)))
    (l__law_family : K.lookup f__law_family = some ⟨oc__law_family, od__law_family, .func (PySem.W.fnOf "_law_family" "_law_family" (defArgs s__law_family) (defBody s__law_family) (defScope s__law_family) .none kV__law_family dc__law_family pm__law_family an__law_family cd__law_family ct__law_family), sl__law_family⟩)
    (c__law_family : PySem.W.codeIn K cd__law_family "_law_family" = true)
    (k__law_family : PySem.W.keepIn K (.ref f__law_family) = true)
    (n__law_tables : PySem.W.nsIn K mainGlobals "_law_tables" = some (some (.ref f__law_tables)))
    (l__law_tables : K.lookup f__law_tables = some ⟨oc__law_tables, od__law_tables, .func (PySem.W.fnOf "_law_tables" "_law_tables" (defArgs s__law_tables) (defBody s__law_tables) (defScope s__law_tables) .none kV__law_tables dc__law_tables pm__law_tables an__law_tables cd__law_tables ct__law_tables), sl__law_tables⟩)
    (c__law_tables : PySem.W.codeIn K cd__law_tables "_law_tables" = true)
    (k__law_tables : PySem.W.keepIn K (.ref f__law_tables) = true)
    (n__law_lattice : PySem.W.nsIn K mainGlobals "_law_lattice" = some (some (.ref f__law_lattice)))
    (l__law_lattice : K.lookup f__law_lattice = some ⟨oc__law_lattice, od__law_lattice, .func (PySem.W.fnOf "_law_lattice" "_law_lattice" (defArgs s__law_lattice) (defBody s__law_lattice) (defScope s__law_lattice) .none kV__law_lattice dc__law_lattice pm__law_lattice an__law_lattice cd__law_lattice ct__law_lattice), sl__law_lattice⟩)
    (c__law_lattice : PySem.W.codeIn K cd__law_lattice "_law_lattice" = true)
    (k__law_lattice : PySem.W.keepIn K (.ref f__law_lattice) = true)
    (n__law_fails : PySem.W.nsIn K mainGlobals "_law_fails" = some (some (.ref f__law_fails)))
    (l__law_fails : K.lookup f__law_fails = some ⟨oc__law_fails, od__law_fails, .func (PySem.W.fnOf "_law_fails" "_law_fails" (defArgs s__law_fails) (defBody s__law_fails) (defScope s__law_fails) .none kV__law_fails dc__law_fails pm__law_fails an__law_fails cd__law_fails ct__law_fails), sl__law_fails⟩)
    (c__law_fails : PySem.W.codeIn K cd__law_fails "_law_fails" = true)
    (k__law_fails : PySem.W.keepIn K (.ref f__law_fails) = true)
    (n__law_least_failure : PySem.W.nsIn K mainGlobals "_law_least_failure" = some (some (.ref f__law_least_failure)))
    (l__law_least_failure : K.lookup f__law_least_failure = some ⟨oc__law_least_failure, od__law_least_failure, .func (PySem.W.fnOf "_law_least_failure" "_law_least_failure" (defArgs s__law_least_failure) (defBody s__law_least_failure) (defScope s__law_least_failure) .none kV__law_least_failure dc__law_least_failure pm__law_least_failure an__law_least_failure cd__law_least_failure ct__law_least_failure), sl__law_least_failure⟩)
    (c__law_least_failure : PySem.W.codeIn K cd__law_least_failure "_law_least_failure" = true)
    (k__law_least_failure : PySem.W.keepIn K (.ref f__law_least_failure) = true)
    (n__law_below : PySem.W.nsIn K mainGlobals "_law_below" = some (some (.ref f__law_below)))
    (l__law_below : K.lookup f__law_below = some ⟨oc__law_below, od__law_below, .func (PySem.W.fnOf "_law_below" "_law_below" (defArgs s__law_below) (defBody s__law_below) (defScope s__law_below) .none kV__law_below dc__law_below pm__law_below an__law_below cd__law_below ct__law_below), sl__law_below⟩)
    (c__law_below : PySem.W.codeIn K cd__law_below "_law_below" = true)
    (k__law_below : PySem.W.keepIn K (.ref f__law_below) = true)
    (n__law_irreducibles : PySem.W.nsIn K mainGlobals "_law_irreducibles" = some (some (.ref f__law_irreducibles)))
    (l__law_irreducibles : K.lookup f__law_irreducibles = some ⟨oc__law_irreducibles, od__law_irreducibles, .func (PySem.W.fnOf "_law_irreducibles" "_law_irreducibles" (defArgs s__law_irreducibles) (defBody s__law_irreducibles) (defScope s__law_irreducibles) .none kV__law_irreducibles dc__law_irreducibles pm__law_irreducibles an__law_irreducibles cd__law_irreducibles ct__law_irreducibles), sl__law_irreducibles⟩)
    (c__law_irreducibles : PySem.W.codeIn K cd__law_irreducibles "_law_irreducibles" = true)
    (k__law_irreducibles : PySem.W.keepIn K (.ref f__law_irreducibles) = true)
    (n__law_power : PySem.W.nsIn K mainGlobals "_law_power" = some (some (.ref f__law_power)))
    (l__law_power : K.lookup f__law_power = some ⟨oc__law_power, od__law_power, .func (PySem.W.fnOf "_law_power" "_law_power" (defArgs s__law_power) (defBody s__law_power) (defScope s__law_power) .none kV__law_power dc__law_power pm__law_power an__law_power cd__law_power ct__law_power), sl__law_power⟩)
    (c__law_power : PySem.W.codeIn K cd__law_power "_law_power" = true)
    (k__law_power : PySem.W.keepIn K (.ref f__law_power) = true)
    (n__law_due_paper : PySem.W.nsIn K mainGlobals "_law_due_paper" = some (some (.ref f__law_due_paper)))
    (l__law_due_paper : K.lookup f__law_due_paper = some ⟨oc__law_due_paper, od__law_due_paper, .func (PySem.W.fnOf "_law_due_paper" "_law_due_paper" (defArgs s__law_due_paper) (defBody s__law_due_paper) (defScope s__law_due_paper) .none kV__law_due_paper dc__law_due_paper pm__law_due_paper an__law_due_paper cd__law_due_paper ct__law_due_paper), sl__law_due_paper⟩)
    (c__law_due_paper : PySem.W.codeIn K cd__law_due_paper "_law_due_paper" = true)
    (k__law_due_paper : PySem.W.keepIn K (.ref f__law_due_paper) = true)
    (n__law_not_above : PySem.W.nsIn K mainGlobals "_law_not_above" = some (some (.ref f__law_not_above)))
    (l__law_not_above : K.lookup f__law_not_above = some ⟨oc__law_not_above, od__law_not_above, .func (PySem.W.fnOf "_law_not_above" "_law_not_above" (defArgs s__law_not_above) (defBody s__law_not_above) (defScope s__law_not_above) .none kV__law_not_above dc__law_not_above pm__law_not_above an__law_not_above cd__law_not_above ct__law_not_above), sl__law_not_above⟩)
    (c__law_not_above : PySem.W.codeIn K cd__law_not_above "_law_not_above" = true)
    (k__law_not_above : PySem.W.keepIn K (.ref f__law_not_above) = true)
    (n__law_united : PySem.W.nsIn K mainGlobals "_law_united" = some (some (.ref f__law_united)))
    (l__law_united : K.lookup f__law_united = some ⟨oc__law_united, od__law_united, .func (PySem.W.fnOf "_law_united" "_law_united" (defArgs s__law_united) (defBody s__law_united) (defScope s__law_united) .none kV__law_united dc__law_united pm__law_united an__law_united cd__law_united ct__law_united), sl__law_united⟩)
    (c__law_united : PySem.W.codeIn K cd__law_united "_law_united" = true)
    (k__law_united : PySem.W.keepIn K (.ref f__law_united) = true)
    (n__law_goes : PySem.W.nsIn K mainGlobals "_law_goes" = some (some (.ref f__law_goes)))
    (l__law_goes : K.lookup f__law_goes = some ⟨oc__law_goes, od__law_goes, .func (PySem.W.fnOf "_law_goes" "_law_goes" (defArgs s__law_goes) (defBody s__law_goes) (defScope s__law_goes) .none kV__law_goes dc__law_goes pm__law_goes an__law_goes cd__law_goes ct__law_goes), sl__law_goes⟩)
    (c__law_goes : PySem.W.codeIn K cd__law_goes "_law_goes" = true)
    (k__law_goes : PySem.W.keepIn K (.ref f__law_goes) = true)
    (n__law_forms : PySem.W.nsIn K mainGlobals "_law_forms" = some (some (.ref f__law_forms)))
    (l__law_forms : K.lookup f__law_forms = some ⟨oc__law_forms, od__law_forms, .func (PySem.W.fnOf "_law_forms" "_law_forms" (defArgs s__law_forms) (defBody s__law_forms) (defScope s__law_forms) .none kV__law_forms dc__law_forms pm__law_forms an__law_forms cd__law_forms ct__law_forms), sl__law_forms⟩)
    (c__law_forms : PySem.W.codeIn K cd__law_forms "_law_forms" = true)
    (k__law_forms : PySem.W.keepIn K (.ref f__law_forms) = true)
    (n_law : PySem.W.nsIn K mainGlobals "law" = some (some (.ref f_law)))
    (l_law : K.lookup f_law = some ⟨oc_law, od_law, .func (PySem.W.fnOf "law" "law" (defArgs s_law) (defBody s_law) (defScope s_law) .none kV_law dc_law pm_law an_law cd_law ct_law), sl_law⟩)
    (c_law : PySem.W.codeIn K cd_law "law" = true)
    (k_law : PySem.W.keepIn K (.ref f_law) = true)
    (pg : PySem.W.plainGet K C Str.empty = true)
    (hd : PySem.W.hasDictIn K C = true)
    (po : PySem.W.plainOver K C = true)
    (sa : PySem.W.findIn K (.ref C) "__setattr__" = some (some (.builtin "object.__setattr__")))
    (mk : PySem.W.makesIn K C = true)
    (kc : PySem.W.keepIn K (.ref C) = true)
    (x_above : PySem.W.findIn K (.ref C) "above" = some none)
    (x_joins : PySem.W.findIn K (.ref C) "joins" = some none)
    (x_meets : PySem.W.findIn K (.ref C) "meets" = some none)
    (aM : PySem.W.nsIn K mainGlobals "MOST_MEMBERS" = some (some (.int 64 tM)))
    (z_len : PySem.W.nsIn K mainGlobals "len" = some none)
    (z_range : PySem.W.nsIn K mainGlobals "range" = some none)
    (z_isinstance : PySem.W.nsIn K mainGlobals "isinstance" = some none)
    (z_int : PySem.W.nsIn K mainGlobals "int" = some none)
    (z_bool : PySem.W.nsIn K mainGlobals "bool" = some none)
    (z_tuple : PySem.W.nsIn K mainGlobals "tuple" = some none)
    (z_list : PySem.W.nsIn K mainGlobals "list" = some none)
    (z_abs : PySem.W.nsIn K mainGlobals "abs" = some none)
    (z_sum : PySem.W.nsIn K mainGlobals "sum" = some none)
    (z_sorted : PySem.W.nsIn K mainGlobals "sorted" = some none)
    (z_max : PySem.W.nsIn K mainGlobals "max" = some none)
    : ∃ fd : FuncData, (∀ (s : Shared) (v : Value), BindsTo s fd ⟨[v], []⟩ [("_law_script", v)]) ∧ ∀ base : Heap, K.In base → base.Ns mainGlobals mg → FnOk l.prog w K mg base CX0 6 fa fd ["_law_script"] (spLaw K) := by
  have e : fa = f_law := Value.ref.inj (Option.some.inj (hfa.symm.trans (PySem.W.mg_of X G n_law)))
  rw [e]
  let T : Tx K mg := {
    C := C
    a_is_integer := f_is_integer
    d_is_integer := _
    p_is_integer := ⟨fun_mk (st := s_is_integer) l_is_integer c_is_integer k_is_integer, PySem.W.mg_of X G n_is_integer, k_is_integer, (fun_mk (st := s_is_integer) l_is_integer c_is_integer k_is_integer).binds (ps := ["value"]) fun _ _ _ _ _ _ us hl => match us, hl with | [_], _ => rfl⟩
    a_members := f_members
    d_members := _
    p_members := ⟨fun_mk (st := s_members) l_members c_members k_members, PySem.W.mg_of X G n_members, k_members, (fun_mk (st := s_members) l_members c_members k_members).binds (ps := ["bits"]) fun _ _ _ _ _ _ us hl => match us, hl with | [_], _ => rfl⟩
    a_set_of := f_set_of
    d_set_of := _
    p_set_of := ⟨fun_mk (st := s_set_of) l_set_of c_set_of k_set_of, PySem.W.mg_of X G n_set_of, k_set_of, (fun_mk (st := s_set_of) l_set_of c_set_of k_set_of).binds (ps := ["points"]) fun _ _ _ _ _ _ us hl => match us, hl with | [_], _ => rfl⟩
    a_has := f_has
    d_has := _
    p_has := ⟨fun_mk (st := s_has) l_has c_has k_has, PySem.W.mg_of X G n_has, k_has, (fun_mk (st := s_has) l_has c_has k_has).binds (ps := ["bits", "x"]) fun _ _ _ _ _ _ us hl => match us, hl with | [_, _], _ => rfl⟩
    a_m_len := f_m_len
    d_m_len := _
    p_m_len := ⟨fun_mk (st := s_m_len) l_m_len c_m_len k_m_len, ⟨n_m_len, i_m_len, k_m_len⟩, (fun_mk (st := s_m_len) l_m_len c_m_len k_m_len).binds (ps := ["self"]) fun _ _ _ _ _ _ us hl => match us, hl with | [_], _ => rfl⟩
    a_m_met := f_m_met
    d_m_met := _
    p_m_met := ⟨fun_mk (st := s_m_met) l_m_met c_m_met k_m_met, ⟨n_m_met, i_m_met, k_m_met⟩, (fun_mk (st := s_m_met) l_m_met c_m_met k_m_met).binds (ps := ["self", "x", "y"]) fun _ _ _ _ _ _ us hl => match us, hl with | [_, _, _], _ => rfl⟩
    a_m_joined := f_m_joined
    d_m_joined := _
    p_m_joined := ⟨fun_mk (st := s_m_joined) l_m_joined c_m_joined k_m_joined, ⟨n_m_joined, i_m_joined, k_m_joined⟩, (fun_mk (st := s_m_joined) l_m_joined c_m_joined k_m_joined).binds (ps := ["self", "x", "y"]) fun _ _ _ _ _ _ us hl => match us, hl with | [_, _, _], _ => rfl⟩
    a_is_failure := f_is_failure
    d_is_failure := _
    p_is_failure := ⟨fun_mk (st := s_is_failure) l_is_failure c_is_failure k_is_failure, PySem.W.mg_of X G n_is_failure, k_is_failure, (fun_mk (st := s_is_failure) l_is_failure c_is_failure k_is_failure).binds (ps := ["lattice", "size", "value"]) fun _ _ _ _ _ _ us hl => match us, hl with | [_, _, _], _ => rfl⟩
    a_takes_lattice := f_takes_lattice
    d_takes_lattice := _
    p_takes_lattice := ⟨fun_mk (st := s_takes_lattice) l_takes_lattice c_takes_lattice k_takes_lattice, PySem.W.mg_of X G n_takes_lattice, k_takes_lattice, (fun_mk (st := s_takes_lattice) l_takes_lattice c_takes_lattice k_takes_lattice).binds (ps := ["lattice", "paper"]) fun _ _ _ _ _ _ us hl => match us, hl with | [_, _], _ => rfl⟩
    a_checked_pairs := f_checked_pairs
    d_checked_pairs := _
    p_checked_pairs := ⟨fun_mk (st := s_checked_pairs) l_checked_pairs c_checked_pairs k_checked_pairs, PySem.W.mg_of X G n_checked_pairs, k_checked_pairs, (fun_mk (st := s_checked_pairs) l_checked_pairs c_checked_pairs k_checked_pairs).binds (ps := ["n", "pairs"]) fun _ _ _ _ _ _ us hl => match us, hl with | [_, _], _ => rfl⟩
    a_closed_above := f_closed_above
    d_closed_above := _
    p_closed_above := ⟨fun_mk (st := s_closed_above) l_closed_above c_closed_above k_closed_above, PySem.W.mg_of X G n_closed_above, k_closed_above, (fun_mk (st := s_closed_above) l_closed_above c_closed_above k_closed_above).binds (ps := ["n", "pairs"]) fun _ _ _ _ _ _ us hl => match us, hl with | [_, _], _ => rfl⟩
    a_bounds_table := f_bounds_table
    d_bounds_table := _
    p_bounds_table := ⟨fun_mk (st := s_bounds_table) l_bounds_table c_bounds_table k_bounds_table, PySem.W.mg_of X G n_bounds_table, k_bounds_table, (fun_mk (st := s_bounds_table) l_bounds_table c_bounds_table k_bounds_table).binds (ps := ["sets"]) fun _ _ _ _ _ _ us hl => match us, hl with | [_], _ => rfl⟩
    a_m_init := f_m_init
    d_m_init := _
    p_m_init := ⟨fun_mk (st := s_m_init) l_m_init c_m_init k_m_init, ⟨n_m_init, i_m_init, k_m_init⟩, (fun_mk (st := s_m_init) l_m_init c_m_init k_m_init).binds (ps := ["self", "n", "pairs"]) fun _ _ _ _ _ _ us hl => match us, hl with | [_, _, _], _ => rfl⟩
    a_m_at_most := f_m_at_most
    d_m_at_most := _
    p_m_at_most := ⟨fun_mk (st := s_m_at_most) l_m_at_most c_m_at_most k_m_at_most, ⟨n_m_at_most, i_m_at_most, k_m_at_most⟩, (fun_mk (st := s_m_at_most) l_m_at_most c_m_at_most k_m_at_most).binds (ps := ["self", "x", "y"]) fun _ _ _ _ _ _ us hl => match us, hl with | [_, _, _], _ => rfl⟩
    a_m_covers := f_m_covers
    d_m_covers := _
    p_m_covers := ⟨fun_mk (st := s_m_covers) l_m_covers c_m_covers k_m_covers, ⟨n_m_covers, i_m_covers, k_m_covers⟩, (fun_mk (st := s_m_covers) l_m_covers c_m_covers k_m_covers).binds (ps := ["self"]) fun _ _ _ _ _ _ us hl => match us, hl with | [_], _ => rfl⟩
    a_m_join_irreducibles := f_m_join_irreducibles
    d_m_join_irreducibles := _
    p_m_join_irreducibles := ⟨fun_mk (st := s_m_join_irreducibles) l_m_join_irreducibles c_m_join_irreducibles k_m_join_irreducibles, ⟨n_m_join_irreducibles, i_m_join_irreducibles, k_m_join_irreducibles⟩, (fun_mk (st := s_m_join_irreducibles) l_m_join_irreducibles c_m_join_irreducibles k_m_join_irreducibles).binds (ps := ["self"]) fun _ _ _ _ _ _ us hl => match us, hl with | [_], _ => rfl⟩
    a_m_distributive_failure := f_m_distributive_failure
    d_m_distributive_failure := _
    p_m_distributive_failure := ⟨fun_mk (st := s_m_distributive_failure) l_m_distributive_failure c_m_distributive_failure k_m_distributive_failure, ⟨n_m_distributive_failure, i_m_distributive_failure, k_m_distributive_failure⟩, (fun_mk (st := s_m_distributive_failure) l_m_distributive_failure c_m_distributive_failure k_m_distributive_failure).binds (ps := ["self"]) fun _ _ _ _ _ _ us hl => match us, hl with | [_], _ => rfl⟩
    a_m_is_distributive := f_m_is_distributive
    d_m_is_distributive := _
    p_m_is_distributive := ⟨fun_mk (st := s_m_is_distributive) l_m_is_distributive c_m_is_distributive k_m_is_distributive, ⟨n_m_is_distributive, i_m_is_distributive, k_m_is_distributive⟩, (fun_mk (st := s_m_is_distributive) l_m_is_distributive c_m_is_distributive k_m_is_distributive).binds (ps := ["self"]) fun _ _ _ _ _ _ us hl => match us, hl with | [_], _ => rfl⟩
    a_images := f_images
    d_images := _
    p_images := ⟨fun_mk (st := s_images) l_images c_images k_images, PySem.W.mg_of X G n_images, k_images, (fun_mk (st := s_images) l_images c_images k_images).binds (ps := ["lattice"]) fun _ _ _ _ _ _ us hl => match us, hl with | [_], _ => rfl⟩
    a_lattice_paper := f_lattice_paper
    d_lattice_paper := _
    p_lattice_paper := ⟨fun_mk (st := s_lattice_paper) l_lattice_paper c_lattice_paper k_lattice_paper, PySem.W.mg_of X G n_lattice_paper, k_lattice_paper, (fun_mk (st := s_lattice_paper) l_lattice_paper c_lattice_paper k_lattice_paper).binds (ps := ["lattice"]) fun _ _ _ _ _ _ us hl => match us, hl with | [_], _ => rfl⟩
    a__law_state := f__law_state
    d__law_state := _
    p__law_state := ⟨fun_mk (st := s__law_state) l__law_state c__law_state k__law_state, PySem.W.mg_of X G n__law_state, k__law_state, (fun_mk (st := s__law_state) l__law_state c__law_state k__law_state).binds (ps := ["_law_script"]) fun _ _ _ _ _ _ us hl => match us, hl with | [_], _ => rfl⟩
    a__law_take := f__law_take
    d__law_take := _
    p__law_take := ⟨fun_mk (st := s__law_take) l__law_take c__law_take k__law_take, PySem.W.mg_of X G n__law_take, k__law_take, (fun_mk (st := s__law_take) l__law_take c__law_take k__law_take).binds (ps := ["_law_state_here", "_law_m"]) fun _ _ _ _ _ _ us hl => match us, hl with | [_, _], _ => rfl⟩
    a__law_common := f__law_common
    d__law_common := _
    p__law_common := ⟨fun_mk (st := s__law_common) l__law_common c__law_common k__law_common, PySem.W.mg_of X G n__law_common, k__law_common, (fun_mk (st := s__law_common) l__law_common c__law_common k__law_common).binds (ps := ["_law_a", "_law_b", "_law_n"]) fun _ _ _ _ _ _ us hl => match us, hl with | [_, _, _], _ => rfl⟩
    a__law_family := f__law_family
    d__law_family := _
    p__law_family := ⟨fun_mk (st := s__law_family) l__law_family c__law_family k__law_family, PySem.W.mg_of X G n__law_family, k__law_family, (fun_mk (st := s__law_family) l__law_family c__law_family k__law_family).binds (ps := ["_law_state_here"]) fun _ _ _ _ _ _ us hl => match us, hl with | [_], _ => rfl⟩
    a__law_tables := f__law_tables
    d__law_tables := _
    p__law_tables := ⟨fun_mk (st := s__law_tables) l__law_tables c__law_tables k__law_tables, PySem.W.mg_of X G n__law_tables, k__law_tables, (fun_mk (st := s__law_tables) l__law_tables c__law_tables k__law_tables).binds (ps := ["_law_family_here"]) fun _ _ _ _ _ _ us hl => match us, hl with | [_], _ => rfl⟩
    a__law_lattice := f__law_lattice
    d__law_lattice := _
    p__law_lattice := ⟨fun_mk (st := s__law_lattice) l__law_lattice c__law_lattice k__law_lattice, PySem.W.mg_of X G n__law_lattice, k__law_lattice, (fun_mk (st := s__law_lattice) l__law_lattice c__law_lattice k__law_lattice).binds (ps := ["_law_family_here", "_law_meets"]) fun _ _ _ _ _ _ us hl => match us, hl with | [_, _], _ => rfl⟩
    a__law_fails := f__law_fails
    d__law_fails := _
    p__law_fails := ⟨fun_mk (st := s__law_fails) l__law_fails c__law_fails k__law_fails, PySem.W.mg_of X G n__law_fails, k__law_fails, (fun_mk (st := s__law_fails) l__law_fails c__law_fails k__law_fails).binds (ps := ["_law_joins", "_law_meets", "_law_x", "_law_y", "_law_z"]) fun _ _ _ _ _ _ us hl => match us, hl with | [_, _, _, _, _], _ => rfl⟩
    a__law_least_failure := f__law_least_failure
    d__law_least_failure := _
    p__law_least_failure := ⟨fun_mk (st := s__law_least_failure) l__law_least_failure c__law_least_failure k__law_least_failure, PySem.W.mg_of X G n__law_least_failure, k__law_least_failure, (fun_mk (st := s__law_least_failure) l__law_least_failure c__law_least_failure k__law_least_failure).binds (ps := ["_law_joins", "_law_meets"]) fun _ _ _ _ _ _ us hl => match us, hl with | [_, _], _ => rfl⟩
    a__law_below := f__law_below
    d__law_below := _
    p__law_below := ⟨fun_mk (st := s__law_below) l__law_below c__law_below k__law_below, PySem.W.mg_of X G n__law_below, k__law_below, (fun_mk (st := s__law_below) l__law_below c__law_below k__law_below).binds (ps := ["_law_meets", "_law_x"]) fun _ _ _ _ _ _ us hl => match us, hl with | [_, _], _ => rfl⟩
    a__law_irreducibles := f__law_irreducibles
    d__law_irreducibles := _
    p__law_irreducibles := ⟨fun_mk (st := s__law_irreducibles) l__law_irreducibles c__law_irreducibles k__law_irreducibles, PySem.W.mg_of X G n__law_irreducibles, k__law_irreducibles, (fun_mk (st := s__law_irreducibles) l__law_irreducibles c__law_irreducibles k__law_irreducibles).binds (ps := ["_law_meets"]) fun _ _ _ _ _ _ us hl => match us, hl with | [_], _ => rfl⟩
    a__law_power := f__law_power
    d__law_power := _
    p__law_power := ⟨fun_mk (st := s__law_power) l__law_power c__law_power k__law_power, PySem.W.mg_of X G n__law_power, k__law_power, (fun_mk (st := s__law_power) l__law_power c__law_power k__law_power).binds (ps := ["_law_k"]) fun _ _ _ _ _ _ us hl => match us, hl with | [_], _ => rfl⟩
    a__law_due_paper := f__law_due_paper
    d__law_due_paper := _
    p__law_due_paper := ⟨fun_mk (st := s__law_due_paper) l__law_due_paper c__law_due_paper k__law_due_paper, PySem.W.mg_of X G n__law_due_paper, k__law_due_paper, (fun_mk (st := s__law_due_paper) l__law_due_paper c__law_due_paper k__law_due_paper).binds (ps := ["_law_joins", "_law_meets"]) fun _ _ _ _ _ _ us hl => match us, hl with | [_, _], _ => rfl⟩
    a__law_not_above := f__law_not_above
    d__law_not_above := _
    p__law_not_above := ⟨fun_mk (st := s__law_not_above) l__law_not_above c__law_not_above k__law_not_above, PySem.W.mg_of X G n__law_not_above, k__law_not_above, (fun_mk (st := s__law_not_above) l__law_not_above c__law_not_above k__law_not_above).binds (ps := ["_law_meets"]) fun _ _ _ _ _ _ us hl => match us, hl with | [_], _ => rfl⟩
    a__law_united := f__law_united
    d__law_united := _
    p__law_united := ⟨fun_mk (st := s__law_united) l__law_united c__law_united k__law_united, PySem.W.mg_of X G n__law_united, k__law_united, (fun_mk (st := s__law_united) l__law_united c__law_united k__law_united).binds (ps := ["_law_a", "_law_b"]) fun _ _ _ _ _ _ us hl => match us, hl with | [_, _], _ => rfl⟩
    a__law_goes := f__law_goes
    d__law_goes := _
    p__law_goes := ⟨fun_mk (st := s__law_goes) l__law_goes c__law_goes k__law_goes, PySem.W.mg_of X G n__law_goes, k__law_goes, (fun_mk (st := s__law_goes) l__law_goes c__law_goes k__law_goes).binds (ps := ["_law_joins", "_law_meets", "_law_n", "_law_images"]) fun _ _ _ _ _ _ us hl => match us, hl with | [_, _, _, _], _ => rfl⟩
    a__law_forms := f__law_forms
    d__law_forms := _
    p__law_forms := ⟨fun_mk (st := s__law_forms) l__law_forms c__law_forms k__law_forms, PySem.W.mg_of X G n__law_forms, k__law_forms, (fun_mk (st := s__law_forms) l__law_forms c__law_forms k__law_forms).binds (ps := ["_law_state_here", "_law_size", "_law_broken", "_law_n", "_law_images"]) fun _ _ _ _ _ _ us hl => match us, hl with | [_, _, _, _, _], _ => rfl⟩
    a_law := f_law
    d_law := _
    p_law := ⟨fun_mk (st := s_law) l_law c_law k_law, PySem.W.mg_of X G n_law, k_law, (fun_mk (st := s_law) l_law c_law k_law).binds (ps := ["_law_script"]) fun _ _ _ _ _ _ us hl => match us, hl with | [_], _ => rfl⟩
    cl := ⟨pg, hd, po, sa⟩
    mkC := ⟨mk, n_m_init, i_m_init, kc⟩
    gC := PySem.W.mg_of X G aC
    mM := ⟨_, PySem.W.mg_of X G aM⟩
    n_above := x_above
    n_joins := x_joins
    n_meets := x_meets
    b_len := PySem.W.mg_none_of X G z_len
    b_range := PySem.W.mg_none_of X G z_range
    b_isinstance := PySem.W.mg_none_of X G z_isinstance
    b_int := PySem.W.mg_none_of X G z_int
    b_bool := PySem.W.mg_none_of X G z_bool
    b_tuple := PySem.W.mg_none_of X G z_tuple
    b_list := PySem.W.mg_none_of X G z_list
    b_abs := PySem.W.mg_none_of X G z_abs
    b_sum := PySem.W.mg_none_of X G z_sum
    b_sorted := PySem.W.mg_none_of X G z_sorted
    b_max := PySem.W.mg_none_of X G z_max }
  exact ⟨_, fun s v => .of_eq rfl, fun base _ _ => ok_law T⟩
theorem walk {l : PySem.W.OpenLaw} {q : Program} {loose : List Str} {XP : (Str → Option Value) → Heap → Prop} {YP : World → Heap → Prop} {d : DefRec} {K : Params → PySem.W.Frag} (hn : l.most = some 63) (hdf : d.params.defaults = [])
    (hY : ∀ (w : World) (h : Heap), YP w h → (K w.params).In h)
    (F : ∀ (w : World) (mg : Str → Option Value) (fa : Addr) (h : Heap), (K w.params).In h → h.Ns mainGlobals mg → mg d.name = some (.ref fa) →
      ∃ fd : FuncData, (∀ (s : Shared) (u : Value), BindsTo s fd ⟨[u], []⟩ [("_law_script", u)]) ∧ ∀ base : Heap, (K w.params).In base → base.Ns mainGlobals mg → FnOk l.prog w (K w.params) mg base CX0 6 fa fd ["_law_script"] (spLaw (K w.params))) :
    PySem.W.WalkO q loose XP YP l.row.toRowW d [] (fun f vs => PySem.call f vs) :=
  L2.walk_of (n := 63) (k := 6) (x := "_law_script") (CX := fun _ => CX0) (sp := fun w => spLaw (K w.params)) hn (by decide) hdf ⟨rfl, by decide, by decide⟩ hY F (fun _ _ a ns hl _ hS => ⟨a, ns, rfl, hS, hl, fun _ => rfl⟩) fun _ _ _ _ _ z => z
end K49
open PySem PySem.W PyProof.Rows
set_option maxRecDepth 100000 in
set_option maxHeartbeats 0 in
theorem PySem.Challenge.cw_orderforms_k49_whole_papers_of_lattices_holds : PySem.Challenge.rw_orderforms_k49_whole_papers_of_lattices.Holds := by
  w_on; o_law; k_head; (case hw => w_witness2)
  k_fill
  refine K49.walk (l := PySem.Challenge.rw_orderforms_k49_whole_papers_of_lattices) rfl rfl (fun w h Y => PySem.W.kIn_of Y) ?F
  case F =>
    intro w mg fa h KX G hmg
    refine' K49.all_mk KX G hmg ?aC ?n_is_integer ?l_is_integer ?c_is_integer ?k_is_integer ?n_members ?l_members ?c_members ?k_members ?n_set_of ?l_set_of ?c_set_of ?k_set_of ?n_has ?l_has ?c_has ?k_has ?n_m_len ?i_m_len ?l_m_len ?c_m_len ?k_m_len ?n_m_met ?i_m_met ?l_m_met ?c_m_met ?k_m_met ?n_m_joined ?i_m_joined ?l_m_joined ?c_m_joined ?k_m_joined ?n_is_failure ?l_is_failure ?c_is_failure ?k_is_failure ?n_takes_lattice ?l_takes_lattice ?c_takes_lattice ?k_takes_lattice ?n_checked_pairs ?l_checked_pairs ?c_checked_pairs ?k_checked_pairs ?n_closed_above ?l_closed_above ?c_closed_above ?k_closed_above ?n_bounds_table ?l_bounds_table ?c_bounds_table ?k_bounds_table ?n_m_init ?i_m_init ?l_m_init ?c_m_init ?k_m_init ?n_m_at_most ?i_m_at_most ?l_m_at_most ?c_m_at_most ?k_m_at_most ?n_m_covers ?i_m_covers ?l_m_covers ?c_m_covers ?k_m_covers ?n_m_join_irreducibles ?i_m_join_irreducibles ?l_m_join_irreducibles ?c_m_join_irreducibles ?k_m_join_irreducibles ?n_m_distributive_failure ?i_m_distributive_failure ?l_m_distributive_failure ?c_m_distributive_failure ?k_m_distributive_failure ?n_m_is_distributive ?i_m_is_distributive ?l_m_is_distributive ?c_m_is_distributive ?k_m_is_distributive ?n_images ?l_images ?c_images ?k_images ?n_lattice_paper ?l_lattice_paper ?c_lattice_paper ?k_lattice_paper ?n__law_state ?l__law_state ?c__law_state ?k__law_state ?n__law_take ?l__law_take ?c__law_take ?k__law_take ?n__law_common ?l__law_common ?c__law_common ?k__law_common ?n__law_family ?l__law_family ?c__law_family ?k__law_family ?n__law_tables ?l__law_tables ?c__law_tables ?k__law_tables ?n__law_lattice ?l__law_lattice ?c__law_lattice ?k__law_lattice ?n__law_fails ?l__law_fails ?c__law_fails ?k__law_fails ?n__law_least_failure ?l__law_least_failure ?c__law_least_failure ?k__law_least_failure ?n__law_below ?l__law_below ?c__law_below ?k__law_below ?n__law_irreducibles ?l__law_irreducibles ?c__law_irreducibles ?k__law_irreducibles ?n__law_power ?l__law_power ?c__law_power ?k__law_power ?n__law_due_paper ?l__law_due_paper ?c__law_due_paper ?k__law_due_paper ?n__law_not_above ?l__law_not_above ?c__law_not_above ?k__law_not_above ?n__law_united ?l__law_united ?c__law_united ?k__law_united ?n__law_goes ?l__law_goes ?c__law_goes ?k__law_goes ?n__law_forms ?l__law_forms ?c__law_forms ?k__law_forms ?n_law ?l_law ?c_law ?k_law ?pg ?hd ?po ?sa ?mk ?kc ?x_above ?x_joins ?x_meets ?aM ?z_len ?z_range ?z_isinstance ?z_int ?z_bool ?z_tuple ?z_list ?z_abs ?z_sum ?z_sorted ?z_max
    (case aC => k_is)
    (case n_is_integer => k_is)
    (case l_is_integer => k_is)
    (case c_is_integer => k_is)
    (case k_is_integer => k_is)
    (case n_members => k_is)
    (case l_members => k_is)
    (case c_members => k_is)
    (case k_members => k_is)
    (case n_set_of => k_is)
    (case l_set_of => k_is)
    (case c_set_of => k_is)
    (case k_set_of => k_is)
    (case n_has => k_is)
    (case l_has => k_is)
    (case c_has => k_is)
    (case k_has => k_is)
    (case n_m_len => k_is)
    (case i_m_len => k_is)
    (case l_m_len => k_is)
    (case c_m_len => k_is)
    (case k_m_len => k_is)
    (case n_m_met => k_is)
    (case i_m_met => k_is)
    (case l_m_met => k_is)
    (case c_m_met => k_is)
    (case k_m_met => k_is)
    (case n_m_joined => k_is)
    (case i_m_joined => k_is)
    (case l_m_joined => k_is)
    (case c_m_joined => k_is)
    (case k_m_joined => k_is)
    (case n_is_failure => k_is)
    (case l_is_failure => k_is)
    (case c_is_failure => k_is)
    (case k_is_failure => k_is)
    (case n_takes_lattice => k_is)
    (case l_takes_lattice => k_is)
    (case c_takes_lattice => k_is)
    (case k_takes_lattice => k_is)
    (case n_checked_pairs => k_is)
    (case l_checked_pairs => k_is)
    (case c_checked_pairs => k_is)
    (case k_checked_pairs => k_is)
    (case n_closed_above => k_is)
    (case l_closed_above => k_is)
    (case c_closed_above => k_is)
    (case k_closed_above => k_is)
    (case n_bounds_table => k_is)
    (case l_bounds_table => k_is)
    (case c_bounds_table => k_is)
    (case k_bounds_table => k_is)
    (case n_m_init => k_is)
    (case i_m_init => k_is)
    (case l_m_init => k_is)
    (case c_m_init => k_is)
    (case k_m_init => k_is)
    (case n_m_at_most => k_is)
    (case i_m_at_most => k_is)
    (case l_m_at_most => k_is)
    (case c_m_at_most => k_is)
    (case k_m_at_most => k_is)
    (case n_m_covers => k_is)
    (case i_m_covers => k_is)
    (case l_m_covers => k_is)
    (case c_m_covers => k_is)
    (case k_m_covers => k_is)
    (case n_m_join_irreducibles => k_is)
    (case i_m_join_irreducibles => k_is)
    (case l_m_join_irreducibles => k_is)
    (case c_m_join_irreducibles => k_is)
    (case k_m_join_irreducibles => k_is)
    (case n_m_distributive_failure => k_is)
    (case i_m_distributive_failure => k_is)
    (case l_m_distributive_failure => k_is)
    (case c_m_distributive_failure => k_is)
    (case k_m_distributive_failure => k_is)
    (case n_m_is_distributive => k_is)
    (case i_m_is_distributive => k_is)
    (case l_m_is_distributive => k_is)
    (case c_m_is_distributive => k_is)
    (case k_m_is_distributive => k_is)
    (case n_images => k_is)
    (case l_images => k_is)
    (case c_images => k_is)
    (case k_images => k_is)
    (case n_lattice_paper => k_is)
    (case l_lattice_paper => k_is)
    (case c_lattice_paper => k_is)
    (case k_lattice_paper => k_is)
    (case n__law_state => k_is)
    (case l__law_state => k_is)
    (case c__law_state => k_is)
    (case k__law_state => k_is)
    (case n__law_take => k_is)
    (case l__law_take => k_is)
    (case c__law_take => k_is)
    (case k__law_take => k_is)
    (case n__law_common => k_is)
    (case l__law_common => k_is)
    (case c__law_common => k_is)
    (case k__law_common => k_is)
    (case n__law_family => k_is)
    (case l__law_family => k_is)
    (case c__law_family => k_is)
    (case k__law_family => k_is)
    (case n__law_tables => k_is)
    (case l__law_tables => k_is)
    (case c__law_tables => k_is)
    (case k__law_tables => k_is)
    (case n__law_lattice => k_is)
    (case l__law_lattice => k_is)
    (case c__law_lattice => k_is)
    (case k__law_lattice => k_is)
    (case n__law_fails => k_is)
    (case l__law_fails => k_is)
    (case c__law_fails => k_is)
    (case k__law_fails => k_is)
    (case n__law_least_failure => k_is)
    (case l__law_least_failure => k_is)
    (case c__law_least_failure => k_is)
    (case k__law_least_failure => k_is)
    (case n__law_below => k_is)
    (case l__law_below => k_is)
    (case c__law_below => k_is)
    (case k__law_below => k_is)
    (case n__law_irreducibles => k_is)
    (case l__law_irreducibles => k_is)
    (case c__law_irreducibles => k_is)
    (case k__law_irreducibles => k_is)
    (case n__law_power => k_is)
    (case l__law_power => k_is)
    (case c__law_power => k_is)
    (case k__law_power => k_is)
    (case n__law_due_paper => k_is)
    (case l__law_due_paper => k_is)
    (case c__law_due_paper => k_is)
    (case k__law_due_paper => k_is)
    (case n__law_not_above => k_is)
    (case l__law_not_above => k_is)
    (case c__law_not_above => k_is)
    (case k__law_not_above => k_is)
    (case n__law_united => k_is)
    (case l__law_united => k_is)
    (case c__law_united => k_is)
    (case k__law_united => k_is)
    (case n__law_goes => k_is)
    (case l__law_goes => k_is)
    (case c__law_goes => k_is)
    (case k__law_goes => k_is)
    (case n__law_forms => k_is)
    (case l__law_forms => k_is)
    (case c__law_forms => k_is)
    (case k__law_forms => k_is)
    (case n_law => k_is)
    (case l_law => k_is)
    (case c_law => k_is)
    (case k_law => k_is)
    (case pg => k_is)
    (case hd => k_is)
    (case po => k_is)
    (case sa => k_is)
    (case mk => k_is)
    (case kc => k_is)
    (case x_above => k_is)
    (case x_joins => k_is)
    (case x_meets => k_is)
    (case aM => k_is)
    (case z_len => k_is)
    (case z_range => k_is)
    (case z_isinstance => k_is)
    (case z_int => k_is)
    (case z_bool => k_is)
    (case z_tuple => k_is)
    (case z_list => k_is)
    (case z_abs => k_is)
    (case z_sum => k_is)
    (case z_sorted => k_is)
    (case z_max => k_is)
