import PyProof.Rows.All
import Wide.All
import OpenK.AllK
import Wide.FinOn
import HandS.ForMost
import HandS.ForExc
import HandS.Defaults
import HandS.IsInst
import HandS.Gcd
import HandS.Zip
import HandS.Rev
import HandS.TupAny
import HandS.HeadHook2
import KE.KOpsOwn
import KE.GoesEnum
import HandS.OwnEq
import PyProof.InstNe
import HandS.Head0
import HandS.Head1
import HandS.Head2
import HandS.Head3
import HandS.HeadEnd
import KE.KExcSuper
import HandS.ExcField
import PySem.Challenge.RW_slopewrit_k22_whole_common_steps
import HandS.SlotsOwn
import HandS.Star
import HandS.IterVal
import KE.KOwnIter
import HandS.DeepEq
import HandS.Exc
import HandS.ExcOwn
import HandS.TryOnly
import HandS.WordsExc
import HandS.ExcSuper
import HandS.Ends
import HandS.CallSlots
import HandS.CallLocal
set_option Elab.async false
set_option linter.all false
set_option exponentiation.threshold 256
set_option maxRecDepth 512
set_option maxHeartbeats 200000
namespace SW
abbrev Cf := List Rat
/-- the value -/
def ev : Cf → Rat → Rat
  | [], _ => 0
  | a :: r, x => a + x * ev r x
theorem ev_nil (x : Rat) : ev [] x = 0 := rfl
theorem ev_cons (a : Rat) (r : Cf) (x : Rat) : ev (a :: r) x = a + x * ev r x := rfl
/-- no zeros at the end -/
def trim : Cf → Cf
  | [] => []
  | a :: r => match trim r with
    | [] => if a = 0 then [] else [a]
    | b :: s => a :: b :: s
def Trim (p : Cf) : Prop := trim p = p
theorem ev_trim (p : Cf) (x : Rat) : ev (trim p) x = ev p x := by
  induction p with
  | nil => rfl
  | cons a r ih =>
    unfold trim
    cases h : trim r with
    | nil =>
      rw [h] at ih
      have ih' : ev r x = 0 := ih.symm
      by_cases ha : a = 0
      · simp only [ha, if_true, ev_cons, ev_nil, ih']; grind
      · simp only [ha, if_false, ev_cons, ev_nil, ih']
    | cons b s =>
      rw [h] at ih
      show a + x * ev (b :: s) x = _
      rw [ih, ev_cons]
theorem trim_cons (a : Rat) (r : Cf) : trim (a :: r) = match trim r with
    | [] => if a = 0 then [] else [a]
    | b :: s => a :: b :: s := rfl
theorem trim_trim (p : Cf) : trim (trim p) = trim p := by
  induction p with
  | nil => rfl
  | cons a r ih =>
    cases h : trim r with
    | nil =>
      rw [trim_cons, h]
      by_cases ha : a = 0
      · simp only [ha, if_true]; rfl
      · simp only [ha, if_false]; simp [trim, ha]
    | cons b s =>
      rw [h] at ih
      rw [trim_cons, h]
      show trim (a :: b :: s) = _
      rw [trim_cons, ih]
theorem trim_ok (p : Cf) : Trim (trim p) := trim_trim p
theorem trim_nil : Trim [] := rfl
theorem Trim.tail {a : Rat} {r : Cf} (h : Trim (a :: r)) : Trim r := by
  unfold Trim at h ⊢
  unfold trim at h
  cases e : trim r with
  | nil =>
    rw [e] at h
    by_cases ha : a = 0
    · simp [ha] at h
    · simp [ha] at h; exact h.symm ▸ rfl
  | cons b s =>
    rw [e] at h
    simp at h
    exact h
theorem Trim.last {a : Rat} (h : Trim [a]) : a ≠ 0 := by
  intro e
  subst e
  simp [Trim, trim] at h
theorem Trim.cons {a b : Rat} {r : Cf} (h : Trim (b :: r)) : Trim (a :: b :: r) := by
  unfold Trim at h ⊢
  rw [trim, h]
theorem Trim.one {a : Rat} (h : a ≠ 0) : Trim [a] := by simp [Trim, trim, h]
/-- all coefficients zero -/
def Zer (p : Cf) : Prop := ∀ a ∈ p, a = 0
theorem trim_zer {p : Cf} (h : Zer p) : trim p = [] := by
  induction p with
  | nil => rfl
  | cons a r ih =>
    rw [trim, ih fun b hb => h b (List.mem_cons_of_mem _ hb), h a List.mem_cons_self]
    simp
theorem Trim.zer {p : Cf} (t : Trim p) (h : Zer p) : p = [] := t.symm.trans (trim_zer h)
/-- division by x - c -/
def synth : Cf → Rat → Cf
  | [], _ => []
  | [_], _ => []
  | _ :: b :: r, c => ev (b :: r) c :: synth (b :: r) c
theorem synth_ev (p : Cf) (c x : Rat) : ev p x = ev p c + (x - c) * ev (synth p c) x := by
  induction p with
  | nil => simp [ev, synth]; grind
  | cons a r ih =>
    cases r with
    | nil => simp [ev, synth]; grind
    | cons b s =>
      rw [ev_cons, ih]
      show a + x * (ev (b :: s) c + (x - c) * ev (synth (b :: s) c) x) = ev (a :: b :: s) c + (x - c) * (ev (b :: s) c + x * ev (synth (b :: s) c) x)
      rw [ev_cons a]
      grind
theorem synth_len (a : Rat) (r : Cf) (c : Rat) : (synth (a :: r) c).length = r.length := by
  induction r generalizing a with
  | nil => rfl
  | cons b s ih => simp [synth, ih]
theorem synth_zer {p : Cf} {c : Rat} (h : Zer (synth p c)) (h0 : ev p c = 0) : Zer p := by
  induction p with
  | nil => intro a ha; cases ha
  | cons a r ih =>
    cases r with
    | nil =>
      intro b hb
      have e : b = a := by simpa using hb
      subst e
      simp [ev] at h0
      grind
    | cons b s =>
      have h1 : ev (b :: s) c = 0 := h _ (by simp [synth])
      have h2 : Zer (synth (b :: s) c) := fun z hz => h z (by simp [synth]; exact .inr hz)
      have h3 := ih h2 h1
      intro z hz
      rcases List.mem_cons.mp hz with e | hz
      · subst e
        rw [ev_cons, h1] at h0
        grind
      · exact h3 z hz
/-- as many zeros as coefficients -/
theorem zer_of_roots : ∀ (n : Nat) (p : Cf) (l : List Rat), p.length ≤ n → n ≤ l.length → l.Nodup → (∀ c ∈ l, ev p c = 0) → Zer p
  | 0, p, _, h, _, _, _ => by
    have : p = [] := List.length_eq_zero_iff.mp (Nat.le_zero.mp h)
    subst this
    intro a ha; cases ha
  | n + 1, p, [], _, h, _, _ => absurd h (by simp)
  | n + 1, p, c :: l, hp, hl, nd, hr => by
    cases p with
    | nil => intro a ha; cases ha
    | cons a r =>
      have h0 : ev (a :: r) c = 0 := hr c List.mem_cons_self
      refine synth_zer (c := c) (zer_of_roots n _ l ?_ ?_ (List.nodup_cons.mp nd).2 ?_) h0
      · rw [synth_len]; simp at hp; omega
      · simp at hl; omega
      · intro d hd
        have h1 := synth_ev (a :: r) c d
        rw [hr d (List.mem_cons_of_mem _ hd), h0] at h1
        have hne : d - c ≠ 0 := by
          intro e
          have : d = c := by grind
          subst this
          exact (List.nodup_cons.mp nd).1 hd
        grind
def nats (n : Nat) : List Rat := (List.range n).map fun k => ((k : Nat) : Rat)
theorem nats_nodup (n : Nat) : (nats n).Nodup := by
  unfold nats
  refine List.pairwise_map.mpr ((List.nodup_range (n := n)).imp fun {a b} h e => ?_)
  exact h (Rat.natCast_inj.mp e)
theorem nats_len (n : Nat) : (nats n).length = n := by simp [nats]
theorem zer_of_ev {p : Cf} (h : ∀ x, ev p x = 0) : Zer p := zer_of_roots p.length p (nats p.length) (Nat.le_refl _) (by rw [nats_len]; exact Nat.le_refl _) (nats_nodup _) fun c _ => h c
/-- the sum, item by item -/
def addL : Cf → Cf → Cf
  | [], q => q
  | p, [] => p
  | a :: p, b :: q => (a + b) :: addL p q
theorem ev_addL (p q : Cf) (x : Rat) : ev (addL p q) x = ev p x + ev q x := by
  induction p generalizing q with
  | nil => simp [addL, ev]; grind
  | cons a p ih =>
    cases q with
    | nil => simp [addL, ev]; grind
    | cons b q => simp only [addL, ev, ih]; grind
def scaleL (c : Rat) (p : Cf) : Cf := p.map fun a => c * a
theorem ev_scaleL (c : Rat) (p : Cf) (x : Rat) : ev (scaleL c p) x = c * ev p x := by
  induction p with
  | nil => simp [scaleL, ev]
  | cons a p ih =>
    have : ev (scaleL c p) x = c * ev p x := ih
    simp only [scaleL, List.map_cons, ev] at *
    grind
def mulL : Cf → Cf → Cf
  | [], _ => []
  | a :: p, q => addL (scaleL a q) (0 :: mulL p q)
theorem ev_mulL (p q : Cf) (x : Rat) : ev (mulL p q) x = ev p x * ev q x := by
  induction p with
  | nil => simp [mulL, ev]
  | cons a p ih => simp only [mulL, ev_addL, ev_scaleL, ev, ih]; grind
theorem trim_inj {p q : Cf} (hp : Trim p) (hq : Trim q) (h : ∀ x, ev p x = ev q x) : p = q := by
  induction p generalizing q with
  | nil =>
    refine (hq.zer (zer_of_ev fun x => ?_)).symm
    rw [← h x]; rfl
  | cons a p ih =>
    cases q with
    | nil => exact hp.zer (zer_of_ev fun x => (h x).trans rfl)
    | cons b q =>
      have h0 : Zer (addL (a :: p) (scaleL (-1) (b :: q))) := zer_of_ev fun x => by rw [ev_addL, ev_scaleL, h x]; grind
      have e1 : addL (a :: p) (scaleL (-1) (b :: q)) = (a + -1 * b) :: addL p (scaleL (-1) q) := rfl
      rw [e1] at h0
      have ha : a = b := by have := h0 _ List.mem_cons_self; grind
      have h1 : Zer (addL p (scaleL (-1) q)) := fun z hz => h0 z (List.mem_cons_of_mem _ hz)
      have h2 : p = q := ih hp.tail hq.tail fun x => by
        have e := congrArg (fun l => ev l x) (trim_zer h1)
        simp only [ev_trim, ev_addL, ev_scaleL, ev_nil] at e
        grind
      rw [ha, h2]
/-- polynomials -/
structure Pol where
  row : Cf
  ok : Trim row
def Pol.ev (p : Pol) (x : Rat) : Rat := SW.ev p.row x
theorem Pol.ext {p q : Pol} (h : ∀ x, p.ev x = q.ev x) : p = q := by
  obtain ⟨p, hp⟩ := p
  obtain ⟨q, hq⟩ := q
  have : p = q := trim_inj hp hq h
  subst this; rfl
theorem Pol.eq_of_row {p q : Pol} (h : p.row = q.row) : p = q := by
  obtain ⟨p, hp⟩ := p; obtain ⟨q, hq⟩ := q; subst h; rfl
def Pol.of (l : Cf) : Pol := ⟨trim l, trim_ok l⟩
@[simp] theorem Pol.ev_of (l : Cf) (x : Rat) : (Pol.of l).ev x = SW.ev l x := ev_trim l x
def Pol.C (a : Rat) : Pol := .of [a]
@[simp] theorem Pol.ev_C (a x : Rat) : (Pol.C a).ev x = a := by simp [Pol.C, SW.ev]; grind
def Pol.X : Pol := .of [0, 1]
@[simp] theorem Pol.ev_X (x : Rat) : Pol.X.ev x = x := by simp [Pol.X, SW.ev]; grind
instance : Add Pol := ⟨fun p q => .of (addL p.row q.row)⟩
instance : Mul Pol := ⟨fun p q => .of (mulL p.row q.row)⟩
instance : Neg Pol := ⟨fun p => .of (scaleL (-1) p.row)⟩
instance : Sub Pol := ⟨fun p q => p + -q⟩
@[simp] theorem Pol.ev_add (p q : Pol) (x : Rat) : (p + q).ev x = p.ev x + q.ev x := (Pol.ev_of _ x).trans (ev_addL _ _ x)
@[simp] theorem Pol.ev_mul (p q : Pol) (x : Rat) : (p * q).ev x = p.ev x * q.ev x := (Pol.ev_of _ x).trans (ev_mulL _ _ x)
@[simp] theorem Pol.ev_neg (p : Pol) (x : Rat) : (-p).ev x = -p.ev x := by
  have : (-p).ev x = -1 * p.ev x := (Pol.ev_of _ x).trans (ev_scaleL _ _ x)
  grind
@[simp] theorem Pol.ev_sub (p q : Pol) (x : Rat) : (p - q).ev x = p.ev x - q.ev x := by
  have : (p - q).ev x = (p + -q).ev x := rfl
  rw [this, Pol.ev_add, Pol.ev_neg]; grind
def Pol.pow (p : Pol) : Nat → Pol
  | 0 => .C 1
  | n + 1 => Pol.pow p n * p
instance : NatCast Pol := ⟨fun n => .C n⟩
instance (n : Nat) : OfNat Pol n := ⟨.C n⟩
instance : IntCast Pol := ⟨fun n => .C n⟩
instance : SMul Nat Pol := ⟨fun n p => .C n * p⟩
instance : SMul Int Pol := ⟨fun n p => .C n * p⟩
instance : HPow Pol Nat Pol := ⟨Pol.pow⟩
@[simp] theorem Pol.ev_num (n : Nat) (x : Rat) : (OfNat.ofNat n : Pol).ev x = n := Pol.ev_C _ _
@[simp] theorem Pol.ev_zero (x : Rat) : (0 : Pol).ev x = 0 := Pol.ev_C _ _
@[simp] theorem Pol.ev_one (x : Rat) : (1 : Pol).ev x = 1 := Pol.ev_C _ _
instance : Lean.Grind.CommRing Pol where
  add_zero a := Pol.ext fun x => by simp; grind
  add_comm a b := Pol.ext fun x => by simp; grind
  add_assoc a b c := Pol.ext fun x => by simp; grind
  mul_assoc a b c := Pol.ext fun x => by simp; grind
  mul_one a := Pol.ext fun x => by simp
  one_mul a := Pol.ext fun x => by simp
  left_distrib a b c := Pol.ext fun x => by simp; grind
  right_distrib a b c := Pol.ext fun x => by simp; grind
  zero_mul a := Pol.ext fun x => by simp
  mul_zero a := Pol.ext fun x => by simp
  pow_zero a := rfl
  pow_succ a n := rfl
  ofNat_succ a := Pol.ext fun x => by
    show (Pol.C ((a + 1 : Nat) : Rat)).ev x = (Pol.C ((a : Nat) : Rat) + Pol.C ((1 : Nat) : Rat)).ev x
    simp
  ofNat_eq_natCast n := rfl
  nsmul_eq_natCast_mul n a := rfl
  neg_add_cancel a := Pol.ext fun x => by simp; grind
  sub_eq_add_neg a b := rfl
  neg_zsmul i a := Pol.ext fun x => by
    show (Pol.C ((-i : Int) : Rat) * a).ev x = (-(Pol.C (i : Rat) * a)).ev x
    simp [Rat.intCast_neg]; grind
  zsmul_natCast_eq_nsmul n a := rfl
  intCast_ofNat n := rfl
  intCast_neg i := Pol.ext fun x => by
    show (Pol.C ((-i : Int) : Rat)).ev x = (-(Pol.C (i : Rat))).ev x
    simp [Rat.intCast_neg]
  mul_comm a b := Pol.ext fun x => by simp; grind
example (a b c : Pol) : (a + b) * (a - b) + c = a * a - b * b + c := by grind
end SW
set_option exponentiation.threshold 256
set_option maxRecDepth 512
set_option maxHeartbeats 200000
namespace SW
open Lean.Grind
theorem getD_nil (i : Nat) : ([] : Cf).getD i 0 = 0 := rfl
theorem trim_getD (p : Cf) (i : Nat) : (trim p).getD i 0 = p.getD i 0 := by
  induction p generalizing i with
  | nil => rfl
  | cons a r ih =>
    rw [trim_cons]
    cases h : trim r with
    | nil =>
      rw [h] at ih
      cases i with
      | zero => by_cases ha : a = 0 <;> simp [ha]
      | succ i =>
        have := ih i
        simp at this
        by_cases ha : a = 0 <;> simp [ha] <;> rw [← this]
    | cons b s =>
      rw [h] at ih
      cases i with
      | zero => simp
      | succ i => have := ih i; simpa using this
def Pol.co (p : Pol) (i : Nat) : Rat := p.row.getD i 0
def Pol.len (p : Pol) : Nat := p.row.length
theorem addL_getD (p q : Cf) (i : Nat) : (addL p q).getD i 0 = p.getD i 0 + q.getD i 0 := by
  induction p generalizing q i with
  | nil => simp [addL]; grind
  | cons a p ih =>
    cases q with
    | nil => simp [addL]; grind
    | cons b q => cases i with
      | zero => simp [addL]
      | succ i => have := ih q i; simp [addL] at this ⊢; exact this
theorem scaleL_getD (c : Rat) (p : Cf) (i : Nat) : (scaleL c p).getD i 0 = c * p.getD i 0 := by
  unfold scaleL
  by_cases h : i < p.length
  · simp [List.getD_eq_getElem?_getD, h]
  · simp [List.getD_eq_getElem?_getD, List.getElem?_eq_none (Nat.not_lt.mp h)]
theorem Pol.co_of (l : Cf) (i : Nat) : (Pol.of l).co i = l.getD i 0 := trim_getD l i
@[simp] theorem Pol.co_add (p q : Pol) (i : Nat) : (p + q).co i = p.co i + q.co i := (Pol.co_of _ i).trans (addL_getD _ _ i)
@[simp] theorem Pol.co_neg (p : Pol) (i : Nat) : (-p).co i = -p.co i := by
  have : (-p).co i = -1 * p.co i := (Pol.co_of _ i).trans (scaleL_getD _ _ i)
  grind
@[simp] theorem Pol.co_sub (p q : Pol) (i : Nat) : (p - q).co i = p.co i - q.co i := by
  have : (p - q).co i = (p + -q).co i := rfl
  rw [this, Pol.co_add, Pol.co_neg]; grind
theorem Pol.co_C (a : Rat) (i : Nat) : (Pol.C a).co i = if i = 0 then a else 0 := by
  rw [Pol.C, Pol.co_of]
  cases i <;> simp
@[simp] theorem Pol.co_zero (i : Nat) : (0 : Pol).co i = 0 := by
  have : (0 : Pol) = Pol.C (((0 : Nat)) : Rat) := rfl
  rw [this, Pol.co_C]; simp
theorem Pol.co_ge (p : Pol) {i : Nat} (h : p.len ≤ i) : p.co i = 0 := by
  unfold Pol.co
  rw [List.getD_eq_getElem?_getD, List.getElem?_eq_none h]; rfl
theorem ev_getD0 {p q : Cf} (h : ∀ i, p.getD i 0 = q.getD i 0) (x : Rat) : ev p x = ev q x := by
  induction p generalizing q with
  | nil =>
    induction q with
    | nil => rfl
    | cons b q ih =>
      have h0 := h 0
      simp at h0
      have h1 := ih fun i => by have := h (i + 1); simp at this ⊢; exact this
      rw [ev_cons, ← h1, ← h0]; simp [ev_nil]; grind
  | cons a p ih =>
    cases q with
    | nil =>
      have h0 := h 0
      simp at h0
      have h1 := ih (q := []) fun i => by have := h (i + 1); simp at this ⊢; exact this
      rw [ev_cons, h1, h0]; simp [ev_nil]; grind
    | cons b q =>
      have h0 := h 0
      simp at h0
      have h1 := ih (q := q) fun i => by have := h (i + 1); simp at this ⊢; exact this
      rw [ev_cons, ev_cons, h1, h0]
theorem Pol.ext_co {p q : Pol} (h : ∀ i, p.co i = q.co i) : p = q := Pol.ext fun x => ev_getD0 h x
theorem Trim.last_ne : ∀ {p : Cf}, Trim p → p ≠ [] → p.getD (p.length - 1) 0 ≠ 0
  | [], _, h => absurd rfl h
  | [a], t, _ => by simpa using t.last
  | a :: b :: r, t, _ => by
    have := Trim.last_ne t.tail (by simp)
    simpa using this
theorem Pol.zero_row : (0 : Pol).row = [] := by
  show trim [((0 : Nat) : Rat)] = []
  simp [trim]
theorem Pol.eq_zero_iff (p : Pol) : p = 0 ↔ p.row = [] := ⟨fun h => by rw [h, Pol.zero_row], fun h => Pol.eq_of_row (by rw [h, Pol.zero_row])⟩
theorem Pol.len_zero_iff (p : Pol) : p.len = 0 ↔ p = 0 := by rw [Pol.eq_zero_iff]; exact List.length_eq_zero_iff
theorem Pol.len_pos {p : Pol} (h : p ≠ 0) : 0 < p.len := Nat.pos_of_ne_zero fun z => h ((p.len_zero_iff).mp z)
def Pol.lc (p : Pol) : Rat := p.co (p.len - 1)
theorem Pol.lc_ne {p : Pol} (h : p ≠ 0) : p.lc ≠ 0 := p.ok.last_ne fun z => h ((p.eq_zero_iff).mpr z)
theorem Pol.len_le {p : Pol} {n : Nat} (h : ∀ i, n ≤ i → p.co i = 0) : p.len ≤ n := by
  refine Classical.byContradiction fun z => ?_
  by_cases hp : p = 0
  · rw [(p.len_zero_iff).mpr hp] at z; omega
  · exact Pol.lc_ne hp (h _ (by omega))
theorem Pol.len_of_le (l : Cf) : (Pol.of l).len ≤ l.length := Pol.len_le fun i h => by rw [Pol.co_of, List.getD_eq_getElem?_getD, List.getElem?_eq_none h]; rfl
theorem Pol.len_eq {p : Pol} {n : Nat} (h : ∀ i, n < i → p.co i = 0) (h2 : p.co n ≠ 0) : p.len = n + 1 := by
  have h3 := Pol.len_le (p := p) (n := n + 1) h
  have : ¬ p.len ≤ n := fun z => h2 (Pol.co_ge p z)
  omega
theorem mulL_cons_getD (a : Rat) (p q : Cf) (i : Nat) : (mulL (a :: p) q).getD i 0 = a * q.getD i 0 + (if i = 0 then 0 else (mulL p q).getD (i - 1) 0) := by
  have e : mulL (a :: p) q = addL (scaleL a q) (0 :: mulL p q) := rfl
  rw [e, addL_getD, scaleL_getD]
  cases i <;> simp
theorem mulL_top : ∀ (p q : Cf) (m n : Nat), p.length ≤ m + 1 → (∀ i, n < i → q.getD i 0 = 0) → (mulL p q).getD (m + n) 0 = p.getD m 0 * q.getD n 0 ∧ ∀ i, m + n < i → (mulL p q).getD i 0 = 0
  | [], q, m, n, _, _ => ⟨by simp [mulL], fun i _ => by simp [mulL]⟩
  | a :: p, q, 0, n, h, hq => by
    have hp : p = [] := List.length_eq_zero_iff.mp (by simpa using h)
    subst hp
    refine ⟨?_, fun i hi => ?_⟩
    · rw [mulL_cons_getD]
      by_cases hn : n = 0 <;> simp [hn, mulL] <;> grind
    · rw [mulL_cons_getD, hq i (by omega)]
      have : i ≠ 0 := by omega
      simp [this, mulL]; grind
  | a :: p, q, m + 1, n, h, hq => by
    have ih := mulL_top p q m n (by simpa using h) hq
    refine ⟨?_, fun i hi => ?_⟩
    · rw [mulL_cons_getD, hq (m + 1 + n) (by omega), if_neg (by omega), show m + 1 + n - 1 = m + n by omega, ih.1]
      simp; grind
    · rw [mulL_cons_getD, hq i (by omega), if_neg (by omega), ih.2 (i - 1) (by omega)]
      simp; grind
theorem Pol.co_mul (p q : Pol) (i : Nat) : (p * q).co i = (mulL p.row q.row).getD i 0 := Pol.co_of _ i
theorem Pol.mul_top (p q : Pol) {m n : Nat} (h : p.len ≤ m + 1) (h2 : q.len ≤ n + 1) : (p * q).co (m + n) = p.co m * q.co n ∧ ∀ i, m + n < i → (p * q).co i = 0 := by
  have := mulL_top p.row q.row m n h fun i hi => Pol.co_ge q (by omega)
  refine ⟨(Pol.co_mul p q _).trans this.1, fun i hi => (Pol.co_mul p q i).trans (this.2 i hi)⟩
theorem Pol.len_mul {p q : Pol} (hp : p ≠ 0) (hq : q ≠ 0) : (p * q).len + 1 = p.len + q.len := by
  have h1 := Pol.len_pos hp
  have h2 := Pol.len_pos hq
  have h := Pol.mul_top p q (m := p.len - 1) (n := q.len - 1) (by omega) (by omega)
  have := Pol.len_eq (p := p * q) (n := p.len - 1 + (q.len - 1)) h.2 (by
    rw [h.1]
    exact fun z => (Rat.mul_eq_zero.mp z).elim (Pol.lc_ne hp) (Pol.lc_ne hq))
  omega
theorem Pol.lc_mul (p q : Pol) : (p * q).lc = p.lc * q.lc := by
  by_cases hp : p = 0
  · subst hp
    have e : (0 : Pol) * q = 0 := Semiring.zero_mul q
    rw [e]
    unfold Pol.lc
    rw [Pol.co_zero, Rat.zero_mul]
  by_cases hq : q = 0
  · subst hq
    have e : p * (0 : Pol) = 0 := Semiring.mul_zero p
    rw [e]
    unfold Pol.lc
    rw [Pol.co_zero]; simp
  have h1 := Pol.len_pos hp
  have h2 := Pol.len_pos hq
  have h := Pol.mul_top p q (m := p.len - 1) (n := q.len - 1) (by omega) (by omega)
  have h3 := Pol.len_mul hp hq
  unfold Pol.lc
  rw [show (p * q).len - 1 = p.len - 1 + (q.len - 1) by omega, h.1]
theorem Pol.mul_ne {p q : Pol} (hp : p ≠ 0) (hq : q ≠ 0) : p * q ≠ 0 := fun z => by
  have h := Pol.len_mul hp hq
  have h1 := Pol.len_pos hp
  have h2 := Pol.len_pos hq
  rw [z, (Pol.len_zero_iff 0).mpr rfl] at h
  omega
theorem Pol.zero_of_mul {p q : Pol} (h : p * q = 0) : p = 0 ∨ q = 0 := by
  by_cases hp : p = 0
  · exact .inl hp
  · by_cases hq : q = 0
    · exact .inr hq
    · exact absurd h (Pol.mul_ne hp hq)
theorem Pol.cancel {p a b : Pol} (hp : p ≠ 0) (h : p * a = p * b) : a = b := by
  have : p * (a - b) = 0 := by grind
  rcases Pol.zero_of_mul this with z | z
  · exact absurd z hp
  · grind
theorem Pol.one_ne : (1 : Pol) ≠ 0 := fun z => by
  have := congrArg (fun p => Pol.ev p 0) z
  simp at this
theorem Pol.len_add_le (p q : Pol) : (p + q).len ≤ max p.len q.len := Pol.len_le fun i h => by rw [Pol.co_add, Pol.co_ge p (by omega), Pol.co_ge q (by omega)]; grind
theorem Pol.len_sub_le (p q : Pol) : (p - q).len ≤ max p.len q.len := Pol.len_le fun i h => by rw [Pol.co_sub, Pol.co_ge p (by omega), Pol.co_ge q (by omega)]; grind
theorem Pol.len_neg (p : Pol) : (-p).len = p.len := by
  have h (p : Pol) : (-p).len ≤ p.len := Pol.len_le fun i hi => by rw [Pol.co_neg, Pol.co_ge p hi]; grind
  refine Nat.le_antisymm (h p) ?_
  have := h (-p)
  rwa [show -(-p) = p by grind] at this
theorem Pol.len_mul_le (p q : Pol) : (p * q).len ≤ p.len + q.len - 1 := by
  by_cases hp : p = 0
  · subst hp; rw [show (0 : Pol) * q = 0 by grind, (Pol.len_zero_iff 0).mpr rfl]; omega
  by_cases hq : q = 0
  · subst hq; rw [show p * (0 : Pol) = 0 by grind, (Pol.len_zero_iff 0).mpr rfl]; omega
  have := Pol.len_mul hp hq
  omega
/-- a x^n -/
def Pol.mon (a : Rat) (n : Nat) : Pol := .of (List.replicate n 0 ++ [a])
theorem Pol.co_mon (a : Rat) (n i : Nat) : (Pol.mon a n).co i = if i = n then a else 0 := by
  rw [Pol.mon, Pol.co_of, List.getD_eq_getElem?_getD]
  by_cases h : i < n
  · rw [List.getElem?_append_left (by simpa using h)]
    simp [h, Nat.ne_of_lt h]
  · rw [List.getElem?_append_right (by simpa using h)]
    by_cases e : i = n
    · subst e; simp
    · have : i - n ≠ 0 := by omega
      obtain ⟨k, hk⟩ : ∃ k, i - n = k + 1 := ⟨i - n - 1, by omega⟩
      simp [e, hk]
theorem Pol.len_mon {a : Rat} (h : a ≠ 0) (n : Nat) : (Pol.mon a n).len = n + 1 := Pol.len_eq (fun i hi => by rw [Pol.co_mon, if_neg (by omega)]) (by rw [Pol.co_mon, if_pos rfl]; exact h)
theorem Pol.divmod (g : Pol) (hg : g ≠ 0) : ∀ (n : Nat) (p : Pol), p.len ≤ n → ∃ q r, p = q * g + r ∧ r.len < g.len
  | 0, p, h => ⟨0, p, by grind, by have := Pol.len_pos hg; omega⟩
  | n + 1, p, h => by
    by_cases hl : p.len < g.len
    · exact ⟨0, p, by grind, hl⟩
    have h0 := Pol.len_pos hg
    have hp : p ≠ 0 := fun z => by rw [(p.len_zero_iff).mpr z] at hl; omega
    let t := Pol.mon (p.lc / g.lc) (p.len - g.len)
    have hc : p.lc / g.lc ≠ 0 := by
      rw [Rat.div_def]
      exact fun z => (Rat.mul_eq_zero.mp z).elim (Pol.lc_ne hp) fun z => Pol.lc_ne hg (by have := Rat.mul_inv_cancel _ (Pol.lc_ne hg); rw [z] at this; grind)
    have ht : t.len = p.len - g.len + 1 := Pol.len_mon hc _
    have hm := Pol.mul_top t g (m := p.len - g.len) (n := g.len - 1) (by omega) (by omega)
    have e : p.len - g.len + (g.len - 1) = p.len - 1 := by omega
    rw [e] at hm
    have htop : (t * g).co (p.len - 1) = p.co (p.len - 1) := by
      rw [hm.1, Pol.co_mon, if_pos rfl]
      exact Rat.div_mul_cancel (Pol.lc_ne hg)
    obtain ⟨q, r, h1, h2⟩ := Pol.divmod g hg n (p - t * g) (by
      refine Nat.le_trans (Pol.len_le (n := p.len - 1) fun i hi => ?_) (by omega)
      by_cases ei : i = p.len - 1
      · subst ei; rw [Pol.co_sub, htop]; grind
      · rw [Pol.co_sub, hm.2 i (by omega), Pol.co_ge p (by omega)]; grind)
    exact ⟨q + t, r, by grind, h2⟩
theorem Pol.gcd_ex : ∀ (n : Nat) (p q : Pol), q.len ≤ n → ∃ g u v a b, g = u * p + v * q ∧ p = a * g ∧ q = b * g
  | n, p, q, h => by
    by_cases hq : q = 0
    · exact ⟨p, 1, 0, 1, 0, by grind, by grind, by grind⟩
    obtain ⟨d, r, h1, h2⟩ := Pol.divmod q hq p.len p (Nat.le_refl _)
    cases n with
    | zero => exact absurd ((q.len_zero_iff).mp (by omega)) hq
    | succ n =>
      obtain ⟨g, u, v, a, b, e1, e2, e3⟩ := Pol.gcd_ex n q r (by omega)
      exact ⟨g, v, u - v * d, d * a + b, a, by rw [e1, h1]; grind, by rw [h1]; grind, e2⟩
/-- a quotient in lowest terms, the divisor monic -/
structure Can (n d : Pol) : Prop where
  m : d.lc = 1
  c : ∃ u v, u * n + v * d = 1
theorem Can.ne {n d : Pol} (h : Can n d) : d ≠ 0 := fun z => by
  have := h.m
  rw [z] at this
  unfold Pol.lc at this
  rw [Pol.co_zero] at this
  exact absurd this (by decide)
theorem Pol.lc_C (a : Rat) : (Pol.C a).lc = a := by
  unfold Pol.lc
  rw [Pol.co_C]
  by_cases h : a = 0
  · simp [h]
  · rw [show (Pol.C a).len = 1 from Pol.len_eq (n := 0) (fun i hi => by rw [Pol.co_C, if_neg (by omega)]) (by rw [Pol.co_C]; simpa using h)]; simp
theorem Pol.C_mul (a b : Rat) : Pol.C a * Pol.C b = Pol.C (a * b) := Pol.ext fun x => by simp
theorem Pol.C_one : Pol.C 1 = 1 := Pol.ext fun x => by simp
theorem Pol.C_inv {a : Rat} (h : a ≠ 0) : Pol.C a * Pol.C a⁻¹ = 1 := by rw [Pol.C_mul, Rat.mul_inv_cancel _ h, Pol.C_one]
theorem can_ex (N D : Pol) (hD : D ≠ 0) : ∃ n d, Can n d ∧ n * D = N * d := by
  obtain ⟨g, u, v, a, b, e1, e2, e3⟩ := Pol.gcd_ex D.len N D (Nat.le_refl _)
  have hg : g ≠ 0 := fun z => hD (by rw [e3, z]; grind)
  have hb : b ≠ 0 := fun z => hD (by rw [e3, z]; grind)
  have hl := Pol.C_inv (Pol.lc_ne hb)
  have h1 : u * a + v * b = 1 := Pol.cancel hg (by grind)
  refine ⟨Pol.C b.lc⁻¹ * a, Pol.C b.lc⁻¹ * b, ⟨?_, Pol.C b.lc * u, Pol.C b.lc * v, ?_⟩, ?_⟩
  · rw [Pol.lc_mul, Pol.lc_C]; exact Rat.inv_mul_cancel _ (Pol.lc_ne hb)
  · grind
  · grind
theorem Pol.len_one_of_dvd {a b c d : Pol} (ha : a ≠ 0) (h1 : b = c * a) (h2 : a = d * b) (m1 : a.lc = 1) (m2 : b.lc = 1) : a = b := by
  have e : d * c = 1 := Pol.cancel ha (by grind)
  have hd : d ≠ 0 := fun z => by rw [z] at e; exact Pol.one_ne (by grind)
  have hc : c ≠ 0 := fun z => by rw [z] at e; exact Pol.one_ne (by grind)
  have l := Pol.len_mul hd hc
  rw [e] at l
  have l1 : (1 : Pol).len = 1 := by
    have : (1 : Pol) = Pol.C 1 := Pol.C_one.symm
    rw [this]
    exact Pol.len_eq (n := 0) (fun i hi => by rw [Pol.co_C, if_neg (by omega)]) (by rw [Pol.co_C]; simp)
  have p1 := Pol.len_pos hd
  have p2 := Pol.len_pos hc
  have lc1 : c.len = 1 := by omega
  have ec : c = Pol.C c.lc := Pol.ext_co fun i => by
    rw [Pol.co_C]
    by_cases hi : i = 0
    · subst hi; rw [if_pos rfl]; unfold Pol.lc; rw [lc1]
    · rw [if_neg hi, Pol.co_ge c (by omega)]
  have e2 := congrArg Pol.lc h1
  rw [Pol.lc_mul, m1, m2] at e2
  have : c.lc = 1 := by grind
  rw [this, Pol.C_one] at ec
  rw [h1, ec]; grind
theorem can_uniq {n d n' d' : Pol} (h : Can n d) (h' : Can n' d') (e : n * d' = n' * d) : n = n' ∧ d = d' := by
  obtain ⟨u, v, e1⟩ := h.c
  obtain ⟨u', v', e2⟩ := h'.c
  have a1 : d' = (u * n' + v * d') * d := by grind
  have a2 : d = (u' * n + v' * d) * d' := by grind
  have hd : d = d' := Pol.len_one_of_dvd h.ne a1 a2 h.m h'.m
  subst hd
  exact ⟨Pol.cancel h.ne (by grind), rfl⟩
structure PF where
  n : Pol
  d : Pol
  ne : d ≠ 0
instance PF.st : Setoid PF := ⟨fun a b => a.n * b.d = b.n * a.d, fun a => rfl, fun h => h.symm, fun {a b c} h1 h2 => Pol.cancel b.ne (by grind)⟩
def KF : Type := Quotient PF.st
def KF.mk (n d : Pol) (h : d ≠ 0) : KF := Quotient.mk PF.st ⟨n, d, h⟩
theorem KF.ind {P : KF → Prop} (h : ∀ n d (hd : d ≠ 0), P (KF.mk n d hd)) (x : KF) : P x := Quotient.ind (fun ⟨n, d, hd⟩ => h n d hd) x
theorem KF.eq_iff {n d n' d' : Pol} {h : d ≠ 0} {h' : d' ≠ 0} : KF.mk n d h = KF.mk n' d' h' ↔ n * d' = n' * d := ⟨fun e => (Quotient.exact e : PF.st.r _ _), fun e => Quotient.sound e⟩
def KF.ofP (p : Pol) : KF := KF.mk p 1 Pol.one_ne
instance : Add KF := ⟨fun a b => Quotient.liftOn₂ a b (fun a b => KF.mk (a.n * b.d + b.n * a.d) (a.d * b.d) (Pol.mul_ne a.ne b.ne)) fun a b a' b' (h1 : a.n * a'.d = a'.n * a.d) (h2 : b.n * b'.d = b'.n * b.d) => KF.eq_iff.mpr (by grind)⟩
instance : Mul KF := ⟨fun a b => Quotient.liftOn₂ a b (fun a b => KF.mk (a.n * b.n) (a.d * b.d) (Pol.mul_ne a.ne b.ne)) fun a b a' b' (h1 : a.n * a'.d = a'.n * a.d) (h2 : b.n * b'.d = b'.n * b.d) => KF.eq_iff.mpr (by grind)⟩
instance : Neg KF := ⟨fun a => Quotient.liftOn a (fun a => KF.mk (-a.n) a.d a.ne) fun a a' (h1 : a.n * a'.d = a'.n * a.d) => KF.eq_iff.mpr (by grind)⟩
instance : Sub KF := ⟨fun a b => a + -b⟩
open Classical in
noncomputable instance : Inv KF := ⟨fun a => Quotient.liftOn a (fun a => if h : a.n = 0 then KF.ofP 0 else KF.mk a.d a.n h) fun a a' (h1 : a.n * a'.d = a'.n * a.d) => by
  by_cases h : a.n = 0
  · have h' : a'.n = 0 := by
      rw [h] at h1
      rcases Pol.zero_of_mul (p := a'.n) (q := a.d) (by grind) with z | z
      · exact z
      · exact absurd z a.ne
    rw [dif_pos h, dif_pos h']
  · have h' : a'.n ≠ 0 := fun z => by
      rw [z] at h1
      rcases Pol.zero_of_mul (p := a.n) (q := a'.d) (by grind) with z | z
      · exact h z
      · exact a'.ne z
    rw [dif_neg h, dif_neg h']
    exact KF.eq_iff.mpr (by grind)⟩
noncomputable instance : Div KF := ⟨fun a b => a * b⁻¹⟩
theorem KF.add_mk {n d n' d' : Pol} {h : d ≠ 0} {h' : d' ≠ 0} : KF.mk n d h + KF.mk n' d' h' = KF.mk (n * d' + n' * d) (d * d') (Pol.mul_ne h h') := rfl
theorem KF.mul_mk {n d n' d' : Pol} {h : d ≠ 0} {h' : d' ≠ 0} : KF.mk n d h * KF.mk n' d' h' = KF.mk (n * n') (d * d') (Pol.mul_ne h h') := rfl
theorem KF.neg_mk {n d : Pol} {h : d ≠ 0} : -KF.mk n d h = KF.mk (-n) d h := rfl
open Classical in
theorem KF.inv_mk {n d : Pol} {h : d ≠ 0} (hn : n ≠ 0) : (KF.mk n d h)⁻¹ = KF.mk d n hn := by
  show (if h : n = 0 then KF.ofP 0 else KF.mk d n h) = _
  rw [dif_neg hn]
open Classical in
theorem KF.inv_mk0 {d : Pol} {h : d ≠ 0} : (KF.mk 0 d h)⁻¹ = KF.ofP 0 := by
  show (if h : (0 : Pol) = 0 then KF.ofP 0 else KF.mk d 0 h) = _
  rw [dif_pos rfl]
instance : NatCast KF := ⟨fun n => .ofP n⟩
instance (n : Nat) : OfNat KF n := ⟨.ofP (OfNat.ofNat n)⟩
instance : IntCast KF := ⟨fun n => .ofP n⟩
instance : SMul Nat KF := ⟨fun n p => .ofP n * p⟩
instance : SMul Int KF := ⟨fun n p => .ofP n * p⟩
def KF.pow (p : KF) : Nat → KF
  | 0 => 1
  | n + 1 => KF.pow p n * p
instance : HPow KF Nat KF := ⟨KF.pow⟩
noncomputable def KF.zpow (p : KF) : Int → KF
  | .ofNat n => KF.pow p n
  | .negSucc n => (KF.pow p (n + 1))⁻¹
noncomputable instance : HPow KF Int KF := ⟨KF.zpow⟩
theorem KF.zero_def : (0 : KF) = KF.mk 0 1 Pol.one_ne := rfl
theorem KF.one_def : (1 : KF) = KF.mk 1 1 Pol.one_ne := rfl
theorem KF.mk_zero {n d : Pol} {h : d ≠ 0} : KF.mk n d h = 0 ↔ n = 0 := by
  rw [KF.zero_def, KF.eq_iff]
  constructor
  · intro e; grind
  · intro e; subst e; grind
instance KF.commRing : CommRing KF where
  add_zero a := by induction a using KF.ind; exact KF.eq_iff.mpr (by grind)
  add_comm a b := by induction a using KF.ind; induction b using KF.ind; exact KF.eq_iff.mpr (by grind)
  add_assoc a b c := by induction a using KF.ind; induction b using KF.ind; induction c using KF.ind; exact KF.eq_iff.mpr (by grind)
  mul_assoc a b c := by induction a using KF.ind; induction b using KF.ind; induction c using KF.ind; exact KF.eq_iff.mpr (by grind)
  mul_one a := by induction a using KF.ind; exact KF.eq_iff.mpr (by grind)
  left_distrib a b c := by induction a using KF.ind; induction b using KF.ind; induction c using KF.ind; exact KF.eq_iff.mpr (by grind)
  zero_mul a := by induction a using KF.ind; exact KF.eq_iff.mpr (by grind)
  mul_comm a b := by induction a using KF.ind; induction b using KF.ind; exact KF.eq_iff.mpr (by grind)
  one_mul a := by induction a using KF.ind; exact KF.eq_iff.mpr (by grind)
  right_distrib a b c := by induction a using KF.ind; induction b using KF.ind; induction c using KF.ind; exact KF.eq_iff.mpr (by grind)
  mul_zero a := by induction a using KF.ind; exact KF.eq_iff.mpr (by grind)
  pow_zero a := rfl
  pow_succ a n := rfl
  ofNat_succ a := KF.eq_iff.mpr (by
    have h1 : (OfNat.ofNat (a + 1) : Pol) = OfNat.ofNat a + 1 := Semiring.ofNat_succ a
    rw [h1]
    grind)
  ofNat_eq_natCast n := rfl
  nsmul_eq_natCast_mul n a := rfl
  neg_add_cancel a := by induction a using KF.ind; exact KF.eq_iff.mpr (by grind)
  sub_eq_add_neg a b := rfl
  neg_zsmul i a := by
    induction a using KF.ind
    refine KF.eq_iff.mpr ?_
    have : ((-i : Int) : Pol) = -(i : Pol) := Ring.intCast_neg i
    rw [this]
    grind
  zsmul_natCast_eq_nsmul n a := rfl
  intCast_ofNat n := rfl
  intCast_neg i := KF.eq_iff.mpr (by
    have : ((-i : Int) : Pol) = -(i : Pol) := Ring.intCast_neg i
    rw [this])
theorem KF.inv_inv (a : KF) : a⁻¹⁻¹ = a := by
  induction a using KF.ind with | h n d hd => ?_
  by_cases h : n = 0
  · subst h
    rw [KF.inv_mk0]
    show (KF.mk 0 1 Pol.one_ne)⁻¹ = _
    rw [KF.inv_mk0]
    exact KF.eq_iff.mpr (by grind)
  · rw [KF.inv_mk h, KF.inv_mk hd]
noncomputable instance KF.field : Field KF where
  div_eq_mul_inv a b := rfl
  zero_ne_one h := Pol.one_ne (by have := KF.eq_iff.mp h; grind)
  inv_zero := by
    show (KF.mk 0 1 Pol.one_ne)⁻¹ = _
    rw [KF.inv_mk0]; rfl
  mul_inv_cancel {a} h := by
    induction a using KF.ind with | h n d hd => ?_
    have hn : n ≠ 0 := fun z => h (KF.mk_zero.mpr z)
    rw [KF.inv_mk hn, KF.mul_mk]
    exact KF.eq_iff.mpr (by grind)
  zpow_zero a := rfl
  zpow_succ a n := rfl
  zpow_neg a n := by
    show KF.zpow a (-n) = (KF.zpow a n)⁻¹
    match n with
    | .ofNat 0 =>
      show (1 : KF) = (1 : KF)⁻¹
      rw [KF.one_def, KF.inv_mk Pol.one_ne]
    | .ofNat (n + 1) => rfl
    | .negSucc n =>
      show KF.pow a (n + 1) = ((KF.pow a (n + 1))⁻¹)⁻¹
      rw [KF.inv_inv]
/-- the lowest terms -/
theorem KF.can (x : KF) : ∃ n d, Can n d ∧ ∃ h, x = KF.mk n d h := by
  induction x using KF.ind with | h N D hD => ?_
  obtain ⟨n, d, h1, h2⟩ := can_ex N D hD
  exact ⟨n, d, h1, h1.ne, KF.eq_iff.mpr h2.symm⟩
noncomputable def KF.num (x : KF) : Pol := x.can.choose
noncomputable def KF.den (x : KF) : Pol := x.can.choose_spec.choose
theorem KF.cn (x : KF) : Can x.num x.den := x.can.choose_spec.choose_spec.1
theorem KF.eq_mk (x : KF) : x = KF.mk x.num x.den x.cn.ne := x.can.choose_spec.choose_spec.2.choose_spec
theorem KF.num_den {n d : Pol} (h : Can n d) (hd : d ≠ 0) : (KF.mk n d hd).num = n ∧ (KF.mk n d hd).den = d := by
  have := KF.eq_mk (KF.mk n d hd)
  have e := KF.eq_iff.mp this
  have := can_uniq h (KF.cn _) e
  exact ⟨this.1.symm, this.2.symm⟩
theorem KF.ext {x y : KF} (h1 : x.num = y.num) (h2 : x.den = y.den) : x = y := by
  rw [KF.eq_mk x, KF.eq_mk y]
  exact KF.eq_iff.mpr (by rw [h1, h2])
end SW
set_option exponentiation.threshold 256
set_option maxRecDepth 512
set_option maxHeartbeats 200000
namespace SW
open Lean.Grind
theorem pigeon : ∀ (W : Nat) (f : Nat → Nat), (∀ i, i ≤ W → f i < W) → ∃ i j, i < j ∧ j ≤ W ∧ f i = f j
  | 0, f, h => absurd (h 0 (Nat.le_refl _)) (Nat.not_lt_zero _)
  | W + 1, f, h => by
    by_cases h0 : ∃ i, i ≤ W ∧ f i = f (W + 1)
    · obtain ⟨i, h1, h2⟩ := h0
      exact ⟨i, W + 1, by omega, Nat.le_refl _, h2⟩
    have hW := h (W + 1) (Nat.le_refl _)
    obtain ⟨i, j, h1, h2, h3⟩ := pigeon W (fun i => if f i = W then f (W + 1) else f i) fun i hi => by
      have hi' := h i (by omega)
      have hn : f i ≠ f (W + 1) := fun e => h0 ⟨i, hi, e⟩
      show (if f i = W then f (W + 1) else f i) < W
      split <;> omega
    refine ⟨i, j, h1, by omega, ?_⟩
    have n1 : f i ≠ f (W + 1) := fun e => h0 ⟨i, by omega, e⟩
    have n2 : f j ≠ f (W + 1) := fun e => h0 ⟨j, by omega, e⟩
    have h3 : (if f i = W then f (W + 1) else f i) = (if f j = W then f (W + 1) else f j) := h3
    split at h3 <;> split at h3 <;> omega
def enc (W : Nat) : Nat → (Nat → Nat) → Nat
  | 0, _ => 0
  | M + 1, y => y 0 + W * enc W M fun j => y (j + 1)
theorem enc_lt {W : Nat} : ∀ (M : Nat) (y : Nat → Nat), (∀ j, j < M → y j < W) → enc W M y < W ^ M
  | 0, _, _ => by simp [enc]
  | M + 1, y, h => by
    have h0 := h 0 (by omega)
    have ih := enc_lt M (fun j => y (j + 1)) fun j hj => h (j + 1) (by omega)
    show y 0 + W * enc W M _ < W ^ (M + 1)
    have h1 : W * (enc W M (fun j => y (j + 1)) + 1) ≤ W * W ^ M := Nat.mul_le_mul_left W ih
    rw [Nat.pow_succ, Nat.mul_comm (W ^ M)]
    rw [Nat.mul_add] at h1
    omega
theorem enc_inj {W : Nat} : ∀ (M : Nat) (y z : Nat → Nat), (∀ j, j < M → y j < W) → (∀ j, j < M → z j < W) → enc W M y = enc W M z → ∀ j, j < M → y j = z j
  | 0, _, _, _, _, _, j, hj => absurd hj (Nat.not_lt_zero _)
  | M + 1, y, z, h1, h2, e, j, hj => by
    have a := h1 0 (by omega)
    have b := h2 0 (by omega)
    have e : y 0 + W * enc W M (fun j => y (j + 1)) = z 0 + W * enc W M fun j => z (j + 1) := e
    have hW : 0 < W := by omega
    have e0 : y 0 = z 0 := by
      have := congrArg (· % W) e
      simpa [Nat.add_mul_mod_self_left, Nat.mod_eq_of_lt a, Nat.mod_eq_of_lt b] using this
    have e1 : enc W M (fun j => y (j + 1)) = enc W M fun j => z (j + 1) := by
      rw [e0] at e
      exact Nat.eq_of_mul_eq_mul_left hW (by omega)
    cases j with
    | zero => exact e0
    | succ j => exact enc_inj M _ _ (fun j hj => h1 (j + 1) (by omega)) (fun j hj => h2 (j + 1) (by omega)) e1 j (by omega)
def dig (b : Nat) : Nat → Nat → Nat
  | t, 0 => t % b
  | t, i + 1 => dig b (t / b) i
theorem dig_lt {b : Nat} (h : 0 < b) : ∀ (i t : Nat), dig b t i < b
  | 0, t => Nat.mod_lt _ h
  | i + 1, t => dig_lt h i (t / b)
theorem dig_inj {b : Nat} : ∀ (N t s : Nat), t < b ^ N → s < b ^ N → (∀ i, i < N → dig b t i = dig b s i) → t = s
  | 0, t, s, h1, h2, _ => by simp at h1 h2; omega
  | N + 1, t, s, h1, h2, h => by
    have hb : 0 < b := Nat.pos_of_ne_zero fun z => by rw [z, Nat.pow_succ] at h1; simp at h1
    have e0 : t % b = s % b := h 0 (by omega)
    have e1 : t / b = s / b := dig_inj N _ _ (Nat.div_lt_of_lt_mul (by rwa [Nat.pow_succ, Nat.mul_comm] at h1)) (Nat.div_lt_of_lt_mul (by rwa [Nat.pow_succ, Nat.mul_comm] at h2)) fun i hi => h (i + 1) (by omega)
    rw [← Nat.div_add_mod t b, ← Nat.div_add_mod s b, e0, e1]
def sm : Nat → (Nat → Int) → Int
  | 0, _ => 0
  | n + 1, f => sm n f + f n
theorem sm_sub (n : Nat) (f g : Nat → Int) : sm n (fun i => f i - g i) = sm n f - sm n g := by
  induction n with
  | zero => rfl
  | succ n ih => simp only [sm, ih]; omega
theorem sm_congr {n : Nat} {f g : Nat → Int} (h : ∀ i, i < n → f i = g i) : sm n f = sm n g := by
  induction n with
  | zero => rfl
  | succ n ih => simp only [sm]; rw [ih fun i hi => h i (by omega), h n (by omega)]
theorem sm_le {n : Nat} {f : Nat → Int} {B : Nat} (h : ∀ i, i < n → (f i).natAbs ≤ B) : (sm n f).natAbs ≤ n * B := by
  induction n with
  | zero => simp [sm]
  | succ n ih =>
    have h1 := ih fun i hi => h i (by omega)
    have h2 := h n (by omega)
    simp only [sm, Nat.succ_mul]
    omega
theorem siegel (N M H : Nat) (hN : M < N) (A : Nat → Nat → Int) (hA : ∀ j i, j < M → i < N → (A j i).natAbs ≤ H) :
    ∃ x : Nat → Int, (∃ i, i < N ∧ x i ≠ 0) ∧ (∀ i, (x i).natAbs ≤ (2 * N * (H + 1)) ^ M) ∧ ∀ j, j < M → sm N (fun i => A j i * x i) = 0 := by
  let B := (2 * N * (H + 1)) ^ M
  let b := B + 1
  let C := N * (H * B)
  let W := 2 * C + 1
  let val : Nat → Nat → Int := fun t j => sm N fun i => A j i * (dig b t i : Nat)
  have hval : ∀ t j, j < M → (val t j).natAbs ≤ C := fun t j hj => sm_le fun i hi => by
    rw [Int.natAbs_mul, Int.natAbs_natCast]
    exact Nat.mul_le_mul (hA j i hj hi) (by have := dig_lt (b := b) (Nat.succ_pos _) i t; omega)
  let y : Nat → Nat → Nat := fun t j => (val t j + C).toNat
  have hy : ∀ t j, j < M → y t j < W := fun t j hj => by
    have := hval t j hj
    show (val t j + C).toNat < 2 * C + 1
    omega
  have hWb : W ^ M < b ^ N := by
    have h1 : W ≤ 2 * N * (H + 1) * b := by
      show 2 * (N * (H * B)) + 1 ≤ 2 * N * (H + 1) * (B + 1)
      have e : 2 * N * (H + 1) * (B + 1) = 2 * (N * (H * B)) + 2 * N * H + 2 * N * B + 2 * N := by grind
      rw [e]; omega
    have h2 : W ^ M ≤ (2 * N * (H + 1)) ^ M * b ^ M := by
      rw [← Nat.mul_pow]; exact Nat.pow_le_pow_left h1 M
    have h3 : (2 * N * (H + 1)) ^ M * b ^ M < b * b ^ M := Nat.mul_lt_mul_of_pos_right (Nat.lt_succ_self _) (Nat.pow_pos (Nat.succ_pos _))
    have h4 : b * b ^ M ≤ b ^ N := by
      rw [Nat.mul_comm, ← Nat.pow_succ]
      exact Nat.pow_le_pow_right (Nat.succ_pos _) hN
    omega
  obtain ⟨t, s, h1, h2, h3⟩ := pigeon (W ^ M) (fun t => enc W M (y t)) fun t _ => enc_lt M _ (hy t)
  have he := enc_inj M _ _ (hy t) (hy s) h3
  refine ⟨fun i => (dig b t i : Int) - (dig b s i : Int), ?_, fun i => ?_, fun j hj => ?_⟩
  · refine Classical.byContradiction fun z => ?_
    have : t = s := dig_inj (b := b) N t s (by omega) (by omega) fun i hi => by
      refine Classical.byContradiction fun e => z ⟨i, hi, ?_⟩
      show ((dig b t i : Nat) : Int) - (dig b s i : Nat) ≠ 0
      omega
    omega
  · have h1 := dig_lt (b := b) (Nat.succ_pos _) i t
    have h2 := dig_lt (b := b) (Nat.succ_pos _) i s
    show ((dig b t i : Int) - (dig b s i : Int)).natAbs ≤ B
    omega
  · have e : (val t j + C).toNat = (val s j + C).toNat := he j hj
    have a1 := hval t j hj
    have a2 := hval s j hj
    have e2 : val t j = val s j := by omega
    have e3 : sm N (fun i => A j i * ((dig b t i : Int) - (dig b s i : Int))) = val t j - val s j := by
      rw [← sm_sub]
      exact sm_congr fun i hi => by grind
    rw [e3, e2]; omega
theorem prime_ex : ∀ (n : Nat), 1 < n → ∃ p, 1 < p ∧ p ∣ n ∧ ∀ d, d ∣ p → d = 1 ∨ d = p := fun n => by
  induction n using Nat.strongRecOn with
  | ind n ih =>
    intro h
    by_cases hd : ∃ d, d ∣ n ∧ d ≠ 1 ∧ d ≠ n
    · obtain ⟨d, h1, h2, h3⟩ := hd
      have h4 := Nat.le_of_dvd (by omega) h1
      have h5 : d ≠ 0 := fun z => by rw [z] at h1; have := Nat.eq_zero_of_zero_dvd h1; omega
      obtain ⟨p, q1, q2, q3⟩ := ih d (by omega) (by omega)
      exact ⟨p, q1, Nat.dvd_trans q2 h1, q3⟩
    · refine ⟨n, h, Nat.dvd_refl _, fun d h1 => ?_⟩
      refine Classical.byContradiction fun z => hd ⟨d, h1, ?_, ?_⟩
      · exact fun e => z (.inl e)
      · exact fun e => z (.inr e)
theorem prime_mul {p : Nat} (hp : ∀ d, d ∣ p → d = 1 ∨ d = p) {a b : Nat} (h : p ∣ a * b) : p ∣ a ∨ p ∣ b := by
  rcases hp (Nat.gcd p a) (Nat.gcd_dvd_left _ _) with e | e
  · exact .inr (Nat.Coprime.dvd_of_dvd_mul_left e h)
  · exact .inl (e ▸ Nat.gcd_dvd_right p a)
end SW
set_option exponentiation.threshold 256
set_option maxRecDepth 512
set_option maxHeartbeats 200000
namespace SW
open Lean.Grind
def sftL (a : Rat) : Cf → Pol
  | [] => 0
  | c :: r => sftL a r * Pol.of [a, 1] + Pol.C c
def Pol.sft (a : Rat) (p : Pol) : Pol := sftL a p.row
theorem ev_sftL (a : Rat) (p : Cf) (x : Rat) : (sftL a p).ev x = ev p (x + a) := by
  induction p with
  | nil => simp [sftL, ev_nil]
  | cons c r ih => simp only [sftL, Pol.ev_add, Pol.ev_mul, ih, Pol.ev_of, Pol.ev_C, ev_cons, ev_nil]; grind
@[simp] theorem Pol.ev_sft (a : Rat) (p : Pol) (x : Rat) : (p.sft a).ev x = p.ev (x + a) := ev_sftL a p.row x
theorem Pol.sft_add (a : Rat) (p q : Pol) : (p + q).sft a = p.sft a + q.sft a := Pol.ext fun x => by simp
theorem Pol.sft_mul (a : Rat) (p q : Pol) : (p * q).sft a = p.sft a * q.sft a := Pol.ext fun x => by simp
theorem Pol.sft_neg (a : Rat) (p : Pol) : (-p).sft a = -p.sft a := Pol.ext fun x => by simp
theorem Pol.sft_zero (a : Rat) : (0 : Pol).sft a = 0 := Pol.ext fun x => by simp
theorem Pol.sft_one (a : Rat) : (1 : Pol).sft a = 1 := Pol.ext fun x => by simp
theorem Pol.sft_C (a c : Rat) : (Pol.C c).sft a = Pol.C c := Pol.ext fun x => by simp
theorem Pol.sft_sft (a b : Rat) (p : Pol) : (p.sft a).sft b = p.sft (a + b) := Pol.ext fun x => by simp; congr 1; grind
theorem Pol.sft_0 (p : Pol) : p.sft 0 = p := Pol.ext fun x => by simp; congr 1; grind
theorem Pol.sft_ne {a : Rat} {p : Pol} (h : p ≠ 0) : p.sft a ≠ 0 := fun z => h (by
  have := congrArg (Pol.sft (-a)) z
  rwa [Pol.sft_sft, show a + -a = 0 by grind, Pol.sft_0, Pol.sft_zero] at this)
def KF.sh (a : Rat) (x : KF) : KF := Quotient.liftOn x (fun x => KF.mk (x.n.sft a) (x.d.sft a) (Pol.sft_ne x.ne)) fun x y (h : x.n * y.d = y.n * x.d) => KF.eq_iff.mpr (by rw [← Pol.sft_mul, ← Pol.sft_mul, h])
theorem KF.sh_mk {a : Rat} {n d : Pol} {h : d ≠ 0} : KF.sh a (KF.mk n d h) = KF.mk (n.sft a) (d.sft a) (Pol.sft_ne h) := rfl
theorem KF.sh_add (a : Rat) (x y : KF) : KF.sh a (x + y) = KF.sh a x + KF.sh a y := by
  induction x using KF.ind; induction y using KF.ind
  exact KF.eq_iff.mpr (by simp only [Pol.sft_add, Pol.sft_mul])
theorem KF.sh_mul (a : Rat) (x y : KF) : KF.sh a (x * y) = KF.sh a x * KF.sh a y := by
  induction x using KF.ind; induction y using KF.ind
  exact KF.eq_iff.mpr (by simp only [Pol.sft_mul])
theorem KF.sh_neg (a : Rat) (x : KF) : KF.sh a (-x) = -KF.sh a x := by
  induction x using KF.ind
  exact KF.eq_iff.mpr (by simp only [Pol.sft_neg])
theorem KF.sh_zero (a : Rat) : KF.sh a 0 = 0 := KF.eq_iff.mpr (by rw [Pol.sft_zero, Pol.sft_one])
theorem KF.sh_one (a : Rat) : KF.sh a 1 = 1 := KF.eq_iff.mpr (by show Pol.sft a 1 * 1 = 1 * Pol.sft a 1; grind)
theorem KF.sh_sh (a b : Rat) (x : KF) : KF.sh b (KF.sh a x) = KF.sh (a + b) x := by
  induction x using KF.ind
  exact KF.eq_iff.mpr (by simp only [Pol.sft_sft])
theorem KF.sh_0 (x : KF) : KF.sh 0 x = x := by
  induction x using KF.ind
  exact KF.eq_iff.mpr (by simp only [Pol.sft_0])
theorem KF.sh_ne {a : Rat} {x : KF} (h : x ≠ 0) : KF.sh a x ≠ 0 := fun z => h (by
  have := congrArg (KF.sh (-a)) z
  rwa [KF.sh_sh, show a + -a = 0 by grind, KF.sh_0, KF.sh_zero] at this)
/-- an integer, of absolute value at most B -/
def Ib (B : Nat) (q : Rat) : Prop := ∃ z : Int, q = z ∧ z.natAbs ≤ B
theorem Ib.add {A B : Nat} {p q : Rat} (h1 : Ib A p) (h2 : Ib B q) : Ib (A + B) (p + q) := by
  obtain ⟨y, rfl, a⟩ := h1
  obtain ⟨z, rfl, b⟩ := h2
  exact ⟨y + z, by rw [Rat.intCast_add], by omega⟩
theorem Ib.mul {A B : Nat} {p q : Rat} (h1 : Ib A p) (h2 : Ib B q) : Ib (A * B) (p * q) := by
  obtain ⟨y, rfl, a⟩ := h1
  obtain ⟨z, rfl, b⟩ := h2
  exact ⟨y * z, by rw [Rat.intCast_mul], by rw [Int.natAbs_mul]; exact Nat.mul_le_mul a b⟩
theorem Ib.neg {A : Nat} {p : Rat} (h1 : Ib A p) : Ib A (-p) := by
  obtain ⟨y, rfl, a⟩ := h1
  exact ⟨-y, by rw [Rat.intCast_neg], by omega⟩
theorem Ib.mono {A B : Nat} {p : Rat} (h1 : Ib A p) (h : A ≤ B) : Ib B p := by
  obtain ⟨y, rfl, a⟩ := h1
  exact ⟨y, rfl, by omega⟩
theorem Ib.zero {A : Nat} : Ib A 0 := ⟨0, rfl, by simp⟩
/-- L times the coefficients are integers, of absolute value at most B -/
def Hq (L B : Nat) (p : Pol) : Prop := ∀ i, Ib B (p.co i * L)
theorem Hq.mono {L A B : Nat} {p : Pol} (h : Hq L A p) (h2 : A ≤ B) : Hq L B p := fun i => (h i).mono h2
theorem Hq.add {L A B : Nat} {p q : Pol} (h : Hq L A p) (h2 : Hq L B q) : Hq L (A + B) (p + q) := fun i => by
  have := (h i).add (h2 i)
  rwa [← Rat.add_mul, ← Pol.co_add] at this
theorem Hq.neg {L A : Nat} {p : Pol} (h : Hq L A p) : Hq L A (-p) := fun i => by
  have := (h i).neg
  rw [Pol.co_neg]
  rwa [show -p.co i * (L : Rat) = -(p.co i * L) by grind]
theorem Hq.sub {L A B : Nat} {p q : Pol} (h : Hq L A p) (h2 : Hq L B q) : Hq L (A + B) (p - q) := h.add h2.neg
theorem mulL_Ib {L M A B : Nat} : ∀ (p q : Cf), (∀ i, Ib A (p.getD i 0 * L)) → (∀ i, Ib B (q.getD i 0 * M)) → ∀ i, Ib (p.length * (A * B)) ((mulL p q).getD i 0 * ((L * M : Nat) : Rat))
  | [], q, _, _, i => by simp [mulL]; exact Ib.zero
  | a :: p, q, hp, hq, i => by
    have h0 := hp 0
    have ih := mulL_Ib p q (fun i => by have := hp (i + 1); simpa using this) hq
    rw [mulL_cons_getD, Rat.add_mul]
    have h1 := h0.mul (hq i)
    simp only [List.length_cons, Nat.succ_mul]
    rw [Nat.add_comm]
    refine Ib.add ?_ ?_
    · have e : a * q.getD i 0 * ((L * M : Nat) : Rat) = (a :: p).getD 0 0 * L * (q.getD i 0 * M) := by
        rw [Rat.natCast_mul]; simp; grind
      rw [e]; exact h1
    · by_cases hi : i = 0
      · rw [if_pos hi, Rat.zero_mul]; exact Ib.zero
      · rw [if_neg hi]; exact ih _
theorem Hq.mul {L M A B : Nat} {p q : Pol} (h : Hq L A p) (h2 : Hq M B q) : Hq (L * M) (p.len * (A * B)) (p * q) := fun i => by
  rw [Pol.co_mul]
  exact mulL_Ib p.row q.row h h2 i
theorem Hq.up {L A : Nat} (M : Nat) {p : Pol} (h : Hq L A p) : Hq (L * M) (A * M) p := fun i => by
  have := (h i).mul (⟨M, rfl, by simp⟩ : Ib M (M : Rat))
  rw [Rat.natCast_mul, ← Rat.mul_assoc]; exact this
def Iz (q : Rat) : Prop := ∃ z : Int, q = z
def Pol.Z (p : Pol) : Prop := ∀ i, Iz (p.co i)
theorem Hq.z {B : Nat} {p : Pol} (h : Hq 1 B p) : p.Z := fun i => by
  obtain ⟨z, h1, _⟩ := h i
  exact ⟨z, by rw [← h1]; simp⟩
/-- an integer that e divides -/
def Dv (e : Nat) (q : Rat) : Prop := ∃ z : Int, q = ((e : Int) * z : Int)
theorem Dv.add {e : Nat} {p q : Rat} (h1 : Dv e p) (h2 : Dv e q) : Dv e (p + q) := by
  obtain ⟨y, rfl⟩ := h1
  obtain ⟨z, rfl⟩ := h2
  exact ⟨y + z, by rw [← Rat.intCast_add, Int.mul_add]⟩
theorem Dv.sub {e : Nat} {p q : Rat} (h1 : Dv e p) (h2 : Dv e q) : Dv e (p - q) := by
  obtain ⟨y, rfl⟩ := h1
  obtain ⟨z, rfl⟩ := h2
  exact ⟨y - z, by rw [← Rat.intCast_sub, Int.mul_sub]⟩
theorem Dv.mul {e : Nat} {p q : Rat} (h1 : Dv e p) (h2 : Iz q) : Dv e (p * q) := by
  obtain ⟨y, rfl⟩ := h1
  obtain ⟨z, rfl⟩ := h2
  exact ⟨y * z, by rw [← Rat.intCast_mul, Int.mul_assoc]⟩
theorem Dv.mul2 {e : Nat} {p q : Rat} (h1 : Iz p) (h2 : Dv e q) : Dv e (p * q) := by rw [Rat.mul_comm]; exact h2.mul h1
theorem Dv.zero {e : Nat} : Dv e 0 := ⟨0, by simp⟩
theorem mulL_Dv {e : Nat} : ∀ (p q : Cf), (∀ i, Dv e (p.getD i 0)) → (∀ i, Iz (q.getD i 0)) → ∀ i, Dv e ((mulL p q).getD i 0)
  | [], q, _, _, i => by simp [mulL]; exact Dv.zero
  | a :: p, q, hp, hq, i => by
    rw [mulL_cons_getD]
    refine Dv.add ((by simpa using hp 0 : Dv e a).mul (hq i)) ?_
    by_cases hi : i = 0
    · rw [if_pos hi]; exact Dv.zero
    · rw [if_neg hi]; exact mulL_Dv p q (fun i => by have := hp (i + 1); simpa using this) hq _
theorem mulL_topD {e : Nat} : ∀ (p q : Cf) (m n : Nat), (∀ i, Iz (p.getD i 0)) → (∀ i, Iz (q.getD i 0)) → (∀ i, m < i → Dv e (p.getD i 0)) → (∀ i, n < i → Dv e (q.getD i 0)) → Dv e ((mulL p q).getD (m + n) 0 - p.getD m 0 * q.getD n 0) ∧ ∀ i, m + n < i → Dv e ((mulL p q).getD i 0)
  | [], q, m, n, _, _, _, _ => ⟨by simp [mulL]; rw [show (0 : Rat) - 0 = 0 by grind]; exact Dv.zero, fun i _ => by simp [mulL]; exact Dv.zero⟩
  | a :: p, q, 0, n, hp, hq, hm, hn => by
    have hD : ∀ i, Dv e ((mulL p q).getD i 0) := mulL_Dv p q (fun i => by have := hm (i + 1) (by omega); simpa using this) hq
    refine ⟨?_, fun i hi => ?_⟩
    · rw [mulL_cons_getD, Nat.zero_add]
      by_cases h0 : n = 0
      · rw [if_pos h0]
        rw [show a * q.getD n 0 + 0 - (a :: p).getD 0 0 * q.getD n 0 = 0 by simp; grind]
        exact Dv.zero
      · rw [if_neg h0]
        rw [show a * q.getD n 0 + (mulL p q).getD (n - 1) 0 - (a :: p).getD 0 0 * q.getD n 0 = (mulL p q).getD (n - 1) 0 by simp; grind]
        exact hD _
    · rw [mulL_cons_getD]
      refine Dv.add (Dv.mul2 (by simpa using hp 0) (hn i (by omega))) ?_
      rw [if_neg (by omega)]
      exact hD _
  | a :: p, q, m + 1, n, hp, hq, hm, hn => by
    have ih := mulL_topD (e := e) p q m n (fun i => by have := hp (i + 1); simpa using this) hq (fun i hi => by have := hm (i + 1) (by omega); simpa using this) hn
    have ha : Iz a := by simpa using hp 0
    refine ⟨?_, fun i hi => ?_⟩
    · rw [mulL_cons_getD, if_neg (by omega), show m + 1 + n - 1 = m + n by omega]
      rw [show a * q.getD (m + 1 + n) 0 + (mulL p q).getD (m + n) 0 - (a :: p).getD (m + 1) 0 * q.getD n 0 = a * q.getD (m + 1 + n) 0 + ((mulL p q).getD (m + n) 0 - p.getD m 0 * q.getD n 0) by simp; grind]
      exact Dv.add (Dv.mul2 ha (hn _ (by omega))) ih.1
    · rw [mulL_cons_getD, if_neg (by omega)]
      exact Dv.add (Dv.mul2 ha (hn _ (by omega))) (ih.2 _ (by omega))
/-- no integer greater than 1 divides all coefficients -/
def Pol.Pr (p : Pol) : Prop := ∀ e : Nat, 1 < e → ∃ i, ¬ Dv e (p.co i)
theorem top_ex (p : Pol) (P : Rat → Prop) (h0 : P 0) : ∀ (n : Nat), p.len ≤ n → (∃ i, ¬ P (p.co i)) → ∃ i, ¬ P (p.co i) ∧ ∀ j, i < j → P (p.co j) := fun n hn ⟨i, hi⟩ => by
  have key : ∀ k, ∀ i, n - i ≤ k → ¬ P (p.co i) → ∃ i, ¬ P (p.co i) ∧ ∀ j, i < j → P (p.co j) := by
    intro k
    induction k with
    | zero => exact fun i h1 h2 => absurd (by rw [Pol.co_ge p (by omega)]; exact h0) h2
    | succ k ih =>
      intro i h1 h2
      by_cases h3 : ∃ j, i < j ∧ ¬ P (p.co j)
      · obtain ⟨j, a, b⟩ := h3
        by_cases hj : n ≤ i
        · exact absurd (by rw [Pol.co_ge p (by omega)]; exact h0) h2
        · exact ih j (by omega) b
      · exact ⟨i, h2, fun j hj => Classical.byContradiction fun z => h3 ⟨j, hj, z⟩⟩
  exact key _ i (Nat.le_refl _) hi
theorem Dv_of {e : Nat} {z : Int} : Dv e (z : Rat) ↔ e ∣ z.natAbs := by
  constructor
  · rintro ⟨y, h⟩
    have := Rat.intCast_inj.mp h
    rw [this, Int.natAbs_mul, Int.natAbs_natCast]
    exact Nat.dvd_mul_right _ _
  · intro h
    obtain ⟨c, hc⟩ := Int.ofNat_dvd_left.mpr h
    exact ⟨c, by rw [hc]⟩
theorem gauss {Q : Pol} (hQ : Q.Z) (hp : Q.Pr) : ∀ (b : Nat) (R : Pol), 0 < b → (Q * R).Z → (∀ i, Iz (R.co i * b)) → R.Z := fun b => by
  induction b using Nat.strongRecOn with
  | ind b ih =>
    intro R hb hP hR
    by_cases h1 : b = 1
    · subst h1; intro i; have := hR i; rwa [show R.co i * ((1 : Nat) : Rat) = R.co i by simp] at this
    obtain ⟨p, q1, ⟨c, q2⟩, q3⟩ := prime_ex b (by omega)
    have hc : 0 < c := Nat.pos_of_ne_zero fun z => by subst z; omega
    have hcb : c < b := by rw [q2]; have := Nat.mul_lt_mul_of_pos_right q1 hc; omega
    let R' := Pol.C b * R
    have coR : ∀ i, R'.co i = R.co i * b := fun i => by
      have h := Pol.co_mul (Pol.C b) R i
      have e : R'.co i = (b : Rat) * R.co i := by
        show (Pol.C b * R).co i = _
        have : Pol.C (b : Rat) * R = Pol.of (scaleL b R.row) := Pol.ext fun x => by rw [Pol.ev_mul, Pol.ev_C, Pol.ev_of, ev_scaleL]; rfl
        rw [this, Pol.co_of, scaleL_getD]; rfl
      rw [e, Rat.mul_comm]
    have hR' : R'.Z := fun i => by rw [coR]; exact hR i
    have hall : ∀ i, Dv p (R'.co i) := by
      refine Classical.byContradiction fun hn => ?_
      have hn' : ∃ i, ¬ Dv p (R'.co i) := Classical.byContradiction fun z => hn fun i => Classical.byContradiction fun y => z ⟨i, y⟩
      obtain ⟨j, j1, j2⟩ := top_ex R' (Dv p) Dv.zero _ (Nat.le_refl _) hn'
      obtain ⟨i, i1, i2⟩ := top_ex Q (Dv p) Dv.zero _ (Nat.le_refl _) (hp p q1)
      have h := (mulL_topD (e := p) Q.row R'.row i j hQ hR' i2 j2).1
      have e : (mulL Q.row R'.row).getD (i + j) 0 = (Q * R).co (i + j) * b := by
        rw [← Pol.co_mul]
        have : Q * R' = Pol.C b * (Q * R) := by show Q * (Pol.C b * R) = _; grind
        rw [this]
        have : Pol.C (b : Rat) * (Q * R) = Pol.of (scaleL b (Q * R).row) := Pol.ext fun x => by rw [Pol.ev_mul, Pol.ev_C, Pol.ev_of, ev_scaleL]; rfl
        rw [this, Pol.co_of, scaleL_getD, Rat.mul_comm]; rfl
      rw [e] at h
      have h2 : Dv p ((Q * R).co (i + j) * b) := Dv.mul2 (hP _) ⟨c, by rw [q2, ← Int.natCast_mul]; rfl⟩
      have h3 : Dv p (Q.co i * R'.co j) := by
        have := h2.sub h
        rwa [show (Q * R).co (i + j) * b - ((Q * R).co (i + j) * b - Q.row.getD i 0 * R'.row.getD j 0) = Q.row.getD i 0 * R'.row.getD j 0 by grind] at this
      obtain ⟨y, hy⟩ := hQ i
      obtain ⟨z, hz⟩ := hR' j
      rw [hy, hz, ← Rat.intCast_mul, Dv_of, Int.natAbs_mul] at h3
      rw [hy, Dv_of] at i1
      rw [hz, Dv_of] at j1
      exact (prime_mul q3 h3).elim i1 j1
    refine ih c hcb R hc hP fun i => ?_
    obtain ⟨z, hz⟩ := hall i
    rw [coR, q2, Rat.natCast_mul, Rat.intCast_mul] at hz
    have hp0 : (p : Rat) ≠ 0 := fun e => by
      have : ((p : Nat) : Rat) = ((0 : Nat) : Rat) := e
      have := Rat.natCast_inj.mp this
      omega
    refine ⟨z, ?_⟩
    have : (p : Rat) * (R.co i * c) = p * z := by
      have e : ((p : Int) : Rat) = ((p : Nat) : Rat) := Rat.intCast_natCast p
      rw [e] at hz
      grind
    have h5 := congrArg (fun t => (p : Rat)⁻¹ * t) this
    simp only [← Rat.mul_assoc, Rat.inv_mul_cancel _ hp0, Rat.one_mul] at h5
    exact h5
end SW
set_option exponentiation.threshold 256
set_option maxRecDepth 512
set_option maxHeartbeats 200000
namespace SW
open Lean.Grind
theorem Pol.co_Cmul (c : Rat) (p : Pol) (i : Nat) : (Pol.C c * p).co i = c * p.co i := by
  have : Pol.C c * p = Pol.of (scaleL c p.row) := Pol.ext fun x => by rw [Pol.ev_mul, Pol.ev_C, Pol.ev_of, ev_scaleL]; rfl
  rw [this, Pol.co_of, scaleL_getD]; rfl
theorem natc_ne {p : Nat} (h : 0 < p) : (p : Rat) ≠ 0 := fun e => by
  have : ((p : Nat) : Rat) = ((0 : Nat) : Rat) := e
  have := Rat.natCast_inj.mp this
  omega
theorem mul_den (a : Rat) : a * a.den = a.num := by
  have e := Rat.num_divInt_den a
  rw [Rat.divInt_eq_div, Rat.intCast_natCast] at e
  have h := Rat.mul_inv_cancel _ (natc_ne a.den_pos)
  rw [Rat.div_def] at e
  have : a * a.den = a.num * (a.den : Rat)⁻¹ * a.den := by rw [e]
  rw [this, Rat.mul_assoc, Rat.mul_comm _ (a.den : Rat), h, Rat.mul_one]
theorem den_ex : ∀ l : Cf, ∃ b : Nat, 0 < b ∧ ∀ i, Iz (l.getD i 0 * b)
  | [] => ⟨1, by decide, fun i => ⟨0, by simp⟩⟩
  | a :: l => by
    obtain ⟨b, h1, h2⟩ := den_ex l
    have ha : Iz (a * a.den) := ⟨a.num, mul_den a⟩
    refine ⟨a.den * b, Nat.mul_pos a.den_pos h1, fun i => ?_⟩
    have m : ∀ {p q : Rat}, Iz p → Iz q → Iz (p * q) := fun ⟨y, e1⟩ ⟨z, e2⟩ => ⟨y * z, by rw [e1, e2, Rat.intCast_mul]⟩
    cases i with
    | zero =>
      have := m ha ⟨(b : Int), rfl⟩
      rw [Rat.natCast_mul]
      simp only [List.getD_cons_zero]
      rw [← Rat.mul_assoc]; exact this
    | succ i =>
      have := m (h2 i) ⟨(a.den : Int), rfl⟩
      rw [Rat.natCast_mul]
      simp only [List.getD_cons_succ]
      rw [Rat.mul_comm (a.den : Rat), ← Rat.mul_assoc]; exact this
theorem Iz.mul {p q : Rat} (h1 : Iz p) (h2 : Iz q) : Iz (p * q) := by
  obtain ⟨y, e1⟩ := h1
  obtain ⟨z, e2⟩ := h2
  exact ⟨y * z, by rw [e1, e2, Rat.intCast_mul]⟩
theorem prim_Z : ∀ (n : Nat) (p : Pol), p.Z → p ≠ 0 → (∀ z : Int, p.lc = z → z.natAbs ≤ n) → ∃ (c : Rat) (q : Pol), c ≠ 0 ∧ p = Pol.C c * q ∧ q.Z ∧ q.Pr := fun n => by
  induction n using Nat.strongRecOn with
  | ind n ih =>
    intro p hz h0 hn
    by_cases hp : p.Pr
    · exact ⟨1, p, by grind, by rw [Pol.C_one]; grind, hz, hp⟩
    have : ∃ e : Nat, 1 < e ∧ ∀ i, Dv e (p.co i) := by
      refine Classical.byContradiction fun z => hp fun e he => Classical.byContradiction fun y => z ⟨e, he, fun i => Classical.byContradiction fun w => y ⟨i, w⟩⟩
    obtain ⟨e, he, hd⟩ := this
    have e0 := natc_ne (p := e) (by omega)
    let q := Pol.C (e : Rat)⁻¹ * p
    have hpq : p = Pol.C (e : Rat) * q := by have := Pol.C_inv e0; show p = Pol.C (e : Rat) * (Pol.C (e : Rat)⁻¹ * p); grind
    have hqz : q.Z := fun i => by
      obtain ⟨z, h⟩ := hd i
      refine ⟨z, ?_⟩
      show (Pol.C (e : Rat)⁻¹ * p).co i = z
      rw [Pol.co_Cmul, h, Rat.intCast_mul, show ((e : Int) : Rat) = (e : Rat) from Rat.intCast_natCast e, ← Rat.mul_assoc, Rat.inv_mul_cancel _ e0, Rat.one_mul]
    have hq0 : q ≠ 0 := fun z => h0 (by rw [hpq, z]; grind)
    obtain ⟨y, hy⟩ := hqz (q.len - 1)
    have hy : q.lc = y := hy
    have hy0 : y ≠ 0 := fun z => Pol.lc_ne hq0 (by rw [hy, z]; rfl)
    have hlc : p.lc = ((e : Int) * y : Int) := by rw [hpq, Pol.lc_mul, Pol.lc_C, hy, Rat.intCast_mul, Rat.intCast_natCast]
    have h1 := hn _ hlc
    rw [Int.natAbs_mul, Int.natAbs_natCast] at h1
    have h2 : y.natAbs < n := by
      have : 0 < y.natAbs := by omega
      have := Nat.mul_lt_mul_of_pos_right he this
      omega
    obtain ⟨c, r, c1, c2, c3, c4⟩ := ih y.natAbs h2 q hqz hq0 fun z hz => by
      have : z = y := Rat.intCast_inj.mp (by rw [← hz, hy])
      omega
    exact ⟨e * c, r, fun z => (Rat.mul_eq_zero.mp z).elim e0 c1, by rw [hpq, ← Pol.C_mul, c2]; grind, c3, c4⟩
theorem prim_ex {p : Pol} (h0 : p ≠ 0) : ∃ (c : Rat) (q : Pol), c ≠ 0 ∧ p = Pol.C c * q ∧ q.Z ∧ q.Pr := by
  obtain ⟨b, h1, h2⟩ := den_ex p.row
  have b0 := natc_ne h1
  have hz : (Pol.C (b : Rat) * p).Z := fun i => by rw [Pol.co_Cmul, Rat.mul_comm]; exact h2 i
  have hn : Pol.C (b : Rat) * p ≠ 0 := Pol.mul_ne (fun z => by have := congrArg Pol.lc z; rw [Pol.lc_C] at this; exact b0 (by rw [this]; unfold Pol.lc; rw [Pol.co_zero])) h0
  obtain ⟨y, hy⟩ := hz ((Pol.C (b : Rat) * p).len - 1)
  have hy : (Pol.C (b : Rat) * p).lc = y := hy
  obtain ⟨c, q, c1, c2, c3, c4⟩ := prim_Z y.natAbs _ hz hn fun z hz => by
    have : z = y := Rat.intCast_inj.mp (by rw [← hz, hy])
    omega
  refine ⟨(b : Rat)⁻¹ * c, q, fun z => (Rat.mul_eq_zero.mp z).elim (fun z => ?_) c1, ?_, c3, c4⟩
  · have := Rat.mul_inv_cancel _ b0; rw [z] at this; grind
  · have := Pol.C_inv b0
    rw [← Pol.C_mul]; grind
theorem Pol.ints {B : Nat} {q : Pol} (h : Hq 1 B q) : ∃ f : Nat → Int, (∀ i, q.co i = f i) ∧ ∀ i, (f i).natAbs ≤ B := by
  have : ∀ i, ∃ z : Int, q.co i = z ∧ z.natAbs ≤ B := fun i => by
    obtain ⟨z, h1, h2⟩ := h i
    exact ⟨z, by rw [← h1]; simp, h2⟩
  exact ⟨fun i => (this i).choose, fun i => (this i).choose_spec.1, fun i => (this i).choose_spec.2⟩
/-- the denominators of lowest terms -/
theorem kappa {N D n d : Pol} {H : Nat} (hN : N.Z) (hD : Hq 1 H D) (hD0 : D ≠ 0) (hc : Can n d) (e : n * D = N * d) : ∃ (z : Int) (k : Pol), z ≠ 0 ∧ z.natAbs ≤ H ∧ k.Z ∧ (Pol.C (z : Rat) * n).Z ∧ (Pol.C (z : Rat) * d).Z ∧ D = (Pol.C (z : Rat) * d) * k ∧ N = (Pol.C (z : Rat) * n) * k := by
  obtain ⟨u, v, huv⟩ := hc.c
  let k := u * N + v * D
  have hDk : D = d * k := by show D = d * (u * N + v * D); grind
  have hk0 : k ≠ 0 := fun z => hD0 (by rw [hDk, z]; grind)
  have hNk : N = n * k := Pol.cancel hc.ne (by grind)
  obtain ⟨c, k', c1, c2, c3, c4⟩ := prim_ex hk0
  have gz : ∀ {q A : Pol}, A.Z → A = k' * q → q.Z := fun {q A} hA e => by
    obtain ⟨b, b1, b2⟩ := den_ex q.row
    exact gauss c3 c4 b q b1 (e ▸ hA) b2
  have hd : (Pol.C c * d).Z := gz hD.z (by rw [hDk, c2]; grind)
  have hn : (Pol.C c * n).Z := gz hN (by rw [hNk, c2]; grind)
  obtain ⟨z, hz⟩ := hd ((Pol.C c * d).len - 1)
  have hz : (Pol.C c * d).lc = z := hz
  rw [Pol.lc_mul, Pol.lc_C, hc.m, Rat.mul_one] at hz
  have hz0 : z ≠ 0 := fun h => c1 (by rw [hz, h]; rfl)
  refine ⟨z, k', hz0, ?_, c3, hz ▸ hn, hz ▸ hd, by rw [← hz, hDk, c2]; grind, by rw [← hz, hNk, c2]; grind⟩
  obtain ⟨y, hy⟩ := c3 (k'.len - 1)
  have hy : k'.lc = y := hy
  obtain ⟨x, hx, hb⟩ := hD (D.len - 1)
  have hx : D.lc = x := by
    have : D.lc * ((1 : Nat) : Rat) = x := hx
    rw [← this]; simp
  have h3 : D.lc = z * y := by rw [hDk, Pol.lc_mul, hc.m, c2, Pol.lc_mul, Pol.lc_C, hy, hz]; grind
  have h4 : x = z * y := Rat.intCast_inj.mp (by rw [← hx, h3, Rat.intCast_mul])
  have hx0 : x ≠ 0 := fun e => Pol.lc_ne hD0 (by rw [hx, e]; rfl)
  have hy0 : y ≠ 0 := fun e => hx0 (by rw [h4, e]; simp)
  rw [h4, Int.natAbs_mul] at hb
  exact Nat.le_trans (Nat.le_mul_of_pos_right _ (by omega)) hb
theorem synth_co (c : Rat) : ∀ (p : Cf) (i : Nat), p.getD i 0 = (if i = 0 then ev p c else (synth p c).getD (i - 1) 0) - c * (synth p c).getD i 0
  | [], i => by simp [synth, ev_nil]; grind
  | [a], i => by
    cases i with
    | zero => simp [synth, ev_cons, ev_nil]; grind
    | succ i => simp [synth]; grind
  | a :: b :: r, i => by
    have ih := synth_co c (b :: r)
    have e : synth (a :: b :: r) c = ev (b :: r) c :: synth (b :: r) c := rfl
    rw [e]
    cases i with
    | zero => simp [ev_cons]; grind
    | succ i =>
      have := ih i
      rw [if_neg (by omega), show i + 1 - 1 = i by omega]
      simp only [List.getD_cons_succ]
      rw [this]
      cases i with
      | zero => simp
      | succ i => simp
theorem Ib.nat {R c : Nat} (h : c ≤ R) : Ib R (c : Rat) := ⟨(c : Int), by rw [Rat.intCast_natCast], by omega⟩
theorem ev_Ib {B R : Nat} {c : Nat} (hc : c ≤ R) : ∀ (p : Cf), (∀ i, Ib B (p.getD i 0)) → Ib (B * (R + 1) ^ p.length) (ev p c)
  | [], _ => Ib.zero
  | a :: r, h => by
    have ih := ev_Ib hc r fun i => by have := h (i + 1); simpa using this
    have ha : Ib B a := by simpa using h 0
    rw [ev_cons]
    refine (ha.add ((Ib.nat hc).mul ih)).mono ?_
    rw [List.length_cons, Nat.pow_succ]
    have h1 : B ≤ B * (R + 1) ^ r.length := Nat.le_mul_of_pos_right _ (Nat.pow_pos (by omega))
    have h2 : B * ((R + 1) ^ r.length * (R + 1)) = R * (B * (R + 1) ^ r.length) + B * (R + 1) ^ r.length := by grind
    omega
theorem Iz.ib {q : Rat} (h : Iz q) : ∃ B, Ib B q := by obtain ⟨z, hz⟩ := h; exact ⟨_, z, hz, Nat.le_refl _⟩
theorem ev_Iz {c : Nat} (p : Cf) (h : ∀ i, Iz (p.getD i 0)) : Iz (ev p c) := by
  induction p with
  | nil => exact ⟨0, rfl⟩
  | cons a r ih =>
    have h1 := ih fun i => by have := h (i + 1); simpa using this
    have ha : Iz a := by simpa using h 0
    rw [ev_cons]
    obtain ⟨y, hy⟩ := ha
    obtain ⟨z, hz⟩ := h1
    exact ⟨y + c * z, by rw [hy, hz, Rat.intCast_add, Rat.intCast_mul, Rat.intCast_natCast]⟩
theorem synth_Iz {c : Nat} : ∀ (p : Cf), (∀ i, Iz (p.getD i 0)) → ∀ i, Iz ((synth p c).getD i 0)
  | [], _, i => ⟨0, by simp [synth]⟩
  | [a], _, i => ⟨0, by simp [synth]⟩
  | a :: b :: r, h, i => by
    have h' : ∀ i, Iz ((b :: r).getD i 0) := fun i => by have := h (i + 1); simpa using this
    have e : synth (a :: b :: r) c = ev (b :: r) c :: synth (b :: r) c := rfl
    rw [e]
    cases i with
    | zero => simpa using ev_Iz (b :: r) h'
    | succ i => have := synth_Iz (c := c) (b :: r) h' i; simpa using this
theorem coef_bound {R : Nat} : ∀ (n : Nat) (p : Cf) (l : List Nat) (V : Nat), (∀ i, Iz (p.getD i 0)) → p.length ≤ n → l.length = n → l.Nodup → (∀ c ∈ l, c ≤ R) → (∀ c ∈ l, Ib V (ev p (c : Nat))) → ∀ i, Ib (V * (2 * R + 4) ^ n) (p.getD i 0)
  | 0, p, _, V, _, hp, _, _, _, _, i => by
    have : p = [] := List.length_eq_zero_iff.mp (by omega)
    subst this
    simp; exact Ib.zero
  | n + 1, p, [], V, _, _, hl, _, _, _, _ => by simp at hl
  | n + 1, p, c :: l, V, hz, hp, hl, nd, hR, hv, i => by
    have hc := hv c List.mem_cons_self
    have hcR := hR c List.mem_cons_self
    have nd' := List.nodup_cons.mp nd
    have hs := coef_bound n (synth p c) l (2 * V) (synth_Iz p hz) (by
      cases p with
      | nil => simp [synth]
      | cons a r => rw [synth_len]; simp at hp; exact hp) (by simpa using hl) nd'.2 (fun d hd => hR d (List.mem_cons_of_mem _ hd)) fun d hd => by
        have hd' := hv d (List.mem_cons_of_mem _ hd)
        obtain ⟨y, hy, by1⟩ := hc
        obtain ⟨x, hx, bx⟩ := hd'
        obtain ⟨w, hw⟩ := ev_Iz (c := d) (synth p c) (synth_Iz p hz)
        refine ⟨w, hw, ?_⟩
        have e := synth_ev p c d
        rw [hx, hy, hw] at e
        have e2 : x = y + ((d : Int) - (c : Int)) * w := Rat.intCast_inj.mp (by rw [Rat.intCast_add, Rat.intCast_mul, Rat.intCast_sub, Rat.intCast_natCast, Rat.intCast_natCast]; exact e)
        have hne : d ≠ c := fun z => nd'.1 (z ▸ hd)
        have e3 : (((d : Int) - c) * w).natAbs ≤ 2 * V := by
          have : ((d : Int) - c) * w = x - y := by omega
          rw [this]; omega
        rw [Int.natAbs_mul] at e3
        exact Nat.le_trans (Nat.le_mul_of_pos_left _ (by omega)) e3
    rw [synth_co c p i]
    have h1 : Ib (V + 2 * V * (2 * R + 4) ^ n) (if i = 0 then ev p c else (synth p c).getD (i - 1) 0) := by
      split
      · exact hc.mono (by omega)
      · exact (hs _).mono (by omega)
    have h2 : Ib (R * (2 * V * (2 * R + 4) ^ n)) (c * (synth p c).getD i 0) := (Ib.nat hcR).mul (hs i)
    have h3 := h1.add h2.neg
    rw [Rat.sub_eq_add_neg]
    refine h3.mono ?_
    rw [Nat.pow_succ]
    have h4 : V ≤ V * (2 * R + 4) ^ n := Nat.le_mul_of_pos_right _ (Nat.pow_pos (by omega))
    have h5 : V * ((2 * R + 4) ^ n * (2 * R + 4)) = 2 * V * (2 * R + 4) ^ n + R * (2 * V * (2 * R + 4) ^ n) + 2 * (V * (2 * R + 4) ^ n) := by grind
    omega
theorem points (F : Pol) (h : F ≠ 0) (k : Nat) : ∃ l l' : List Nat, l.Nodup ∧ l'.Nodup ∧ l.length + l'.length = k ∧ (∀ c ∈ l, c < k ∧ F.ev c ≠ 0) ∧ (∀ c ∈ l', c < k ∧ F.ev c = 0) := by
  induction k with
  | zero => exact ⟨[], [], by simp, by simp, rfl, by simp, by simp⟩
  | succ k ih =>
    obtain ⟨l, l', h1, h2, h3, h4, h5⟩ := ih
    by_cases hk : F.ev k = 0
    · refine ⟨l, k :: l', h1, List.nodup_cons.mpr ⟨fun z => by have := (h5 _ z).1; omega, h2⟩, by simp; omega, fun c hc => ⟨by have := (h4 c hc).1; omega, (h4 c hc).2⟩, fun c hc => ?_⟩
      rcases List.mem_cons.mp hc with e | hc
      · subst e; exact ⟨by omega, hk⟩
      · exact ⟨by have := (h5 c hc).1; omega, (h5 c hc).2⟩
    · refine ⟨k :: l, l', List.nodup_cons.mpr ⟨fun z => by have := (h4 _ z).1; omega, h1⟩, h2, by simp; omega, fun c hc => ?_, fun c hc => ⟨by have := (h5 c hc).1; omega, (h5 c hc).2⟩⟩
      rcases List.mem_cons.mp hc with e | hc
      · subst e; exact ⟨by omega, hk⟩
      · exact ⟨by have := (h4 c hc).1; omega, (h4 c hc).2⟩
def kro (m H : Nat) : Nat := H * (2 * m + 1) ^ m * (2 * (2 * m) + 4) ^ m
theorem pow_le1 {a n m : Nat} (h : n ≤ m) (ha : 0 < a) : a ^ n ≤ a ^ m := Nat.pow_le_pow_right ha h
theorem factor_bound {F A B : Pol} {m H : Nat} (hF : Hq 1 H F) (h0 : F ≠ 0) (lF : F.len ≤ m) (lA : A.len ≤ m) (hA : A.Z) (hB : B.Z) (e : F = A * B) : Hq 1 (kro m H) A := by
  obtain ⟨l, l', n1, n2, h3, h4, h5⟩ := points F h0 (2 * m)
  have hl' : l'.length < F.len := by
    refine Classical.byContradiction fun z => h0 ?_
    refine (F.eq_zero_iff).mpr (F.ok.zer ?_)
    refine zer_of_roots F.len F.row (l'.map fun c => ((c : Nat) : Rat)) (Nat.le_refl _) (by rw [List.length_map]; omega) ?_ fun c hc => ?_
    · exact List.pairwise_map.mpr (n2.imp fun {a b} h e => h (Rat.natCast_inj.mp e))
    · obtain ⟨d, hd, rfl⟩ := List.mem_map.mp hc
      exact (h5 d hd).2
  have hm : A.len ≤ l.length := by omega
  have key := coef_bound (R := 2 * m) A.len A.row (l.take A.len) (H * (2 * m + 1) ^ m) (fun i => hA i) (Nat.le_refl _) (by rw [List.length_take]; omega) (n1.sublist (List.take_sublist _ _)) (fun c hc => by have := (h4 c (List.mem_of_mem_take hc)).1; omega) fun c hc => by
    have hc' := h4 c (List.mem_of_mem_take hc)
    obtain ⟨y, hy⟩ := ev_Iz (c := c) A.row hA
    obtain ⟨z, hz⟩ := ev_Iz (c := c) B.row hB
    obtain ⟨f, f1, f2⟩ := Pol.ints hF
    obtain ⟨x, hx, bx⟩ := ev_Ib (B := H) (R := 2 * m) (c := c) (by omega) F.row fun i => ⟨f i, f1 i, f2 i⟩
    have e1 : F.ev c = A.ev c * B.ev c := by rw [e]; simp
    have hx : F.ev c = x := hx
    have hy' : A.ev c = y := hy
    have hz : B.ev c = z := hz
    have e2 : x = y * z := Rat.intCast_inj.mp (by rw [Rat.intCast_mul, ← hx, ← hy', ← hz]; exact e1)
    have hx0 : x ≠ 0 := fun w => hc'.2 (by rw [hx, w]; rfl)
    have hz0 : z ≠ 0 := fun w => hx0 (by rw [e2, w]; simp)
    refine ⟨y, hy, ?_⟩
    rw [e2, Int.natAbs_mul] at bx
    exact Nat.le_trans (Nat.le_trans (Nat.le_mul_of_pos_right _ (by omega)) bx) (Nat.mul_le_mul_left _ (pow_le1 lF (by omega)))
  intro i
  have := key i
  refine Ib.mono (B := kro m H) (A := H * (2 * m + 1) ^ m * (2 * (2 * m) + 4) ^ A.len) (by rw [show ((1 : Nat) : Rat) = 1 from rfl, Rat.mul_one]; exact this) ?_
  exact Nat.mul_le_mul_left _ (pow_le1 lA (by omega))
def pofs (x : Nat → Int) : Nat → Pol
  | 0 => 0
  | a + 1 => pofs x a + Pol.mon (x a) a
theorem co_pofs (x : Nat → Int) (a i : Nat) : (pofs x a).co i = if i < a then (x i : Rat) else 0 := by
  induction a with
  | zero => simp [pofs]
  | succ a ih =>
    rw [pofs, Pol.co_add, ih, Pol.co_mon]
    by_cases h1 : i < a
    · rw [if_pos h1, if_neg (by omega), if_pos (by omega)]; grind
    · by_cases h2 : i = a
      · subst h2; rw [if_neg h1, if_pos rfl, if_pos (by omega)]; grind
      · rw [if_neg h1, if_neg h2, if_neg (by omega)]; grind
theorem mulL_mon (c : Rat) (q : Cf) : ∀ (n j : Nat), (mulL (List.replicate n 0 ++ [c]) q).getD j 0 = if n ≤ j then c * q.getD (j - n) 0 else 0
  | 0, j => by
    rw [show List.replicate 0 (0 : Rat) ++ [c] = [c] from rfl, mulL_cons_getD]
    simp [mulL]; grind
  | n + 1, j => by
    rw [show List.replicate (n + 1) (0 : Rat) ++ [c] = 0 :: (List.replicate n 0 ++ [c]) from rfl, mulL_cons_getD]
    cases j with
    | zero => simp; grind
    | succ j =>
      rw [if_neg (by omega), show j + 1 - 1 = j by omega, mulL_mon c q n j]
      by_cases h : n ≤ j
      · rw [if_pos h, if_pos (by omega), show j + 1 - (n + 1) = j - n by omega]; grind
      · rw [if_neg h, if_neg (by omega)]; grind
theorem Pol.mon_mul (c : Rat) (n : Nat) (q : Pol) (j : Nat) : (Pol.mon c n * q).co j = if n ≤ j then c * q.co (j - n) else 0 := by
  have : Pol.mon c n * q = Pol.of (mulL (List.replicate n 0 ++ [c]) q.row) := Pol.ext fun x => by rw [Pol.ev_mul, Pol.mon, Pol.ev_of, Pol.ev_of, ev_mulL]; rfl
  rw [this, Pol.co_of, mulL_mon]; rfl
theorem conv {f : Nat → Int} {q : Pol} (hf : ∀ i, q.co i = f i) (x : Nat → Int) (a j : Nat) : (pofs x a * q).co j = (sm a fun i => if i ≤ j then f (j - i) * x i else 0 : Int) := by
  induction a with
  | zero => rw [show pofs x 0 * q = 0 from Semiring.zero_mul q, Pol.co_zero]; rfl
  | succ a ih =>
    rw [pofs, show (pofs x a + Pol.mon (x a) a) * q = pofs x a * q + Pol.mon (x a) a * q by grind, Pol.co_add, ih, Pol.mon_mul]
    simp only [sm]
    rw [Rat.intCast_add]
    congr 1
    by_cases h : a ≤ j
    · rw [if_pos h, if_pos h, hf, Rat.intCast_mul, Rat.mul_comm]
    · rw [if_neg h, if_neg h]; rfl
theorem sm_split (a b : Nat) (f : Nat → Int) : sm (a + b) f = sm a f + sm b fun i => f (a + i) := by
  induction b with
  | zero => simp [sm]
  | succ b ih => rw [← Nat.add_assoc]; simp only [sm, ih]; omega
theorem siegP {f g : Pol} {H : Nat} (hf : Hq 1 H f) (hg : Hq 1 H g) (a b J : Nat) (h0 : 0 < a + b) : ∃ P Q : Pol, (P ≠ 0 ∨ Q ≠ 0) ∧ P.len ≤ a ∧ Q.len ≤ b ∧ Hq 1 ((2 * (a + b) * (H + 1)) ^ (a + b - 1)) P ∧ Hq 1 ((2 * (a + b) * (H + 1)) ^ (a + b - 1)) Q ∧ ∀ j, J ≤ j → j < J + (a + b - 1) → (P * f + Q * g).co j = 0 := by
  obtain ⟨F, f1, f2⟩ := Pol.ints hf
  obtain ⟨G, g1, g2⟩ := Pol.ints hg
  obtain ⟨x, ⟨i0, hi0, hx0⟩, hx, he⟩ := siegel (a + b) (a + b - 1) H (by omega) (fun j i => if i < a then (if i ≤ J + j then F (J + j - i) else 0) else (if i - a ≤ J + j then G (J + j - (i - a)) else 0)) (fun j i _ _ => by
    show (if i < a then (if i ≤ J + j then F (J + j - i) else 0) else (if i - a ≤ J + j then G (J + j - (i - a)) else 0)).natAbs ≤ H
    split
    · split
      · exact f2 _
      · simp
    · split
      · exact g2 _
      · simp)
  have hlen : ∀ (y : Nat → Int) n, (pofs y n).len ≤ n := fun y n => Pol.len_le fun i hi => by rw [co_pofs, if_neg (by omega)]
  have hH : ∀ (y : Nat → Int) n, (∀ i, (y i).natAbs ≤ (2 * (a + b) * (H + 1)) ^ (a + b - 1)) → Hq 1 ((2 * (a + b) * (H + 1)) ^ (a + b - 1)) (pofs y n) := fun y n hy i => by
    rw [co_pofs]
    by_cases h : i < n
    · rw [if_pos h]; exact ⟨y i, by simp, hy i⟩
    · rw [if_neg h, Rat.zero_mul]; exact Ib.zero
  refine ⟨pofs x a, pofs (fun i => x (a + i)) b, ?_, hlen _ _, hlen _ _, hH _ _ hx, hH _ _ fun i => hx _, fun j hj hj2 => ?_⟩
  · refine Classical.byContradiction fun z => ?_
    have z1 : pofs x a = 0 := Classical.byContradiction fun h => z (.inl h)
    have z2 : pofs (fun i => x (a + i)) b = 0 := Classical.byContradiction fun h => z (.inr h)
    by_cases h : i0 < a
    · have := congrArg (fun p => Pol.co p i0) z1
      simp only [co_pofs, if_pos h, Pol.co_zero] at this
      exact hx0 (Rat.intCast_inj.mp this)
    · have := congrArg (fun p => Pol.co p (i0 - a)) z2
      simp only [co_pofs, Pol.co_zero] at this
      rw [if_pos (by omega), show a + (i0 - a) = i0 by omega] at this
      exact hx0 (Rat.intCast_inj.mp this)
  · have h1 := he (j - J) (by omega)
    rw [show J + (j - J) = j by omega, sm_split] at h1
    rw [Pol.co_add, conv f1, conv g1, ← Rat.intCast_add]
    have e1 : (sm a fun i => if i ≤ j then F (j - i) * x i else 0) = sm a fun i => (if i < a then (if i ≤ j then F (j - i) else 0) else (if i - a ≤ j then G (j - (i - a)) else 0)) * x i := sm_congr fun i hi => by
      rw [if_pos hi]; split <;> simp
    have e2 : (sm b fun i => if i ≤ j then G (j - i) * x (a + i) else 0) = sm b fun i => (if a + i < a then (if a + i ≤ j then F (j - (a + i)) else 0) else (if a + i - a ≤ j then G (j - (a + i - a)) else 0)) * x (a + i) := sm_congr fun i hi => by
      have e0 : ¬ a + i < a := by omega
      rw [if_neg e0, show a + i - a = i by omega]; split <;> simp
    rw [e1, e2, h1]; rfl
end SW
set_option exponentiation.threshold 256
set_option maxRecDepth 512
set_option maxHeartbeats 200000
namespace SW
open Lean.Grind
theorem prim_int {p : Pol} {r : Rat} (hz : p.Z) (hp : p.Pr) (h : ∀ i, Iz (r * p.co i)) : Iz r := by
  by_cases h1 : r.den = 1
  · have := mul_den r
    rw [h1] at this
    exact ⟨r.num, by rw [← this]; simp⟩
  have h2 := r.den_pos
  obtain ⟨i, hi⟩ := hp r.den (by omega)
  refine absurd ?_ hi
  obtain ⟨z, e1⟩ := hz i
  obtain ⟨y, e2⟩ := h i
  rw [e1] at e2 ⊢
  rw [Dv_of]
  have e3 : ((r.num * z : Int) : Rat) = ((y * r.den : Int) : Rat) := by
    rw [Rat.intCast_mul, Rat.intCast_mul, ← mul_den r, ← e2, Rat.intCast_natCast]; grind
  have e4 := congrArg Int.natAbs (Rat.intCast_inj.mp e3)
  rw [Int.natAbs_mul, Int.natAbs_mul, Int.natAbs_natCast] at e4
  exact Nat.Coprime.dvd_of_dvd_mul_left (Nat.Coprime.symm r.reduced) (e4 ▸ Nat.dvd_mul_left _ _)
theorem prim_bound {p : Pol} {r : Rat} {B : Nat} (hz : p.Z) (hp : p.Pr) (h0 : r ≠ 0) (h : ∀ i, Ib B (r * p.co i)) : Hq 1 B p := by
  obtain ⟨z, hr⟩ := prim_int hz hp fun i => by obtain ⟨z, e, _⟩ := h i; exact ⟨z, e⟩
  have z0 : z ≠ 0 := fun e => h0 (by rw [hr, e]; rfl)
  intro i
  obtain ⟨y, hy⟩ := hz i
  obtain ⟨x, e, hb⟩ := h i
  refine ⟨y, by rw [hy]; simp, ?_⟩
  rw [hr, hy, ← Rat.intCast_mul] at e
  have := Rat.intCast_inj.mp e
  rw [← this, Int.natAbs_mul] at hb
  exact Nat.le_trans (Nat.le_mul_of_pos_left _ (by omega)) hb
theorem Pol.len_Cmul_le (a : Rat) (p : Pol) : (Pol.C a * p).len ≤ p.len := Pol.len_le fun i hi => by rw [Pol.co_Cmul, Pol.co_ge p hi, Rat.mul_zero]
theorem Pol.C_of_len {p : Pol} (h : p.len ≤ 1) : p = Pol.C (p.co 0) := Pol.ext_co fun i => by
  rw [Pol.co_C]
  by_cases hi : i = 0
  · rw [if_pos hi, hi]
  · rw [if_neg hi, Pol.co_ge p (by omega)]
theorem Hq.pos {H : Nat} {D : Pol} (h : Hq 1 H D) (h0 : D ≠ 0) : 0 < H := by
  obtain ⟨f, f1, f2⟩ := Pol.ints h
  refine Nat.pos_of_ne_zero fun z => Pol.lc_ne h0 ?_
  have := f2 (D.len - 1)
  have e : f (D.len - 1) = 0 := by omega
  show D.co (D.len - 1) = 0
  rw [f1, e]; rfl
/-- the height of lowest terms -/
def redS (m H : Nat) : Nat := (2 * (2 * m) * (H + 1)) ^ (2 * m)
theorem redS_pos {m H : Nat} (h : 0 < m) : 0 < redS m H := Nat.pow_pos (Nat.mul_pos (by omega) (by omega))
theorem sieg_mono {c m H : Nat} (h : c ≤ 2 * m) (h0 : 0 < c) : (2 * c * (H + 1)) ^ (c - 1) ≤ redS m H := by
  refine Nat.le_trans (Nat.pow_le_pow_left (Nat.mul_le_mul_right _ (Nat.mul_le_mul_left 2 h)) _) (Nat.pow_le_pow_right (Nat.mul_pos (by omega) (by omega)) (by omega))
theorem red_bound {N D n d : Pol} {m H : Nat} (hN : Hq 1 H N) (hD : Hq 1 H D) (lN : N.len ≤ m) (lD : D.len ≤ m) (hD0 : D ≠ 0) (hc : Can n d) (e : n * D = N * d) : ∃ L, 0 < L ∧ L ≤ H ∧ Hq L (kro m H) n ∧ Hq L (kro m H) d ∧ n.len ≤ m ∧ d.len ≤ m := by
  obtain ⟨z, k, z0, z1, k0, k1, k2, k3, k4⟩ := kappa hN.z hD hD0 hc e
  have zr : (z : Rat) ≠ 0 := fun w => z0 (Rat.intCast_inj.mp w)
  have hk0 : k ≠ 0 := fun w => hD0 (by rw [k3, w]; grind)
  have lk := Pol.len_pos hk0
  have hC : ∀ {q : Pol}, (Pol.C (z : Rat) * q).len = q.len := fun {q} => by
    refine Nat.le_antisymm (Pol.len_Cmul_le _ _) (Pol.len_le fun i hi => ?_)
    have := Pol.co_ge _ hi
    rw [Pol.co_Cmul] at this
    exact (Rat.mul_eq_zero.mp this).resolve_left zr
  have fin : ∀ {F q : Pol}, Hq 1 H F → F.len ≤ m → (Pol.C (z : Rat) * q).Z → F = (Pol.C (z : Rat) * q) * k → Hq z.natAbs (kro m H) q ∧ q.len ≤ m := fun {F q} hF lF hq e => by
    by_cases q0 : q = 0
    · subst q0
      refine ⟨fun i => by rw [Pol.co_zero, Rat.zero_mul]; exact Ib.zero, by rw [(Pol.len_zero_iff 0).mpr rfl]; omega⟩
    have hA : Pol.C (z : Rat) * q ≠ 0 := fun w => by
      have := Pol.len_pos q0
      rw [← hC, w, (Pol.len_zero_iff 0).mpr rfl] at this
      omega
    have hF0 : F ≠ 0 := by rw [e]; exact Pol.mul_ne hA hk0
    have hl := Pol.len_mul hA hk0
    rw [← e, hC] at hl
    have hlq : q.len ≤ m := by omega
    have hb := factor_bound hF hF0 lF (by rw [hC]; exact hlq) hq k0 e
    refine ⟨fun i => ?_, hlq⟩
    have := hb i
    rw [Pol.co_Cmul] at this
    rw [show ((1 : Nat) : Rat) = 1 from rfl, Rat.mul_one] at this
    by_cases hs : 0 ≤ z
    · have e1 : ((z.natAbs : Nat) : Rat) = z := by
        have : ((z.natAbs : Nat) : Int) = z := by omega
        rw [← Rat.intCast_natCast, this]
      rw [e1, Rat.mul_comm]; exact this
    · have e1 : ((z.natAbs : Nat) : Rat) = -z := by
        have : ((z.natAbs : Nat) : Int) = -z := by omega
        rw [← Rat.intCast_natCast, this, Rat.intCast_neg]
      rw [e1]
      have h2 := this.neg
      rwa [show q.co i * -(z : Rat) = -((z : Rat) * q.co i) by grind]
  have a1 := fin hN lN k1 k4
  have a2 := fin hD lD k2 k3
  exact ⟨z.natAbs, by omega, z1, a1.1, a2.1, a1.2, a2.2⟩
structure Cof (f g r s u v u' v' : Pol) (c : Rat) : Prop where
  er : r = u * f + v * g
  es : s = u' * f + v' * g
  c0 : c ≠ 0
  dt : u * v' - u' * v = Pol.C c
  l1 : u.len ≤ g.len + 1 - s.len
  l2 : v.len ≤ f.len + 1 - s.len
  l3 : u'.len ≤ g.len + 1 - r.len
  l4 : v'.len ≤ f.len + 1 - r.len
theorem Pol.len_one : (1 : Pol).len ≤ 1 := by
  rw [show (1 : Pol) = Pol.C 1 from Pol.C_one.symm]
  exact Pol.len_le fun i hi => by rw [Pol.co_C, if_neg (by omega)]
theorem cof0 (f g : Pol) : Cof f g f g 1 0 0 1 1 := by
  have h1 := Pol.len_one
  have h0 := (Pol.len_zero_iff 0).mpr rfl
  exact ⟨by grind, by grind, by grind, by rw [Pol.C_one]; grind, by omega, by omega, by omega, by omega⟩
theorem Cof.next {f g r s u v u' v' : Pol} {c a : Rat} {Q t : Pol} (h : Cof f g r s u v u' v' c) (ha : a ≠ 0) (hQ : Q.len ≤ r.len + 1 - s.len) (ht : t = Pol.C a * r - Q * s) (hl : t.len ≤ r.len) : Cof f g s t u' v' (Pol.C a * u - Q * u') (Pol.C a * v - Q * v') (-(a * c)) := by
  have hlen : ∀ {x x' : Pol} {n : Nat}, x.len ≤ n + 1 - s.len → x'.len ≤ n + 1 - r.len → (Pol.C a * x - Q * x').len ≤ n + 1 - s.len := fun {x x' n} h1 h2 => by
    refine Nat.le_trans (Pol.len_sub_le _ _) ?_
    have h3 := Pol.len_Cmul_le a x
    have h4 : (Q * x').len ≤ n + 1 - s.len := by
      by_cases q0 : Q = 0
      · rw [q0, show (0 : Pol) * x' = 0 by grind, (Pol.len_zero_iff 0).mpr rfl]; omega
      by_cases x0 : x' = 0
      · rw [x0, show Q * (0 : Pol) = 0 by grind, (Pol.len_zero_iff 0).mpr rfl]; omega
      have := Pol.len_pos q0
      have := Pol.len_pos x0
      have := Pol.len_mul q0 x0
      omega
    omega
  refine ⟨h.es, ?_, fun z => ?_, ?_, Nat.le_trans h.l3 (by omega), Nat.le_trans h.l4 (by omega), hlen h.l1 h.l3, hlen h.l2 h.l4⟩
  · rw [ht, h.er, h.es]; grind
  · have : a * c = 0 := by grind
    exact (Rat.mul_eq_zero.mp this).elim ha h.c0
  · have : Pol.C (-(a * c)) = -(Pol.C a * Pol.C c) := Pol.ext fun x => by simp
    rw [this, ← h.dt]; grind
theorem Cof.gcd {f g r u v u' v' : Pol} {c : Rat} (h : Cof f g r 0 u v u' v' c) : ∃ a b, f = a * r ∧ g = b * r := by
  have hi := Pol.C_inv h.c0
  have hr := h.er
  have hs := h.es
  have hd := h.dt
  refine ⟨Pol.C c⁻¹ * v', -(Pol.C c⁻¹ * u'), ?_, ?_⟩
  · have : Pol.C c * f = v' * r := by rw [← hd, hr]; grind
    have : Pol.C c⁻¹ * (Pol.C c * f) = Pol.C c⁻¹ * (v' * r) := by rw [this]
    grind
  · have : Pol.C c * g = -(u' * r) := by rw [← hd, hr]; grind
    have : Pol.C c⁻¹ * (Pol.C c * g) = Pol.C c⁻¹ * -(u' * r) := by rw [this]
    grind
/-- the height of remainders -/
def remS (m H : Nat) : Nat := 2 * m * (redS m H * H)
theorem Cof.bound {f g r s u v u' v' : Pol} {c : Rat} {m H : Nat} (h : Cof f g r s u v u' v' c) (hf : Hq 1 H f) (hg : Hq 1 H g) (lf : f.len ≤ m) (lg : g.len ≤ m) (hs0 : s ≠ 0) (hz : s.Z) (hp : s.Pr) (l1 : s.len < f.len) (l2 : s.len < g.len) (l3 : s.len < r.len) : Hq 1 (remS m H) s := by
  have ls := Pol.len_pos hs0
  obtain ⟨P, Q, p0, p1, p2, p3, p4, p5⟩ := siegP hf hg (g.len - s.len) (f.len - s.len) s.len (by omega)
  have hf0 : f ≠ 0 := fun z => by rw [z, (Pol.len_zero_iff 0).mpr rfl] at l1; omega
  let w := P * f + Q * g
  have hw : w.len ≤ s.len := Pol.len_le fun j hj => by
    by_cases h2 : j < s.len + (g.len - s.len + (f.len - s.len) - 1)
    · exact p5 j hj h2
    · refine Pol.co_ge _ (Nat.le_trans (Pol.len_add_le _ _) ?_)
      have h3 := Pol.len_mul_le P f
      have h4 := Pol.len_mul_le Q g
      omega
  have key : P * v' - u' * Q = 0 := by
    refine Classical.byContradiction fun z => ?_
    have e1 : w * v' - s * Q = f * (P * v' - u' * Q) := by
      show (P * f + Q * g) * v' - s * Q = _
      rw [h.es]; grind
    have h3 := Pol.len_mul hf0 z
    have h4 := Pol.len_pos z
    rw [← e1] at h3
    have h5 := Pol.len_sub_le (w * v') (s * Q)
    have h6 : (w * v').len ≤ f.len - 1 := by
      by_cases v0 : v' = 0
      · rw [v0, show w * (0 : Pol) = 0 by grind, (Pol.len_zero_iff 0).mpr rfl]; omega
      have := Pol.len_pos v0
      have := Pol.len_mul_le w v'
      have := h.l4
      omega
    have h7 := Pol.len_mul_le s Q
    omega
  let b := u * Q - v * P
  have hd := h.dt
  have hP : Pol.C c * P = u' * b := by show Pol.C c * P = u' * (u * Q - v * P); rw [← hd]; grind
  have hQ : Pol.C c * Q = v' * b := by show Pol.C c * Q = v' * (u * Q - v * P); rw [← hd]; grind
  have hi := Pol.C_inv h.c0
  have hb0 : b ≠ 0 := fun z => by
    rw [z] at hP hQ
    have e1 : P = 0 := by
      have : Pol.C c⁻¹ * (Pol.C c * P) = Pol.C c⁻¹ * (u' * 0) := by rw [hP]
      grind
    have e2 : Q = 0 := by
      have : Pol.C c⁻¹ * (Pol.C c * Q) = Pol.C c⁻¹ * (v' * 0) := by rw [hQ]
      grind
    exact p0.elim (fun z => z e1) fun z => z e2
  have hwb : Pol.C c * w = b * s := by
    show Pol.C c * (P * f + Q * g) = _
    have : Pol.C c * (P * f + Q * g) = (Pol.C c * P) * f + (Pol.C c * Q) * g := by grind
    rw [this, hP, hQ, h.es]; grind
  have lb : b.len ≤ 1 := by
    have h1 := Pol.len_mul hb0 hs0
    have h2 := Pol.len_Cmul_le c w
    rw [← hwb] at h1
    omega
  have eb := Pol.C_of_len lb
  have hb1 : b.co 0 ≠ 0 := fun z => hb0 (by rw [eb, z]; exact Pol.ext fun x => by simp)
  have hci : c⁻¹ ≠ 0 := fun z => by have := Rat.mul_inv_cancel _ h.c0; rw [z] at this; grind
  have hww : w = Pol.C (c⁻¹ * b.co 0) * s := by
    have : Pol.C c⁻¹ * (Pol.C c * w) = Pol.C c⁻¹ * (b * s) := by rw [hwb]
    rw [← Pol.C_mul, ← eb]
    grind
  have hwH : Hq 1 (remS m H) w := by
    have a1 := p3.mul hf
    have a2 := p4.mul hg
    refine (a1.add a2).mono ?_
    have hS : (2 * (g.len - s.len + (f.len - s.len)) * (H + 1)) ^ (g.len - s.len + (f.len - s.len) - 1) ≤ redS m H := sieg_mono (by omega) (by omega)
    have h1 : P.len * ((2 * (g.len - s.len + (f.len - s.len)) * (H + 1)) ^ (g.len - s.len + (f.len - s.len) - 1) * H) ≤ m * (redS m H * H) := Nat.mul_le_mul (by omega) (Nat.mul_le_mul_right _ hS)
    have h2 : Q.len * ((2 * (g.len - s.len + (f.len - s.len)) * (H + 1)) ^ (g.len - s.len + (f.len - s.len) - 1) * H) ≤ m * (redS m H * H) := Nat.mul_le_mul (by omega) (Nat.mul_le_mul_right _ hS)
    unfold remS
    have : 2 * m * (redS m H * H) = m * (redS m H * H) + m * (redS m H * H) := by grind
    omega
  exact prim_bound (r := c⁻¹ * b.co 0) hz hp (fun z => (Rat.mul_eq_zero.mp z).elim hci hb1) fun i => by
    have := hwH i
    rw [hww, Pol.co_Cmul] at this
    simpa using this
end SW
set_option exponentiation.threshold 256
set_option maxRecDepth 100000
set_option maxHeartbeats 1000000
namespace SL
open PySem PySem.Spec PyProof.Rows L2

/-- a property of a value in a heap that stays when the heap grows -/
structure Ty where
  p : V → Hp → Prop
  mono : ∀ {v : V} {H H' : Hp}, Same H H' → p v H → p v H'
abbrev Cxt := List (Option Ty)
def OKc (Γ : Cxt) (σ : L2.St) (H : Hp) : Prop :=
  σ.length = Γ.length ∧ ∀ (i : Nat) (R : Ty), Γ[i]? = some (some R) → ∃ v, σ[i]? = some (some v) ∧ R.p v H
theorem OKc.up {Γ : Cxt} {σ : L2.St} {H H' : Hp} (h : OKc Γ σ H) (e : Same H H') : OKc Γ σ H' :=
  ⟨h.1, fun i R hi => let ⟨v, a, b⟩ := h.2 i R hi; ⟨v, a, R.mono e b⟩⟩
theorem OKc.put {Γ : Cxt} {σ : L2.St} {H : Hp} {R : Ty} {v : V} (h : OKc Γ σ H) (i : Nat) (hv : R.p v H) : OKc (Γ.set i (some R)) (σ.set i (some v)) H := by
  refine ⟨by rw [List.length_set, List.length_set]; exact h.1, fun j S hj => ?_⟩
  by_cases e : i = j
  · subst e
    have hl : i < Γ.length := by
      have := (List.getElem?_eq_some_iff.mp hj).1
      rwa [List.length_set] at this
    rw [List.getElem?_set_self hl] at hj
    cases hj
    exact ⟨v, List.getElem?_set_self (by rw [h.1]; exact hl), hv⟩
  · rw [List.getElem?_set_ne e] at hj ⊢
    exact h.2 j S hj
/-- the same but for what the lists at m hold -/
def SameM (m : List Addr) (H H' : Hp) : Prop := ∀ a o, H a = some o → H' a = some o ∨ (a ∈ m ∧ ∃ xs ys, o = .lst xs ∧ H' a = some (.lst ys))
theorem _root_.L2.Same.m {m : List Addr} {H H' : Hp} (h : Same H H') : SameM m H H' := fun a o e => .inl (h a o e)
theorem SameM.refl {m : List Addr} (H : Hp) : SameM m H H := fun a o e => .inl e
theorem SameM.nil {H H' : Hp} (h : SameM [] H H') : Same H H' := fun a o e => by
  rcases h a o e with x | ⟨x, _⟩
  · exact x
  · cases x
theorem SameM.trans {m : List Addr} {H H1 H2 : Hp} (h : SameM m H H1) (g : SameM m H1 H2) : SameM m H H2 := fun a o e => by
  rcases h a o e with x | ⟨x, xs, ys, e1, e2⟩
  · exact g a o x
  · rcases g a _ e2 with z | ⟨_, us, vs, e3, e4⟩
    · exact .inr ⟨x, xs, ys, e1, z⟩
    · exact .inr ⟨x, xs, vs, e1, e4⟩
theorem SameM.mono {m m' : List Addr} {H H' : Hp} (h : SameM m H H') (l : ∀ a ∈ m, a ∈ m') : SameM m' H H' := fun a o e => by
  rcases h a o e with x | ⟨x, r⟩
  · exact .inl x
  · exact .inr ⟨l a x, r⟩
/-- what was new is forgotten -/
theorem SameM.drop {m : List Addr} {D : Addr} {H H1 H2 : Hp} (h : SameM (D :: m) H1 H2) (g : SameM m H H1) (n : H D = none) : SameM m H H2 := fun a o e => by
  have ne : a ≠ D := fun z => by rw [z, n] at e; cases e
  rcases g a o e with x | ⟨x, xs, ys, e1, e2⟩
  · rcases h a o x with y | ⟨y, r⟩
    · exact .inl y
    · exact .inr ⟨(List.mem_cons.mp y).resolve_left ne, r⟩
  · rcases h a _ e2 with z | ⟨_, us, vs, e3, e4⟩
    · exact .inr ⟨x, xs, ys, e1, z⟩
    · exact .inr ⟨x, xs, vs, e1, e4⟩
theorem SameM.put {m : List Addr} {D : Addr} {H : Hp} {xs ys : List V} (h : H D = some (.lst xs)) (l : D ∈ m) : SameM m H (upd H D (.lst ys)) := fun a o e => by
  by_cases z : a = D
  · subst z
    rw [h] at e
    cases e
    exact .inr ⟨l, xs, ys, rfl, upd_same⟩
  · exact .inl (by rw [upd_ne z]; exact e)
/-- stays when such lists change -/
def Stb (m : List Addr) (R : Ty) : Prop := ∀ v H H', SameM m H H' → R.p v H → R.p v H'
def Sol (R : Ty) : Prop := ∀ m, Stb m R
def StbC (m : List Addr) (Γ : Cxt) : Prop := ∀ R, some R ∈ Γ → Stb m R
theorem OKc.stb {m : List Addr} {Γ : Cxt} {σ : L2.St} {H H' : Hp} (h : OKc Γ σ H) (g : StbC m Γ) (e : SameM m H H') : OKc Γ σ H' :=
  ⟨h.1, fun i R hi => let ⟨v, a, b⟩ := h.2 i R hi; ⟨v, a, g R (List.mem_of_getElem? hi) v H H' e b⟩⟩
/-- the weaker knows less -/
def Sub (Γ Δ : Cxt) : Prop := Γ.length = Δ.length ∧ ∀ (i : Nat) (R : Ty), Δ[i]? = some (some R) → ∃ S, Γ[i]? = some (some S) ∧ ∀ v H, S.p v H → R.p v H
theorem Sub.refl (Γ : Cxt) : Sub Γ Γ := ⟨rfl, fun _ R h => ⟨R, h, fun _ _ x => x⟩⟩
theorem OKc.sub {Γ Δ : Cxt} {σ : L2.St} {H : Hp} (h : OKc Γ σ H) (s : Sub Γ Δ) : OKc Δ σ H :=
  ⟨h.1.trans s.1, fun i R hi => let ⟨S, a, b⟩ := s.2 i R hi; let ⟨v, c, d⟩ := h.2 i S a; ⟨v, c, b _ _ d⟩⟩

section
variable {X : Cx}
/-- the weakest readings -/
def wE (X : Cx) (e : Expr) : TE := fun σ H Q => ∀ pins s, Inv X pins σ H s → wpAny (model X.prog X.w) X.A (eval e X.env) (EP X pins σ Q) X.xe s
def wT (X : Cx) (e : Expr) : TT := fun σ H Q => ∀ pins s, Inv X pins σ H s → wpAny (model X.prog X.w) X.A (isTrue e X.env (eval e X.env)) (TP X pins σ Q) X.xe s
def wA (X : Cx) (es : List Expr) : TA := fun σ H Q => ∀ pos pins s, Inv X pins σ H s → wpAny (model X.prog X.w) X.A (spliced (backTo pos (starEach es X.env))) (AP X pins σ Q) X.xe s
def wS (X : Cx) (st : Stmt) : TS := fun D σ H => ∀ pins s, Inv X pins σ H s → wpAny (model X.prog X.w) X.A (exec st X.env) (SP X pins D) X.xe s
def wB (X : Cx) (sts : List Stmt) : TS := fun D σ H => ∀ pins s, Inv X pins σ H s → wpAny (model X.prog X.w) X.A (execs sts X.env) (SP X pins D) X.xe s
theorem pe_w {e : Expr} : PE X e (wE X e) := ⟨fun pins s _ _ _ I h => h pins s I⟩
theorem pt_w {e : Expr} : PT X e (wT X e) := ⟨fun pins s _ _ _ I h => h pins s I⟩
theorem pa_w {es : List Expr} : PA X es (wA X es) := ⟨fun pos pins s _ _ _ I h => h pos pins s I⟩
theorem ps_w {st : Stmt} : PS X st (wS X st) := ⟨fun pins s _ _ _ I h => h pins s I⟩
theorem pb_w {sts : List Stmt} : PSs X sts (wB X sts) := ⟨fun pins s _ _ _ I h => h pins s I⟩
theorem wE_of {e : Expr} {t : TE} (h : PE X e t) {σ : L2.St} {H : Hp} {Q : VK} (q : t σ H Q) : wE X e σ H Q := fun pins s I => h.run pins s σ H Q I q
theorem wT_of {e : Expr} {t : TT} (h : PT X e t) {σ : L2.St} {H : Hp} {Q : Bool → Hp → Prop} (q : t σ H Q) : wT X e σ H Q := fun pins s I => h.run pins s σ H Q I q
theorem wA_of {es : List Expr} {t : TA} (h : PA X es t) {σ : L2.St} {H : Hp} {Q : List V → Hp → Prop} (q : t σ H Q) : wA X es σ H Q := fun pos pins s I => h.run pos pins s σ H Q I q
theorem wS_of {st : Stmt} {t : TS} (h : PS X st t) {σ : L2.St} {H : Hp} {D : Ends} (q : t D σ H) : wS X st D σ H := fun pins s I => h.run pins s σ H D I q
theorem wB_of {sts : List Stmt} {t : TS} (h : PSs X sts t) {σ : L2.St} {H : Hp} {D : Ends} (q : t D σ H) : wB X sts D σ H := fun pins s I => h.run pins s σ H D I q
theorem wE_imp {e : Expr} {σ : L2.St} {H : Hp} {Q Q' : VK} (h : wE X e σ H Q) (k : ∀ v H1, Q v H1 → Q' v H1) : wE X e σ H Q' :=
  fun pins s I => thn (h pins s I) fun _ _ ⟨v, H', a, b, c⟩ => ⟨v, H', a, b, k v H' c⟩
theorem wT_imp {e : Expr} {σ : L2.St} {H : Hp} {Q Q' : Bool → Hp → Prop} (h : wT X e σ H Q) (k : ∀ v H1, Q v H1 → Q' v H1) : wT X e σ H Q' :=
  fun pins s I => thn (h pins s I) fun _ _ ⟨H', a, c⟩ => ⟨H', a, k _ H' c⟩
theorem wA_imp {e : List Expr} {σ : L2.St} {H : Hp} {Q Q' : List V → Hp → Prop} (h : wA X e σ H Q) (k : ∀ v H1, Q v H1 → Q' v H1) : wA X e σ H Q' :=
  fun pos pins s I => thn (h pos pins s I) fun _ _ ⟨v, H', a, b, c⟩ => ⟨v, H', a, b, k v H' c⟩

/-- the expression gives an R and nothing is lost -/
def ET (X : Cx) (Γ : Cxt) (e : Expr) (R : Ty) : Prop := ∀ σ H, OKc Γ σ H → wE X e σ H fun v H' => Same H H' ∧ R.p v H'
/-- the test's answer is b -/
def TT_ (X : Cx) (Γ : Cxt) (e : Expr) (b : Bool) : Prop := ∀ σ H, OKc Γ σ H → wT X e σ H fun c H' => Same H H' ∧ c = b
/-- values by properties -/
def TVs : List V → List Ty → Hp → Prop
  | [], [], _ => True
  | v :: vs, R :: Rs, H => R.p v H ∧ TVs vs Rs H
  | _, _, _ => False
theorem TVs.up : ∀ {vs : List V} {Rs : List Ty} {H H' : Hp}, Same H H' → TVs vs Rs H → TVs vs Rs H'
  | [], [], _, _, _, _ => trivial
  | _ :: _, R :: _, _, _, e, ⟨a, b⟩ => ⟨R.mono e a, TVs.up e b⟩
  | [], _ :: _, _, _, _, h => h.elim
  | _ :: _, [], _, _, _, h => h.elim
theorem TVs.len : ∀ {vs : List V} {Rs : List Ty} {H : Hp}, TVs vs Rs H → vs.length = Rs.length
  | [], [], _, _ => rfl
  | _ :: _, _ :: _, _, ⟨_, b⟩ => by rw [List.length_cons, List.length_cons, TVs.len b]
  | [], _ :: _, _, h => h.elim
  | _ :: _, [], _, h => h.elim
theorem TVs.get : ∀ {vs : List V} {Rs : List Ty} {H : Hp} {i : Nat} {R : Ty}, TVs vs Rs H → Rs[i]? = some R → ∃ v, vs[i]? = some v ∧ R.p v H
  | v :: _, R :: _, _, 0, _, ⟨a, _⟩, e => by cases e; exact ⟨v, rfl, a⟩
  | _ :: _, _ :: _, _, i + 1, _, ⟨_, b⟩, e => by
    obtain ⟨v, x, y⟩ := TVs.get (i := i) b (by simpa using e)
    exact ⟨v, by simpa using x, y⟩
  | [], [], _, _, _, _, e => by simp at e
  | [], _ :: _, _, _, _, h, _ => h.elim
  | _ :: _, [], _, _, _, h, _ => h.elim
theorem TVs.getV {vs : List V} {Rs : List Ty} {H : Hp} {i : Nat} {v : V} (h : TVs vs Rs H) (e : vs[i]? = some v) : ∃ R, Rs[i]? = some R ∧ R.p v H := by
  have hl : i < Rs.length := by rw [← h.len]; exact (List.getElem?_eq_some_iff.mp e).1
  obtain ⟨w, a, b⟩ := h.get (i := i) (R := Rs[i]) (List.getElem?_eq_getElem hl)
  rw [e] at a
  cases a
  exact ⟨_, List.getElem?_eq_getElem hl, b⟩
theorem TVs.app : ∀ {vs ws : List V} {Rs Ss : List Ty} {H : Hp}, TVs vs Rs H → TVs ws Ss H → TVs (vs ++ ws) (Rs ++ Ss) H
  | [], _, [], _, _, _, b => b
  | _ :: _, _, _ :: _, _, _, ⟨x, a⟩, b => ⟨x, TVs.app a b⟩
  | [], _, _ :: _, _, _, h, _ => h.elim
  | _ :: _, _, [], _, _, h, _ => h.elim
theorem TVs.drop : ∀ {vs : List V} {Rs : List Ty} {H : Hp} (n : Nat), TVs vs Rs H → TVs (vs.drop n) (Rs.drop n) H
  | _, _, _, 0, h => h
  | [], [], _, _ + 1, _ => trivial
  | _ :: _, _ :: _, _, n + 1, ⟨_, b⟩ => TVs.drop n b
  | [], _ :: _, _, _ + 1, h => h.elim
  | _ :: _, [], _, _ + 1, h => h.elim
theorem TVs.take : ∀ {vs : List V} {Rs : List Ty} {H : Hp} (n : Nat), TVs vs Rs H → TVs (vs.take n) (Rs.take n) H
  | _, _, _, 0, _ => trivial
  | [], [], _, _ + 1, _ => trivial
  | _ :: _, _ :: _, _, n + 1, ⟨a, b⟩ => ⟨a, TVs.take n b⟩
  | [], _ :: _, _, _ + 1, h => h.elim
  | _ :: _, [], _, _ + 1, h => h.elim
theorem TVs.put : ∀ {vs : List V} {Rs : List Ty} {H : Hp} {v : V} {R : Ty} (i : Nat), TVs vs Rs H → R.p v H → TVs (vs.set i v) (Rs.set i R) H
  | [], [], _, _, _, _, _, _ => trivial
  | _ :: _, _ :: _, _, _, _, 0, ⟨_, b⟩, c => ⟨c, b⟩
  | _ :: _, _ :: _, _, _, _, i + 1, ⟨a, b⟩, c => ⟨a, TVs.put i b c⟩
  | [], _ :: _, _, _, _, _, h, _ => h.elim
  | _ :: _, [], _, _, _, _, h, _ => h.elim
theorem TVs.imp {α : Type} (f : α → Ty) (g : α → Ty) {H : Hp} : ∀ {vs : List V} {xs : List α}, TVs vs (xs.map f) H → (∀ x ∈ xs, ∀ v, (f x).p v H → (g x).p v H) → TVs vs (xs.map g) H
  | [], [], _, _ => trivial
  | _ :: _, _ :: _, ⟨a, b⟩, k => ⟨k _ List.mem_cons_self _ a, TVs.imp f g b fun x hx => k x (List.mem_cons_of_mem _ hx)⟩
  | [], _ :: _, h, _ => h.elim
  | _ :: _, [], h, _ => h.elim
/-- the arguments give such values -/
def AT (X : Cx) (Γ : Cxt) (es : List Expr) (Rs : List Ty) : Prop := ∀ σ H, OKc Γ σ H → wA X es σ H fun vs H' => Same H H' ∧ TVs vs Rs H'

variable {Γ Δ : Cxt} {e a b c : Expr} {R S U : Ty} {pos : Pos}
theorem ET.use (h : ET X Γ e R) {σ : L2.St} {H : Hp} (ok : OKc Γ σ H) {Q : VK} (k : ∀ v H1, Same H H1 → OKc Γ σ H1 → R.p v H1 → Q v H1) : wE X e σ H Q :=
  wE_imp (h σ H ok) fun v H1 ⟨s, r⟩ => k v H1 s (ok.up s) r
theorem TT_.use {d : Bool} (h : TT_ X Γ e d) {σ : L2.St} {H : Hp} (ok : OKc Γ σ H) {Q : Bool → Hp → Prop} (k : ∀ H1, Same H H1 → OKc Γ σ H1 → Q d H1) : wT X e σ H Q :=
  wT_imp (h σ H ok) fun v H1 ⟨s, r⟩ => r ▸ k H1 s (ok.up s)
theorem AT.use {es : List Expr} {Rs : List Ty} (h : AT X Γ es Rs) {σ : L2.St} {H : Hp} (ok : OKc Γ σ H) {Q : List V → Hp → Prop} (k : ∀ vs H1, Same H H1 → OKc Γ σ H1 → TVs vs Rs H1 → Q vs H1) : wA X es σ H Q :=
  wA_imp (h σ H ok) fun v H1 ⟨s, r⟩ => k v H1 s (ok.up s) r
theorem ET.imp (h : ET X Γ e R) (k : ∀ v H, R.p v H → S.p v H) : ET X Γ e S := fun σ H ok => wE_imp (h σ H ok) fun v H1 ⟨s, r⟩ => ⟨s, k v H1 r⟩
theorem ET.sub (h : ET X Δ e R) (s : Sub Γ Δ) : ET X Γ e R := fun σ H ok => h σ H (ok.sub s)
theorem ET.cast (h : ET X Γ e R) (q : R = S) : ET X Γ e S := q ▸ h

def tI (n : Int) : Ty := ⟨fun v _ => v = .int n, fun _ h => h⟩
def tB (d : Bool) : Ty := ⟨fun v _ => v = .bl d, fun _ h => h⟩
def tN : Ty := ⟨fun v _ => v = .non, fun _ h => h⟩
def tX (z : Str) : Ty := ⟨fun v _ => v = .str z, fun _ h => h⟩
/-- a value that is known by name -/
def tV (w : V) : Ty := ⟨fun v _ => v = w, fun _ h => h⟩
def tAny : Ty := ⟨fun _ _ => True, fun _ _ => trivial⟩
theorem sqT_up {K : PySem.W.Frag} {H H' : Hp} {a : Addr} {xs : List V} (e : Same H H') (h : SqT K H a xs) : SqT K H' a xs := by
  rcases h with (h | ⟨o, h⟩) | h
  · exact .inl (.inl (e _ _ h))
  · exact .inl (.inr ⟨o, e _ _ h⟩)
  · exact .inr h
/-- a tuple, a list of such -/
def tT (K : PySem.W.Frag) (Rs : List Ty) : Ty := ⟨fun v H => ∃ a xs, v = .ref a ∧ SqT K H a xs ∧ TVs xs Rs H, fun e ⟨a, xs, h1, h2, h3⟩ => ⟨a, xs, h1, sqT_up e h2, h3.up e⟩⟩
def tL (K : PySem.W.Frag) (Rs : List Ty) : Ty := ⟨fun v H => ∃ a xs, v = .ref a ∧ SqL K H a xs ∧ TVs xs Rs H, fun e ⟨a, xs, h1, h2, h3⟩ => ⟨a, xs, h1, e.seq h2, h3.up e⟩⟩
/-- either -/
def tLT (K : PySem.W.Frag) (Rs : List Ty) : Ty := ⟨fun v H => ∃ a xs, v = .ref a ∧ (SqL K H a xs ∨ SqT K H a xs) ∧ TVs xs Rs H, fun e ⟨a, xs, h1, h2, h3⟩ => ⟨a, xs, h1, h2.imp e.seq (sqT_up e), h3.up e⟩⟩
theorem sol_I {n : Int} : Sol (tI n) := fun _ _ _ _ _ h => h
theorem sol_B {d : Bool} : Sol (tB d) := fun _ _ _ _ _ h => h
theorem sol_N : Sol tN := fun _ _ _ _ _ h => h
theorem sol_X {z : Str} : Sol (tX z) := fun _ _ _ _ _ h => h
theorem sol_V {w : V} : Sol (tV w) := fun _ _ _ _ _ h => h
theorem TVs.stb {m : List Addr} : ∀ {vs : List V} {Rs : List Ty} {H H' : Hp}, (∀ R ∈ Rs, Stb m R) → SameM m H H' → TVs vs Rs H → TVs vs Rs H'
  | [], [], _, _, _, _, _ => trivial
  | _ :: _, _ :: _, _, _, hs, e, ⟨a, b⟩ => ⟨hs _ List.mem_cons_self _ _ _ e a, TVs.stb (fun R hR => hs R (List.mem_cons_of_mem _ hR)) e b⟩
  | [], _ :: _, _, _, _, _, h => h.elim
  | _ :: _, [], _, _, _, _, h => h.elim
theorem sqT_m {K : PySem.W.Frag} {m : List Addr} {H H' : Hp} {a : Addr} {xs : List V} (e : SameM m H H') (h : SqT K H a xs) : SqT K H' a xs := by
  rcases h with (h | ⟨o, h⟩) | h
  · rcases e _ _ h with x | ⟨_, _, _, x, _⟩
    · exact .inl (.inl x)
    · cases x
  · rcases e _ _ h with x | ⟨_, _, _, x, _⟩
    · exact .inl (.inr ⟨o, x⟩)
    · cases x
  · exact .inr h
theorem stb_T {m : List Addr} {K : PySem.W.Frag} {Rs : List Ty} (hs : ∀ R ∈ Rs, Stb m R) : Stb m (tT K Rs) := fun v H H' e ⟨a, zs, ea, hq, r⟩ => ⟨a, zs, ea, sqT_m e hq, r.stb hs e⟩
theorem sol_T {K : PySem.W.Frag} {Rs : List Ty} (hs : ∀ R ∈ Rs, Sol R) : Sol (tT K Rs) := fun m => stb_T fun R h => hs R h m
/-- a list that is none of m -/
def tLn (m : List Addr) (Rs : List Ty) : Ty := ⟨fun v H => ∃ a xs, v = .ref a ∧ a ∉ m ∧ H a = some (.lst xs) ∧ TVs xs Rs H, fun e ⟨a, xs, h1, h, h2, h3⟩ => ⟨a, xs, h1, h, e _ _ h2, h3.up e⟩⟩
theorem stb_Ln {m : List Addr} {Rs : List Ty} (hs : ∀ R ∈ Rs, Stb m R) : Stb m (tLn m Rs) := fun v H H' e ⟨a, zs, ea, hn, hq, r⟩ => by
  refine ⟨a, zs, ea, hn, ?_, r.stb hs e⟩
  rcases e _ _ hq with x | ⟨x, _⟩
  · exact x
  · exact absurd x hn
/-- the list at D -/
def tD (D : Addr) (Rs : List Ty) : Ty := ⟨fun v H => v = .ref D ∧ ∃ xs, H D = some (.lst xs) ∧ TVs xs Rs H, fun e ⟨h1, xs, h2, h3⟩ => ⟨h1, xs, e _ _ h2, h3.up e⟩⟩
theorem tD_L {K : PySem.W.Frag} {D : Addr} {Rs : List Ty} (v : V) (H : Hp) (h : (tD D Rs).p v H) : (tL K Rs).p v H := let ⟨h1, xs, h2, h3⟩ := h; ⟨D, xs, h1, SqL.of h2, h3⟩
theorem tLn_L {m : List Addr} {K : PySem.W.Frag} {Rs : List Ty} (v : V) (H : Hp) (h : (tLn m Rs).p v H) : (tL K Rs).p v H := let ⟨a, xs, h1, _, h2, h3⟩ := h; ⟨a, xs, h1, SqL.of h2, h3⟩
theorem tLn_LT {m : List Addr} {K : PySem.W.Frag} {Rs : List Ty} (v : V) (H : Hp) (h : (tLn m Rs).p v H) : (tLT K Rs).p v H := let ⟨a, xs, h1, _, h2, h3⟩ := h; ⟨a, xs, h1, .inl (SqL.of h2), h3⟩
theorem tD_Ln {D : Addr} {Rs : List Ty} (v : V) (H : Hp) (h : (tD D Rs).p v H) : (tLn [] Rs).p v H := let ⟨h1, xs, h2, h3⟩ := h; ⟨D, xs, h1, by simp, h2, h3⟩
theorem tD_LT {K : PySem.W.Frag} {D : Addr} {Rs : List Ty} (v : V) (H : Hp) (h : (tD D Rs).p v H) : (tLT K Rs).p v H := let ⟨h1, xs, h2, h3⟩ := h; ⟨D, xs, h1, .inl (SqL.of h2), h3⟩
theorem tL_LT {K : PySem.W.Frag} {Rs : List Ty} (v : V) (H : Hp) (h : (tL K Rs).p v H) : (tLT K Rs).p v H := let ⟨a, xs, h1, h2, h3⟩ := h; ⟨a, xs, h1, .inl h2, h3⟩
theorem tT_LT {K : PySem.W.Frag} {Rs : List Ty} (v : V) (H : Hp) (h : (tT K Rs).p v H) : (tLT K Rs).p v H := let ⟨a, xs, h1, h2, h3⟩ := h; ⟨a, xs, h1, .inr h2, h3⟩

theorem et_var {i : Nat} {x : Str} (hN : X.N[i]? = some x) (hv : Vis X.env.scope x) (hΓ : Γ[i]? = some (some R)) (hd : (x == ("__debug__" : Str)) = false) (hcd : (x == ("__classdict__" : Str)) = false) : ET X Γ (.Name x pos) R :=
  fun σ H ok => let ⟨v, h1, h2⟩ := ok.2 i R hΓ; wE_of (pe_var hN hv hd hcd) ⟨v, h1, Same.refl H, h2⟩
theorem et_int {n : Int} {j} : ET X Γ (.Constant (.int n) j pos) (tI n) := fun σ H _ => wE_of pe_int ⟨Same.refl H, rfl⟩
theorem et_bl {d : Bool} {j} : ET X Γ (.Constant (.bool d) j pos) (tB d) := fun σ H _ => wE_of pe_bl ⟨Same.refl H, rfl⟩
theorem et_non {j} : ET X Γ (.Constant .none j pos) tN := fun σ H _ => wE_of pe_non ⟨Same.refl H, rfl⟩
theorem et_str {z : Str} {j} : ET X Γ (.Constant (.str z) j pos) (tX z) := fun σ H _ => wE_of pe_str ⟨Same.refl H, rfl⟩
theorem et_glob {x : Str} {v : V} {u : Value} (hg : Gl X x) (hm : X.mg x = some u) (r : RelV v u) (hd : (x == ("__debug__" : Str)) = false) : ET X Γ (.Name x pos) (tV v) := fun σ H _ => wE_of (pe_glob hg hm r hd) ⟨Same.refl H, rfl⟩

/-- the rule r makes of an R and an S a U -/
def R2T (r : R2) (R S U : Ty) : Prop := ∀ (x y : V) (H : Hp) (Q : VK), R.p x H → S.p y H → (∀ v H', Same H H' → U.p v H' → Q v H') → r x y H Q
def R1T (r : V → Hp → VK → Prop) (R U : Ty) : Prop := ∀ (x : V) (H : Hp) (Q : VK), R.p x H → (∀ v H', Same H H' → U.p v H' → Q v H') → r x H Q
def RnT (r : List V → Hp → VK → Prop) (Rs : List Ty) (U : Ty) : Prop := ∀ (xs : List V) (H : Hp) (Q : VK), TVs xs Rs H → (∀ v H', Same H H' → U.p v H' → Q v H') → r xs H Q
theorem bin_use (ha : ET X Γ a R) (hb : ET X Γ b S) {r : R2} (hr : R2T r R S U) {σ : L2.St} {H : Hp} (ok : OKc Γ σ H) {Q : VK} (k : ∀ v H1, Same H H1 → U.p v H1 → Q v H1) :
    tOp r (wE X a) (wE X b) σ H Q :=
  ha.use ok fun x H1 s1 ok1 rx => hb.use ok1 fun y H2 s2 _ ry => hr x y H2 Q (R.mono s2 rx) ry fun v H3 s3 u => k v H3 ((s1.trans s2).trans s3) u
theorem et_op {op : Operator} {r : R2} (ho : OpR X (binaryOp op) r) (ha : ET X Γ a R) (hb : ET X Γ b S) (hr : R2T r R S U) : ET X Γ (.BinOp a op b pos) U :=
  fun σ H ok => wE_of (pe_op ho pe_w pe_w) (bin_use ha hb hr ok fun _ _ s u => ⟨s, u⟩)
theorem et_un {op : UnaryOp} {r : V → Hp → VK → Prop} (ho : UnR X (unaryOp op) r) (ha : ET X Γ a R) (hr : R1T r R U) : ET X Γ (.UnaryOp op a pos) U :=
  fun σ H ok => wE_of (pe_un ho pe_w) (ha.use ok fun x H1 s1 _ rx => hr x H1 _ rx fun v H2 s2 u => ⟨s1.trans s2, u⟩)
theorem et_cmp {op : CmpOp} {r : R2} (ho : OpR X (compareOp op) r) (ha : ET X Γ a R) (hb : ET X Γ b S) (hr : R2T r R S U) (hm : behindInMarks op b = false) : ET X Γ (.Compare a [op] [b] pos) U :=
  fun σ H ok => wE_of (pe_cmpR ho pe_w pe_w hm) (bin_use ha hb hr ok fun _ _ s u => ⟨s, u⟩)
theorem et_ix {r : R2} (ho : IxR X r) (hs : PlainIx b) (ha : ET X Γ a R) (hb : ET X Γ b S) (hr : R2T r R S U) : ET X Γ (.Subscript a b pos) U :=
  fun σ H ok => wE_of (pe_ix ho pe_w pe_w hs) (bin_use ha hb hr ok fun _ _ s u => ⟨s, u⟩)

theorem r_I0 {g : Int → Int → Int} {i j : Int} : R2T (rI0 fun i j => .int (g i j)) (tI i) (tI j) (tI (g i j)) := fun _ _ H Q h1 h2 k => ⟨i, j, h1, h2, k _ H (Same.refl H) rfl⟩
theorem r_IC {C : Int → Int → Prop} {g : Int → Int → Int} {i j : Int} (hc : C i j) : R2T (rI C fun i j => .int (g i j)) (tI i) (tI j) (tI (g i j)) := fun _ _ H Q h1 h2 k => ⟨i, j, h1, h2, hc, k _ H (Same.refl H) rfl⟩
theorem r_Ib {g : Int → Int → Bool} {i j : Int} : R2T (rI0 fun i j => .bl (g i j)) (tI i) (tI j) (tB (g i j)) := fun _ _ H Q h1 h2 k => ⟨i, j, h1, h2, k _ H (Same.refl H) rfl⟩
theorem r_eqI {i j : Int} : R2T rEq (tI i) (tI j) (tB (decide (i = j))) := fun x y H Q h1 h2 k => by
  cases h1; cases h2
  refine ⟨rfl, ?_⟩
  have e : decide (V.int i = V.int j) = decide (i = j) := by simp
  rw [e]
  exact k _ H (Same.refl H) rfl
theorem r_neI {i j : Int} : R2T rNe (tI i) (tI j) (tB (!decide (i = j))) := fun x y H Q h1 h2 k => by
  cases h1; cases h2
  refine ⟨rfl, ?_⟩
  have e : decide (V.int i = V.int j) = decide (i = j) := by simp
  rw [e]
  exact k _ H (Same.refl H) rfl
theorem et_add {i j : Int} (ha : ET X Γ a (tI i)) (hb : ET X Γ b (tI j)) : ET X Γ (.BinOp a .Add b pos) (tI (i + j)) := et_op op_add ha hb (r_I0 (g := fun i j => i + j))
theorem et_sub {i j : Int} (ha : ET X Γ a (tI i)) (hb : ET X Γ b (tI j)) : ET X Γ (.BinOp a .Sub b pos) (tI (i - j)) := et_op op_sub ha hb (r_I0 (g := fun i j => i - j))
theorem et_neg {i : Int} (ha : ET X Γ a (tI i)) : ET X Γ (.UnaryOp .USub a pos) (tI (-i)) := et_un un_neg ha fun _ H _ h k => ⟨i, h, k _ H (Same.refl H) rfl⟩
theorem et_mulS {i j : Int} (h : CMul i j) (ha : ET X Γ a (tI i)) (hb : ET X Γ b (tI j)) : ET X Γ (.BinOp a .Mult b pos) (tI (i * j)) := et_op op_mul ha hb (r_IC (g := fun i j => i * j) h)

theorem tt_val {d : Bool} (he : ET X Γ e (tB d)) (hi : ∀ whole, isTrue e X.env whole = (do let v ← whole; standAt e.pos; holding [v] (truthy v)) := by intro _; rfl) : TT_ X Γ e d :=
  fun σ H ok => wT_of (pt_val pe_w hi) (he.use ok fun v H1 s _ r => ⟨d, r, s, rfl⟩)
theorem tt_cmp {op : CmpOp} {r : R2} {d : Bool} (ho : OpR X (compareOp op) r) (ha : ET X Γ a R) (hb : ET X Γ b S) (hr : R2T r R S (tB d)) (hm : behindInMarks op b = false) : TT_ X Γ (.Compare a [op] [b] pos) d :=
  fun σ H ok => wT_of (pt_cmpR ho pe_w pe_w hm) (bin_use ha hb hr ok fun v H1 s u => ⟨d, u, s, rfl⟩)
theorem tt_not {d : Bool} (h : TT_ X Γ a d) : TT_ X Γ (.UnaryOp .Not a pos) (!d) := fun σ H ok => wT_of (pt_not pt_w) (h.use ok fun H1 s _ => ⟨s, rfl⟩)
/-- an and, an or whatever its whole is -/
def wW (X : Cx) (e : Expr) : TT := fun σ H Q => ∀ whole pins s, Inv X pins σ H s → wpAny (model X.prog X.w) X.A (isTrue e X.env whole) (TP X pins σ Q) X.xe s
theorem pw_w {e : Expr} : PW X e (wW X e) := ⟨fun wh pins s _ _ _ I h => h wh pins s I⟩
theorem wW_of {e : Expr} {t : TT} (h : PW X e t) {σ : L2.St} {H : Hp} {Q : Bool → Hp → Prop} (q : t σ H Q) : wW X e σ H Q := fun wh pins s I => h.run wh pins s σ H Q I q
theorem wW_imp {e : Expr} {σ : L2.St} {H : Hp} {Q Q' : Bool → Hp → Prop} (h : wW X e σ H Q) (k : ∀ v H1, Q v H1 → Q' v H1) : wW X e σ H Q' :=
  fun wh pins s I => thn (h wh pins s I) fun _ _ ⟨H', a, c⟩ => ⟨H', a, k _ H' c⟩
def WT_ (X : Cx) (Γ : Cxt) (e : Expr) (b : Bool) : Prop := ∀ σ H, OKc Γ σ H → wW X e σ H fun c H' => Same H H' ∧ c = b
theorem WT_.use {d : Bool} (h : WT_ X Γ e d) {σ : L2.St} {H : Hp} (ok : OKc Γ σ H) {Q : Bool → Hp → Prop} (k : ∀ H1, Same H H1 → OKc Γ σ H1 → Q d H1) : wW X e σ H Q :=
  wW_imp (h σ H ok) fun v H1 ⟨s, r⟩ => r ▸ k H1 s (ok.up s)
theorem WT_.tt {d : Bool} (h : WT_ X Γ e d) : TT_ X Γ e d := fun σ H ok => wT_of pw_w.pt (h σ H ok)
theorem and_one {d : Bool} (h : TT_ X Γ a d) : WT_ X Γ (.BoolOp .And [a] pos) d := fun σ H ok => wW_of (pw_and1 pt_w) (h σ H ok)
theorem or_one {d : Bool} (h : TT_ X Γ a d) : WT_ X Γ (.BoolOp .Or [a] pos) d := fun σ H ok => wW_of (pw_or1 pt_w) (h σ H ok)
theorem and_ff {rest : List Expr} (h : TT_ X Γ a false) : WT_ X Γ (.BoolOp .And (a :: b :: rest) pos) false :=
  fun σ H ok => wW_of (pw_and pt_w pw_w) (h.use ok fun H1 s _ => iteF ⟨s, rfl⟩)
theorem and_tt {rest : List Expr} {d : Bool} (h : TT_ X Γ a true) (h2 : WT_ X Γ (.BoolOp .And (b :: rest) pos) d) : WT_ X Γ (.BoolOp .And (a :: b :: rest) pos) d :=
  fun σ H ok => wW_of (pw_and pt_w pw_w) (h.use ok fun H1 s ok1 => iteT (h2.use ok1 fun H2 s2 _ => ⟨s.trans s2, rfl⟩))
theorem or_tt {rest : List Expr} (h : TT_ X Γ a true) : WT_ X Γ (.BoolOp .Or (a :: b :: rest) pos) true :=
  fun σ H ok => wW_of (pw_or pt_w pw_w) (h.use ok fun H1 s _ => iteT ⟨s, rfl⟩)
theorem or_ff {rest : List Expr} {d : Bool} (h : TT_ X Γ a false) (h2 : WT_ X Γ (.BoolOp .Or (b :: rest) pos) d) : WT_ X Γ (.BoolOp .Or (a :: b :: rest) pos) d :=
  fun σ H ok => wW_of (pw_or pt_w pw_w) (h.use ok fun H1 s ok1 => iteF (h2.use ok1 fun H2 s2 _ => ⟨s.trans s2, rfl⟩))
theorem or2 {p q : Bool} (h : TT_ X Γ a p) (h2 : p = false → TT_ X Γ b q) : WT_ X Γ (.BoolOp .Or [a, b] pos) (p || q) := by
  cases p with
  | true => exact or_tt h
  | false => exact or_ff h (or_one (h2 rfl))
theorem and2 {p q : Bool} (h : TT_ X Γ a p) (h2 : p = true → TT_ X Γ b q) : WT_ X Γ (.BoolOp .And [a, b] pos) (p && q) := by
  cases p with
  | false => exact and_ff h
  | true => exact and_tt h (and_one (h2 rfl))
/-- as values -/
theorem et_one {op} (h : ET X Γ a R) : ET X Γ (.BoolOp op [a] pos) R := fun σ H ok => wE_of (pe_one pe_w) (h σ H ok)
theorem et_andF {rest : List Expr} (h : ET X Γ a (tB false)) : ET X Γ (.BoolOp .And (a :: b :: rest) pos) (tB false) :=
  fun σ H ok => wE_of (pe_and pe_w pe_w) (h.use ok fun v H1 s ok1 e => ⟨false, e, iteF ⟨s, rfl⟩⟩)
theorem et_andT {rest : List Expr} (h : ET X Γ a (tB true)) (h2 : ET X Γ (.BoolOp .And (b :: rest) pos) R) : ET X Γ (.BoolOp .And (a :: b :: rest) pos) R :=
  fun σ H ok => wE_of (pe_and pe_w pe_w) (h.use ok fun v H1 s ok1 e => ⟨true, e, iteT (h2.use ok1 fun w H2 s2 _ r => ⟨s.trans s2, r⟩)⟩)
theorem et_notV {d : Bool} (h : ET X Γ a (tB d)) : ET X Γ (.UnaryOp .Not a pos) (tB (!d)) :=
  fun σ H ok => wE_of (pe_not pe_w) (h.use ok fun v H1 s ok1 e => ⟨d, e, s, rfl⟩)
theorem et_ifT (h : TT_ X Γ c true) (h1 : ET X Γ a R) : ET X Γ (.IfExp c a b pos) R :=
  fun σ H ok => wE_of (pe_ifExp pt_w pe_w pe_w) (h.use ok fun H1 s ok1 => iteT (h1.use ok1 fun v H2 s2 _ r => ⟨s.trans s2, r⟩))
theorem et_ifF (h : TT_ X Γ c false) (h1 : ET X Γ b R) : ET X Γ (.IfExp c a b pos) R :=
  fun σ H ok => wE_of (pe_ifExp pt_w pe_w pe_w) (h.use ok fun H1 s ok1 => iteF (h1.use ok1 fun v H2 s2 _ r => ⟨s.trans s2, r⟩))

theorem et_fld {f : Str} (hb : attributeBase e f X.env (eval e X.env) = eval e X.env) (he : ET X Γ e R)
    (h : ∀ v H, R.p v H → ∃ a C dx fs u, v = .ref a ∧ H a = some (.ins C dx fs) ∧ Cls X.K C ∧ NoAttr X.K C f ∧ fs.lookup f = some u ∧ S.p u H) : ET X Γ (.Attribute e f pos) S :=
  fun σ H ok => wE_of (pe_fld pe_w hb) (he.use ok fun v H1 s _ r => let ⟨a, C, dx, fs, u, h1, h2, h3, h4, h5, h6⟩ := h v H1 r; ⟨a, C, dx, fs, u, h1, h2, h3, h4, h5, s, h6⟩)
theorem at_nil : AT X Γ [] [] := fun σ H _ => wA_of pa_nil ⟨Same.refl H, trivial⟩
theorem at_cons {es : List Expr} {Rs : List Ty} (h : ET X Γ e R) (hr : AT X Γ es Rs) (hs : starEach (e :: es) X.env = (false, eval e X.env) :: starEach es X.env) : AT X Γ (e :: es) (R :: Rs) :=
  fun σ H ok => wA_of (pa_cons pe_w pa_w hs) (h.use ok fun v H1 s ok1 r => hr.use ok1 fun vs H2 s2 _ rs => ⟨s.trans s2, R.mono s2 r, rs⟩)
theorem at_one (h : ET X Γ e R) (hs : starEach [e] X.env = (false, eval e X.env) :: starEach [] X.env := by rfl) : AT X Γ [e] [R] := at_cons h at_nil hs
theorem at_two (h : ET X Γ a R) (h2 : ET X Γ b S) (hs : starEach [a, b] X.env = (false, eval a X.env) :: starEach [b] X.env := by rfl) (hs2 : starEach [b] X.env = (false, eval b X.env) :: starEach [] X.env := by rfl) : AT X Γ [a, b] [R, S] := at_cons h (at_one h2 hs2) hs
/-- a built-in called by its name -/
theorem et_callB {x : Str} {p : Pos} {es : List Expr} {Rs : List Ty} {id : String} {r : List V → Hp → VK → Prop} (hc : CallR X (.builtin id) r) (hg : Gl X x) (hm : X.mg x = none) (hv : bootBuiltins x = some (.builtin id)) (ha : AT X Γ (e :: es) Rs) (hr : RnT r Rs U)
    (hn : x ≠ "__name__") (hdb : (x == ("__debug__" : Str)) = false) (he : starEach (e :: es) X.env = (false, eval e X.env) :: starEach es X.env) (hpl : (backTo pos (starEach es X.env)).any (·.1) = false) : ET X Γ (.Call (.Name x p) (e :: es) [] pos) U :=
  fun σ H ok => wE_of (pe_callB hc hg hm hv pa_w hn hdb he hpl) (ha.use ok fun vs H1 s _ rs => hr vs H1 _ rs fun v H2 s2 u => ⟨s.trans s2, u⟩)
theorem et_callM {x : Str} {p : Pos} {es : List Expr} {Rs : List Ty} {id : String} {r : List V → Hp → VK → Prop} (hc : CallR X (.builtin id) r) (hg : Gl X x) (hm : X.mg x = some (.builtin id)) (ha : AT X Γ (e :: es) Rs) (hr : RnT r Rs U)
    (hdb : (x == ("__debug__" : Str)) = false) (he : starEach (e :: es) X.env = (false, eval e X.env) :: starEach es X.env) (hpl : (backTo pos (starEach es X.env)).any (·.1) = false) : ET X Γ (.Call (.Name x p) (e :: es) [] pos) U :=
  fun σ H ok => wE_of (pe_callBfun hc hg hm pa_w hdb he hpl) (ha.use ok fun vs H1 s _ rs => hr vs H1 _ rs fun v H2 s2 u => ⟨s.trans s2, u⟩)
theorem et_callTy {x : Str} {p : Pos} {es : List Expr} {Rs : List Ty} {T : String} {r : List V → Hp → VK → Prop} (hc : CallR X (.type T) r) (hg : Gl X x) (hm : X.mg x = none) (hv : bootBuiltins x = some (.type T)) (ha : AT X Γ (e :: es) Rs) (hr : RnT r Rs U)
    (hn : x ≠ "__name__") (hdb : (x == ("__debug__" : Str)) = false) (he : starEach (e :: es) X.env = (false, eval e X.env) :: starEach es X.env) (hpl : (backTo pos (starEach es X.env)).any (·.1) = false) : ET X Γ (.Call (.Name x p) (e :: es) [] pos) U :=
  fun σ H ok => wE_of (pe_callTy hc hg hm hv pa_w hn hdb he hpl) (ha.use ok fun vs H1 s _ rs => hr vs H1 _ rs fun v H2 s2 u => ⟨s.trans s2, u⟩)
end

def spT (Rs : List Ty) (U : Ty) : Sp := fun vs H Q _ => TVs vs Rs H ∧ ∀ v H', Same H H' → U.p v H' → Q v H'
/-- a def at f, called with values for Rs (defaults filled up), at most k levels deep -/
def FnT (P : Program) (w : World) (K : PySem.W.Frag) (mg : Str → Option Value) (base : Heap) (k : Nat) (f : Addr) (sp : Sp) : Prop :=
  ∃ (fd : FuncData) (ps : List Str) (ds : List Value) (dvs : List V) (sp' : Sp), FnOk P w K mg base CX0 k f fd ps sp' ∧ Binds K fd ps ds ∧ Vals dvs ds ∧ ∀ vs H Q E, sp vs H Q E → sp' (vs ++ dvs) H Q E
theorem FnT.mono {P : Program} {w : World} {K : PySem.W.Frag} {mg : Str → Option Value} {base : Heap} {j k : Nat} {f : Addr} {sp : Sp} (h : FnT P w K mg base j f sp) (l : j ≤ k) : FnT P w K mg base k f sp :=
  let ⟨fd, ps, ds, dvs, sp', a, b, c, d⟩ := h; ⟨fd, ps, ds, dvs, sp', a.mono l, b, c, d⟩
section
variable {X : Cx} {Γ Δ : Cxt} {e a b c : Expr} {R S U : Ty} {pos : Pos} {k : Nat} {f C : Addr} {sp : Sp}
theorem run_T {pins : List (Addr × Obj)} {σ : L2.St} {H : Hp} {s : Shared} {Q : VK} {us : List Value} {vs : List V} (F : FnT X.prog X.w X.K X.mg X.base k f sp) (hr : Room k X.A) (I : Inv X pins σ H s) (r : Vals vs us) (h : sp vs H Q E0) :
    wpAny (model X.prog X.w) X.A (call (.ref f) us) (EP X pins σ Q) X.xe s :=
  let ⟨_, _, _, _, _, F1, hb, hd, hi⟩ := F
  run_fn F1 hr hb hd pass0 I r (hi _ _ _ _ h)
theorem et_call {x : Str} {p : Pos} {es : List Expr} {Rs : List Ty} (F : FnT X.prog X.w X.K X.mg X.base k f (spT Rs U)) (hr : Room k X.A) (hg : Gl X x) (hm : X.mg x = some (.ref f)) (hk : PySem.W.keepIn X.K (.ref f) = true) (ha : AT X Γ (e :: es) Rs)
    (hdb : (x == ("__debug__" : Str)) = false) (he : starEach (e :: es) X.env = (false, eval e X.env) :: starEach es X.env) (hpl : (backTo pos (starEach es X.env)).any (·.1) = false) : ET X Γ (.Call (.Name x p) (e :: es) [] pos) U := by
  obtain ⟨fd, ps, ds, dvs, sp', F1, hb, hd, hi⟩ := F
  exact fun σ H ok => wE_of (pe_call (E := E0) F1 hr hg hm hk hb hd pass0 pa_w hdb he hpl) (ha.use ok fun vs H1 s _ rs => hi _ _ _ _ ⟨rs, fun v H2 s2 u => ⟨s.trans s2, u⟩⟩)
theorem et_call0 {x : Str} {p : Pos} (F : FnT X.prog X.w X.K X.mg X.base k f (spT [] U)) (hr : Room k X.A) (hg : Gl X x) (hm : X.mg x = some (.ref f)) (hk : PySem.W.keepIn X.K (.ref f) = true)
    (hdb : (x == ("__debug__" : Str)) = false) : ET X Γ (.Call (.Name x p) [] [] pos) U := by
  obtain ⟨fd, ps, ds, dvs, sp', F1, hb, hd, hi⟩ := F
  exact fun σ H ok => wE_of (pe_call0 (E := E0) F1 hr hg hm hk hb hd pass0 hdb) (hi [] _ _ _ ⟨trivial, fun v H2 s2 u => ⟨s2, u⟩⟩)
/-- an instance of the class at C without an attribute m of its own -/
def InsNo (C : Addr) (m : Str) (R : Ty) : Prop := ∀ v H, R.p v H → ∃ a dx fs, v = .ref a ∧ H a = some (.ins C dx fs) ∧ fs.lookup m = none
theorem et_meth {m : Str} {apos : Pos} {es : List Expr} {Rs : List Ty} {pl : Sem Bool} (F : FnT X.prog X.w X.K X.mg X.base k f (spT (R :: Rs) U)) (cl : Cls X.K C) (hm : Meth X.K C m f) (hr : Room k X.A) (ho : ET X Γ a R) (hi : InsNo C m R) (ha : AT X Γ (e :: es) Rs)
    (hst : starEach (e :: es) X.env = (false, eval e X.env) :: starEach es X.env) (hpl : (backTo pos (starEach es X.env)).any (·.1) = false)
    (ht : eval (.Call (.Attribute a m apos) (e :: es) [] pos) X.env = (do
      let ov ← eval a X.env
      standAt apos.atName
      let (f, first) ← holding [ov] (getMethod ov m pl)
      callWith pos f first (backTo pos (starEach (e :: es) X.env)) (backToKw pos (keywordEach [] X.env)))) : ET X Γ (.Call (.Attribute a m apos) (e :: es) [] pos) U := by
  obtain ⟨fd, ps, ds, dvs, sp', F1, hb, hd, hj⟩ := F
  refine fun σ H ok => wE_of (pe_meth (E := E0) pe_w cl hm F1 hr hb hd pass0 pa_w hst hpl ht) (ho.use ok fun v H1 s ok1 r => ?_)
  obtain ⟨p, dx, fs, h1, h2, h3⟩ := hi v H1 r
  exact ⟨p, dx, fs, h1, h2, h3, ha.use ok1 fun vs H2 s2 _ rs => hj (v :: vs) _ _ _ ⟨⟨R.mono s2 r, rs⟩, fun u H3 s3 q => ⟨(s.trans s2).trans s3, q⟩⟩⟩
theorem et_meth0 {m : Str} {apos : Pos} {pl : Sem Bool} (F : FnT X.prog X.w X.K X.mg X.base k f (spT [R] U)) (cl : Cls X.K C) (hm : Meth X.K C m f) (hr : Room k X.A) (ho : ET X Γ a R) (hi : InsNo C m R)
    (ht : eval (.Call (.Attribute a m apos) [] [] pos) X.env = (do
      let ov ← eval a X.env
      standAt apos.atName
      let (f, first) ← holding [ov] (getMethod ov m pl)
      callWith pos f first (backTo pos (starEach [] X.env)) (backToKw pos (keywordEach [] X.env)))) : ET X Γ (.Call (.Attribute a m apos) [] [] pos) U := by
  obtain ⟨fd, ps, ds, dvs, sp', F1, hb, hd, hj⟩ := F
  refine fun σ H ok => wE_of (pe_meth0 (E := E0) pe_w cl hm F1 hr hb hd pass0 ht) (ho.use ok fun v H1 s ok1 r => ?_)
  obtain ⟨p, dx, fs, h1, h2, h3⟩ := hi v H1 r
  exact ⟨p, dx, fs, h1, h2, h3, hj [v] _ _ _ ⟨⟨r, trivial⟩, fun u H3 s3 q => ⟨s.trans s3, q⟩⟩⟩
/-- C(..): __init__ makes of a new, empty instance and values for Rs an object for U -/
def spMk (C : Addr) (Rs : List Ty) (U : Ty) : Sp := fun vs H Q _ => ∃ (x dx : Addr) (ws : List V) (H0 : Hp), vs = .ref x :: ws ∧ TVs ws Rs H0 ∧ Same H0 H ∧ H0 x = none ∧ H0 dx = none ∧ dx ≠ x ∧ H dx = some (.own x) ∧ H x = some (.ins C dx []) ∧
  ∀ H', Same H0 H' → U.p (.ref x) H' → Q .non H'
theorem upd2_same {H : Hp} {x dx : Addr} {o o' : HO} (hx : H x = none) (hd : H dx = none) : Same H (upd (upd H dx o) x o') := fun b u e => by
  rw [upd_ne (ne_of_none e hx), upd_ne (ne_of_none e hd)]; exact e
theorem et_make {x : Str} {p : Pos} {es : List Expr} {Rs : List Ty} (M : Mk X.K C f) (F : FnT X.prog X.w X.K X.mg X.base k f (spMk C Rs U)) (hr : Room (k + 1) X.A) (hg : Gl X x) (hm : X.mg x = some (.ref C)) (ha : AT X Γ (e :: es) Rs)
    (hdb : (x == ("__debug__" : Str)) = false) (he : starEach (e :: es) X.env = (false, eval e X.env) :: starEach es X.env) (hpl : (backTo pos (starEach es X.env)).any (·.1) = false) : ET X Γ (.Call (.Name x p) (e :: es) [] pos) U := by
  obtain ⟨fd, ps, ds, dvs, sp', F1, hb, hd, hj⟩ := F
  refine fun σ H ok => wE_of (pe_make (E := E0) M F1 hr hg hm hb hd pass0 pa_w hdb he hpl) (ha.use ok fun vs H1 s _ rs => ?_)
  intro x dx hx hdx ne
  exact hj (.ref x :: vs) _ _ _ ⟨x, dx, vs, H1, rfl, rs, upd2_same hx hdx, hx, hdx, ne, by rw [upd_ne ne, upd_same], upd_same, fun H' s' u => ⟨rfl, s.trans s', u⟩⟩
end
end SL
set_option exponentiation.threshold 256
set_option maxRecDepth 100000
set_option maxHeartbeats 1000000
namespace SL
open PySem PySem.Spec PyProof.Rows L2
section
variable {X : Cx} {Γ Δ : Cxt} {e a b c : Expr} {R S U : Ty} {pos : Pos} {k : Nat} {f C : Addr}
theorem inst_of {pins : List (Addr × Obj)} {σ : L2.St} {H : Hp} {s : Shared} {a C dx : Addr} {fs : List (Str × V)} (I : Inv X pins σ H s) (h : H a = some (.ins C dx fs)) : ∃ ox od, PySem.W.InstAt s.heap a ox C (some od) := by
  obtain ⟨mA, O, _⟩ := ins_get I.hok h
  obtain ⟨od, J, _⟩ := O.look
  exact ⟨_, od, J⟩
theorem back_of {P : Value → Shared → Prop} {z : V} {v : Value} {s' : Shared} (r : RelV z v) (h : P v s') : PySem.W.CmpBack P v s' := by
  cases z with
  | non => obtain rfl : v = Value.none := r; exact h
  | bl d => obtain rfl : v = Value.bool d := r; exact h
  | int i => obtain ⟨t, rfl⟩ := r; exact h
  | str x => obtain ⟨t, rfl⟩ := r; exact h
  | byt d => obtain ⟨t, rfl⟩ := r; exact h
  | flt d => obtain ⟨t, rfl⟩ := r; exact h
  | ref d => obtain rfl : v = Value.ref d := r; exact h
  | ty n => obtain rfl : v = Value.type n := r; exact h
/-- an instance of the class at C -/
def IsIns (C : Addr) (R : Ty) : Prop := ∀ v H, R.p v H → ∃ a dx fs, v = .ref a ∧ H a = some (.ins C dx fs)
def rOw (C : Addr) (sp : Sp) : R2 := fun x y H Q => (∃ a dx fs, x = .ref a ∧ H a = some (.ins C dx fs)) ∧ (∃ a dx fs, y = .ref a ∧ H a = some (.ins C dx fs)) ∧ sp [x, y] H Q E0
theorem op_ow {op : Operator} {m : Str} {sp : Sp} (hm : Meth X.K C m f) (hn : PySem.dunder op.info.2 = m) (hc : PySem.W.selfFirst X.K C = true) (F : FnT X.prog X.w X.K X.mg X.base k f sp) (hr : Room k X.A) : OpR X (binaryOp op) (rOw C sp) := by
  intro pins s σ H x y v u Q I rx ry h
  obtain ⟨⟨p, dx, fs, rfl, hp⟩, ⟨q, dy, gs, rfl, hq⟩, hs⟩ := h
  obtain rfl : v = Value.ref p := rx
  obtain rfl : u = Value.ref q := ry
  obtain ⟨_, _, J⟩ := inst_of I hp
  obtain ⟨_, _, J'⟩ := inst_of I hq
  obtain ⟨mf, hF⟩ := I.fr
  refine PySem.W.binop_K hF I.ok.mod.kin J J'.type hc (by rw [hn]; exact hm.at_) hm.fn ?_
  exact wpAny_mono (run_T (us := [.ref p, .ref q]) (vs := [.ref p, .ref q]) F hr I (.cons rfl (.cons rfl .nil)) hs) (fun r s' ⟨z, H', I', rz, qz⟩ => back_of rz ⟨z, H', I', rz, qz⟩) fun _ _ z => z
theorem r_ow {sp : Sp} (hR : IsIns C R) (hS : IsIns C S) (h : ∀ vs H Q E, spT [R, S] U vs H Q E → sp vs H Q E) : R2T (rOw C sp) R S U := fun x y H Q h1 h2 k => ⟨hR x H h1, hS y H h2, h _ _ _ _ ⟨⟨h1, h2, trivial⟩, k⟩⟩
theorem et_own {op : Operator} {m : Str} (hm : Meth X.K C m f) (hn : PySem.dunder op.info.2 = m) (hc : PySem.W.selfFirst X.K C = true) (F : FnT X.prog X.w X.K X.mg X.base k f (spT [R, S] U)) (hr : Room k X.A) (hR : IsIns C R) (hS : IsIns C S)
    (ha : ET X Γ a R) (hb : ET X Γ b S) : ET X Γ (.BinOp a op b pos) U := et_op (op_ow hm hn hc F hr) ha hb (r_ow hR hS fun _ _ _ _ z => z)
def rOw1 (C : Addr) (sp : Sp) : V → Hp → VK → Prop := fun x H Q => (∃ a dx fs, x = .ref a ∧ H a = some (.ins C dx fs)) ∧ sp [x] H Q E0
theorem un_ow {sp : Sp} (hm : Meth X.K C "__neg__" f) (F : FnT X.prog X.w X.K X.mg X.base k f sp) (hr : Room k X.A) : UnR X (unaryOp .USub) (rOw1 C sp) := by
  intro pins s σ H x v Q I rx h
  obtain ⟨⟨p, dx, fs, rfl, hp⟩, hs⟩ := h
  obtain rfl : v = Value.ref p := rx
  obtain ⟨_, _, J⟩ := inst_of I hp
  obtain ⟨mf, hF⟩ := I.fr
  exact PySem.W.ksp_neg hF I.ok.mod.kin J hm.at_ hm.fn (run_T (us := [.ref p]) (vs := [.ref p]) F hr I (.cons rfl .nil) hs)
theorem et_ownNeg (hm : Meth X.K C "__neg__" f) (F : FnT X.prog X.w X.K X.mg X.base k f (spT [R] U)) (hr : Room k X.A) (hR : IsIns C R) (ha : ET X Γ a R) : ET X Γ (.UnaryOp .USub a pos) U :=
  et_un (un_ow hm F hr) ha fun x H Q h k => ⟨hR x H h, ⟨h, trivial⟩, k⟩
/-- == of two instances of one class with its own __eq__ -/
theorem op_owEq {sp : Sp} (hm : Meth X.K C "__eq__" f) (F : FnT X.prog X.w X.K X.mg X.base k f sp) (hr : Room k X.A) : OpR X (compareOp .Eq) (rOw C sp) := by
  intro pins s σ H x y v u Q I rx ry h
  obtain ⟨⟨p, dx, fs, rfl, hp⟩, ⟨q, dy, gs, rfl, hq⟩, hs⟩ := h
  obtain rfl : v = Value.ref p := rx
  obtain rfl : u = Value.ref q := ry
  obtain ⟨_, _, J⟩ := inst_of I hp
  obtain ⟨_, _, J'⟩ := inst_of I hq
  obtain ⟨mf, hF⟩ := I.fr
  show wpAny _ _ (richCompare .Eq (.ref p) (.ref q)) _ _ s
  refine PySem.W.cmp_K (op := .Eq) (tb := .ref C) hr.units0 hF I.ok.mod.kin J J'.type (by unfold PySem.W.notFirst; rw [beq_self_eq_true, Bool.true_or]) hm.at_ hm.fn ?_
  exact wpAny_mono (run_T (us := [.ref p, .ref q]) (vs := [.ref p, .ref q]) F hr I (.cons rfl (.cons rfl .nil)) hs) (fun r s' ⟨z, H', I', rz, qz⟩ => back_of rz ⟨z, H', I', rz, qz⟩) fun _ _ z => z
theorem et_ownEq (hm : Meth X.K C "__eq__" f) (F : FnT X.prog X.w X.K X.mg X.base k f (spT [R, S] U)) (hr : Room k X.A) (hR : IsIns C R) (hS : IsIns C S) (ha : ET X Γ a R) (hb : ET X Γ b S) (hmk : behindInMarks .Eq b = false) :
    ET X Γ (.Compare a [.Eq] [b] pos) U := et_cmp (op_owEq hm F hr) ha hb (r_ow hR hS fun _ _ _ _ z => z) hmk
end

/-- where a block may end, and what then stands in the slots -/
structure Tg where
  nx : Option Cxt := none
  rt : Option Ty := none
  bk : Option Cxt := none
  ct : Option Cxt := none
  mu : List Addr := []
def EndC (m : List Addr) (o : Option Cxt) (H : Hp) (P : L2.St → Hp → Prop) : Prop := ∀ Γ, o = some Γ → ∀ σ' H', SameM m H H' → OKc Γ σ' H' → P σ' H'
def EndR (m : List Addr) (o : Option Ty) (H : Hp) (P : VK) : Prop := ∀ R, o = some R → ∀ v H', SameM m H H' → R.p v H' → P v H'
structure Tg.Ok (t : Tg) (H : Hp) (D : Ends) : Prop where
  nx : EndC t.mu t.nx H D.nx
  rt : EndR t.mu t.rt H D.rt
  bk : EndC t.mu t.bk H D.bk
  ct : EndC t.mu t.ct H D.ct
theorem EndC.up {m : List Addr} {o : Option Cxt} {H H' : Hp} {P : L2.St → Hp → Prop} (h : EndC m o H P) (e : SameM m H H') : EndC m o H' P := fun Γ q σ' H2 e2 ok => h Γ q σ' H2 (e.trans e2) ok
theorem EndR.up {m : List Addr} {o : Option Ty} {H H' : Hp} {P : VK} (h : EndR m o H P) (e : SameM m H H') : EndR m o H' P := fun Γ q σ' H2 e2 ok => h Γ q σ' H2 (e.trans e2) ok
theorem Tg.Ok.up {t : Tg} {H H' : Hp} {D : Ends} (h : t.Ok H D) (e : SameM t.mu H H') : t.Ok H' D := ⟨h.nx.up e, h.rt.up e, h.bk.up e, h.ct.up e⟩
theorem endC_none {m : List Addr} {H : Hp} {P : L2.St → Hp → Prop} : EndC m none H P := fun _ q => nomatch q
theorem endR_none {m : List Addr} {H : Hp} {P : VK} : EndR m none H P := fun _ q => nomatch q
def ST (X : Cx) (Γ : Cxt) (st : Stmt) (t : Tg) : Prop := ∀ σ H D, OKc Γ σ H → t.Ok H D → wS X st D σ H
def BT (X : Cx) (Γ : Cxt) (sts : List Stmt) (t : Tg) : Prop := ∀ σ H D, OKc Γ σ H → t.Ok H D → wB X sts D σ H
section
variable {X : Cx} {Γ Δ Θ : Cxt} {e a b c : Expr} {R S U : Ty} {pos : Pos} {k : Nat} {f C : Addr} {st : Stmt} {sts rest : List Stmt} {t : Tg}
theorem BT.sub (h : BT X Δ sts t) (s : Sub Γ Δ) : BT X Γ sts t := fun σ H D ok => h σ H D (ok.sub s)
theorem bt_nil (h : t.nx = some Δ) (s : Sub Γ Δ) : BT X Γ [] t := fun σ H D ok te => wB_of pss_nil (te.nx Δ h σ H (SameM.refl H) (ok.sub s))
/-- a statement, then the rest from Δ -/
theorem bt_cons (h1 : ST X Γ st { t with nx := some Δ }) (h2 : BT X Δ rest t) : BT X Γ (st :: rest) t := fun σ H D ok te =>
  wB_of (pss_cons ps_w pb_w) (h1 σ H _ ok ⟨fun Γ' q σ' H' s ok' => by cases q; exact h2 σ' H' D ok' (te.up s), te.rt, te.bk, te.ct⟩)
/-- a statement that nothing follows (it returns) -/
theorem bt_end (h1 : ST X Γ st { t with nx := none }) : BT X Γ (st :: rest) t := fun σ H D ok te =>
  wB_of (pss_cons ps_w pb_w) (h1 σ H _ ok ⟨endC_none, te.rt, te.bk, te.ct⟩)
theorem bt_last (h1 : ST X Γ st t) : BT X Γ [st] t := fun σ H D ok te => wB_of (pss_one ps_w) (h1 σ H D ok te)
theorem st_ret (he : ET X Γ e R) (h : t.rt = some R) : ST X Γ (.Return (some e) pos) t := fun σ H D ok te => wS_of (ps_ret pe_w) (he.use ok fun v H1 s _ r => te.rt R h v H1 s.m r)
theorem st_set {i : Nat} {x : Str} {pos' : Pos} (hN : X.N.Nodup) (hi : X.N[i]? = some x) (hx : Loc X.env.scope x) (he : ET X Γ e R) (h : t.nx = some Δ) (hΔ : Sub (Γ.set i (some R)) Δ) (hs : swapsWith e (some (.Name x pos')) pos.line X.env = pure false)
    (hf : X.fn x = true ∨ X.env.scope.names.lookup x = some .local) : ST X Γ (.Assign [.Name x pos'] e pos) t := fun σ H D ok te =>
  wS_of (ps_set hN hi hx pe_w hs hf) (he.use ok fun v H1 s ok1 r => te.nx Δ h _ H1 s.m ((ok1.put i r).sub hΔ))
theorem st_expr (he : ET X Γ e R) (h : t.nx = some Δ) (hΔ : Sub Γ Δ) (hs : swapsWith e none pos.line X.env = pure false) : ST X Γ (.Expr e pos) t := fun σ H D ok te =>
  wS_of (ps_expr pe_w hs) (he.use ok fun v H1 s ok1 r => te.nx Δ h _ H1 s.m (ok1.sub hΔ))
theorem st_ifT {x y : List Stmt} (h : TT_ X Γ c true) (h1 : BT X Γ x t) : ST X Γ (.If c x y pos) t := fun σ H D ok te =>
  wS_of (ps_if pt_w pb_w pb_w) (h.use ok fun H1 s ok1 => iteT (h1 σ H1 D ok1 (te.up s.m)))
theorem st_ifF {x y : List Stmt} (h : TT_ X Γ c false) (h1 : BT X Γ y t) : ST X Γ (.If c x y pos) t := fun σ H D ok te =>
  wS_of (ps_if pt_w pb_w pb_w) (h.use ok fun H1 s ok1 => iteF (h1 σ H1 D ok1 (te.up s.m)))
theorem st_if {x y : List Stmt} {d : Bool} (h : TT_ X Γ c d) (h1 : d = true → BT X Γ x t) (h2 : d = false → BT X Γ y t) : ST X Γ (.If c x y pos) t := by
  cases d with
  | true => exact st_ifT h (h1 rfl)
  | false => exact st_ifF h (h2 rfl)
theorem st_cont (h : t.ct = some Δ) (hΔ : Sub Γ Δ) : ST X Γ (.Continue pos) t := fun σ H D ok te => wS_of ps_continue (te.ct Δ h σ H (SameM.refl H) (ok.sub hΔ))
/-- a, b = x, y -/
theorem st_par {i j : Nat} {x y : Str} {px py pt : Pos} {kt k2 pt2} (hc : X.calm = true) (hN : X.N.Nodup) (hi : X.N[i]? = some x) (hj : X.N[j]? = some y) (hij : i ≠ j)
    (hx : X.env.scope.names.lookup x = some .local) (hy : X.env.scope.names.lookup y = some .local) (ha : AT X Γ [a, b] [R, S]) (h : t.nx = some Δ) (hΔ : Sub ((Γ.set i (some R)).set j (some S)) Δ)
    (hw : swappedStores [.Tuple [.Name x px, .Name y py] kt pt] (.Tuple [a, b] k2 pt2) X.env = pure (some [x, y]))
    (hs : swapsWithSole [.Tuple [.Name x px, .Name y py] kt pt] (.Tuple [a, b] k2 pt2) pos.line X.env = pure false) : ST X Γ (.Assign [.Tuple [.Name x px, .Name y py] kt pt] (.Tuple [a, b] k2 pt2) pos) t := fun σ H D ok te =>
  wS_of (ps_par hc hN hi hj hij hx hy pa_w hw hs) (ha.use ok fun vs H1 s ok1 rs => by
    match vs, rs with
    | [v, w], ⟨r1, r2, _⟩ => exact ⟨v, w, rfl, te.nx Δ h _ H1 s.m (((ok1.put i r1).put j r2).sub hΔ)⟩)
/-- a, b = e, e a pair -/
theorem st_unpack {K : PySem.W.Frag} {i j : Nat} {x y : Str} {px py pt : Pos} {kt} (hK : X.K = K) (hc : X.calm = true) (hN : X.N.Nodup) (hi : X.N[i]? = some x) (hj : X.N[j]? = some y)
    (hx : L2.Loc X.env.scope x) (hy : L2.Loc X.env.scope y) (hfx : X.fn x = true ∨ X.env.scope.names.lookup x = some .local) (hfy : X.fn y = true ∨ X.env.scope.names.lookup y = some .local) (he : ET X Γ e (tT K [R, S])) (h : t.nx = some Δ) (hΔ : Sub ((Γ.set i (some R)).set j (some S)) Δ)
    (hn : (assignEach [.Name x px, .Name y py] X.env).length = 2) (hst : (assignEach [.Name x px, .Name y py] X.env).findIdx? (·.1) = none)
    (hs1 : (assignEach [.Name x px, .Name y py] X.env).map (·.2) = assign (.Name x px) X.env :: (assignEach [.Name y py] X.env).map (·.2))
    (hs2 : (assignEach [.Name y py] X.env).map (·.2) = assign (.Name y py) X.env :: (assignEach [] X.env).map (·.2))
    (hs : swapsWithSole [.Tuple [.Name x px, .Name y py] kt pt] e pos.line X.env = pure false) (hw : swappedStores [.Tuple [.Name x px, .Name y py] kt pt] e X.env = pure none)
    (h1 : (assignEach [.Tuple [.Name x px, .Name y py] kt pt] X.env).map (·.2) = [assign (.Tuple [.Name x px, .Name y py] kt pt) X.env]) : ST X Γ (.Assign [.Tuple [.Name x px, .Name y py] kt pt] e pos) t := fun σ H D ok te =>
  wS_of (ps_asg pe_w (pg_tup (n := 2) hc (pgs_cons (pg_name hN hi hx hfx) (pgs_cons (pg_name hN hj hy hfy) pgs_nil hs2) hs1) hn hst) hs hw h1) (he.use ok fun v H1 s ok1 ⟨p, xs, ev, hq, rs⟩ => by
    match xs, rs with
    | [v, w], ⟨r1, r2, _⟩ =>
      exact ⟨p, _, ev, hK ▸ hq, rfl, v, [w], rfl, w, [], rfl, rfl, te.nx Δ h _ H1 s.m (((ok1.put i r1).put j r2).sub hΔ)⟩)
end

def ini (N : List Str) (Rs : List Ty) : Cxt := Rs.map some ++ List.replicate (N.length - Rs.length) none
theorem ini_ok {N : List Str} {Rs : List Ty} {vs : List V} {H : Hp} (h : TVs vs Rs H) : OKc (ini N Rs) (L2.start N vs) H := by
  refine ⟨by unfold L2.start ini; simp [h.len], fun i R hi => ?_⟩
  unfold ini at hi
  by_cases hl : i < Rs.length
  · rw [List.getElem?_append_left (by simpa using hl), List.getElem?_map] at hi
    obtain ⟨S, hS, e⟩ := Option.map_eq_some_iff.mp hi
    cases e
    obtain ⟨v, a, b⟩ := h.get hS
    refine ⟨v, ?_, b⟩
    unfold L2.start
    rw [List.getElem?_append_left (by simpa [h.len] using hl), List.getElem?_map, a]
    rfl
  · rw [List.getElem?_append_right (by simpa using Nat.le_of_not_lt hl), List.getElem?_replicate] at hi
    split at hi <;> cases hi
/-- where a def stands, by its row -/
abbrev DefAt (K : PySem.W.Frag) (d : He.DefD) (f : Addr) (fd : FuncData) : Prop := FunD K d.name d.qual d.params d.body d.scope (d.dvs K) (d.kws K) f fd
abbrev BodyCx (P : Program) (w : World) (K : PySem.W.Frag) (mg : Str → Option Value) (base : Heap) (N : List Str) (qual : Str) (scope : Scope) (f : Addr) (cdv : Value) (A : Around) (outer : List Env) (s : Shared) (H : Hp) : Cx :=
  (cxOf CX0 P w K mg base N qual scope f cdv A outer s H E0).nox
section
variable {P : Program} {w : World} {K : PySem.W.Frag} {mg : Str → Option Value} {base : Heap} {k : Nat} {f : Addr} {fd : FuncData} {N ps : List Str} {Rs : List Ty} {U : Ty} {C : Addr}
  {x qual : Str} {params : Arguments} {body : List Stmt} {scope : Scope} {dvs : List V} {kws : List (Str × V)}
/-- a def that returns -/
theorem fn_ret (F : FunD K x qual params body scope dvs kws f fd) (S : FnScope N ps scope) (hl : Rs.length = ps.length)
    (h : ∀ cdv A outer s H, Room k (A.deeper (envOfC qual scope s.heap.objs.size f cdv)) → BT (BodyCx P w K mg base N qual scope f cdv A outer s H) (ini N Rs) body { rt := some U }) :
    FnOk P w K mg base CX0 (k + 1) f fd ps (spT Rs U) := by
  refine F.ok S (fun vs H Q E q => q.1.len.trans hl) (fun cdv A outer s H vs Q E hr q => ?_)
  refine ⟨wB (BodyCx P w K mg base N qual scope f cdv A outer s H) body, PSs.nox pb_w, ?_⟩
  exact h cdv A outer s H hr _ H _ (ini_ok q.1) ⟨endC_none, fun R e v H' s' r => by cases e; exact q.2 v H' s'.nil r, endC_none, endC_none⟩
/-- an __init__ -/
theorem fn_init {self : Str} (F : FunD K x qual params body scope dvs kws f fd) (S : FnScope N (self :: ps) scope) (hl : Rs.length = ps.length)
    (h : ∀ cdv A outer s H (q dq : Addr) (H0 : Hp) (D : Ends) (σ : L2.St), Room k (A.deeper (envOfC qual scope s.heap.objs.size f cdv)) → OKc (ini N (tV (.ref q) :: Rs)) σ H → Same H0 H → H0 q = none → H0 dq = none → dq ≠ q → H q = some (.ins C dq []) →
      (∀ σ' H', Same H0 H' → U.p (.ref q) H' → D.nx σ' H') → (∀ v Hr, False → D.rt v Hr) → wB (BodyCx P w K mg base N qual scope f cdv A outer s H) body D σ H) :
    FnOk P w K mg base CX0 (k + 1) f fd (self :: ps) (spMk C Rs U) := by
  refine F.ok S (fun vs H Q E ⟨q, dq, ws, H0, e, r, _⟩ => by rw [e, List.length_cons, List.length_cons, r.len, hl]) (fun cdv A outer s H vs Q E hr ⟨q, dq, ws, H0, e, r, sm, n1, n2, ne, h1, h2, fin⟩ => ?_)
  refine ⟨wB (BodyCx P w K mg base N qual scope f cdv A outer s H) body, PSs.nox pb_w, ?_⟩
  subst e
  exact h cdv A outer s H q dq H0 _ _ hr (ini_ok ⟨rfl, r.up sm⟩) sm n1 n2 ne h2 (fun σ' H' s' u => fin H' s' u) (fun _ _ z => z.elim)
/-- for a caller; every parameter is written -/
theorem fnT_of {sp : Sp} (h : FnOk P w K mg base CX0 k f fd ps sp) (b : Binds K fd ps []) : FnT P w K mg base k f sp :=
  ⟨fd, ps, [], [], sp, h, b, .nil, fun vs H Q E q => by rw [List.append_nil]; exact q⟩
end
section
variable {X : Cx} {Γ Δ Θ : Cxt} {e a b c : Expr} {R S U : Ty} {pos : Pos} {f : Str} {C : Addr} {st : Stmt} {sts rest : List Stmt} {t : Tg}
/-- self.f = e in an __init__: what the new heap holds is told by the fields -/
theorem wS_store {q dq : Addr} {fs : List (Str × V)} {pos' : Pos} {D : Ends} {σ : L2.St} {H : Hp} (hv : ET X Γ e R) (ha : ET X Γ a (tV (.ref q))) (ok : OKc Γ σ H) (hq : H q = some (.ins C dq fs)) (cl : Cls X.K C) (na : NoAttr X.K C f) (hl : fs.length < 1000)
    (hs : swapsWith e (some (.Attribute a f pos')) pos.line X.env = pure false) (fin : ∀ v H1, Same H H1 → OKc Γ σ H1 → R.p v H1 → H1 q = some (.ins C dq fs) → D.nx σ (upd H1 q (.ins C dq (putF f v fs)))) :
    wS X (.Assign [.Attribute a f pos'] e pos) D σ H :=
  wS_of (ps_fld pe_w pe_w hs) (hv.use ok fun v H1 s1 ok1 r => ha.use ok1 fun u H2 s2 ok2 eu => ⟨q, C, dq, fs, eu, s2 _ _ (s1 _ _ hq), cl, na, hl, fin v H2 (s1.trans s2) ok2 (R.mono s2 r) (s2 _ _ (s1 _ _ hq))⟩)
/-- blocks at a given state -/
theorem wB_cons {D : Ends} {σ : L2.St} {H : Hp} (h : wS X st { D with nx := fun σ' H' => wB X rest D σ' H' } σ H) : wB X (st :: rest) D σ H := wB_of (pss_cons ps_w pb_w) h
theorem wB_nil {D : Ends} {σ : L2.St} {H : Hp} (h : D.nx σ H) : wB X [] D σ H := wB_of pss_nil h
theorem wS_st {D : Ends} {σ : L2.St} {H : Hp} (h : ST X Γ st t) (ok : OKc Γ σ H) (te : t.Ok H D) : wS X st D σ H := h σ H D ok te
end
end SL
set_option exponentiation.threshold 256
set_option maxRecDepth 100000
set_option maxHeartbeats 1000000
namespace SL
open PySem PySem.Spec PyProof.Rows L2
section
variable {X : Cx} {Γ Δ Θ : Cxt} {e a b c tg iter elt : Expr} {R S U : Ty} {pos : Pos} {t : Tg} {body : List Stmt}

/-- from H1 on the walk gives n items, the i-th an Rf i -/
def Drives (m : List Addr) (J : It) (n : Nat) (Rf : Nat → Ty) (H1 : Hp) : Prop :=
  ∀ H, SameM m H1 H → (∀ i, i < n → J.go i H ∧ ∀ x H', J.yld i H x H' → Same H H' ∧ (Rf i).p x H') ∧ J.stop n H
def IT_ (m : List Addr) (X : Cx) (Γ : Cxt) (tg iter : Expr) (n : Nat) (Rf : Nat → Ty) : Prop := ∃ wi, PI X tg iter wi ∧ ∀ σ H, OKc Γ σ H → ∀ Rk : It → Hp → Prop, (∀ J H1, Same H H1 → OKc Γ σ H1 → Drives m J n Rf H1 → Rk J H1) → wi σ H Rk
/-- the store of an R: from Γ to Γ' -/
def GT (g : TG) (R : Ty) (Γ Γ' : Cxt) : Prop := ∀ v σ H Q, R.p v H → OKc Γ σ H → (∀ σ' H', Same H H' → OKc Γ' σ' H' → Q σ' H') → g v σ H Q
theorem gt_name {j : Nat} : GT (gName j) R Γ (Γ.set j (some R)) := fun v σ H Q r ok k => k _ H (Same.refl H) (ok.put j r)
theorem gt_pair {K : PySem.W.Frag} {i j : Nat} : GT (gTup K 2 (gCons (gName i) (gCons (gName j) gNil))) (tT K [R, S]) Γ ((Γ.set i (some R)).set j (some S)) := fun v σ H Q ⟨p, xs, ev, hq, rs⟩ ok k => by
  match xs, rs with
  | [v, w], ⟨r1, r2, _⟩ => exact ⟨p, _, ev, hq, rfl, v, [w], rfl, w, [], rfl, rfl, k _ H (Same.refl H) ((ok.put i r1).put j r2)⟩
/-- for tg in iter -/
theorem st_for {n : Nat} {Rf : Nat → Ty} {g : TG} (hc : X.calm = true) (hp : PassesOwn (model X.prog X.w) X.A X.env X.xe) (hi : IT_ t.mu X Γ tg iter n Rf) (hg : PG X tg g) (Γs Θs : Nat → Cxt) (h0 : Sub Γ (Γs 0)) (hgt : ∀ i, i < n → GT g (Rf i) (Γs i) (Θs i))
    (hb : ∀ i, i < n → BT X (Θs i) body { nx := some (Γs (i + 1)), ct := some (Γs (i + 1)), rt := t.rt, bk := t.nx, mu := t.mu }) (hn : t.nx = some Δ) (hd : Sub (Γs n) Δ)
    (hs : ∀ x, foldedSetIterable iter X.env x = pure x) : ST X Γ (.For tg iter body [] pos) t := fun σ H D ok te => by
  obtain ⟨wi, pi, hw⟩ := hi
  refine wS_of (ps_for hp hc pi hg pb_w hs) (hw σ H ok _ fun J H1 s1 ok1 dr => ?_)
  refine ⟨fun i m σ' H' => m = n - i ∧ i ≤ n ∧ SameM t.mu H1 H' ∧ OKc (Γs i) σ' H', ⟨n, rfl, Nat.zero_le _, SameM.refl _, ok1.sub h0⟩, ?_⟩
  rintro i m σ' H' ⟨rfl, hl, s', ok'⟩
  obtain ⟨d1, d2⟩ := dr H' s'
  by_cases hlt : i < n
  · obtain ⟨g1, g2⟩ := d1 i hlt
    refine .inr ⟨g1, fun σ2 H2 => SameM t.mu H1 H2 ∧ OKc (Γs (i + 1)) σ2 H2, fun σ2 H2 q => ⟨n - (i + 1), by omega, rfl, hlt, q.1, q.2⟩, fun x H2 y => ?_⟩
    obtain ⟨s2, r2⟩ := g2 x H2 y
    refine hgt i hlt x σ' H2 _ r2 (ok'.up s2) fun σ3 H3 s3 ok3 => ?_
    have sA : SameM t.mu H1 H3 := (s'.trans s2.m).trans s3.m
    refine hb i hlt σ3 H3 _ ok3 ⟨fun G q σ4 H4 s4 o4 => ?_, te.rt.up (s1.m.trans sA), te.nx.up (s1.m.trans sA), fun G q σ4 H4 s4 o4 => ?_⟩
    · cases q; exact ⟨sA.trans s4, o4⟩
    · cases q; exact ⟨sA.trans s4, o4⟩
  · have e : i = n := by omega
    subst e
    exact .inl ⟨d2, te.nx Δ hn σ' H' (s1.m.trans s') (ok'.sub hd)⟩
/-- while c: the state is told by ι, next goes on while the test d holds, μ falls -/
theorem st_while {ι : Type} (Γs : ι → Cxt) (d : ι → Bool) (next : ι → ι) (μ : ι → Nat) (i0 : ι) (Good : ι → Prop) (hp : PassesOwn (model X.prog X.w) X.A X.env X.xe) (h0 : Sub Γ (Γs i0)) (g0 : Good i0)
    (hc : ∀ i, Good i → TT_ X (Γs i) c (d i)) (hb : ∀ i, Good i → d i = true → BT X (Γs i) body { nx := some (Γs (next i)), ct := some (Γs (next i)), rt := t.rt, bk := t.nx, mu := t.mu }) (hg : ∀ i, Good i → d i = true → Good (next i) ∧ μ (next i) < μ i)
    (hn : t.nx = some Δ) (hd : ∀ i, Good i → d i = false → Sub (Γs i) Δ) : ST X Γ (.While c body [] pos) t := fun σ H D ok te => by
  refine wS_of (ps_while hp pt_w pb_w) ⟨fun m σ' H' => ∃ i, m = μ i ∧ Good i ∧ SameM t.mu H H' ∧ OKc (Γs i) σ' H', ⟨_, i0, rfl, g0, SameM.refl _, ok.sub h0⟩, ?_⟩
  rintro m σ' H' ⟨i, rfl, gi, s', ok'⟩
  refine (hc i gi).use ok' fun H1 s1 ok1 => ?_
  cases q : d i with
  | true =>
    refine iteT ⟨fun σ2 H2 => SameM t.mu H H2 ∧ OKc (Γs (next i)) σ2 H2, fun σ2 H2 z => ⟨_, (hg i gi q).2, next i, rfl, (hg i gi q).1, z.1, z.2⟩, ?_⟩
    have sA := s'.trans s1.m
    refine hb i gi q σ' H1 _ ok1 ⟨fun G z σ4 H4 s4 o4 => ?_, te.rt.up sA, te.nx.up sA, fun G z σ4 H4 s4 o4 => ?_⟩
    · cases z; exact ⟨sA.trans s4, o4⟩
    · cases z; exact ⟨sA.trans s4, o4⟩
  | false => exact iteF (te.nx Δ hn σ' H1 (s'.trans s1.m) (ok1.sub (hd i gi q)))

/-- the expression makes a new list -/
def EF (X : Cx) (Γ : Cxt) (e : Expr) (Rs : List Ty) : Prop := ∀ σ H, OKc Γ σ H → wE X e σ H fun v H' => Same H H' ∧ ∃ D, v = .ref D ∧ H D = none ∧ (tD D Rs).p v H'
def lcF {α : Type} (n : Nat) (b : Nat → Bool) (v : Nat → α) : List α := ((List.range n).filter b).map v
theorem lcF_yes {α : Type} {n : Nat} {b : Nat → Bool} {v : Nat → α} (h : b n = true) : lcF (n + 1) b v = lcF n b v ++ [v n] := by
  unfold lcF; rw [List.range_succ, List.filter_append, List.map_append]; simp [h]
theorem lcF_no {α : Type} {n : Nat} {b : Nat → Bool} {v : Nat → α} (h : b n = false) : lcF (n + 1) b v = lcF n b v := by
  unfold lcF; rw [List.range_succ, List.filter_append, List.map_append]; simp [h]
theorem lcF_len {α : Type} (n : Nat) (b : Nat → Bool) (v : Nat → α) : (lcF n b v).length ≤ n := by
  unfold lcF
  rw [List.length_map]
  have := List.length_filter_le b (List.range n)
  rwa [List.length_range] at this
theorem lcF_all {α : Type} (n : Nat) (v : Nat → α) : lcF n (fun _ => true) v = (List.range n).map v := by
  unfold lcF
  rw [List.filter_eq_self.mpr fun _ _ => rfl]
theorem wipe_ok {Γ : Cxt} {σ : L2.St} {H : Hp} (ok : OKc Γ σ H) : ∀ vs : List Nat, OKc (vs.foldr (fun i G => G.set i none) Γ) (wipe σ vs) H
  | [] => ok
  | v :: vs => by
    have h := wipe_ok ok vs
    refine ⟨?_, fun i R hi => ?_⟩
    · show ((wipe σ vs).set v none).length = _
      simp only [List.foldr_cons, List.length_set]
      exact h.1
    · simp only [List.foldr_cons] at hi
      by_cases e : v = i
      · subst e
        by_cases hl : v < (vs.foldr (fun i G => G.set i none) Γ).length
        · rw [List.getElem?_set_self hl] at hi; cases hi
        · rw [List.getElem?_eq_none (by simpa using hl)] at hi; cases hi
      · rw [List.getElem?_set_ne e] at hi
        obtain ⟨w, p, q⟩ := h.2 i R hi
        exact ⟨w, by show ((wipe σ vs).set v none)[i]? = _; rw [List.getElem?_set_ne e]; exact p, q⟩
/-- the same for every block's context -/
def Blks (X : Cx) (scope : Scope) (Z : Cx → Prop) : Prop := ∀ (s : Shared) (H : Hp) (C : Addr) (cl : List (Str × Addr)) (fp : List Addr), Z (X.blk s H scope (compEnvC scope cl C X.env) fp)
def wEB (X : Cx) (scope : Scope) (e : Expr) : TE := fun σ H Q => Blks X scope fun Y => wE Y e σ H Q
def wTB (X : Cx) (scope : Scope) (e : Expr) : TT := fun σ H Q => Blks X scope fun Y => wT Y e σ H Q
/-- a comprehension's reading: n turns, the i-th gives an Sf i where bf i -/
theorem lc_read {n : Nat} {Rf Sf : Nat → Ty} {bf : Nat → Bool} {g : TG} {wi : TI} {tt : TT} {te : TE} {vs : List Nat} {Θs : Nat → Cxt} {σ : L2.St} {H : Hp} (ok : OKc Γ σ H) (hz : n ≤ 1000000)
    (hw : ∀ σ H, OKc Γ σ H → ∀ Rk : It → Hp → Prop, (∀ J H1, Same H H1 → OKc Γ σ H1 → Drives [] J n Rf H1 → Rk J H1) → wi σ H Rk)
    (hgt : ∀ i, i < n → ∀ v σ H Q, (Rf i).p v H → OKc (vs.foldr (fun i G => G.set i none) Γ) σ H → (∀ σ' H', Same H H' → OKc (Θs i) σ' H' → wipe σ' vs = wipe σ vs → Q σ' H') → g v σ H Q)
    (ht : ∀ i, i < n → ∀ σ H Q, OKc (Θs i) σ H → (∀ H', Same H H' → OKc (Θs i) σ H' → Q (bf i) H') → tt σ H Q)
    (he : ∀ i, i < n → bf i = true → ∀ σ H Q, OKc (Θs i) σ H → (∀ v H', Same H H' → (Sf i).p v H' → Q v H') → te σ H Q)
    (hsol : ∀ i, i < n → Sol (Sf i)) (hww : wipe (wipe σ vs) vs = wipe σ vs) {Q : VK} (k : ∀ p H', Same H H' → H p = none → (∃ xs, H' p = some (.lst xs) ∧ TVs xs (lcF n bf Sf) H') → Q (.ref p) H') : tLc wi g tt te vs σ H Q := by
  refine hw σ H ok _ fun J H1 s1 ok1 dr => ?_
  intro D hD
  have sD : Same H1 (upd H1 D (.lst [])) := fun b u e => by rw [upd_ne (ne_of_none e hD)]; exact e
  refine ⟨fun i m H' => m = n - i ∧ i ≤ n ∧ Same H1 H' ∧ ∃ xs, H' D = some (.lst xs) ∧ TVs xs (lcF i bf Sf) H', ⟨n, rfl, Nat.zero_le _, sD, [], upd_same, trivial⟩, ?_⟩
  rintro i m H' ⟨rfl, hl, s', xs, hx, rx⟩
  obtain ⟨d1, d2⟩ := dr H' s'.m
  have hDn : H D = none := s1.free hD
  by_cases hlt : i < n
  · obtain ⟨g1, g2⟩ := d1 i hlt
    refine .inr ⟨g1, fun H2 => Same H1 H2 ∧ ∃ xs, H2 D = some (.lst xs) ∧ TVs xs (lcF (i + 1) bf Sf) H2, fun H2 q => ⟨n - (i + 1), by omega, rfl, hlt, q.1, q.2⟩, fun x H2 y => ?_⟩
    obtain ⟨s2, r2⟩ := g2 x H2 y
    refine hgt i hlt x _ H2 _ r2 ((wipe_ok ok1 vs).up (s'.trans s2)) fun σ3 H3 s3 ok3 e3 => ⟨e3.trans hww, ?_⟩
    refine ht i hlt σ3 H3 _ ok3 fun H4 s4 ok4 => ?_
    have sB : Same H' H4 := (s2.trans s3).trans s4
    cases q : bf i with
    | true =>
      refine iteT (he i hlt q σ3 H4 _ ok4 fun v H5 s5 rv => ?_)
      have sC : Same H' H5 := sB.trans s5
      have hz2 := lcF_len i bf Sf
      refine ⟨xs, sC _ _ hx, ?_, fun b u e => ?_, xs ++ [v], upd_same, ?_⟩
      · rw [rx.len]
        exact Nat.lt_of_le_of_lt hz2 (Nat.lt_of_lt_of_le hlt (Nat.le_trans hz (by decide)))
      · rw [upd_ne (ne_of_none e hD)]
        exact (s'.trans sC) b u e
      · rw [lcF_yes q]
        have one : TVs [v] [Sf i] H5 := ⟨rv, trivial⟩
        refine (TVs.app (rx.up sC) one).stb (m := [D]) (fun R hR => ?_) (SameM.put (sC _ _ hx) (by simp))
        rcases List.mem_append.mp hR with hm | hm
        · obtain ⟨j, hj, ej⟩ := List.mem_map.mp hm
          have := List.mem_range.mp (List.mem_filter.mp hj).1
          exact ej ▸ hsol j (by omega) _
        · rw [List.mem_singleton.mp hm]
          exact hsol i hlt _
    | false =>
      refine iteF ⟨s'.trans sB, xs, sB _ _ hx, ?_⟩
      rw [lcF_no q]
      exact rx.up sB
  · have e : i = n := by omega
    subst e
    exact .inl ⟨d2, k D H' (s1.trans s') hDn ⟨xs, hx, rx⟩⟩
theorem ET.blk {scope : Scope} (h : Blks X scope fun Y => ET Y Γ e R) {σ : L2.St} {H : Hp} (ok : OKc Γ σ H) {Q : VK} (k : ∀ v H1, Same H H1 → R.p v H1 → Q v H1) : wEB X scope e σ H Q :=
  fun s H0 C cl fp => (h s H0 C cl fp).use ok fun v H1 s1 _ r => k v H1 s1 r
theorem TT_.blk {scope : Scope} {d : Bool} (h : Blks X scope fun Y => TT_ Y Γ e d) {σ : L2.St} {H : Hp} (ok : OKc Γ σ H) {Q : Bool → Hp → Prop} (k : ∀ H1, Same H H1 → OKc Γ σ H1 → Q d H1) : wTB X scope e σ H Q :=
  fun s H0 C cl fp => (h s H0 C cl fp).use ok fun H1 s1 o1 => k H1 s1 o1
/-- a comprehension that makes an Ss -/
def LC_ (X : Cx) (Γ : Cxt) (tg iter : Expr) (ifs : List Expr) (elt : Expr) (scope : Scope) (own : List (Str × Nat)) (Ss : List Ty) : Prop := ∃ wi g tt te, PI X tg iter wi ∧ (Blks X scope fun Y => PG Y tg g) ∧ (Blks X scope fun Y => PTs Y ifs tt) ∧ (Blks X scope fun Y => PE Y elt te) ∧ BlkOk X.N X.env.scope scope own ∧
  ∀ σ H, OKc Γ σ H → ∀ Q : VK, (∀ D H', Same H H' → H D = none → (tD D Ss).p (.ref D) H' → Q (.ref D) H') → tLc wi g tt te (own.map (·.2)) σ H Q
theorem ef_lc {scope : Scope} {own : List (Str × Nat)} {ifs : List Expr} {Ss : List Ty} (h : LC_ X Γ tg iter ifs elt scope own Ss) (hc : X.calm = true) (hN : X.N.Nodup) (hs : ∀ x, foldedSetIterable iter X.env x = pure x := by intro _; rfl) : EF X Γ (.ListComp elt [⟨tg, iter, ifs, 0⟩] scope pos) Ss := fun σ H o => by
  obtain ⟨wi, g, tt, te, h1, h2, h3, h4, h5, h6⟩ := h
  exact wE_of (pe_lc hc hN h1 h5 h2 h3 h4 hs) (h6 σ H o _ fun D H' s n d => ⟨s, D, rfl, n, d⟩)
theorem set_ok {j : Nat} {v : V} {σ : L2.St} {H : Hp} (hj : j < Γ.length) (ok : OKc (Γ.set j none) σ H) (r : R.p v H) : OKc (Γ.set j (some R)) (σ.set j (some v)) H := by
  have hl : j < σ.length := by rw [ok.1]; simpa using hj
  refine ⟨by rw [List.length_set, List.length_set, ok.1]; simp, fun a S ha => ?_⟩
  by_cases e : j = a
  · subst e
    rw [List.getElem?_set_self hj] at ha
    cases ha
    exact ⟨v, List.getElem?_set_self hl, r⟩
  · rw [List.getElem?_set_ne e] at ha ⊢
    exact ok.2 a S (by rw [List.getElem?_set_ne e]; exact ha)
/-- [elt for x in iter], x alone (slot j) -/
theorem lc_one {x : Str} {j : Nat} {n : Nat} {Rf Sf : Nat → Ty} {scope : Scope} {px : Pos} (hi : IT_ [] X Γ (.Name x px) iter n Rf) (ok : BlkOk X.N X.env.scope scope [(x, j)]) (hj : j < Γ.length)
    (hg : Blks X scope fun Y => PG Y (.Name x px) (gName j)) (he : ∀ i, i < n → Blks X scope fun Y => ET Y (Γ.set j (some (Rf i))) elt (Sf i)) (hsol : ∀ i, i < n → Sol (Sf i)) (hz : n ≤ 1000000) : LC_ X Γ (.Name x px) iter [] elt scope [(x, j)] ((List.range n).map Sf) := by
  obtain ⟨wi, pi, hw⟩ := hi
  refine ⟨wi, gName j, _, wEB X scope elt, pi, hg, fun _ _ _ _ _ => pts_nil, fun s H0 C cl fp => ⟨fun pins s' σ' H' Q I h => h s H0 C cl fp pins s' I⟩, ok, fun σ H o Q k => ?_⟩
  refine lc_read (vs := [j]) (Θs := fun i => Γ.set j (some (Rf i))) (bf := fun _ => true) (Sf := Sf) o hz hw (fun i hi v σ2 H2 Q r o2 k => k _ H2 (Same.refl _) (set_ok hj o2 r) (by simp [wipe])) (fun i hi σ2 H2 Q o2 k => k H2 (Same.refl _) o2) (fun i hi _ σ2 H2 Q o2 k => ET.blk (he i hi) o2 k) hsol (by simp [wipe]) (fun p H' s' hn ⟨xs, h1, h2⟩ => k p H' s' hn ⟨rfl, xs, h1, by rw [lcF_all] at h2; exact h2⟩)
/-- [elt for x in iter if test] -/
theorem lc_if {x : Str} {j : Nat} {n : Nat} {Rf Sf : Nat → Ty} {bf : Nat → Bool} {scope : Scope} {px : Pos} (hi : IT_ [] X Γ (.Name x px) iter n Rf) (ok : BlkOk X.N X.env.scope scope [(x, j)]) (hj : j < Γ.length)
    (hg : Blks X scope fun Y => PG Y (.Name x px) (gName j)) (ht : ∀ i, i < n → Blks X scope fun Y => TT_ Y (Γ.set j (some (Rf i))) c (bf i)) (he : ∀ i, i < n → bf i = true → Blks X scope fun Y => ET Y (Γ.set j (some (Rf i))) elt (Sf i)) (hsol : ∀ i, i < n → Sol (Sf i)) (hz : n ≤ 1000000) :
    LC_ X Γ (.Name x px) iter [c] elt scope [(x, j)] (lcF n bf Sf) := by
  obtain ⟨wi, pi, hw⟩ := hi
  refine ⟨wi, gName j, wTB X scope c, wEB X scope elt, pi, hg, fun s H0 C cl fp => pts_one ⟨fun pins s' σ' H' Q I h => h s H0 C cl fp pins s' I⟩, fun s H0 C cl fp => ⟨fun pins s' σ' H' Q I h => h s H0 C cl fp pins s' I⟩, ok, fun σ H o Q k => ?_⟩
  refine lc_read (vs := [j]) (Θs := fun i => Γ.set j (some (Rf i))) (bf := bf) (Sf := Sf) o hz hw (fun i hi v σ2 H2 Q r o2 k => k _ H2 (Same.refl _) (set_ok hj o2 r) (by simp [wipe])) (fun i hi σ2 H2 Q o2 k => TT_.blk (ht i hi) o2 k) (fun i hi hb σ2 H2 Q o2 k => ET.blk (he i hi hb) o2 k) hsol (by simp [wipe]) (fun p H' s' hn ⟨xs, h1, h2⟩ => k p H' s' hn ⟨rfl, xs, h1, h2⟩)
theorem set_ok0 {j : Nat} {σ : L2.St} {H : Hp} (ok : OKc Γ σ H) : OKc (Γ.set j none) σ H := ⟨by rw [List.length_set]; exact ok.1, fun a S ha => by
  by_cases e : j = a
  · subst e
    rw [List.getElem?_set] at ha
    simp at ha
  · rw [List.getElem?_set_ne e] at ha
    exact ok.2 a S ha⟩
/-- [elt for x, y in iter] (slots j, l) -/
theorem lc_two {K : PySem.W.Frag} {x y : Str} {j l : Nat} {n : Nat} {Rf Sf Uf : Nat → Ty} {scope : Scope} (hjl : j ≠ l) (hi : IT_ [] X Γ tg iter n fun i => tT K [Rf i, Uf i]) (ok : BlkOk X.N X.env.scope scope [(x, j), (y, l)]) (hj : j < Γ.length) (hl : l < Γ.length)
    (hg : Blks X scope fun Y => PG Y tg (gTup K 2 (gCons (gName j) (gCons (gName l) gNil)))) (he : ∀ i, i < n → Blks X scope fun Y => ET Y ((Γ.set j (some (Rf i))).set l (some (Uf i))) elt (Sf i)) (hsol : ∀ i, i < n → Sol (Sf i)) (hz : n ≤ 1000000) : LC_ X Γ tg iter [] elt scope [(x, j), (y, l)] ((List.range n).map Sf) := by
  obtain ⟨wi, pi, hw⟩ := hi
  refine ⟨wi, _, _, wEB X scope elt, pi, hg, fun _ _ _ _ _ => pts_nil, fun s H0 C cl fp => ⟨fun pins s' σ' H' Q I h => h s H0 C cl fp pins s' I⟩, ok, fun σ H o Q k => ?_⟩
  refine lc_read (vs := [j, l]) (Θs := fun i => (Γ.set j (some (Rf i))).set l (some (Uf i))) (bf := fun _ => true) (Sf := Sf) o hz hw (fun i hi v σ2 H2 Q r o2 k => ?_) (fun i hi σ2 H2 Q o2 k => k H2 (Same.refl _) o2) (fun i hi _ σ2 H2 Q o2 k => ET.blk (he i hi) o2 k) hsol ?_ (fun p H' s' hn ⟨xs, h1, h2⟩ => k p H' s' hn ⟨rfl, xs, h1, by rw [lcF_all] at h2; exact h2⟩)
  · obtain ⟨p, xs, ev, hq, rs⟩ := r
    have o3 : OKc ((Γ.set l none).set j none) σ2 H2 := o2
    match xs, rs with
    | [v1, v2], ⟨r1, r2, _⟩ =>
      have a1 := set_ok (by simpa using hj) o3 r1
      rw [List.set_comm _ _ (fun z => hjl z.symm)] at a1
      have a2 := set_ok (by simpa using hl) a1 r2
      refine ⟨p, _, ev, hq, rfl, v1, [v2], rfl, v2, [], rfl, rfl, k _ H2 (Same.refl _) a2 ?_⟩
      show ((((σ2.set j (some v1)).set l (some v2)).set l none).set j none) = (σ2.set l none).set j none
      rw [List.set_set, List.set_comm _ _ (fun z => hjl z.symm), List.set_comm _ _ (fun z => hjl z.symm), List.set_set]
  · show ((((σ.set l none).set j none).set l none).set j none) = (σ.set l none).set j none
    apply List.ext_getElem?
    intro a
    simp only [List.getElem?_set, List.length_set]
    grind

theorem it_tup {m : List Addr} {K : PySem.W.Frag} {Rs : List Ty} {Rf : Nat → Ty} (hK : X.K = K) (he : ET X Γ iter (tT K Rs)) (hR : ∀ i, i < Rs.length → Rs[i]? = some (Rf i)) (hm : ∀ R ∈ Rs, Stb m R) : IT_ m X Γ tg iter Rs.length Rf :=
  ⟨_, pi_tup pe_w, fun σ H ok Rk h => he.use ok fun v H1 s1 ok1 ⟨a, xs, ev, hq, rs⟩ => ⟨a, ev, ⟨xs, hK ▸ hq⟩, h _ H1 s1 ok1 fun H2 s2 =>
    ⟨fun i hi => by
      obtain ⟨u, hu, ru⟩ := (rs.stb hm s2).get (hR i hi)
      have q2 : SqT X.K H2 a xs := hK ▸ sqT_m s2 hq
      exact ⟨⟨xs, u, q2, hu⟩, fun y H' ⟨e1, e2⟩ => by
        subst e1
        have := e2 xs q2
        rw [hu] at this
        cases this
        exact ⟨Same.refl _, ru⟩⟩, ⟨xs, hK ▸ sqT_m s2 hq, Nat.le_of_eq rs.len⟩⟩⟩⟩
theorem it_lst {m : List Addr} {K : PySem.W.Frag} {Rs : List Ty} {Rf : Nat → Ty} (he : ET X Γ iter (tLn m Rs)) (hR : ∀ i, i < Rs.length → Rs[i]? = some (Rf i)) (hm : ∀ R ∈ Rs, Stb m R) : IT_ m X Γ tg iter Rs.length Rf :=
  ⟨_, pi_list pe_w, fun σ H ok Rk h => he.use ok fun v H1 s1 ok1 r => by
    obtain ⟨a, xs, ev, hn, hq, rs⟩ := r
    have hk : ∀ {H2 : Hp}, SameM m H1 H2 → H2 a = some (.lst xs) := fun s2 => by
      rcases s2 _ _ hq with x | ⟨x, _⟩
      · exact x
      · exact absurd x hn
    refine ⟨a, ev, ⟨xs, SqL.of hq⟩, h _ H1 s1 ok1 fun H2 s2 => ⟨fun i hi => ?_, ⟨xs, SqL.of (hk s2), Nat.le_of_eq rs.len⟩⟩⟩
    obtain ⟨u, hu, ru⟩ := (rs.stb hm s2).get (hR i hi)
    refine ⟨⟨xs, u, SqL.of (hk s2), hu⟩, fun y H' ⟨e1, e2⟩ => ?_⟩
    subst e1
    have := e2 xs (SqL.of (hk s2))
    rw [hu] at this
    cases this
    exact ⟨Same.refl _, ru⟩⟩
theorem it_range {m : List Addr} {n : Int} {p : Pos} (hg : Gl X "range") (hm : X.mg "range" = none) (he : AT X Γ [e] [tI n]) (h1 : n < 2 ^ 62) (h0 : -(2 ^ 62) ≤ n) (hs : starEach [e] X.env = [(false, eval e X.env)]) : IT_ m X Γ tg (.Call (.Name "range" p) [e] [] pos) n.toNat fun i => tI i :=
  ⟨_, pi_range1 hg hm pa_w hs, fun σ H ok Rk h => he.use ok fun vs H1 s1 ok1 rs => by
    match vs, rs with
    | [v], ⟨ev, _⟩ =>
      cases (show v = .int n from ev)
      exact ⟨n, rfl, h0, h1, h _ H1 s1 ok1 fun H2 s2 => ⟨fun i hi => ⟨hi, fun y H' ⟨e1, e2⟩ => by subst e1; exact ⟨Same.refl _, by show y = _; rw [e2, Int.zero_add]⟩⟩, Nat.le_refl _⟩⟩⟩
end
end SL
set_option exponentiation.threshold 256
set_option maxRecDepth 100000
set_option maxHeartbeats 1000000
namespace SL
open PySem PySem.Spec PyProof.Rows L2

def seerB (K : PySem.W.Frag) : Bool :=
  PySem.W.nsOkIn K cStatics && (decide (PySem.W.nsIn K cStatics "sys.audit-hooks" = some none) && (decide (PySem.W.nsIn K cStatics "sys.dict" = some none) &&
    (PySem.W.nsOkIn K sysModules && (decide (PySem.W.nsIn K sysModules "_pylong" = some none) && (match PySem.W.nsIn K mainGlobals "__builtins__" with
      | some (some (.ref b)) => (match K.lookup b with
        | some o => decide (o.cls = .type "module") && decide (o.dict = some builtinsNs)
        | none => false)
      | _ => false)))))
theorem noSeer_of {K : PySem.W.Frag} {h : Heap} {mg : Str → Option Value} (X : K.In h) (G : h.Ns mainGlobals mg) (B : ∃ mb, h.Ns builtinsNs mb ∧ ∀ x : Str, x ≠ "__name__" → mb x = bootBuiltins x) (e : seerB K = true) : h.NoSeer := by
  unfold seerB at e
  simp only [Bool.and_eq_true, decide_eq_true_eq] at e
  obtain ⟨e1, e2, e3, e4, e5, e6⟩ := e
  cases q : PySem.W.nsIn K mainGlobals "__builtins__" with
  | none => rw [q] at e6; cases e6
  | some r =>
    rw [q] at e6
    cases r with
    | none => cases e6
    | some u =>
      cases u with
      | ref b =>
        cases z : K.lookup b with
        | none => simp [z] at e6
        | some o =>
          simp [z] at e6
          exact ⟨⟨_, .of_isNs (PySem.W.isNs_of_in X e1), PySem.W.nsMap_none_of_in X e1 e2, PySem.W.nsMap_none_of_in X e1 e3⟩, ⟨_, .of_isNs (PySem.W.isNs_of_in X e4), PySem.W.nsMap_none_of_in X e4 e5⟩, B,
            ⟨mg, b, o, G, PySem.W.mg_of X G q, X _ _ z, e6.1, e6.2⟩⟩
      | _ => simp at e6
/-- a product of together fewer bits than the line -/
def CMulB (i j : Int) : Prop := i.natAbs.log2 + j.natAbs.log2 < 134000000
theorem CMulB.ok {i j : Int} (h : CMulB i j) : IntMulOk i j := by
  have b : ∀ x : Int, Builtin.Int.intBits x ≤ x.natAbs.log2 + 1 := fun x => by
    unfold Builtin.Int.intBits
    split
    · exact Nat.zero_le _
    · exact Nat.le_refl _
  have h1 := b i
  have h2 := b j
  have h3 : i.natAbs.log2 + j.natAbs.log2 < 134000000 := h
  have e : bitsLine = 134217728 := by decide
  intro z
  have z2 := (Bool.and_eq_true_iff.mp z).2
  have z3 := of_decide_eq_true (show decide (_ > (bitsLine : Int)) = true from z2)
  rw [e] at z3
  omega
theorem log2_lt {n b : Nat} (h : n < 2 ^ b) (h0 : 0 < b) : n.log2 < b := by
  by_cases e : n = 0
  · subst e; simpa using h0
  · exact (Nat.log2_lt e).mpr h
theorem CMulB.of {i j : Int} {a b : Nat} (ha : i.natAbs < 2 ^ a) (hb : j.natAbs < 2 ^ b) (h0 : 0 < a) (h1 : 0 < b) (h : a + b ≤ 134000000) : CMulB i j := by
  have x := log2_lt ha h0
  have y := log2_lt hb h1
  unfold CMulB
  omega
section
variable {X : Cx} {Γ Δ : Cxt} {e a b c : Expr} {R S U : Ty} {pos : Pos}
theorem op_mulB : OpR X (binaryOp .Mult) (rI CMulB fun i j => .int (i * j)) := opI fun _ _ _ _ _ _ _ hc q => mul_int q hc.ok
theorem et_mul {i j : Int} (h : CMulB i j) (ha : ET X Γ a (tI i)) (hb : ET X Γ b (tI j)) : ET X Γ (.BinOp a .Mult b pos) (tI (i * j)) := et_op op_mulB ha hb (r_IC (g := fun i j => i * j) h)
/-- // by any divisor but 0 -/
theorem op_fdivB {env0 : Env} {l : List Env} (hS : seerB X.K = true) (ht : X.prog.given.tree = none) (hr : Room 34 X.A) (hst : X.stack = env0 :: l) (hgen : env0.scope.isGenerator = false) (hco : env0.scope.isCoroutine = false) (hb : env0.builtins = builtinsNs) (hg : env0.globals = mainGlobals) :
    OpR X (binaryOp .FloorDiv) (rI (fun _ j => j ≠ 0) fun i j => .int (i.fdiv j)) := by
  intro pins s σ H x y v u Q I rx ry h
  obtain ⟨i, j, rfl, rfl, hc, q⟩ := h
  obtain ⟨t, rfl⟩ := rx
  obtain ⟨t', rfl⟩ := ry
  have ns : s.heap.NoSeer := (noSeer_of I.ok.mod.kin I.ok.mod.glob I.ok.mod.blt hS).keeps I.bk
  refine floordiv_int hc ⟨.int _, H, I.tok _, ⟨_, rfl⟩, q⟩ (.inr (PySem.PylongRoom.of I.nolimit ?_ (PySem.SeerAt.of ns ht (by rw [I.ok.frames, hst]) hgen hco hb hg)))
  have := hr.dp
  have e : Builtin.pylongFrames = 100 := by decide
  rw [e]
  omega
theorem et_fdiv {i j : Int} (ho : OpR X (binaryOp .FloorDiv) (rI (fun _ j => j ≠ 0) fun i j => .int (i.fdiv j))) (h : j ≠ 0) (ha : ET X Γ a (tI i)) (hb : ET X Γ b (tI j)) : ET X Γ (.BinOp a .FloorDiv b pos) (tI (i.fdiv j)) := et_op ho ha hb (r_IC (C := fun _ j => j ≠ 0) (g := fun i j => i.fdiv j) h)
theorem et_modP {i j : Int} (h : 0 < j) (ha : ET X Γ a (tI i)) (hb : ET X Γ b (tI j)) : ET X Γ (.BinOp a .Mod b pos) (tI (i % j)) := et_op op_mod ha hb (r_IC (C := fun _ j => 0 < j) (g := fun i j => i % j) h)

theorem tt_eq {i j : Int} (ha : ET X Γ a (tI i)) (hb : ET X Γ b (tI j)) (hm : behindInMarks .Eq b = false) : TT_ X Γ (.Compare a [.Eq] [b] pos) (decide (i = j)) := tt_cmp op_eq ha hb r_eqI hm
theorem tt_ne {i j : Int} (ha : ET X Γ a (tI i)) (hb : ET X Γ b (tI j)) (hm : behindInMarks .NotEq b = false) : TT_ X Γ (.Compare a [.NotEq] [b] pos) (!decide (i = j)) := tt_cmp op_ne ha hb r_neI hm
theorem tt_lt {i j : Int} (ha : ET X Γ a (tI i)) (hb : ET X Γ b (tI j)) (hm : behindInMarks .Lt b = false) : TT_ X Γ (.Compare a [.Lt] [b] pos) (decide (i < j)) := tt_cmp op_lt ha hb (r_Ib (g := fun i j => decide (i < j))) hm
theorem tt_gt {i j : Int} (ha : ET X Γ a (tI i)) (hb : ET X Γ b (tI j)) (hm : behindInMarks .Gt b = false) : TT_ X Γ (.Compare a [.Gt] [b] pos) (decide (j < i)) := tt_cmp op_gt ha hb (r_Ib (g := fun i j => decide (j < i))) hm
theorem tt_ge {i j : Int} (ha : ET X Γ a (tI i)) (hb : ET X Γ b (tI j)) (hm : behindInMarks .GtE b = false) : TT_ X Γ (.Compare a [.GtE] [b] pos) (decide (j ≤ i)) := tt_cmp op_ge ha hb (r_Ib (g := fun i j => decide (j ≤ i))) hm
theorem ev_eq {i j : Int} (ha : ET X Γ a (tI i)) (hb : ET X Γ b (tI j)) (hm : behindInMarks .Eq b = false) : ET X Γ (.Compare a [.Eq] [b] pos) (tB (decide (i = j))) := et_cmp op_eq ha hb r_eqI hm
theorem ev_ge {i j : Int} (ha : ET X Γ a (tI i)) (hb : ET X Γ b (tI j)) (hm : behindInMarks .GtE b = false) : ET X Γ (.Compare a [.GtE] [b] pos) (tB (decide (j ≤ i))) := et_cmp op_ge ha hb (r_Ib (g := fun i j => decide (j ≤ i))) hm
theorem r_gcd {i j : Int} : RnT rGcd [tI i, tI j] (tI ((Nat.gcd i.natAbs j.natAbs : Nat) : Int)) := fun xs H Q h k => by
  match xs, h with
  | [_, _], ⟨h1, h2, _⟩ => cases (show _ = V.int i from h1); cases (show _ = V.int j from h2); exact ⟨i, j, rfl, k _ H (Same.refl H) rfl⟩
end
end SL
set_option exponentiation.threshold 256
set_option maxRecDepth 100000
set_option maxHeartbeats 1000000
namespace SL
open PySem PySem.Spec PyProof.Rows L2
section
variable {X : Cx} {Γ Δ : Cxt} {e a b c : Expr} {R S U : Ty} {Rs Ss : List Ty} {pos p : Pos} {K : PySem.W.Frag} {m : List Addr}
theorem tvs_one {vs : List V} {H : Hp} (h : TVs vs [R] H) : ∃ v, vs = [v] ∧ R.p v H := by
  cases vs with
  | nil => exact h.elim
  | cons v r =>
    obtain ⟨a, b⟩ := h
    cases r with
    | nil => exact ⟨v, rfl, a⟩
    | cons => exact b.elim
theorem tvs_two {vs : List V} {H : Hp} (h : TVs vs [R, S] H) : ∃ v w, vs = [v, w] ∧ R.p v H ∧ S.p w H := by
  cases vs with
  | nil => exact h.elim
  | cons v r =>
    obtain ⟨a, b⟩ := h
    obtain ⟨w, e, c⟩ := tvs_one b
    exact ⟨v, w, by rw [e], a, c⟩
def rLen (K : PySem.W.Frag) : List V → Hp → VK → Prop := fun xs H Q => ∃ p ys, xs = [V.ref p] ∧ (SqL K H p ys ∨ SqT K H p ys) ∧ Q (V.int (ys.length : Nat)) H
theorem r_len : RnT (rLen K) [tLT K Rs] (tI Rs.length) := by
  intro xs H Q h k
  obtain ⟨v, e, q, ys, e2, hq, ht⟩ := tvs_one h
  refine ⟨q, ys, by rw [e, e2], hq, ?_⟩
  rw [ht.len]
  exact k _ H (Same.refl H) rfl
theorem cr_len : CallR X (.builtin "len") (rLen X.K) := call_len_seq
theorem et_len (hg : Gl X "len") (hm : X.mg "len" = none) (ha : ET X Γ a (tLT X.K Rs)) (hs : starEach [a] X.env = (false, eval a X.env) :: starEach [] X.env := by rfl) : ET X Γ (.Call (.Name "len" p) [a] [] pos) (tI Rs.length) :=
  et_callB cr_len hg hm boot_len (at_one ha hs) r_len (by decide) rfl hs rfl
theorem ixN_nat {n i : Nat} (h : i < n) : ixN n (i : Int) = some i := by
  unfold ixN
  rw [if_pos (by omega), if_pos (by omega)]
  simp
theorem r_ixL {i : Int} {n : Nat} (hi : i = n) (hR : Rs[n]? = some R) : R2T (rIxL K) (tL K Rs) (tI i) R := fun x y H Q ⟨q, xs, e1, hq, ht⟩ e2 k => by
  obtain ⟨v, hv, hr⟩ := ht.get hR
  have hl : n < xs.length := (List.getElem?_eq_some_iff.mp hv).1
  refine ⟨q, xs, i, v, e1, e2, hq, ?_, k v H (Same.refl H) hr⟩
  unfold atI
  rw [hi, ixN_nat hl]
  exact hv
theorem r_ixT {i : Int} {n : Nat} (hi : i = n) (hR : Rs[n]? = some R) : R2T (rIxT K) (tT K Rs) (tI i) R := fun x y H Q ⟨q, xs, e1, hq, ht⟩ e2 k => by
  obtain ⟨v, hv, hr⟩ := ht.get hR
  have hl : n < xs.length := (List.getElem?_eq_some_iff.mp hv).1
  refine ⟨q, xs, i, v, e1, e2, hq, ?_, k v H (Same.refl H) hr⟩
  unfold atI
  rw [hi, ixN_nat hl]
  exact hv
theorem et_ixL {i : Int} (n : Nat) (hi : i = n) (hR : Rs[n]? = some R) (ha : ET X Γ a (tL X.K Rs)) (hb : ET X Γ b (tI i)) (hs : PlainIx b := by intro _ _; rfl) : ET X Γ (.Subscript a b pos) R := et_ix ix_list hs ha hb (r_ixL hi hR)
theorem et_ixT {i : Int} (n : Nat) (hi : i = n) (hR : Rs[n]? = some R) (ha : ET X Γ a (tT X.K Rs)) (hb : ET X Γ b (tI i)) (hs : PlainIx b := by intro _ _; rfl) : ET X Γ (.Subscript a b pos) R := et_ix ix_tup hs ha hb (r_ixT hi hR)
theorem same_new {H : Hp} {D : Addr} {o : HO} (h : H D = none) : Same H (upd H D o) := fun b u e => by rw [upd_ne (ne_of_none e h)]; exact e
theorem EF.et (h : EF X Γ e Rs) : ET X Γ e (tLn [] Rs) := fun σ H ok => wE_imp (h σ H ok) fun v H' ⟨s, D, e, _, d⟩ => ⟨s, tD_Ln (D := D) v H' d⟩
def RnF (r : List V → Hp → VK → Prop) (Rs Ss : List Ty) : Prop := ∀ (xs : List V) (H : Hp) (Q : VK), TVs xs Rs H → (∀ D H', Same H H' → H D = none → (tD D Ss).p (.ref D) H' → Q (.ref D) H') → r xs H Q
theorem ef_callTy {x : Str} {es : List Expr} {T : String} {r : List V → Hp → VK → Prop} (hc : CallR X (.type T) r) (hg : Gl X x) (hm : X.mg x = none) (hv : bootBuiltins x = some (.type T)) (ha : AT X Γ (e :: es) Rs) (hr : RnF r Rs Ss)
    (hn : x ≠ "__name__") (hdb : (x == ("__debug__" : Str)) = false) (he : starEach (e :: es) X.env = (false, eval e X.env) :: starEach es X.env) (hpl : (backTo pos (starEach es X.env)).any (·.1) = false) : EF X Γ (.Call (.Name x p) (e :: es) [] pos) Ss :=
  fun σ H ok => wE_of (pe_callTy hc hg hm hv pa_w hn hdb he hpl) (ha.use ok fun vs H1 s _ rs => hr vs H1 _ rs fun D H2 s2 n d => ⟨s.trans s2, D, rfl, s.free n, d⟩)
def rListOf (K : PySem.W.Frag) : List V → Hp → VK → Prop := fun xs H Q => ∃ p ys, xs = [V.ref p] ∧ (SqL K H p ys ∨ SqT K H p ys) ∧ ∀ (l : Addr), H l = none → Q (V.ref l) (upd H l (HO.lst ys))
theorem r_listOf : RnF (rListOf K) [tLT K Rs] Rs := by
  intro xs H Q h k
  obtain ⟨v, e, q, ys, e2, hq, ht⟩ := tvs_one h
  exact ⟨q, ys, by rw [e, e2], hq, fun l hl => k l _ (same_new hl) hl ⟨rfl, ys, upd_same, ht.up (same_new hl)⟩⟩
theorem cr_listOf : CallR X (.type "list") (rListOf X.K) := call_list_of
theorem ef_list (hg : Gl X "list") (hm : X.mg "list" = none) (ha : ET X Γ a (tLT X.K Rs)) (hs : starEach [a] X.env = (false, eval a X.env) :: starEach [] X.env := by rfl) : EF X Γ (.Call (.Name "list" p) [a] [] pos) Rs :=
  ef_callTy cr_listOf hg hm rfl (at_one ha hs) r_listOf (by decide) rfl hs rfl
/-- tuple(a) of a list -/
def rTupOf (K : PySem.W.Frag) : List V → Hp → VK → Prop := fun xs H Q => ∃ p ys, xs = [V.ref p] ∧ ((SqL K H p ys ∧ ∀ (l : Addr), H l = none → Q (V.ref l) (upd H l (HO.tup ys))) ∨ SqT K H p ys ∧ Q (V.ref p) H)
theorem cr_tupOf : CallR X (.type "tuple") (rTupOf X.K) := call_tuple_of
theorem r_tupOf : RnT (rTupOf K) [tLT K Rs] (tT K Rs) := by
  intro xs H Q h k
  obtain ⟨v, e, q, ys, e2, hq, ht⟩ := tvs_one h
  refine ⟨q, ys, by rw [e, e2], ?_⟩
  rcases hq with hq | hq
  · exact .inl ⟨hq, fun l hl => k _ _ (same_new hl) ⟨l, ys, rfl, .inl (.inl upd_same), ht.up (same_new hl)⟩⟩
  · exact .inr ⟨hq, k _ H (Same.refl H) ⟨q, ys, rfl, hq, ht⟩⟩
theorem et_tup (hg : Gl X "tuple") (hm : X.mg "tuple" = none) (ha : ET X Γ a (tLT X.K Rs)) (hs : starEach [a] X.env = (false, eval a X.env) :: starEach [] X.env := by rfl) : ET X Γ (.Call (.Name "tuple" p) [a] [] pos) (tT X.K Rs) :=
  et_callTy cr_tupOf hg hm rfl (at_one ha hs) r_tupOf (by decide) rfl hs rfl
theorem ef_disp {es : List Expr} (ha : AT X Γ es Rs) (hl : Rs.length ≤ sizeLine) : EF X Γ (.List es pos) Rs := fun σ H ok =>
  wE_of (pe_lst pa_w) (ha.use ok fun vs H1 s _ rs => ⟨by rw [rs.len]; exact hl, fun D hD => ⟨s.trans (same_new hD), D, rfl, s.free hD, rfl, vs, upd_same, rs.up (same_new hD)⟩⟩)
theorem et_disT {es : List Expr} {j : Nat} (ha : AT X Γ es Rs) (hl : Rs.length ≤ sizeLine) : ET X Γ (.Tuple es j pos) (tT K Rs) := fun σ H ok =>
  wE_of (pe_tup pa_w) (ha.use ok fun vs H1 s _ rs => ⟨by rw [rs.len]; exact hl, fun D hD => ⟨s.trans (same_new hD), D, vs, rfl, .inl (.inl upd_same), rs.up (same_new hD)⟩⟩)
def PT_ (X : Cx) (Γ : Cxt) (e : Option Expr) (o : Option Int) : Prop := ∃ t, PO X e t ∧ ∀ σ H, OKc Γ σ H → ∀ Q : Option Int → Hp → Prop, (∀ H', Same H H' → OKc Γ σ H' → Q o H') → t σ H Q
theorem pt_no : PT_ X Γ none none := ⟨_, po_none, fun σ H ok Q k => k H (Same.refl H) ok⟩
theorem pt_at {i : Int} (h : ET X Γ e (tI i)) : PT_ X Γ (some e) (some i) := ⟨_, po_some pe_w, fun σ H ok Q k => h.use ok fun v H1 s ok1 e => ⟨i, e, k H1 s ok1⟩⟩
theorem tvs_cut {vs : List V} {H : Hp} (h : TVs vs Rs H) (lo hi : Option Int) : TVs (cutV vs lo hi) ((Rs.drop (HT.sIx Rs.length 0 lo)).take (HT.sIx Rs.length Rs.length hi - HT.sIx Rs.length 0 lo)) H := by
  unfold cutV
  rw [h.len]
  exact (h.drop _).take _
def cutR (Rs : List Ty) (lo hi : Option Int) : List Ty := (Rs.drop (HT.sIx Rs.length 0 lo)).take (HT.sIx Rs.length Rs.length hi - HT.sIx Rs.length 0 lo)
theorem ef_slL {lo hi : Option Expr} {l h : Option Int} {p2 : Pos} (ha : ET X Γ a (tL X.K Rs)) (hl : PT_ X Γ lo l) (hh : PT_ X Γ hi h) : EF X Γ (.Subscript a (.Slice lo hi none p2) pos) (cutR Rs l h) := by
  obtain ⟨tl, pl, kl⟩ := hl
  obtain ⟨th, ph, kh⟩ := hh
  refine fun σ H ok => wE_of (pe_slice sl_list pe_w pl ph) (ha.use ok fun v H1 s ok1 r => kl σ H1 ok1 _ fun H2 s2 ok2 => kh σ H2 ok2 _ fun H3 s3 ok3 => ?_)
  obtain ⟨q, xs, e, hq, ht⟩ := (tL X.K Rs).mono (s2.trans s3) r
  exact ⟨q, xs, e, hq, fun D hD => ⟨((s.trans s2).trans s3).trans (same_new hD), D, rfl, ((s.trans s2).trans s3).free hD, rfl, _, upd_same, (tvs_cut ht l h).up (same_new hD)⟩⟩
theorem et_slT {lo hi : Option Expr} {l h : Option Int} {p2 : Pos} (ha : ET X Γ a (tT X.K Rs)) (hl : PT_ X Γ lo l) (hh : PT_ X Γ hi h) : ET X Γ (.Subscript a (.Slice lo hi none p2) pos) (tT X.K (cutR Rs l h)) := by
  obtain ⟨tl, pl, kl⟩ := hl
  obtain ⟨th, ph, kh⟩ := hh
  refine fun σ H ok => wE_of (pe_slice sl_tupA pe_w pl ph) (ha.use ok fun v H1 s ok1 r => kl σ H1 ok1 _ fun H2 s2 ok2 => kh σ H2 ok2 _ fun H3 s3 ok3 => ?_)
  obtain ⟨q, xs, e, hq, ht⟩ := (tT X.K Rs).mono (s2.trans s3) r
  refine ⟨q, xs, e, hq, fun he => ⟨(s.trans s2).trans s3, q, xs, rfl, hq, ?_⟩, fun _ D hD => ⟨((s.trans s2).trans s3).trans (same_new hD), D, _, rfl, .inl (.inl upd_same), (tvs_cut ht l h).up (same_new hD)⟩⟩
  rw [ht.len] at he
  unfold cutR
  rw [he.1, he.2]
  simpa using ht
theorem cut_to {n : Nat} (h : n ≤ Rs.length) : cutR Rs none (some (n : Int)) = Rs.take n := by
  unfold cutR HT.sIx
  simp only []
  rw [if_neg (by omega)]
  simp [Nat.min_eq_left h]
theorem cut_from {n : Nat} : cutR Rs (some (n : Int)) none = Rs.drop n := by
  unfold cutR HT.sIx
  simp only []
  rw [if_neg (by omega)]
  simp only [Int.toNat_natCast]
  by_cases h : n ≤ Rs.length
  · rw [Nat.min_eq_left h]
    exact List.take_of_length_le (by simp)
  · rw [Nat.min_eq_right (by omega), List.drop_of_length_le (Nat.le_refl _), List.drop_of_length_le (by omega)]
    simp
theorem ef_cat (hl : Rs.length + Ss.length ≤ sizeLine) (h1 : ET X Γ a (tLn [] Rs)) (h2 : ET X Γ b (tLn [] Ss)) : EF X Γ (.BinOp a .Add b pos) (Rs ++ Ss) := by
  refine fun σ H ok => wE_of (pe_op op_cat pe_w pe_w) ?_
  refine h1.use ok fun v H1 s1 ok1 r1 => h2.use ok1 fun u H2 s2 ok2 r2 => ?_
  obtain ⟨D, xs, e1, _, hx, tx⟩ := (tLn [] Rs).mono s2 r1
  obtain ⟨E, ys, e2, _, hy, ty⟩ := r2
  exact ⟨D, E, xs, ys, e1, e2, hx, hy, by rw [tx.len, ty.len]; exact hl, fun q hq => ⟨(s1.trans s2).trans (same_new hq), q, rfl, (s1.trans s2).free hq, rfl, _, upd_same, (tx.app ty).up (same_new hq)⟩⟩
end
end SL
set_option exponentiation.threshold 256
set_option maxRecDepth 100000
set_option maxHeartbeats 1000000
namespace SL
open PySem PySem.Spec PyProof.Rows L2
section
variable {X : Cx} {Γ Δ Θ : Cxt} {e a b c tg iter : Expr} {R S U : Ty} {Rs Ss : List Ty} {pos p : Pos} {K : PySem.W.Frag} {m : List Addr} {t : Tg} {rest : List Stmt} {D : Addr}
/-- what stays known when D is new -/
def SubN (D : Addr) (Γ Δ : Cxt) : Prop := Γ.length = Δ.length ∧ ∀ (i : Nat) (R : Ty), Δ[i]? = some (some R) → ∃ S, Γ[i]? = some (some S) ∧ ∀ v H, H D = none → S.p v H → R.p v H
theorem SubN.refl (Γ : Cxt) : SubN D Γ Γ := ⟨rfl, fun _ R h => ⟨R, h, fun _ _ _ x => x⟩⟩
theorem new_Ln {v : V} {H : Hp} (h : H D = none) (r : (tLn m Rs).p v H) : (tLn (D :: m) Rs).p v H := by
  obtain ⟨a, xs, e, hn, hq, ht⟩ := r
  refine ⟨a, xs, e, fun z => ?_, hq, ht⟩
  rcases List.mem_cons.mp z with z | z
  · subst z; rw [h] at hq; cases hq
  · exact hn z
/-- D itself, seen from a newer list -/
theorem new_D {E : Addr} {v : V} {H : Hp} (h : H E = none) (r : (tD D Rs).p v H) : D ≠ E := fun z => by
  obtain ⟨_, xs, hq, _⟩ := r
  rw [z, h] at hq; cases hq
theorem new_fin {i : Nat} {Δ : Addr → Cxt} (hΔ : ∀ D, SubN D Γ (Δ D)) (hb : ∀ D, (∀ (i : Nat) (E : Addr) (Ss : List Ty), Γ[i]? = some (some (tD E Ss)) → E ≠ D) → BT X ((Δ D).set i (some (tD D Rs))) rest { t with mu := D :: t.mu })
    {σ : L2.St} {H H1 : Hp} {E : Ends} (ok : OKc Γ σ H) (te : t.Ok H E) (s1 : Same H H1) {D : Addr} (n : H D = none) (d : (tD D Rs).p (.ref D) H1) : wB X rest E (σ.set i (some (.ref D))) H1 := by
  have ok0 : OKc (Δ D) σ H := ⟨ok.1.trans (hΔ D).1, fun i R hi => let ⟨S, a, b⟩ := (hΔ D).2 i R hi; let ⟨v, c, d⟩ := ok.2 i S a; ⟨v, c, b _ _ n d⟩⟩
  refine hb D (fun i F Ss hi => ?_) _ H1 E ((ok0.up s1).put i d) ⟨fun G q σ' H' s' o => te.nx G q σ' H' (s'.drop s1.m n) o, fun G q v H' s' o => te.rt G q v H' (s'.drop s1.m n) o, fun G q σ' H' s' o => te.bk G q σ' H' (s'.drop s1.m n) o, fun G q σ' H' s' o => te.ct G q σ' H' (s'.drop s1.m n) o⟩
  obtain ⟨u, _, r⟩ := ok.2 i _ hi
  exact new_D n r
theorem bt_new {i : Nat} {x : Str} {pos' : Pos} (hN : X.N.Nodup) (hi : X.N[i]? = some x) (hx : Loc X.env.scope x) (he : EF X Γ e Rs) (Δ : Addr → Cxt) (hΔ : ∀ D, SubN D Γ (Δ D)) (hb : ∀ D, (∀ (i : Nat) (E : Addr) (Ss : List Ty), Γ[i]? = some (some (tD E Ss)) → E ≠ D) → BT X ((Δ D).set i (some (tD D Rs))) rest { t with mu := D :: t.mu })
    (hs : swapsWith e (some (.Name x pos')) pos.line X.env = pure false) (hf : X.fn x = true ∨ X.env.scope.names.lookup x = some .local) : BT X Γ (.Assign [.Name x pos'] e pos :: rest) t := fun σ H E ok te =>
  wB_of (pss_cons (ps_set hN hi hx pe_w hs hf) pb_w) (wE_imp (he σ H ok) fun v H1 ⟨s1, D, ev, n, d⟩ => by subst ev; exact new_fin hΔ hb ok te s1 n d)
/-- x = [.. for ..] -/
theorem bt_newLC {i : Nat} {x : Str} {py : Pos} {elt : Expr} {ifs : List Expr} {scope : Scope} {own : List (Str × Nat)} (h : LC_ X Γ tg iter ifs elt scope own Rs) (hc : X.calm = true) (hN : X.N.Nodup) (hi : X.N[i]? = some x) (hx : List.lookup x X.env.scope.names = some .local) (Δ : Addr → Cxt) (hΔ : ∀ D, SubN D Γ (Δ D))
    (hb : ∀ D, (∀ (i : Nat) (E : Addr) (Ss : List Ty), Γ[i]? = some (some (tD E Ss)) → E ≠ D) → BT X ((Δ D).set i (some (tD D Rs))) rest { t with mu := D :: t.mu })
    (hk : X.env.scope.kind = ScopeKind.function := by rfl) (hl : (py.line == p.line) = true := by rfl)
    (ha : (scope.names.any fun z => match z with | (n, k) => n == x && (k == NameKind.local || k == NameKind.cell)) = false := by rfl) (hs : ∀ x, foldedSetIterable iter X.env x = pure x := by intro _; rfl) :
    BT X Γ (.Assign [.Name x py] (.ListComp elt [⟨tg, iter, ifs, 0⟩] scope p) pos :: rest) t := fun σ H E ok te => by
  obtain ⟨wi, g, tt, tE, h1, h2, h3, h4, h5, h6⟩ := h
  exact wB_of (pss_cons (ps_setLc hc hN hi hx (sw_true hk hx hl ha) h1 h5 h2 h3 h4 hs) pb_w) (show tLc wi g tt tE (own.map (·.2)) σ H (fun x H1 => wB X rest E (σ.set i (some x)) H1) from h6 σ H ok _ fun D H' s n d => new_fin hΔ hb ok te s n d)
theorem st_setLC {i : Nat} {x : Str} {py : Pos} {elt : Expr} {ifs : List Expr} {scope : Scope} {own : List (Str × Nat)} (h : LC_ X Γ tg iter ifs elt scope own Rs) (hc : X.calm = true) (hN : X.N.Nodup) (hi : X.N[i]? = some x) (hx : List.lookup x X.env.scope.names = some .local) (hn : t.nx = some Δ) (hΔ : Sub (Γ.set i (some (tLn [] Rs))) Δ)
    (hk : X.env.scope.kind = ScopeKind.function := by rfl) (hl : (py.line == p.line) = true := by rfl)
    (ha : (scope.names.any fun z => match z with | (n, k) => n == x && (k == NameKind.local || k == NameKind.cell)) = false := by rfl) (hs : ∀ x, foldedSetIterable iter X.env x = pure x := by intro _; rfl) :
    ST X Γ (.Assign [.Name x py] (.ListComp elt [⟨tg, iter, ifs, 0⟩] scope p) pos) t := fun σ H E ok te => by
  obtain ⟨wi, g, tt, tE, h1, h2, h3, h4, h5, h6⟩ := h
  exact wS_of (ps_setLc hc hN hi hx (sw_true hk hx hl ha) h1 h5 h2 h3 h4 hs) (show tLc wi g tt tE (own.map (·.2)) σ H (fun x H1 => E.nx (σ.set i (some x)) H1) from h6 σ H ok _ fun D H' s n d => te.nx Δ hn _ H' s.m (((ok.up s).put i (R := tLn [] Rs) (tD_Ln (D := D) _ H' d)).sub hΔ))
theorem stb_D {E : Addr} (hs : ∀ R ∈ Rs, Stb m R) (h : E ∉ m) : Stb m (tD E Rs) := fun v H H' e ⟨h1, xs, h2, h3⟩ => by
  refine ⟨h1, xs, ?_, h3.stb hs e⟩
  rcases e _ _ h2 with x | ⟨x, _⟩
  · exact x
  · exact absurd x h
def StbX (m : List Addr) (Γ : Cxt) (j : Nat) : Prop := ∀ k R, k ≠ j → Γ[k]? = some (some R) → Stb m R
theorem ok_ch {j : Nat} {σ : L2.St} {H : Hp} {xs ys : List V} (ok : OKc Γ σ H) (hS : StbX [D] Γ j) (hj : Γ[j]? = some (some (tD D Rs))) (hD : H D = some (.lst xs)) (hv : TVs ys Ss (upd H D (.lst ys))) : OKc (Γ.set j (some (tD D Ss))) σ (upd H D (.lst ys)) := by
  refine ⟨by rw [List.length_set]; exact ok.1, fun k R hk => ?_⟩
  by_cases e : j = k
  · subst e
    obtain ⟨v, h1, h2⟩ := ok.2 j _ hj
    rw [List.getElem?_set_self (List.getElem?_eq_some_iff.mp hj).1] at hk
    cases hk
    exact ⟨v, h1, h2.1, ys, upd_same, hv⟩
  · rw [List.getElem?_set_ne e] at hk
    obtain ⟨v, h1, h2⟩ := ok.2 k R hk
    exact ⟨v, h1, hS k R (fun z => e z.symm) hk v H _ (SameM.put hD (List.mem_singleton.mpr rfl)) h2⟩
theorem st_setI {j n : Nat} {p2 : Pos} {i : Int} (hin : i = n) (hn : n < Rs.length) (he : ET X Γ e R) (hx : ET X Γ a (tD D Rs)) (hi : ET X Γ b (tI i)) (hmu : D ∈ t.mu) (hS : StbX [D] Γ j) (hj : Γ[j]? = some (some (tD D Rs))) (hR : Stb [D] R) (hRs : ∀ S ∈ Rs, Stb [D] S)
    (h : t.nx = some Δ) (hΔ : Sub (Γ.set j (some (tD D (Rs.set n R)))) Δ)
    (ha : ∀ (v : Value), assign (a.Subscript b p2) X.env v = (do
                let ov ← holding [v] (eval a X.env)
                let iv ← holding [v, ov] (eval b X.env)
                standAt p2
                holding [v, ov, iv] (setItem ov iv v)
                release [v, ov, iv] []) := by intro _; rfl)
    (hs : swapsWithSole [.Subscript a b p2] e pos.line X.env = pure false := by rfl) (hw : swappedStores [.Subscript a b p2] e X.env = pure none := by rfl)
    (h1 : (assignEach [.Subscript a b p2] X.env).map (·.2) = [assign (.Subscript a b p2) X.env] := by rfl) : ST X Γ (.Assign [.Subscript a b p2] e pos) t := fun σ H E ok te => by
  refine wS_of (ps_asg pe_w (pg_sub pe_w pe_w set_list ha) hs hw h1) (he.use ok fun v H1 s1 ok1 r => hx.use ok1 fun u H2 s2 ok2 d => hi.use ok2 fun w H3 s3 ok3 ew => ?_)
  obtain ⟨eu, xs, hD, tx⟩ := (tD D Rs).mono s3 d
  have hl : n < xs.length := by rw [tx.len]; exact hn
  have s : Same H H3 := (s1.trans s2).trans s3
  refine ⟨D, xs, i, n, eu, ew, hD, by rw [hin]; exact ixN_nat hl, te.nx Δ h _ _ (s.m.trans (SameM.put hD hmu)) (OKc.sub (ok_ch ok3 hS hj hD ?_) hΔ)⟩
  exact (tx.put n (R.mono (s2.trans s3) r)).stb (fun S hS => (List.mem_or_eq_of_mem_set hS).elim (hRs S) fun z => z ▸ hR) (SameM.put hD (List.mem_singleton.mpr rfl))
theorem st_app {j : Nat} {apos cpos : Pos} (hl : Rs.length < sizeLine) (hx : ET X Γ a (tD D Rs)) (he : ET X Γ e R) (hmu : D ∈ t.mu) (hS : StbX [D] Γ j) (hj : Γ[j]? = some (some (tD D Rs))) (hR : Stb [D] R) (hRs : ∀ S ∈ Rs, Stb [D] S)
    (h : t.nx = some Δ) (hΔ : Sub (Γ.set j (some (tD D (Rs ++ [R])))) Δ)
    (h1 : attributeBase a "append" X.env (eval a X.env) = eval a X.env := by rfl)
    (h2 : ((backTo cpos (starEach [e] X.env)).all fun x => !x.1) && ((backToKw cpos (keywordEach [] X.env)).all fun x => x.1.isSome) && decide ([e].length + ([] : List (Option Str × Expr × Pos)).length + (if ([] : List (Option Str × Expr × Pos)).isEmpty then 0 else 1) < 30) = true := by rfl)
    (h3 : (apos.endLine == cpos.line) = true := by rfl) (h4 : starEach [e] X.env = (false, eval e X.env) :: starEach [] X.env := by rfl) (h5 : (backTo cpos (starEach [] X.env)).any (·.1) = false := by rfl)
    (hs : swapsWith (.Call (.Attribute a "append" apos) [e] [] cpos) none pos.line X.env = pure false := by rfl) : ST X Γ (.Expr (.Call (.Attribute a "append" apos) [e] [] cpos) pos) t := fun σ H E ok te => by
  refine wS_of (ps_expr (pe_bm PySem.F.plainAttrs_list PySem.F.slot_list_append PySem.F.type_list_append mt_append pe_w (pa_cons pe_w pa_nil h4) h1 h2 h3 h4 h5) hs) (hx.use ok fun u H1 s1 ok1 d => ⟨?_, he.use ok1 fun v H2 s2 ok2 r => ?_⟩)
  · obtain ⟨eu, xs, hD, _⟩ := d
    subst eu
    exact .inl ⟨rfl, xs, SqL.of hD⟩
  · obtain ⟨eu, xs, hD, tx⟩ := (tD D Rs).mono s2 d
    refine ⟨D, xs, v, eu, rfl, hD, by rw [tx.len]; exact hl, te.nx Δ h _ _ ((s1.trans s2).m.trans (SameM.put hD hmu)) (OKc.sub (ok_ch ok2 hS hj hD ?_) hΔ)⟩
    have one : TVs [v] [R] H2 := ⟨r, trivial⟩
    refine (tx.app one).stb (fun S hS => ?_) (SameM.put hD (List.mem_singleton.mpr rfl))
    rcases List.mem_append.mp hS with z | z
    · exact hRs S z
    · rw [List.mem_singleton.mp z]; exact hR
theorem tvs_dropLast {vs : List V} {H : Hp} (h : TVs vs Rs H) : TVs vs.dropLast Rs.dropLast H := by
  rw [List.dropLast_eq_take, List.dropLast_eq_take, h.len]
  exact h.take _
theorem st_pop {j : Nat} {apos cpos : Pos} (hl : Rs ≠ []) (hx : ET X Γ a (tD D Rs)) (hmu : D ∈ t.mu) (hS : StbX [D] Γ j) (hj : Γ[j]? = some (some (tD D Rs))) (hRs : ∀ S ∈ Rs, Stb [D] S)
    (h : t.nx = some Δ) (hΔ : Sub (Γ.set j (some (tD D Rs.dropLast))) Δ)
    (h1 : attributeBase a "pop" X.env (eval a X.env) = eval a X.env := by rfl) (h3 : (apos.endLine == cpos.line) = true := by rfl)
    (hs : swapsWith (.Call (.Attribute a "pop" apos) [] [] cpos) none pos.line X.env = pure false := by rfl) : ST X Γ (.Expr (.Call (.Attribute a "pop" apos) [] [] cpos) pos) t := fun σ H E ok te => by
  refine wS_of (ps_expr (pe_bm0 PySem.F.plainAttrs_list PySem.F.slot_list_pop PySem.F.type_list_pop mt_pop pe_w h1 h3) hs) (hx.use ok fun u H1 s1 ok1 d => ?_)
  obtain ⟨eu, xs, hD, tx⟩ := d
  subst eu
  refine ⟨.inl ⟨rfl, xs, SqL.of hD⟩, ?_⟩
  have hp : xs.length - 1 < xs.length := by
    have := tx.len
    have := List.length_pos_iff.mpr hl
    omega
  refine ⟨D, xs, xs[xs.length - 1], rfl, rfl, hD, List.getElem?_eq_getElem hp, te.nx Δ h _ _ (s1.m.trans (SameM.put hD hmu)) (OKc.sub (ok_ch ok1 hS hj hD ?_) hΔ)⟩
  exact (tvs_dropLast tx).stb (fun S hS => hRs S (List.dropLast_subset _ hS)) (SameM.put hD (List.mem_singleton.mpr rfl))
end
end SL
set_option exponentiation.threshold 256
set_option maxRecDepth 100000
set_option maxHeartbeats 1000000
namespace SL
open PySem PySem.Spec PyProof.Rows L2
theorem newClass_enum (v : Value) : Builtin.SmallTypes.newClass "enumerate" { pos := [Value.type "enumerate", v] } = pure (Value.type "enumerate", [v]) := by
  unfold Builtin.SmallTypes.newClass
  show (isType (Value.type "enumerate") >>= _) = _
  have e1 : isType (Value.type "enumerate") = pure true := rfl
  rw [e1]
  show (isSubtype (Value.type "enumerate") (Value.type "enumerate") >>= _) = _
  rw [sub_enumerate]
  rfl
theorem meets_enum1 {v : Value} {o : Obj} {H : Heap → Prop} (B : Begins v o H) : Meets (Builtin.«enumerate.__new__» { pos := [Value.type "enumerate", v] }) fun _ R s =>
        H s.heap ∧
          R (Except.ok (Flow.ret (Value.ref (s.heap.push o).objs.size)))
            { heap := (s.heap.push o).push { cls := Value.type "enumerate", data := Data.fields #[Value.none, Value.bool false, Value.ref s.heap.objs.size, rawInt 0, Value.none, Value.none] },
              gens := s.gens, drawn := s.drawn, toks := s.toks, os := s.os } := by
  apply Meets.of_wp
  intro prog w A R s h
  obtain ⟨h1, h2⟩ := h
  unfold Builtin.«enumerate.__new__»
  refine wpAny_bind (wpAny_of_eq (newClass_enum v) ?_)
  simp only [beq_self_eq_true, if_true]
  refine wpAny_bind ?_
  unfold Builtin.SmallTypes.calledThroughType
  refine wpAny_bind (wpAny_stack_any fun st => wpAny_pure ?_)
  have fin : wpAny (model prog w) A.in1 (do
          let __do_lift ← pyIter v
          let __do_lift ← Builtin.SmallTypes.newRecord (Value.type "enumerate") (Builtin.SmallTypes.ownedTupleFields ++ [__do_lift, rawInt 0, Value.none, Value.none])
          ret __do_lift) (fun fin s' => ∃ v, fin = Fin.done (Flow.ret v) ∧ R (Except.ok (Flow.ret v)) s')
          (fun e s' => R (Except.error e) s') s := by
    refine wpAny_bind (B.iter _ _ _ _ _ _ h1 ?_)
    refine wpAny_bind ?_
    unfold Builtin.SmallTypes.newRecord newObj newObjAsIs
    dsimp only
    rw [if_neg (by simp [Builtin.SmallTypes.ownedTupleFields, sizeLine])]
    refine wpAny_bind (wpAny_alloc' (wpAny_pure (wpAny_pure ⟨_, rfl, ?_⟩)))
    exact h2
  split
  · split
    · refine wpAny_bind (wpAny_of_eq (a := (v, none)) rfl ?_)
      exact fin
    · refine wpAny_bind (wpAny_of_eq (a := (v, none)) rfl ?_)
      exact fin
  · split
    · refine wpAny_bind (wpAny_of_eq (a := (v, none)) rfl ?_)
      exact fin
    · refine wpAny_bind (wpAny_of_eq (a := (v, none)) rfl ?_)
      exact fin

theorem call_enum1 {prog : Program} {w : World} {A : Around} {E : Value → Shared → Prop} {s : Shared} {t : Addr} {items : Array Value} {Q : Value → Shared → Prop} (h : s.heap.IsTuple t items)
    (k : ∀ (h' : Heap), IsEnum h' (s.heap.objs.size + 1) s.heap.objs.size 0 Value.none → h'.IsTupleIter s.heap.objs.size t 0 → h'.objs.size = s.heap.objs.size + 2 → (∀ (b : Addr) (o : Obj), s.heap.get? b = some o → h'.get? b = some o) →
      Q (Value.ref (s.heap.objs.size + 1)) { heap := h', gens := s.gens, drawn := s.drawn, toks := s.toks, os := s.os }) : wpAny (model prog w) A (call (Value.type "enumerate") [Value.ref t]) Q E s := by
  refine callType_new F.called_enumerate rfl (F.typeCall_enumerate_1 _) (F.newCall_enumerate_1 _) (fun obj => F.args_object_init_2 _ _) F.entry_enumerate_new (meets_enum1 (begins_tuple t items)) ⟨h, ?_⟩
  have f1 : ({ cls := Value.type "tuple_iterator", data := Data.fields #[Value.ref t, Value.int 0 0] } : Obj).isFreed = false := rfl
  have f2 : ({ cls := Value.type "enumerate", data := Data.fields #[Value.none, Value.bool false, Value.ref s.heap.objs.size, rawInt 0, Value.none, Value.none] } : Obj).isFreed = false := rfl
  have g1 := Heap.get?_push_size s.heap f1
  have g2 := Heap.get?_push_size (s.heap.push { cls := Value.type "tuple_iterator", data := Data.fields #[Value.ref t, Value.int 0 0] }) f2
  have z1 : (s.heap.push { cls := Value.type "tuple_iterator", data := Data.fields #[Value.ref t, Value.int 0 0] }).objs.size = s.heap.objs.size + 1 := Heap.size_push _ _
  rw [z1] at g2
  refine ⟨?_, ?_⟩
  · show Shared.TypeIs _ (Value.ref (Heap.push _ _).objs.size) "enumerate"
    rw [z1]
    exact ⟨_, g2, rfl⟩
  · show Q (Value.ref (Heap.push _ _).objs.size) _
    rw [z1]
    refine k _ g2 ⟨_, Heap.get?_push_of_some _ g1, rfl, rfl⟩ ?_ fun b o hb => Heap.get?_push_of_some _ (Heap.get?_push_of_some _ hb)
    rw [Heap.size_push, z1]
def IteT (K : PySem.W.Frag) (a : Addr) : It where
  go i H := ∃ xs x, SqT K H a xs ∧ xs[i]? = some x
  yld i H v H' := ∃ T x, v = V.ref T ∧ H T = none ∧ H' = upd H T (HO.tup [V.int i, x]) ∧ ∀ (xs : List V), SqT K H a xs → xs[i]? = some x
  stop i H := ∃ xs, SqT K H a xs ∧ xs.length ≤ i
theorem turn_enumT {P : Program} {w : World} {K : PySem.W.Frag} {elts : List Expr} {kk : Nat} {tpos : Pos} (a e it : Addr) : Turn P w K (Expr.Tuple elts kk tpos) (IteT K a) [e, it] e fun i h =>
    (∃ old, IsEnum h e it (↑i) old) ∧ h.IsTupleIter it a i ∧ e ≠ it where
  mem := by simp
  obj i h := by
    rintro ⟨⟨old, h1⟩, ⟨o, h2, h3, h4⟩, _⟩ b hb
    simp at hb
    rcases hb with hb | hb
    · subst hb; exact ⟨_, h1, fun v z => by cases z⟩
    · subst hb; exact ⟨_, h2, fun v z => by rw [h4] at z; cases z⟩
  keep i h h' := by
    rintro ⟨⟨old, h1⟩, ⟨o, h2, h3, h4⟩, ne⟩ k
    exact ⟨⟨old, k e (by simp) _ h1⟩, ⟨o, k it (by simp) _ h2, h3, h4⟩, ne⟩
  item X hP hw hK hc i pins s σ H E I fp := by
    rintro ⟨⟨old, h1⟩, ⟨o, h2, h3, h4⟩, ne⟩ ⟨xs, x, hx, hi⟩
    subst hP hw hK
    obtain ⟨its, vs, ht, hl⟩ := I.tuple hx
    obtain ⟨u, hu, ru⟩ := vs.get hi
    have hti : it ≠ a := fun z => by
      subst z
      obtain ⟨o', g1, g2, _⟩ := ht
      rw [g1] at h2; cases h2; rw [g2] at h3; exact absurd h3 (by decide)
    have hte : e ≠ a := fun z => by
      subst z
      obtain ⟨o', g1, g2, _⟩ := ht
      have h1' := h1; unfold IsEnum at h1'; rw [g1] at h1'; cases h1'; exact absurd (show Value.type "enumerate" = Value.type "tuple" from g2) (by decide)
    have hsz : i < its.toArray.size := by
      have := (List.getElem?_eq_some_iff.mp hu).1
      simpa using this
    have D := Draws.tuple (prog := X.prog) (w := X.w) (A := X.A.in1) (I.ok.hd hc) it a (fun z => hti z.symm) its.toArray
    refine wpAny_pyNext_enum_itemD D h1 ⟨⟨o, h2, h3, h4⟩, ht⟩ hsz ne (by simp; exact ⟨ne, hte⟩) fun y h' tk hy ho hs hg hz hk => ?_
    refine ⟨_, rfl, wpAny_letOwnedTupleGo_enum ho fun h'' g1 g2 => ?_⟩
    have hyu : y = u := by
      have : its[i]? = some y := by simpa using hy
      rw [hu] at this; cases this; rfl
    subst hyu
    have hf : H s.heap.objs.size = none := I.hok.fresh (Nat.le_refl _)
    have hlt : ∀ {b : Addr} {o : Obj}, s.heap.get? b = some o → b < s.heap.objs.size := fun g => Heap.lt_size g
    have hne : s.heap.objs.size ≠ e := fun z => Nat.lt_irrefl _ (z ▸ hlt h1)
    refine ⟨V.ref s.heap.objs.size, upd H s.heap.objs.size (HO.tup [V.int i, x]), ?_, rfl, ⟨_, x, rfl, hf, rfl, fun ys hy => ?_⟩, ⟨⟨_, g1⟩, ?_, ne⟩, fun b hb => ?_⟩
    · refine I.turnedNew (ch := [e, it]) (h' := h'') (t' := tk + 1) (fun b o hb hg => ?_) (fun b hb => fp b hb) (Nat.le_refl _) ?_
      · simp at hb
        rw [g2.2 b hb.1]
        exact hk b o hb.1 hb.2 hg
      · refine ⟨by simp [sizeLine], [Value.int i tk, y], .cons ⟨tk, rfl⟩ (.cons ru .nil), _, (g2.2 _ hne).trans hg, rfl, _, rfl⟩
    · have := I.tuple_inj hy hx
      subst this
      exact hi
    · obtain ⟨o3, z1, z2, z3⟩ := hs.1
      refine ⟨o3, ?_, z2, z3⟩
      show h''.get? it = _
      rw [g2.2 _ fun z => ne z.symm]
      exact z1
    · have : b ≠ s.heap.objs.size := fun z => by
        simp at hb
        rcases hb with hb | hb
        · rw [hb] at z; exact hne z.symm
        · rw [hb] at z; exact Nat.lt_irrefl _ (z ▸ hlt h2)
      rw [upd_ne this]
      exact (fp b hb).1
  done X hP hw hK hc i pins s σ H E I fp := by
    rintro ⟨⟨old, h1⟩, ⟨o, h2, h3, h4⟩, ne⟩ ⟨xs, hx, hl⟩
    subst hP hw hK
    obtain ⟨its, vs, ht, hl2⟩ := I.tuple hx
    have hti : it ≠ a := fun z => by
      subst z
      obtain ⟨o', g1, g2, _⟩ := ht
      rw [g1] at h2; cases h2; rw [g2] at h3; exact absurd h3 (by decide)
    have hn : its.toArray[i]? = none := by
      have := vs.length
      simp
      omega
    have D : Draws X.prog X.w X.A.in1 it [it, a] i (fun _ _ => False) (fun j h => j = i ∧ h.IsTupleIter it a i ∧ h.IsTuple a its.toArray) := by
      refine ⟨?_, ?_, ?_, ?_⟩
      · rintro j h ⟨_, ⟨o, z, _⟩, _⟩
        exact ⟨o, z⟩
      · rintro j h h' ⟨e1, ⟨o, z1, z2⟩, ⟨o', y1, y2⟩⟩ k
        exact ⟨e1, ⟨o, k it (by simp) _ z1, z2⟩, ⟨o', k a (by simp) _ y1, y2⟩⟩
      · rintro j s Q E hj ⟨e1, _⟩
        omega
      · rintro s Q E ⟨_, z1, z2⟩ k
        exact RZ.nextOf_tuple_end (I.ok.hd hc) z1 z2 hn k
    refine wpAny_pyNext_enum_endD D h1 ⟨rfl, ⟨o, h2, h3, h4⟩, ht⟩ fun h' hx => ⟨rfl, ?_⟩
    have f := fp it (by simp)
    exact I.turned hx f.1 f.2.1 f.2.2.2.1 f.2.2.2.2.1 f.2.2.2.2.2
  self A i s Q E := by
    rintro ⟨⟨old, h1⟩, _⟩ q
    exact wpAny_pyIter_enum h1 q
def iEnumT (K : PySem.W.Frag) (ta : TA) : TI := fun σ H R => ta σ H fun vs H1 => ∃ a xs, vs = [V.ref a] ∧ SqT K H1 a xs ∧ R (IteT K a) H1
theorem vals_ref {a : Addr} {us : List Value} (h : Vals [V.ref a] us) : us = [Value.ref a] := by
  cases h with
  | cons r rest =>
    cases rest
    have e : _ = Value.ref a := r
    rw [e]
theorem enum_fin {X : Cx} {pins : List (Addr × Obj)} {σ : L2.St} {H1 : Hp} {s1 : Shared} {elts : List Expr} {kk : Nat} {tpos : Pos} {a : Addr} {xs : List V} {R : It → Hp → Prop} (I1 : L2.Inv X pins σ H1 s1) (hx : SqT X.K H1 a xs) (hR : R (IteT X.K a) H1) :
    wpAny (model X.prog X.w) X.A (call (Value.type "enumerate") [Value.ref a]) (fun v s1 => wpAny (model X.prog X.w) X.A (pyIter v) (PIE X pins σ (Expr.Tuple elts kk tpos) R) X.xe s1) X.xe s1 := by
  obtain ⟨its, vv, ht, _⟩ := I1.tuple hx
  refine call_enum1 ht fun h' g1 g2 g3 g4 => wpAny_pyIter_enum g1 ?_
  have I2 := I1.kept (t' := s1.toks) g4
  refine ⟨_, [s1.heap.objs.size + 1, s1.heap.objs.size], _, IteT X.K a, H1, rfl, I2, turn_enumT a _ _, ⟨⟨_, g1⟩, g2, Nat.succ_ne_self _⟩, fun b hb => ?_, hR⟩
  rcases List.mem_cons.mp hb with hb | hb
  · subst hb; exact I1.fpOk (Nat.le_succ _) (I1.hok.fresh (Nat.le_succ _))
  · rw [List.mem_singleton.mp hb]; exact I1.fpOk (Nat.le_refl _) (I1.hok.fresh (Nat.le_refl _))
theorem pi_enumT {X : Cx} {e : Expr} {ta : TA} {p pos tpos : Pos} {elts : List Expr} {kk : Nat} (hg : Gl X "enumerate") (hm : X.mg "enumerate" = none) (ha : PA X [e] ta) (hs : starEach [e] X.env = (false, eval e X.env) :: starEach [] X.env := by rfl) (hp : (backTo pos (starEach [] X.env)).any (·.1) = false := by rfl) :
    PI X (Expr.Tuple elts kk tpos) ((Expr.Name "enumerate" p).Call [e] [] pos) (iEnumT X.K ta) := by
  constructor
  intro pins s σ H R I h
  refine Call_ (ld_blt I hg hm boot_enumerate ?_)
  refine callWith_type1 (thn (ha.run pos pins s σ H _ I h) ?_) hs hp
  rintro us s1 ⟨vs, H1, I1, rv, a, xs, e1, hx, hR⟩
  subst e1
  rw [vals_ref rv]
  exact enum_fin I1 hx hR
end SL
set_option exponentiation.threshold 256
set_option maxRecDepth 100000
set_option maxHeartbeats 1000000
namespace SL
open PySem PySem.Spec PyProof.Rows L2
section
variable {X : Cx} {Γ Δ : Cxt} {e a b c tg iter : Expr} {R S U : Ty} {Rs Ss : List Ty} {pos p : Pos} {K : PySem.W.Frag} {m : List Addr} {elts : List Expr} {kk : Nat} {tpos : Pos}
theorem ln_keep {H1 H2 : Hp} {a : Addr} {xs : List V} (hq : H1 a = some (.lst xs)) (hn : a ∉ m) (s2 : SameM m H1 H2) : H2 a = some (.lst xs) := by
  rcases s2 _ _ hq with x | ⟨x, _⟩
  · exact x
  · exact absurd x hn
/-- enumerate(a), a tuple -/
theorem it_enumT {Rf : Nat → Ty} (hg : Gl X "enumerate") (hm : X.mg "enumerate" = none) (he : ET X Γ a (tT X.K Rs)) (hR : ∀ i, i < Rs.length → Rs[i]? = some (Rf i)) (hmS : ∀ R ∈ Rs, Stb m R) (hs : starEach [a] X.env = (false, eval a X.env) :: starEach [] X.env := by rfl) :
    IT_ m X Γ (.Tuple elts kk tpos) (.Call (.Name "enumerate" p) [a] [] pos) Rs.length fun i => tT X.K [tI i, Rf i] := by
  refine ⟨_, pi_enumT hg hm pa_w hs, fun σ H ok Rk h => (at_one he hs).use ok fun vs H1 s1 ok1 r => ?_⟩
  obtain ⟨v, ev, r⟩ := tvs_one r
  obtain ⟨q, xs, e1, hq, rs⟩ := r
  refine ⟨q, xs, by rw [ev, e1], hq, h _ H1 s1 ok1 fun H2 s2 => ⟨fun i hi => ?_, ⟨xs, sqT_m s2 hq, Nat.le_of_eq rs.len⟩⟩⟩
  obtain ⟨u, hu, ru⟩ := (rs.stb hmS s2).get (hR i hi)
  refine ⟨⟨xs, u, sqT_m s2 hq, hu⟩, fun y H' ⟨T, x, e2, hT, e3, hx⟩ => ?_⟩
  have e4 := hx xs (sqT_m s2 hq)
  rw [hu] at e4
  cases e4
  subst e3
  have sN := same_new (o := HO.tup [V.int i, u]) hT
  refine ⟨sN, T, _, e2, .inl (.inl upd_same), rfl, (Rf i).mono sN ru, trivial⟩
/-- enumerate(a), a list -/
theorem it_enumL {Rf : Nat → Ty} (hg : Gl X "enumerate") (hm : X.mg "enumerate" = none) (he : ET X Γ a (tLn m Rs)) (hR : ∀ i, i < Rs.length → Rs[i]? = some (Rf i)) (hmS : ∀ R ∈ Rs, Stb m R) (hs : starEach [a] X.env = [(false, eval a X.env)] := by rfl) :
    IT_ m X Γ (.Tuple elts kk tpos) (.Call (.Name "enumerate" p) [a] [] pos) Rs.length fun i => tT X.K [tI i, Rf i] := by
  refine ⟨_, pi_enum hg hm pa_w hs, fun σ H ok Rk h => (at_one he hs).use ok fun vs H1 s1 ok1 r => ?_⟩
  obtain ⟨v, ev, r⟩ := tvs_one r
  obtain ⟨q, xs, e1, hn, hq, rs⟩ := r
  refine ⟨q, xs, by rw [ev, e1], SqL.of hq, h _ H1 s1 ok1 fun H2 s2 => ⟨fun i hi => ?_, ⟨xs, SqL.of (ln_keep hq hn s2), Nat.le_of_eq rs.len⟩⟩⟩
  obtain ⟨u, hu, ru⟩ := (rs.stb hmS s2).get (hR i hi)
  refine ⟨⟨xs, u, SqL.of (ln_keep hq hn s2), hu⟩, fun y H' ⟨T, x, e2, hT, e3, hx⟩ => ?_⟩
  have e4 := hx xs (SqL.of (ln_keep hq hn s2))
  rw [hu] at e4
  cases e4
  subst e3
  have sN := same_new (o := HO.tup [V.int i, u]) hT
  exact ⟨sN, T, _, e2, .inl (.inl upd_same), rfl, (Rf i).mono sN ru, trivial⟩
/-- zip(a, b), tuples -/
theorem it_zipT {Rf Sf : Nat → Ty} {n : Nat} (hg : Gl X "zip") (hm : X.mg "zip" = none) (ha : ET X Γ a (tT X.K Rs)) (hb : ET X Γ b (tT X.K Ss)) (hn : n = min Rs.length Ss.length) (hR : ∀ i, i < n → Rs[i]? = some (Rf i)) (hS : ∀ i, i < n → Ss[i]? = some (Sf i)) (hmR : ∀ R ∈ Rs, Stb m R) (hmS : ∀ R ∈ Ss, Stb m R)
    (hs : starEach [a, b] X.env = (false, eval a X.env) :: starEach [b] X.env := by rfl) (hs2 : starEach [b] X.env = (false, eval b X.env) :: starEach [] X.env := by rfl) (hp : (backTo pos (starEach [b] X.env)).any (·.1) = false := by rfl) :
    IT_ m X Γ (.Tuple elts kk tpos) (.Call (.Name "zip" p) [a, b] [] pos) n fun i => tT X.K [Rf i, Sf i] := by
  refine ⟨_, RZ.pi_zipA hg hm pa_w hs hp, fun σ H ok Rk h => (at_two ha hb hs hs2).use ok fun vs H1 s1 ok1 r => ?_⟩
  obtain ⟨v, w, ev, r1, r2⟩ := tvs_two r
  obtain ⟨q, xs, e1, hq, rs⟩ := r1
  obtain ⟨q2, ys, e2, hq2, ss⟩ := r2
  refine ⟨q, q2, xs, ys, by rw [ev, e1, e2], .inr ⟨hq, hq2, h _ H1 s1 ok1 fun H2 s2 => ⟨fun i hi => ?_, ⟨xs, ys, sqT_m s2 hq, sqT_m s2 hq2, ?_⟩⟩⟩⟩
  · obtain ⟨u, hu, ru⟩ := (rs.stb hmR s2).get (hR i hi)
    obtain ⟨z, hz, rz⟩ := (ss.stb hmS s2).get (hS i hi)
    refine ⟨⟨xs, ys, u, z, sqT_m s2 hq, sqT_m s2 hq2, hu, hz⟩, fun y H' ⟨T, x, x2, e2, hT, e3, hx, hy⟩ => ?_⟩
    have e4 := hx xs (sqT_m s2 hq)
    rw [hu] at e4
    cases e4
    have e5 := hy ys (sqT_m s2 hq2)
    rw [hz] at e5
    cases e5
    subst e3
    have sN := same_new (o := HO.tup [u, z]) hT
    exact ⟨sN, T, _, e2, .inl (.inl upd_same), (Rf i).mono sN ru, (Sf i).mono sN rz, trivial⟩
  · rw [rs.len, ss.len]
    omega
/-- reversed(a), a list -/
theorem it_rev {Rf : Nat → Ty} (hg : Gl X "reversed") (hm : X.mg "reversed" = none) (he : ET X Γ a (tLn m Rs)) (hR : ∀ i, i < Rs.length → Rs[Rs.length - 1 - i]? = some (Rf i)) (hmS : ∀ R ∈ Rs, Stb m R) (hs : starEach [a] X.env = (false, eval a X.env) :: starEach [] X.env := by rfl) :
    IT_ m X Γ tg (.Call (.Name "reversed" p) [a] [] pos) Rs.length Rf := by
  refine ⟨_, RT.pi_revA hg hm pe_w hs, fun σ H ok Rk h => he.use ok fun v H1 s1 ok1 r => ?_⟩
  obtain ⟨q, xs, e1, hn, hq, rs⟩ := r
  refine ⟨q, xs, e1, .inl ⟨SqL.of hq, h _ H1 s1 ok1 fun H2 s2 => ⟨fun i hi => ?_, Nat.le_of_eq rs.len⟩⟩⟩
  have hl := rs.len
  obtain ⟨u, hu, ru⟩ := (rs.stb hmS s2).get (hR i hi)
  rw [← hl] at hu
  refine ⟨⟨by omega, xs, u, SqL.of (ln_keep hq hn s2), hu⟩, fun y H' ⟨e2, hx⟩ => ?_⟩
  have e4 := hx xs (SqL.of (ln_keep hq hn s2))
  rw [hu] at e4
  cases e4
  subst e2
  exact ⟨Same.refl _, ru⟩
/-- range(i, j) -/
theorem it_range2 {i j : Int} (hg : Gl X "range") (hm : X.mg "range" = none) (ha : ET X Γ a (tI i)) (hb : ET X Γ b (tI j)) (b1 : -(2 ^ 62) ≤ i ∧ i < 2 ^ 62 ∧ -(2 ^ 62) ≤ j ∧ j < 2 ^ 62)
    (hs : starEach [a, b] X.env = [(false, eval a X.env), (false, eval b X.env)] := by rfl) (hs2 : starEach [b] X.env = [(false, eval b X.env)] := by rfl) : IT_ m X Γ tg (.Call (.Name "range" p) [a, b] [] pos) (j - i).toNat fun k => tI (i + k) :=
  ⟨_, pi_range2 hg hm pa_w hs hs2, fun σ H ok Rk h => (at_two ha hb (by rw [hs, hs2]) (by rw [hs2]; rfl)).use ok fun vs H1 s1 ok1 r => by
    obtain ⟨v, w, ev, r1, r2⟩ := tvs_two r
    refine ⟨i, j, by rw [ev, show v = .int i from r1, show w = .int j from r2], b1, h _ H1 s1 ok1 fun H2 s2 => ⟨fun k hk => ⟨hk, fun y H' ⟨e1, e2⟩ => ?_⟩, Nat.le_refl _⟩⟩
    subst e1
    exact ⟨Same.refl _, e2⟩⟩
theorem tvs_three {T : Ty} {vs : List V} {H : Hp} (h : TVs vs [R, S, T] H) : ∃ v w u, vs = [v, w, u] ∧ R.p v H ∧ S.p w H ∧ T.p u H := by
  cases vs with
  | nil => exact h.elim
  | cons v r =>
    obtain ⟨a, b⟩ := h
    obtain ⟨w, u, e, c, d⟩ := tvs_two b
    exact ⟨v, w, u, by rw [e], a, c, d⟩
/-- range(i, j, -1) -/
theorem it_range3 {i j : Int} (hg : Gl X "range") (hm : X.mg "range" = none) (ha : ET X Γ a (tI i)) (hb : ET X Γ b (tI j)) (hc : ET X Γ c (tI (-1))) (b1 : -(2 ^ 62) ≤ i ∧ i < 2 ^ 62 ∧ -(2 ^ 62) ≤ j ∧ j < 2 ^ 62)
    (hs : starEach [a, b, c] X.env = (false, eval a X.env) :: starEach [b, c] X.env := by rfl) (hs2 : starEach [b, c] X.env = (false, eval b X.env) :: starEach [c] X.env := by rfl) (hs3 : starEach [c] X.env = (false, eval c X.env) :: starEach [] X.env := by rfl)
    (hp : (backTo pos (starEach [b, c] X.env)).any (·.1) = false := by rfl) : IT_ m X Γ tg (.Call (.Name "range" p) [a, b, c] [] pos) (i - j).toNat fun k => tI (i - k) :=
  ⟨_, pi_range3 hg hm pa_w hs hp, fun σ H ok Rk h => (at_cons ha (at_two hb hc hs2 hs3) hs).use ok fun vs H1 s1 ok1 r => by
    obtain ⟨v, w, u, ev, r1, r2, r3⟩ := tvs_three r
    refine ⟨i, j, -1, (i - j).toNat, by rw [ev, show v = .int i from r1, show w = .int j from r2, show u = .int (-1) from r3], RgC.neg b1.1 b1.2.1 b1.2.2.1 b1.2.2.2, h _ H1 s1 ok1 fun H2 s2 => ⟨fun k hk => ⟨hk, fun y H' ⟨e1, e2⟩ => ?_⟩, Nat.le_refl _⟩⟩
    subst e1
    exact ⟨Same.refl _, by show y = _; rw [e2]; congr 1; omega⟩⟩
def rMax2 : List V → Hp → VK → Prop := fun xs H Q => ∃ i j, xs = [V.int i, V.int j] ∧ Q (V.int (if j > i then j else i)) H
theorem r_max2 {i j : Int} : RnT rMax2 [tI i, tI j] (tI (max i j)) := by
  intro xs H Q h k
  obtain ⟨v, w, ev, r1, r2⟩ := tvs_two h
  refine ⟨i, j, by rw [ev, show v = .int i from r1, show w = .int j from r2], ?_⟩
  have e : (if j > i then j else i) = max i j := by split <;> omega
  rw [e]
  exact k _ H (Same.refl H) rfl
theorem et_max2 {i j : Int} (hc : X.calm = true) (hg : Gl X "max") (hm : X.mg "max" = none) (ha : ET X Γ a (tI i)) (hb : ET X Γ b (tI j))
    (hs : starEach [a, b] X.env = (false, eval a X.env) :: starEach [b] X.env := by rfl) (hs2 : starEach [b] X.env = (false, eval b X.env) :: starEach [] X.env := by rfl) (hp : (backTo pos (starEach [b] X.env)).any (·.1) = false := by rfl) : ET X Γ (.Call (.Name "max" p) [a, b] [] pos) (tI (max i j)) :=
  et_callB (r := rMax2) (call_max2 hc) hg hm rfl (at_two ha hb hs hs2) r_max2 (by decide) rfl hs hp
def rAbs : List V → Hp → VK → Prop := fun xs H Q => ∃ i, xs = [V.int i] ∧ Q (V.int (if i < 0 then -i else i)) H
theorem r_abs {i : Int} : RnT rAbs [tI i] (tI i.natAbs) := by
  intro xs H Q h k
  obtain ⟨v, ev, r1⟩ := tvs_one h
  refine ⟨i, by rw [ev, show v = .int i from r1], ?_⟩
  have e : (if i < 0 then -i else i) = (i.natAbs : Int) := by split <;> omega
  rw [e]
  exact k _ H (Same.refl H) rfl
theorem et_abs {i : Int} (hg : Gl X "abs") (hm : X.mg "abs" = none) (ha : ET X Γ a (tI i)) (hs : starEach [a] X.env = (false, eval a X.env) :: starEach [] X.env := by rfl) : ET X Γ (.Call (.Name "abs" p) [a] [] pos) (tI i.natAbs) :=
  et_callB (r := rAbs) call_abs hg hm rfl (at_one ha hs) r_abs (by decide) rfl hs rfl
def rInt1 : List V → Hp → VK → Prop := fun xs H Q => (∃ i, xs = [V.int i] ∧ Q (V.int i) H) ∨ ∃ k, xs = [V.bl k] ∧ Q (V.int (if k = true then 1 else 0)) H
theorem r_int {i : Int} : RnT rInt1 [tI i] (tI i) := by
  intro xs H Q h k
  obtain ⟨v, ev, r1⟩ := tvs_one h
  exact .inl ⟨i, by rw [ev, show v = .int i from r1], k _ H (Same.refl H) rfl⟩
theorem r_intB {d : Bool} : RnT rInt1 [tB d] (tI (if d then 1 else 0)) := by
  intro xs H Q h k
  obtain ⟨v, ev, r1⟩ := tvs_one h
  exact .inr ⟨d, by rw [ev, show v = .bl d from r1], k _ H (Same.refl H) rfl⟩
theorem et_int_ {i : Int} (hg : Gl X "int") (hm : X.mg "int" = none) (ha : ET X Γ a (tI i)) (hs : starEach [a] X.env = (false, eval a X.env) :: starEach [] X.env := by rfl) : ET X Γ (.Call (.Name "int" p) [a] [] pos) (tI i) :=
  et_callTy (r := rInt1) call_int1 hg hm rfl (at_one ha hs) r_int (by decide) rfl hs rfl
theorem et_intB {d : Bool} (hg : Gl X "int") (hm : X.mg "int" = none) (ha : ET X Γ a (tB d)) (hs : starEach [a] X.env = (false, eval a X.env) :: starEach [] X.env := by rfl) : ET X Γ (.Call (.Name "int" p) [a] [] pos) (tI (if d then 1 else 0)) :=
  et_callTy (r := rInt1) call_int1 hg hm rfl (at_one ha hs) r_intB (by decide) rfl hs rfl
def tOr (R S : Ty) : Ty := ⟨fun v H => R.p v H ∨ S.p v H, fun e h => h.imp (R.mono e) (S.mono e)⟩
theorem ok_or {i : Nat} {σ : L2.St} {H : Hp} (hi : i < Γ.length) (ok : OKc (Γ.set i (some (tOr R S))) σ H) : OKc (Γ.set i (some R)) σ H ∨ OKc (Γ.set i (some S)) σ H := by
  obtain ⟨v, h1, h2⟩ := ok.2 i (tOr R S) (List.getElem?_set_self hi)
  have f : ∀ T : Ty, T.p v H → OKc (Γ.set i (some T)) σ H := fun T hT => ⟨by rw [ok.1, List.length_set, List.length_set], fun j U hj => by
    by_cases e : i = j
    · subst e
      rw [List.getElem?_set_self hi] at hj
      cases hj
      exact ⟨v, h1, hT⟩
    · exact ok.2 j U (by rw [List.getElem?_set_ne e] at hj ⊢; exact hj)⟩
  exact h2.imp (f R) (f S)
theorem et_or {i : Nat} (hi : i < Γ.length) (h1 : ET X (Γ.set i (some R)) e U) (h2 : ET X (Γ.set i (some S)) e U) : ET X (Γ.set i (some (tOr R S))) e U := fun σ H ok =>
  (ok_or hi ok).elim (h1 σ H) (h2 σ H)
end
end SL
set_option exponentiation.threshold 256
set_option maxRecDepth 100000
set_option maxHeartbeats 1000000
namespace SL
open PySem PySem.Spec PyProof.Rows L2
def tres (d : Nat → Bool) (m n : Nat) : Bool := (List.range (min m n)).all d && (m == n)
theorem all_range_succ (d : Nat → Bool) (k : Nat) : (List.range (k + 1)).all d = ((List.range k).all d && d k) := by
  rw [List.range_succ, List.all_append]; simp
theorem tuple_eqB {prog : Program} {w : World} {A : Around} {R : Result → Shared → Prop} (l b : Addr) (items items2 : Array Value) (n n2 : Nat) (dd dd2 : Option Addr) (sl sl2 : Array (Option Value)) (d : Nat → Bool) (J : Shared → Prop)
    (hstep : ∀ (i : Nat) (h1 : i < items.size) (h2 : i < items2.size) (s : Shared), J s → wpAny (model prog w) A.in1 (eqBool items[i] items2[i]) (fun r s' => r = d i ∧ J s') (fun e s' => R (Except.error e) s') s)
    (hfin : ∀ s, J s → R (Except.ok (Flow.ret (Value.bool (tres d items.size items2.size)))) s) {s : Shared}
    (g1 : s.heap.get? l = some { cls := Value.type "tuple", dict := dd, data := Data.seq items n, slots := sl }) (g2 : s.heap.get? b = some { cls := Value.type "tuple", dict := dd2, data := Data.seq items2 n2, slots := sl2 }) (h0 : J s) :
    wpAny (model prog w) A.in1 (Builtin.«tuple.__eq__» { pos := [Value.ref l, Value.ref b] }) (GQ.FinOf prog w A R) (fun e s' => R (Except.error e) s') s := by
  obtain ⟨heap, gens, drawn, toks, os⟩ := s
  refine wpAny_bind (wpAny_of_eq (a := (Value.ref l, [Value.ref b])) rfl ?_)
  have ei : ∀ {a : Addr} {it : Array Value} {n : Nat} {dd : Option Addr} {sl : Array (Option Value)} {Q : Array Value → Shared → Prop} {E : Value → Shared → Prop}, heap.get? a = some { cls := Value.type "tuple", dict := dd, data := Data.seq it n, slots := sl } → Q it ⟨heap, gens, drawn, toks, os⟩ →
      wpAny (model prog w) A.in1 (Builtin.Tuple.tupleItemsOf (Value.ref a)) Q E ⟨heap, gens, drawn, toks, os⟩ := fun g q => by
    refine wpAny_bind (wpAny_bind (wpAny_load' g ?_))
    exact wpAny_pure (wpAny_pure q)
  refine wpAny_bind (wpAny_bind (wpAny_bind (wpAny_loadPart' g2 (wpAny_pure (wpAny_of_eq AutoSeq1.sub_tuple_tuple ?_)))))
  refine wpAny_ite_false rfl ?_
  refine wpAny_bind (ei g1 (wpAny_bind (ei g2 (wpAny_bind ?_))))
  have hz : (items.toList.zip items2.toList).length = min items.size items2.size := by simp
  refine wpAny_mono (Q := fun (b : Option PySem.Fin × Unit) s => ∃ o, b = (o, ()) ∧ J s ∧ ((o = some (.done (.ret (.bool false))) ∧ tres d items.size items2.size = false) ∨ (o = none ∧ tres d items.size items2.size = (items.size == items2.size))))
    (wpAny_forIn_list _ (fun rest b s => b = (none, ()) ∧ J s ∧ ∃ k, k ≤ min items.size items2.size ∧ rest = (items.toList.zip items2.toList).drop k ∧ (List.range k).all d = true)
    _ ?_ ?_ (items.toList.zip items2.toList) (none, ()) ⟨rfl, h0, 0, Nat.zero_le _, rfl, rfl⟩) ?_ (fun _ _ z => z)
  · rintro ⟨x, y⟩ rest b s ⟨rfl, hJ, k, hk, hr, hd⟩
    have hk2 : k < min items.size items2.size := by
      have := congrArg List.length hr
      rw [List.length_drop, hz, List.length_cons] at this
      omega
    have h1 : k < items.size := by omega
    have h2 : k < items2.size := by omega
    have hxy : (x, y) = (items[k], items2[k]) := by
      have e : ((items.toList.zip items2.toList).drop k)[0]? = some (x, y) := by rw [← hr]; rfl
      rw [List.getElem?_drop, List.getElem?_eq_getElem (by rw [hz]; omega)] at e
      simp at e
      exact Prod.ext e.1.symm e.2.symm
    have hrest : rest = (items.toList.zip items2.toList).drop (k + 1) := by
      have e := congrArg List.tail hr
      rw [List.tail_drop] at e
      exact e
    cases hxy
    refine wpAny_bind (wpAny_mono (hstep k h1 h2 s hJ) (fun r s' ⟨e, hJ'⟩ => ?_) fun _ _ z => z)
    subst e
    cases q : d k with
    | true =>
      refine wpAny_ite_false rfl (wpAny_pure ⟨rfl, hJ', k + 1, by omega, hrest, ?_⟩)
      rw [all_range_succ, hd, q]; rfl
    | false =>
      refine wpAny_ite_true rfl (wpAny_bind (wpAny_pure (wpAny_pure ⟨_, rfl, hJ', .inl ⟨rfl, ?_⟩⟩)))
      unfold tres
      have : (List.range (min items.size items2.size)).all d = false := by
        rw [List.all_eq_false]
        exact ⟨k, List.mem_range.mpr hk2, by rw [q]; decide⟩
      rw [this]; rfl
  · rintro b s ⟨rfl, hJ, k, hk, hr, hd⟩
    have hk2 : k = min items.size items2.size := by
      have := congrArg List.length hr
      rw [List.length_drop, hz] at this
      simp at this
      omega
    subst hk2
    refine ⟨_, rfl, hJ, .inr ⟨rfl, ?_⟩⟩
    unfold tres
    rw [hd, Bool.true_and]
  · rintro b s ⟨o, rfl, hJ, ⟨rfl, e⟩ | ⟨rfl, e⟩⟩
    · have f := hfin s hJ
      rw [e] at f
      exact wpAny_pure f
    · have f := hfin s hJ
      rw [e] at f
      exact wpAny_pure f

section
variable {X : Cx} {Γ : Cxt} {a b : Expr} {R S : Ty} {Rs Ss : List Ty} {pos : Pos} {n : Nat} {C f : Addr} {d : Bool}
theorem vals_app {vs ws : List V} {us zs : List Value} (r : Vals vs us) (q : Vals ws zs) : Vals (vs ++ ws) (us ++ zs) := by
  induction r with
  | nil => exact q
  | cons a _ ih => exact .cons a ih
theorem relRef (a : Addr) : L2.RelV (.ref a) (.ref a) := rfl
/-- a call at a deeper place -/
theorem run_at {fd : FuncData} {ps : List Str} {ds : List Value} {dvs : List V} {sp : Sp} {A : Around} {pins : List (Addr × Obj)} {σ : L2.St} {H : Hp} {s : Shared} {Q : VK} {us : List Value} {vs : List V}
    (F : FnOk X.prog X.w X.K X.mg X.base CX0 n f fd ps sp) (hb : L2.Binds X.K fd ps ds) (hd : Vals dvs ds) (sb : L2.Sub X n A) (I : L2.Inv X pins σ H s) (r : Vals vs us) (h : sp (vs ++ dvs) H Q E0) : wpAny (model X.prog X.w) A (call (.ref f) us) (EP X pins σ Q) X.xe s := by
  have rv : Vals (vs ++ dvs) (us ++ ds) := vals_app r hd
  refine wpAny_call (codeAny_mono (F.run A X.stack s H ⟨us, []⟩ (us ++ ds) (vs ++ dvs) Q E0 sb.room { I.env0 with frames := sb.fr.trans I.env0.frames } (hb s us I.kIn ?_) rv h) fun r s' h => ?_)
  · rw [← rv.length]; exact F.len _ _ _ _ h
  · cases r with
    | ok fl => cases fl with
      | ret u => exact I.after h
      | _ => exact h.elim
    | error e => exact pass0 pins σ H s e s' I h
def RcB (X : Cx) (n : Nat) (R S : Ty) (d : Bool) : Prop := ∀ (A : Around) (pins : List (Addr × Obj)) (s : Shared) (σ : L2.St) (H : Hp) (x y : V) (u v : Value), L2.Sub X n A → L2.Inv X pins σ H s → L2.RelV x u → L2.RelV y v → R.p x H → S.p y H →
  wpAny (model X.prog X.w) A (richCompare CmpOp.Eq u v) (fun r s' => r = Value.bool d ∧ ∃ H', L2.Inv X pins σ H' s' ∧ Same H H') X.xe s
def EqB (X : Cx) (n : Nat) (R S : Ty) (d : Bool) : Prop := ∀ (A : Around) (pins : List (Addr × Obj)) (s : Shared) (σ : L2.St) (H : Hp) (x y : V) (u v : Value), L2.Sub X n A → L2.Inv X pins σ H s → L2.RelV x u → L2.RelV y v → R.p x H → S.p y H →
  wpAny (model X.prog X.w) A (eqBool u v) (fun r s' => r = d ∧ ∃ H', L2.Inv X pins σ H' s' ∧ Same H H') X.xe s
/-- the one object only where the answer is True -/
theorem RcB.eqB (h : RcB X n R S d) (hr : ∀ pins σ s x y H, L2.Inv X pins σ H s → R.p x H → S.p y H → ∃ a b, x = V.ref a ∧ y = V.ref b ∧ (a = b → d = true)) : EqB X n R S d := fun A pins s σ H x y u v sb I rx ry px py => by
  obtain ⟨a, b, rfl, rfl, e⟩ := hr pins σ s x y H I px py
  obtain rfl : u = Value.ref a := rx
  obtain rfl : v = Value.ref b := ry
  by_cases z : a = b
  · subst z
    rw [e rfl]
    exact SeqAt.EqAt.same (s := s) (A := A) (Value.ref a) _ _ _ _ ⟨rfl, H, I, Same.refl H⟩
  · refine GQ.eqBool_refG z (wpAny_mono (h A pins s σ H _ _ _ _ sb I (relRef a) (relRef b) px py) (fun r s' ⟨e1, q⟩ => ⟨d, e1, rfl, q⟩) fun _ _ z => z)
theorem rcB_ins (hm : Meth X.K C "__eq__" f) (F : FnT X.prog X.w X.K X.mg X.base n f (spT [R, S] (tB d))) (hR : IsIns C R) (hS : IsIns C S) : RcB X n R S d := fun A pins s σ H x y u v sb I rx ry px py => by
  obtain ⟨p, dx, fs, rfl, hp⟩ := hR x H px
  obtain ⟨q, dy, gs, rfl, hq⟩ := hS y H py
  obtain rfl : u = Value.ref p := rx
  obtain rfl : v = Value.ref q := ry
  obtain ⟨_, _, J⟩ := inst_of I hp
  obtain ⟨_, _, J'⟩ := inst_of I hq
  obtain ⟨mf, hF⟩ := I.fr
  obtain ⟨fd, ps, ds, dvs, sp', F1, hb, hd, hj⟩ := F
  refine PySem.W.cmp_K (op := .Eq) (tb := .ref C) sb.room.units0 hF I.ok.mod.kin J J'.type (by unfold PySem.W.notFirst; rw [beq_self_eq_true, Bool.true_or]) hm.at_ hm.fn ?_
  refine wpAny_mono (run_at (Q := fun v H' => Same H H' ∧ (tB d).p v H') F1 hb hd sb I (.cons (relRef p) (.cons (relRef q) .nil)) (hj [.ref p, .ref q] _ _ _ ⟨⟨px, py, trivial⟩, fun v H' s' u => ⟨s', u⟩⟩)) (fun r s' ⟨z, H', I', rz, qz⟩ => ?_) fun _ _ z => z
  have e : z = .bl d := qz.2
  subst e
  obtain rfl : r = Value.bool d := rz
  exact ⟨rfl, H', I', qz.1⟩
/-- pairs of items -/
def EqAll (X : Cx) (n : Nat) (Rs Ss : List Ty) (d : Nat → Bool) : Prop := ∀ (i : Nat) (R S : Ty), Rs[i]? = some R → Ss[i]? = some S → EqB X n R S (d i)
theorem turn_B {A : Around} {pins : List (Addr × Obj)} {σ : L2.St} {H : Hp} {xs ys : List V} {its its2 : List Value} {d : Nat → Bool} (h : EqAll X n Rs Ss d) (sb : L2.Sub X (n + 1) A) (tx : TVs xs Rs H) (ty : TVs ys Ss H) (r : Vals xs its) (r2 : Vals ys its2)
    (i : Nat) (h1 : i < its.toArray.size) (h2 : i < its2.toArray.size) (s : Shared) (J : ∃ H', L2.Inv X pins σ H' s ∧ Same H H') :
    wpAny (model X.prog X.w) A.in1 (eqBool its.toArray[i] its2.toArray[i]) (fun r s' => r = d i ∧ ∃ H', L2.Inv X pins σ H' s' ∧ Same H H') X.xe s := by
  obtain ⟨H1, I1, s1⟩ := J
  have k1 : i < xs.length := by rw [r.length]; simpa using h1
  have k2 : i < ys.length := by rw [r2.length]; simpa using h2
  obtain ⟨R, hR, rR⟩ := (tx.up s1).getV (List.getElem?_eq_getElem k1)
  obtain ⟨S, hS, rS⟩ := (ty.up s1).getV (List.getElem?_eq_getElem k2)
  obtain ⟨u, hu, ru⟩ := r.get (List.getElem?_eq_getElem k1)
  obtain ⟨v, hv, rv⟩ := r2.get (List.getElem?_eq_getElem k2)
  have e1 : its.toArray[i] = u := by
    have : its[i]? = some its.toArray[i] := by simp
    rw [hu] at this
    exact (Option.some.inj this).symm
  have e2 : its2.toArray[i] = v := by
    have : its2[i]? = some its2.toArray[i] := by simp
    rw [hv] at this
    exact (Option.some.inj this).symm
  rw [e1, e2]
  exact wpAny_mono (h i R S hR hS A.in1 pins s σ H1 _ _ u v sb.in1 I1 ru rv rR rS) (fun r s' ⟨e, H2, I2, s2⟩ => ⟨e, H2, I2, s1.trans s2⟩) fun _ _ z => z
theorem rcB_tup {d : Nat → Bool} (h : EqAll X n Rs Ss d) : RcB X (n + 1) (tT X.K Rs) (tT X.K Ss) (tres d Rs.length Ss.length) := fun A pins s σ H x y u v sb I rx ry ⟨p, xs, ex, hx, tx⟩ ⟨q, ys, ey, hy, ty⟩ => by
  subst ex ey
  obtain rfl : u = Value.ref p := rx
  obtain rfl : v = Value.ref q := ry
  obtain ⟨its, r, ht, _⟩ := I.tuple hx
  obtain ⟨its2, r2, ht2, _⟩ := I.tuple hy
  refine wpAny_richCompare_same_room ht.typeIs ht2.typeIs F.slot_tuple_eq ?_ sb.room.units0
  refine GQ.call_here F.slot_tuple_eq ht.typeIs F.entry_tuple_eq (F.args_tuple_eq_2 _ _) ?_
  obtain ⟨⟨oc, od, data, osl⟩, g1, e1, n1, d1⟩ := ht
  obtain ⟨⟨oc2, od2, data2, osl2⟩, g2, e2, n2, d2⟩ := ht2
  cases e1; cases e2; cases d1; cases d2
  refine tuple_eqB p q its.toArray its2.toArray n1 n2 od od2 osl osl2 d (fun s => ∃ H', L2.Inv X pins σ H' s ∧ Same H H') (fun i h1 h2 s J => turn_B h sb tx ty r r2 i h1 h2 s J) (fun s J => ?_) g1 g2 ⟨H, I, Same.refl H⟩
  refine ⟨(by intro z; cases z), ?_, J⟩
  have z1 : its.toArray.size = Rs.length := by rw [← tx.len, r.length]; simp
  have z2 : its2.toArray.size = Ss.length := by rw [← ty.len, r2.length]; simp
  rw [z1, z2]
def rRcB (R S : Ty) (d : Bool) : R2 := fun x y H Q => R.p x H ∧ S.p y H ∧ ∀ v H', Same H H' → (tB d).p v H' → Q v H'
theorem op_RcB (h : RcB X n R S d) (hr : Room n X.A) : OpR X (compareOp .Eq) (rRcB R S d) := by
  intro pins s σ H x y v u Q I rx ry q
  refine wpAny_mono (h X.A pins s σ H x y v u ⟨hr, rfl⟩ I rx ry q.1 q.2.1) (fun r s' ⟨e, H', I', s2⟩ => ?_) fun _ _ z => z
  subst e
  exact ⟨.bl d, H', I', rfl, q.2.2 _ H' s2 rfl⟩
theorem et_RcB (h : RcB X n R S d) (hr : Room n X.A) (ha : ET X Γ a R) (hb : ET X Γ b S) (hm : behindInMarks .Eq b = false := by rfl) : ET X Γ (.Compare a [.Eq] [b] pos) (tB d) :=
  et_cmp (op_RcB h hr) ha hb (fun x y H Q h1 h2 k => ⟨h1, h2, k⟩) hm
end
end SL
set_option exponentiation.threshold 256
set_option maxRecDepth 100000
set_option maxHeartbeats 1000000
namespace SL
open PySem PySem.Spec PyProof.Rows L2
/-- what != asks of a class of ours -/
structure NeA (K : PySem.W.Frag) (C : Addr) : Prop where
  ne : PySem.W.findIn K (.ref C) "__ne__" = some (some (.builtin "object.__ne__"))
  ob : PySem.W.mroIn K C (.type "object") = some true
theorem try_res {M : Model} {A : Around} {E : Value → Shared → Prop} {s : Shared} {v : Value} {Q : Option Value → Shared → Prop} (ne : v ≠ .notImplemented) (q : Q (some v) s) : wpAny M A (match some v with
    | some Value.notImplemented => pure none
    | none => pure none
    | some v => pure (some v)) Q E s := by
  cases v with
  | notImplemented => exact absurd rfl ne
  | _ => exact wpAny_pure q
theorem ne_K {prog : Program} {w : World} {A : Around} {E : Value → Shared → Prop} {s : Shared} {K : PySem.W.Frag} {x y C f : Addr} {ox oy : Obj} {od od' : Option Obj} {Q : Value → Shared → Prop} (hu : A.units + 1 < cLine) (hK : K.In s.heap)
    (J : PySem.W.InstAt s.heap x ox C od) (J' : PySem.W.InstAt s.heap y oy C od') (na : NeA K C) (he : PySem.W.findIn K (.ref C) "__eq__" = some (some (.ref f))) (hf : PySem.W.isFn K (.ref f) = true)
    (h : wpAny (model prog w) A.in1 (call (.ref f) [.ref x, .ref y]) (fun v s' => ∃ d, v = .bool d ∧ Q (.bool !d) s') E s) : wpAny (model prog w) A (richCompare .NotEq (.ref x) (.ref y)) Q E s := by
  unfold richCompare
  refine wpAny_holding (wpAny_bind (wpAny_cRoomFor (by omega) ?_))
  show wpAny _ _ (typeOf (.ref x) >>= _) _ _ _
  refine wpAny_bind (J.type.here (wpAny_bind (J'.type.here ?_)))
  simp only [bne_self_eq_false, if_false]
  refine wpAny_bind (wpAny_pure ?_)
  refine wpAny_ite_false rfl ?_
  refine wpAny_bind ?_
  unfold tryCompare callSpecialIfBound?
  refine wpAny_bind (wpAny_holding (wpAny_bind ?_))
  unfold bindSpecialIfBound? specialOf
  have hi : PySem.W.Looks (model prog w) s.heap (isInstance (.ref x) (.type "object")) true := fun A Q E s e q => by
    refine wpAny_bind (J.type A _ E s e ?_)
    exact PySem.W.looks_subIn hK (t := .ref C) (base := .type "object") na.ob A _ E s e q
  have fin : wpAny (model prog w) A (call (.builtin "object.__ne__") [.ref x, .ref y]) (fun v s' => v ≠ .notImplemented ∧ Q v s') E s := by
    refine wpAny_call (codeAny_call_builtin F.slot_object_ne.plain F.cmpEntry_ne ?_)
    refine PySem.W.check_slot F.cmpKind_ne F.cmpSplit_ne hi (F.cmpArgs_ne _ _) ?_
    unfold Builtin.«object.__ne__»
    refine wpAny_bind (wpAny_of_eq (a := (.ref x, [.ref y])) rfl ?_)
    refine wpAny_bind (wpAny_cRoomFor (by show A.units + 1 < cLine; exact hu) ?_)
    refine wpAny_bind (PySem.W.ifBound_K hK J he hf (wpAny_mono h (fun v s' ⟨d, e, q⟩ => ?_) fun _ _ z => z))
    subst e
    refine wpAny_bind (wpAny_of_eq (a := d) rfl (wpAny_pure ⟨?_, q⟩))
    intro z; cases z
  refine wpAny_bind (wpAny_bind (J.type.here ((PySem.W.looks_findIn hK na.ne).here ?_)))
  have fin2 : ∀ {s2 : Shared} , s2 = s → wpAny (model prog w) A (call (.builtin "object.__ne__") ([Value.ref x] ++ [Value.ref y])) (fun v s' => v ≠ .notImplemented ∧ Q v s') E s2 := fun e => e ▸ fin
  refine wpAny_bind (wpAny_askSetting ?_)
  refine wpAny_ite ?_
  split
  · refine wpAny_bind (wpAny_of_eq (a := (Value.builtin "object.__ne__", [Value.ref x])) rfl (wpAny_pure ?_))
    refine wpAny_bind (wpAny_mono fin (fun v s' ⟨ne, q⟩ => wpAny_pure (try_res ne ?_)) fun _ _ z => z)
    exact wpAny_pure q
  · refine wpAny_tryCatch (wpAny_bind (wpAny_of_eq (a := (Value.builtin "object.__ne__", [Value.ref x])) rfl (wpAny_pure ?_)))
    refine wpAny_bind (wpAny_mono fin (fun v s' ⟨ne, q⟩ => wpAny_pure (try_res ne ?_)) fun _ _ z => z)
    exact wpAny_pure q
section
variable {X : Cx} {Γ : Cxt} {a b : Expr} {R S : Ty} {pos : Pos} {n : Nat} {C f : Addr} {d : Bool}
/-- x != y, instances of one class with its own == -/
theorem op_neI (hm : Meth X.K C "__eq__" f) (na : NeA X.K C) (F : FnT X.prog X.w X.K X.mg X.base n f (spT [R, S] (tB d))) (hr : Room (n + 1) X.A) (hR : IsIns C R) (hS : IsIns C S) : OpR X (compareOp .NotEq) (rRcB R S (!d)) := by
  intro pins s σ H x y v u Q I rx ry q
  obtain ⟨px, py, k⟩ := q
  obtain ⟨p, dx, fs, rfl, hp⟩ := hR x H px
  obtain ⟨q, dy, gs, rfl, hq⟩ := hS y H py
  obtain rfl : v = Value.ref p := rx
  obtain rfl : u = Value.ref q := ry
  obtain ⟨_, _, J⟩ := inst_of I hp
  obtain ⟨_, _, J'⟩ := inst_of I hq
  obtain ⟨fd, ps, ds, dvs, sp', F1, hb, hd, hj⟩ := F
  have sb : L2.Sub X (n + 1) X.A := ⟨hr, rfl⟩
  have hu := hr.un
  refine ne_K (by have e : (200 : Nat) ≤ 16 * (n + 1) + 200 := Nat.le_add_left _ _; omega) I.kIn J J' na hm.at_ hm.fn ?_
  refine wpAny_mono (run_at (Q := fun v H' => Same H H' ∧ (tB d).p v H') F1 hb hd sb.in1 I (.cons (relRef p) (.cons (relRef q) .nil)) (hj [.ref p, .ref q] _ _ _ ⟨⟨px, py, trivial⟩, fun v H' s' u => ⟨s', u⟩⟩)) (fun r s' ⟨z, H', I', rz, qz⟩ => ?_) fun _ _ z => z
  have e : z = .bl d := qz.2
  subst e
  obtain rfl : r = Value.bool d := rz
  exact ⟨d, rfl, .bl (!d), H', I', rfl, k _ H' qz.1 rfl⟩
theorem et_neI (hm : Meth X.K C "__eq__" f) (na : NeA X.K C) (F : FnT X.prog X.w X.K X.mg X.base n f (spT [R, S] (tB d))) (hr : Room (n + 1) X.A) (hR : IsIns C R) (hS : IsIns C S) (ha : ET X Γ a R) (hb : ET X Γ b S) (hmk : behindInMarks .NotEq b = false := by rfl) :
    ET X Γ (.Compare a [.NotEq] [b] pos) (tB (!d)) := et_cmp (op_neI hm na F hr hR hS) ha hb (fun x y H Q h1 h2 k => ⟨h1, h2, k⟩) hmk
theorem tt_neI (hm : Meth X.K C "__eq__" f) (na : NeA X.K C) (F : FnT X.prog X.w X.K X.mg X.base n f (spT [R, S] (tB d))) (hr : Room (n + 1) X.A) (hR : IsIns C R) (hS : IsIns C S) (ha : ET X Γ a R) (hb : ET X Γ b S) (hmk : behindInMarks .NotEq b = false := by rfl) :
    TT_ X Γ (.Compare a [.NotEq] [b] pos) (!d) := tt_cmp (op_neI hm na F hr hR hS) ha hb (fun x y H Q h1 h2 k => ⟨h1, h2, k⟩) hmk
end
end SL
set_option exponentiation.threshold 256
set_option maxRecDepth 100000
set_option maxHeartbeats 1000000
namespace SL
open PySem PySem.Spec PyProof.Rows L2
def rLcm : List V → Hp → VK → Prop := fun vs H Q => ∃ a b : Int, vs = [.int a, .int b] ∧ a.natAbs < 2 ^ 13400 ∧ b.natAbs < 2 ^ 13400 ∧ Q (.int ((Nat.lcm a.natAbs b.natAbs : Nat) : Int)) H
theorem log_small {n : Nat} (h : n < 2 ^ 13400) : ¬ (n.log2 / 30 + 1 > 450) := by
  have := log2_lt h (by decide)
  omega
theorem lcm_log {a b : Nat} (h : a < 2 ^ 13400) (h2 : b < 2 ^ 13400) : (Nat.lcm a b).log2 < bitsLine := by
  have h3 : Nat.lcm a b < 2 ^ 26801 := by
    refine Nat.lt_of_le_of_lt (PySem.W.mc_lcm_le a b) ?_
    by_cases hb : b = 0
    · subst hb; rw [Nat.mul_zero]; exact Nat.two_pow_pos _
    · calc a * b < 2 ^ 13400 * 2 ^ 13400 := Nat.mul_lt_mul_of_lt_of_le h (Nat.le_of_lt h2) (Nat.two_pow_pos _)
        _ = 2 ^ 26800 := by rw [← Nat.pow_add]
        _ < 2 ^ 26801 := Nat.pow_lt_pow_right (by decide) (by decide)
  have := log2_lt h3 (by decide)
  have e : bitsLine = 134217728 := by decide
  omega
theorem cr_lcm {X : Cx} : CallR X (.builtin "math.lcm") rLcm := by
  intro pins s σ H xs us Q I r h
  obtain ⟨a, b, rfl, ha, hb, q⟩ := h
  obtain ⟨t, u, rfl⟩ := r.int2
  have e : (Nat.lcm 1 a.natAbs).lcm b.natAbs = Nat.lcm a.natAbs b.natAbs := by rw [Nat.lcm_one_left]
  have g := PySem.W.mg_run_lcm a t b u (log_small (Nat.max_lt.mpr ⟨Nat.one_lt_two_pow (by decide), ha⟩)) (log_small (Nat.max_lt.mpr ⟨ha, hb⟩)) (by rw [e, Int.natAbs_natCast]; exact lcm_log ha hb)
  rw [e] at g
  refine call_function_meets PySem.W.MGF.kind_lcm PySem.W.MGF.plain_lcm PySem.W.MGF.entry_lcm (PySem.W.MGF.args_lcm _ _) g.meets ?_
  exact ⟨.int _, H, I.tok _, ⟨_, rfl⟩, q⟩
end SL
set_option exponentiation.threshold 256
set_option maxRecDepth 100000
set_option maxHeartbeats 1000000
namespace SL
open PySem PySem.Spec PyProof.Rows L2
/-- further facts of the written part -/
inductive Xa where
  | first (x : Str)
  | ca (x : Str)
  | kitT (x : Str) (n : String) (b : Bool)
  | kitC (x y : Str) (b : Bool)
  | kitN (n : String) (y : Str) (b : Bool)
  | blt (x : Str) (id : String)
  | noat (x f : Str)
  | ne (x : Str)
  | nfC (x y : Str)
  | nfT (x : Str) (n : String)
  | seer
  | exi (x q file : Str)
/-- an own error class over ValueError -/
def refB (K : PySem.W.Frag) (C : Addr) : Bool := match K.lookup C with
  | some ⟨.type "type", _, .cls cd, sl⟩ => (match cd.mro, sl.toList with
    | .ref C' :: bm, [_, _, _, _, some (.builtin n), _] => C' == C && (n == "ValueError.__new__" && (!cd.hasDel && (cd.hasDict && PySem.HandSPX.refsVE bm)))
    | _, _ => false)
  | _ => false
/-- the code of its __init__: the cell, the file -/
def refFn (K : PySem.W.Frag) (C fI : Addr) (q file : Str) : Bool := match K.lookup fI with
  | some ⟨_, _, .func fd, _⟩ => PySem.W.codeIn K fd.code q && ((match fd.defaults, fd.kwdefaults with
    | .none, .none => true
    | _, _ => false) && ((match fd.closure with
    | [(n, cc)] => n == "__class__" && (match K.lookup cc with
      | some ⟨_, _, .cell (some (.ref D)), _⟩ => D == C
      | _ => false)
    | _ => false) && (match fd.code with
    | .ref cda => (match K.lookup cda with
      | some ⟨_, _, .fields vs, _⟩ => (match ((vs : Array Value)[2]? : Option Value) with
        | some (Value.str f _) => file == f
        | _ => false)
      | _ => false)
    | _ => false)))
  | _ => false
def exiB (K : PySem.W.Frag) (x q file : Str) : Bool :=
  refB K (He.ga K x) && (refFn K (He.ga K x) (He.fAd K (x, some "__init__")) q file && (decide (PySem.W.findIn K (.ref (He.ga K x)) "__setattr__" = some (some (.builtin "object.__setattr__"))) && (decide (PySem.W.findIn K (.ref (He.ga K x)) "reason" = some none) &&
    (decide (PySem.W.findIn K (.ref (He.ga K x)) "__init__" = some (some (.ref (He.fAd K (x, some "__init__"))))) && (decide (PySem.W.typeIn K (.ref (He.fAd K (x, some "__init__"))) = some (.type "function")) && (PySem.W.keepIn K (.ref (He.ga K x)) &&
      (decide (PySem.W.typeIn K (.ref (He.ga K x)) = some (.type "type")) && (L2.xfB K (He.ga K x) && (decide (PySem.W.nsIn K cStatics "thirdparty.any" = some none) && (decide (PySem.W.ks_superIn K (He.ga K x) (He.ga K x) "__init__" = some (some (.builtin "ValueError.__init__"))) &&
        (decide (PySem.W.subIn K (.ref (He.ga K x)) (.type "ValueError") = some true) && decide (PySem.W.mroIn K (He.ga K x) (.ref (He.ga K x)) = some true))))))))))))
def Xa.ok (K : PySem.W.Frag) : Xa → Bool
  | .first x => PySem.W.selfFirst K (He.ga K x)
  | .ca x => decide (PySem.W.findIn K (.ref (He.ga K x)) "__class__" = some (some (.builtin "object.__class__"))) && (decide (PySem.W.specialIn K (.builtin "object.__class__") "__get__" = some (some (.builtin "getset_descriptor.__get__"))) &&
      (decide (PySem.W.takesIn K (.builtin "object.__class__") = some true) && decide (PySem.W.mroIn K (He.ga K x) (.type "object") = some true)))
  | .kitT x n b => decide (PySem.W.kitOne K (.ref (He.ga K x)) (.type n) = some b)
  | .kitC x y b => decide (PySem.W.kitOne K (.ref (He.ga K x)) (.ref (He.ga K y)) = some b)
  | .kitN n y b => decide (PySem.W.kitOne K (.type n) (.ref (He.ga K y)) = some b)
  | .blt x id => decide (PySem.W.nsIn K mainGlobals x = some (some (.builtin id)))
  | .noat x f => decide (PySem.W.findIn K (.ref (He.ga K x)) f = some none)
  | .ne x => decide (PySem.W.findIn K (.ref (He.ga K x)) "__ne__" = some (some (.builtin "object.__ne__"))) && decide (PySem.W.mroIn K (He.ga K x) (.type "object") = some true)
  | .nfC x y => PySem.W.notFirst K (He.ga K x) (.ref (He.ga K y))
  | .nfT x n => PySem.W.notFirst K (He.ga K x) (.type n)
  | .seer => seerB K
  | .exi x q file => exiB K x q file
/-- what isinstance asks of a class of ours -/
structure ClA (K : PySem.W.Frag) (C : Addr) : Prop where
  ca : PySem.W.findIn K (.ref C) "__class__" = some (some (.builtin "object.__class__"))
  cn : PySem.W.specialIn K (.builtin "object.__class__") "__get__" = some (some (.builtin "getset_descriptor.__get__"))
  ct : PySem.W.takesIn K (.builtin "object.__class__") = some true
  cm : PySem.W.mroIn K C (.type "object") = some true
/-- a def's text without its cells -/
def fnC (K : PySem.W.Frag) (p : Str × Option Str) : He.FnW := match He.fnW K p with
  | some (a, b, c, d, e, f, _, g) => some (a, b, c, d, e, f, [], g)
  | none => none
def obsZ (fa : List He.Fa) (xa : List Xa) (fn ex : List He.DefD) (K : PySem.W.Frag) : He.AlD := ((fa.all fun f => f.ok K) && ((xa.all fun x => x.ok K) && fn.all fun d => d.ok K), (fn.map fun d => He.fnW K d.at_) ++ ex.map fun d => fnC K d.at_)
def SaysZ (fa : List He.Fa) (xa : List Xa) (fn ex : List He.DefD) (K : PySem.W.Frag) : Prop := obsZ fa xa fn ex K = He.valD (fn ++ ex)
/-- what a dict, a function, a class name -/
def valsZ (g : Addr → Option Obj) (a : Addr) : List Addr := match g a with
  | some ⟨_, _, .dict es _, _⟩ => es.toList.flatMap fun e => He.refV e.val
  | _ => []
def codeZ (g : Addr → Option Obj) (a : Addr) : List Addr := match g a with
  | some ⟨_, _, .func fd, _⟩ => a :: (He.refV fd.code ++ (He.refV fd.defaults ++ (He.refV fd.kwdefaults ++ fd.closure.map (·.2))))
  | _ => [a]
def objZ (g : Addr → Option Obj) (a : Addr) : List Addr := match g a with
  | some ⟨_, _, .cls cd, _⟩ => a :: cd.ns :: (valsZ g cd.ns).flatMap (codeZ g)
  | _ => codeZ g a
def asZ (g : Addr → Option Obj) (_ : Nat) : List Addr := cStatics :: sysModules :: mainGlobals :: (valsZ g mainGlobals).flatMap (objZ g)
def obsZG (n : Nat) (fa : List He.Fa) (xa : List Xa) (fn ex : List He.DefD) (g : Addr → Option Obj) : He.AlD := obsZ fa xa fn ex (He.frG g (asZ g n))
def hookZ (n : Nat) (fa : List He.Fa) (xa : List Xa) (fn ex : List He.DefD) : PySem.W.Hook where
  α := He.AlD
  obs s := obsZG n fa xa fn ex s.heap.get?
  val _ := He.valD (fn ++ ex)
  says _ h := ∃ K : PySem.W.Frag, K.In h ∧ SaysZ fa xa fn ex K
  of _ _ e := ⟨_, He.frG_in, e⟩
  keeps _ _ _ h k := let ⟨K, hK, c⟩ := h; ⟨K, PySem.W.Frag.In.keeps hK k, c⟩
theorem obsZ_eq {n : Nat} {fa : List He.Fa} {xa : List Xa} {fn ex : List He.DefD} {g : Addr → Option Obj} {s : Shared} (h : ∀ a, g a = s.heap.get? a) : obsZG n fa xa fn ex g = (hookZ n fa xa fn ex).obs s := by
  have e : g = s.heap.get? := funext h
  rw [e]; rfl
section
variable {fa : List He.Fa} {xa : List Xa} {fn ex : List He.DefD} {K : PySem.W.Frag} {h : Heap} {mg : Str → Option Value}
theorem SaysZ.all (c : SaysZ fa xa fn ex K) : ((fa.all fun f => f.ok K) && ((xa.all fun x => x.ok K) && fn.all fun d => d.ok K)) = true := congrArg (fun z : He.AlD => z.1) c
theorem SaysZ.fact (c : SaysZ fa xa fn ex K) (i : Nat) {f : He.Fa} (h : fa[i]? = some f) : f.ok K = true := List.all_eq_true.mp (He.ba c.all).1 f (List.mem_of_getElem? h)
theorem SaysZ.xact (c : SaysZ fa xa fn ex K) (i : Nat) {f : Xa} (h : xa[i]? = some f) : f.ok K = true := List.all_eq_true.mp (He.ba (He.ba c.all).2).1 f (List.mem_of_getElem? h)
theorem SaysZ.texts (c : SaysZ fa xa fn ex K) : (fn.map fun d => He.fnW K d.at_) = fn.map He.DefD.val ∧ (ex.map fun d => fnC K d.at_) = ex.map He.DefD.val := by
  have e : (fn.map fun d => He.fnW K d.at_) ++ (ex.map fun d => fnC K d.at_) = (fn ++ ex).map He.DefD.val := congrArg (fun z : He.AlD => z.2) c
  rw [List.map_append] at e
  exact List.append_inj e (by simp)
theorem SaysZ.defn (c : SaysZ fa xa fn ex K) (i : Nat) {d : He.DefD} (h : fn[i]? = some d) : ∃ fd, FunD K d.name d.qual d.params d.body d.scope (d.dvs K) (d.kws K) (He.fAd K d.at_) fd := by
  have e2 : (fn.map fun d => He.fnW K d.at_)[i]? = (fn.map He.DefD.val)[i]? := by rw [c.texts.1]
  rw [List.getElem?_map, List.getElem?_map, h] at e2
  exact He.DefD.funD (Option.some.inj e2) (List.all_eq_true.mp (He.ba (He.ba c.all).2).2 d (List.mem_of_getElem? h))
theorem SaysZ.text (c : SaysZ fa xa fn ex K) (i : Nat) {d : He.DefD} (h : ex[i]? = some d) : fnC K d.at_ = d.val := by
  have e2 : (ex.map fun d => fnC K d.at_)[i]? = (ex.map He.DefD.val)[i]? := by rw [c.texts.2]
  rw [List.getElem?_map, List.getElem?_map, h] at e2
  exact Option.some.inj e2
theorem x_first {x : Str} (c : (Xa.first x).ok K = true) : PySem.W.selfFirst K (He.ga K x) = true := c
theorem x_ca {x : Str} (c : (Xa.ca x).ok K = true) : ClA K (He.ga K x) := by
  have c2 := c
  unfold Xa.ok at c2
  simp only [Bool.and_eq_true, decide_eq_true_eq] at c2
  exact ⟨c2.1, c2.2.1, c2.2.2.1, c2.2.2.2⟩
theorem x_kitT {x : Str} {n : String} {b : Bool} (c : (Xa.kitT x n b).ok K = true) : PySem.W.kitOne K (.ref (He.ga K x)) (.type n) = some b := of_decide_eq_true c
theorem x_kitC {x y : Str} {b : Bool} (c : (Xa.kitC x y b).ok K = true) : PySem.W.kitOne K (.ref (He.ga K x)) (.ref (He.ga K y)) = some b := of_decide_eq_true c
theorem x_kitN {n : String} {y : Str} {b : Bool} (c : (Xa.kitN n y b).ok K = true) : PySem.W.kitOne K (.type n) (.ref (He.ga K y)) = some b := of_decide_eq_true c
theorem x_blt {x : Str} {id : String} (X : K.In h) (G : h.Ns mainGlobals mg) (c : (Xa.blt x id).ok K = true) : mg x = some (.builtin id) := PySem.W.mg_of X G (of_decide_eq_true c)
theorem x_noat {x f : Str} (c : (Xa.noat x f).ok K = true) : PySem.W.findIn K (.ref (He.ga K x)) f = some none := of_decide_eq_true c
theorem x_ne {x : Str} (c : (Xa.ne x).ok K = true) : NeA K (He.ga K x) := by
  have c2 := c
  unfold Xa.ok at c2
  simp only [Bool.and_eq_true, decide_eq_true_eq] at c2
  exact ⟨c2.1, c2.2⟩
theorem x_nfC {x y : Str} (c : (Xa.nfC x y).ok K = true) : PySem.W.notFirst K (He.ga K x) (.ref (He.ga K y)) = true := c
theorem x_nfT {x : Str} {n : String} (c : (Xa.nfT x n).ok K = true) : PySem.W.notFirst K (He.ga K x) (.type n) = true := c
theorem x_exi {x q file : Str} (c : (Xa.exi x q file).ok K = true) : exiB K x q file = true := c
theorem f_exm {x y : Str} {b : Bool} (c : (He.Fa.exm x y b).ok K = true) : PySem.W.exmOne K (.ref (He.ga K x)) (.ref (He.ga K y)) = some b := He.exm_ok c
theorem f_exc {x : Str} (c : (He.Fa.exc x).ok K = true) : PySem.W.excIn K (He.ga K x) He.veBase "ValueError.__new__" = true ∧ PySem.W.keepIn K (.ref (He.ga K x)) = true ∧ PySem.W.subIn K (.ref (He.ga K x)) (.type "BaseException") = some true ∧ PySem.W.typeIn K (.ref (He.ga K x)) = some (.type "type") := He.exc_ok c
theorem x_seer (c : Xa.seer.ok K = true) : seerB K = true := c
theorem f_glo (X : K.In h) (G : h.Ns mainGlobals mg) {x : Str} (c : (He.Fa.glo x).ok K = true) : mg x = some (.ref (He.ga K x)) := He.glo_ok X G c
theorem f_free (X : K.In h) (G : h.Ns mainGlobals mg) {x : Str} (c : (He.Fa.free x).ok K = true) : mg x = none := He.free_ok X G c
theorem f_keep {x : Str} (c : (He.Fa.keep x).ok K = true) : PySem.W.keepIn K (.ref (He.ga K x)) = true := c
theorem f_cls {x : Str} (c : (He.Fa.cls x).ok K = true) : Cls K (He.ga K x) := by
  have c2 := c
  unfold He.Fa.ok at c2
  simp only [Bool.and_eq_true] at c2
  exact ⟨c2.1, c2.2.1, c2.2.2.1, He.eqO_ok c2.2.2.2⟩
theorem f_noat {x f : Str} (c : (He.Fa.noat x f).ok K = true) : NoAttr K (He.ga K x) f := He.eqO_ok c
theorem f_meth {x m : Str} (c : (He.Fa.meth x m).ok K = true) : Meth K (He.ga K x) m (He.fAd K (x, some m)) := by
  have c2 := c
  unfold He.Fa.ok at c2
  simp only [Bool.and_eq_true] at c2
  exact ⟨He.eqO_ok c2.1, c2.2.1, c2.2.2⟩
theorem f_mkr {x : Str} (c : (He.Fa.mkr x).ok K = true) : Mk K (He.ga K x) (He.fAd K (x, some "__init__")) := by
  have c2 := c
  unfold He.Fa.ok at c2
  simp only [Bool.and_eq_true] at c2
  exact ⟨c2.1, He.eqO_ok c2.2.1, c2.2.2.1, c2.2.2.2⟩
end
end SL
set_option exponentiation.threshold 256
set_option maxRecDepth 100000
set_option maxHeartbeats 1000000
namespace SLT
open PySem PySem.Spec PyProof.Rows L2 SL
abbrev theProg : Program := PySem.Challenge.pw_slopewrit_k22_whole_common_steps
def top (i : Nat) : Stmt := PySem.Challenge.pw_slopewrit_k22_whole_common_steps.main.body.getD i (.Pass ⟨0, 0, 0, 0⟩)
def d_Refused_init : He.DefD := ⟨("Refused", some "__init__"), "__init__", "Refused.__init__", defArgs (inClass (top 5) 0), defBody (inClass (top 5) 0), defScope (inClass (top 5) 0), [], []⟩
def d_written_integer : He.DefD := ⟨("written_integer", none), "written_integer", "written_integer", defArgs (top 8), defBody (top 8), defScope (top 8), [], []⟩
def d_Ratio_init : He.DefD := ⟨("Ratio", some "__init__"), "__init__", "Ratio.__init__", defArgs (inClass (top 9) 0), defBody (inClass (top 9) 0), defScope (inClass (top 9) 0), [.int 1], []⟩
def d_Ratio_add : He.DefD := ⟨("Ratio", some "__add__"), "__add__", "Ratio.__add__", defArgs (inClass (top 9) 1), defBody (inClass (top 9) 1), defScope (inClass (top 9) 1), [], []⟩
def d_Ratio_sub : He.DefD := ⟨("Ratio", some "__sub__"), "__sub__", "Ratio.__sub__", defArgs (inClass (top 9) 2), defBody (inClass (top 9) 2), defScope (inClass (top 9) 2), [], []⟩
def d_Ratio_mul : He.DefD := ⟨("Ratio", some "__mul__"), "__mul__", "Ratio.__mul__", defArgs (inClass (top 9) 3), defBody (inClass (top 9) 3), defScope (inClass (top 9) 3), [], []⟩
def d_Ratio_neg : He.DefD := ⟨("Ratio", some "__neg__"), "__neg__", "Ratio.__neg__", defArgs (inClass (top 9) 4), defBody (inClass (top 9) 4), defScope (inClass (top 9) 4), [], []⟩
def d_Ratio_eq : He.DefD := ⟨("Ratio", some "__eq__"), "__eq__", "Ratio.__eq__", defArgs (inClass (top 9) 5), defBody (inClass (top 9) 5), defScope (inClass (top 9) 5), [], []⟩
def d_Ratio_str : He.DefD := ⟨("Ratio", some "__str__"), "__str__", "Ratio.__str__", defArgs (inClass (top 9) 6), defBody (inClass (top 9) 6), defScope (inClass (top 9) 6), [], []⟩
def d_Ratio_inverse : He.DefD := ⟨("Ratio", some "inverse"), "inverse", "Ratio.inverse", defArgs (inClass (top 9) 7), defBody (inClass (top 9) 7), defScope (inClass (top 9) 7), [], []⟩
def d_Ratio_over : He.DefD := ⟨("Ratio", some "over"), "over", "Ratio.over", defArgs (inClass (top 9) 8), defBody (inClass (top 9) 8), defScope (inClass (top 9) 8), [], []⟩
def d_Ratio_power : He.DefD := ⟨("Ratio", some "power"), "power", "Ratio.power", defArgs (inClass (top 9) 9), defBody (inClass (top 9) 9), defScope (inClass (top 9) 9), [], []⟩
def d_Ratio_is_zero : He.DefD := ⟨("Ratio", some "is_zero"), "is_zero", "Ratio.is_zero", defArgs (inClass (top 9) 13), defBody (inClass (top 9) 13), defScope (inClass (top 9) 13), [], []⟩
def d_zero : He.DefD := ⟨("zero", none), "zero", "zero", defArgs (top 10), defBody (top 10), defScope (top 10), [], []⟩
def d_one : He.DefD := ⟨("one", none), "one", "one", defArgs (top 11), defBody (top 11), defScope (top 11), [], []⟩
def d_trimmed : He.DefD := ⟨("_trimmed", none), "_trimmed", "_trimmed", defArgs (top 13), defBody (top 13), defScope (top 13), [], []⟩
def d_Poly_init : He.DefD := ⟨("Poly", some "__init__"), "__init__", "Poly.__init__", defArgs (inClass (top 14) 0), defBody (inClass (top 14) 0), defScope (inClass (top 14) 0), [], []⟩
def d_Poly_add : He.DefD := ⟨("Poly", some "__add__"), "__add__", "Poly.__add__", defArgs (inClass (top 14) 1), defBody (inClass (top 14) 1), defScope (inClass (top 14) 1), [], []⟩
def d_Poly_neg : He.DefD := ⟨("Poly", some "__neg__"), "__neg__", "Poly.__neg__", defArgs (inClass (top 14) 2), defBody (inClass (top 14) 2), defScope (inClass (top 14) 2), [], []⟩
def d_Poly_sub : He.DefD := ⟨("Poly", some "__sub__"), "__sub__", "Poly.__sub__", defArgs (inClass (top 14) 3), defBody (inClass (top 14) 3), defScope (inClass (top 14) 3), [], []⟩
def d_Poly_mul : He.DefD := ⟨("Poly", some "__mul__"), "__mul__", "Poly.__mul__", defArgs (inClass (top 14) 4), defBody (inClass (top 14) 4), defScope (inClass (top 14) 4), [], []⟩
def d_Poly_eq : He.DefD := ⟨("Poly", some "__eq__"), "__eq__", "Poly.__eq__", defArgs (inClass (top 14) 5), defBody (inClass (top 14) 5), defScope (inClass (top 14) 5), [], []⟩
def d_Poly_floordiv : He.DefD := ⟨("Poly", some "__floordiv__"), "__floordiv__", "Poly.__floordiv__", defArgs (inClass (top 14) 6), defBody (inClass (top 14) 6), defScope (inClass (top 14) 6), [], []⟩
def d_Poly_mod : He.DefD := ⟨("Poly", some "__mod__"), "__mod__", "Poly.__mod__", defArgs (inClass (top 14) 7), defBody (inClass (top 14) 7), defScope (inClass (top 14) 7), [], []⟩
def d_Poly_call : He.DefD := ⟨("Poly", some "__call__"), "__call__", "Poly.__call__", defArgs (inClass (top 14) 8), defBody (inClass (top 14) 8), defScope (inClass (top 14) 8), [], []⟩
def d_Poly_iter : He.DefD := ⟨("Poly", some "__iter__"), "__iter__", "Poly.__iter__", defArgs (inClass (top 14) 9), defBody (inClass (top 14) 9), defScope (inClass (top 14) 9), [], []⟩
def d_Poly_divided : He.DefD := ⟨("Poly", some "divided"), "divided", "Poly.divided", defArgs (inClass (top 14) 10), defBody (inClass (top 14) 10), defScope (inClass (top 14) 10), [], []⟩
def d_Poly_degree : He.DefD := ⟨("Poly", some "degree"), "degree", "Poly.degree", defArgs (inClass (top 14) 11), defBody (inClass (top 14) 11), defScope (inClass (top 14) 11), [], []⟩
def d_Poly_is_zero : He.DefD := ⟨("Poly", some "is_zero"), "is_zero", "Poly.is_zero", defArgs (inClass (top 14) 12), defBody (inClass (top 14) 12), defScope (inClass (top 14) 12), [], []⟩
def d_Poly_last : He.DefD := ⟨("Poly", some "last"), "last", "Poly.last", defArgs (inClass (top 14) 13), defBody (inClass (top 14) 13), defScope (inClass (top 14) 13), [], []⟩
def d_Poly_coefficient : He.DefD := ⟨("Poly", some "coefficient"), "coefficient", "Poly.coefficient", defArgs (inClass (top 14) 14), defBody (inClass (top 14) 14), defScope (inClass (top 14) 14), [], []⟩
def d_Poly_terms : He.DefD := ⟨("Poly", some "terms"), "terms", "Poly.terms", defArgs (inClass (top 14) 15), defBody (inClass (top 14) 15), defScope (inClass (top 14) 15), [], []⟩
def d_Poly_scaled : He.DefD := ⟨("Poly", some "scaled"), "scaled", "Poly.scaled", defArgs (inClass (top 14) 16), defBody (inClass (top 14) 16), defScope (inClass (top 14) 16), [], []⟩
def d_Poly_power : He.DefD := ⟨("Poly", some "power"), "power", "Poly.power", defArgs (inClass (top 14) 17), defBody (inClass (top 14) 17), defScope (inClass (top 14) 17), [], []⟩
def d_Poly_monic : He.DefD := ⟨("Poly", some "monic"), "monic", "Poly.monic", defArgs (inClass (top 14) 18), defBody (inClass (top 14) 18), defScope (inClass (top 14) 18), [], []⟩
def d_Poly_shifted : He.DefD := ⟨("Poly", some "shifted"), "shifted", "Poly.shifted", defArgs (inClass (top 14) 20), defBody (inClass (top 14) 20), defScope (inClass (top 14) 20), [], []⟩
def d_Poly_primitive : He.DefD := ⟨("Poly", some "primitive"), "primitive", "Poly.primitive", defArgs (inClass (top 14) 23), defBody (inClass (top 14) 23), defScope (inClass (top 14) 23), [], []⟩
def d_constant : He.DefD := ⟨("constant", none), "constant", "constant", defArgs (top 15), defBody (top 15), defScope (top 15), [], []⟩
def d_primitive_row : He.DefD := ⟨("_primitive_row", none), "_primitive_row", "_primitive_row", defArgs (top 17), defBody (top 17), defScope (top 17), [], []⟩
def d_integer_rest : He.DefD := ⟨("_integer_rest", none), "_integer_rest", "_integer_rest", defArgs (top 18), defBody (top 18), defScope (top 18), [], []⟩
def d_common_divisor : He.DefD := ⟨("common_divisor", none), "common_divisor", "common_divisor", defArgs (top 19), defBody (top 19), defScope (top 19), [], []⟩
def d_RatFun_init : He.DefD := ⟨("RatFun", some "__init__"), "__init__", "RatFun.__init__", defArgs (inClass (top 21) 0), defBody (inClass (top 21) 0), defScope (inClass (top 21) 0), [], []⟩
def d_RatFun_eq : He.DefD := ⟨("RatFun", some "__eq__"), "__eq__", "RatFun.__eq__", defArgs (inClass (top 21) 1), defBody (inClass (top 21) 1), defScope (inClass (top 21) 1), [], []⟩
def d_RatFun_add : He.DefD := ⟨("RatFun", some "__add__"), "__add__", "RatFun.__add__", defArgs (inClass (top 21) 2), defBody (inClass (top 21) 2), defScope (inClass (top 21) 2), [], []⟩
def d_RatFun_sub : He.DefD := ⟨("RatFun", some "__sub__"), "__sub__", "RatFun.__sub__", defArgs (inClass (top 21) 3), defBody (inClass (top 21) 3), defScope (inClass (top 21) 3), [], []⟩
def d_RatFun_mul : He.DefD := ⟨("RatFun", some "__mul__"), "__mul__", "RatFun.__mul__", defArgs (inClass (top 21) 4), defBody (inClass (top 21) 4), defScope (inClass (top 21) 4), [], []⟩
def d_RatFun_neg : He.DefD := ⟨("RatFun", some "__neg__"), "__neg__", "RatFun.__neg__", defArgs (inClass (top 21) 5), defBody (inClass (top 21) 5), defScope (inClass (top 21) 5), [], []⟩
def d_RatFun_floordiv : He.DefD := ⟨("RatFun", some "__floordiv__"), "__floordiv__", "RatFun.__floordiv__", defArgs (inClass (top 21) 6), defBody (inClass (top 21) 6), defScope (inClass (top 21) 6), [], []⟩
def d_RatFun_call : He.DefD := ⟨("RatFun", some "__call__"), "__call__", "RatFun.__call__", defArgs (inClass (top 21) 7), defBody (inClass (top 21) 7), defScope (inClass (top 21) 7), [], []⟩
def d_RatFun_is_zero : He.DefD := ⟨("RatFun", some "is_zero"), "is_zero", "RatFun.is_zero", defArgs (inClass (top 21) 8), defBody (inClass (top 21) 8), defScope (inClass (top 21) 8), [], []⟩
def d_RatFun_inverse : He.DefD := ⟨("RatFun", some "inverse"), "inverse", "RatFun.inverse", defArgs (inClass (top 21) 13), defBody (inClass (top 21) 13), defScope (inClass (top 21) 13), [], []⟩
def d_RatFun_power : He.DefD := ⟨("RatFun", some "power"), "power", "RatFun.power", defArgs (inClass (top 21) 14), defBody (inClass (top 21) 14), defScope (inClass (top 21) 14), [], []⟩
def d_RatFun_degree : He.DefD := ⟨("RatFun", some "degree"), "degree", "RatFun.degree", defArgs (inClass (top 21) 16), defBody (inClass (top 21) 16), defScope (inClass (top 21) 16), [], []⟩
def d_RatFun_leading : He.DefD := ⟨("RatFun", some "leading"), "leading", "RatFun.leading", defArgs (inClass (top 21) 17), defBody (inClass (top 21) 17), defScope (inClass (top 21) 17), [], []⟩
def d_RatFun_shifted : He.DefD := ⟨("RatFun", some "shifted"), "shifted", "RatFun.shifted", defArgs (inClass (top 21) 18), defBody (inClass (top 21) 18), defScope (inClass (top 21) 18), [], []⟩
def d_of_poly : He.DefD := ⟨("of_poly", none), "of_poly", "of_poly", defArgs (top 22), defBody (top 22), defScope (top 22), [], []⟩
def d_of_ratio : He.DefD := ⟨("of_ratio", none), "of_ratio", "of_ratio", defArgs (top 23), defBody (top 23), defScope (top 23), [], []⟩
def d_add_rows : He.DefD := ⟨("add_rows", none), "add_rows", "add_rows", defArgs (top 25), defBody (top 25), defScope (top 25), [], []⟩
def d_scale_row : He.DefD := ⟨("scale_row", none), "scale_row", "scale_row", defArgs (top 26), defBody (top 26), defScope (top 26), [], []⟩
def d_moved_row : He.DefD := ⟨("moved_row", none), "moved_row", "moved_row", defArgs (top 28), defBody (top 28), defScope (top 28), [], []⟩
def d_multiply_steps : He.DefD := ⟨("multiply_steps", none), "multiply_steps", "multiply_steps", defArgs (top 29), defBody (top 29), defScope (top 29), [], []⟩
def d_Steps_init : He.DefD := ⟨("Steps", some "__init__"), "__init__", "Steps.__init__", defArgs (inClass (top 30) 0), defBody (inClass (top 30) 0), defScope (inClass (top 30) 0), [], []⟩
def d_Steps_eq : He.DefD := ⟨("Steps", some "__eq__"), "__eq__", "Steps.__eq__", defArgs (inClass (top 30) 1), defBody (inClass (top 30) 1), defScope (inClass (top 30) 1), [], []⟩
def d_Steps_len : He.DefD := ⟨("Steps", some "__len__"), "__len__", "Steps.__len__", defArgs (inClass (top 30) 2), defBody (inClass (top 30) 2), defScope (inClass (top 30) 2), [], []⟩
def d_Steps_iter : He.DefD := ⟨("Steps", some "__iter__"), "__iter__", "Steps.__iter__", defArgs (inClass (top 30) 3), defBody (inClass (top 30) 3), defScope (inClass (top 30) 3), [], []⟩
def d_Steps_getitem : He.DefD := ⟨("Steps", some "__getitem__"), "__getitem__", "Steps.__getitem__", defArgs (inClass (top 30) 4), defBody (inClass (top 30) 4), defScope (inClass (top 30) 4), [], []⟩
def d_Steps_add : He.DefD := ⟨("Steps", some "__add__"), "__add__", "Steps.__add__", defArgs (inClass (top 30) 5), defBody (inClass (top 30) 5), defScope (inClass (top 30) 5), [], []⟩
def d_Steps_neg : He.DefD := ⟨("Steps", some "__neg__"), "__neg__", "Steps.__neg__", defArgs (inClass (top 30) 6), defBody (inClass (top 30) 6), defScope (inClass (top 30) 6), [], []⟩
def d_Steps_sub : He.DefD := ⟨("Steps", some "__sub__"), "__sub__", "Steps.__sub__", defArgs (inClass (top 30) 7), defBody (inClass (top 30) 7), defScope (inClass (top 30) 7), [], []⟩
def d_Steps_mul : He.DefD := ⟨("Steps", some "__mul__"), "__mul__", "Steps.__mul__", defArgs (inClass (top 30) 8), defBody (inClass (top 30) 8), defScope (inClass (top 30) 8), [], []⟩
def d_Steps_call : He.DefD := ⟨("Steps", some "__call__"), "__call__", "Steps.__call__", defArgs (inClass (top 30) 9), defBody (inClass (top 30) 9), defScope (inClass (top 30) 9), [], []⟩
def d_Steps_order : He.DefD := ⟨("Steps", some "order"), "order", "Steps.order", defArgs (inClass (top 30) 10), defBody (inClass (top 30) 10), defScope (inClass (top 30) 10), [], []⟩
def d_Steps_least : He.DefD := ⟨("Steps", some "least"), "least", "Steps.least", defArgs (inClass (top 30) 11), defBody (inClass (top 30) 11), defScope (inClass (top 30) 11), [], []⟩
def d_Steps_is_zero : He.DefD := ⟨("Steps", some "is_zero"), "is_zero", "Steps.is_zero", defArgs (inClass (top 30) 12), defBody (inClass (top 30) 12), defScope (inClass (top 30) 12), [], []⟩
def d_Steps_leading : He.DefD := ⟨("Steps", some "leading"), "leading", "Steps.leading", defArgs (inClass (top 30) 13), defBody (inClass (top 30) 13), defScope (inClass (top 30) 13), [], []⟩
def d_Steps_scaled : He.DefD := ⟨("Steps", some "scaled"), "scaled", "Steps.scaled", defArgs (inClass (top 30) 14), defBody (inClass (top 30) 14), defScope (inClass (top 30) 14), [], []⟩
def d_Steps_monic : He.DefD := ⟨("Steps", some "monic"), "monic", "Steps.monic", defArgs (inClass (top 30) 16), defBody (inClass (top 30) 16), defScope (inClass (top 30) 16), [], []⟩
def d_Steps_divide : He.DefD := ⟨("Steps", some "divide"), "divide", "Steps.divide", defArgs (inClass (top 30) 17), defBody (inClass (top 30) 17), defScope (inClass (top 30) 17), [], []⟩
def d_step_monomial : He.DefD := ⟨("step_monomial", none), "step_monomial", "step_monomial", defArgs (top 31), defBody (top 31), defScope (top 31), [], []⟩
def d_ratio_operator : He.DefD := ⟨("ratio_operator", none), "ratio_operator", "ratio_operator", defArgs (top 32), defBody (top 32), defScope (top 32), [], []⟩
def d_step_annihilator : He.DefD := ⟨("step_annihilator", none), "step_annihilator", "step_annihilator", defArgs (top 33), defBody (top 33), defScope (top 33), [], []⟩
def d_step_euclid : He.DefD := ⟨("step_euclid", none), "step_euclid", "step_euclid", defArgs (top 35), defBody (top 35), defScope (top 35), [], []⟩
def d_step_divisor : He.DefD := ⟨("step_divisor", none), "step_divisor", "step_divisor", defArgs (top 36), defBody (top 36), defScope (top 36), [], []⟩
def d_step_multiple : He.DefD := ⟨("step_multiple", none), "step_multiple", "step_multiple", defArgs (top 37), defBody (top 37), defScope (top 37), [], []⟩
def d_step_quotient : He.DefD := ⟨("step_quotient", none), "step_quotient", "step_quotient", defArgs (top 38), defBody (top 38), defScope (top 38), [], []⟩
def d_check_steps : He.DefD := ⟨("check_steps", none), "check_steps", "check_steps", defArgs (top 40), defBody (top 40), defScope (top 40), [], []⟩
def d_steps_of_sum : He.DefD := ⟨("steps_of_sum", none), "steps_of_sum", "steps_of_sum", defArgs (top 41), defBody (top 41), defScope (top 41), [], []⟩
def d_law_state : He.DefD := ⟨("_law_state", none), "_law_state", "_law_state", defArgs (top 43), defBody (top 43), defScope (top 43), [], []⟩
def d_law_take : He.DefD := ⟨("_law_take", none), "_law_take", "_law_take", defArgs (top 44), defBody (top 44), defScope (top 44), [], []⟩
def d_law_q : He.DefD := ⟨("_law_q", none), "_law_q", "_law_q", defArgs (top 45), defBody (top 45), defScope (top 45), [], []⟩
def d_law_pol : He.DefD := ⟨("_law_pol", none), "_law_pol", "_law_pol", defArgs (top 46), defBody (top 46), defScope (top 46), [], []⟩
def d_law_pol_other : He.DefD := ⟨("_law_pol_other", none), "_law_pol_other", "_law_pol_other", defArgs (top 47), defBody (top 47), defScope (top 47), [], []⟩
def d_law_line : He.DefD := ⟨("_law_line", none), "_law_line", "_law_line", defArgs (top 48), defBody (top 48), defScope (top 48), [], []⟩
def d_law_fun : He.DefD := ⟨("_law_fun", none), "_law_fun", "_law_fun", defArgs (top 49), defBody (top 49), defScope (top 49), [], []⟩
def d_law_fun_other : He.DefD := ⟨("_law_fun_other", none), "_law_fun_other", "_law_fun_other", defArgs (top 50), defBody (top 50), defScope (top 50), [], []⟩
def d_law_step_op : He.DefD := ⟨("_law_step_op", none), "_law_step_op", "_law_step_op", defArgs (top 51), defBody (top 51), defScope (top 51), [], []⟩
def d_law_divides : He.DefD := ⟨("_law_divides", none), "_law_divides", "_law_divides", defArgs (top 52), defBody (top 52), defScope (top 52), [], []⟩
def d_law_pair_right : He.DefD := ⟨("_law_pair_right", none), "_law_pair_right", "_law_pair_right", defArgs (top 53), defBody (top 53), defScope (top 53), [], []⟩
def d_law_zero_divisor : He.DefD := ⟨("_law_zero_divisor", none), "_law_zero_divisor", "_law_zero_divisor", defArgs (top 54), defBody (top 54), defScope (top 54), [], []⟩
def d_law : He.DefD := ⟨("law", none), "law", "law", defArgs (top 55), defBody (top 55), defScope (top 55), [], []⟩
def fn0 : List He.DefD := [d_written_integer, d_Ratio_init, d_Ratio_add, d_Ratio_sub, d_Ratio_mul, d_Ratio_neg, d_Ratio_eq, d_Ratio_str, d_Ratio_inverse, d_Ratio_over, d_Ratio_power, d_Ratio_is_zero, d_zero, d_one, d_trimmed, d_Poly_init, d_Poly_add]
def fn1 : List He.DefD := [d_Poly_neg, d_Poly_sub, d_Poly_mul, d_Poly_eq, d_Poly_floordiv, d_Poly_mod, d_Poly_call, d_Poly_iter, d_Poly_divided, d_Poly_degree, d_Poly_is_zero, d_Poly_last, d_Poly_coefficient, d_Poly_terms, d_Poly_scaled, d_Poly_power, d_Poly_monic]
def fn2 : List He.DefD := [d_Poly_shifted, d_Poly_primitive, d_constant, d_primitive_row, d_integer_rest, d_common_divisor, d_RatFun_init, d_RatFun_eq, d_RatFun_add, d_RatFun_sub, d_RatFun_mul, d_RatFun_neg, d_RatFun_floordiv, d_RatFun_call, d_RatFun_is_zero, d_RatFun_inverse, d_RatFun_power]
def fn3 : List He.DefD := [d_RatFun_degree, d_RatFun_leading, d_RatFun_shifted, d_of_poly, d_of_ratio, d_add_rows, d_scale_row, d_moved_row, d_multiply_steps, d_Steps_init, d_Steps_eq, d_Steps_len, d_Steps_iter, d_Steps_getitem, d_Steps_add, d_Steps_neg, d_Steps_sub]
def fn4 : List He.DefD := [d_Steps_mul, d_Steps_call, d_Steps_order, d_Steps_least, d_Steps_is_zero, d_Steps_leading, d_Steps_scaled, d_Steps_monic, d_Steps_divide, d_step_monomial, d_ratio_operator, d_step_annihilator, d_step_euclid, d_step_divisor, d_step_multiple, d_step_quotient, d_check_steps]
def fn5 : List He.DefD := [d_steps_of_sum, d_law_state, d_law_take, d_law_q, d_law_pol, d_law_pol_other, d_law_line, d_law_fun, d_law_fun_other, d_law_step_op, d_law_divides, d_law_pair_right, d_law_zero_divisor, d_law]
def fn : List He.DefD := fn0 ++ fn1 ++ fn2 ++ fn3 ++ fn4 ++ fn5
def exn0 : List He.DefD := [d_Refused_init]
def exn1 : List He.DefD := []
def exn2 : List He.DefD := []
def exn3 : List He.DefD := []
def exn4 : List He.DefD := []
def exn5 : List He.DefD := []
def exn : List He.DefD := exn0 ++ exn1 ++ exn2 ++ exn3 ++ exn4 ++ exn5
def fa0 : List He.Fa := [.glo "Ratio", .glo "Poly", .glo "RatFun", .glo "Steps", .glo "Fault", .glo "ZeroDivisor", .glo "Refused", .cls "Ratio", .mkr "Ratio", .noat "Ratio" "n", .noat "Ratio" "d", .meth "Ratio" "__add__", .meth "Ratio" "__sub__", .meth "Ratio" "__mul__", .meth "Ratio" "__neg__", .meth "Ratio" "__eq__", .meth "Ratio" "__str__", .meth "Ratio" "inverse", .meth "Ratio" "over", .meth "Ratio" "power", .meth "Ratio" "is_zero", .cls "Poly", .mkr "Poly", .noat "Poly" "row", .meth "Poly" "__add__", .meth "Poly" "__neg__", .meth "Poly" "__sub__", .meth "Poly" "__mul__", .meth "Poly" "__eq__"]
def fa1 : List He.Fa := [.meth "Poly" "__floordiv__", .meth "Poly" "__mod__", .meth "Poly" "__call__", .meth "Poly" "__iter__", .meth "Poly" "divided", .meth "Poly" "degree", .meth "Poly" "is_zero", .meth "Poly" "last", .meth "Poly" "coefficient", .meth "Poly" "terms", .meth "Poly" "scaled", .meth "Poly" "power", .meth "Poly" "monic", .meth "Poly" "shifted", .meth "Poly" "primitive", .cls "RatFun", .mkr "RatFun", .noat "RatFun" "num", .noat "RatFun" "den", .meth "RatFun" "__eq__", .meth "RatFun" "__add__", .meth "RatFun" "__sub__", .meth "RatFun" "__mul__", .meth "RatFun" "__neg__", .meth "RatFun" "__floordiv__", .meth "RatFun" "__call__", .meth "RatFun" "is_zero", .meth "RatFun" "inverse", .meth "RatFun" "power"]
def fa2 : List He.Fa := [.meth "RatFun" "degree", .meth "RatFun" "leading", .meth "RatFun" "shifted", .cls "Steps", .mkr "Steps", .noat "Steps" "coefficients", .meth "Steps" "__eq__", .meth "Steps" "__len__", .meth "Steps" "__iter__", .meth "Steps" "__getitem__", .meth "Steps" "__add__", .meth "Steps" "__neg__", .meth "Steps" "__sub__", .meth "Steps" "__mul__", .meth "Steps" "__call__", .meth "Steps" "order", .meth "Steps" "least", .meth "Steps" "is_zero", .meth "Steps" "leading", .meth "Steps" "scaled", .meth "Steps" "monic", .meth "Steps" "divide", .exm "ZeroDivisor" "ZeroDivisor" true, .exc "ZeroDivisor", .exm "Refused" "Refused" true, .glo "written_integer", .keep "written_integer", .glo "zero", .keep "zero"]
def fa3 : List He.Fa := [.glo "one", .keep "one", .glo "_trimmed", .keep "_trimmed", .glo "constant", .keep "constant", .glo "_primitive_row", .keep "_primitive_row", .glo "_integer_rest", .keep "_integer_rest", .glo "common_divisor", .keep "common_divisor", .glo "of_poly", .keep "of_poly", .glo "of_ratio", .keep "of_ratio", .glo "add_rows", .keep "add_rows", .glo "scale_row", .keep "scale_row", .glo "moved_row", .keep "moved_row", .glo "multiply_steps", .keep "multiply_steps", .glo "step_monomial", .keep "step_monomial", .glo "ratio_operator", .keep "ratio_operator", .glo "step_annihilator"]
def fa4 : List He.Fa := [.keep "step_annihilator", .glo "step_euclid", .keep "step_euclid", .glo "step_divisor", .keep "step_divisor", .glo "step_multiple", .keep "step_multiple", .glo "step_quotient", .keep "step_quotient", .glo "check_steps", .keep "check_steps", .glo "steps_of_sum", .keep "steps_of_sum", .glo "_law_state", .keep "_law_state", .glo "_law_take", .keep "_law_take", .glo "_law_q", .keep "_law_q", .glo "_law_pol", .keep "_law_pol", .glo "_law_pol_other", .keep "_law_pol_other", .glo "_law_line", .keep "_law_line", .glo "_law_fun", .keep "_law_fun", .glo "_law_fun_other", .keep "_law_fun_other"]
def fa5 : List He.Fa := [.glo "_law_step_op", .keep "_law_step_op", .glo "_law_divides", .keep "_law_divides", .glo "_law_pair_right", .keep "_law_pair_right", .glo "_law_zero_divisor", .keep "_law_zero_divisor", .glo "law", .keep "law", .free "abs", .free "len", .free "range", .free "enumerate", .free "zip", .free "reversed", .free "list", .free "tuple", .free "isinstance", .free "int", .free "max", .free "super", .free "str", .free "divmod", .free "iter", .free "ValueError"]
def fa : List He.Fa := fa0 ++ fa1 ++ fa2 ++ fa3 ++ fa4 ++ fa5
def xa0 : List Xa := [.first "Ratio", .ca "Ratio", .kitT "Ratio" "int" false, .kitN "NoneType" "Ratio" false, .kitN "int" "Ratio" false, .kitC "Ratio" "Ratio" true, .kitC "Poly" "Ratio" false, .kitC "RatFun" "Ratio" false, .kitC "Steps" "Ratio" false, .ne "Ratio", .nfT "Ratio" "NoneType"]
def xa1 : List Xa := [.nfC "Ratio" "Poly", .nfC "Ratio" "RatFun", .nfC "Ratio" "Steps", .noat "Ratio" "__len__", .first "Poly", .ca "Poly", .kitT "Poly" "int" false, .kitN "NoneType" "Poly" false, .kitN "int" "Poly" false, .kitC "Ratio" "Poly" false, .kitC "Poly" "Poly" true]
def xa2 : List Xa := [.kitC "RatFun" "Poly" false, .kitC "Steps" "Poly" false, .ne "Poly", .nfT "Poly" "NoneType", .nfC "Poly" "Ratio", .nfC "Poly" "RatFun", .nfC "Poly" "Steps", .noat "Poly" "__len__", .first "RatFun", .ca "RatFun", .kitT "RatFun" "int" false]
def xa3 : List Xa := [.kitN "NoneType" "RatFun" false, .kitN "int" "RatFun" false, .kitC "Ratio" "RatFun" false, .kitC "Poly" "RatFun" false, .kitC "RatFun" "RatFun" true, .kitC "Steps" "RatFun" false, .ne "RatFun", .nfT "RatFun" "NoneType", .nfC "RatFun" "Ratio", .nfC "RatFun" "Poly", .nfC "RatFun" "Steps"]
def xa4 : List Xa := [.noat "RatFun" "__len__", .first "Steps", .ca "Steps", .kitT "Steps" "int" false, .kitN "NoneType" "Steps" false, .kitN "int" "Steps" false, .kitC "Ratio" "Steps" false, .kitC "Poly" "Steps" false, .kitC "RatFun" "Steps" false, .kitC "Steps" "Steps" true, .ne "Steps"]
def xa5 : List Xa := [.nfT "Steps" "NoneType", .nfC "Steps" "Ratio", .nfC "Steps" "Poly", .nfC "Steps" "RatFun", .exi "Refused" "Refused.__init__" "/claim/cut.py", .blt "gcd" "math.gcd", .blt "lcm" "math.lcm", .seer]
def xa : List Xa := xa0 ++ xa1 ++ xa2 ++ xa3 ++ xa4 ++ xa5
/-- what the walks ask of the text -/
structure Facts (K : PySem.W.Frag) (mg : Str → Option Value) : Prop where
  g_Ratio : mg "Ratio" = some (.ref (He.ga K "Ratio"))
  g_Poly : mg "Poly" = some (.ref (He.ga K "Poly"))
  g_RatFun : mg "RatFun" = some (.ref (He.ga K "RatFun"))
  g_Steps : mg "Steps" = some (.ref (He.ga K "Steps"))
  g_Fault : mg "Fault" = some (.ref (He.ga K "Fault"))
  g_ZeroDivisor : mg "ZeroDivisor" = some (.ref (He.ga K "ZeroDivisor"))
  g_Refused : mg "Refused" = some (.ref (He.ga K "Refused"))
  cl_Ratio : Cls K (He.ga K "Ratio")
  mk_Ratio : Mk K (He.ga K "Ratio") (He.fAd K ("Ratio", some "__init__"))
  na_Ratio_n : NoAttr K (He.ga K "Ratio") "n"
  na_Ratio_d : NoAttr K (He.ga K "Ratio") "d"
  me_Ratio_add : Meth K (He.ga K "Ratio") "__add__" (He.fAd K ("Ratio", some "__add__"))
  me_Ratio_sub : Meth K (He.ga K "Ratio") "__sub__" (He.fAd K ("Ratio", some "__sub__"))
  me_Ratio_mul : Meth K (He.ga K "Ratio") "__mul__" (He.fAd K ("Ratio", some "__mul__"))
  me_Ratio_neg : Meth K (He.ga K "Ratio") "__neg__" (He.fAd K ("Ratio", some "__neg__"))
  me_Ratio_eq : Meth K (He.ga K "Ratio") "__eq__" (He.fAd K ("Ratio", some "__eq__"))
  me_Ratio_str : Meth K (He.ga K "Ratio") "__str__" (He.fAd K ("Ratio", some "__str__"))
  me_Ratio_inverse : Meth K (He.ga K "Ratio") "inverse" (He.fAd K ("Ratio", some "inverse"))
  me_Ratio_over : Meth K (He.ga K "Ratio") "over" (He.fAd K ("Ratio", some "over"))
  me_Ratio_power : Meth K (He.ga K "Ratio") "power" (He.fAd K ("Ratio", some "power"))
  me_Ratio_is_zero : Meth K (He.ga K "Ratio") "is_zero" (He.fAd K ("Ratio", some "is_zero"))
  cl_Poly : Cls K (He.ga K "Poly")
  mk_Poly : Mk K (He.ga K "Poly") (He.fAd K ("Poly", some "__init__"))
  na_Poly_row : NoAttr K (He.ga K "Poly") "row"
  me_Poly_add : Meth K (He.ga K "Poly") "__add__" (He.fAd K ("Poly", some "__add__"))
  me_Poly_neg : Meth K (He.ga K "Poly") "__neg__" (He.fAd K ("Poly", some "__neg__"))
  me_Poly_sub : Meth K (He.ga K "Poly") "__sub__" (He.fAd K ("Poly", some "__sub__"))
  me_Poly_mul : Meth K (He.ga K "Poly") "__mul__" (He.fAd K ("Poly", some "__mul__"))
  me_Poly_eq : Meth K (He.ga K "Poly") "__eq__" (He.fAd K ("Poly", some "__eq__"))
  me_Poly_floordiv : Meth K (He.ga K "Poly") "__floordiv__" (He.fAd K ("Poly", some "__floordiv__"))
  me_Poly_mod : Meth K (He.ga K "Poly") "__mod__" (He.fAd K ("Poly", some "__mod__"))
  me_Poly_call : Meth K (He.ga K "Poly") "__call__" (He.fAd K ("Poly", some "__call__"))
  me_Poly_iter : Meth K (He.ga K "Poly") "__iter__" (He.fAd K ("Poly", some "__iter__"))
  me_Poly_divided : Meth K (He.ga K "Poly") "divided" (He.fAd K ("Poly", some "divided"))
  me_Poly_degree : Meth K (He.ga K "Poly") "degree" (He.fAd K ("Poly", some "degree"))
  me_Poly_is_zero : Meth K (He.ga K "Poly") "is_zero" (He.fAd K ("Poly", some "is_zero"))
  me_Poly_last : Meth K (He.ga K "Poly") "last" (He.fAd K ("Poly", some "last"))
  me_Poly_coefficient : Meth K (He.ga K "Poly") "coefficient" (He.fAd K ("Poly", some "coefficient"))
  me_Poly_terms : Meth K (He.ga K "Poly") "terms" (He.fAd K ("Poly", some "terms"))
  me_Poly_scaled : Meth K (He.ga K "Poly") "scaled" (He.fAd K ("Poly", some "scaled"))
  me_Poly_power : Meth K (He.ga K "Poly") "power" (He.fAd K ("Poly", some "power"))
  me_Poly_monic : Meth K (He.ga K "Poly") "monic" (He.fAd K ("Poly", some "monic"))
  me_Poly_shifted : Meth K (He.ga K "Poly") "shifted" (He.fAd K ("Poly", some "shifted"))
  me_Poly_primitive : Meth K (He.ga K "Poly") "primitive" (He.fAd K ("Poly", some "primitive"))
  cl_RatFun : Cls K (He.ga K "RatFun")
  mk_RatFun : Mk K (He.ga K "RatFun") (He.fAd K ("RatFun", some "__init__"))
  na_RatFun_num : NoAttr K (He.ga K "RatFun") "num"
  na_RatFun_den : NoAttr K (He.ga K "RatFun") "den"
  me_RatFun_eq : Meth K (He.ga K "RatFun") "__eq__" (He.fAd K ("RatFun", some "__eq__"))
  me_RatFun_add : Meth K (He.ga K "RatFun") "__add__" (He.fAd K ("RatFun", some "__add__"))
  me_RatFun_sub : Meth K (He.ga K "RatFun") "__sub__" (He.fAd K ("RatFun", some "__sub__"))
  me_RatFun_mul : Meth K (He.ga K "RatFun") "__mul__" (He.fAd K ("RatFun", some "__mul__"))
  me_RatFun_neg : Meth K (He.ga K "RatFun") "__neg__" (He.fAd K ("RatFun", some "__neg__"))
  me_RatFun_floordiv : Meth K (He.ga K "RatFun") "__floordiv__" (He.fAd K ("RatFun", some "__floordiv__"))
  me_RatFun_call : Meth K (He.ga K "RatFun") "__call__" (He.fAd K ("RatFun", some "__call__"))
  me_RatFun_is_zero : Meth K (He.ga K "RatFun") "is_zero" (He.fAd K ("RatFun", some "is_zero"))
  me_RatFun_inverse : Meth K (He.ga K "RatFun") "inverse" (He.fAd K ("RatFun", some "inverse"))
  me_RatFun_power : Meth K (He.ga K "RatFun") "power" (He.fAd K ("RatFun", some "power"))
  me_RatFun_degree : Meth K (He.ga K "RatFun") "degree" (He.fAd K ("RatFun", some "degree"))
  me_RatFun_leading : Meth K (He.ga K "RatFun") "leading" (He.fAd K ("RatFun", some "leading"))
  me_RatFun_shifted : Meth K (He.ga K "RatFun") "shifted" (He.fAd K ("RatFun", some "shifted"))
  cl_Steps : Cls K (He.ga K "Steps")
  mk_Steps : Mk K (He.ga K "Steps") (He.fAd K ("Steps", some "__init__"))
  na_Steps_coefficients : NoAttr K (He.ga K "Steps") "coefficients"
  me_Steps_eq : Meth K (He.ga K "Steps") "__eq__" (He.fAd K ("Steps", some "__eq__"))
  me_Steps_len : Meth K (He.ga K "Steps") "__len__" (He.fAd K ("Steps", some "__len__"))
  me_Steps_iter : Meth K (He.ga K "Steps") "__iter__" (He.fAd K ("Steps", some "__iter__"))
  me_Steps_getitem : Meth K (He.ga K "Steps") "__getitem__" (He.fAd K ("Steps", some "__getitem__"))
  me_Steps_add : Meth K (He.ga K "Steps") "__add__" (He.fAd K ("Steps", some "__add__"))
  me_Steps_neg : Meth K (He.ga K "Steps") "__neg__" (He.fAd K ("Steps", some "__neg__"))
  me_Steps_sub : Meth K (He.ga K "Steps") "__sub__" (He.fAd K ("Steps", some "__sub__"))
  me_Steps_mul : Meth K (He.ga K "Steps") "__mul__" (He.fAd K ("Steps", some "__mul__"))
  me_Steps_call : Meth K (He.ga K "Steps") "__call__" (He.fAd K ("Steps", some "__call__"))
  me_Steps_order : Meth K (He.ga K "Steps") "order" (He.fAd K ("Steps", some "order"))
  me_Steps_least : Meth K (He.ga K "Steps") "least" (He.fAd K ("Steps", some "least"))
  me_Steps_is_zero : Meth K (He.ga K "Steps") "is_zero" (He.fAd K ("Steps", some "is_zero"))
  me_Steps_leading : Meth K (He.ga K "Steps") "leading" (He.fAd K ("Steps", some "leading"))
  me_Steps_scaled : Meth K (He.ga K "Steps") "scaled" (He.fAd K ("Steps", some "scaled"))
  me_Steps_monic : Meth K (He.ga K "Steps") "monic" (He.fAd K ("Steps", some "monic"))
  me_Steps_divide : Meth K (He.ga K "Steps") "divide" (He.fAd K ("Steps", some "divide"))
  em_ZeroDivisor : PySem.W.exmOne K (.ref (He.ga K "ZeroDivisor")) (.ref (He.ga K "ZeroDivisor")) = some true
  ex_ZeroDivisor : PySem.W.excIn K (He.ga K "ZeroDivisor") He.veBase "ValueError.__new__" = true ∧ PySem.W.keepIn K (.ref (He.ga K "ZeroDivisor")) = true ∧ PySem.W.subIn K (.ref (He.ga K "ZeroDivisor")) (.type "BaseException") = some true ∧ PySem.W.typeIn K (.ref (He.ga K "ZeroDivisor")) = some (.type "type")
  em_Refused : PySem.W.exmOne K (.ref (He.ga K "Refused")) (.ref (He.ga K "Refused")) = some true
  g_written_integer : mg "written_integer" = some (.ref (He.fAd K ("written_integer", none)))
  k_written_integer : PySem.W.keepIn K (.ref (He.fAd K ("written_integer", none))) = true
  g_zero : mg "zero" = some (.ref (He.fAd K ("zero", none)))
  k_zero : PySem.W.keepIn K (.ref (He.fAd K ("zero", none))) = true
  g_one : mg "one" = some (.ref (He.fAd K ("one", none)))
  k_one : PySem.W.keepIn K (.ref (He.fAd K ("one", none))) = true
  g_trimmed : mg "_trimmed" = some (.ref (He.fAd K ("_trimmed", none)))
  k_trimmed : PySem.W.keepIn K (.ref (He.fAd K ("_trimmed", none))) = true
  g_constant : mg "constant" = some (.ref (He.fAd K ("constant", none)))
  k_constant : PySem.W.keepIn K (.ref (He.fAd K ("constant", none))) = true
  g_primitive_row : mg "_primitive_row" = some (.ref (He.fAd K ("_primitive_row", none)))
  k_primitive_row : PySem.W.keepIn K (.ref (He.fAd K ("_primitive_row", none))) = true
  g_integer_rest : mg "_integer_rest" = some (.ref (He.fAd K ("_integer_rest", none)))
  k_integer_rest : PySem.W.keepIn K (.ref (He.fAd K ("_integer_rest", none))) = true
  g_common_divisor : mg "common_divisor" = some (.ref (He.fAd K ("common_divisor", none)))
  k_common_divisor : PySem.W.keepIn K (.ref (He.fAd K ("common_divisor", none))) = true
  g_of_poly : mg "of_poly" = some (.ref (He.fAd K ("of_poly", none)))
  k_of_poly : PySem.W.keepIn K (.ref (He.fAd K ("of_poly", none))) = true
  g_of_ratio : mg "of_ratio" = some (.ref (He.fAd K ("of_ratio", none)))
  k_of_ratio : PySem.W.keepIn K (.ref (He.fAd K ("of_ratio", none))) = true
  g_add_rows : mg "add_rows" = some (.ref (He.fAd K ("add_rows", none)))
  k_add_rows : PySem.W.keepIn K (.ref (He.fAd K ("add_rows", none))) = true
  g_scale_row : mg "scale_row" = some (.ref (He.fAd K ("scale_row", none)))
  k_scale_row : PySem.W.keepIn K (.ref (He.fAd K ("scale_row", none))) = true
  g_moved_row : mg "moved_row" = some (.ref (He.fAd K ("moved_row", none)))
  k_moved_row : PySem.W.keepIn K (.ref (He.fAd K ("moved_row", none))) = true
  g_multiply_steps : mg "multiply_steps" = some (.ref (He.fAd K ("multiply_steps", none)))
  k_multiply_steps : PySem.W.keepIn K (.ref (He.fAd K ("multiply_steps", none))) = true
  g_step_monomial : mg "step_monomial" = some (.ref (He.fAd K ("step_monomial", none)))
  k_step_monomial : PySem.W.keepIn K (.ref (He.fAd K ("step_monomial", none))) = true
  g_ratio_operator : mg "ratio_operator" = some (.ref (He.fAd K ("ratio_operator", none)))
  k_ratio_operator : PySem.W.keepIn K (.ref (He.fAd K ("ratio_operator", none))) = true
  g_step_annihilator : mg "step_annihilator" = some (.ref (He.fAd K ("step_annihilator", none)))
  k_step_annihilator : PySem.W.keepIn K (.ref (He.fAd K ("step_annihilator", none))) = true
  g_step_euclid : mg "step_euclid" = some (.ref (He.fAd K ("step_euclid", none)))
  k_step_euclid : PySem.W.keepIn K (.ref (He.fAd K ("step_euclid", none))) = true
  g_step_divisor : mg "step_divisor" = some (.ref (He.fAd K ("step_divisor", none)))
  k_step_divisor : PySem.W.keepIn K (.ref (He.fAd K ("step_divisor", none))) = true
  g_step_multiple : mg "step_multiple" = some (.ref (He.fAd K ("step_multiple", none)))
  k_step_multiple : PySem.W.keepIn K (.ref (He.fAd K ("step_multiple", none))) = true
  g_step_quotient : mg "step_quotient" = some (.ref (He.fAd K ("step_quotient", none)))
  k_step_quotient : PySem.W.keepIn K (.ref (He.fAd K ("step_quotient", none))) = true
  g_check_steps : mg "check_steps" = some (.ref (He.fAd K ("check_steps", none)))
  k_check_steps : PySem.W.keepIn K (.ref (He.fAd K ("check_steps", none))) = true
  g_steps_of_sum : mg "steps_of_sum" = some (.ref (He.fAd K ("steps_of_sum", none)))
  k_steps_of_sum : PySem.W.keepIn K (.ref (He.fAd K ("steps_of_sum", none))) = true
  g_law_state : mg "_law_state" = some (.ref (He.fAd K ("_law_state", none)))
  k_law_state : PySem.W.keepIn K (.ref (He.fAd K ("_law_state", none))) = true
  g_law_take : mg "_law_take" = some (.ref (He.fAd K ("_law_take", none)))
  k_law_take : PySem.W.keepIn K (.ref (He.fAd K ("_law_take", none))) = true
  g_law_q : mg "_law_q" = some (.ref (He.fAd K ("_law_q", none)))
  k_law_q : PySem.W.keepIn K (.ref (He.fAd K ("_law_q", none))) = true
  g_law_pol : mg "_law_pol" = some (.ref (He.fAd K ("_law_pol", none)))
  k_law_pol : PySem.W.keepIn K (.ref (He.fAd K ("_law_pol", none))) = true
  g_law_pol_other : mg "_law_pol_other" = some (.ref (He.fAd K ("_law_pol_other", none)))
  k_law_pol_other : PySem.W.keepIn K (.ref (He.fAd K ("_law_pol_other", none))) = true
  g_law_line : mg "_law_line" = some (.ref (He.fAd K ("_law_line", none)))
  k_law_line : PySem.W.keepIn K (.ref (He.fAd K ("_law_line", none))) = true
  g_law_fun : mg "_law_fun" = some (.ref (He.fAd K ("_law_fun", none)))
  k_law_fun : PySem.W.keepIn K (.ref (He.fAd K ("_law_fun", none))) = true
  g_law_fun_other : mg "_law_fun_other" = some (.ref (He.fAd K ("_law_fun_other", none)))
  k_law_fun_other : PySem.W.keepIn K (.ref (He.fAd K ("_law_fun_other", none))) = true
  g_law_step_op : mg "_law_step_op" = some (.ref (He.fAd K ("_law_step_op", none)))
  k_law_step_op : PySem.W.keepIn K (.ref (He.fAd K ("_law_step_op", none))) = true
  g_law_divides : mg "_law_divides" = some (.ref (He.fAd K ("_law_divides", none)))
  k_law_divides : PySem.W.keepIn K (.ref (He.fAd K ("_law_divides", none))) = true
  g_law_pair_right : mg "_law_pair_right" = some (.ref (He.fAd K ("_law_pair_right", none)))
  k_law_pair_right : PySem.W.keepIn K (.ref (He.fAd K ("_law_pair_right", none))) = true
  g_law_zero_divisor : mg "_law_zero_divisor" = some (.ref (He.fAd K ("_law_zero_divisor", none)))
  k_law_zero_divisor : PySem.W.keepIn K (.ref (He.fAd K ("_law_zero_divisor", none))) = true
  g_law : mg "law" = some (.ref (He.fAd K ("law", none)))
  k_law : PySem.W.keepIn K (.ref (He.fAd K ("law", none))) = true
  b_abs : mg "abs" = none
  b_len : mg "len" = none
  b_range : mg "range" = none
  b_enumerate : mg "enumerate" = none
  b_zip : mg "zip" = none
  b_reversed : mg "reversed" = none
  b_list : mg "list" = none
  b_tuple : mg "tuple" = none
  b_isinstance : mg "isinstance" = none
  b_int : mg "int" = none
  b_max : mg "max" = none
  b_super : mg "super" = none
  b_str : mg "str" = none
  b_divmod : mg "divmod" = none
  b_iter : mg "iter" = none
  b_ValueError : mg "ValueError" = none
  sf_Ratio : PySem.W.selfFirst K (He.ga K "Ratio") = true
  ca_Ratio : ClA K (He.ga K "Ratio")
  ki_Ratio : PySem.W.kitOne K (.ref (He.ga K "Ratio")) (.type "int") = some false
  knNoneType_Ratio : PySem.W.kitOne K (.type "NoneType") (.ref (He.ga K "Ratio")) = some false
  knint_Ratio : PySem.W.kitOne K (.type "int") (.ref (He.ga K "Ratio")) = some false
  kc_Ratio_Ratio : PySem.W.kitOne K (.ref (He.ga K "Ratio")) (.ref (He.ga K "Ratio")) = some true
  kc_Poly_Ratio : PySem.W.kitOne K (.ref (He.ga K "Poly")) (.ref (He.ga K "Ratio")) = some false
  kc_RatFun_Ratio : PySem.W.kitOne K (.ref (He.ga K "RatFun")) (.ref (He.ga K "Ratio")) = some false
  kc_Steps_Ratio : PySem.W.kitOne K (.ref (He.ga K "Steps")) (.ref (He.ga K "Ratio")) = some false
  ne_Ratio : NeA K (He.ga K "Ratio")
  nfT_Ratio_NoneType : PySem.W.notFirst K (He.ga K "Ratio") (.type "NoneType") = true
  nfC_Ratio_Poly : PySem.W.notFirst K (He.ga K "Ratio") (.ref (He.ga K "Poly")) = true
  nfC_Ratio_RatFun : PySem.W.notFirst K (He.ga K "Ratio") (.ref (He.ga K "RatFun")) = true
  nfC_Ratio_Steps : PySem.W.notFirst K (He.ga K "Ratio") (.ref (He.ga K "Steps")) = true
  nl_Ratio : PySem.W.findIn K (.ref (He.ga K "Ratio")) "__len__" = some none
  sf_Poly : PySem.W.selfFirst K (He.ga K "Poly") = true
  ca_Poly : ClA K (He.ga K "Poly")
  ki_Poly : PySem.W.kitOne K (.ref (He.ga K "Poly")) (.type "int") = some false
  knNoneType_Poly : PySem.W.kitOne K (.type "NoneType") (.ref (He.ga K "Poly")) = some false
  knint_Poly : PySem.W.kitOne K (.type "int") (.ref (He.ga K "Poly")) = some false
  kc_Ratio_Poly : PySem.W.kitOne K (.ref (He.ga K "Ratio")) (.ref (He.ga K "Poly")) = some false
  kc_Poly_Poly : PySem.W.kitOne K (.ref (He.ga K "Poly")) (.ref (He.ga K "Poly")) = some true
  kc_RatFun_Poly : PySem.W.kitOne K (.ref (He.ga K "RatFun")) (.ref (He.ga K "Poly")) = some false
  kc_Steps_Poly : PySem.W.kitOne K (.ref (He.ga K "Steps")) (.ref (He.ga K "Poly")) = some false
  ne_Poly : NeA K (He.ga K "Poly")
  nfT_Poly_NoneType : PySem.W.notFirst K (He.ga K "Poly") (.type "NoneType") = true
  nfC_Poly_Ratio : PySem.W.notFirst K (He.ga K "Poly") (.ref (He.ga K "Ratio")) = true
  nfC_Poly_RatFun : PySem.W.notFirst K (He.ga K "Poly") (.ref (He.ga K "RatFun")) = true
  nfC_Poly_Steps : PySem.W.notFirst K (He.ga K "Poly") (.ref (He.ga K "Steps")) = true
  nl_Poly : PySem.W.findIn K (.ref (He.ga K "Poly")) "__len__" = some none
  sf_RatFun : PySem.W.selfFirst K (He.ga K "RatFun") = true
  ca_RatFun : ClA K (He.ga K "RatFun")
  ki_RatFun : PySem.W.kitOne K (.ref (He.ga K "RatFun")) (.type "int") = some false
  knNoneType_RatFun : PySem.W.kitOne K (.type "NoneType") (.ref (He.ga K "RatFun")) = some false
  knint_RatFun : PySem.W.kitOne K (.type "int") (.ref (He.ga K "RatFun")) = some false
  kc_Ratio_RatFun : PySem.W.kitOne K (.ref (He.ga K "Ratio")) (.ref (He.ga K "RatFun")) = some false
  kc_Poly_RatFun : PySem.W.kitOne K (.ref (He.ga K "Poly")) (.ref (He.ga K "RatFun")) = some false
  kc_RatFun_RatFun : PySem.W.kitOne K (.ref (He.ga K "RatFun")) (.ref (He.ga K "RatFun")) = some true
  kc_Steps_RatFun : PySem.W.kitOne K (.ref (He.ga K "Steps")) (.ref (He.ga K "RatFun")) = some false
  ne_RatFun : NeA K (He.ga K "RatFun")
  nfT_RatFun_NoneType : PySem.W.notFirst K (He.ga K "RatFun") (.type "NoneType") = true
  nfC_RatFun_Ratio : PySem.W.notFirst K (He.ga K "RatFun") (.ref (He.ga K "Ratio")) = true
  nfC_RatFun_Poly : PySem.W.notFirst K (He.ga K "RatFun") (.ref (He.ga K "Poly")) = true
  nfC_RatFun_Steps : PySem.W.notFirst K (He.ga K "RatFun") (.ref (He.ga K "Steps")) = true
  nl_RatFun : PySem.W.findIn K (.ref (He.ga K "RatFun")) "__len__" = some none
  sf_Steps : PySem.W.selfFirst K (He.ga K "Steps") = true
  ca_Steps : ClA K (He.ga K "Steps")
  ki_Steps : PySem.W.kitOne K (.ref (He.ga K "Steps")) (.type "int") = some false
  knNoneType_Steps : PySem.W.kitOne K (.type "NoneType") (.ref (He.ga K "Steps")) = some false
  knint_Steps : PySem.W.kitOne K (.type "int") (.ref (He.ga K "Steps")) = some false
  kc_Ratio_Steps : PySem.W.kitOne K (.ref (He.ga K "Ratio")) (.ref (He.ga K "Steps")) = some false
  kc_Poly_Steps : PySem.W.kitOne K (.ref (He.ga K "Poly")) (.ref (He.ga K "Steps")) = some false
  kc_RatFun_Steps : PySem.W.kitOne K (.ref (He.ga K "RatFun")) (.ref (He.ga K "Steps")) = some false
  kc_Steps_Steps : PySem.W.kitOne K (.ref (He.ga K "Steps")) (.ref (He.ga K "Steps")) = some true
  ne_Steps : NeA K (He.ga K "Steps")
  nfT_Steps_NoneType : PySem.W.notFirst K (He.ga K "Steps") (.type "NoneType") = true
  nfC_Steps_Ratio : PySem.W.notFirst K (He.ga K "Steps") (.ref (He.ga K "Ratio")) = true
  nfC_Steps_Poly : PySem.W.notFirst K (He.ga K "Steps") (.ref (He.ga K "Poly")) = true
  nfC_Steps_RatFun : PySem.W.notFirst K (He.ga K "Steps") (.ref (He.ga K "RatFun")) = true
  xi_Refused : exiB K "Refused" "Refused.__init__" "/claim/cut.py" = true
  m_gcd : mg "gcd" = some (.builtin "math.gcd")
  m_lcm : mg "lcm" = some (.builtin "math.lcm")
  seer : seerB K = true
  d_written_integer : ∃ fd, DefAt K d_written_integer (He.fAd K ("written_integer", none)) fd
  d_Ratio_init : ∃ fd, DefAt K d_Ratio_init (He.fAd K ("Ratio", some "__init__")) fd
  d_Ratio_add : ∃ fd, DefAt K d_Ratio_add (He.fAd K ("Ratio", some "__add__")) fd
  d_Ratio_sub : ∃ fd, DefAt K d_Ratio_sub (He.fAd K ("Ratio", some "__sub__")) fd
  d_Ratio_mul : ∃ fd, DefAt K d_Ratio_mul (He.fAd K ("Ratio", some "__mul__")) fd
  d_Ratio_neg : ∃ fd, DefAt K d_Ratio_neg (He.fAd K ("Ratio", some "__neg__")) fd
  d_Ratio_eq : ∃ fd, DefAt K d_Ratio_eq (He.fAd K ("Ratio", some "__eq__")) fd
  d_Ratio_str : ∃ fd, DefAt K d_Ratio_str (He.fAd K ("Ratio", some "__str__")) fd
  d_Ratio_inverse : ∃ fd, DefAt K d_Ratio_inverse (He.fAd K ("Ratio", some "inverse")) fd
  d_Ratio_over : ∃ fd, DefAt K d_Ratio_over (He.fAd K ("Ratio", some "over")) fd
  d_Ratio_power : ∃ fd, DefAt K d_Ratio_power (He.fAd K ("Ratio", some "power")) fd
  d_Ratio_is_zero : ∃ fd, DefAt K d_Ratio_is_zero (He.fAd K ("Ratio", some "is_zero")) fd
  d_zero : ∃ fd, DefAt K d_zero (He.fAd K ("zero", none)) fd
  d_one : ∃ fd, DefAt K d_one (He.fAd K ("one", none)) fd
  d_trimmed : ∃ fd, DefAt K d_trimmed (He.fAd K ("_trimmed", none)) fd
  d_Poly_init : ∃ fd, DefAt K d_Poly_init (He.fAd K ("Poly", some "__init__")) fd
  d_Poly_add : ∃ fd, DefAt K d_Poly_add (He.fAd K ("Poly", some "__add__")) fd
  d_Poly_neg : ∃ fd, DefAt K d_Poly_neg (He.fAd K ("Poly", some "__neg__")) fd
  d_Poly_sub : ∃ fd, DefAt K d_Poly_sub (He.fAd K ("Poly", some "__sub__")) fd
  d_Poly_mul : ∃ fd, DefAt K d_Poly_mul (He.fAd K ("Poly", some "__mul__")) fd
  d_Poly_eq : ∃ fd, DefAt K d_Poly_eq (He.fAd K ("Poly", some "__eq__")) fd
  d_Poly_floordiv : ∃ fd, DefAt K d_Poly_floordiv (He.fAd K ("Poly", some "__floordiv__")) fd
  d_Poly_mod : ∃ fd, DefAt K d_Poly_mod (He.fAd K ("Poly", some "__mod__")) fd
  d_Poly_call : ∃ fd, DefAt K d_Poly_call (He.fAd K ("Poly", some "__call__")) fd
  d_Poly_iter : ∃ fd, DefAt K d_Poly_iter (He.fAd K ("Poly", some "__iter__")) fd
  d_Poly_divided : ∃ fd, DefAt K d_Poly_divided (He.fAd K ("Poly", some "divided")) fd
  d_Poly_degree : ∃ fd, DefAt K d_Poly_degree (He.fAd K ("Poly", some "degree")) fd
  d_Poly_is_zero : ∃ fd, DefAt K d_Poly_is_zero (He.fAd K ("Poly", some "is_zero")) fd
  d_Poly_last : ∃ fd, DefAt K d_Poly_last (He.fAd K ("Poly", some "last")) fd
  d_Poly_coefficient : ∃ fd, DefAt K d_Poly_coefficient (He.fAd K ("Poly", some "coefficient")) fd
  d_Poly_terms : ∃ fd, DefAt K d_Poly_terms (He.fAd K ("Poly", some "terms")) fd
  d_Poly_scaled : ∃ fd, DefAt K d_Poly_scaled (He.fAd K ("Poly", some "scaled")) fd
  d_Poly_power : ∃ fd, DefAt K d_Poly_power (He.fAd K ("Poly", some "power")) fd
  d_Poly_monic : ∃ fd, DefAt K d_Poly_monic (He.fAd K ("Poly", some "monic")) fd
  d_Poly_shifted : ∃ fd, DefAt K d_Poly_shifted (He.fAd K ("Poly", some "shifted")) fd
  d_Poly_primitive : ∃ fd, DefAt K d_Poly_primitive (He.fAd K ("Poly", some "primitive")) fd
  d_constant : ∃ fd, DefAt K d_constant (He.fAd K ("constant", none)) fd
  d_primitive_row : ∃ fd, DefAt K d_primitive_row (He.fAd K ("_primitive_row", none)) fd
  d_integer_rest : ∃ fd, DefAt K d_integer_rest (He.fAd K ("_integer_rest", none)) fd
  d_common_divisor : ∃ fd, DefAt K d_common_divisor (He.fAd K ("common_divisor", none)) fd
  d_RatFun_init : ∃ fd, DefAt K d_RatFun_init (He.fAd K ("RatFun", some "__init__")) fd
  d_RatFun_eq : ∃ fd, DefAt K d_RatFun_eq (He.fAd K ("RatFun", some "__eq__")) fd
  d_RatFun_add : ∃ fd, DefAt K d_RatFun_add (He.fAd K ("RatFun", some "__add__")) fd
  d_RatFun_sub : ∃ fd, DefAt K d_RatFun_sub (He.fAd K ("RatFun", some "__sub__")) fd
  d_RatFun_mul : ∃ fd, DefAt K d_RatFun_mul (He.fAd K ("RatFun", some "__mul__")) fd
  d_RatFun_neg : ∃ fd, DefAt K d_RatFun_neg (He.fAd K ("RatFun", some "__neg__")) fd
  d_RatFun_floordiv : ∃ fd, DefAt K d_RatFun_floordiv (He.fAd K ("RatFun", some "__floordiv__")) fd
  d_RatFun_call : ∃ fd, DefAt K d_RatFun_call (He.fAd K ("RatFun", some "__call__")) fd
  d_RatFun_is_zero : ∃ fd, DefAt K d_RatFun_is_zero (He.fAd K ("RatFun", some "is_zero")) fd
  d_RatFun_inverse : ∃ fd, DefAt K d_RatFun_inverse (He.fAd K ("RatFun", some "inverse")) fd
  d_RatFun_power : ∃ fd, DefAt K d_RatFun_power (He.fAd K ("RatFun", some "power")) fd
  d_RatFun_degree : ∃ fd, DefAt K d_RatFun_degree (He.fAd K ("RatFun", some "degree")) fd
  d_RatFun_leading : ∃ fd, DefAt K d_RatFun_leading (He.fAd K ("RatFun", some "leading")) fd
  d_RatFun_shifted : ∃ fd, DefAt K d_RatFun_shifted (He.fAd K ("RatFun", some "shifted")) fd
  d_of_poly : ∃ fd, DefAt K d_of_poly (He.fAd K ("of_poly", none)) fd
  d_of_ratio : ∃ fd, DefAt K d_of_ratio (He.fAd K ("of_ratio", none)) fd
  d_add_rows : ∃ fd, DefAt K d_add_rows (He.fAd K ("add_rows", none)) fd
  d_scale_row : ∃ fd, DefAt K d_scale_row (He.fAd K ("scale_row", none)) fd
  d_moved_row : ∃ fd, DefAt K d_moved_row (He.fAd K ("moved_row", none)) fd
  d_multiply_steps : ∃ fd, DefAt K d_multiply_steps (He.fAd K ("multiply_steps", none)) fd
  d_Steps_init : ∃ fd, DefAt K d_Steps_init (He.fAd K ("Steps", some "__init__")) fd
  d_Steps_eq : ∃ fd, DefAt K d_Steps_eq (He.fAd K ("Steps", some "__eq__")) fd
  d_Steps_len : ∃ fd, DefAt K d_Steps_len (He.fAd K ("Steps", some "__len__")) fd
  d_Steps_iter : ∃ fd, DefAt K d_Steps_iter (He.fAd K ("Steps", some "__iter__")) fd
  d_Steps_getitem : ∃ fd, DefAt K d_Steps_getitem (He.fAd K ("Steps", some "__getitem__")) fd
  d_Steps_add : ∃ fd, DefAt K d_Steps_add (He.fAd K ("Steps", some "__add__")) fd
  d_Steps_neg : ∃ fd, DefAt K d_Steps_neg (He.fAd K ("Steps", some "__neg__")) fd
  d_Steps_sub : ∃ fd, DefAt K d_Steps_sub (He.fAd K ("Steps", some "__sub__")) fd
  d_Steps_mul : ∃ fd, DefAt K d_Steps_mul (He.fAd K ("Steps", some "__mul__")) fd
  d_Steps_call : ∃ fd, DefAt K d_Steps_call (He.fAd K ("Steps", some "__call__")) fd
  d_Steps_order : ∃ fd, DefAt K d_Steps_order (He.fAd K ("Steps", some "order")) fd
  d_Steps_least : ∃ fd, DefAt K d_Steps_least (He.fAd K ("Steps", some "least")) fd
  d_Steps_is_zero : ∃ fd, DefAt K d_Steps_is_zero (He.fAd K ("Steps", some "is_zero")) fd
  d_Steps_leading : ∃ fd, DefAt K d_Steps_leading (He.fAd K ("Steps", some "leading")) fd
  d_Steps_scaled : ∃ fd, DefAt K d_Steps_scaled (He.fAd K ("Steps", some "scaled")) fd
  d_Steps_monic : ∃ fd, DefAt K d_Steps_monic (He.fAd K ("Steps", some "monic")) fd
  d_Steps_divide : ∃ fd, DefAt K d_Steps_divide (He.fAd K ("Steps", some "divide")) fd
  d_step_monomial : ∃ fd, DefAt K d_step_monomial (He.fAd K ("step_monomial", none)) fd
  d_ratio_operator : ∃ fd, DefAt K d_ratio_operator (He.fAd K ("ratio_operator", none)) fd
  d_step_annihilator : ∃ fd, DefAt K d_step_annihilator (He.fAd K ("step_annihilator", none)) fd
  d_step_euclid : ∃ fd, DefAt K d_step_euclid (He.fAd K ("step_euclid", none)) fd
  d_step_divisor : ∃ fd, DefAt K d_step_divisor (He.fAd K ("step_divisor", none)) fd
  d_step_multiple : ∃ fd, DefAt K d_step_multiple (He.fAd K ("step_multiple", none)) fd
  d_step_quotient : ∃ fd, DefAt K d_step_quotient (He.fAd K ("step_quotient", none)) fd
  d_check_steps : ∃ fd, DefAt K d_check_steps (He.fAd K ("check_steps", none)) fd
  d_steps_of_sum : ∃ fd, DefAt K d_steps_of_sum (He.fAd K ("steps_of_sum", none)) fd
  d_law_state : ∃ fd, DefAt K d_law_state (He.fAd K ("_law_state", none)) fd
  d_law_take : ∃ fd, DefAt K d_law_take (He.fAd K ("_law_take", none)) fd
  d_law_q : ∃ fd, DefAt K d_law_q (He.fAd K ("_law_q", none)) fd
  d_law_pol : ∃ fd, DefAt K d_law_pol (He.fAd K ("_law_pol", none)) fd
  d_law_pol_other : ∃ fd, DefAt K d_law_pol_other (He.fAd K ("_law_pol_other", none)) fd
  d_law_line : ∃ fd, DefAt K d_law_line (He.fAd K ("_law_line", none)) fd
  d_law_fun : ∃ fd, DefAt K d_law_fun (He.fAd K ("_law_fun", none)) fd
  d_law_fun_other : ∃ fd, DefAt K d_law_fun_other (He.fAd K ("_law_fun_other", none)) fd
  d_law_step_op : ∃ fd, DefAt K d_law_step_op (He.fAd K ("_law_step_op", none)) fd
  d_law_divides : ∃ fd, DefAt K d_law_divides (He.fAd K ("_law_divides", none)) fd
  d_law_pair_right : ∃ fd, DefAt K d_law_pair_right (He.fAd K ("_law_pair_right", none)) fd
  d_law_zero_divisor : ∃ fd, DefAt K d_law_zero_divisor (He.fAd K ("_law_zero_divisor", none)) fd
  d_law : ∃ fd, DefAt K d_law (He.fAd K ("law", none)) fd
  t_Refused_init : fnC K d_Refused_init.at_ = d_Refused_init.val
theorem facts_of {K : PySem.W.Frag} {h : Heap} {mg : Str → Option Value} (X : K.In h) (G : h.Ns mainGlobals mg) (c : SaysZ fa xa fn exn K) : Facts K mg where
  g_Ratio := f_glo X G (c.fact 0 (f := .glo "Ratio") rfl)
  g_Poly := f_glo X G (c.fact 1 (f := .glo "Poly") rfl)
  g_RatFun := f_glo X G (c.fact 2 (f := .glo "RatFun") rfl)
  g_Steps := f_glo X G (c.fact 3 (f := .glo "Steps") rfl)
  g_Fault := f_glo X G (c.fact 4 (f := .glo "Fault") rfl)
  g_ZeroDivisor := f_glo X G (c.fact 5 (f := .glo "ZeroDivisor") rfl)
  g_Refused := f_glo X G (c.fact 6 (f := .glo "Refused") rfl)
  cl_Ratio := f_cls (c.fact 7 (f := .cls "Ratio") rfl)
  mk_Ratio := f_mkr (c.fact 8 (f := .mkr "Ratio") rfl)
  na_Ratio_n := f_noat (c.fact 9 (f := .noat "Ratio" "n") rfl)
  na_Ratio_d := f_noat (c.fact 10 (f := .noat "Ratio" "d") rfl)
  me_Ratio_add := f_meth (c.fact 11 (f := .meth "Ratio" "__add__") rfl)
  me_Ratio_sub := f_meth (c.fact 12 (f := .meth "Ratio" "__sub__") rfl)
  me_Ratio_mul := f_meth (c.fact 13 (f := .meth "Ratio" "__mul__") rfl)
  me_Ratio_neg := f_meth (c.fact 14 (f := .meth "Ratio" "__neg__") rfl)
  me_Ratio_eq := f_meth (c.fact 15 (f := .meth "Ratio" "__eq__") rfl)
  me_Ratio_str := f_meth (c.fact 16 (f := .meth "Ratio" "__str__") rfl)
  me_Ratio_inverse := f_meth (c.fact 17 (f := .meth "Ratio" "inverse") rfl)
  me_Ratio_over := f_meth (c.fact 18 (f := .meth "Ratio" "over") rfl)
  me_Ratio_power := f_meth (c.fact 19 (f := .meth "Ratio" "power") rfl)
  me_Ratio_is_zero := f_meth (c.fact 20 (f := .meth "Ratio" "is_zero") rfl)
  cl_Poly := f_cls (c.fact 21 (f := .cls "Poly") rfl)
  mk_Poly := f_mkr (c.fact 22 (f := .mkr "Poly") rfl)
  na_Poly_row := f_noat (c.fact 23 (f := .noat "Poly" "row") rfl)
  me_Poly_add := f_meth (c.fact 24 (f := .meth "Poly" "__add__") rfl)
  me_Poly_neg := f_meth (c.fact 25 (f := .meth "Poly" "__neg__") rfl)
  me_Poly_sub := f_meth (c.fact 26 (f := .meth "Poly" "__sub__") rfl)
  me_Poly_mul := f_meth (c.fact 27 (f := .meth "Poly" "__mul__") rfl)
  me_Poly_eq := f_meth (c.fact 28 (f := .meth "Poly" "__eq__") rfl)
  me_Poly_floordiv := f_meth (c.fact 29 (f := .meth "Poly" "__floordiv__") rfl)
  me_Poly_mod := f_meth (c.fact 30 (f := .meth "Poly" "__mod__") rfl)
  me_Poly_call := f_meth (c.fact 31 (f := .meth "Poly" "__call__") rfl)
  me_Poly_iter := f_meth (c.fact 32 (f := .meth "Poly" "__iter__") rfl)
  me_Poly_divided := f_meth (c.fact 33 (f := .meth "Poly" "divided") rfl)
  me_Poly_degree := f_meth (c.fact 34 (f := .meth "Poly" "degree") rfl)
  me_Poly_is_zero := f_meth (c.fact 35 (f := .meth "Poly" "is_zero") rfl)
  me_Poly_last := f_meth (c.fact 36 (f := .meth "Poly" "last") rfl)
  me_Poly_coefficient := f_meth (c.fact 37 (f := .meth "Poly" "coefficient") rfl)
  me_Poly_terms := f_meth (c.fact 38 (f := .meth "Poly" "terms") rfl)
  me_Poly_scaled := f_meth (c.fact 39 (f := .meth "Poly" "scaled") rfl)
  me_Poly_power := f_meth (c.fact 40 (f := .meth "Poly" "power") rfl)
  me_Poly_monic := f_meth (c.fact 41 (f := .meth "Poly" "monic") rfl)
  me_Poly_shifted := f_meth (c.fact 42 (f := .meth "Poly" "shifted") rfl)
  me_Poly_primitive := f_meth (c.fact 43 (f := .meth "Poly" "primitive") rfl)
  cl_RatFun := f_cls (c.fact 44 (f := .cls "RatFun") rfl)
  mk_RatFun := f_mkr (c.fact 45 (f := .mkr "RatFun") rfl)
  na_RatFun_num := f_noat (c.fact 46 (f := .noat "RatFun" "num") rfl)
  na_RatFun_den := f_noat (c.fact 47 (f := .noat "RatFun" "den") rfl)
  me_RatFun_eq := f_meth (c.fact 48 (f := .meth "RatFun" "__eq__") rfl)
  me_RatFun_add := f_meth (c.fact 49 (f := .meth "RatFun" "__add__") rfl)
  me_RatFun_sub := f_meth (c.fact 50 (f := .meth "RatFun" "__sub__") rfl)
  me_RatFun_mul := f_meth (c.fact 51 (f := .meth "RatFun" "__mul__") rfl)
  me_RatFun_neg := f_meth (c.fact 52 (f := .meth "RatFun" "__neg__") rfl)
  me_RatFun_floordiv := f_meth (c.fact 53 (f := .meth "RatFun" "__floordiv__") rfl)
  me_RatFun_call := f_meth (c.fact 54 (f := .meth "RatFun" "__call__") rfl)
  me_RatFun_is_zero := f_meth (c.fact 55 (f := .meth "RatFun" "is_zero") rfl)
  me_RatFun_inverse := f_meth (c.fact 56 (f := .meth "RatFun" "inverse") rfl)
  me_RatFun_power := f_meth (c.fact 57 (f := .meth "RatFun" "power") rfl)
  me_RatFun_degree := f_meth (c.fact 58 (f := .meth "RatFun" "degree") rfl)
  me_RatFun_leading := f_meth (c.fact 59 (f := .meth "RatFun" "leading") rfl)
  me_RatFun_shifted := f_meth (c.fact 60 (f := .meth "RatFun" "shifted") rfl)
  cl_Steps := f_cls (c.fact 61 (f := .cls "Steps") rfl)
  mk_Steps := f_mkr (c.fact 62 (f := .mkr "Steps") rfl)
  na_Steps_coefficients := f_noat (c.fact 63 (f := .noat "Steps" "coefficients") rfl)
  me_Steps_eq := f_meth (c.fact 64 (f := .meth "Steps" "__eq__") rfl)
  me_Steps_len := f_meth (c.fact 65 (f := .meth "Steps" "__len__") rfl)
  me_Steps_iter := f_meth (c.fact 66 (f := .meth "Steps" "__iter__") rfl)
  me_Steps_getitem := f_meth (c.fact 67 (f := .meth "Steps" "__getitem__") rfl)
  me_Steps_add := f_meth (c.fact 68 (f := .meth "Steps" "__add__") rfl)
  me_Steps_neg := f_meth (c.fact 69 (f := .meth "Steps" "__neg__") rfl)
  me_Steps_sub := f_meth (c.fact 70 (f := .meth "Steps" "__sub__") rfl)
  me_Steps_mul := f_meth (c.fact 71 (f := .meth "Steps" "__mul__") rfl)
  me_Steps_call := f_meth (c.fact 72 (f := .meth "Steps" "__call__") rfl)
  me_Steps_order := f_meth (c.fact 73 (f := .meth "Steps" "order") rfl)
  me_Steps_least := f_meth (c.fact 74 (f := .meth "Steps" "least") rfl)
  me_Steps_is_zero := f_meth (c.fact 75 (f := .meth "Steps" "is_zero") rfl)
  me_Steps_leading := f_meth (c.fact 76 (f := .meth "Steps" "leading") rfl)
  me_Steps_scaled := f_meth (c.fact 77 (f := .meth "Steps" "scaled") rfl)
  me_Steps_monic := f_meth (c.fact 78 (f := .meth "Steps" "monic") rfl)
  me_Steps_divide := f_meth (c.fact 79 (f := .meth "Steps" "divide") rfl)
  em_ZeroDivisor := f_exm (c.fact 80 (f := .exm "ZeroDivisor" "ZeroDivisor" true) rfl)
  ex_ZeroDivisor := f_exc (c.fact 81 (f := .exc "ZeroDivisor") rfl)
  em_Refused := f_exm (c.fact 82 (f := .exm "Refused" "Refused" true) rfl)
  g_written_integer := f_glo X G (c.fact 83 (f := .glo "written_integer") rfl)
  k_written_integer := f_keep (c.fact 84 (f := .keep "written_integer") rfl)
  g_zero := f_glo X G (c.fact 85 (f := .glo "zero") rfl)
  k_zero := f_keep (c.fact 86 (f := .keep "zero") rfl)
  g_one := f_glo X G (c.fact 87 (f := .glo "one") rfl)
  k_one := f_keep (c.fact 88 (f := .keep "one") rfl)
  g_trimmed := f_glo X G (c.fact 89 (f := .glo "_trimmed") rfl)
  k_trimmed := f_keep (c.fact 90 (f := .keep "_trimmed") rfl)
  g_constant := f_glo X G (c.fact 91 (f := .glo "constant") rfl)
  k_constant := f_keep (c.fact 92 (f := .keep "constant") rfl)
  g_primitive_row := f_glo X G (c.fact 93 (f := .glo "_primitive_row") rfl)
  k_primitive_row := f_keep (c.fact 94 (f := .keep "_primitive_row") rfl)
  g_integer_rest := f_glo X G (c.fact 95 (f := .glo "_integer_rest") rfl)
  k_integer_rest := f_keep (c.fact 96 (f := .keep "_integer_rest") rfl)
  g_common_divisor := f_glo X G (c.fact 97 (f := .glo "common_divisor") rfl)
  k_common_divisor := f_keep (c.fact 98 (f := .keep "common_divisor") rfl)
  g_of_poly := f_glo X G (c.fact 99 (f := .glo "of_poly") rfl)
  k_of_poly := f_keep (c.fact 100 (f := .keep "of_poly") rfl)
  g_of_ratio := f_glo X G (c.fact 101 (f := .glo "of_ratio") rfl)
  k_of_ratio := f_keep (c.fact 102 (f := .keep "of_ratio") rfl)
  g_add_rows := f_glo X G (c.fact 103 (f := .glo "add_rows") rfl)
  k_add_rows := f_keep (c.fact 104 (f := .keep "add_rows") rfl)
  g_scale_row := f_glo X G (c.fact 105 (f := .glo "scale_row") rfl)
  k_scale_row := f_keep (c.fact 106 (f := .keep "scale_row") rfl)
  g_moved_row := f_glo X G (c.fact 107 (f := .glo "moved_row") rfl)
  k_moved_row := f_keep (c.fact 108 (f := .keep "moved_row") rfl)
  g_multiply_steps := f_glo X G (c.fact 109 (f := .glo "multiply_steps") rfl)
  k_multiply_steps := f_keep (c.fact 110 (f := .keep "multiply_steps") rfl)
  g_step_monomial := f_glo X G (c.fact 111 (f := .glo "step_monomial") rfl)
  k_step_monomial := f_keep (c.fact 112 (f := .keep "step_monomial") rfl)
  g_ratio_operator := f_glo X G (c.fact 113 (f := .glo "ratio_operator") rfl)
  k_ratio_operator := f_keep (c.fact 114 (f := .keep "ratio_operator") rfl)
  g_step_annihilator := f_glo X G (c.fact 115 (f := .glo "step_annihilator") rfl)
  k_step_annihilator := f_keep (c.fact 116 (f := .keep "step_annihilator") rfl)
  g_step_euclid := f_glo X G (c.fact 117 (f := .glo "step_euclid") rfl)
  k_step_euclid := f_keep (c.fact 118 (f := .keep "step_euclid") rfl)
  g_step_divisor := f_glo X G (c.fact 119 (f := .glo "step_divisor") rfl)
  k_step_divisor := f_keep (c.fact 120 (f := .keep "step_divisor") rfl)
  g_step_multiple := f_glo X G (c.fact 121 (f := .glo "step_multiple") rfl)
  k_step_multiple := f_keep (c.fact 122 (f := .keep "step_multiple") rfl)
  g_step_quotient := f_glo X G (c.fact 123 (f := .glo "step_quotient") rfl)
  k_step_quotient := f_keep (c.fact 124 (f := .keep "step_quotient") rfl)
  g_check_steps := f_glo X G (c.fact 125 (f := .glo "check_steps") rfl)
  k_check_steps := f_keep (c.fact 126 (f := .keep "check_steps") rfl)
  g_steps_of_sum := f_glo X G (c.fact 127 (f := .glo "steps_of_sum") rfl)
  k_steps_of_sum := f_keep (c.fact 128 (f := .keep "steps_of_sum") rfl)
  g_law_state := f_glo X G (c.fact 129 (f := .glo "_law_state") rfl)
  k_law_state := f_keep (c.fact 130 (f := .keep "_law_state") rfl)
  g_law_take := f_glo X G (c.fact 131 (f := .glo "_law_take") rfl)
  k_law_take := f_keep (c.fact 132 (f := .keep "_law_take") rfl)
  g_law_q := f_glo X G (c.fact 133 (f := .glo "_law_q") rfl)
  k_law_q := f_keep (c.fact 134 (f := .keep "_law_q") rfl)
  g_law_pol := f_glo X G (c.fact 135 (f := .glo "_law_pol") rfl)
  k_law_pol := f_keep (c.fact 136 (f := .keep "_law_pol") rfl)
  g_law_pol_other := f_glo X G (c.fact 137 (f := .glo "_law_pol_other") rfl)
  k_law_pol_other := f_keep (c.fact 138 (f := .keep "_law_pol_other") rfl)
  g_law_line := f_glo X G (c.fact 139 (f := .glo "_law_line") rfl)
  k_law_line := f_keep (c.fact 140 (f := .keep "_law_line") rfl)
  g_law_fun := f_glo X G (c.fact 141 (f := .glo "_law_fun") rfl)
  k_law_fun := f_keep (c.fact 142 (f := .keep "_law_fun") rfl)
  g_law_fun_other := f_glo X G (c.fact 143 (f := .glo "_law_fun_other") rfl)
  k_law_fun_other := f_keep (c.fact 144 (f := .keep "_law_fun_other") rfl)
  g_law_step_op := f_glo X G (c.fact 145 (f := .glo "_law_step_op") rfl)
  k_law_step_op := f_keep (c.fact 146 (f := .keep "_law_step_op") rfl)
  g_law_divides := f_glo X G (c.fact 147 (f := .glo "_law_divides") rfl)
  k_law_divides := f_keep (c.fact 148 (f := .keep "_law_divides") rfl)
  g_law_pair_right := f_glo X G (c.fact 149 (f := .glo "_law_pair_right") rfl)
  k_law_pair_right := f_keep (c.fact 150 (f := .keep "_law_pair_right") rfl)
  g_law_zero_divisor := f_glo X G (c.fact 151 (f := .glo "_law_zero_divisor") rfl)
  k_law_zero_divisor := f_keep (c.fact 152 (f := .keep "_law_zero_divisor") rfl)
  g_law := f_glo X G (c.fact 153 (f := .glo "law") rfl)
  k_law := f_keep (c.fact 154 (f := .keep "law") rfl)
  b_abs := f_free X G (c.fact 155 (f := .free "abs") rfl)
  b_len := f_free X G (c.fact 156 (f := .free "len") rfl)
  b_range := f_free X G (c.fact 157 (f := .free "range") rfl)
  b_enumerate := f_free X G (c.fact 158 (f := .free "enumerate") rfl)
  b_zip := f_free X G (c.fact 159 (f := .free "zip") rfl)
  b_reversed := f_free X G (c.fact 160 (f := .free "reversed") rfl)
  b_list := f_free X G (c.fact 161 (f := .free "list") rfl)
  b_tuple := f_free X G (c.fact 162 (f := .free "tuple") rfl)
  b_isinstance := f_free X G (c.fact 163 (f := .free "isinstance") rfl)
  b_int := f_free X G (c.fact 164 (f := .free "int") rfl)
  b_max := f_free X G (c.fact 165 (f := .free "max") rfl)
  b_super := f_free X G (c.fact 166 (f := .free "super") rfl)
  b_str := f_free X G (c.fact 167 (f := .free "str") rfl)
  b_divmod := f_free X G (c.fact 168 (f := .free "divmod") rfl)
  b_iter := f_free X G (c.fact 169 (f := .free "iter") rfl)
  b_ValueError := f_free X G (c.fact 170 (f := .free "ValueError") rfl)
  sf_Ratio := x_first (c.xact 0 (f := .first "Ratio") rfl)
  ca_Ratio := x_ca (c.xact 1 (f := .ca "Ratio") rfl)
  ki_Ratio := x_kitT (c.xact 2 (f := .kitT "Ratio" "int" false) rfl)
  knNoneType_Ratio := x_kitN (c.xact 3 (f := .kitN "NoneType" "Ratio" false) rfl)
  knint_Ratio := x_kitN (c.xact 4 (f := .kitN "int" "Ratio" false) rfl)
  kc_Ratio_Ratio := x_kitC (c.xact 5 (f := .kitC "Ratio" "Ratio" true) rfl)
  kc_Poly_Ratio := x_kitC (c.xact 6 (f := .kitC "Poly" "Ratio" false) rfl)
  kc_RatFun_Ratio := x_kitC (c.xact 7 (f := .kitC "RatFun" "Ratio" false) rfl)
  kc_Steps_Ratio := x_kitC (c.xact 8 (f := .kitC "Steps" "Ratio" false) rfl)
  ne_Ratio := x_ne (c.xact 9 (f := .ne "Ratio") rfl)
  nfT_Ratio_NoneType := x_nfT (c.xact 10 (f := .nfT "Ratio" "NoneType") rfl)
  nfC_Ratio_Poly := x_nfC (c.xact 11 (f := .nfC "Ratio" "Poly") rfl)
  nfC_Ratio_RatFun := x_nfC (c.xact 12 (f := .nfC "Ratio" "RatFun") rfl)
  nfC_Ratio_Steps := x_nfC (c.xact 13 (f := .nfC "Ratio" "Steps") rfl)
  nl_Ratio := x_noat (c.xact 14 (f := .noat "Ratio" "__len__") rfl)
  sf_Poly := x_first (c.xact 15 (f := .first "Poly") rfl)
  ca_Poly := x_ca (c.xact 16 (f := .ca "Poly") rfl)
  ki_Poly := x_kitT (c.xact 17 (f := .kitT "Poly" "int" false) rfl)
  knNoneType_Poly := x_kitN (c.xact 18 (f := .kitN "NoneType" "Poly" false) rfl)
  knint_Poly := x_kitN (c.xact 19 (f := .kitN "int" "Poly" false) rfl)
  kc_Ratio_Poly := x_kitC (c.xact 20 (f := .kitC "Ratio" "Poly" false) rfl)
  kc_Poly_Poly := x_kitC (c.xact 21 (f := .kitC "Poly" "Poly" true) rfl)
  kc_RatFun_Poly := x_kitC (c.xact 22 (f := .kitC "RatFun" "Poly" false) rfl)
  kc_Steps_Poly := x_kitC (c.xact 23 (f := .kitC "Steps" "Poly" false) rfl)
  ne_Poly := x_ne (c.xact 24 (f := .ne "Poly") rfl)
  nfT_Poly_NoneType := x_nfT (c.xact 25 (f := .nfT "Poly" "NoneType") rfl)
  nfC_Poly_Ratio := x_nfC (c.xact 26 (f := .nfC "Poly" "Ratio") rfl)
  nfC_Poly_RatFun := x_nfC (c.xact 27 (f := .nfC "Poly" "RatFun") rfl)
  nfC_Poly_Steps := x_nfC (c.xact 28 (f := .nfC "Poly" "Steps") rfl)
  nl_Poly := x_noat (c.xact 29 (f := .noat "Poly" "__len__") rfl)
  sf_RatFun := x_first (c.xact 30 (f := .first "RatFun") rfl)
  ca_RatFun := x_ca (c.xact 31 (f := .ca "RatFun") rfl)
  ki_RatFun := x_kitT (c.xact 32 (f := .kitT "RatFun" "int" false) rfl)
  knNoneType_RatFun := x_kitN (c.xact 33 (f := .kitN "NoneType" "RatFun" false) rfl)
  knint_RatFun := x_kitN (c.xact 34 (f := .kitN "int" "RatFun" false) rfl)
  kc_Ratio_RatFun := x_kitC (c.xact 35 (f := .kitC "Ratio" "RatFun" false) rfl)
  kc_Poly_RatFun := x_kitC (c.xact 36 (f := .kitC "Poly" "RatFun" false) rfl)
  kc_RatFun_RatFun := x_kitC (c.xact 37 (f := .kitC "RatFun" "RatFun" true) rfl)
  kc_Steps_RatFun := x_kitC (c.xact 38 (f := .kitC "Steps" "RatFun" false) rfl)
  ne_RatFun := x_ne (c.xact 39 (f := .ne "RatFun") rfl)
  nfT_RatFun_NoneType := x_nfT (c.xact 40 (f := .nfT "RatFun" "NoneType") rfl)
  nfC_RatFun_Ratio := x_nfC (c.xact 41 (f := .nfC "RatFun" "Ratio") rfl)
  nfC_RatFun_Poly := x_nfC (c.xact 42 (f := .nfC "RatFun" "Poly") rfl)
  nfC_RatFun_Steps := x_nfC (c.xact 43 (f := .nfC "RatFun" "Steps") rfl)
  nl_RatFun := x_noat (c.xact 44 (f := .noat "RatFun" "__len__") rfl)
  sf_Steps := x_first (c.xact 45 (f := .first "Steps") rfl)
  ca_Steps := x_ca (c.xact 46 (f := .ca "Steps") rfl)
  ki_Steps := x_kitT (c.xact 47 (f := .kitT "Steps" "int" false) rfl)
  knNoneType_Steps := x_kitN (c.xact 48 (f := .kitN "NoneType" "Steps" false) rfl)
  knint_Steps := x_kitN (c.xact 49 (f := .kitN "int" "Steps" false) rfl)
  kc_Ratio_Steps := x_kitC (c.xact 50 (f := .kitC "Ratio" "Steps" false) rfl)
  kc_Poly_Steps := x_kitC (c.xact 51 (f := .kitC "Poly" "Steps" false) rfl)
  kc_RatFun_Steps := x_kitC (c.xact 52 (f := .kitC "RatFun" "Steps" false) rfl)
  kc_Steps_Steps := x_kitC (c.xact 53 (f := .kitC "Steps" "Steps" true) rfl)
  ne_Steps := x_ne (c.xact 54 (f := .ne "Steps") rfl)
  nfT_Steps_NoneType := x_nfT (c.xact 55 (f := .nfT "Steps" "NoneType") rfl)
  nfC_Steps_Ratio := x_nfC (c.xact 56 (f := .nfC "Steps" "Ratio") rfl)
  nfC_Steps_Poly := x_nfC (c.xact 57 (f := .nfC "Steps" "Poly") rfl)
  nfC_Steps_RatFun := x_nfC (c.xact 58 (f := .nfC "Steps" "RatFun") rfl)
  xi_Refused := x_exi (c.xact 59 (f := .exi "Refused" "Refused.__init__" "/claim/cut.py") rfl)
  m_gcd := x_blt X G (c.xact 60 (f := .blt "gcd" "math.gcd") rfl)
  m_lcm := x_blt X G (c.xact 61 (f := .blt "lcm" "math.lcm") rfl)
  seer := x_seer (c.xact 62 (f := .seer) rfl)
  d_written_integer := c.defn 0 (d := d_written_integer) rfl
  d_Ratio_init := c.defn 1 (d := d_Ratio_init) rfl
  d_Ratio_add := c.defn 2 (d := d_Ratio_add) rfl
  d_Ratio_sub := c.defn 3 (d := d_Ratio_sub) rfl
  d_Ratio_mul := c.defn 4 (d := d_Ratio_mul) rfl
  d_Ratio_neg := c.defn 5 (d := d_Ratio_neg) rfl
  d_Ratio_eq := c.defn 6 (d := d_Ratio_eq) rfl
  d_Ratio_str := c.defn 7 (d := d_Ratio_str) rfl
  d_Ratio_inverse := c.defn 8 (d := d_Ratio_inverse) rfl
  d_Ratio_over := c.defn 9 (d := d_Ratio_over) rfl
  d_Ratio_power := c.defn 10 (d := d_Ratio_power) rfl
  d_Ratio_is_zero := c.defn 11 (d := d_Ratio_is_zero) rfl
  d_zero := c.defn 12 (d := d_zero) rfl
  d_one := c.defn 13 (d := d_one) rfl
  d_trimmed := c.defn 14 (d := d_trimmed) rfl
  d_Poly_init := c.defn 15 (d := d_Poly_init) rfl
  d_Poly_add := c.defn 16 (d := d_Poly_add) rfl
  d_Poly_neg := c.defn 17 (d := d_Poly_neg) rfl
  d_Poly_sub := c.defn 18 (d := d_Poly_sub) rfl
  d_Poly_mul := c.defn 19 (d := d_Poly_mul) rfl
  d_Poly_eq := c.defn 20 (d := d_Poly_eq) rfl
  d_Poly_floordiv := c.defn 21 (d := d_Poly_floordiv) rfl
  d_Poly_mod := c.defn 22 (d := d_Poly_mod) rfl
  d_Poly_call := c.defn 23 (d := d_Poly_call) rfl
  d_Poly_iter := c.defn 24 (d := d_Poly_iter) rfl
  d_Poly_divided := c.defn 25 (d := d_Poly_divided) rfl
  d_Poly_degree := c.defn 26 (d := d_Poly_degree) rfl
  d_Poly_is_zero := c.defn 27 (d := d_Poly_is_zero) rfl
  d_Poly_last := c.defn 28 (d := d_Poly_last) rfl
  d_Poly_coefficient := c.defn 29 (d := d_Poly_coefficient) rfl
  d_Poly_terms := c.defn 30 (d := d_Poly_terms) rfl
  d_Poly_scaled := c.defn 31 (d := d_Poly_scaled) rfl
  d_Poly_power := c.defn 32 (d := d_Poly_power) rfl
  d_Poly_monic := c.defn 33 (d := d_Poly_monic) rfl
  d_Poly_shifted := c.defn 34 (d := d_Poly_shifted) rfl
  d_Poly_primitive := c.defn 35 (d := d_Poly_primitive) rfl
  d_constant := c.defn 36 (d := d_constant) rfl
  d_primitive_row := c.defn 37 (d := d_primitive_row) rfl
  d_integer_rest := c.defn 38 (d := d_integer_rest) rfl
  d_common_divisor := c.defn 39 (d := d_common_divisor) rfl
  d_RatFun_init := c.defn 40 (d := d_RatFun_init) rfl
  d_RatFun_eq := c.defn 41 (d := d_RatFun_eq) rfl
  d_RatFun_add := c.defn 42 (d := d_RatFun_add) rfl
  d_RatFun_sub := c.defn 43 (d := d_RatFun_sub) rfl
  d_RatFun_mul := c.defn 44 (d := d_RatFun_mul) rfl
  d_RatFun_neg := c.defn 45 (d := d_RatFun_neg) rfl
  d_RatFun_floordiv := c.defn 46 (d := d_RatFun_floordiv) rfl
  d_RatFun_call := c.defn 47 (d := d_RatFun_call) rfl
  d_RatFun_is_zero := c.defn 48 (d := d_RatFun_is_zero) rfl
  d_RatFun_inverse := c.defn 49 (d := d_RatFun_inverse) rfl
  d_RatFun_power := c.defn 50 (d := d_RatFun_power) rfl
  d_RatFun_degree := c.defn 51 (d := d_RatFun_degree) rfl
  d_RatFun_leading := c.defn 52 (d := d_RatFun_leading) rfl
  d_RatFun_shifted := c.defn 53 (d := d_RatFun_shifted) rfl
  d_of_poly := c.defn 54 (d := d_of_poly) rfl
  d_of_ratio := c.defn 55 (d := d_of_ratio) rfl
  d_add_rows := c.defn 56 (d := d_add_rows) rfl
  d_scale_row := c.defn 57 (d := d_scale_row) rfl
  d_moved_row := c.defn 58 (d := d_moved_row) rfl
  d_multiply_steps := c.defn 59 (d := d_multiply_steps) rfl
  d_Steps_init := c.defn 60 (d := d_Steps_init) rfl
  d_Steps_eq := c.defn 61 (d := d_Steps_eq) rfl
  d_Steps_len := c.defn 62 (d := d_Steps_len) rfl
  d_Steps_iter := c.defn 63 (d := d_Steps_iter) rfl
  d_Steps_getitem := c.defn 64 (d := d_Steps_getitem) rfl
  d_Steps_add := c.defn 65 (d := d_Steps_add) rfl
  d_Steps_neg := c.defn 66 (d := d_Steps_neg) rfl
  d_Steps_sub := c.defn 67 (d := d_Steps_sub) rfl
  d_Steps_mul := c.defn 68 (d := d_Steps_mul) rfl
  d_Steps_call := c.defn 69 (d := d_Steps_call) rfl
  d_Steps_order := c.defn 70 (d := d_Steps_order) rfl
  d_Steps_least := c.defn 71 (d := d_Steps_least) rfl
  d_Steps_is_zero := c.defn 72 (d := d_Steps_is_zero) rfl
  d_Steps_leading := c.defn 73 (d := d_Steps_leading) rfl
  d_Steps_scaled := c.defn 74 (d := d_Steps_scaled) rfl
  d_Steps_monic := c.defn 75 (d := d_Steps_monic) rfl
  d_Steps_divide := c.defn 76 (d := d_Steps_divide) rfl
  d_step_monomial := c.defn 77 (d := d_step_monomial) rfl
  d_ratio_operator := c.defn 78 (d := d_ratio_operator) rfl
  d_step_annihilator := c.defn 79 (d := d_step_annihilator) rfl
  d_step_euclid := c.defn 80 (d := d_step_euclid) rfl
  d_step_divisor := c.defn 81 (d := d_step_divisor) rfl
  d_step_multiple := c.defn 82 (d := d_step_multiple) rfl
  d_step_quotient := c.defn 83 (d := d_step_quotient) rfl
  d_check_steps := c.defn 84 (d := d_check_steps) rfl
  d_steps_of_sum := c.defn 85 (d := d_steps_of_sum) rfl
  d_law_state := c.defn 86 (d := d_law_state) rfl
  d_law_take := c.defn 87 (d := d_law_take) rfl
  d_law_q := c.defn 88 (d := d_law_q) rfl
  d_law_pol := c.defn 89 (d := d_law_pol) rfl
  d_law_pol_other := c.defn 90 (d := d_law_pol_other) rfl
  d_law_line := c.defn 91 (d := d_law_line) rfl
  d_law_fun := c.defn 92 (d := d_law_fun) rfl
  d_law_fun_other := c.defn 93 (d := d_law_fun_other) rfl
  d_law_step_op := c.defn 94 (d := d_law_step_op) rfl
  d_law_divides := c.defn 95 (d := d_law_divides) rfl
  d_law_pair_right := c.defn 96 (d := d_law_pair_right) rfl
  d_law_zero_divisor := c.defn 97 (d := d_law_zero_divisor) rfl
  d_law := c.defn 98 (d := d_law) rfl
  t_Refused_init := c.text 0 (d := d_Refused_init) rfl
abbrev Row_ : PySem.W.OpenRow := PySem.W.OpenLaw.row PySem.Challenge.rw_slopewrit_k22_whole_common_steps
def loose0 : List PySem.Str := ["_wall", "__name__", "Fault", "ZeroDivisor", "Refused", "PIECE", "written_integer", "Ratio", "zero", "one", "_trimmed", "Poly", "constant", "_primitive_row", "_integer_rest", "common_divisor", "RatFun", "of_poly", "of_ratio", "add_rows", "scale_row", "moved_row", "multiply_steps", "Steps", "step_monomial", "ratio_operator", "step_annihilator", "step_euclid", "step_divisor", "step_multiple"]
def loose1 : List PySem.Str := ["step_quotient", "check_steps", "steps_of_sum", "_law_state", "_law_take", "_law_q", "_law_pol", "_law_pol_other", "_law_line", "_law_fun", "_law_fun_other", "_law_step_op", "_law_divides", "_law_pair_right", "_law_zero_divisor"]
def loose : List PySem.Str := loose0 ++ loose1
abbrev hk : PySem.W.Hook := hookZ 5 fa xa fn exn
def ob (s : PySem.W.SharedT) : He.AlD := obsZG 5 fa xa fn exn (HandSHeadRun.getT s)
theorem ob_ok (s : PySem.W.SharedT) : ob s = hk.obs s.abs := obsZ_eq (HandSHeadRun.getT_eq s)
def lawPlace : Nat := 55
end SLT
set_option exponentiation.threshold 256
set_option maxRecDepth 1000000
set_option maxHeartbeats 0
namespace SLT
open PySem PySem.Spec PyProof.Rows L2 SL
theorem run (w : World) : HandSHeadRun.RunEqI Row_ (PySem.W.view Row_.prog [0, 55]) hk ob 30000 loose w := by unfold HandSHeadRun.RunEqI; kernel_rfl
end SLT
set_option exponentiation.threshold 256
set_option maxRecDepth 1000000
set_option maxHeartbeats 0
open PySem PySem.W PySem.Calls PyProof.Rows
namespace SLT
abbrev RR : PySem.W.OpenRow := OpenLaw.row PySem.Challenge.rw_slopewrit_k22_whole_common_steps
abbrev qq : Program := view SLT.Row_.prog [0, 55]
abbrev dd : DefRec := HandSHeadRun.topDef RR.prog 55
theorem o_hp : RR.prog.theDef RR.name = some (dd.params, dd.body, dd.scope) := by kernel_rfl
theorem o_hdef : defOf qq RR.name = some (dd, []) := by kernel_rfl
theorem o_hk : kwWritten? dd.params.kwonlyargs dd.params.kw_defaults = some ([] : List (PySem.Str × PySem.Expr)) := by kernel_rfl
theorem o_bare : RR.prog.bare := ⟨rfl, rfl, rfl, rfl, rfl, by decide +kernel⟩
theorem o_ok : (chainsOk qq && opensWell RR.prog && (frees RR.toRowW && RR.within.isEmpty)) = true := by kernel_rfl
theorem o_wr : (!RR.writes || RR.records.isEmpty) = true := by kernel_rfl
end SLT
set_option exponentiation.threshold 256
set_option maxRecDepth 1000000
set_option maxHeartbeats 0
open PySem PySem.W PySem.Calls PyProof.Rows
namespace SLT
theorem o_n : (PySem.Challenge.rw_slopewrit_k22_whole_common_steps).most = some 63 := by kernel_rfl
theorem o_df : dd.params.defaults = [] := by kernel_rfl
theorem o_room : L2.Room 81 callerA := ⟨rfl, by decide, by decide⟩
theorem o_nm : dd.name = ("law" : PySem.Str) := by kernel_rfl
theorem o_f : (theProg.main.file : Str) = "/claim/cut.py" := by kernel_rfl
theorem o_tr : theProg.given.tree = none := by kernel_rfl
theorem o_t : (theProg.main.scope.names.lookup ("super" : Str)).isSome = false := by kernel_rfl
end SLT
set_option exponentiation.threshold 256
set_option maxRecDepth 1000000
set_option maxHeartbeats 8000000
open PySem PySem.W PySem.Calls PyProof.Rows
namespace SLT
theorem o_hw : (SLT.RR).toRowW.promised := by w_witness2
end SLT
set_option exponentiation.threshold 256
set_option maxRecDepth 100000
set_option maxHeartbeats 1000000
namespace SLT
open PySem PySem.Spec PyProof.Rows L2 SL
structure Bs (P : Program) (K : PySem.W.Frag) (mg : Str → Option Value) : Prop where
  F : Facts K mg
  tree : P.given.tree = none
section
variable {X : Cx} {Γ Δ : Cxt} {e a b c : Expr} {R S U : Ty} {pos : Pos}
theorem vr (i : Nat) {x : Str} (hN : X.N[i]? = some x) (hv : List.lookup x X.env.scope.names = some .local) (hΓ : Γ[i]? = some (some R)) (hd : (x == ("__debug__" : Str)) = false) (hcd : (x == ("__classdict__" : Str)) = false) : ET X Γ (.Name x pos) R := et_var hN (.inl hv) hΓ hd hcd
/-- a name that a block reads, in the def; in the block -/
theorem vc (i : Nat) {x : Str} (hN : X.N[i]? = some x) (hv : List.lookup x X.env.scope.names = some .cell) (hΓ : Γ[i]? = some (some R)) (hd : (x == ("__debug__" : Str)) = false) (hcd : (x == ("__classdict__" : Str)) = false) : ET X Γ (.Name x pos) R := et_var hN (.inr (.inl hv)) hΓ hd hcd
theorem vf (i : Nat) {x : Str} (hN : X.N[i]? = some x) (hv : List.lookup x X.env.scope.names = some .free) (hΓ : Γ[i]? = some (some R)) (hd : (x == ("__debug__" : Str)) = false) (hcd : (x == ("__classdict__" : Str)) = false) : ET X Γ (.Name x pos) R := et_var hN (.inr (.inr hv)) hΓ hd hcd
theorem pgB {i : Nat} {x : Str} {px : Pos} {scope : Scope} (hN : X.N.Nodup) (hi : X.N[i]? = some x) (hx : ∀ C cl, List.lookup x (compEnvC scope cl C X.env).scope.names = some .local) : Blks X scope fun Y => PG Y (.Name x px) (gName i) := fun s H C cl fp => pg_name hN hi (.inl (hx C cl)) (.inr (hx C cl))
theorem it_rangeN {m : List Addr} {X : Cx} {Γ : Cxt} {e tg : Expr} {pos p : Pos} {n : Int} {N : Nat} (hg : Gl X "range") (hm : X.mg "range" = none) (he : ET X Γ e (tI n)) (hn : n = N) (hN : N ≤ 1000000) (hs : starEach [e] X.env = [(false, eval e X.env)] := by rfl) : IT_ m X Γ tg (.Call (.Name "range" p) [e] [] pos) N fun i => tI i := by
  have h := it_range (m := m) (tg := tg) (p := p) (pos := pos) hg hm (at_one he (by rw [hs]; rfl)) (by omega) (by omega) hs
  rw [hn, Int.toNat_natCast] at h
  exact h
theorem sub_nil : Sub [] [] := Sub.refl []
theorem sub_im {Γ Δ : Cxt} {R S : Ty} (k : ∀ v H, S.p v H → R.p v H) (h : Sub Γ Δ) : Sub (some S :: Γ) (some R :: Δ) := ⟨by rw [List.length_cons, List.length_cons, h.1], fun i T hi => by
  cases i with
  | zero => simp at hi; subst hi; exact ⟨S, rfl, k⟩
  | succ i => exact h.2 i T (by simpa using hi)⟩
theorem sub_eq {Γ Δ : Cxt} {a : Option Ty} (h : Sub Γ Δ) : Sub (a :: Γ) (a :: Δ) := ⟨by rw [List.length_cons, List.length_cons, h.1], fun i T hi => by
  cases i with
  | zero => exact ⟨T, by simpa using hi, fun _ _ x => x⟩
  | succ i => exact h.2 i T (by simpa using hi)⟩
theorem sub_no {Γ Δ : Cxt} {a : Option Ty} (h : Sub Γ Δ) : Sub (a :: Γ) (none :: Δ) := ⟨by rw [List.length_cons, List.length_cons, h.1], fun i T hi => by
  cases i with
  | zero => simp at hi
  | succ i => exact h.2 i T (by simpa using hi)⟩
theorem subn_nil {D : Addr} : SubN D [] [] := SubN.refl []
theorem subn_im {D : Addr} {Γ Δ : Cxt} {R S : Ty} (k : ∀ v H, H D = none → S.p v H → R.p v H) (h : SubN D Γ Δ) : SubN D (some S :: Γ) (some R :: Δ) := ⟨by rw [List.length_cons, List.length_cons, h.1], fun i T hi => by
  cases i with
  | zero => simp at hi; subst hi; exact ⟨S, rfl, k⟩
  | succ i => exact h.2 i T (by simpa using hi)⟩
theorem subn_eq {D : Addr} {Γ Δ : Cxt} {a : Option Ty} (h : SubN D Γ Δ) : SubN D (a :: Γ) (a :: Δ) := ⟨by rw [List.length_cons, List.length_cons, h.1], fun i T hi => by
  cases i with
  | zero => exact ⟨T, by simpa using hi, fun _ _ _ x => x⟩
  | succ i => exact h.2 i T (by simpa using hi)⟩
theorem subn_no {D : Addr} {Γ Δ : Cxt} {a : Option Ty} (h : SubN D Γ Δ) : SubN D (a :: Γ) (none :: Δ) := ⟨by rw [List.length_cons, List.length_cons, h.1], fun i T hi => by
  cases i with
  | zero => simp at hi
  | succ i => exact h.2 i T (by simpa using hi)⟩
theorem tLn_un {m m' : List Addr} {Rs : List Ty} (h : ∀ a ∈ m, a ∈ m') (v : V) (H : Hp) (r : (tLn m' Rs).p v H) : (tLn m Rs).p v H := let ⟨a, xs, h1, h2, h3⟩ := r; ⟨a, xs, h1, fun z => h2 (h a z), h3⟩
theorem num0 (q : Rat) : decide (q.num = 0) = decide (q = 0) := by simp [Rat.num_eq_zero]
/-- all but one stay when D changes -/
theorem stbX_of {m : List Addr} {j : Nat} : ∀ {Γ : Cxt}, (∀ k R, k ≠ j → Γ[k]? = some (some R) → Stb m R) → StbX m Γ j := fun h => h
theorem stbx_nil {m : List Addr} {j : Nat} : StbX m [] j := fun k R _ h => by simp at h
theorem stbx_0 {m : List Addr} {Γ : Cxt} {a : Option Ty} (h : StbC m Γ) : StbX m (a :: Γ) 0 := fun k R hk hi => by
  cases k with
  | zero => exact absurd rfl hk
  | succ k => exact h R (List.mem_of_getElem? (by simpa using hi))
theorem stbx_s {m : List Addr} {Γ : Cxt} {a : Ty} {j : Nat} (ha : Stb m a) (h : StbX m Γ j) : StbX m (some a :: Γ) (j + 1) := fun k R hk hi => by
  cases k with
  | zero => simp at hi; subst hi; exact ha
  | succ k => exact h k R (fun z => hk (by rw [z])) (by simpa using hi)
theorem stbx_n {m : List Addr} {Γ : Cxt} {j : Nat} (h : StbX m Γ j) : StbX m (none :: Γ) (j + 1) := fun k R hk hi => by
  cases k with
  | zero => simp at hi
  | succ k => exact h k R (fun z => hk (by rw [z])) (by simpa using hi)
theorem stbc_nil {m : List Addr} : StbC m [] := fun R h => by cases h
theorem stbc_s {m : List Addr} {Γ : Cxt} {a : Ty} (ha : Stb m a) (h : StbC m Γ) : StbC m (some a :: Γ) := fun R hR => by
  rcases List.mem_cons.mp hR with e | e
  · cases e; exact ha
  · exact h R e
theorem stbc_n {m : List Addr} {Γ : Cxt} (h : StbC m Γ) : StbC m (none :: Γ) := fun R hR => by
  rcases List.mem_cons.mp hR with e | e
  · cases e
  · exact h R e
theorem it_range3N {m : List Addr} {X : Cx} {Γ : Cxt} {a b c tg : Expr} {pos p : Pos} {i j : Int} {N : Nat} (hN : i - j = N) (hg : Gl X "range") (hm : X.mg "range" = none) (ha : ET X Γ a (tI i)) (hb : ET X Γ b (tI j)) (hc : ET X Γ c (tI (-1))) (b1 : -1000000 ≤ i ∧ i ≤ 1000000 ∧ -1000000 ≤ j ∧ j ≤ 1000000)
    (hs : starEach [a, b, c] X.env = (false, eval a X.env) :: starEach [b, c] X.env := by rfl) (hs2 : starEach [b, c] X.env = (false, eval b X.env) :: starEach [c] X.env := by rfl) (hs3 : starEach [c] X.env = (false, eval c X.env) :: starEach [] X.env := by rfl)
    (hp : (backTo pos (starEach [b, c] X.env)).any (·.1) = false := by rfl) : IT_ m X Γ tg (.Call (.Name "range" p) [a, b, c] [] pos) N fun k => tI (i - k) := by
  have h := it_range3 (m := m) (tg := tg) (p := p) (pos := pos) hg hm ha hb hc (by omega) hs hs2 hs3 hp
  rw [hN, Int.toNat_natCast] at h
  exact h
/-- two names -/
theorem pg2 {X : Cx} {i j : Nat} {x y : Str} {px py pt : Pos} {kt} (hc : X.calm = true) (hN : X.N.Nodup) (hi : X.N[i]? = some x) (hj : X.N[j]? = some y) (hx : X.env.scope.names.lookup x = some .local) (hy : X.env.scope.names.lookup y = some .local)
    (hn : (assignEach [.Name x px, .Name y py] X.env).length = 2) (hst : (assignEach [.Name x px, .Name y py] X.env).findIdx? (·.1) = none)
    (hs1 : (assignEach [.Name x px, .Name y py] X.env).map (·.2) = assign (.Name x px) X.env :: (assignEach [.Name y py] X.env).map (·.2))
    (hs2 : (assignEach [.Name y py] X.env).map (·.2) = assign (.Name y py) X.env :: (assignEach [] X.env).map (·.2)) : PG X (.Tuple [.Name x px, .Name y py] kt pt) (gTup X.K 2 (gCons (gName i) (gCons (gName j) gNil))) :=
  pg_tup (n := 2) hc (pgs_cons (pg_name hN hi (.inl hx) (.inr hx)) (pgs_cons (pg_name hN hj (.inl hy) (.inr hy)) pgs_nil hs2) hs1) hn hst
theorem st_for1 {X : Cx} {Γ Δ : Cxt} {iter : Expr} {t : Tg} {body : List Stmt} {pos px : Pos} {n i : Nat} {x : Str} {Rf : Nat → Ty} (Γs : Nat → Cxt) (hi : IT_ t.mu X Γ (.Name x px) iter n Rf) (h0 : Sub Γ (Γs 0)) (hb : ∀ k, k < n → BT X ((Γs k).set i (some (Rf k))) body { nx := some (Γs (k + 1)), ct := some (Γs (k + 1)), rt := t.rt, bk := t.nx, mu := t.mu }) (hn : t.nx = some Δ) (hd : Sub (Γs n) Δ)
    (hc : X.calm = true) (hp : PassesOwn (model X.prog X.w) X.A X.env X.xe) (hN : X.N.Nodup) (hx : X.N[i]? = some x) (hl : X.env.scope.names.lookup x = some .local) (hs : ∀ x, foldedSetIterable iter X.env x = pure x) : ST X Γ (.For (.Name x px) iter body [] pos) t :=
  st_for hc hp hi (pg_name hN hx (.inl hl) (.inr hl)) Γs (fun k => (Γs k).set i (some (Rf k))) h0 (fun k hk => gt_name) hb hn hd hs
theorem st_for2 {X : Cx} {Γ Δ : Cxt} {iter : Expr} {t : Tg} {body : List Stmt} {pos px py pt : Pos} {kt : Nat} {n i j : Nat} {x y : Str} {Rf Sf : Nat → Ty} (Γs : Nat → Cxt) (hi : IT_ t.mu X Γ (.Tuple [.Name x px, .Name y py] kt pt) iter n fun k => tT X.K [Rf k, Sf k]) (h0 : Sub Γ (Γs 0)) (hb : ∀ k, k < n → BT X (((Γs k).set i (some (Rf k))).set j (some (Sf k))) body { nx := some (Γs (k + 1)), ct := some (Γs (k + 1)), rt := t.rt, bk := t.nx, mu := t.mu }) (hn : t.nx = some Δ) (hd : Sub (Γs n) Δ)
    (hc : X.calm = true) (hp : PassesOwn (model X.prog X.w) X.A X.env X.xe) (hN : X.N.Nodup) (hx : X.N[i]? = some x) (hy : X.N[j]? = some y) (hl : X.env.scope.names.lookup x = some .local) (hl2 : X.env.scope.names.lookup y = some .local)
    (h1 : (assignEach [.Name x px, .Name y py] X.env).length = 2) (h2 : (assignEach [.Name x px, .Name y py] X.env).findIdx? (·.1) = none)
    (h3 : (assignEach [.Name x px, .Name y py] X.env).map (·.2) = assign (.Name x px) X.env :: (assignEach [.Name y py] X.env).map (·.2))
    (h4 : (assignEach [.Name y py] X.env).map (·.2) = assign (.Name y py) X.env :: (assignEach [] X.env).map (·.2)) (hs : ∀ x, foldedSetIterable iter X.env x = pure x) : ST X Γ (.For (.Tuple [.Name x px, .Name y py] kt pt) iter body [] pos) t :=
  st_for hc hp hi (pg2 hc hN hx hy hl hl2 h1 h2 h3 h4) Γs (fun k => ((Γs k).set i (some (Rf k))).set j (some (Sf k))) h0 (fun k hk => gt_pair) hb hn hd hs
theorem pgB2 {i j : Nat} {x y : Str} {px py pt : Pos} {kt} {scope : Scope} (hc : X.calm = true) (hN : X.N.Nodup) (hi : X.N[i]? = some x) (hj : X.N[j]? = some y) (hx : ∀ C cl, List.lookup x (compEnvC scope cl C X.env).scope.names = some .local) (hy : ∀ C cl, List.lookup y (compEnvC scope cl C X.env).scope.names = some .local)
    (h : ∀ C cl, (assignEach [.Name x px, .Name y py] (compEnvC scope cl C X.env)).length = 2 ∧ (assignEach [.Name x px, .Name y py] (compEnvC scope cl C X.env)).findIdx? (·.1) = none ∧
      (assignEach [.Name x px, .Name y py] (compEnvC scope cl C X.env)).map (·.2) = assign (.Name x px) (compEnvC scope cl C X.env) :: (assignEach [.Name y py] (compEnvC scope cl C X.env)).map (·.2) ∧
      (assignEach [.Name y py] (compEnvC scope cl C X.env)).map (·.2) = assign (.Name y py) (compEnvC scope cl C X.env) :: (assignEach [] (compEnvC scope cl C X.env)).map (·.2)) :
    Blks X scope fun Y => PG Y (.Tuple [.Name x px, .Name y py] kt pt) (gTup X.K 2 (gCons (gName i) (gCons (gName j) gNil))) := fun s H C cl fp => pg2 (X := X.blk s H scope (compEnvC scope cl C X.env) fp) hc hN hi hj (hx C cl) (hy C cl) (h C cl).1 (h C cl).2.1 (h C cl).2.2.1 (h C cl).2.2.2
end
section
variable {P : Program} {w : World} {K : PySem.W.Frag} {mg : Str → Option Value} {base : Heap} {k : Nat} {N ps : List Str} {qual : Str} {scope : Scope} {f : Addr} {cdv : Value} {A : Around} {outer : List Env} {s : Shared} {H : Hp}
/-- i // j in a def's body -/
theorem fd {Γ : Cxt} {a b : Expr} {pos : Pos} {i j : Int} (B : Bs P K mg) (S : FnScope N ps scope) (hr : Room 34 (A.deeper (envOfC qual scope s.heap.objs.size f cdv))) (h : j ≠ 0)
    (ha : ET (BodyCx P w K mg base N qual scope f cdv A outer s H) Γ a (tI i)) (hb : ET (BodyCx P w K mg base N qual scope f cdv A outer s H) Γ b (tI j)) :
    ET (BodyCx P w K mg base N qual scope f cdv A outer s H) Γ (.BinOp a .FloorDiv b pos) (tI (i.fdiv j)) :=
  et_fdiv (op_fdivB (env0 := envOfC qual scope s.heap.objs.size f cdv) (l := outer) B.F.seer B.tree hr rfl S.gen S.co rfl rfl) h ha hb
end
/-- nothing in it is an instance of the class at C -/
def SolC (C : Addr) (R : Ty) : Prop := ∀ v H q dx fs fs', H q = some (.ins C dx fs) → R.p v H → R.p v (upd H q (.ins C dx fs'))
theorem solC_I {C : Addr} {n : Int} : SolC C (tI n) := fun _ _ _ _ _ _ _ h => h
theorem solC_B {C : Addr} {n : Bool} : SolC C (tB n) := fun _ _ _ _ _ _ _ h => h
theorem solC_V {C : Addr} {n : V} : SolC C (tV n) := fun _ _ _ _ _ _ _ h => h
theorem solC_N {C : Addr} : SolC C tN := fun _ _ _ _ _ _ _ h => h
theorem tvs_solC {C : Addr} : ∀ {vs : List V} {Rs : List Ty} {H : Hp} {q dx : Addr} {fs fs' : List (Str × V)}, (∀ R ∈ Rs, SolC C R) → H q = some (.ins C dx fs) → TVs vs Rs H → TVs vs Rs (upd H q (.ins C dx fs'))
  | [], [], _, _, _, _, _, _, _, _ => trivial
  | _ :: _, _ :: _, _, _, _, _, _, hs, hD, ⟨a, b⟩ => ⟨hs _ List.mem_cons_self _ _ _ _ _ _ hD a, tvs_solC (fun R hR => hs R (List.mem_cons_of_mem _ hR)) hD b⟩
  | [], _ :: _, _, _, _, _, _, _, _, h => h.elim
  | _ :: _, [], _, _, _, _, _, _, _, h => h.elim
theorem solC_T {C : Addr} {K : PySem.W.Frag} {Rs : List Ty} (hs : ∀ R ∈ Rs, SolC C R) : SolC C (tT K Rs) := fun v H q dx fs fs' hD ⟨a, zs, e, hq, r⟩ => by
  refine ⟨a, zs, e, ?_, tvs_solC hs hD r⟩
  rcases hq with (h | ⟨o, h⟩) | h
  · exact .inl (.inl (by rw [upd_ne (ne_of h hD (by intro z; cases z))]; exact h))
  · exact .inl (.inr ⟨o, by rw [upd_ne (ne_of h hD (by intro z; cases z))]; exact h⟩)
  · exact .inr h
theorem solC_L {C : Addr} {K : PySem.W.Frag} {Rs : List Ty} (hs : ∀ R ∈ Rs, SolC C R) : SolC C (tL K Rs) := fun v H q dx fs fs' hD ⟨a, zs, e, hq, r⟩ => by
  refine ⟨a, zs, e, ?_, tvs_solC hs hD r⟩
  rcases hq with (h | ⟨o, h⟩) | h
  · exact .inl (.inl (by rw [upd_ne (ne_of h hD (by intro z; cases z))]; exact h))
  · exact .inl (.inr ⟨o, by rw [upd_ne (ne_of h hD (by intro z; cases z))]; exact h⟩)
  · exact .inr h
theorem okc_solC {C : Addr} {Γ : Cxt} {σ : L2.St} {H : Hp} {q dx : Addr} {fs fs' : List (Str × V)} (ok : OKc Γ σ H) (hs : ∀ R, some R ∈ Γ → SolC C R) (hD : H q = some (.ins C dx fs)) : OKc Γ σ (upd H q (.ins C dx fs')) :=
  ⟨ok.1, fun i R hi => let ⟨v, a, b⟩ := ok.2 i R hi; ⟨v, a, hs R (List.mem_of_getElem? hi) _ _ _ _ _ _ hD b⟩⟩
theorem same_upd {H0 H1 : Hp} {q : Addr} {o : HO} (s : Same H0 H1) (h : H0 q = none) : Same H0 (upd H1 q o) := fun b u e => by
  rw [upd_ne (ne_of_none e h)]; exact s _ _ e
section
variable {X : Cx} {Γ : Cxt} {e e1 e2 a a1 a2 : Expr} {R R1 R2 U : Ty} {pos pos1 pos2 p1 p2 : Pos} {f f1 f2 : Str} {C q dq : Addr} {D : Ends} {σ : L2.St} {H H0 : Hp}
theorem wB_store1 (ok : OKc Γ σ H) (sm : Same H0 H) (n0 : H0 q = none) (hq : H q = some (.ins C dq [])) (cl : Cls X.K C) (na : NoAttr X.K C f) (hv : ET X Γ e R) (ha : ET X Γ a (tV (.ref q))) (hR : SolC C R)
    (hs : swapsWith e (some (.Attribute a f p1)) pos.line X.env = pure false) (hU : ∀ v H', R.p v H' → H' q = some (.ins C dq [(f, v)]) → U.p (.ref q) H') (fin : ∀ σ' H', Same H0 H' → U.p (.ref q) H' → D.nx σ' H') : wB X [.Assign [.Attribute a f p1] e pos] D σ H := by
  refine wB_cons (wS_store (R := R) hv ha ok hq cl na (by decide) hs fun v H1 s1 ok1 r h1 => wB_nil (fin _ _ (same_upd (sm.trans s1) n0) ?_))
  exact hU v _ (hR _ _ _ _ _ _ h1 r) upd_same
theorem wB_store2 (ok : OKc Γ σ H) (sm : Same H0 H) (n0 : H0 q = none) (hq : H q = some (.ins C dq [])) (cl : Cls X.K C) (na1 : NoAttr X.K C f1) (na2 : NoAttr X.K C f2) (hΓ : ∀ R, some R ∈ Γ → SolC C R) (hv1 : ET X Γ e1 R1) (hv2 : ET X Γ e2 R2)
    (ha1 : ET X Γ a1 (tV (.ref q))) (ha2 : ET X Γ a2 (tV (.ref q))) (hR1 : SolC C R1) (hR2 : SolC C R2) (hne : putF f2 (.int 0) [(f1, .int 0)] = [(f1, .int 0), (f2, .int 0)])
    (hs1 : swapsWith e1 (some (.Attribute a1 f1 p1)) pos1.line X.env = pure false) (hs2 : swapsWith e2 (some (.Attribute a2 f2 p2)) pos2.line X.env = pure false)
    (hU : ∀ v1 v2 H', R1.p v1 H' → R2.p v2 H' → H' q = some (.ins C dq [(f1, v1), (f2, v2)]) → U.p (.ref q) H') (fin : ∀ σ' H', Same H0 H' → U.p (.ref q) H' → D.nx σ' H') :
    wB X [.Assign [.Attribute a1 f1 p1] e1 pos1, .Assign [.Attribute a2 f2 p2] e2 pos2] D σ H := by
  refine wB_cons (wS_store (R := R1) hv1 ha1 ok hq cl na1 (by decide) hs1 fun v H1 s1 ok1 r h1 => ?_)
  have ok2 := okc_solC (fs' := putF f1 v []) ok1 hΓ h1
  refine wB_cons (wS_store (R := R2) hv2 ha2 ok2 upd_same cl na2 (by show _ < 1000; exact Nat.lt_of_le_of_lt (show _ ≤ 1 from Nat.le_refl _) (by decide)) hs2 fun v2 H2 s2 ok3 r2 h2 => wB_nil (fin _ _ (same_upd ((same_upd (sm.trans s1) n0).trans s2) n0) ?_))
  have r1' := R1.mono s2 (hR1 _ _ _ _ _ (putF f1 v []) h1 r)
  refine hU v v2 _ (hR1 _ _ _ _ _ _ h2 r1') (hR2 _ _ _ _ _ _ h2 r2) ?_
  rw [upd_same]
  have e : putF f2 v2 (putF f1 v []) = [(f1, v), (f2, v2)] := by
    have ne : (f2 == f1) = false ∨ (f1 == f2) = false := by
      by_cases h : f1 = f2
      · subst h; simp [putF] at hne
      · exact .inr (by simpa using h)
    simp [putF] at hne ⊢
    grind
  rw [e]
end
theorem tB_of {b c : Bool} (h : b = c) (v : V) (H : Hp) (x : (tB b).p v H) : (tB c).p v H := h ▸ x
theorem tI_of {b c : Int} (h : b = c) (v : V) (H : Hp) (x : (tI b).p v H) : (tI c).p v H := h ▸ x
end SLT
set_option exponentiation.threshold 256
set_option maxRecDepth 100000
set_option maxHeartbeats 1000000
namespace SLT
open PySem PySem.Spec PyProof.Rows L2 SL
def chkS (N ps : List PySem.Str) (sc : Scope) : Bool := decide (sc.kind = .function) && (!sc.isCoroutine && (!sc.isGenerator && (decide N.Nodup && (decide (N.take ps.length = ps) && (ps.all (fun x => decide (List.lookup x sc.names = some .local) || decide (List.lookup x sc.names = some .cell)) && sc.names.all fun y => !decide (y.2 = .free))))))
theorem scS {N ps : List PySem.Str} {sc : Scope} (h : chkS N ps sc = true) : FnScope N ps sc := by
  unfold chkS at h
  simp only [Bool.and_eq_true, decide_eq_true_eq, Bool.not_eq_true', List.all_eq_true, Bool.or_eq_true, decide_eq_false_iff_not] at h
  obtain ⟨h1, h2, h3, h4, h5, h6, h7⟩ := h
  exact ⟨h1, h2, h3, h4, h5, h6, h7⟩
abbrev N_written_integer : List Str := ["n", "pieces", "low"]
theorem sc_written_integer : FnScope N_written_integer ["n"] d_written_integer.scope := scS (by kernel_rfl)
theorem bi_written_integer {K : PySem.W.Frag} {f : Addr} {fd : FuncData} (D : DefAt K d_written_integer f fd) : L2.Binds K fd ["n"] [] := D.bindsN fun _ _ _ _ _ _ us hl => match us, hl with | [_], _ => by kernel_rfl
abbrev N_Ratio_init : List Str := ["self", "n", "d", "common"]
theorem sc_Ratio_init : FnScope N_Ratio_init ["self", "n", "d"] d_Ratio_init.scope := scS (by kernel_rfl)
abbrev N_Ratio_add : List Str := ["self", "other"]
theorem sc_Ratio_add : FnScope N_Ratio_add ["self", "other"] d_Ratio_add.scope := scS (by kernel_rfl)
theorem bi_Ratio_add {K : PySem.W.Frag} {f : Addr} {fd : FuncData} (D : DefAt K d_Ratio_add f fd) : L2.Binds K fd ["self", "other"] [] := D.bindsN fun _ _ _ _ _ _ us hl => match us, hl with | [_, _], _ => by kernel_rfl
abbrev N_Ratio_sub : List Str := ["self", "other"]
theorem sc_Ratio_sub : FnScope N_Ratio_sub ["self", "other"] d_Ratio_sub.scope := scS (by kernel_rfl)
theorem bi_Ratio_sub {K : PySem.W.Frag} {f : Addr} {fd : FuncData} (D : DefAt K d_Ratio_sub f fd) : L2.Binds K fd ["self", "other"] [] := D.bindsN fun _ _ _ _ _ _ us hl => match us, hl with | [_, _], _ => by kernel_rfl
abbrev N_Ratio_mul : List Str := ["self", "other"]
theorem sc_Ratio_mul : FnScope N_Ratio_mul ["self", "other"] d_Ratio_mul.scope := scS (by kernel_rfl)
theorem bi_Ratio_mul {K : PySem.W.Frag} {f : Addr} {fd : FuncData} (D : DefAt K d_Ratio_mul f fd) : L2.Binds K fd ["self", "other"] [] := D.bindsN fun _ _ _ _ _ _ us hl => match us, hl with | [_, _], _ => by kernel_rfl
abbrev N_Ratio_neg : List Str := ["self"]
theorem sc_Ratio_neg : FnScope N_Ratio_neg ["self"] d_Ratio_neg.scope := scS (by kernel_rfl)
theorem bi_Ratio_neg {K : PySem.W.Frag} {f : Addr} {fd : FuncData} (D : DefAt K d_Ratio_neg f fd) : L2.Binds K fd ["self"] [] := D.bindsN fun _ _ _ _ _ _ us hl => match us, hl with | [_], _ => by kernel_rfl
abbrev N_Ratio_eq : List Str := ["self", "other"]
theorem sc_Ratio_eq : FnScope N_Ratio_eq ["self", "other"] d_Ratio_eq.scope := scS (by kernel_rfl)
theorem bi_Ratio_eq {K : PySem.W.Frag} {f : Addr} {fd : FuncData} (D : DefAt K d_Ratio_eq f fd) : L2.Binds K fd ["self", "other"] [] := D.bindsN fun _ _ _ _ _ _ us hl => match us, hl with | [_, _], _ => by kernel_rfl
abbrev N_Ratio_str : List Str := ["self"]
theorem sc_Ratio_str : FnScope N_Ratio_str ["self"] d_Ratio_str.scope := scS (by kernel_rfl)
theorem bi_Ratio_str {K : PySem.W.Frag} {f : Addr} {fd : FuncData} (D : DefAt K d_Ratio_str f fd) : L2.Binds K fd ["self"] [] := D.bindsN fun _ _ _ _ _ _ us hl => match us, hl with | [_], _ => by kernel_rfl
abbrev N_Ratio_inverse : List Str := ["self"]
theorem sc_Ratio_inverse : FnScope N_Ratio_inverse ["self"] d_Ratio_inverse.scope := scS (by kernel_rfl)
theorem bi_Ratio_inverse {K : PySem.W.Frag} {f : Addr} {fd : FuncData} (D : DefAt K d_Ratio_inverse f fd) : L2.Binds K fd ["self"] [] := D.bindsN fun _ _ _ _ _ _ us hl => match us, hl with | [_], _ => by kernel_rfl
abbrev N_Ratio_over : List Str := ["self", "other"]
theorem sc_Ratio_over : FnScope N_Ratio_over ["self", "other"] d_Ratio_over.scope := scS (by kernel_rfl)
theorem bi_Ratio_over {K : PySem.W.Frag} {f : Addr} {fd : FuncData} (D : DefAt K d_Ratio_over f fd) : L2.Binds K fd ["self", "other"] [] := D.bindsN fun _ _ _ _ _ _ us hl => match us, hl with | [_, _], _ => by kernel_rfl
abbrev N_Ratio_power : List Str := ["self", "k", "n", "d", "_"]
theorem sc_Ratio_power : FnScope N_Ratio_power ["self", "k"] d_Ratio_power.scope := scS (by kernel_rfl)
theorem bi_Ratio_power {K : PySem.W.Frag} {f : Addr} {fd : FuncData} (D : DefAt K d_Ratio_power f fd) : L2.Binds K fd ["self", "k"] [] := D.bindsN fun _ _ _ _ _ _ us hl => match us, hl with | [_, _], _ => by kernel_rfl
abbrev N_Ratio_is_zero : List Str := ["self"]
theorem sc_Ratio_is_zero : FnScope N_Ratio_is_zero ["self"] d_Ratio_is_zero.scope := scS (by kernel_rfl)
theorem bi_Ratio_is_zero {K : PySem.W.Frag} {f : Addr} {fd : FuncData} (D : DefAt K d_Ratio_is_zero f fd) : L2.Binds K fd ["self"] [] := D.bindsN fun _ _ _ _ _ _ us hl => match us, hl with | [_], _ => by kernel_rfl
abbrev N_zero : List Str := []
theorem sc_zero : FnScope N_zero [] d_zero.scope := scS (by kernel_rfl)
theorem bi_zero {K : PySem.W.Frag} {f : Addr} {fd : FuncData} (D : DefAt K d_zero f fd) : L2.Binds K fd [] [] := D.bindsN fun _ _ _ _ _ _ us hl => match us, hl with | [], _ => by kernel_rfl
abbrev N_one : List Str := []
theorem sc_one : FnScope N_one [] d_one.scope := scS (by kernel_rfl)
theorem bi_one {K : PySem.W.Frag} {f : Addr} {fd : FuncData} (D : DefAt K d_one f fd) : L2.Binds K fd [] [] := D.bindsN fun _ _ _ _ _ _ us hl => match us, hl with | [], _ => by kernel_rfl
abbrev N_trimmed : List Str := ["row", "size"]
theorem sc_trimmed : FnScope N_trimmed ["row"] d_trimmed.scope := scS (by kernel_rfl)
theorem bi_trimmed {K : PySem.W.Frag} {f : Addr} {fd : FuncData} (D : DefAt K d_trimmed f fd) : L2.Binds K fd ["row"] [] := D.bindsN fun _ _ _ _ _ _ us hl => match us, hl with | [_], _ => by kernel_rfl
abbrev N_Poly_init : List Str := ["self", "row", "c"]
theorem sc_Poly_init : FnScope N_Poly_init ["self", "row"] d_Poly_init.scope := scS (by kernel_rfl)
theorem bi_Poly_init {K : PySem.W.Frag} {f : Addr} {fd : FuncData} (D : DefAt K d_Poly_init f fd) : L2.Binds K fd ["self", "row"] [] := D.bindsN fun _ _ _ _ _ _ us hl => match us, hl with | [_, _], _ => by kernel_rfl
abbrev N_Poly_add : List Str := ["self", "other", "long", "short", "out", "a", "b"]
theorem sc_Poly_add : FnScope N_Poly_add ["self", "other"] d_Poly_add.scope := scS (by kernel_rfl)
theorem bi_Poly_add {K : PySem.W.Frag} {f : Addr} {fd : FuncData} (D : DefAt K d_Poly_add f fd) : L2.Binds K fd ["self", "other"] [] := D.bindsN fun _ _ _ _ _ _ us hl => match us, hl with | [_, _], _ => by kernel_rfl
abbrev N_Poly_neg : List Str := ["self", "c"]
theorem sc_Poly_neg : FnScope N_Poly_neg ["self"] d_Poly_neg.scope := scS (by kernel_rfl)
theorem bi_Poly_neg {K : PySem.W.Frag} {f : Addr} {fd : FuncData} (D : DefAt K d_Poly_neg f fd) : L2.Binds K fd ["self"] [] := D.bindsN fun _ _ _ _ _ _ us hl => match us, hl with | [_], _ => by kernel_rfl
abbrev N_Poly_sub : List Str := ["self", "other"]
theorem sc_Poly_sub : FnScope N_Poly_sub ["self", "other"] d_Poly_sub.scope := scS (by kernel_rfl)
theorem bi_Poly_sub {K : PySem.W.Frag} {f : Addr} {fd : FuncData} (D : DefAt K d_Poly_sub f fd) : L2.Binds K fd ["self", "other"] [] := D.bindsN fun _ _ _ _ _ _ us hl => match us, hl with | [_, _], _ => by kernel_rfl
abbrev N_Poly_mul : List Str := ["self", "other", "out", "at", "a", "k", "b", "_"]
theorem sc_Poly_mul : FnScope N_Poly_mul ["self", "other"] d_Poly_mul.scope := scS (by kernel_rfl)
theorem bi_Poly_mul {K : PySem.W.Frag} {f : Addr} {fd : FuncData} (D : DefAt K d_Poly_mul f fd) : L2.Binds K fd ["self", "other"] [] := D.bindsN fun _ _ _ _ _ _ us hl => match us, hl with | [_, _], _ => by kernel_rfl
abbrev N_Poly_eq : List Str := ["self", "other"]
theorem sc_Poly_eq : FnScope N_Poly_eq ["self", "other"] d_Poly_eq.scope := scS (by kernel_rfl)
theorem bi_Poly_eq {K : PySem.W.Frag} {f : Addr} {fd : FuncData} (D : DefAt K d_Poly_eq f fd) : L2.Binds K fd ["self", "other"] [] := D.bindsN fun _ _ _ _ _ _ us hl => match us, hl with | [_, _], _ => by kernel_rfl
abbrev N_Poly_floordiv : List Str := ["self", "other"]
theorem sc_Poly_floordiv : FnScope N_Poly_floordiv ["self", "other"] d_Poly_floordiv.scope := scS (by kernel_rfl)
theorem bi_Poly_floordiv {K : PySem.W.Frag} {f : Addr} {fd : FuncData} (D : DefAt K d_Poly_floordiv f fd) : L2.Binds K fd ["self", "other"] [] := D.bindsN fun _ _ _ _ _ _ us hl => match us, hl with | [_, _], _ => by kernel_rfl
abbrev N_Poly_mod : List Str := ["self", "other"]
theorem sc_Poly_mod : FnScope N_Poly_mod ["self", "other"] d_Poly_mod.scope := scS (by kernel_rfl)
theorem bi_Poly_mod {K : PySem.W.Frag} {f : Addr} {fd : FuncData} (D : DefAt K d_Poly_mod f fd) : L2.Binds K fd ["self", "other"] [] := D.bindsN fun _ _ _ _ _ _ us hl => match us, hl with | [_, _], _ => by kernel_rfl
abbrev N_Poly_call : List Str := ["self", "x", "out", "c"]
theorem sc_Poly_call : FnScope N_Poly_call ["self", "x"] d_Poly_call.scope := scS (by kernel_rfl)
theorem bi_Poly_call {K : PySem.W.Frag} {f : Addr} {fd : FuncData} (D : DefAt K d_Poly_call f fd) : L2.Binds K fd ["self", "x"] [] := D.bindsN fun _ _ _ _ _ _ us hl => match us, hl with | [_, _], _ => by kernel_rfl
abbrev N_Poly_iter : List Str := ["self"]
theorem sc_Poly_iter : FnScope N_Poly_iter ["self"] d_Poly_iter.scope := scS (by kernel_rfl)
theorem bi_Poly_iter {K : PySem.W.Frag} {f : Addr} {fd : FuncData} (D : DefAt K d_Poly_iter f fd) : L2.Binds K fd ["self"] [] := D.bindsN fun _ _ _ _ _ _ us hl => match us, hl with | [_], _ => by kernel_rfl
abbrev N_Poly_divided : List Str := ["self", "other", "inverse", "rest", "size", "out", "k", "factor", "at", "c", "_"]
theorem sc_Poly_divided : FnScope N_Poly_divided ["self", "other"] d_Poly_divided.scope := scS (by kernel_rfl)
theorem bi_Poly_divided {K : PySem.W.Frag} {f : Addr} {fd : FuncData} (D : DefAt K d_Poly_divided f fd) : L2.Binds K fd ["self", "other"] [] := D.bindsN fun _ _ _ _ _ _ us hl => match us, hl with | [_, _], _ => by kernel_rfl
abbrev N_Poly_degree : List Str := ["self"]
theorem sc_Poly_degree : FnScope N_Poly_degree ["self"] d_Poly_degree.scope := scS (by kernel_rfl)
theorem bi_Poly_degree {K : PySem.W.Frag} {f : Addr} {fd : FuncData} (D : DefAt K d_Poly_degree f fd) : L2.Binds K fd ["self"] [] := D.bindsN fun _ _ _ _ _ _ us hl => match us, hl with | [_], _ => by kernel_rfl
abbrev N_Poly_is_zero : List Str := ["self"]
theorem sc_Poly_is_zero : FnScope N_Poly_is_zero ["self"] d_Poly_is_zero.scope := scS (by kernel_rfl)
theorem bi_Poly_is_zero {K : PySem.W.Frag} {f : Addr} {fd : FuncData} (D : DefAt K d_Poly_is_zero f fd) : L2.Binds K fd ["self"] [] := D.bindsN fun _ _ _ _ _ _ us hl => match us, hl with | [_], _ => by kernel_rfl
abbrev N_Poly_last : List Str := ["self"]
theorem sc_Poly_last : FnScope N_Poly_last ["self"] d_Poly_last.scope := scS (by kernel_rfl)
theorem bi_Poly_last {K : PySem.W.Frag} {f : Addr} {fd : FuncData} (D : DefAt K d_Poly_last f fd) : L2.Binds K fd ["self"] [] := D.bindsN fun _ _ _ _ _ _ us hl => match us, hl with | [_], _ => by kernel_rfl
abbrev N_Poly_coefficient : List Str := ["self", "k"]
theorem sc_Poly_coefficient : FnScope N_Poly_coefficient ["self", "k"] d_Poly_coefficient.scope := scS (by kernel_rfl)
theorem bi_Poly_coefficient {K : PySem.W.Frag} {f : Addr} {fd : FuncData} (D : DefAt K d_Poly_coefficient f fd) : L2.Binds K fd ["self", "k"] [] := D.bindsN fun _ _ _ _ _ _ us hl => match us, hl with | [_, _], _ => by kernel_rfl
abbrev N_Poly_scaled : List Str := ["self", "r", "c"]
theorem sc_Poly_scaled : FnScope N_Poly_scaled ["self", "r"] d_Poly_scaled.scope := scS (by kernel_rfl)
theorem bi_Poly_scaled {K : PySem.W.Frag} {f : Addr} {fd : FuncData} (D : DefAt K d_Poly_scaled f fd) : L2.Binds K fd ["self", "r"] [] := D.bindsN fun _ _ _ _ _ _ us hl => match us, hl with | [_, _], _ => by kernel_rfl
abbrev N_Poly_power : List Str := ["self", "k", "out", "_"]
theorem sc_Poly_power : FnScope N_Poly_power ["self", "k"] d_Poly_power.scope := scS (by kernel_rfl)
theorem bi_Poly_power {K : PySem.W.Frag} {f : Addr} {fd : FuncData} (D : DefAt K d_Poly_power f fd) : L2.Binds K fd ["self", "k"] [] := D.bindsN fun _ _ _ _ _ _ us hl => match us, hl with | [_, _], _ => by kernel_rfl
abbrev N_Poly_monic : List Str := ["self"]
theorem sc_Poly_monic : FnScope N_Poly_monic ["self"] d_Poly_monic.scope := scS (by kernel_rfl)
theorem bi_Poly_monic {K : PySem.W.Frag} {f : Addr} {fd : FuncData} (D : DefAt K d_Poly_monic f fd) : L2.Binds K fd ["self"] [] := D.bindsN fun _ _ _ _ _ _ us hl => match us, hl with | [_], _ => by kernel_rfl
abbrev N_Poly_shifted : List Str := ["self", "a", "out", "step", "c"]
theorem sc_Poly_shifted : FnScope N_Poly_shifted ["self", "a"] d_Poly_shifted.scope := scS (by kernel_rfl)
theorem bi_Poly_shifted {K : PySem.W.Frag} {f : Addr} {fd : FuncData} (D : DefAt K d_Poly_shifted f fd) : L2.Binds K fd ["self", "a"] [] := D.bindsN fun _ _ _ _ _ _ us hl => match us, hl with | [_, _], _ => by kernel_rfl
abbrev N_Poly_primitive : List Str := ["self", "scale", "common", "c", "numbers"]
theorem sc_Poly_primitive : FnScope N_Poly_primitive ["self"] d_Poly_primitive.scope := scS (by kernel_rfl)
theorem bi_Poly_primitive {K : PySem.W.Frag} {f : Addr} {fd : FuncData} (D : DefAt K d_Poly_primitive f fd) : L2.Binds K fd ["self"] [] := D.bindsN fun _ _ _ _ _ _ us hl => match us, hl with | [_], _ => by kernel_rfl
abbrev N_constant : List Str := ["r"]
theorem sc_constant : FnScope N_constant ["r"] d_constant.scope := scS (by kernel_rfl)
theorem bi_constant {K : PySem.W.Frag} {f : Addr} {fd : FuncData} (D : DefAt K d_constant f fd) : L2.Binds K fd ["r"] [] := D.bindsN fun _ _ _ _ _ _ us hl => match us, hl with | [_], _ => by kernel_rfl
abbrev N_primitive_row : List Str := ["row", "size", "common", "n"]
theorem sc_primitive_row : FnScope N_primitive_row ["row"] d_primitive_row.scope := scS (by kernel_rfl)
theorem bi_primitive_row {K : PySem.W.Frag} {f : Addr} {fd : FuncData} (D : DefAt K d_primitive_row f fd) : L2.Binds K fd ["row"] [] := D.bindsN fun _ _ _ _ _ _ us hl => match us, hl with | [_], _ => by kernel_rfl
abbrev N_integer_rest : List Str := ["first", "second", "rest", "head", "common", "times", "factor", "shift", "at", "n"]
theorem sc_integer_rest : FnScope N_integer_rest ["first", "second"] d_integer_rest.scope := scS (by kernel_rfl)
theorem bi_integer_rest {K : PySem.W.Frag} {f : Addr} {fd : FuncData} (D : DefAt K d_integer_rest f fd) : L2.Binds K fd ["first", "second"] [] := D.bindsN fun _ _ _ _ _ _ us hl => match us, hl with | [_, _], _ => by kernel_rfl
abbrev N_common_divisor : List Str := ["p", "q", "first", "second", "head", "n"]
theorem sc_common_divisor : FnScope N_common_divisor ["p", "q"] d_common_divisor.scope := scS (by kernel_rfl)
theorem bi_common_divisor {K : PySem.W.Frag} {f : Addr} {fd : FuncData} (D : DefAt K d_common_divisor f fd) : L2.Binds K fd ["p", "q"] [] := D.bindsN fun _ _ _ _ _ _ us hl => match us, hl with | [_, _], _ => by kernel_rfl
abbrev N_RatFun_init : List Str := ["self", "num", "den", "common", "low", "scale"]
theorem sc_RatFun_init : FnScope N_RatFun_init ["self", "num", "den"] d_RatFun_init.scope := scS (by kernel_rfl)
theorem bi_RatFun_init {K : PySem.W.Frag} {f : Addr} {fd : FuncData} (D : DefAt K d_RatFun_init f fd) : L2.Binds K fd ["self", "num", "den"] [] := D.bindsN fun _ _ _ _ _ _ us hl => match us, hl with | [_, _, _], _ => by kernel_rfl
abbrev N_RatFun_eq : List Str := ["self", "other"]
theorem sc_RatFun_eq : FnScope N_RatFun_eq ["self", "other"] d_RatFun_eq.scope := scS (by kernel_rfl)
theorem bi_RatFun_eq {K : PySem.W.Frag} {f : Addr} {fd : FuncData} (D : DefAt K d_RatFun_eq f fd) : L2.Binds K fd ["self", "other"] [] := D.bindsN fun _ _ _ _ _ _ us hl => match us, hl with | [_, _], _ => by kernel_rfl
abbrev N_RatFun_add : List Str := ["self", "other"]
theorem sc_RatFun_add : FnScope N_RatFun_add ["self", "other"] d_RatFun_add.scope := scS (by kernel_rfl)
theorem bi_RatFun_add {K : PySem.W.Frag} {f : Addr} {fd : FuncData} (D : DefAt K d_RatFun_add f fd) : L2.Binds K fd ["self", "other"] [] := D.bindsN fun _ _ _ _ _ _ us hl => match us, hl with | [_, _], _ => by kernel_rfl
abbrev N_RatFun_sub : List Str := ["self", "other"]
theorem sc_RatFun_sub : FnScope N_RatFun_sub ["self", "other"] d_RatFun_sub.scope := scS (by kernel_rfl)
theorem bi_RatFun_sub {K : PySem.W.Frag} {f : Addr} {fd : FuncData} (D : DefAt K d_RatFun_sub f fd) : L2.Binds K fd ["self", "other"] [] := D.bindsN fun _ _ _ _ _ _ us hl => match us, hl with | [_, _], _ => by kernel_rfl
abbrev N_RatFun_mul : List Str := ["self", "other"]
theorem sc_RatFun_mul : FnScope N_RatFun_mul ["self", "other"] d_RatFun_mul.scope := scS (by kernel_rfl)
theorem bi_RatFun_mul {K : PySem.W.Frag} {f : Addr} {fd : FuncData} (D : DefAt K d_RatFun_mul f fd) : L2.Binds K fd ["self", "other"] [] := D.bindsN fun _ _ _ _ _ _ us hl => match us, hl with | [_, _], _ => by kernel_rfl
abbrev N_RatFun_neg : List Str := ["self"]
theorem sc_RatFun_neg : FnScope N_RatFun_neg ["self"] d_RatFun_neg.scope := scS (by kernel_rfl)
theorem bi_RatFun_neg {K : PySem.W.Frag} {f : Addr} {fd : FuncData} (D : DefAt K d_RatFun_neg f fd) : L2.Binds K fd ["self"] [] := D.bindsN fun _ _ _ _ _ _ us hl => match us, hl with | [_], _ => by kernel_rfl
abbrev N_RatFun_floordiv : List Str := ["self", "other"]
theorem sc_RatFun_floordiv : FnScope N_RatFun_floordiv ["self", "other"] d_RatFun_floordiv.scope := scS (by kernel_rfl)
theorem bi_RatFun_floordiv {K : PySem.W.Frag} {f : Addr} {fd : FuncData} (D : DefAt K d_RatFun_floordiv f fd) : L2.Binds K fd ["self", "other"] [] := D.bindsN fun _ _ _ _ _ _ us hl => match us, hl with | [_, _], _ => by kernel_rfl
abbrev N_RatFun_call : List Str := ["self", "q", "below"]
theorem sc_RatFun_call : FnScope N_RatFun_call ["self", "q"] d_RatFun_call.scope := scS (by kernel_rfl)
theorem bi_RatFun_call {K : PySem.W.Frag} {f : Addr} {fd : FuncData} (D : DefAt K d_RatFun_call f fd) : L2.Binds K fd ["self", "q"] [] := D.bindsN fun _ _ _ _ _ _ us hl => match us, hl with | [_, _], _ => by kernel_rfl
abbrev N_RatFun_is_zero : List Str := ["self"]
theorem sc_RatFun_is_zero : FnScope N_RatFun_is_zero ["self"] d_RatFun_is_zero.scope := scS (by kernel_rfl)
theorem bi_RatFun_is_zero {K : PySem.W.Frag} {f : Addr} {fd : FuncData} (D : DefAt K d_RatFun_is_zero f fd) : L2.Binds K fd ["self"] [] := D.bindsN fun _ _ _ _ _ _ us hl => match us, hl with | [_], _ => by kernel_rfl
abbrev N_RatFun_inverse : List Str := ["self"]
theorem sc_RatFun_inverse : FnScope N_RatFun_inverse ["self"] d_RatFun_inverse.scope := scS (by kernel_rfl)
theorem bi_RatFun_inverse {K : PySem.W.Frag} {f : Addr} {fd : FuncData} (D : DefAt K d_RatFun_inverse f fd) : L2.Binds K fd ["self"] [] := D.bindsN fun _ _ _ _ _ _ us hl => match us, hl with | [_], _ => by kernel_rfl
abbrev N_RatFun_power : List Str := ["self", "k"]
theorem sc_RatFun_power : FnScope N_RatFun_power ["self", "k"] d_RatFun_power.scope := scS (by kernel_rfl)
theorem bi_RatFun_power {K : PySem.W.Frag} {f : Addr} {fd : FuncData} (D : DefAt K d_RatFun_power f fd) : L2.Binds K fd ["self", "k"] [] := D.bindsN fun _ _ _ _ _ _ us hl => match us, hl with | [_, _], _ => by kernel_rfl
abbrev N_RatFun_degree : List Str := ["self"]
theorem sc_RatFun_degree : FnScope N_RatFun_degree ["self"] d_RatFun_degree.scope := scS (by kernel_rfl)
theorem bi_RatFun_degree {K : PySem.W.Frag} {f : Addr} {fd : FuncData} (D : DefAt K d_RatFun_degree f fd) : L2.Binds K fd ["self"] [] := D.bindsN fun _ _ _ _ _ _ us hl => match us, hl with | [_], _ => by kernel_rfl
abbrev N_RatFun_leading : List Str := ["self"]
theorem sc_RatFun_leading : FnScope N_RatFun_leading ["self"] d_RatFun_leading.scope := scS (by kernel_rfl)
theorem bi_RatFun_leading {K : PySem.W.Frag} {f : Addr} {fd : FuncData} (D : DefAt K d_RatFun_leading f fd) : L2.Binds K fd ["self"] [] := D.bindsN fun _ _ _ _ _ _ us hl => match us, hl with | [_], _ => by kernel_rfl
abbrev N_RatFun_shifted : List Str := ["self", "q"]
theorem sc_RatFun_shifted : FnScope N_RatFun_shifted ["self", "q"] d_RatFun_shifted.scope := scS (by kernel_rfl)
theorem bi_RatFun_shifted {K : PySem.W.Frag} {f : Addr} {fd : FuncData} (D : DefAt K d_RatFun_shifted f fd) : L2.Binds K fd ["self", "q"] [] := D.bindsN fun _ _ _ _ _ _ us hl => match us, hl with | [_, _], _ => by kernel_rfl
abbrev N_of_poly : List Str := ["p"]
theorem sc_of_poly : FnScope N_of_poly ["p"] d_of_poly.scope := scS (by kernel_rfl)
theorem bi_of_poly {K : PySem.W.Frag} {f : Addr} {fd : FuncData} (D : DefAt K d_of_poly f fd) : L2.Binds K fd ["p"] [] := D.bindsN fun _ _ _ _ _ _ us hl => match us, hl with | [_], _ => by kernel_rfl
abbrev N_of_ratio : List Str := ["q"]
theorem sc_of_ratio : FnScope N_of_ratio ["q"] d_of_ratio.scope := scS (by kernel_rfl)
theorem bi_of_ratio {K : PySem.W.Frag} {f : Addr} {fd : FuncData} (D : DefAt K d_of_ratio f fd) : L2.Binds K fd ["q"] [] := D.bindsN fun _ _ _ _ _ _ us hl => match us, hl with | [_], _ => by kernel_rfl
abbrev N_add_rows : List Str := ["first", "second", "found", "k"]
theorem sc_add_rows : FnScope N_add_rows ["first", "second"] d_add_rows.scope := scS (by kernel_rfl)
theorem bi_add_rows {K : PySem.W.Frag} {f : Addr} {fd : FuncData} (D : DefAt K d_add_rows f fd) : L2.Binds K fd ["first", "second"] [] := D.bindsN fun _ _ _ _ _ _ us hl => match us, hl with | [_, _], _ => by kernel_rfl
abbrev N_scale_row : List Str := ["f", "row", "c"]
theorem sc_scale_row : FnScope N_scale_row ["f", "row"] d_scale_row.scope := scS (by kernel_rfl)
theorem bi_scale_row {K : PySem.W.Frag} {f : Addr} {fd : FuncData} (D : DefAt K d_scale_row f fd) : L2.Binds K fd ["f", "row"] [] := D.bindsN fun _ _ _ _ _ _ us hl => match us, hl with | [_, _], _ => by kernel_rfl
abbrev N_moved_row : List Str := ["row", "c"]
theorem sc_moved_row : FnScope N_moved_row ["row"] d_moved_row.scope := scS (by kernel_rfl)
theorem bi_moved_row {K : PySem.W.Frag} {f : Addr} {fd : FuncData} (D : DefAt K d_moved_row f fd) : L2.Binds K fd ["row"] [] := D.bindsN fun _ _ _ _ _ _ us hl => match us, hl with | [_], _ => by kernel_rfl
abbrev N_multiply_steps : List Str := ["first", "second", "total", "power", "c"]
theorem sc_multiply_steps : FnScope N_multiply_steps ["first", "second"] d_multiply_steps.scope := scS (by kernel_rfl)
theorem bi_multiply_steps {K : PySem.W.Frag} {f : Addr} {fd : FuncData} (D : DefAt K d_multiply_steps f fd) : L2.Binds K fd ["first", "second"] [] := D.bindsN fun _ _ _ _ _ _ us hl => match us, hl with | [_, _], _ => by kernel_rfl
abbrev N_Steps_init : List Str := ["self", "coefficients", "size"]
theorem sc_Steps_init : FnScope N_Steps_init ["self", "coefficients"] d_Steps_init.scope := scS (by kernel_rfl)
theorem bi_Steps_init {K : PySem.W.Frag} {f : Addr} {fd : FuncData} (D : DefAt K d_Steps_init f fd) : L2.Binds K fd ["self", "coefficients"] [] := D.bindsN fun _ _ _ _ _ _ us hl => match us, hl with | [_, _], _ => by kernel_rfl
abbrev N_Steps_eq : List Str := ["self", "other"]
theorem sc_Steps_eq : FnScope N_Steps_eq ["self", "other"] d_Steps_eq.scope := scS (by kernel_rfl)
theorem bi_Steps_eq {K : PySem.W.Frag} {f : Addr} {fd : FuncData} (D : DefAt K d_Steps_eq f fd) : L2.Binds K fd ["self", "other"] [] := D.bindsN fun _ _ _ _ _ _ us hl => match us, hl with | [_, _], _ => by kernel_rfl
abbrev N_Steps_len : List Str := ["self"]
theorem sc_Steps_len : FnScope N_Steps_len ["self"] d_Steps_len.scope := scS (by kernel_rfl)
theorem bi_Steps_len {K : PySem.W.Frag} {f : Addr} {fd : FuncData} (D : DefAt K d_Steps_len f fd) : L2.Binds K fd ["self"] [] := D.bindsN fun _ _ _ _ _ _ us hl => match us, hl with | [_], _ => by kernel_rfl
abbrev N_Steps_iter : List Str := ["self"]
theorem sc_Steps_iter : FnScope N_Steps_iter ["self"] d_Steps_iter.scope := scS (by kernel_rfl)
theorem bi_Steps_iter {K : PySem.W.Frag} {f : Addr} {fd : FuncData} (D : DefAt K d_Steps_iter f fd) : L2.Binds K fd ["self"] [] := D.bindsN fun _ _ _ _ _ _ us hl => match us, hl with | [_], _ => by kernel_rfl
abbrev N_Steps_getitem : List Str := ["self", "at"]
theorem sc_Steps_getitem : FnScope N_Steps_getitem ["self", "at"] d_Steps_getitem.scope := scS (by kernel_rfl)
theorem bi_Steps_getitem {K : PySem.W.Frag} {f : Addr} {fd : FuncData} (D : DefAt K d_Steps_getitem f fd) : L2.Binds K fd ["self", "at"] [] := D.bindsN fun _ _ _ _ _ _ us hl => match us, hl with | [_, _], _ => by kernel_rfl
abbrev N_Steps_add : List Str := ["self", "other"]
theorem sc_Steps_add : FnScope N_Steps_add ["self", "other"] d_Steps_add.scope := scS (by kernel_rfl)
theorem bi_Steps_add {K : PySem.W.Frag} {f : Addr} {fd : FuncData} (D : DefAt K d_Steps_add f fd) : L2.Binds K fd ["self", "other"] [] := D.bindsN fun _ _ _ _ _ _ us hl => match us, hl with | [_, _], _ => by kernel_rfl
abbrev N_Steps_neg : List Str := ["self", "c"]
theorem sc_Steps_neg : FnScope N_Steps_neg ["self"] d_Steps_neg.scope := scS (by kernel_rfl)
theorem bi_Steps_neg {K : PySem.W.Frag} {f : Addr} {fd : FuncData} (D : DefAt K d_Steps_neg f fd) : L2.Binds K fd ["self"] [] := D.bindsN fun _ _ _ _ _ _ us hl => match us, hl with | [_], _ => by kernel_rfl
abbrev N_Steps_sub : List Str := ["self", "other", "c"]
theorem sc_Steps_sub : FnScope N_Steps_sub ["self", "other"] d_Steps_sub.scope := scS (by kernel_rfl)
theorem bi_Steps_sub {K : PySem.W.Frag} {f : Addr} {fd : FuncData} (D : DefAt K d_Steps_sub f fd) : L2.Binds K fd ["self", "other"] [] := D.bindsN fun _ _ _ _ _ _ us hl => match us, hl with | [_, _], _ => by kernel_rfl
abbrev N_Steps_mul : List Str := ["self", "other"]
theorem sc_Steps_mul : FnScope N_Steps_mul ["self", "other"] d_Steps_mul.scope := scS (by kernel_rfl)
theorem bi_Steps_mul {K : PySem.W.Frag} {f : Addr} {fd : FuncData} (D : DefAt K d_Steps_mul f fd) : L2.Binds K fd ["self", "other"] [] := D.bindsN fun _ _ _ _ _ _ us hl => match us, hl with | [_, _], _ => by kernel_rfl
abbrev N_Steps_call : List Str := ["self", "y", "total", "c"]
theorem sc_Steps_call : FnScope N_Steps_call ["self", "y"] d_Steps_call.scope := scS (by kernel_rfl)
theorem bi_Steps_call {K : PySem.W.Frag} {f : Addr} {fd : FuncData} (D : DefAt K d_Steps_call f fd) : L2.Binds K fd ["self", "y"] [] := D.bindsN fun _ _ _ _ _ _ us hl => match us, hl with | [_, _], _ => by kernel_rfl
abbrev N_Steps_order : List Str := ["self"]
theorem sc_Steps_order : FnScope N_Steps_order ["self"] d_Steps_order.scope := scS (by kernel_rfl)
theorem bi_Steps_order {K : PySem.W.Frag} {f : Addr} {fd : FuncData} (D : DefAt K d_Steps_order f fd) : L2.Binds K fd ["self"] [] := D.bindsN fun _ _ _ _ _ _ us hl => match us, hl with | [_], _ => by kernel_rfl
abbrev N_Steps_least : List Str := ["self", "k", "c"]
theorem sc_Steps_least : FnScope N_Steps_least ["self"] d_Steps_least.scope := scS (by kernel_rfl)
theorem bi_Steps_least {K : PySem.W.Frag} {f : Addr} {fd : FuncData} (D : DefAt K d_Steps_least f fd) : L2.Binds K fd ["self"] [] := D.bindsN fun _ _ _ _ _ _ us hl => match us, hl with | [_], _ => by kernel_rfl
abbrev N_Steps_is_zero : List Str := ["self"]
theorem sc_Steps_is_zero : FnScope N_Steps_is_zero ["self"] d_Steps_is_zero.scope := scS (by kernel_rfl)
theorem bi_Steps_is_zero {K : PySem.W.Frag} {f : Addr} {fd : FuncData} (D : DefAt K d_Steps_is_zero f fd) : L2.Binds K fd ["self"] [] := D.bindsN fun _ _ _ _ _ _ us hl => match us, hl with | [_], _ => by kernel_rfl
abbrev N_Steps_leading : List Str := ["self"]
theorem sc_Steps_leading : FnScope N_Steps_leading ["self"] d_Steps_leading.scope := scS (by kernel_rfl)
theorem bi_Steps_leading {K : PySem.W.Frag} {f : Addr} {fd : FuncData} (D : DefAt K d_Steps_leading f fd) : L2.Binds K fd ["self"] [] := D.bindsN fun _ _ _ _ _ _ us hl => match us, hl with | [_], _ => by kernel_rfl
abbrev N_Steps_scaled : List Str := ["self", "f"]
theorem sc_Steps_scaled : FnScope N_Steps_scaled ["self", "f"] d_Steps_scaled.scope := scS (by kernel_rfl)
theorem bi_Steps_scaled {K : PySem.W.Frag} {f : Addr} {fd : FuncData} (D : DefAt K d_Steps_scaled f fd) : L2.Binds K fd ["self", "f"] [] := D.bindsN fun _ _ _ _ _ _ us hl => match us, hl with | [_, _], _ => by kernel_rfl
abbrev N_Steps_monic : List Str := ["self"]
theorem sc_Steps_monic : FnScope N_Steps_monic ["self"] d_Steps_monic.scope := scS (by kernel_rfl)
theorem bi_Steps_monic {K : PySem.W.Frag} {f : Addr} {fd : FuncData} (D : DefAt K d_Steps_monic f fd) : L2.Binds K fd ["self"] [] := D.bindsN fun _ _ _ _ _ _ us hl => match us, hl with | [_], _ => by kernel_rfl
abbrev N_Steps_divide : List Str := ["self", "m", "q", "r", "gap", "term"]
theorem sc_Steps_divide : FnScope N_Steps_divide ["self", "m"] d_Steps_divide.scope := scS (by kernel_rfl)
theorem bi_Steps_divide {K : PySem.W.Frag} {f : Addr} {fd : FuncData} (D : DefAt K d_Steps_divide f fd) : L2.Binds K fd ["self", "m"] [] := D.bindsN fun _ _ _ _ _ _ us hl => match us, hl with | [_, _], _ => by kernel_rfl
abbrev N_step_monomial : List Str := ["f", "k", "_"]
theorem sc_step_monomial : FnScope N_step_monomial ["f", "k"] d_step_monomial.scope := scS (by kernel_rfl)
theorem bi_step_monomial {K : PySem.W.Frag} {f : Addr} {fd : FuncData} (D : DefAt K d_step_monomial f fd) : L2.Binds K fd ["f", "k"] [] := D.bindsN fun _ _ _ _ _ _ us hl => match us, hl with | [_, _], _ => by kernel_rfl
abbrev N_ratio_operator : List Str := ["f"]
theorem sc_ratio_operator : FnScope N_ratio_operator ["f"] d_ratio_operator.scope := scS (by kernel_rfl)
theorem bi_ratio_operator {K : PySem.W.Frag} {f : Addr} {fd : FuncData} (D : DefAt K d_ratio_operator f fd) : L2.Binds K fd ["f"] [] := D.bindsN fun _ _ _ _ _ _ us hl => match us, hl with | [_], _ => by kernel_rfl
abbrev N_step_annihilator : List Str := ["y"]
theorem sc_step_annihilator : FnScope N_step_annihilator ["y"] d_step_annihilator.scope := scS (by kernel_rfl)
theorem bi_step_annihilator {K : PySem.W.Frag} {f : Addr} {fd : FuncData} (D : DefAt K d_step_annihilator f fd) : L2.Binds K fd ["y"] [] := D.bindsN fun _ _ _ _ _ _ us hl => match us, hl with | [_], _ => by kernel_rfl
abbrev N_step_euclid : List Str := ["a", "b", "u", "v", "s", "t", "q", "r"]
theorem sc_step_euclid : FnScope N_step_euclid ["a", "b"] d_step_euclid.scope := scS (by kernel_rfl)
theorem bi_step_euclid {K : PySem.W.Frag} {f : Addr} {fd : FuncData} (D : DefAt K d_step_euclid f fd) : L2.Binds K fd ["a", "b"] [] := D.bindsN fun _ _ _ _ _ _ us hl => match us, hl with | [_, _], _ => by kernel_rfl
abbrev N_step_divisor : List Str := ["a", "b", "g", "u", "v", "_", "scale"]
theorem sc_step_divisor : FnScope N_step_divisor ["a", "b"] d_step_divisor.scope := scS (by kernel_rfl)
theorem bi_step_divisor {K : PySem.W.Frag} {f : Addr} {fd : FuncData} (D : DefAt K d_step_divisor f fd) : L2.Binds K fd ["a", "b"] [] := D.bindsN fun _ _ _ _ _ _ us hl => match us, hl with | [_, _], _ => by kernel_rfl
abbrev N_step_multiple : List Str := ["a", "b", "_", "s", "t", "m", "scale"]
theorem sc_step_multiple : FnScope N_step_multiple ["a", "b"] d_step_multiple.scope := scS (by kernel_rfl)
theorem bi_step_multiple {K : PySem.W.Frag} {f : Addr} {fd : FuncData} (D : DefAt K d_step_multiple f fd) : L2.Binds K fd ["a", "b"] [] := D.bindsN fun _ _ _ _ _ _ us hl => match us, hl with | [_, _], _ => by kernel_rfl
abbrev N_step_quotient : List Str := ["a", "m", "q", "r"]
theorem sc_step_quotient : FnScope N_step_quotient ["a", "m"] d_step_quotient.scope := scS (by kernel_rfl)
theorem bi_step_quotient {K : PySem.W.Frag} {f : Addr} {fd : FuncData} (D : DefAt K d_step_quotient f fd) : L2.Binds K fd ["a", "m"] [] := D.bindsN fun _ _ _ _ _ _ us hl => match us, hl with | [_, _], _ => by kernel_rfl
abbrev N_check_steps : List Str := ["operators", "a"]
theorem sc_check_steps : FnScope N_check_steps ["operators"] d_check_steps.scope := scS (by kernel_rfl)
abbrev N_steps_of_sum : List Str := ["a", "b"]
theorem sc_steps_of_sum : FnScope N_steps_of_sum ["a", "b"] d_steps_of_sum.scope := scS (by kernel_rfl)
theorem bi_steps_of_sum {K : PySem.W.Frag} {f : Addr} {fd : FuncData} (D : DefAt K d_steps_of_sum f fd) : L2.Binds K fd ["a", "b"] [] := D.bindsN fun _ _ _ _ _ _ us hl => match us, hl with | [_, _], _ => by kernel_rfl
abbrev N_law_state : List Str := ["script", "seed", "total", "cell"]
theorem sc_law_state : FnScope N_law_state ["script"] d_law_state.scope := scS (by kernel_rfl)
theorem bi_law_state {K : PySem.W.Frag} {f : Addr} {fd : FuncData} (D : DefAt K d_law_state f fd) : L2.Binds K fd ["script"] [] := D.bindsN fun _ _ _ _ _ _ us hl => match us, hl with | [_], _ => by kernel_rfl
abbrev N_law_take : List Str := ["state", "m", "value"]
theorem sc_law_take : FnScope N_law_take ["state", "m"] d_law_take.scope := scS (by kernel_rfl)
theorem bi_law_take {K : PySem.W.Frag} {f : Addr} {fd : FuncData} (D : DefAt K d_law_take f fd) : L2.Binds K fd ["state", "m"] [] := D.bindsN fun _ _ _ _ _ _ us hl => match us, hl with | [_, _], _ => by kernel_rfl
abbrev N_law_q : List Str := ["state"]
theorem sc_law_q : FnScope N_law_q ["state"] d_law_q.scope := scS (by kernel_rfl)
theorem bi_law_q {K : PySem.W.Frag} {f : Addr} {fd : FuncData} (D : DefAt K d_law_q f fd) : L2.Binds K fd ["state"] [] := D.bindsN fun _ _ _ _ _ _ us hl => match us, hl with | [_], _ => by kernel_rfl
abbrev N_law_pol : List Str := ["state", "size", "turn"]
theorem sc_law_pol : FnScope N_law_pol ["state", "size"] d_law_pol.scope := scS (by kernel_rfl)
theorem bi_law_pol {K : PySem.W.Frag} {f : Addr} {fd : FuncData} (D : DefAt K d_law_pol f fd) : L2.Binds K fd ["state", "size"] [] := D.bindsN fun _ _ _ _ _ _ us hl => match us, hl with | [_, _], _ => by kernel_rfl
abbrev N_law_pol_other : List Str := ["state", "size", "found"]
theorem sc_law_pol_other : FnScope N_law_pol_other ["state", "size"] d_law_pol_other.scope := scS (by kernel_rfl)
theorem bi_law_pol_other {K : PySem.W.Frag} {f : Addr} {fd : FuncData} (D : DefAt K d_law_pol_other f fd) : L2.Binds K fd ["state", "size"] [] := D.bindsN fun _ _ _ _ _ _ us hl => match us, hl with | [_, _], _ => by kernel_rfl
abbrev N_law_line : List Str := ["a"]
theorem sc_law_line : FnScope N_law_line ["a"] d_law_line.scope := scS (by kernel_rfl)
theorem bi_law_line {K : PySem.W.Frag} {f : Addr} {fd : FuncData} (D : DefAt K d_law_line f fd) : L2.Binds K fd ["a"] [] := D.bindsN fun _ _ _ _ _ _ us hl => match us, hl with | [_], _ => by kernel_rfl
abbrev N_law_fun : List Str := ["state", "den"]
theorem sc_law_fun : FnScope N_law_fun ["state"] d_law_fun.scope := scS (by kernel_rfl)
theorem bi_law_fun {K : PySem.W.Frag} {f : Addr} {fd : FuncData} (D : DefAt K d_law_fun f fd) : L2.Binds K fd ["state"] [] := D.bindsN fun _ _ _ _ _ _ us hl => match us, hl with | [_], _ => by kernel_rfl
abbrev N_law_fun_other : List Str := ["state", "found"]
theorem sc_law_fun_other : FnScope N_law_fun_other ["state"] d_law_fun_other.scope := scS (by kernel_rfl)
theorem bi_law_fun_other {K : PySem.W.Frag} {f : Addr} {fd : FuncData} (D : DefAt K d_law_fun_other f fd) : L2.Binds K fd ["state"] [] := D.bindsN fun _ _ _ _ _ _ us hl => match us, hl with | [_], _ => by kernel_rfl
abbrev N_law_step_op : List Str := ["state", "order", "size", "rows", "turn", "p"]
theorem sc_law_step_op : FnScope N_law_step_op ["state", "order", "size"] d_law_step_op.scope := scS (by kernel_rfl)
theorem bi_law_step_op {K : PySem.W.Frag} {f : Addr} {fd : FuncData} (D : DefAt K d_law_step_op f fd) : L2.Binds K fd ["state", "order", "size"] [] := D.bindsN fun _ _ _ _ _ _ us hl => match us, hl with | [_, _, _], _ => by kernel_rfl
abbrev N_law_divides : List Str := ["m", "a"]
theorem sc_law_divides : FnScope N_law_divides ["m", "a"] d_law_divides.scope := scS (by kernel_rfl)
theorem bi_law_divides {K : PySem.W.Frag} {f : Addr} {fd : FuncData} (D : DefAt K d_law_divides f fd) : L2.Binds K fd ["m", "a"] [] := D.bindsN fun _ _ _ _ _ _ us hl => match us, hl with | [_, _], _ => by kernel_rfl
abbrev N_law_pair_right : List Str := ["a", "b", "factor", "g", "u", "v", "m", "s", "t", "one_v", "two", "q"]
theorem sc_law_pair_right : FnScope N_law_pair_right ["a", "b", "factor"] d_law_pair_right.scope := scS (by kernel_rfl)
theorem bi_law_pair_right {K : PySem.W.Frag} {f : Addr} {fd : FuncData} (D : DefAt K d_law_pair_right f fd) : L2.Binds K fd ["a", "b", "factor"] [] := D.bindsN fun _ _ _ _ _ _ us hl => match us, hl with | [_, _, _], _ => by kernel_rfl
abbrev N_law_zero_divisor : List Str := ["act", "one_v", "two"]
theorem sc_law_zero_divisor : FnScope N_law_zero_divisor ["act", "one_v", "two"] d_law_zero_divisor.scope := scS (by kernel_rfl)
theorem bi_law_zero_divisor {K : PySem.W.Frag} {f : Addr} {fd : FuncData} (D : DefAt K d_law_zero_divisor f fd) : L2.Binds K fd ["act", "one_v", "two"] [] := D.bindsN fun _ _ _ _ _ _ us hl => match us, hl with | [_, _, _], _ => by kernel_rfl
abbrev N_law : List Str := ["script", "state", "unit", "factor", "first", "second", "none", "y", "one_v", "two", "both"]
theorem sc_law : FnScope N_law ["script"] d_law.scope := scS (by kernel_rfl)
theorem bi_law {K : PySem.W.Frag} {f : Addr} {fd : FuncData} (D : DefAt K d_law f fd) : L2.Binds K fd ["script"] [] := D.bindsN fun _ _ _ _ _ _ us hl => match us, hl with | [_], _ => by kernel_rfl
end SLT
set_option exponentiation.threshold 256
set_option maxRecDepth 100000
set_option maxHeartbeats 1000000
namespace SLT
open PySem PySem.Spec PyProof.Rows L2 SL
abbrev cRatio (K : PySem.W.Frag) : Addr := He.ga K "Ratio"
def insQ (q : Rat) : List (Str × V) := [("n", .int q.num), ("d", .int q.den)]
def tQ (K : PySem.W.Frag) (q : Rat) : Ty := ⟨fun v H => ∃ a dx, v = .ref a ∧ H a = some (.ins (cRatio K) dx (insQ q)), fun e ⟨a, dx, h1, h2⟩ => ⟨a, dx, h1, e _ _ h2⟩⟩
theorem sol_Q {K : PySem.W.Frag} {q : Rat} : Sol (tQ K q) := fun m v H H' e ⟨a, dx, h1, h2⟩ => ⟨a, dx, h1, by rcases e _ _ h2 with x | ⟨_, _, _, x, _⟩; exact x; cases x⟩
section
variable {X : Cx} {Γ : Cxt} {e : Expr} {pos : Pos} {mg : Str → Option Value} {q : Rat}
theorem isQ {K : PySem.W.Frag} : IsIns (cRatio K) (tQ K q) := fun v H ⟨a, dx, h1, h2⟩ => ⟨a, dx, _, h1, h2⟩
theorem noQ {K : PySem.W.Frag} {m : Str} (h : (m == ("n" : Str)) = false) (h2 : (m == ("d" : Str)) = false) : InsNo (cRatio K) m (tQ K q) := fun v H ⟨a, dx, h1, h3⟩ => ⟨a, dx, _, h1, h3, by simp [insQ, List.lookup, h, h2]⟩
theorem et_n (F : Facts X.K mg) (he : ET X Γ e (tQ X.K q)) (hb : attributeBase e "n" X.env (eval e X.env) = eval e X.env := by rfl) : ET X Γ (.Attribute e "n" pos) (tI q.num) :=
  et_fld hb he fun v H ⟨a, dx, h1, h2⟩ => ⟨a, _, dx, _, _, h1, h2, F.cl_Ratio, F.na_Ratio_n, rfl, rfl⟩
theorem et_d (F : Facts X.K mg) (he : ET X Γ e (tQ X.K q)) (hb : attributeBase e "d" X.env (eval e X.env) = eval e X.env := by rfl) : ET X Γ (.Attribute e "d" pos) (tI q.den) :=
  et_fld hb he fun v H ⟨a, dx, h1, h2⟩ => ⟨a, _, dx, _, _, h1, h2, F.cl_Ratio, F.na_Ratio_d, rfl, rfl⟩
/-- isinstance(e, C) of an instance of the class D -/
theorem r_isi {K : PySem.W.Frag} {R : Ty} {C D : Addr} {b : Bool} (hR : IsIns D R) (cl : Cls K D) (ca : ClA K D) (h : PySem.W.kitOne K (.ref D) (.ref C) = some b) : RnT (rIsi K) [R, tV (.ref C)] (tB b) := fun xs H Q h2 k => by
  match xs, h2 with
  | [v, c], ⟨h1, h2, _⟩ =>
    obtain ⟨a, dx, fs, rfl, hi⟩ := hR v H h1
    cases (show c = .ref C from h2)
    exact ⟨_, _, _, _, _, rfl, .own C, .base (.ins hi cl ca.ca ca.cn ca.ct ca.cm), h, k _ H (Same.refl H) rfl⟩
end
theorem et_bty {X : Cx} {Γ : Cxt} {pos : Pos} {x : Str} {T : String} (hg : Gl X x) (hm : X.mg x = none) (hv : bootBuiltins x = some (.type T)) (hn : x ≠ "__name__") (hd : (x == ("__debug__" : Str)) = false) : ET X Γ (.Name x pos) (tV (.ty T)) := fun σ H _ => wE_of (pe_bltn (v := .ty T) hg hm hv rfl hn hd) ⟨Same.refl H, rfl⟩
theorem r_isiI {K : PySem.W.Frag} {n : Int} : RnT (rIsi K) [tI n, tV (.ty "int")] (tB true) := by
  intro xs H Q h k
  obtain ⟨v, c, e, h1, h2⟩ := tvs_two h
  cases (show v = .int n from h1)
  cases (show c = .ty "int" from h2)
  exact ⟨_, _, _, _, _, e, .ty "int", .base (.int n), kit_ty rfl, k _ H (Same.refl H) rfl⟩
theorem r_isiT {K : PySem.W.Frag} {R : Ty} {D : Addr} {T : String} {b : Bool} (hR : IsIns D R) (cl : Cls K D) (ca : ClA K D) (h : PySem.W.kitOne K (.ref D) (.type T) = some b) : RnT (rIsi K) [R, tV (.ty T)] (tB b) := by
  intro xs H Q h2 k
  obtain ⟨v, c, e, h1, h3⟩ := tvs_two h2
  obtain ⟨a, dx, fs, rfl, hi⟩ := hR v H h1
  cases (show c = .ty T from h3)
  exact ⟨_, _, _, _, _, e, .ty T, .base (.ins hi cl ca.ca ca.cn ca.ct ca.cm), h, k _ H (Same.refl H) rfl⟩
/-- no great numbers -/
def QB (q : Rat) : Prop := q.num.natAbs < 2 ^ 60000000 ∧ q.den < 2 ^ 60000000
theorem QB.m {a b : Int} (h : a.natAbs < 2 ^ 60000000) (h2 : b.natAbs < 2 ^ 60000000) : CMulB a b := CMulB.of h h2 (by decide) (by decide) (by decide)
def cg (n d : Int) : Int := if 0 < d then ((Nat.gcd n.natAbs d.natAbs : Nat) : Int) else -((Nat.gcd n.natAbs d.natAbs : Nat) : Int)
theorem gpos {n d : Int} (h : d ≠ 0) : 0 < Nat.gcd n.natAbs d.natAbs := Nat.gcd_pos_of_pos_right _ (by omega)
theorem cg_ne {n d : Int} (h : d ≠ 0) : cg n d ≠ 0 := by
  have := gpos (n := n) h
  unfold cg
  split <;> omega
theorem cg_n {n d : Int} (h : d ≠ 0) : n.fdiv (cg n d) = (Rat.divInt n d).num := by
  have g1 : ((Nat.gcd n.natAbs d.natAbs : Nat) : Int) ∣ n := Int.natAbs_dvd_natAbs.mp (by simpa using Nat.gcd_dvd_left _ _)
  rw [Rat.num_divInt, Int.gcd_comm]
  unfold cg
  by_cases hd : 0 < d
  · rw [if_pos hd, Int.sign_eq_one_of_pos hd, Int.one_mul, Int.fdiv_eq_ediv_of_dvd g1]; rfl
  · rw [if_neg hd, Int.sign_eq_neg_one_of_neg (by omega), Int.fdiv_eq_ediv_of_dvd (Int.neg_dvd.mpr g1), Int.ediv_neg]
    rw [show (-1 : Int) * n = -n by omega]; exact (Int.neg_ediv_of_dvd g1).symm
theorem cg_d {n d : Int} (h : d ≠ 0) : d.fdiv (cg n d) = (Rat.divInt n d).den := by
  have g1 : ((Nat.gcd n.natAbs d.natAbs : Nat) : Int) ∣ d := Int.natAbs_dvd_natAbs.mp (by simpa using Nat.gcd_dvd_right _ _)
  rw [Rat.den_divInt, if_neg h, Int.gcd_comm]
  unfold cg
  by_cases hd : 0 < d
  · rw [if_pos hd, Int.fdiv_eq_ediv_of_dvd g1, Int.natCast_ediv, Int.natAbs_of_nonneg (by omega)]; rfl
  · rw [if_neg hd, Int.fdiv_eq_ediv_of_dvd (Int.neg_dvd.mpr g1), Int.ediv_neg, Int.natCast_ediv, ← Int.neg_ediv_of_dvd g1, Int.ofNat_natAbs_of_nonpos (by omega)]; rfl
section
variable {P : Program} {w : World} {K : PySem.W.Frag} {mg : Str → Option Value} {base : Heap} {k : Nat}
abbrev fRatio (K : PySem.W.Frag) (m : Str) : Addr := He.fAd K ("Ratio", some m)
theorem w_init (B : Bs P K mg) (n d : Int) (hd : d ≠ 0) : ∃ fd, DefAt K d_Ratio_init (fRatio K "__init__") fd ∧ FnOk P w K mg base CX0 36 (fRatio K "__init__") fd ["self", "n", "d"] (spMk (cRatio K) [tI n, tI d] (tQ K (Rat.divInt n d))) := by
  obtain ⟨fd', D⟩ := B.F.d_Ratio_init
  refine ⟨fd', D, fn_init D sc_Ratio_init rfl fun cdv A outer s H q dq H0 E σ hr ok sm n1 n2 ne hq fin _ => ?_⟩
  refine wB_cons (wS_st (t := { nx := some (ini ["self", "n", "d", "common"] [tV (.ref q), tI n, tI d]) }) (st_ifF ?_ (bt_nil rfl (Sub.refl _))) ok ⟨?_, endR_none, endC_none, endC_none⟩)
  · have e : false = decide (d = 0) := by simp [hd]
    rw [e]
    exact tt_eq (vr 2 rfl rfl rfl rfl rfl) et_int rfl
  intro G eG σ1 H1 s1 ok1
  cases eG
  refine wB_cons (wS_st (t := { nx := some ((ini ["self", "n", "d", "common"] [tV (.ref q), tI n, tI d]).set 3 (some (tI (cg n d)))) }) (st_set (i := 3) (R := tI (cg n d)) sc_Ratio_init.nd rfl (.inl rfl) ?_ rfl (Sub.refl _) rfl (.inl rfl)) ok1 ⟨?_, endR_none, endC_none, endC_none⟩)
  · have hg : ∀ {pos p p1 p2}, ET (BodyCx P w K mg base ["self", "n", "d", "common"] d_Ratio_init.qual d_Ratio_init.scope (fRatio K "__init__") cdv A outer s H) (ini ["self", "n", "d", "common"] [tV (.ref q), tI n, tI d]) (.Call (.Name "gcd" p) [.Name "n" p1, .Name "d" p2] [] pos) (tI ((Nat.gcd n.natAbs d.natAbs : Nat) : Int)) :=
      et_callM cr_gcd rfl B.F.m_gcd (at_two (vr 1 rfl rfl rfl rfl rfl) (vr 2 rfl rfl rfl rfl rfl)) r_gcd rfl rfl rfl
    have ht : ∀ {pos p j p2}, TT_ (BodyCx P w K mg base ["self", "n", "d", "common"] d_Ratio_init.qual d_Ratio_init.scope (fRatio K "__init__") cdv A outer s H) (ini ["self", "n", "d", "common"] [tV (.ref q), tI n, tI d]) (.Compare (.Name "d" p) [.Gt] [.Constant (.int 0) j p2] pos) (decide (0 < d)) := tt_gt (vr 2 rfl rfl rfl rfl rfl) et_int rfl
    unfold cg
    by_cases h0 : 0 < d
    · rw [if_pos h0]
      rw [decide_eq_true h0] at ht
      exact et_ifT ht hg
    · rw [if_neg h0]
      rw [decide_eq_false h0] at ht
      exact et_ifF ht (et_neg hg)
  intro G eG σ2 H2 s2 ok2
  cases eG
  refine wB_store2 (U := tQ K (Rat.divInt n d)) (R1 := tI (n.fdiv (cg n d))) (R2 := tI (d.fdiv (cg n d))) ok2 (sm.trans (s1.nil.trans s2.nil)) n1 ((s1.nil.trans s2.nil) _ _ hq) B.F.cl_Ratio B.F.na_Ratio_n B.F.na_Ratio_d ?_ (fd B sc_Ratio_init (hr.mono (by omega)) (cg_ne hd) (vr 1 rfl rfl rfl rfl rfl) (vr 3 rfl rfl rfl rfl rfl)) (fd B sc_Ratio_init (hr.mono (by omega)) (cg_ne hd) (vr 2 rfl rfl rfl rfl rfl) (vr 3 rfl rfl rfl rfl rfl)) (vr 0 rfl rfl rfl rfl rfl) (vr 0 rfl rfl rfl rfl rfl) solC_I solC_I (by decide) rfl rfl ?_ fin
  · intro R hR
    simp [ini] at hR
    rcases hR with h | h | h | h <;> subst h <;> first | exact solC_I | exact solC_V
  · intro v1 v2 H' r1 r2 h
    cases r1; cases r2
    refine ⟨q, dq, rfl, ?_⟩
    rw [h, cg_n hd, cg_d hd]
    rfl
theorem mkQ2 (B : Bs P K mg) (n d : Int) (hd : d ≠ 0) : FnT P w K mg base 36 (fRatio K "__init__") (spMk (cRatio K) [tI n, tI d] (tQ K (Rat.divInt n d))) := by
  obtain ⟨fd', D, F⟩ := w_init (P := P) (w := w) (base := base) B n d hd
  obtain ⟨ds, vs, b⟩ := D.binds1 (ps := ["self", "n", "d"]) 3 1 (by intro z; cases z) rfl fun T kV doc pm an cdv ct us its h1 h2 => by
    match us, its, h1, h2 with
    | [_, _, _], [_], _, _ => exact ⟨_, rfl, rfl⟩
  cases vs
  exact ⟨fd', _, [], [], _, F, b, .nil, fun vs H Q E q => by rw [List.append_nil]; exact q⟩
theorem mkQ1 (B : Bs P K mg) (n : Int) : FnT P w K mg base 36 (fRatio K "__init__") (spMk (cRatio K) [tI n] (tQ K (n : Rat))) := by
  obtain ⟨fd', D, F⟩ := w_init (P := P) (w := w) (base := base) B n 1 (by decide)
  obtain ⟨ds, vs, b⟩ := D.binds1 (ps := ["self", "n", "d"]) 2 0 (by intro z; cases z) rfl fun T kV doc pm an cdv ct us its h1 h2 => by
    match us, its, h1, h2 with
    | [_, _], [_], _, _ => exact ⟨_, rfl, rfl⟩
  refine ⟨fd', _, ds, _, _, F, b, vs, fun vs H Q E ⟨x, dx, ws, H0, e, r, q⟩ => ?_⟩
  refine ⟨x, dx, ws ++ [.int 1], H0, by rw [e]; rfl, TVs.app (ws := [.int 1]) (Ss := [tI 1]) r ⟨(rfl : (tI 1).p (.int 1) H0), trivial⟩, ?_⟩
  have e1 : Rat.divInt n 1 = (n : Rat) := (Rat.mk_eq_divInt (num := n) (den := 1) (nz := by decide) (c := by simp)).symm
  rw [e1]
  exact q
theorem nz (q : Rat) : (q.den : Int) ≠ 0 := Int.natCast_ne_zero.mpr q.den_nz
theorem QB.d {q : Rat} (h : QB q) : (q.den : Int).natAbs < 2 ^ 60000000 := h.2
theorem w_Qadd (B : Bs P K mg) (p q : Rat) (h : QB p) (h2 : QB q) : FnT P w K mg base 38 (fRatio K "__add__") (spT [tQ K p, tQ K q] (tQ K (p + q))) := by
  obtain ⟨fd, D⟩ := B.F.d_Ratio_add
  refine fnT_of (fn_ret D sc_Ratio_add rfl fun cdv A outer s H hr => ?_) (bi_Ratio_add D)
  have e : Rat.divInt (p.num * q.den + q.num * p.den) (p.den * q.den) = p + q := by
    rw [← Rat.divInt_add_divInt _ _ (nz p) (nz q), Rat.num_divInt_den, Rat.num_divInt_den]
  rw [← e]
  exact bt_last (st_ret (et_make B.F.mk_Ratio (mkQ2 B _ _ (Int.mul_ne_zero (nz p) (nz q))) (hr.mono (by omega)) rfl B.F.g_Ratio
    (at_two (et_add (et_mul (QB.m h.1 h2.d) (et_n B.F (vr 0 rfl rfl rfl rfl rfl)) (et_d B.F (vr 1 rfl rfl rfl rfl rfl))) (et_mul (QB.m h2.1 h.d) (et_n B.F (vr 1 rfl rfl rfl rfl rfl)) (et_d B.F (vr 0 rfl rfl rfl rfl rfl))))
      (et_mul (QB.m h.d h2.d) (et_d B.F (vr 0 rfl rfl rfl rfl rfl)) (et_d B.F (vr 1 rfl rfl rfl rfl rfl)))) rfl rfl rfl) rfl)
theorem w_Qsub (B : Bs P K mg) (p q : Rat) (h : QB p) (h2 : QB q) : FnT P w K mg base 38 (fRatio K "__sub__") (spT [tQ K p, tQ K q] (tQ K (p - q))) := by
  obtain ⟨fd, D⟩ := B.F.d_Ratio_sub
  refine fnT_of (fn_ret D sc_Ratio_sub rfl fun cdv A outer s H hr => ?_) (bi_Ratio_sub D)
  have e : Rat.divInt (p.num * q.den - q.num * p.den) (p.den * q.den) = p - q := by
    rw [Rat.sub_eq_add_neg, show p.num * q.den - q.num * p.den = p.num * q.den + -q.num * p.den by rw [Int.neg_mul]; omega, ← Rat.divInt_add_divInt _ _ (nz p) (nz q), Rat.num_divInt_den, ← Rat.neg_divInt, Rat.num_divInt_den]
  rw [← e]
  exact bt_last (st_ret (et_make B.F.mk_Ratio (mkQ2 B _ _ (Int.mul_ne_zero (nz p) (nz q))) (hr.mono (by omega)) rfl B.F.g_Ratio
    (at_two (et_sub (et_mul (QB.m h.1 h2.d) (et_n B.F (vr 0 rfl rfl rfl rfl rfl)) (et_d B.F (vr 1 rfl rfl rfl rfl rfl))) (et_mul (QB.m h2.1 h.d) (et_n B.F (vr 1 rfl rfl rfl rfl rfl)) (et_d B.F (vr 0 rfl rfl rfl rfl rfl))))
      (et_mul (QB.m h.d h2.d) (et_d B.F (vr 0 rfl rfl rfl rfl rfl)) (et_d B.F (vr 1 rfl rfl rfl rfl rfl)))) rfl rfl rfl) rfl)
theorem w_Qmul (B : Bs P K mg) (p q : Rat) (h : QB p) (h2 : QB q) : FnT P w K mg base 38 (fRatio K "__mul__") (spT [tQ K p, tQ K q] (tQ K (p * q))) := by
  obtain ⟨fd, D⟩ := B.F.d_Ratio_mul
  refine fnT_of (fn_ret D sc_Ratio_mul rfl fun cdv A outer s H hr => ?_) (bi_Ratio_mul D)
  have e : Rat.divInt (p.num * q.num) (p.den * q.den) = p * q := by
    rw [← Rat.divInt_mul_divInt, Rat.num_divInt_den, Rat.num_divInt_den]
  rw [← e]
  exact bt_last (st_ret (et_make B.F.mk_Ratio (mkQ2 B _ _ (Int.mul_ne_zero (nz p) (nz q))) (hr.mono (by omega)) rfl B.F.g_Ratio
    (at_two (et_mul (QB.m h.1 h2.1) (et_n B.F (vr 0 rfl rfl rfl rfl rfl)) (et_n B.F (vr 1 rfl rfl rfl rfl rfl)))
      (et_mul (QB.m h.d h2.d) (et_d B.F (vr 0 rfl rfl rfl rfl rfl)) (et_d B.F (vr 1 rfl rfl rfl rfl rfl)))) rfl rfl rfl) rfl)
theorem w_Qneg (B : Bs P K mg) (p : Rat) : FnT P w K mg base 38 (fRatio K "__neg__") (spT [tQ K p] (tQ K (-p))) := by
  obtain ⟨fd, D⟩ := B.F.d_Ratio_neg
  refine fnT_of (fn_ret D sc_Ratio_neg rfl fun cdv A outer s H hr => ?_) (bi_Ratio_neg D)
  have e : Rat.divInt (-p.num) p.den = -p := by rw [← Rat.neg_divInt, Rat.num_divInt_den]
  rw [← e]
  exact bt_last (st_ret (et_make B.F.mk_Ratio (mkQ2 B _ _ (nz p)) (hr.mono (by omega)) rfl B.F.g_Ratio
    (at_two (et_neg (et_n B.F (vr 0 rfl rfl rfl rfl rfl))) (et_d B.F (vr 0 rfl rfl rfl rfl rfl))) rfl rfl rfl) rfl)
theorem w_Qinv (B : Bs P K mg) (p : Rat) (h : p ≠ 0) : FnT P w K mg base 38 (fRatio K "inverse") (spT [tQ K p] (tQ K p⁻¹)) := by
  obtain ⟨fd, D⟩ := B.F.d_Ratio_inverse
  refine fnT_of (fn_ret D sc_Ratio_inverse rfl fun cdv A outer s H hr => ?_) (bi_Ratio_inverse D)
  rw [Rat.inv_def]
  exact bt_last (st_ret (et_make B.F.mk_Ratio (mkQ2 B _ _ (fun z => h (Rat.num_eq_zero.mp z))) (hr.mono (by omega)) rfl B.F.g_Ratio
    (at_two (et_d B.F (vr 0 rfl rfl rfl rfl rfl)) (et_n B.F (vr 0 rfl rfl rfl rfl rfl))) rfl rfl rfl) rfl)
theorem qeq (p q : Rat) : (decide (p.num = q.num) && decide ((p.den : Int) = q.den)) = decide (p = q) := by
  by_cases h : p = q
  · subst h; simp
  · simp only [h, decide_false, Bool.and_eq_false_iff, decide_eq_false_iff_not]
    by_cases h1 : p.num = q.num
    · exact .inr fun h2 => h (Rat.ext h1 (Int.ofNat_inj.mp h2))
    · exact .inl h1
theorem w_Qeq (B : Bs P K mg) (p q : Rat) : FnT P w K mg base 38 (fRatio K "__eq__") (spT [tQ K p, tQ K q] (tB (decide (p = q)))) := by
  obtain ⟨fd, D⟩ := B.F.d_Ratio_eq
  refine fnT_of (fn_ret D sc_Ratio_eq rfl fun cdv A outer s H hr => ?_) (bi_Ratio_eq D)
  refine bt_last (st_ret (et_andT (et_callB call_isi rfl B.F.b_isinstance rfl (at_two (vr 1 rfl rfl rfl rfl rfl) (et_glob (v := .ref _) rfl B.F.g_Ratio rfl rfl)) (r_isi isQ B.F.cl_Ratio B.F.ca_Ratio B.F.kc_Ratio_Ratio) (by decide) rfl rfl rfl) ?_) rfl)
  have ea : ∀ {pos p1 p2 p3 p4}, ET (BodyCx P w K mg base N_Ratio_eq d_Ratio_eq.qual d_Ratio_eq.scope (fRatio K "__eq__") cdv A outer s H) (ini N_Ratio_eq [tQ K p, tQ K q]) (.Compare (.Attribute (.Name "self" p1) "n" p2) [.Eq] [.Attribute (.Name "other" p3) "n" p4] pos) (tB (decide (p.num = q.num))) := ev_eq (et_n B.F (vr 0 rfl rfl rfl rfl rfl)) (et_n B.F (vr 1 rfl rfl rfl rfl rfl)) rfl
  have eb : ∀ {pos p1 p2 p3 p4}, ET (BodyCx P w K mg base N_Ratio_eq d_Ratio_eq.qual d_Ratio_eq.scope (fRatio K "__eq__") cdv A outer s H) (ini N_Ratio_eq [tQ K p, tQ K q]) (.Compare (.Attribute (.Name "self" p1) "d" p2) [.Eq] [.Attribute (.Name "other" p3) "d" p4] pos) (tB (decide ((p.den : Int) = q.den))) := ev_eq (et_d B.F (vr 0 rfl rfl rfl rfl rfl)) (et_d B.F (vr 1 rfl rfl rfl rfl rfl)) rfl
  rw [← qeq]
  by_cases h : p.num = q.num
  · rw [decide_eq_true h] at ea ⊢
    exact et_andT ea (et_one eb)
  · rw [decide_eq_false h] at ea ⊢
    exact et_andF ea
theorem w_Qis0 (B : Bs P K mg) (p : Rat) : FnT P w K mg base 36 (fRatio K "is_zero") (spT [tQ K p] (tB (decide (p = 0)))) := by
  obtain ⟨fd, D⟩ := B.F.d_Ratio_is_zero
  refine fnT_of (fn_ret D sc_Ratio_is_zero rfl fun cdv A outer s H hr => ?_) (bi_Ratio_is_zero D)
  have e : decide (p.num = 0) = decide (p = 0) := by simp [Rat.num_eq_zero]
  rw [← e]
  exact bt_last (st_ret (ev_eq (et_n B.F (vr 0 rfl rfl rfl rfl rfl)) et_int rfl) rfl)
abbrev fTop (K : PySem.W.Frag) (m : Str) : Addr := He.fAd K (m, none)
theorem w_zero (B : Bs P K mg) : FnT P w K mg base 38 (fTop K "zero") (spT [] (tQ K 0)) := by
  obtain ⟨fd, D⟩ := B.F.d_zero
  refine fnT_of (fn_ret D sc_zero rfl fun cdv A outer s H hr => ?_) (bi_zero D)
  exact bt_last (st_ret (et_make B.F.mk_Ratio (mkQ1 B 0) (hr.mono (by omega)) rfl B.F.g_Ratio (at_one et_int) rfl rfl rfl) rfl)
theorem w_one (B : Bs P K mg) : FnT P w K mg base 38 (fTop K "one") (spT [] (tQ K 1)) := by
  obtain ⟨fd, D⟩ := B.F.d_one
  refine fnT_of (fn_ret D sc_one rfl fun cdv A outer s H hr => ?_) (bi_one D)
  exact bt_last (st_ret (et_make B.F.mk_Ratio (mkQ1 B 1) (hr.mono (by omega)) rfl B.F.g_Ratio (at_one et_int) rfl rfl rfl) rfl)
end
end SLT
set_option exponentiation.threshold 256
set_option maxRecDepth 100000
set_option maxHeartbeats 1000000
namespace SLT
open PySem PySem.Spec PyProof.Rows L2 SL SW
abbrev cPoly (K : PySem.W.Frag) : Addr := He.ga K "Poly"
abbrev fPoly (K : PySem.W.Frag) (m : Str) : Addr := He.fAd K ("Poly", some m)
def tQs (K : PySem.W.Frag) (p : Cf) : List Ty := p.map (tQ K)
def tP (K : PySem.W.Frag) (p : Cf) : Ty := ⟨fun v H => ∃ a dx t, v = .ref a ∧ H a = some (.ins (cPoly K) dx [("row", t)]) ∧ (tT K (tQs K p)).p t H, fun e ⟨a, dx, t, h1, h2, h3⟩ => ⟨a, dx, t, h1, e _ _ h2, (tT K _).mono e h3⟩⟩
theorem sol_Qs {K : PySem.W.Frag} {p : Cf} : ∀ R ∈ tQs K p, Sol R := fun R h => by
  obtain ⟨q, _, rfl⟩ := List.mem_map.mp h
  exact sol_Q
theorem stb_Qs {m : List Addr} {K : PySem.W.Frag} {p : Cf} : ∀ R ∈ tQs K p, Stb m R := fun R h => sol_Qs R h m
theorem sol_P {K : PySem.W.Frag} {p : Cf} : Sol (tP K p) := fun m v H H' e ⟨a, dx, t, h1, h2, h3⟩ => ⟨a, dx, t, h1, (by rcases e _ _ h2 with x | ⟨_, _, _, x, _⟩; exact x; cases x), sol_T sol_Qs m _ _ _ e h3⟩
theorem solC_Q {K : PySem.W.Frag} {C : Addr} (h : cRatio K ≠ C) {q : Rat} : SolC C (tQ K q) := fun v H x dx fs fs' hD ⟨a, d2, h1, h2⟩ => ⟨a, d2, h1, by
  rw [upd_ne (ne_of h2 hD (by intro z; cases z; exact h rfl))]; exact h2⟩
theorem solC_Qs {K : PySem.W.Frag} {C : Addr} (h : cRatio K ≠ C) {p : Cf} : ∀ R ∈ tQs K p, SolC C R := fun R hR => by
  obtain ⟨q, _, rfl⟩ := List.mem_map.mp hR
  exact solC_Q h
theorem isP {K : PySem.W.Frag} {p : Cf} : IsIns (cPoly K) (tP K p) := fun v H ⟨a, dx, t, h1, h2, _⟩ => ⟨a, dx, _, h1, h2⟩
theorem noP {K : PySem.W.Frag} {m : Str} {p : Cf} (h : (m == ("row" : Str)) = false) : InsNo (cPoly K) m (tP K p) := fun v H ⟨a, dx, t, h1, h2, _⟩ => ⟨a, dx, _, h1, h2, by simp [List.lookup, h]⟩
section
variable {X : Cx} {Γ : Cxt} {e : Expr} {pos : Pos} {mg : Str → Option Value} {p : Cf}
theorem et_row (F : Facts X.K mg) (he : ET X Γ e (tP X.K p)) (hb : attributeBase e "row" X.env (eval e X.env) = eval e X.env := by rfl) : ET X Γ (.Attribute e "row" pos) (tT X.K (tQs X.K p)) :=
  et_fld hb he fun v H ⟨a, dx, t, h1, h2, h3⟩ => ⟨a, _, dx, _, t, h1, h2, F.cl_Poly, F.na_Poly_row, rfl, h3⟩
end
def tend (p : Cf) (k : Nat) : Bool := decide (0 < k) && decide (p.getD (k - 1) 0 = 0)
theorem trim_snoc0 (p : Cf) : trim (p ++ [0]) = trim p := by
  induction p with
  | nil => simp [trim]
  | cons a r ih => simp only [List.cons_append, trim, ih]
theorem trim_snoc (p : Cf) {a : Rat} (h : a ≠ 0) : trim (p ++ [a]) = p ++ [a] := by
  induction p with
  | nil => simp [trim, h]
  | cons b r ih =>
    simp only [List.cons_append, trim, ih]
    cases r <;> rfl
theorem trim_step {p : Cf} {k : Nat} (hk : k ≤ p.length) (h : tend p k = true) : trim (p.take (k - 1)) = trim (p.take k) := by
  unfold tend at h
  simp only [Bool.and_eq_true, decide_eq_true_eq] at h
  obtain ⟨j, rfl⟩ : ∃ j, k = j + 1 := ⟨k - 1, by omega⟩
  have hj : j < p.length := by omega
  rw [Nat.add_sub_cancel] at h ⊢
  rw [List.take_succ_eq_append_getElem hj, show p[j] = 0 by have := h.2; rwa [List.getD_eq_getElem?_getD, List.getElem?_eq_getElem hj] at this, trim_snoc0]
theorem trim_end {p : Cf} {k : Nat} (hk : k ≤ p.length) (h : tend p k = false) : trim (p.take k) = p.take k := by
  cases k with
  | zero => rfl
  | succ j =>
    have hj : j < p.length := by omega
    unfold tend at h
    simp at h
    rw [List.take_succ_eq_append_getElem hj]
    apply trim_snoc
    rwa [List.getElem?_eq_getElem hj] at h
theorem trim_pre (p : Cf) : p.take (trim p).length = trim p := by
  induction p with
  | nil => rfl
  | cons a r ih =>
    unfold trim
    cases h : trim r with
    | nil => by_cases ha : a = 0 <;> simp [ha]
    | cons b s =>
      rw [h] at ih
      simp only [List.length_cons] at ih ⊢
      rw [List.take_succ_cons, ih]
theorem trim_le (p : Cf) : (trim p).length ≤ p.length := by
  have := congrArg List.length (trim_pre p)
  rw [List.length_take] at this
  omega
section
variable {P : Program} {w : World} {K : PySem.W.Frag} {mg : Str → Option Value} {base : Heap} {k : Nat}
theorem qs_get {p : Cf} {i : Nat} (h : i < p.length) : (tQs K p)[i]? = some (tQ K p[i]) := by unfold tQs; rw [List.getElem?_map, List.getElem?_eq_getElem h]; rfl
theorem tt_cast {X : Cx} {Γ : Cxt} {e : Expr} {b c : Bool} (h : TT_ X Γ e b) (q : b = c) : TT_ X Γ e c := q ▸ h
theorem w_trimmed (B : Bs P K mg) (p : Cf) : FnT P w K mg base 36 (fTop K "_trimmed") (spT [tLn [] (tQs K p)] (tT K (tQs K (trim p)))) := by
  obtain ⟨fd', D⟩ := B.F.d_trimmed
  refine fnT_of (fn_ret D sc_trimmed rfl fun cdv A outer s H hr => ?_) (bi_trimmed D)
  have hl : (tQs K p).length = p.length := List.length_map _
  let Γs : Nat → Cxt := fun k => [some (tLn [] (tQs K p)), some (tI (k : Nat))]
  refine bt_cons (Δ := Γs p.length) (st_set (i := 1) sc_trimmed.nd rfl (.inl rfl) (et_len (Rs := tQs K p) rfl B.F.b_len ((vr 0 rfl rfl rfl rfl rfl).imp tLn_LT)) rfl (by rw [hl]; exact Sub.refl _) rfl (.inl rfl)) ?_
  refine bt_cons (Δ := Γs (trim p).length) (st_while Γs (tend p) (fun k => k - 1) id p.length (fun k => k ≤ p.length ∧ trim (p.take k) = trim p) PassesOwn.never (Sub.refl _) ⟨Nat.le_refl _, by rw [List.take_length]⟩ (fun k hk => ?_) (fun k hk hd => ?_) (fun k hk hd => ?_) rfl (fun k hk hd => ?_)) ?_
  · refine WT_.tt (and2 (p := decide (0 < k)) (q := decide (p.getD (k - 1) 0 = 0)) (tt_cast (tt_gt (vr 1 rfl rfl rfl rfl rfl) et_int rfl) (by simp)) fun h => ?_)
    have h0 : 0 < k := of_decide_eq_true h
    have hk2 : k - 1 < p.length := by have := hk.1; omega
    refine tt_cast (tt_eq (et_n B.F (et_ixL (k - 1) (by omega) (qs_get hk2) ((vr 0 rfl rfl rfl rfl rfl).imp tLn_L) (et_sub (vr 1 rfl rfl rfl rfl rfl) et_int))) et_int rfl) ?_
    rw [List.getD_eq_getElem?_getD, List.getElem?_eq_getElem hk2]
    simp [Rat.num_eq_zero]
  · have h0 : 0 < k := by unfold tend at hd; simp at hd; omega
    refine bt_last (st_set (i := 1) sc_trimmed.nd rfl (.inl rfl) ((et_sub (vr 1 rfl rfl rfl rfl rfl) et_int).imp (tI_of (c := ((k - 1 : Nat) : Int)) (by omega))) rfl (Sub.refl _) rfl (.inl rfl))
  · have h0 : 0 < k := by unfold tend at hd; simp at hd; omega
    exact ⟨⟨by have := hk.1; omega, by rw [trim_step hk.1 hd]; exact hk.2⟩, by show k - 1 < k; omega⟩
  · have e : (trim p).length = k := by
      rw [← hk.2, trim_end hk.1 hd, List.length_take]
      have := hk.1; omega
    rw [e]
    exact Sub.refl _
  · have h1 := trim_le p
    have h2 := trim_pre p
    have e : cutR (tQs K p) none (some ((trim p).length : Int)) = tQs K (trim p) := by
      rw [cut_to (by rw [hl]; exact h1)]
      unfold tQs
      rw [← List.map_take, h2]
    refine bt_last (st_ret ?_ rfl)
    rw [← e]
    exact et_tup rfl B.F.b_tuple (((ef_slL ((vr 0 rfl rfl rfl rfl rfl).imp tLn_L) pt_no (pt_at (vr 1 rfl rfl rfl rfl rfl))).et).imp tLn_LT)
/-- one of many kinds -/
def tEx {α : Type} (f : α → Ty) : Ty := ⟨fun v H => ∃ a, (f a).p v H, fun e ⟨a, h⟩ => ⟨a, (f a).mono e h⟩⟩
theorem et_ex {X : Cx} {Γ : Cxt} {e : Expr} {U : Ty} {α : Type} {f : α → Ty} {i : Nat} (hi : i < Γ.length) (h : ∀ a, ET X (Γ.set i (some (f a))) e U) : ET X (Γ.set i (some (tEx f))) e U := fun σ H ok => by
  obtain ⟨v, h1, a, h2⟩ := ok.2 i (tEx f) (List.getElem?_set_self hi)
  refine h a σ H ⟨by rw [ok.1, List.length_set, List.length_set], fun j U hj => ?_⟩
  by_cases e : i = j
  · subst e
    rw [List.getElem?_set_self hi] at hj
    cases hj
    exact ⟨v, h1, h2⟩
  · exact ok.2 j U (by rw [List.getElem?_set_ne e] at hj ⊢; exact hj)
theorem sol_Ex {α : Type} {f : α → Ty} (h : ∀ a, Sol (f a)) : Sol (tEx f) := fun m v H H' e ⟨a, x⟩ => ⟨a, h a m v H H' e x⟩
/-- a number: an int or a Ratio -/
def kM (K : PySem.W.Frag) (q : Rat) : Option { n : Int // q = n } → Ty
  | none => tQ K q
  | some n => tI n.1
def tM (K : PySem.W.Frag) (q : Rat) : Ty := tEx (kM K q)
def tMs (K : PySem.W.Frag) (p : Cf) : List Ty := p.map (tM K)
theorem tQ_M {q : Rat} (v : V) (H : Hp) (h : (tQ K q).p v H) : (tM K q).p v H := ⟨none, h⟩
theorem tI_M {q : Rat} {n : Int} (e : q = n) (v : V) (H : Hp) (h : (tI n).p v H) : (tM K q).p v H := ⟨some ⟨n, e⟩, h⟩
theorem sol_M {q : Rat} : Sol (tM K q) := sol_Ex fun a => by
  cases a with
  | none => exact sol_Q
  | some n => exact sol_I
theorem stb_Ms {m : List Addr} {p : Cf} : ∀ R ∈ tMs K p, Stb m R := fun R h => by
  obtain ⟨q, _, rfl⟩ := List.mem_map.mp h
  exact sol_M m
theorem ms_get {p : Cf} {i : Nat} (h : i < p.length) : (tMs K p)[i]? = some (tM K (p.getD i 0)) := by
  unfold tMs
  rw [List.getElem?_map, List.getD_eq_getElem?_getD, List.getElem?_eq_getElem h]; rfl
theorem qs_getD {p : Cf} {i : Nat} (h : i < p.length) : (tQs K p)[i]? = some (tQ K (p.getD i 0)) := by
  unfold tQs
  rw [List.getElem?_map, List.getD_eq_getElem?_getD, List.getElem?_eq_getElem h]; rfl
theorem qs_range (p : Cf) : (List.range p.length).map (fun i => tQ K (p.getD i 0)) = tQs K p := by
  unfold tQs
  apply List.ext_getElem
  · simp
  · intro i h1 h2
    simp at h1 h2
    simp [h1]
theorem tvs_Ms {vs : List V} {H : Hp} {p : Cf} (h : TVs vs (tQs K p) H) : TVs vs (tMs K p) H := TVs.imp (tQ K) (tM K) h fun q _ v => tQ_M v H
/-- what is walked by Poly's __init__ -/
def RowTy (K : PySem.W.Frag) (p : Cf) (R : Ty) : Prop := ∀ {X : Cx} {Γ : Cxt} {tg iter : Expr}, X.K = K → ET X Γ iter R → IT_ [] X Γ tg iter p.length fun i => tM K (p.getD i 0)
theorem rowL (p : Cf) : RowTy K p (tLn [] (tMs K p)) := fun {X Γ tg iter} hK he => by
  have h := it_lst (K := K) (tg := tg) he (Rf := fun i => tM K (p.getD i 0)) (fun i hi => ms_get (by simpa [tMs] using hi)) stb_Ms
  rwa [show (tMs K p).length = p.length by simp [tMs]] at h
theorem rowT (p : Cf) : RowTy K p (tT K (tMs K p)) := fun {X Γ tg iter} hK he => by
  have h := it_tup (m := []) (tg := tg) hK he (Rf := fun i => tM K (p.getD i 0)) (fun i hi => ms_get (by simpa [tMs] using hi)) stb_Ms
  rwa [show (tMs K p).length = p.length by simp [tMs]] at h
theorem tM_elt {X : Cx} (hK : X.K = K) {Γ : Cxt} {j : Nat} {q : Rat} {e : Expr} (hj : j < Γ.length) (h1 : ∀ n : Int, ET X (Γ.set j (some (tI n))) e (tQ K n)) (h2 : ET X (Γ.set j (some (tQ K q))) e (tQ K q)) : ET X (Γ.set j (some (tM K q))) e (tQ K q) :=
  et_ex hj fun a => by
    cases a with
    | none => exact h2
    | some n =>
      have h := h1 n.1
      rw [← n.2] at h
      exact h
theorem w_Pinit (B : Bs P K mg) (p : Cf) (hp : p.length ≤ 1000000) (R : Ty) (hR : RowTy K p R) (hS : SolC (cPoly K) R) : FnT P w K mg base 38 (fPoly K "__init__") (spMk (cPoly K) [R] (tP K (trim p))) := by
  obtain ⟨fd', D⟩ := B.F.d_Poly_init
  refine fnT_of (fn_init D sc_Poly_init rfl fun cdv A outer s H q dq H0 E σ hr ok sm n1 n2 ne hq fin _ => ?_) (bi_Poly_init D)
  have hne : cRatio K ≠ cPoly K := fun z => by
    have h1 := B.F.kc_Ratio_Poly
    have h2 := B.F.kc_Ratio_Ratio
    rw [show He.ga K "Poly" = He.ga K "Ratio" from z.symm, h2] at h1
    cases h1
  refine wB_store1 (U := tP K (trim p)) (R := tT K (tQs K (trim p))) ok sm n1 hq B.F.cl_Poly B.F.na_Poly_row ?_ (vr 0 rfl rfl rfl rfl rfl) (solC_T (solC_Qs hne)) rfl ?_ fin
  · refine et_call (w_trimmed B p) (hr.mono (by omega)) rfl B.F.g_trimmed B.F.k_trimmed (at_one ?_) rfl rfl rfl
    rw [← qs_range p]
    refine EF.et (ef_lc (lc_one (j := 2) (hR rfl (vr 1 rfl rfl rfl rfl rfl)) (blkOk_by (N := N_Poly_init) (sc := d_Poly_init.scope) (by decide +kernel)) (by show 2 < 3; decide) (pgB sc_Poly_init.nd rfl fun _ _ => rfl) (fun i hi s2 H2 C2 cl fp => ?_) (fun i hi => sol_Q) hp) rfl sc_Poly_init.nd)
    refine tM_elt rfl (by show 2 < 3; decide) (fun n => ?_) ?_
    · refine et_ifT (tt_val (et_callB (Rs := [tI n, tV (.ty "int")]) call_isi rfl B.F.b_isinstance rfl (at_two (vr 2 rfl rfl rfl rfl rfl) (et_bty rfl B.F.b_int rfl (by decide) rfl)) r_isiI (by decide) rfl rfl rfl)) ?_
      exact et_make B.F.mk_Ratio (mkQ1 B n) (hr.mono (by omega)) rfl B.F.g_Ratio (at_one (vr 2 rfl rfl rfl rfl rfl)) rfl rfl rfl
    · refine et_ifF (tt_val (et_callB (Rs := [tQ K (p.getD i 0), tV (.ty "int")]) call_isi rfl B.F.b_isinstance rfl (at_two (vr 2 rfl rfl rfl rfl rfl) (et_bty rfl B.F.b_int rfl (by decide) rfl)) (r_isiT isQ B.F.cl_Ratio B.F.ca_Ratio B.F.ki_Ratio) (by decide) rfl rfl rfl)) ?_
      exact vr 2 rfl rfl rfl rfl rfl
  · intro v H' r h
    exact ⟨q, dq, v, rfl, h, r⟩
theorem ne_RP (F : Facts K mg) : cRatio K ≠ cPoly K := fun z => by
  have h1 := F.kc_Ratio_Poly
  have h2 := F.kc_Ratio_Ratio
  rw [show He.ga K "Poly" = He.ga K "Ratio" from z.symm, h2] at h1
  cases h1
theorem solC_M {C : Addr} (h : cRatio K ≠ C) {q : Rat} : SolC C (tM K q) := fun v H x dx fs fs' hD ⟨a, r⟩ => ⟨a, by
  cases a with
  | none => exact solC_Q h _ _ _ _ _ _ hD r
  | some n => exact r⟩
theorem solC_Ms {C : Addr} (h : cRatio K ≠ C) {p : Cf} : ∀ R ∈ tMs K p, SolC C R := fun R hR => by
  obtain ⟨q, _, rfl⟩ := List.mem_map.mp hR
  exact solC_M h
theorem solC_Ln {C : Addr} {m : List Addr} {Rs : List Ty} (hs : ∀ R ∈ Rs, SolC C R) : SolC C (tLn m Rs) := fun v H q dx fs fs' hD ⟨a, zs, e, hn, hq, r⟩ =>
  ⟨a, zs, e, hn, by rw [upd_ne (ne_of hq hD (by intro z; cases z))]; exact hq, tvs_solC hs hD r⟩
theorem mkP_L (B : Bs P K mg) (p : Cf) (hp : p.length ≤ 1000000) : FnT P w K mg base 38 (fPoly K "__init__") (spMk (cPoly K) [tLn [] (tMs K p)] (tP K (trim p))) := w_Pinit B p hp _ (rowL p) (solC_Ln (solC_Ms (ne_RP B.F)))
theorem mkP_T (B : Bs P K mg) (p : Cf) (hp : p.length ≤ 1000000) : FnT P w K mg base 38 (fPoly K "__init__") (spMk (cPoly K) [tT K (tMs K p)] (tP K (trim p))) := w_Pinit B p hp _ (rowT p) (solC_T (solC_Ms (ne_RP B.F)))
theorem tLQ_M {m : List Addr} {p : Cf} (v : V) (H : Hp) (h : (tLn m (tQs K p)).p v H) : (tLn m (tMs K p)).p v H := let ⟨a, xs, h1, h2, h3, h4⟩ := h; ⟨a, xs, h1, h2, h3, tvs_Ms h4⟩
theorem tTQ_M {p : Cf} (v : V) (H : Hp) (h : (tT K (tQs K p)).p v H) : (tT K (tMs K p)).p v H := let ⟨a, xs, h1, h2, h4⟩ := h; ⟨a, xs, h1, h2, tvs_Ms h4⟩
theorem qs_len (p : Cf) : (tQs K p).length = p.length := List.length_map _
section
variable {X : Cx} {Γ : Cxt} {e : Expr} {pos pp : Pos} {p : Cf}
/-- Poly(e), e a list of Ratios -/
theorem et_Poly (B : Bs X.prog X.K X.mg) (hr : Room 39 X.A) (hp : p.length ≤ 1000000) (hg : Gl X "Poly") (he : ET X Γ e (tLn [] (tQs X.K p))) (hs : starEach [e] X.env = (false, eval e X.env) :: starEach [] X.env := by rfl) : ET X Γ (.Call (.Name "Poly" pp) [e] [] pos) (tP X.K (trim p)) :=
  et_make B.F.mk_Poly (mkP_L B p hp) hr hg B.F.g_Poly (at_one (he.imp tLQ_M) hs) rfl hs rfl
theorem et_lenr (B : Bs X.prog X.K X.mg) (hg : Gl X "len") (he : ET X Γ e (tT X.K (tQs X.K p))) (hs : starEach [e] X.env = (false, eval e X.env) :: starEach [] X.env := by rfl) : ET X Γ (.Call (.Name "len" pp) [e] [] pos) (tI (p.length : Nat)) := by
  have h := et_len (p := pp) (pos := pos) hg B.F.b_len (he.imp tT_LT) hs
  rwa [qs_len] at h
theorem it_row {m : List Addr} {tg : Expr} (he : ET X Γ e (tT X.K (tQs X.K p))) : IT_ m X Γ tg e p.length fun i => tQ X.K (p.getD i 0) := by
  have h := it_tup (m := m) (tg := tg) rfl he (Rf := fun i => tQ X.K (p.getD i 0)) (fun i hi => qs_getD (by rwa [qs_len] at hi)) stb_Qs
  rwa [qs_len] at h
theorem it_enumr {m : List Addr} {elts : List Expr} {kk : Nat} {tpos : Pos} (B : Bs X.prog X.K X.mg) (hg : Gl X "enumerate") (he : ET X Γ e (tT X.K (tQs X.K p))) (hs : starEach [e] X.env = (false, eval e X.env) :: starEach [] X.env := by rfl) : IT_ m X Γ (.Tuple elts kk tpos) (.Call (.Name "enumerate" pp) [e] [] pos) p.length fun i => tT X.K [tI i, tQ X.K (p.getD i 0)] := by
  have h := it_enumT (m := m) (elts := elts) (kk := kk) (tpos := tpos) (p := pp) (pos := pos) hg B.F.b_enumerate he (Rf := fun i => tQ X.K (p.getD i 0)) (fun i hi => qs_getD (by rwa [qs_len] at hi)) stb_Qs hs
  rwa [qs_len] at h
theorem it_rowL {m : List Addr} {tg : Expr} (he : ET X Γ e (tLn m (tQs X.K p))) : IT_ m X Γ tg e p.length fun i => tQ X.K (p.getD i 0) := by
  have h := it_lst (K := X.K) (tg := tg) he (Rf := fun i => tQ X.K (p.getD i 0)) (fun i hi => qs_getD (by rwa [qs_len] at hi)) stb_Qs
  rwa [qs_len] at h
end
theorem qs_map {n : Nat} {f : Nat → Rat} {p : Cf} (h1 : p.length = n) (h : ∀ i, i < n → p.getD i 0 = f i) : (List.range n).map (fun i => tQ K (f i)) = tQs K p := by
  rw [← qs_range, h1]
  exact List.map_congr_left fun i hi => by rw [h i (List.mem_range.mp hi)]
theorem et_ofEF {X : Cx} {Γ : Cxt} {e : Expr} {p : Cf} {n : Nat} {f : Nat → Rat} (h : EF X Γ e ((List.range n).map fun i => tQ X.K (f i))) (h1 : p.length = n) (h2 : ∀ i, i < n → p.getD i 0 = f i) : ET X Γ e (tLn [] (tQs X.K p)) := by
  rw [qs_map h1 h2] at h
  exact h.et
theorem w_Pdeg (B : Bs P K mg) (p : Cf) : FnT P w K mg base 36 (fPoly K "degree") (spT [tP K p] (tI ((p.length : Nat) - 1))) := by
  obtain ⟨fd', D⟩ := B.F.d_Poly_degree
  refine fnT_of (fn_ret D sc_Poly_degree rfl fun cdv A outer s H hr => ?_) (bi_Poly_degree D)
  exact bt_last (st_ret (et_sub (et_lenr B rfl (et_row B.F (vr 0 rfl rfl rfl rfl rfl))) et_int) rfl)
theorem w_Pis0 (B : Bs P K mg) (p : Cf) : FnT P w K mg base 36 (fPoly K "is_zero") (spT [tP K p] (tB (decide (p.length = 0)))) := by
  obtain ⟨fd', D⟩ := B.F.d_Poly_is_zero
  refine fnT_of (fn_ret D sc_Poly_is_zero rfl fun cdv A outer s H hr => ?_) (bi_Poly_is_zero D)
  exact bt_last (st_ret (ET.imp (ev_eq (et_lenr B rfl (et_row B.F (vr 0 rfl rfl rfl rfl rfl))) et_int rfl) (tB_of (by simp))) rfl)
theorem w_Plast (B : Bs P K mg) (p : Cf) (h : p ≠ []) : FnT P w K mg base 36 (fPoly K "last") (spT [tP K p] (tQ K (p.getD (p.length - 1) 0))) := by
  obtain ⟨fd', D⟩ := B.F.d_Poly_last
  refine fnT_of (fn_ret D sc_Poly_last rfl fun cdv A outer s H hr => ?_) (bi_Poly_last D)
  have hl : 0 < p.length := List.length_pos_iff.mpr h
  refine bt_cons (Δ := ini N_Poly_last [tP K p]) (st_ifF (tt_cast (tt_eq (et_lenr B rfl (et_row B.F (vr 0 rfl rfl rfl rfl rfl))) et_int rfl) (by simp; omega)) (bt_nil rfl (Sub.refl _))) ?_
  exact bt_last (st_ret (et_ixT (p.length - 1) (by omega) (qs_getD (by omega)) (et_row B.F (vr 0 rfl rfl rfl rfl rfl)) (et_sub (et_lenr B rfl (et_row B.F (vr 0 rfl rfl rfl rfl rfl))) et_int)) rfl)
theorem w_Pneg (B : Bs P K mg) (p : Cf) (hp : p.length ≤ 1000000) : FnT P w K mg base 40 (fPoly K "__neg__") (spT [tP K p] (tP K (trim (p.map fun c => -c)))) := by
  obtain ⟨fd', D⟩ := B.F.d_Poly_neg
  refine fnT_of (fn_ret D sc_Poly_neg rfl fun cdv A outer s H hr => ?_) (bi_Poly_neg D)
  refine bt_last (st_ret (et_Poly B (hr.mono (by omega)) (by simpa using hp) rfl ?_) rfl)
  refine et_ofEF (ef_lc (lc_one (Sf := fun i => tQ K (-(p.getD i 0))) (j := 1) (it_row (et_row B.F (vr 0 rfl rfl rfl rfl rfl))) (blkOk_by (N := N_Poly_neg) (sc := d_Poly_neg.scope) (by decide +kernel)) (by show 1 < 2; decide) (pgB sc_Poly_neg.nd rfl fun _ _ => rfl)
    (fun i hi s2 H2 C2 cl fp => et_ownNeg B.F.me_Ratio_neg (w_Qneg B _) (hr.mono (by omega)) isQ (vr 1 rfl rfl rfl rfl rfl)) (fun i hi => sol_Q) hp) rfl sc_Poly_neg.nd) (by simp) (fun i hi => ?_)
  simp [List.getD_eq_getElem?_getD, hi]
/-- the numbers of a polynomial are not great -/
def PB (p : Cf) : Prop := p.length ≤ 500000 ∧ ∀ c ∈ p, QB c
theorem QB0 : QB 0 := ⟨Nat.two_pow_pos _, Nat.one_lt_two_pow (by decide)⟩
theorem PB.get {p : Cf} (h : PB p) (i : Nat) : QB (p.getD i 0) := by
  rw [List.getD_eq_getElem?_getD]
  by_cases hi : i < p.length
  · rw [List.getElem?_eq_getElem hi]
    exact h.2 _ (List.getElem_mem hi)
  · rw [List.getElem?_eq_none (by omega)]
    exact QB0
theorem w_Pscaled (B : Bs P K mg) (p : Cf) (r : Rat) (hp : PB p) (hq : QB r) : FnT P w K mg base 40 (fPoly K "scaled") (spT [tP K p, tQ K r] (tP K (trim (scaleL r p)))) := by
  obtain ⟨fd', D⟩ := B.F.d_Poly_scaled
  refine fnT_of (fn_ret D sc_Poly_scaled rfl fun cdv A outer s H hr => ?_) (bi_Poly_scaled D)
  have hl : (scaleL r p).length = p.length := List.length_map _
  have h1 := hp.1
  refine bt_last (st_ret (et_Poly B (hr.mono (by omega)) (by omega) rfl ?_) rfl)
  refine et_ofEF (ef_lc (lc_one (Sf := fun i => tQ K (r * (p.getD i 0))) (j := 2) (it_row (et_row B.F (vr 0 rfl rfl rfl rfl rfl))) (blkOk_by (N := N_Poly_scaled) (sc := d_Poly_scaled.scope) (by decide +kernel)) (by show 2 < 3; decide) (pgB sc_Poly_scaled.nd rfl fun _ _ => rfl)
    (fun i hi s2 H2 C2 cl fp => et_own B.F.me_Ratio_mul rfl B.F.sf_Ratio (w_Qmul B _ _ hq (hp.get i)) (hr.mono (by omega)) isQ isQ (vc 1 rfl rfl rfl rfl rfl) (vr 2 rfl rfl rfl rfl rfl)) (fun i hi => sol_Q) (by omega)) rfl sc_Poly_scaled.nd) hl (fun i hi => ?_)
  simp [scaleL, List.getD_eq_getElem?_getD, hi]
theorem w_constant (B : Bs P K mg) (r : Rat) : FnT P w K mg base 40 (fTop K "constant") (spT [tQ K r] (tP K (Pol.C r).row)) := by
  obtain ⟨fd', D⟩ := B.F.d_constant
  refine fnT_of (fn_ret D sc_constant rfl fun cdv A outer s H hr => ?_) (bi_constant D)
  exact bt_last (st_ret (et_make B.F.mk_Poly (mkP_T B [r] (by simp)) (hr.mono (by omega)) rfl B.F.g_Poly (at_one (ET.imp (et_disT (Rs := tQs K [r]) (at_one (vr 0 rfl rfl rfl rfl rfl)) (by simp [tQs, sizeLine])) tTQ_M)) rfl rfl rfl) rfl)
theorem w_Peq (B : Bs P K mg) (p q : Cf) : FnT P w K mg base 42 (fPoly K "__eq__") (spT [tP K p, tP K q] (tB (decide (p = q)))) := by
  obtain ⟨fd', D⟩ := B.F.d_Poly_eq
  refine fnT_of (fn_ret D sc_Poly_eq rfl fun cdv A outer s H hr => ?_) (bi_Poly_eq D)
  refine bt_last (st_ret (et_andT (et_callB call_isi rfl B.F.b_isinstance rfl (at_two (vr 1 rfl rfl rfl rfl rfl) (et_glob (v := .ref _) rfl B.F.g_Poly rfl rfl)) (r_isi isP B.F.cl_Poly B.F.ca_Poly B.F.kc_Poly_Poly) (by decide) rfl rfl rfl) (et_one ?_)) rfl)
  refine ET.imp (et_RcB (n := 40) (rcB_tup (n := 39) (d := fun i => decide (p.getD i 0 = q.getD i 0)) fun i R S h1 h2 => ?_) (hr.mono (by omega)) (et_row B.F (vr 0 rfl rfl rfl rfl rfl)) (et_row B.F (vr 1 rfl rfl rfl rfl rfl))) (tB_of ?_)
  · have l1 : i < p.length := by
      have := (List.getElem?_eq_some_iff.mp h1).1
      rwa [qs_len] at this
    have l2 : i < q.length := by
      have := (List.getElem?_eq_some_iff.mp h2).1
      rwa [qs_len] at this
    rw [qs_getD l1] at h1
    rw [qs_getD l2] at h2
    cases h1; cases h2
    refine (rcB_ins B.F.me_Ratio_eq (FnT.mono (w_Qeq B _ _) (by omega)) isQ isQ).eqB fun _ _ _ x y H _ ⟨a, dx, e1, g1⟩ ⟨b, dy, e2, g2⟩ => ⟨a, b, e1, e2, fun z => ?_⟩
    subst z
    rw [g1] at g2
    simp only [Option.some.injEq, HO.ins.injEq, insQ, List.cons.injEq, Prod.mk.injEq, V.int.injEq, true_and, and_true] at g2
    exact decide_eq_true (Rat.ext g2.2.1 (by have := g2.2.2; omega))
  · rw [qs_len, qs_len]
    unfold tres
    by_cases h : p = q
    · subst h
      simp
    · rw [decide_eq_false h]
      rw [Bool.and_eq_false_iff]
      by_cases hl : p.length = q.length
      · refine .inl ?_
        rw [List.all_eq_false]
        have : ∃ i, i < p.length ∧ p.getD i 0 ≠ q.getD i 0 := by
          refine Classical.byContradiction fun hn => h (List.ext_getElem hl fun i h1 h2 => ?_)
          refine Classical.byContradiction fun hc => hn ⟨i, h1, ?_⟩
          rw [List.getD_eq_getElem?_getD, List.getD_eq_getElem?_getD, List.getElem?_eq_getElem h1, List.getElem?_eq_getElem h2]
          exact hc
        obtain ⟨i, h1, h2⟩ := this
        exact ⟨i, List.mem_range.mpr (by omega), by rw [decide_eq_false h2]; decide⟩
      · exact .inr (by simpa using hl)
end
end SLT
set_option exponentiation.threshold 256
set_option maxRecDepth 100000
set_option maxHeartbeats 1000000
namespace SLT
open PySem PySem.Spec PyProof.Rows L2 SL SW
section
variable {P : Program} {w : World} {K : PySem.W.Frag} {mg : Str → Option Value} {base : Heap} {k : Nat}
/-- the row that + makes of a long one and a short one -/
def addC (p q : Cf) : Cf := (List.range q.length).map (fun i => p.getD i 0 + q.getD i 0) ++ p.drop q.length
theorem ev_addC (p q : Cf) (h : q.length ≤ p.length) (x : Rat) : SW.ev (addC p q) x = SW.ev p x + SW.ev q x := by
  unfold addC
  induction q generalizing p with
  | nil => simp [SW.ev]; grind
  | cons b q ih =>
    cases p with
    | nil => simp at h
    | cons a p =>
      have e : (List.range (q.length + 1)).map (fun i => (a :: p).getD i 0 + (b :: q).getD i 0) = (a + b) :: (List.range q.length).map (fun i => p.getD i 0 + q.getD i 0) := by
        rw [List.range_succ_eq_map, List.map_cons, List.map_map]; rfl
      rw [List.length_cons, e, List.drop_succ_cons, List.cons_append, ev_cons, ih p (by simpa using h), ev_cons, ev_cons]
      grind
theorem row_of (l : Cf) (p : Pol) (h : ∀ x, SW.ev l x = p.ev x) : trim l = p.row := trim_inj (trim_ok l) p.ok fun x => by rw [ev_trim, h]; rfl
theorem tLn_app {p q : Cf} : tQs K p ++ tQs K q = tQs K (p ++ q) := by unfold tQs; rw [List.map_append]
theorem addC_len (p q : Cf) (h : q.length ≤ p.length) : (addC p q).length = p.length := by unfold addC; simp; omega
theorem w_Padd (B : Bs P K mg) (p q : Pol) (hp : PB p.row) (hq : PB q.row) : FnT P w K mg base 40 (fPoly K "__add__") (spT [tP K p.row, tP K q.row] (tP K (p + q).row)) := by
  obtain ⟨fd', D⟩ := B.F.d_Poly_add
  refine fnT_of (fn_ret D sc_Poly_add rfl fun cdv A outer s H hr => ?_) (bi_Poly_add D)
  let Γ : Cf → Cf → Cxt := fun l sh => [some (tP K p.row), some (tP K q.row), some (tT K (tQs K l)), some (tT K (tQs K sh)), none, none, none]
  -- from the long and the short one
  have main : ∀ l sh : Pol, PB l.row → PB sh.row → sh.row.length ≤ l.row.length → (∀ x, l.ev x + sh.ev x = p.ev x + q.ev x) → BT (BodyCx P w K mg base N_Poly_add d_Poly_add.qual d_Poly_add.scope (fPoly K "__add__") cdv A outer s H) (Γ l.row sh.row) (d_Poly_add.body.drop 2) { rt := some (tP K (p + q).row) } := by
    intro l sh hl hsh hle he
    refine bt_cons (Δ := [some (tP K p.row), some (tP K q.row), some (tT K (tQs K l.row)), some (tT K (tQs K sh.row)), some (tLn [] (tQs K ((List.range sh.row.length).map (fun i => l.row.getD i 0 + sh.row.getD i 0)))), none, none]) (st_setLC (i := 4) (own := [("a", 5), ("b", 6)]) (Rs := tQs K ((List.range sh.row.length).map (fun i => l.row.getD i 0 + sh.row.getD i 0))) ?_ rfl sc_Poly_add.nd rfl rfl rfl (Sub.refl _)) ?_
    · rw [← qs_map (K := K) (n := sh.row.length) (f := fun i => l.row.getD i 0 + sh.row.getD i 0) (p := (List.range sh.row.length).map fun i => l.row.getD i 0 + sh.row.getD i 0) (by simp) (fun i hi => by rw [List.getD_eq_getElem?_getD]; simp [hi])]
      refine lc_two (K := K) (x := "a") (y := "b") (j := 5) (l := 6) (Rf := fun i => tQ K (l.row.getD i 0)) (Uf := fun i => tQ K (sh.row.getD i 0)) (by decide) (it_zipT rfl B.F.b_zip (vr 2 rfl rfl rfl rfl rfl) (vr 3 rfl rfl rfl rfl rfl) (by rw [qs_len, qs_len]; omega) (fun i hi => qs_getD (by omega)) (fun i hi => qs_getD (by omega)) stb_Qs stb_Qs) (blkOk_by (N := N_Poly_add) (sc := d_Poly_add.scope) (by decide +kernel)) (by show 5 < 7; decide) (by show 6 < 7; decide)
        (pgB2 rfl sc_Poly_add.nd rfl rfl (fun _ _ => rfl) (fun _ _ => rfl) fun _ _ => ⟨rfl, rfl, rfl, rfl⟩) (fun i hi s2 H2 C2 cl fp => et_own B.F.me_Ratio_add rfl B.F.sf_Ratio (w_Qadd B _ _ (hl.get i) (hsh.get i)) (hr.mono (by omega)) isQ isQ (vr 5 rfl rfl rfl rfl rfl) (vr 6 rfl rfl rfl rfl rfl)) (fun i hi => sol_Q) (by have := hsh.1; omega)
    · have e : trim (addC l.row sh.row) = (p + q).row := row_of _ _ fun x => by rw [ev_addC _ _ hle, Pol.ev_add]; exact he x
      rw [← e]
      have h1 := hl.1
      refine bt_last (st_ret (et_Poly B (hr.mono (by omega)) (by rw [addC_len _ _ hle]; omega) rfl ?_) rfl)
      have hd : cutR (tQs K l.row) (some (sh.row.length : Nat)) none = tQs K (l.row.drop sh.row.length) := by
        rw [cut_from]; unfold tQs; rw [List.map_drop]
      refine ET.cast (R := tLn [] (tQs K ((List.range sh.row.length).map (fun i => l.row.getD i 0 + sh.row.getD i 0)) ++ tQs K (l.row.drop sh.row.length))) (EF.et (ef_cat (by rw [qs_len, qs_len]; simp [sizeLine]; omega) (vr 4 rfl rfl rfl rfl rfl)
        (EF.et (hd ▸ ef_list rfl B.F.b_list (ET.imp (et_slT (vr 2 rfl rfl rfl rfl rfl) (pt_at (et_lenr B rfl (vr 3 rfl rfl rfl rfl rfl))) pt_no) tT_LT))))) (by rw [tLn_app]; rfl)
  refine bt_cons (Δ := Γ p.row q.row) (st_par (i := 2) (j := 3) rfl sc_Poly_add.nd rfl rfl (by decide) rfl rfl (at_two (et_row B.F (vr 0 rfl rfl rfl rfl rfl)) (et_row B.F (vr 1 rfl rfl rfl rfl rfl))) rfl (Sub.refl _) rfl rfl) ?_
  by_cases hlt : p.row.length < q.row.length
  · refine bt_cons (Δ := Γ q.row p.row) (st_ifT (tt_cast (tt_lt (et_lenr B rfl (vr 2 rfl rfl rfl rfl rfl)) (et_lenr B rfl (vr 3 rfl rfl rfl rfl rfl)) rfl) (by simp; omega)) (bt_last (st_par (i := 2) (j := 3) rfl sc_Poly_add.nd rfl rfl (by decide) rfl rfl (at_two (vr 3 rfl rfl rfl rfl rfl) (vr 2 rfl rfl rfl rfl rfl)) rfl (Sub.refl _) rfl rfl))) ?_
    exact main q p hq hp (by omega) fun x => by grind
  · refine bt_cons (Δ := Γ p.row q.row) (st_ifF (tt_cast (tt_lt (et_lenr B rfl (vr 2 rfl rfl rfl rfl rfl)) (et_lenr B rfl (vr 3 rfl rfl rfl rfl rfl)) rfl) (by simp; omega)) (bt_nil rfl (Sub.refl _))) ?_
    exact main p q hp hq (by omega) fun x => rfl
theorem PB_neg {p : Pol} (h : PB p.row) : PB (-p).row := by
  have e : (-p).row = trim (scaleL (-1) p.row) := rfl
  rw [e]
  refine ⟨Nat.le_trans (trim_le _) (by unfold scaleL; rw [List.length_map]; exact h.1), fun c hc => ?_⟩
  rw [← trim_pre] at hc
  obtain ⟨a, ha, rfl⟩ := List.mem_map.mp (List.mem_of_mem_take hc)
  have := h.2 a ha
  have e2 : -1 * a = -a := by grind
  rw [e2]
  exact ⟨by rw [Rat.neg_num, Int.natAbs_neg]; exact this.1, by rw [Rat.neg_den]; exact this.2⟩
theorem neg_row (p : Pol) : trim (p.row.map fun c => -c) = (-p).row := row_of _ _ fun x => by
  rw [Pol.ev_neg]
  show SW.ev _ x = - SW.ev p.row x
  induction p.row with
  | nil => simp [SW.ev]
  | cons a r ih => simp only [List.map_cons, SW.ev, ih]; grind
theorem w_Psub (B : Bs P K mg) (p q : Pol) (hp : PB p.row) (hq : PB q.row) : FnT P w K mg base 42 (fPoly K "__sub__") (spT [tP K p.row, tP K q.row] (tP K (p - q).row)) := by
  obtain ⟨fd', D⟩ := B.F.d_Poly_sub
  refine fnT_of (fn_ret D sc_Poly_sub rfl fun cdv A outer s H hr => ?_) (bi_Poly_sub D)
  have h1 := hq.1
  refine bt_last (st_ret (et_own B.F.me_Poly_add rfl B.F.sf_Poly (w_Padd B p (-q) hp (PB_neg hq)) (hr.mono (by omega)) isP isP (vr 0 rfl rfl rfl rfl rfl) ?_) rfl)
  rw [← neg_row]
  exact et_ownNeg B.F.me_Poly_neg (w_Pneg B q.row (by omega)) (hr.mono (by omega)) isP (vr 1 rfl rfl rfl rfl rfl)
def addTo (r : Cf) (i : Nat) (v : Rat) : Cf := r.set i (r.getD i 0 + v)
theorem addTo_len (r : Cf) (i : Nat) (v : Rat) : (addTo r i v).length = r.length := List.length_set
theorem addTo_0 (r : Cf) (i : Nat) : addTo r i 0 = r := by
  unfold addTo
  rw [Rat.add_zero, List.getD_eq_getElem?_getD]
  by_cases h : i < r.length
  · rw [List.getElem?_eq_getElem h]; exact List.set_getElem_self h
  · exact List.set_eq_of_length_le (by omega)
theorem ev_addTo (x : Rat) : ∀ (r : Cf) (i : Nat) (v : Rat), i < r.length → SW.ev (addTo r i v) x = SW.ev r x + v * x ^ i
  | [], _, _, h => absurd h (Nat.not_lt_zero _)
  | a :: r, 0, v, _ => by simp [addTo, SW.ev]; grind
  | a :: r, i + 1, v, h => by
    have ih := ev_addTo x r i v (by simpa using h)
    have e : addTo (a :: r) (i + 1) v = a :: addTo r i v := by simp [addTo]
    rw [e, ev_cons, ih, ev_cons]
    grind
def inn (u : Rat) (q r : Cf) (i : Nat) : Nat → Cf
  | 0 => r
  | c + 1 => addTo (inn u q r i c) (i + c) (u * q.getD c 0)
def outR (p q : Cf) : Nat → Cf
  | 0 => List.replicate (p.length + q.length) 0
  | i + 1 => inn (p.getD i 0) q (outR p q i) i q.length
theorem inn_len (u : Rat) (q r : Cf) (i c : Nat) : (inn u q r i c).length = r.length := by
  induction c with
  | zero => rfl
  | succ c ih => unfold inn; rw [addTo_len, ih]
theorem outR_len (p q : Cf) (i : Nat) : (outR p q i).length = p.length + q.length := by
  induction i with
  | zero => simp [outR]
  | succ c ih => unfold outR; rw [inn_len, ih]
theorem inn_0 (q r : Cf) (i c : Nat) : inn 0 q r i c = r := by
  induction c with
  | zero => rfl
  | succ c ih => unfold inn; rw [ih, Rat.zero_mul, addTo_0]
theorem ev_take_succ (q : Cf) (c : Nat) (x : Rat) (h : c < q.length) : SW.ev (q.take (c + 1)) x = SW.ev (q.take c) x + q.getD c 0 * x ^ c := by
  induction q generalizing c with
  | nil => simp at h
  | cons a q ih =>
    cases c with
    | zero => simp [SW.ev]; grind
    | succ c =>
      rw [List.take_succ_cons, List.take_succ_cons, ev_cons, ih c (by simpa using h), ev_cons]
      simp
      grind
theorem ev_inn (u : Rat) (q r : Cf) (i c : Nat) (x : Rat) (h : i + c ≤ r.length) (hc : c ≤ q.length) : SW.ev (inn u q r i c) x = SW.ev r x + u * x ^ i * SW.ev (q.take c) x := by
  induction c with
  | zero => simp [inn, SW.ev]; grind
  | succ c ih =>
    unfold inn
    rw [ev_addTo _ _ _ _ (by rw [inn_len]; omega), ih (by omega) (by omega), ev_take_succ _ _ _ (by omega)]
    grind
theorem ev_zeros (n : Nat) (x : Rat) : SW.ev (List.replicate n 0) x = 0 := by
  induction n with
  | zero => rfl
  | succ n ih => rw [List.replicate_succ, ev_cons, ih]; grind
theorem ev_outR (p q : Cf) (i : Nat) (x : Rat) (h : i ≤ p.length) : SW.ev (outR p q i) x = SW.ev (p.take i) x * SW.ev q x := by
  induction i with
  | zero => simp [outR, ev_zeros, SW.ev]
  | succ i ih =>
    unfold outR
    rw [ev_inn _ _ _ _ _ _ (by rw [outR_len]; omega) (Nat.le_refl _), ih (by omega), List.take_length, ev_take_succ _ _ _ (by omega)]
    grind
/-- all numbers on the way are not great -/
structure MulB (p q : Cf) : Prop where
  l : p.length ≤ 500000 ∧ q.length ≤ 500000
  s : ∀ i c m, i < p.length → c ≤ q.length → QB ((inn (p.getD i 0) q (outR p q i) i c).getD m 0)
  t : ∀ i j, QB (p.getD i 0 * q.getD j 0)
  p : ∀ i, QB (p.getD i 0)
  q : ∀ i, QB (q.getD i 0)
theorem qs_addTo {r : Cf} {i : Nat} {v : Rat} : (tQs K r).set i (tQ K (r.getD i 0 + v)) = tQs K (addTo r i v) := by
  unfold tQs addTo
  rw [List.map_set]
theorem w_Pmul (B : Bs P K mg) (p q : Pol) (hb : MulB p.row q.row) : FnT P w K mg base 42 (fPoly K "__mul__") (spT [tP K p.row, tP K q.row] (tP K (p * q).row)) := by
  obtain ⟨fd', D⟩ := B.F.d_Poly_mul
  refine fnT_of (fn_ret D sc_Poly_mul rfl fun cdv A outer s H hr => ?_) (bi_Poly_mul D)
  have h1 := hb.l.1
  have h2 := hb.l.2
  have h0 : (List.range (p.row.length + q.row.length)).map (fun i => tQ K 0) = tQs K (outR p.row q.row 0) := qs_map (by simp [outR]) fun i hi => by simp [outR, List.getD_eq_getElem?_getD, hi]
  refine bt_newLC (i := 2) (Rs := tQs K (outR p.row q.row 0)) (own := [("_", 7)]) ?_ rfl sc_Poly_mul.nd rfl rfl (fun _ => ini N_Poly_mul [tP K p.row, tP K q.row]) (fun D => SubN.refl _) (fun D hD => ?_)
  · rw [← h0]
    exact lc_one (it_rangeN rfl B.F.b_range (et_add (et_lenr B rfl (et_row B.F (vr 0 rfl rfl rfl rfl rfl))) (et_lenr B rfl (et_row B.F (vr 1 rfl rfl rfl rfl rfl)))) rfl (by omega)) (blkOk_by (N := N_Poly_mul) (sc := d_Poly_mul.scope) (by decide +kernel)) (by show 7 < 8; decide) (pgB sc_Poly_mul.nd rfl fun _ _ => rfl)
      (fun i hi s2 H2 C2 cl fp => et_make B.F.mk_Ratio (mkQ1 B 0) (hr.mono (by omega)) rfl B.F.g_Ratio (at_one et_int) rfl rfl rfl) (fun i hi => sol_Q) (by omega)
  let Γs : Nat → Cxt := fun i => [some (tP K p.row), some (tP K q.row), some (tD D (tQs K (outR p.row q.row i))), none, none, none, none, none]
  let Γc : Nat → Nat → Cxt := fun i c => [some (tP K p.row), some (tP K q.row), some (tD D (tQs K (inn (p.row.getD i 0) q.row (outR p.row q.row i) i c))), some (tI (i : Nat)), some (tQ K (p.row.getD i 0)), none, none, none]
  refine bt_cons (Δ := Γs p.row.length) ?_ ?_
  · refine st_for2 (i := 3) (j := 4) (n := p.row.length) (Rf := fun i => tI i) (Sf := fun i => tQ K (p.row.getD i 0)) Γs ?_ (Sub.refl _) (fun i hi => ?_) rfl (Sub.refl _) rfl PassesOwn.never sc_Poly_mul.nd rfl rfl rfl rfl rfl rfl rfl rfl (fun _ => rfl)
    · exact it_enumr B rfl (et_row B.F (vr 0 rfl rfl rfl rfl rfl))
    · have hzn : outR p.row q.row (i + 1) = inn (p.row.getD i 0) q.row (outR p.row q.row i) i q.row.length := rfl
      by_cases hz : p.row.getD i 0 = 0
      · refine bt_end (st_ifT (tt_cast (tt_eq (et_n B.F (vr 4 rfl rfl rfl rfl rfl)) et_int rfl) (by rw [num0, decide_eq_true hz])) (bt_last (st_cont rfl ?_)))
        have e : outR p.row q.row i = outR p.row q.row (i + 1) := by rw [hzn, hz, inn_0]
        exact sub_eq (sub_eq (sub_im (fun v H h => e ▸ h) (sub_no (sub_no (sub_no (sub_no (sub_no sub_nil)))))))
      · refine bt_cons (Δ := Γc i 0) (st_ifF (tt_cast (tt_eq (et_n B.F (vr 4 rfl rfl rfl rfl rfl)) et_int rfl) (by rw [num0, decide_eq_false hz])) (bt_nil rfl (Sub.refl _))) (bt_last ?_)
        refine st_for2 (i := 5) (j := 6) (n := q.row.length) (Rf := fun c => tI c) (Sf := fun c => tQ K (q.row.getD c 0)) (Γc i) ?_ (Sub.refl _) (fun c hc => ?_) rfl (sub_eq (sub_eq (sub_eq (sub_no (sub_no (sub_no (sub_no (sub_no sub_nil)))))))) rfl PassesOwn.never sc_Poly_mul.nd rfl rfl rfl rfl rfl rfl rfl rfl (fun _ => rfl)
        · exact it_enumr B rfl (et_row B.F (vr 1 rfl rfl rfl rfl rfl))
        · have hin : inn (p.row.getD i 0) q.row (outR p.row q.row i) i (c + 1) = addTo (inn (p.row.getD i 0) q.row (outR p.row q.row i) i c) (i + c) (p.row.getD i 0 * q.row.getD c 0) := rfl
          by_cases hy : q.row.getD c 0 = 0
          · refine bt_last (st_ifF (tt_cast (tt_ne (et_n B.F (vr 6 rfl rfl rfl rfl rfl)) et_int rfl) (by rw [num0, decide_eq_true hy]; rfl)) (bt_nil rfl ?_))
            have e : inn (p.row.getD i 0) q.row (outR p.row q.row i) i c = inn (p.row.getD i 0) q.row (outR p.row q.row i) i (c + 1) := by rw [hin, hy, Rat.mul_zero, addTo_0]
            exact sub_eq (sub_eq (sub_im (fun v H h => e ▸ h) (sub_eq (sub_eq (sub_no (sub_no (sub_no sub_nil)))))))
          · refine bt_last (st_ifT (tt_cast (tt_ne (et_n B.F (vr 6 rfl rfl rfl rfl rfl)) et_int rfl) (by rw [num0, decide_eq_false hy]; rfl)) (bt_last ?_))
            refine st_setI (D := D) (j := 2) (n := i + c) (Rs := tQs K (inn (p.row.getD i 0) q.row (outR p.row q.row i) i c)) (i := (i : Int) + c) (R := tQ K ((inn (p.row.getD i 0) q.row (outR p.row q.row i) i c).getD (i + c) 0 + p.row.getD i 0 * q.row.getD c 0)) (by simp) (by rw [qs_len, inn_len, outR_len]; omega) ?_ (vr 2 rfl rfl rfl rfl rfl) (et_add (vr 3 rfl rfl rfl rfl rfl) (vr 5 rfl rfl rfl rfl rfl)) (List.mem_singleton.mpr rfl) ?_ rfl (sol_Q _) stb_Qs rfl ?_
            · refine et_own B.F.me_Ratio_add rfl B.F.sf_Ratio (w_Qadd B _ _ (hb.s i c (i + c) hi (by omega)) (hb.t i c)) (hr.mono (by omega)) isQ isQ ?_ ?_
              · exact et_ixL (i + c) (by simp) (qs_getD (by rw [inn_len, outR_len]; omega)) (ET.imp (vr 2 rfl rfl rfl rfl rfl) tD_L) (et_add (vr 3 rfl rfl rfl rfl rfl) (vr 5 rfl rfl rfl rfl rfl))
              · exact et_own B.F.me_Ratio_mul rfl B.F.sf_Ratio (w_Qmul B _ _ (hb.p i) (hb.q c)) (hr.mono (by omega)) isQ isQ (vr 4 rfl rfl rfl rfl rfl) (vr 6 rfl rfl rfl rfl rfl)
            · exact stbx_s (sol_P _) (stbx_s (sol_P _) (stbx_0 (stbc_s (sol_I _) (stbc_s (sol_Q _) (stbc_s (sol_I _) (stbc_s (sol_Q _) (stbc_n stbc_nil)))))))
            · rw [qs_addTo]
              exact sub_eq (sub_eq (sub_eq (sub_eq (sub_eq (sub_no (sub_no (sub_eq sub_nil)))))))
  · have e : trim (outR p.row q.row p.row.length) = (p * q).row := row_of _ _ fun x => by
      rw [ev_outR _ _ _ _ (Nat.le_refl _), List.take_length, Pol.ev_mul]; rfl
    rw [← e]
    exact bt_last (st_ret (et_Poly B (hr.mono (by omega)) (by rw [outR_len]; omega) rfl (ET.imp (vr 2 rfl rfl rfl rfl rfl) tD_Ln)) rfl)
def dvF (g : Cf) (n : Nat) (inv : Rat) (r : Cf) (t : Nat) : Rat := r.getD (n - 1 - t + (g.length - 1)) 0 * inv
def dv (p g : Cf) (n : Nat) (inv : Rat) : Nat → Cf × Cf
  | 0 => (p, List.replicate n 0)
  | t + 1 => (inn (-(dvF g n inv (dv p g n inv t).1 t)) g (dv p g n inv t).1 (n - 1 - t) g.length, (dv p g n inv t).2.set (n - 1 - t) (dvF g n inv (dv p g n inv t).1 t))
def dvN (p g : Cf) : Nat := p.length + 1 - g.length
theorem dv_len1 (p g : Cf) (n : Nat) (inv : Rat) (t : Nat) : (dv p g n inv t).1.length = p.length := by
  induction t with
  | zero => rfl
  | succ t ih => show (inn _ _ _ _ _).length = _; rw [inn_len, ih]
theorem dv_len2 (p g : Cf) (n : Nat) (inv : Rat) (t : Nat) : (dv p g n inv t).2.length = n := by
  induction t with
  | zero => simp [dv]
  | succ t ih => show (List.set _ _ _).length = _; rw [List.length_set, ih]
def lastR (g : Cf) : Rat := g.getD (g.length - 1) 0
/-- all numbers on the way are not great -/
structure DivB (p g : Cf) : Prop where
  l : p.length ≤ 500000 ∧ 0 < g.length ∧ g.length ≤ 500000
  z : lastR g ≠ 0
  v : QB (lastR g)⁻¹
  r : ∀ t i, QB ((dv p g (dvN p g) (lastR g)⁻¹ t).1.getD i 0)
  s : ∀ t c m, t < dvN p g → c ≤ g.length → QB ((inn (-(dvF g (dvN p g) (lastR g)⁻¹ (dv p g (dvN p g) (lastR g)⁻¹ t).1 t)) g (dv p g (dvN p g) (lastR g)⁻¹ t).1 (dvN p g - 1 - t) c).getD m 0)
  f : ∀ t, t < dvN p g → QB (dvF g (dvN p g) (lastR g)⁻¹ (dv p g (dvN p g) (lastR g)⁻¹ t).1 t)
  gs : ∀ i, QB (g.getD i 0)
  t : ∀ t i, t < dvN p g → QB (dvF g (dvN p g) (lastR g)⁻¹ (dv p g (dvN p g) (lastR g)⁻¹ t).1 t * g.getD i 0)
theorem w_Pdivided (B : Bs P K mg) (p g : Cf) (hb : DivB p g) : FnT P w K mg base 42 (fPoly K "divided") (spT [tP K p, tP K g] (tT K [tP K (trim (dv p g (dvN p g) (lastR g)⁻¹ (dvN p g)).2), tP K (trim (dv p g (dvN p g) (lastR g)⁻¹ (dvN p g)).1)])) := by
  obtain ⟨fd', D⟩ := B.F.d_Poly_divided
  refine fnT_of (fn_ret D sc_Poly_divided rfl fun cdv A outer s H hr => ?_) (bi_Poly_divided D)
  have h1 := hb.l.1
  have h2 := hb.l.2.1
  have h3 := hb.l.2.2
  have hne : g ≠ [] := fun z => by rw [z] at h2; exact absurd h2 (by simp)
  let n := dvN p g
  let iv := (lastR g)⁻¹
  have hn : n = dvN p g := rfl
  have hn2 : n ≤ 500001 := by rw [hn]; unfold dvN; omega
  -- inverse
  refine bt_cons (Δ := [some (tP K p), some (tP K g), some (tQ K iv), none, none, none, none, none, none, none, none]) (st_set (i := 2) (R := tQ K iv) sc_Poly_divided.nd rfl (.inl rfl) ?_ rfl (Sub.refl _) rfl (.inl rfl)) ?_
  · exact et_meth0 (w_Qinv B _ hb.z) B.F.cl_Ratio B.F.me_Ratio_inverse (hr.mono (by omega)) (et_meth0 (w_Plast B g hne) B.F.cl_Poly B.F.me_Poly_last (hr.mono (by omega)) (vr 1 rfl rfl rfl rfl rfl) (noP rfl) rfl) (noQ rfl rfl) rfl
  -- rest
  let Γ0 : Cf → Addr → Cxt := fun r D1 => [some (tP K p), some (tP K g), some (tQ K iv), some (tD D1 (tQs K r)), none, none, none, none, none, none, none]
  refine bt_new (i := 3) (Rs := tQs K p) sc_Poly_divided.nd rfl (.inl rfl) (ef_list rfl B.F.b_list (ET.imp (et_row B.F (vr 0 rfl rfl rfl rfl rfl)) tT_LT)) (fun _ => _) (fun D => SubN.refl _) (fun D1 _ => ?_) rfl (.inl rfl)
  -- size
  refine bt_cons (Δ := [some (tP K p), some (tP K g), some (tQ K iv), some (tD D1 (tQs K p)), some (tI (n : Nat)), none, none, none, none, none, none]) (st_set (i := 4) (R := tI (n : Nat)) sc_Poly_divided.nd rfl (.inl rfl) (ET.imp (et_max2 rfl rfl B.F.b_max et_int (et_add (et_sub (et_lenr B rfl (et_row B.F (vr 0 rfl rfl rfl rfl rfl))) (et_lenr B rfl (et_row B.F (vr 1 rfl rfl rfl rfl rfl)))) et_int)) (tI_of (by rw [hn]; unfold dvN; omega))) rfl (Sub.refl _) rfl (.inl rfl)) ?_
  -- out
  have h0 : (List.range n).map (fun i => tQ K 0) = tQs K (List.replicate n 0) := qs_map (by simp) fun i hi => by simp [List.getD_eq_getElem?_getD, hi]
  refine bt_newLC (i := 5) (Rs := tQs K (List.replicate n 0)) (own := [("_", 10)]) ?_ rfl sc_Poly_divided.nd rfl rfl (fun _ => _) (fun D => SubN.refl _) (fun D2 hD => ?_)
  · rw [← h0]
    exact lc_one (it_rangeN rfl B.F.b_range (vr 4 rfl rfl rfl rfl rfl) rfl (by omega)) (blkOk_by (N := N_Poly_divided) (sc := d_Poly_divided.scope) (by decide +kernel)) (by show 10 < 11; decide) (pgB sc_Poly_divided.nd rfl fun _ _ => rfl)
      (fun i hi s2 H2 C2 cl fp => et_make B.F.mk_Ratio (mkQ1 B 0) (hr.mono (by omega)) rfl B.F.g_Ratio (at_one et_int) rfl rfl rfl) (fun i hi => sol_Q) (by omega)
  have n12 : D1 ≠ D2 := hD 3 D1 (tQs K p) rfl
  let Γs : Nat → Cxt := fun t => [some (tP K p), some (tP K g), some (tQ K iv), some (tD D1 (tQs K (dv p g n iv t).1)), some (tI (n : Nat)), some (tD D2 (tQs K (dv p g n iv t).2)), none, none, none, none, none]
  have hl1 := dv_len1 p g n iv
  have hl2 := dv_len2 p g n iv
  refine bt_cons (Δ := Γs n) ?_ ?_
  · refine st_for1 (i := 6) (n := n) (Rf := fun t => tI (((n : Nat) : Int) - 1 - (t : Nat))) Γs ?_ (Sub.refl _) (fun t ht => ?_) rfl (Sub.refl _) rfl PassesOwn.never sc_Poly_divided.nd rfl rfl (fun _ => rfl)
    · exact it_range3N (by omega) rfl B.F.b_range (et_sub (vr 4 rfl rfl rfl rfl rfl) et_int) (et_neg et_int) (et_neg et_int) (by omega)
    · have hk : ((n : Nat) : Int) - 1 - (t : Nat) = ((n - 1 - t : Nat) : Int) := by omega
      rw [hk]
      let fc := dvF g n iv (dv p g n iv t).1 t
      have hlg : n + g.length = p.length + 1 := by rw [hn] at ht ⊢; unfold dvN at ht ⊢; omega
      let Γb : Cxt := [some (tP K p), some (tP K g), some (tQ K iv), some (tD D1 (tQs K (dv p g n iv t).1)), some (tI (n : Nat)), some (tD D2 (tQs K (dv p g n iv t).2)), some (tI ((n - 1 - t : Nat) : Int)), some (tQ K fc), none, none, none]
      let Γo : Nat → Cxt := fun c => [some (tP K p), some (tP K g), some (tQ K iv), some (tD D1 (tQs K (inn (-fc) g (dv p g n iv t).1 (n - 1 - t) c))), some (tI (n : Nat)), some (tD D2 (tQs K (dv p g n iv (t + 1)).2)), some (tI ((n - 1 - t : Nat) : Int)), some (tQ K fc), none, none, none]
      refine bt_cons (Δ := Γb) (st_set (i := 7) (R := tQ K fc) sc_Poly_divided.nd rfl (.inl rfl) ?_ rfl (Sub.refl _) rfl (.inl rfl)) ?_
      · refine et_own B.F.me_Ratio_mul rfl B.F.sf_Ratio (w_Qmul B _ _ (hb.r t _) hb.v) (hr.mono (by omega)) isQ isQ ?_ (vr 2 rfl rfl rfl rfl rfl)
        exact et_ixL (n - 1 - t + (g.length - 1)) (by omega) (qs_getD (by rw [hl1]; omega)) (ET.imp (vr 3 rfl rfl rfl rfl rfl) tD_L) (et_sub (et_add (vr 6 rfl rfl rfl rfl rfl) (et_lenr B rfl (et_row B.F (vr 1 rfl rfl rfl rfl rfl)))) et_int)
      refine bt_cons (Δ := Γo 0) (st_setI (D := D2) (j := 5) (n := n - 1 - t) (Rs := tQs K (dv p g n iv t).2) (R := tQ K fc) rfl (by rw [qs_len, hl2]; omega) (vr 7 rfl rfl rfl rfl rfl) (vr 5 rfl rfl rfl rfl rfl) (vr 6 rfl rfl rfl rfl rfl) (by simp) ?_ rfl (sol_Q _) stb_Qs rfl ?_) ?_
      · exact stbx_s (sol_P _) (stbx_s (sol_P _) (stbx_s (sol_Q _) (stbx_s (stb_D stb_Qs (by simpa using n12)) (stbx_s (sol_I _) (stbx_0 (stbc_s (sol_I _) (stbc_s (sol_Q _) (stbc_n (stbc_n (stbc_n stbc_nil))))))))))
      · have e : (tQs K (dv p g n iv t).2).set (n - 1 - t) (tQ K fc) = tQs K (dv p g n iv (t + 1)).2 := by
          show _ = tQs K (List.set _ _ _)
          unfold tQs
          rw [List.map_set]
        rw [e]
        exact Sub.refl _
      have hnx : (dv p g n iv (t + 1)).1 = inn (-fc) g (dv p g n iv t).1 (n - 1 - t) g.length := rfl
      by_cases hz : fc = 0
      · refine bt_end (st_ifT (tt_cast (tt_eq (et_n B.F (vr 7 rfl rfl rfl rfl rfl)) et_int rfl) (by rw [num0, decide_eq_true hz])) (bt_last (st_cont rfl ?_)))
        have e : inn (-fc) g (dv p g n iv t).1 (n - 1 - t) 0 = (dv p g n iv (t + 1)).1 := by rw [hnx, hz, Rat.neg_zero, inn_0, inn_0]
        exact sub_eq (sub_eq (sub_eq (sub_im (fun v H h => e ▸ h) (sub_eq (sub_eq (sub_no (sub_no (sub_no (sub_no (sub_no sub_nil))))))))))
      refine bt_cons (Δ := Γo 0) (st_ifF (tt_cast (tt_eq (et_n B.F (vr 7 rfl rfl rfl rfl rfl)) et_int rfl) (by rw [num0, decide_eq_false hz])) (bt_nil rfl (Sub.refl _))) (bt_last ?_)
      refine st_for2 (i := 8) (j := 9) (n := g.length) (Rf := fun c => tI c) (Sf := fun c => tQ K (g.getD c 0)) Γo ?_ (Sub.refl _) (fun c hc => ?_) rfl (sub_eq (sub_eq (sub_eq (sub_eq (sub_eq (sub_eq (sub_no (sub_no (sub_no (sub_no (sub_no sub_nil))))))))))) rfl PassesOwn.never sc_Poly_divided.nd rfl rfl rfl rfl rfl rfl rfl rfl (fun _ => rfl)
      · exact it_enumr B rfl (et_row B.F (vr 1 rfl rfl rfl rfl rfl))
      · have hin : inn (-fc) g (dv p g n iv t).1 (n - 1 - t) (c + 1) = addTo (inn (-fc) g (dv p g n iv t).1 (n - 1 - t) c) (n - 1 - t + c) (-fc * g.getD c 0) := rfl
        by_cases hy : g.getD c 0 = 0
        · refine bt_last (st_ifF (tt_cast (tt_ne (et_n B.F (vr 9 rfl rfl rfl rfl rfl)) et_int rfl) (by rw [num0, decide_eq_true hy]; rfl)) (bt_nil rfl ?_))
          have e : inn (-fc) g (dv p g n iv t).1 (n - 1 - t) c = inn (-fc) g (dv p g n iv t).1 (n - 1 - t) (c + 1) := by rw [hin, hy, Rat.mul_zero, addTo_0]
          exact sub_eq (sub_eq (sub_eq (sub_im (fun v H h => e ▸ h) (sub_eq (sub_eq (sub_eq (sub_eq (sub_no (sub_no (sub_no sub_nil))))))))))
        · refine bt_last (st_ifT (tt_cast (tt_ne (et_n B.F (vr 9 rfl rfl rfl rfl rfl)) et_int rfl) (by rw [num0, decide_eq_false hy]; rfl)) (bt_last ?_))
          have hil : (inn (-fc) g (dv p g n iv t).1 (n - 1 - t) c).length = p.length := by rw [inn_len, hl1]
          refine st_setI (D := D1) (j := 3) (n := n - 1 - t + c) (Rs := tQs K (inn (-fc) g (dv p g n iv t).1 (n - 1 - t) c)) (i := ((n - 1 - t : Nat) : Int) + c) (R := tQ K ((inn (-fc) g (dv p g n iv t).1 (n - 1 - t) c).getD (n - 1 - t + c) 0 - fc * g.getD c 0)) (by simp) (by rw [qs_len, hil]; omega) ?_ (vr 3 rfl rfl rfl rfl rfl) (et_add (vr 6 rfl rfl rfl rfl rfl) (vr 8 rfl rfl rfl rfl rfl)) (by simp) ?_ rfl (sol_Q _) stb_Qs rfl ?_
          · refine et_own B.F.me_Ratio_sub rfl B.F.sf_Ratio (w_Qsub B _ _ (hb.s t c _ ht (by omega)) (hb.t t c ht)) (hr.mono (by omega)) isQ isQ ?_ ?_
            · exact et_ixL (n - 1 - t + c) (by simp) (qs_getD (by rw [hil]; omega)) (ET.imp (vr 3 rfl rfl rfl rfl rfl) tD_L) (et_add (vr 6 rfl rfl rfl rfl rfl) (vr 8 rfl rfl rfl rfl rfl))
            · exact et_own B.F.me_Ratio_mul rfl B.F.sf_Ratio (w_Qmul B _ _ (hb.f t ht) (hb.gs c)) (hr.mono (by omega)) isQ isQ (vr 7 rfl rfl rfl rfl rfl) (vr 9 rfl rfl rfl rfl rfl)
          · exact stbx_s (sol_P _) (stbx_s (sol_P _) (stbx_s (sol_Q _) (stbx_0 (stbc_s (sol_I _) (stbc_s (stb_D stb_Qs (by simpa using fun z => n12 z.symm)) (stbc_s (sol_I _) (stbc_s (sol_Q _) (stbc_s (sol_I _) (stbc_s (sol_Q _) (stbc_n stbc_nil))))))))))
          · have e : (inn (-fc) g (dv p g n iv t).1 (n - 1 - t) c).getD (n - 1 - t + c) 0 - fc * g.getD c 0 = (inn (-fc) g (dv p g n iv t).1 (n - 1 - t) c).getD (n - 1 - t + c) 0 + -fc * g.getD c 0 := by grind
            rw [e, qs_addTo]
            exact sub_eq (sub_eq (sub_eq (sub_eq (sub_eq (sub_eq (sub_eq (sub_eq (sub_no (sub_no (sub_eq sub_nil))))))))))
  · refine bt_last (st_ret (et_disT (at_two (et_Poly B (hr.mono (by omega)) (by rw [hl2]; omega) rfl (ET.imp (vr 5 rfl rfl rfl rfl rfl) tD_Ln)) (et_Poly B (hr.mono (by omega)) (by rw [hl1]; omega) rfl (ET.imp (vr 3 rfl rfl rfl rfl rfl) tD_Ln))) (by simp [sizeLine])) rfl)
end
end SLT
set_option exponentiation.threshold 256
set_option maxRecDepth 100000
set_option maxHeartbeats 1000000
namespace SLT
open PySem PySem.Spec PyProof.Rows L2 SL SW
section
variable {P : Program} {w : World} {K : PySem.W.Frag} {mg : Str → Option Value} {base : Heap} {k : Nat}
/-- what // gives -/
def quo (p g : Cf) : Cf := trim (dv p g (dvN p g) (lastR g)⁻¹ (dvN p g)).2
theorem w_Pfloordiv (B : Bs P K mg) (p g : Cf) (hb : DivB p g) : FnT P w K mg base 44 (fPoly K "__floordiv__") (spT [tP K p, tP K g] (tP K (quo p g))) := by
  obtain ⟨fd', D⟩ := B.F.d_Poly_floordiv
  refine fnT_of (fn_ret D sc_Poly_floordiv rfl fun cdv A outer s H hr => ?_) (bi_Poly_floordiv D)
  exact bt_last (st_ret (et_ixT 0 rfl rfl (et_meth (w_Pdivided B p g hb) B.F.cl_Poly B.F.me_Poly_divided (hr.mono (by omega)) (vr 0 rfl rfl rfl rfl rfl) (noP rfl) (at_one (vr 1 rfl rfl rfl rfl rfl)) rfl rfl rfl) et_int) rfl)
def shSt (p : Cf) (a : Rat) : Nat → Pol
  | 0 => Pol.of []
  | t + 1 => shSt p a t * Pol.of [a, 1] + Pol.C (p.getD (p.length - 1 - t) 0)
structure ShB (p : Cf) (a : Rat) : Prop where
  l : p.length ≤ 500000
  m : ∀ t, t < p.length → MulB (shSt p a t).row (Pol.of [a, 1]).row
  s : ∀ t, t < p.length → PB (shSt p a t * Pol.of [a, 1]).row
  c : ∀ i, QB (p.getD i 0)
theorem PB_C {q : Rat} (h : QB q) : PB (Pol.C q).row := by
  have e : (Pol.C q).row = trim [q] := rfl
  rw [e]
  refine ⟨Nat.le_trans (trim_le _) (by simp), fun c hc => ?_⟩
  rw [← trim_pre] at hc
  have := List.mem_of_mem_take hc
  rw [List.mem_singleton.mp this]; exact h
theorem it_revQ {X : Cx} {Γ : Cxt} {e tg : Expr} {pos pp : Pos} {m : List Addr} {p : Cf} (B : Bs X.prog X.K X.mg) (hg : Gl X "reversed") (he : ET X Γ e (tLn m (tQs X.K p))) (hs : starEach [e] X.env = (false, eval e X.env) :: starEach [] X.env := by rfl) : IT_ m X Γ tg (.Call (.Name "reversed" pp) [e] [] pos) p.length fun t => tQ X.K (p.getD (p.length - 1 - t) 0) := by
  have h := it_rev (tg := tg) (p := pp) (pos := pos) (Rf := fun t => tQ X.K (p.getD (p.length - 1 - t) 0)) hg B.F.b_reversed he (fun i hi => by rw [qs_len] at hi ⊢; exact qs_getD (by omega)) stb_Qs hs
  rwa [qs_len] at h
theorem w_Pshifted (B : Bs P K mg) (p : Cf) (a : Rat) (hb : ShB p a) : FnT P w K mg base 46 (fPoly K "shifted") (spT [tP K p, tQ K a] (tP K (shSt p a p.length).row)) := by
  obtain ⟨fd', D⟩ := B.F.d_Poly_shifted
  refine fnT_of (fn_ret D sc_Poly_shifted rfl fun cdv A outer s H hr => ?_) (bi_Poly_shifted D)
  have h1 := hb.l
  refine bt_cons (Δ := [some (tP K p), some (tQ K a), some (tP K (Pol.of []).row), none, none]) (st_set (i := 2) sc_Poly_shifted.nd rfl (.inl rfl) (et_make B.F.mk_Poly (mkP_T B [] (by simp)) (hr.mono (by omega)) rfl B.F.g_Poly (at_one (et_disT (Rs := tMs K []) at_nil (by simp [tMs]))) rfl rfl rfl) rfl (Sub.refl _) rfl (.inl rfl)) ?_
  refine bt_cons (Δ := [some (tP K p), some (tQ K a), some (tP K (Pol.of []).row), some (tP K (Pol.of [a, 1]).row), none]) (st_set (i := 3) sc_Poly_shifted.nd rfl (.inl rfl) (et_make B.F.mk_Poly (mkP_T B [a, 1] (by simp)) (hr.mono (by omega)) rfl B.F.g_Poly (at_one (et_disT (Rs := tMs K [a, 1]) (at_two (ET.imp (vr 1 rfl rfl rfl rfl rfl) tQ_M) (ET.imp et_int (tI_M (n := 1) rfl))) (by simp [tMs, sizeLine]))) rfl rfl rfl) rfl (Sub.refl _) rfl (.inl rfl)) ?_
  let Γs : Nat → Cxt := fun t => [some (tP K p), some (tQ K a), some (tP K (shSt p a t).row), some (tP K (Pol.of [a, 1]).row), none]
  refine bt_cons (Δ := Γs p.length) ?_ (bt_last (st_ret (vr 2 rfl rfl rfl rfl rfl) rfl))
  refine st_for1 (i := 4) (n := p.length) (Rf := fun t => tQ K (p.getD (p.length - 1 - t) 0)) Γs ?_ (Sub.refl _) (fun t ht => ?_) rfl (Sub.refl _) rfl PassesOwn.never sc_Poly_shifted.nd rfl rfl (fun _ => rfl)
  · exact it_revQ B rfl (EF.et (ef_list rfl B.F.b_list (ET.imp (et_row B.F (vr 0 rfl rfl rfl rfl rfl)) tT_LT)))
  · refine bt_last (st_set (i := 2) (R := tP K (shSt p a (t + 1)).row) sc_Poly_shifted.nd rfl (.inl rfl) ?_ rfl (sub_eq (sub_eq (sub_eq (sub_eq (sub_no sub_nil))))) rfl (.inl rfl))
    refine et_own B.F.me_Poly_add rfl B.F.sf_Poly (w_Padd B (shSt p a t * Pol.of [a, 1]) (Pol.C _) (hb.s t ht) (PB_C (hb.c _))) (hr.mono (by omega)) isP isP ?_ ?_
    · exact et_own B.F.me_Poly_mul rfl B.F.sf_Poly (w_Pmul B _ _ (hb.m t ht)) (hr.mono (by omega)) isP isP (vr 2 rfl rfl rfl rfl rfl) (vr 3 rfl rfl rfl rfl rfl)
    · exact et_make B.F.mk_Poly (mkP_T B [p.getD (p.length - 1 - t) 0] (by simp)) (hr.mono (by omega)) rfl B.F.g_Poly (at_one (ET.imp (et_disT (Rs := tQs K [p.getD (p.length - 1 - t) 0]) (at_one (vr 4 rfl rfl rfl rfl rfl)) (by simp [tQs, sizeLine])) tTQ_M)) rfl rfl rfl
def scl (p : Cf) : Nat → Nat
  | 0 => 1
  | t + 1 => Nat.lcm (scl p t) (p.getD t 0).den
def prN (p : Cf) (i : Nat) : Int := (p.getD i 0).num * ((scl p p.length / (p.getD i 0).den : Nat) : Int)
def com (p : Cf) : Nat → Nat
  | 0 => 0
  | t + 1 => Nat.gcd (com p t) (prN p t).natAbs
def comS (p : Cf) : Int := if (lastR p).num < 0 then -(com p p.length : Int) else (com p p.length : Int)
def prims (p : Cf) : List Int := (List.range p.length).map fun i => (prN p i).fdiv (comS p)
def tIs (l : List Int) : List Ty := l.map tI
structure PrB (p : Cf) : Prop where
  l : p.length ≤ 500000
  n : p ≠ []
  s : ∀ t, t ≤ p.length → scl p t < 2 ^ 13400
  d : ∀ i, (p.getD i 0).den < 2 ^ 13400
  q : ∀ i, QB (p.getD i 0)
  c : comS p ≠ 0
theorem scl_pos (p : Cf) (t : Nat) : 0 < scl p t := by
  induction t with
  | zero => exact Nat.one_pos
  | succ t ih => exact Nat.lcm_pos ih (p.getD t 0).den_pos
theorem scl_dvd (p : Cf) : ∀ t i, i < t → (p.getD i 0).den ∣ scl p t
  | t + 1, i, h => by
    unfold scl
    by_cases e : i = t
    · subst e; exact Nat.dvd_lcm_right _ _
    · exact Nat.dvd_trans (scl_dvd p t i (by omega)) (Nat.dvd_lcm_left _ _)
theorem scl_fdiv (p : Cf) (i : Nat) : ((scl p p.length : Nat) : Int).fdiv ((p.getD i 0).den : Nat) = ((scl p p.length / (p.getD i 0).den : Nat) : Int) := by
  rw [Int.fdiv_eq_ediv, if_pos (.inl (by omega))]
  simp
theorem r_lcm {a b : Nat} (ha : a < 2 ^ 13400) (hb : b < 2 ^ 13400) : RnT rLcm [tI (a : Int), tI (b : Int)] (tI ((Nat.lcm a b : Nat) : Int)) := by
  intro xs H Q h k
  obtain ⟨v, c, e, h1, h2⟩ := tvs_two h
  exact ⟨a, b, by rw [e, show v = .int _ from h1, show c = .int _ from h2], ha, hb, k _ H (Same.refl H) rfl⟩
theorem w_Pprim (B : Bs P K mg) (p : Cf) (hb : PrB p) : FnT P w K mg base 42 (fPoly K "primitive") (spT [tP K p] (tT K [tQ K (Rat.divInt (comS p) (scl p p.length)), tT K (tIs (prims p))])) := by
  obtain ⟨fd', D⟩ := B.F.d_Poly_primitive
  refine fnT_of (fn_ret D sc_Poly_primitive rfl fun cdv A outer s H hr => ?_) (bi_Poly_primitive D)
  have h1 := hb.l
  have hmul : ∀ t, CMulB (p.getD t 0).num (((scl p p.length : Nat) : Int).fdiv ((p.getD t 0).den : Nat)) := fun t => by
    rw [scl_fdiv]
    refine CMulB.of (a := 60000000) (b := 13400) (hb.q t).1 ?_ (by decide) (by decide) (by decide)
    rw [Int.natAbs_natCast]
    exact Nat.lt_of_le_of_lt (Nat.div_le_self _ _) (hb.s _ (Nat.le_refl _))
  let Γs : Int → Int → Cxt := fun a b => [some (tP K p), some (tI a), some (tI b), none, none]
  refine bt_cons (Δ := Γs 1 0) (st_unpack (K := K) (i := 1) (j := 2) rfl rfl sc_Poly_primitive.nd rfl rfl (.inr rfl) (.inr rfl) (.inl rfl) (.inl rfl) (et_disT (at_two et_int et_int) (by simp [sizeLine])) rfl (Sub.refl _) rfl rfl rfl rfl rfl rfl rfl) ?_
  refine bt_cons (Δ := Γs (scl p p.length : Nat) 0) ?_ ?_
  · refine st_for1 (i := 3) (n := p.length) (Rf := fun t => tQ K (p.getD t 0)) (fun t => Γs (scl p t : Nat) 0) (it_row (et_row B.F (vr 0 rfl rfl rfl rfl rfl))) (Sub.refl _) (fun t ht => ?_) rfl (Sub.refl _) rfl PassesOwn.never sc_Poly_primitive.nd rfl rfl (fun _ => rfl)
    exact bt_last (st_set (i := 1) (R := tI (scl p (t + 1) : Nat)) sc_Poly_primitive.nd rfl (.inr rfl) (et_callM cr_lcm rfl B.F.m_lcm (at_two (vc 1 rfl rfl rfl rfl rfl) (et_d B.F (vr 3 rfl rfl rfl rfl rfl))) (r_lcm (hb.s t (by omega)) (hb.d t)) rfl rfl rfl) rfl (sub_eq (sub_eq (sub_eq (sub_no (sub_eq sub_nil))))) rfl (.inl rfl))
  refine bt_cons (Δ := Γs (scl p p.length : Nat) (com p p.length : Nat)) ?_ ?_
  · refine st_for1 (i := 3) (n := p.length) (Rf := fun t => tQ K (p.getD t 0)) (fun t => Γs (scl p p.length : Nat) (com p t : Nat)) (it_row (et_row B.F (vr 0 rfl rfl rfl rfl rfl))) (Sub.refl _) (fun t ht => ?_) rfl (Sub.refl _) rfl PassesOwn.never sc_Poly_primitive.nd rfl rfl (fun _ => rfl)
    refine bt_last (st_set (i := 2) (R := tI (com p (t + 1) : Nat)) sc_Poly_primitive.nd rfl (.inr rfl) ?_ rfl (sub_eq (sub_eq (sub_eq (sub_no (sub_eq sub_nil))))) rfl (.inl rfl))
    have hgc : RnT rGcd [tI (com p t : Nat), tI ((p.getD t 0).num * ((scl p p.length : Nat) : Int).fdiv ((p.getD t 0).den : Nat))] (tI (com p (t + 1) : Nat)) := by
      rw [scl_fdiv]
      exact r_gcd
    exact et_callM cr_gcd rfl B.F.m_gcd (at_two (vc 2 rfl rfl rfl rfl rfl) (et_mul (hmul t) (et_n B.F (vr 3 rfl rfl rfl rfl rfl)) (fd B sc_Poly_primitive (hr.mono (by omega)) (nz _) (vc 1 rfl rfl rfl rfl rfl) (et_d B.F (vr 3 rfl rfl rfl rfl rfl))))) hgc rfl rfl rfl
  refine bt_cons (Δ := Γs (scl p p.length : Nat) (comS p)) ?_ ?_
  · unfold comS
    by_cases hn : (lastR p).num < 0
    · rw [if_pos hn]
      refine st_ifT (tt_cast (tt_lt (et_n B.F (et_meth0 (w_Plast B p hb.n) B.F.cl_Poly B.F.me_Poly_last (hr.mono (by omega)) (vr 0 rfl rfl rfl rfl rfl) (noP rfl) rfl)) et_int rfl) (decide_eq_true hn)) (bt_last (st_set (i := 2) sc_Poly_primitive.nd rfl (.inr rfl) (et_neg (vc 2 rfl rfl rfl rfl rfl)) rfl (Sub.refl _) rfl (.inl rfl)))
    · rw [if_neg hn]
      refine st_ifF (tt_cast (tt_lt (et_n B.F (et_meth0 (w_Plast B p hb.n) B.F.cl_Poly B.F.me_Poly_last (hr.mono (by omega)) (vr 0 rfl rfl rfl rfl rfl) (noP rfl) rfl)) et_int rfl) (decide_eq_false hn)) (bt_nil rfl (Sub.refl _))
  refine bt_cons (Δ := [some (tP K p), some (tI (scl p p.length : Nat)), some (tI (comS p)), none, some (tT K (tIs (prims p)))]) (st_set (i := 4) (R := tT K (tIs (prims p))) sc_Poly_primitive.nd rfl (.inl rfl) ?_ rfl (Sub.refl _) rfl (.inl rfl)) ?_
  · have e : (List.range p.length).map (fun i => tI ((prN p i).fdiv (comS p))) = tIs (prims p) := by unfold tIs prims; rw [List.map_map]; rfl
    rw [← e]
    refine et_tup rfl B.F.b_tuple (ET.imp (EF.et (ef_lc (lc_one (j := 3) (it_row (et_row B.F (vr 0 rfl rfl rfl rfl rfl))) (blkOk_by (N := N_Poly_primitive) (sc := d_Poly_primitive.scope) (by decide +kernel)) (by show 3 < 5; decide) (pgB sc_Poly_primitive.nd rfl fun _ _ => rfl) (fun i hi s2 H2 C2 cl fp => ?_) (fun i hi => sol_I) (by omega)) rfl sc_Poly_primitive.nd)) tLn_LT)
    have ho : ∀ sc ce, OpR ((BodyCx P w K mg base N_Poly_primitive d_Poly_primitive.qual d_Poly_primitive.scope (fPoly K "primitive") cdv A outer s H).blk s2 H2 sc ce fp) (binaryOp .FloorDiv) (rI (fun _ j => j ≠ 0) fun i j => .int (i.fdiv j)) := fun sc ce =>
      op_fdivB (env0 := envOfC d_Poly_primitive.qual d_Poly_primitive.scope s.heap.objs.size (fPoly K "primitive") cdv) (l := outer) B.F.seer B.tree (hr.mono (by omega)) rfl sc_Poly_primitive.gen sc_Poly_primitive.co rfl rfl
    have hp : prN p i = (p.getD i 0).num * ((scl p p.length : Nat) : Int).fdiv ((p.getD i 0).den : Nat) := by rw [scl_fdiv]; rfl
    rw [hp]
    exact et_fdiv (ho _ _) hb.c (et_mul (hmul i) (et_n B.F (vr 3 rfl rfl rfl rfl rfl)) (et_fdiv (ho _ _) (nz _) (vc 1 rfl rfl rfl rfl rfl) (et_d B.F (vr 3 rfl rfl rfl rfl rfl)))) (vc 2 rfl rfl rfl rfl rfl)
  exact bt_last (st_ret (et_disT (at_two (et_make B.F.mk_Ratio (mkQ2 B _ _ (Int.natCast_ne_zero.mpr (Nat.pos_iff_ne_zero.mp (scl_pos p _)))) (hr.mono (by omega)) rfl B.F.g_Ratio (at_two (vc 2 rfl rfl rfl rfl rfl) (vc 1 rfl rfl rfl rfl rfl)) rfl rfl rfl) (vr 4 rfl rfl rfl rfl rfl)) (by simp [sizeLine])) rfl)
end
end SLT
set_option exponentiation.threshold 256
set_option maxRecDepth 100000
set_option maxHeartbeats 1000000
namespace SLT
open PySem PySem.Spec PyProof.Rows L2 SL SW
abbrev Iw := List Int
/-- no zeros at the end -/
def trimI : Iw → Iw
  | [] => []
  | a :: r => match trimI r with
    | [] => if a = 0 then [] else [a]
    | b :: s => a :: b :: s
def tendI (p : Iw) (k : Nat) : Bool := decide (0 < k) && decide (p.getD (k - 1) 0 = 0)
theorem trimI_snoc0 (p : Iw) : trimI (p ++ [0]) = trimI p := by
  induction p with
  | nil => simp [trimI]
  | cons a r ih => simp only [List.cons_append, trimI, ih]
theorem trimI_snoc (p : Iw) {a : Int} (h : a ≠ 0) : trimI (p ++ [a]) = p ++ [a] := by
  induction p with
  | nil => simp [trimI, h]
  | cons b r ih =>
    simp only [List.cons_append, trimI, ih]
    cases r <;> rfl
theorem trimI_step {p : Iw} {k : Nat} (hk : k ≤ p.length) (h : tendI p k = true) : trimI (p.take (k - 1)) = trimI (p.take k) := by
  unfold tendI at h
  simp only [Bool.and_eq_true, decide_eq_true_eq] at h
  obtain ⟨j, rfl⟩ : ∃ j, k = j + 1 := ⟨k - 1, by omega⟩
  have hj : j < p.length := by omega
  rw [Nat.add_sub_cancel] at h ⊢
  rw [List.take_succ_eq_append_getElem hj, show p[j] = 0 by have := h.2; rwa [List.getD_eq_getElem?_getD, List.getElem?_eq_getElem hj] at this, trimI_snoc0]
theorem trimI_end {p : Iw} {k : Nat} (hk : k ≤ p.length) (h : tendI p k = false) : trimI (p.take k) = p.take k := by
  cases k with
  | zero => rfl
  | succ j =>
    have hj : j < p.length := by omega
    unfold tendI at h
    simp at h
    rw [List.take_succ_eq_append_getElem hj]
    apply trimI_snoc
    rwa [List.getElem?_eq_getElem hj] at h
theorem trimI_pre (p : Iw) : p.take (trimI p).length = trimI p := by
  induction p with
  | nil => rfl
  | cons a r ih =>
    unfold trimI
    cases h : trimI r with
    | nil => by_cases ha : a = 0 <;> simp [ha]
    | cons b s =>
      rw [h] at ih
      simp only [List.length_cons] at ih ⊢
      rw [List.take_succ_cons, ih]
theorem trimI_le (p : Iw) : (trimI p).length ≤ p.length := by
  have := congrArg List.length (trimI_pre p)
  rw [List.length_take] at this
  omega
def gcdI (l : Iw) : Nat → Nat
  | 0 => 0
  | t + 1 => Nat.gcd (gcdI l t) (l.getD t 0).natAbs
def pRow (l : Iw) : Iw := if gcdI (trimI l) (trimI l).length < 2 then trimI l else (trimI l).map fun n => n.fdiv (gcdI (trimI l) (trimI l).length : Nat)
section
variable {P : Program} {w : World} {K : PySem.W.Frag} {mg : Str → Option Value} {base : Heap} {k : Nat}
theorem is_len (p : Iw) : (tIs p).length = p.length := List.length_map _
theorem is_getD {p : Iw} {i : Nat} (h : i < p.length) : (tIs p)[i]? = some (tI (p.getD i 0)) := by
  unfold tIs
  rw [List.getElem?_map, List.getD_eq_getElem?_getD, List.getElem?_eq_getElem h]; rfl
theorem sol_Is {p : Iw} : ∀ R ∈ tIs p, Sol R := fun R h => by
  obtain ⟨q, _, rfl⟩ := List.mem_map.mp h
  exact sol_I
theorem stb_Is {m : List Addr} {p : Iw} : ∀ R ∈ tIs p, Stb m R := fun R h => sol_Is R h m
theorem is_map {n : Nat} {f : Nat → Int} {p : Iw} (h1 : p.length = n) (h : ∀ i, i < n → p.getD i 0 = f i) : (List.range n).map (fun i => tI (f i)) = tIs p := by
  unfold tIs
  apply List.ext_getElem
  · simp [h1]
  · intro i h2 h3
    simp at h2 h3
    have := h i h2
    rw [List.getD_eq_getElem?_getD, List.getElem?_eq_getElem (by omega)] at this
    simp at this
    simp [this]
section
variable {X : Cx} {Γ : Cxt} {e tg : Expr} {pos pp : Pos} {p : Iw} {m : List Addr}
theorem et_leni (B : Bs X.prog X.K X.mg) (hg : Gl X "len") (he : ET X Γ e (tLn m (tIs p))) (hs : starEach [e] X.env = (false, eval e X.env) :: starEach [] X.env := by rfl) : ET X Γ (.Call (.Name "len" pp) [e] [] pos) (tI (p.length : Nat)) := by
  have h := et_len (p := pp) (pos := pos) hg B.F.b_len (ET.imp he (fun v H h => tLn_LT (K := X.K) v H h)) hs
  rwa [is_len] at h
theorem it_rowI (he : ET X Γ e (tLn m (tIs p))) : IT_ m X Γ tg e p.length fun i => tI (p.getD i 0) := by
  have h := it_lst (K := X.K) (tg := tg) he (Rf := fun i => tI (p.getD i 0)) (fun i hi => is_getD (by rwa [is_len] at hi)) stb_Is
  rwa [is_len] at h
theorem it_enumI {elts : List Expr} {kk : Nat} {tpos : Pos} (B : Bs X.prog X.K X.mg) (hg : Gl X "enumerate") (he : ET X Γ e (tLn m (tIs p))) (hs : starEach [e] X.env = [(false, eval e X.env)] := by rfl) : IT_ m X Γ (.Tuple elts kk tpos) (.Call (.Name "enumerate" pp) [e] [] pos) p.length fun i => tT X.K [tI i, tI (p.getD i 0)] := by
  have h := it_enumL (m := m) (elts := elts) (kk := kk) (tpos := tpos) (p := pp) (pos := pos) hg B.F.b_enumerate he (Rf := fun i => tI (p.getD i 0)) (fun i hi => is_getD (by rwa [is_len] at hi)) stb_Is hs
  rwa [is_len] at h
theorem et_ofEFI {n : Nat} {f : Nat → Int} (h : EF X Γ e ((List.range n).map fun i => tI (f i))) (h1 : p.length = n) (h2 : ∀ i, i < n → p.getD i 0 = f i) : ET X Γ e (tLn [] (tIs p)) := by
  rw [is_map h1 h2] at h
  exact h.et
theorem ef_toI {n : Nat} {a b : Expr} {p2 : Pos} (ha : ET X Γ a (tLn m (tIs p))) (hb : ET X Γ b (tI (n : Nat))) (hn : n ≤ p.length) : EF X Γ (.Subscript a (.Slice none (some b) none p2) pos) (tIs (p.take n)) := by
  have h := ef_slL (p2 := p2) (pos := pos) (ET.imp ha (fun v H h => tLn_L (K := X.K) v H h)) pt_no (pt_at hb)
  rw [cut_to (by rw [is_len]; exact hn)] at h
  unfold tIs at h ⊢
  rwa [List.map_take]
end
theorem w_prow (B : Bs P K mg) (p : Iw) (hl : p.length ≤ 500000) : FnT P w K mg base 36 (fTop K "_primitive_row") (spT [tLn [] (tIs p)] (tLn [] (tIs (pRow p)))) := by
  obtain ⟨fd', D⟩ := B.F.d_primitive_row
  refine fnT_of (fn_ret D sc_primitive_row rfl fun cdv A outer s H hr => ?_) (bi_primitive_row D)
  let Γs : Nat → Cxt := fun k => [some (tLn [] (tIs p)), some (tI (k : Nat)), none, none]
  refine bt_cons (Δ := Γs p.length) (st_set (i := 1) sc_primitive_row.nd rfl (.inl rfl) (et_leni B rfl (vr 0 rfl rfl rfl rfl rfl)) rfl (Sub.refl _) rfl (.inl rfl)) ?_
  refine bt_cons (Δ := Γs (trimI p).length) (st_while Γs (tendI p) (fun k => k - 1) id p.length (fun k => k ≤ p.length ∧ trimI (p.take k) = trimI p) PassesOwn.never (Sub.refl _) ⟨Nat.le_refl _, by rw [List.take_length]⟩ (fun k hk => ?_) (fun k hk hd => ?_) (fun k hk hd => ?_) rfl (fun k hk hd => ?_)) ?_
  · refine WT_.tt (and2 (p := decide (0 < k)) (q := decide (p.getD (k - 1) 0 = 0)) (tt_cast (tt_gt (vr 1 rfl rfl rfl rfl rfl) et_int rfl) (by simp)) fun h => ?_)
    have h0 : 0 < k := of_decide_eq_true h
    have hk2 : k - 1 < p.length := by have := hk.1; omega
    exact tt_eq (et_ixL (k - 1) (by omega) (is_getD hk2) (ET.imp (vr 0 rfl rfl rfl rfl rfl) tLn_L) (et_sub (vr 1 rfl rfl rfl rfl rfl) et_int)) et_int rfl
  · have h0 : 0 < k := by unfold tendI at hd; simp at hd; omega
    refine bt_last (st_set (i := 1) sc_primitive_row.nd rfl (.inl rfl) (ET.imp (et_sub (vr 1 rfl rfl rfl rfl rfl) et_int) (tI_of (c := ((k - 1 : Nat) : Int)) (by omega))) rfl (Sub.refl _) rfl (.inl rfl))
  · have h0 : 0 < k := by unfold tendI at hd; simp at hd; omega
    exact ⟨⟨by have := hk.1; omega, by rw [trimI_step hk.1 hd]; exact hk.2⟩, by show k - 1 < k; omega⟩
  · have e : (trimI p).length = k := by
      rw [← hk.2, trimI_end hk.1 hd, List.length_take]
      have := hk.1; omega
    rw [e]
    exact Sub.refl _
  have h1 := trimI_le p
  have h2 := trimI_pre p
  let l := trimI p
  let Γc : Nat → Cxt := fun c => [some (tLn [] (tIs p)), some (tI (l.length : Nat)), some (tI (c : Nat)), none]
  have hsl : ∀ {c pos p1 p2 p3}, EF (BodyCx P w K mg base N_primitive_row d_primitive_row.qual d_primitive_row.scope (fTop K "_primitive_row") cdv A outer s H) (Γc c) (.Subscript (.Name "row" p1) (.Slice none (some (.Name "size" p2)) none p3) pos) (tIs l) := fun {c pos p1 p2 p3} => by
    have h := ef_toI (p2 := p3) (pos := pos) (X := BodyCx P w K mg base N_primitive_row d_primitive_row.qual d_primitive_row.scope (fTop K "_primitive_row") cdv A outer s H) (Γ := Γc c) (p := p) (m := []) (n := l.length) (a := .Name "row" p1) (b := .Name "size" p2) (vr 0 rfl rfl rfl rfl rfl) (vr 1 rfl rfl rfl rfl rfl) h1
    rwa [h2] at h
  refine bt_cons (Δ := Γc 0) (st_set (i := 2) sc_primitive_row.nd rfl (.inr rfl) et_int rfl (Sub.refl _) rfl (.inl rfl)) ?_
  refine bt_cons (Δ := Γc (gcdI l l.length)) ?_ ?_
  · refine st_for1 (i := 3) (n := l.length) (Rf := fun t => tI (l.getD t 0)) (fun t => Γc (gcdI l t)) (it_rowI (EF.et hsl)) (Sub.refl _) (fun t ht => ?_) rfl (Sub.refl _) rfl PassesOwn.never sc_primitive_row.nd rfl rfl (fun _ => rfl)
    exact bt_last (st_set (i := 2) (R := tI (gcdI l (t + 1) : Nat)) sc_primitive_row.nd rfl (.inr rfl) (et_callM cr_gcd rfl B.F.m_gcd (at_two (vc 2 rfl rfl rfl rfl rfl) (vr 3 rfl rfl rfl rfl rfl)) r_gcd rfl rfl rfl) rfl (sub_eq (sub_eq (sub_eq (sub_no sub_nil)))) rfl (.inl rfl))
  by_cases hc : gcdI l l.length < 2
  · have e : pRow p = l := by unfold pRow; rw [if_pos hc]
    rw [e]
    refine bt_end (st_ifT (tt_cast (tt_lt (vc 2 rfl rfl rfl rfl rfl) et_int rfl) (by simp; omega)) (bt_last (st_ret (EF.et hsl) rfl)))
  · refine bt_cons (Δ := Γc (gcdI l l.length)) (st_ifF (tt_cast (tt_lt (vc 2 rfl rfl rfl rfl rfl) et_int rfl) (by simp; omega)) (bt_nil rfl (Sub.refl _))) (bt_last (st_ret (R := tLn [] (tIs (pRow p))) ?_ rfl))
    have e : pRow p = l.map fun n => n.fdiv (gcdI l l.length : Nat) := by unfold pRow; rw [if_neg hc]
    refine et_ofEFI (ef_lc (lc_one (Sf := fun i => tI ((l.getD i 0).fdiv (gcdI l l.length : Nat))) (j := 3) (it_rowI (EF.et hsl)) (blkOk_by (N := N_primitive_row) (sc := d_primitive_row.scope) (by decide +kernel)) (by show 3 < 4; decide) (pgB sc_primitive_row.nd rfl fun _ _ => rfl) (fun i hi s2 H2 C2 cl fp => ?_) (fun i hi => sol_I) (Nat.le_trans h1 (by omega))) rfl sc_primitive_row.nd) (by rw [e]; simp) (fun i hi => by rw [e]; simp [List.getD_eq_getElem?_getD, hi])
    have ho : ∀ sc ce, OpR ((BodyCx P w K mg base N_primitive_row d_primitive_row.qual d_primitive_row.scope (fTop K "_primitive_row") cdv A outer s H).blk s2 H2 sc ce fp) (binaryOp .FloorDiv) (rI (fun _ j => j ≠ 0) fun i j => .int (i.fdiv j)) := fun sc ce =>
      op_fdivB (env0 := envOfC d_primitive_row.qual d_primitive_row.scope s.heap.objs.size (fTop K "_primitive_row") cdv) (l := outer) B.F.seer B.tree (hr.mono (by omega)) rfl sc_primitive_row.gen sc_primitive_row.co rfl rfl
    exact et_fdiv (ho _ _) (by omega) (vr 3 rfl rfl rfl rfl rfl) (vc 2 rfl rfl rfl rfl rfl)
def lastI (l : Iw) : Int := l.getD (l.length - 1) 0
def subI (r : Iw) (f : Int) (s : Iw) (sh : Nat) : Nat → Iw
  | 0 => r
  | c + 1 => (subI r f s sh c).set (sh + c) ((subI r f s sh c).getD (sh + c) 0 - f * s.getD c 0)
theorem subI_len (r : Iw) (f : Int) (s : Iw) (sh c : Nat) : (subI r f s sh c).length = r.length := by
  induction c with
  | zero => rfl
  | succ c ih => show (List.set _ _ _).length = _; rw [List.length_set, ih]
def cmI (s r : Iw) : Nat := Nat.gcd (lastI s).natAbs (lastI r).natAbs
def tmI (s r : Iw) : Int := (lastI s).fdiv (cmI s r : Nat)
def fcI (s r : Iw) : Int := (lastI r).fdiv (cmI s r : Nat)
def mlI (s r : Iw) : Iw := r.map fun n => tmI s r * n
def stp (s r : Iw) : Iw := trimI (subI (mlI s r) (fcI s r) s (r.length - s.length) s.length)
theorem stp_le (s r : Iw) : (stp s r).length ≤ r.length := by
  unfold stp
  refine Nat.le_trans (trimI_le _) ?_
  rw [subI_len]; unfold mlI; rw [List.length_map]; exact Nat.le_refl _
def sts (s f : Iw) : Nat → Iw
  | 0 => f
  | t + 1 => stp s (sts s f t)
theorem sts_le (s f : Iw) (t : Nat) : (sts s f t).length ≤ f.length := by
  induction t with
  | zero => exact Nat.le_refl _
  | succ t ih => exact Nat.le_trans (stp_le _ _) ih
/-- the turns and the sizes on the way -/
structure IrB (f s : Iw) (T : Nat) : Prop where
  l : f.length ≤ 500000 ∧ s.length ≤ 500000
  z : lastI s ≠ 0
  go : ∀ t, t < T → s.length ≤ (sts s f t).length
  st : (sts s f T).length < s.length
  m : ∀ t, t < T → ∀ n ∈ sts s f t, CMulB (tmI s (sts s f t)) n
  f : ∀ t, t < T → ∀ n ∈ s, CMulB (fcI s (sts s f t)) n
theorem w_irest (B : Bs P K mg) (f s : Iw) (T : Nat) (hb : IrB f s T) : FnT P w K mg base 40 (fTop K "_integer_rest") (spT [tLn [] (tIs f), tLn [] (tIs s)] (tLn [] (tIs (pRow (sts s f T))))) := by
  obtain ⟨fd', D⟩ := B.F.d_integer_rest
  refine fnT_of (fn_ret D sc_integer_rest rfl fun cdv A outer sh0 H hr => ?_) (bi_integer_rest D)
  have hs0 : s ≠ [] := fun z => hb.z (by rw [z]; rfl)
  have hs1 : 0 < s.length := List.length_pos_iff.mpr hs0
  have hl := hb.l
  let Γs : Nat → Cxt := fun t => [none, some (tLn [] (tIs s)), some (tLn [] (tIs (sts s f t))), some (tI (lastI s)), none, none, none, none, none, none]
  refine bt_cons (Δ := [none, some (tLn [] (tIs s)), some (tLn [] (tIs f)), none, none, none, none, none, none, none]) (st_set (i := 2) sc_integer_rest.nd rfl (.inl rfl) (EF.et (ef_list rfl B.F.b_list (ET.imp (vr 0 rfl rfl rfl rfl rfl) tLn_LT))) rfl (sub_no (sub_eq (sub_eq (sub_eq (sub_eq (sub_eq (sub_eq (sub_eq (sub_eq (sub_eq sub_nil)))))))))) rfl (.inl rfl)) ?_
  refine bt_cons (Δ := Γs 0) (st_set (i := 3) (R := tI (lastI s)) sc_integer_rest.nd rfl (.inl rfl) (et_ixL (s.length - 1) (by omega) (is_getD (by omega)) (ET.imp (vr 1 rfl rfl rfl rfl rfl) tLn_L) (et_sub (et_leni B rfl (vr 1 rfl rfl rfl rfl rfl)) et_int)) rfl (Sub.refl _) rfl (.inl rfl)) ?_
  refine bt_cons (Δ := Γs T) (st_while Γs (fun t => decide (s.length ≤ (sts s f t).length)) (fun t => t + 1) (fun t => T - t) 0 (fun t => t ≤ T) PassesOwn.never (Sub.refl _) (Nat.zero_le _) (fun t ht => ?_) (fun t ht hd => ?_) (fun t ht hd => ?_) rfl (fun t ht hd => ?_)) (bt_last (st_ret (et_call (w_prow B _ (Nat.le_trans (sts_le _ _ _) hl.1)) (hr.mono (by omega)) rfl B.F.g_primitive_row B.F.k_primitive_row (at_one (vr 2 rfl rfl rfl rfl rfl)) rfl rfl rfl) rfl))
  · exact tt_cast (tt_ge (et_leni B rfl (vr 2 rfl rfl rfl rfl rfl)) (et_leni B rfl (vr 1 rfl rfl rfl rfl rfl)) rfl) (by simp)
  · have h1 : s.length ≤ (sts s f t).length := of_decide_eq_true hd
    have h2 : t ≠ T := fun z => by have := hb.st; rw [z] at h1; omega
    have htT : t < T := by omega
    let r : Iw := sts s f t
    have hle : r.length ≤ f.length := sts_le s f t
    have h1 : s.length ≤ r.length := h1
    have hgm : ∀ n ∈ r, CMulB (tmI s r) n := hb.m t htT
    have hgf : ∀ n ∈ s, CMulB (fcI s r) n := hb.f t htT
    have hc : (cmI s r : Int) ≠ 0 := by
      have : 0 < cmI s r := Nat.gcd_pos_of_pos_left _ (by have := hb.z; omega)
      omega
    have hstp : sts s f (t + 1) = stp s r := rfl
    let Y := BodyCx P w K mg base N_integer_rest d_integer_rest.qual d_integer_rest.scope (fTop K "_integer_rest") cdv A outer sh0 H
    refine bt_cons (Δ := [none, some (tLn [] (tIs s)), some (tLn [] (tIs r)), some (tI (lastI s)), some (tI (cmI s r : Nat)), none, none, none, none, none]) (st_set (i := 4) (R := tI (cmI s r : Nat)) sc_integer_rest.nd rfl (.inl rfl) (et_callM cr_gcd rfl B.F.m_gcd (at_two (vr 3 rfl rfl rfl rfl rfl) (et_ixL (r.length - 1) (by show ((r.length : Nat) : Int) - 1 = _; omega) (is_getD (p := r) (by omega)) (ET.imp (vr 2 rfl rfl rfl rfl rfl) tLn_L) (et_sub (et_leni B rfl (vr 2 rfl rfl rfl rfl rfl)) et_int))) r_gcd rfl rfl rfl) rfl (Sub.refl _) rfl (.inl rfl)) ?_
    refine bt_cons (Δ := [none, some (tLn [] (tIs s)), some (tLn [] (tIs r)), some (tI (lastI s)), some (tI (cmI s r : Nat)), some (tI (tmI s r)), none, none, none, none]) (st_set (i := 5) (R := tI (tmI s r)) sc_integer_rest.nd rfl (.inr rfl) (fd B sc_integer_rest (hr.mono (by omega)) hc (vr 3 rfl rfl rfl rfl rfl) (vr 4 rfl rfl rfl rfl rfl)) rfl (Sub.refl _) rfl (.inl rfl)) ?_
    refine bt_cons (Δ := [none, some (tLn [] (tIs s)), some (tLn [] (tIs r)), some (tI (lastI s)), some (tI (cmI s r : Nat)), some (tI (tmI s r)), some (tI (fcI s r)), none, none, none]) (st_set (i := 6) (R := tI (fcI s r)) sc_integer_rest.nd rfl (.inl rfl) (fd B sc_integer_rest (hr.mono (by omega)) hc (et_ixL (r.length - 1) (by omega) (is_getD (by omega)) (ET.imp (vr 2 rfl rfl rfl rfl rfl) tLn_L) (et_sub (et_leni B rfl (vr 2 rfl rfl rfl rfl rfl)) et_int)) (vr 4 rfl rfl rfl rfl rfl)) rfl (Sub.refl _) rfl (.inl rfl)) ?_
    let shf : Nat := r.length - s.length
    refine bt_cons (Δ := [none, some (tLn [] (tIs s)), some (tLn [] (tIs r)), some (tI (lastI s)), none, some (tI (tmI s r)), some (tI (fcI s r)), some (tI (shf : Nat)), none, none]) (st_set (i := 7) (R := tI (shf : Nat)) sc_integer_rest.nd rfl (.inl rfl) (ET.imp (et_sub (et_leni B rfl (vr 2 rfl rfl rfl rfl rfl)) (et_leni B rfl (vr 1 rfl rfl rfl rfl rfl))) (tI_of (by show _ = ((r.length - s.length : Nat) : Int); omega))) rfl (sub_eq (sub_eq (sub_eq (sub_eq (sub_no (sub_eq (sub_eq (sub_eq (sub_eq (sub_eq sub_nil)))))))))) rfl (.inl rfl)) ?_
    -- the new rest
    have hml : (mlI s r).length = r.length := List.length_map _
    refine bt_newLC (i := 2) (Rs := tIs (mlI s r)) (own := [("n", 9)]) ?_ rfl sc_integer_rest.nd rfl rfl (fun D => [none, some (tLn [D] (tIs s)), none, some (tI (lastI s)), none, none, some (tI (fcI s r)), some (tI (shf : Nat)), none, none]) (fun D => subn_eq (subn_im (fun v H h => new_Ln h) (subn_no (subn_eq (subn_eq (subn_no (subn_eq (subn_eq (subn_eq (subn_eq subn_nil)))))))))) (fun D _ => ?_)
    · rw [← is_map (n := r.length) (f := fun i => tmI s r * r.getD i 0) (p := mlI s r) hml (fun i hi => by unfold mlI; simp [List.getD_eq_getElem?_getD, hi])]
      refine lc_one (j := 9) (it_rowI (vr 2 rfl rfl rfl rfl rfl)) (blkOk_by (N := N_integer_rest) (sc := d_integer_rest.scope) (by decide +kernel)) (by show 9 < 10; decide) (pgB sc_integer_rest.nd rfl fun _ _ => rfl) (fun i hi s2 H2 C2 cl fp => et_mul (hgm _ ?_) (vc 5 rfl rfl rfl rfl rfl) (vr 9 rfl rfl rfl rfl rfl)) (fun i hi => sol_I) (by omega)
      rw [List.getD_eq_getElem?_getD, List.getElem?_eq_getElem hi]
      exact List.getElem_mem hi
    let rc : Nat → Iw := fun c => subI (mlI s r) (fcI s r) s shf c
    have hrl : ∀ c, (rc c).length = r.length := fun c => by show (subI _ _ _ _ _).length = _; rw [subI_len, hml]
    let Γc : Nat → Cxt := fun c => [none, some (tLn [D] (tIs s)), some (tD D (tIs (rc c))), some (tI (lastI s)), none, none, some (tI (fcI s r)), some (tI (shf : Nat)), none, none]
    refine bt_cons (Δ := Γc s.length) ?_ ?_
    · refine st_for2 (i := 8) (j := 9) (n := s.length) (Rf := fun c => tI c) (Sf := fun c => tI (s.getD c 0)) Γc (it_enumI B rfl (vr 1 rfl rfl rfl rfl rfl)) (Sub.refl _) (fun c hcl => ?_) rfl (Sub.refl _) rfl PassesOwn.never sc_integer_rest.nd rfl rfl rfl rfl rfl rfl rfl rfl (fun _ => rfl)
      refine bt_last (st_setI (D := D) (j := 2) (n := shf + c) (Rs := tIs (rc c)) (i := (shf : Int) + c) (R := tI ((rc c).getD (shf + c) 0 - fcI s r * s.getD c 0)) (by simp) (by rw [is_len, hrl]; show r.length - s.length + c < _; omega) ?_ (vr 2 rfl rfl rfl rfl rfl) (et_add (vr 7 rfl rfl rfl rfl rfl) (vr 8 rfl rfl rfl rfl rfl)) (List.mem_singleton.mpr rfl) ?_ rfl (sol_I _) stb_Is rfl ?_)
      · refine et_sub (et_ixL (shf + c) (by simp) (is_getD (by rw [hrl]; show r.length - s.length + c < _; omega)) (ET.imp (vr 2 rfl rfl rfl rfl rfl) tD_L) (et_add (vr 7 rfl rfl rfl rfl rfl) (vr 8 rfl rfl rfl rfl rfl))) (et_mul (hgf _ ?_) (vr 6 rfl rfl rfl rfl rfl) (vr 9 rfl rfl rfl rfl rfl))
        rw [List.getD_eq_getElem?_getD, List.getElem?_eq_getElem hcl]
        exact List.getElem_mem hcl
      · exact stbx_n (stbx_s (stb_Ln stb_Is) (stbx_0 (stbc_s (sol_I _) (stbc_n (stbc_n (stbc_s (sol_I _) (stbc_s (sol_I _) (stbc_s (sol_I _) (stbc_s (sol_I _) stbc_nil)))))))))
      · have e : (tIs (rc c)).set (shf + c) (tI ((rc c).getD (shf + c) 0 - fcI s r * s.getD c 0)) = tIs (rc (c + 1)) := by
          show _ = tIs (List.set _ _ _)
          unfold tIs
          rw [List.map_set]
        rw [e]
        exact sub_eq (sub_eq (sub_eq (sub_eq (sub_eq (sub_eq (sub_eq (sub_eq (sub_no (sub_no sub_nil)))))))))
    · let z : Iw := rc s.length
      have hz : trimI z = sts s f (t + 1) := hstp.symm
      let Γk : Nat → Cxt := fun k => [none, some (tLn [D] (tIs s)), some (tD D (tIs (z.take k))), some (tI (lastI s)), none, none, some (tI (fcI s r)), some (tI (shf : Nat)), none, none]
      have hzl : z.length = r.length := hrl _
      refine bt_last (st_while Γk (tendI z) (fun k => k - 1) id z.length (fun k => k ≤ z.length ∧ trimI (z.take k) = trimI z) PassesOwn.never (by show Sub (Γc s.length) _; show Sub _ [none, some (tLn [D] (tIs s)), some (tD D (tIs (z.take z.length))), some (tI (lastI s)), none, none, some (tI (fcI s r)), some (tI (shf : Nat)), none, none]; rw [List.take_length]; exact Sub.refl _) ⟨Nat.le_refl _, by rw [List.take_length]⟩ (fun k hk => ?_) (fun k hk hd => ?_) (fun k hk hd => ?_) rfl (fun k hk hd => ?_))
      · have hkl : (z.take k).length = k := by rw [List.length_take]; have := hk.1; omega
        have hlen : ∀ {pos p1 p2}, ET Y (Γk k) (.Call (.Name "len" p1) [.Name "rest" p2] [] pos) (tI (k : Nat)) := fun {pos p1 p2} => by
          have h := et_leni (pp := p1) (pos := pos) (p := z.take k) (X := Y) (Γ := Γk k) (e := .Name "rest" p2) B rfl (ET.imp (vr 2 rfl rfl rfl rfl rfl) (fun v H h => tD_Ln (D := D) v H h))
          rwa [hkl] at h
        refine WT_.tt (and2 (p := decide (0 < k)) (q := decide (z.getD (k - 1) 0 = 0)) (tt_cast (tt_gt hlen et_int rfl) (by simp)) fun h => ?_)
        have h0 : 0 < k := of_decide_eq_true h
        have e : (z.take k).getD (k - 1) 0 = z.getD (k - 1) 0 := by
          rw [List.getD_eq_getElem?_getD, List.getD_eq_getElem?_getD, List.getElem?_take, if_pos (by omega)]
        rw [← e]
        exact tt_eq (et_ixL (k - 1) (by omega) (is_getD (by omega)) (ET.imp (vr 2 rfl rfl rfl rfl rfl) tD_L) (et_sub hlen et_int)) et_int rfl
      · have h0 : 0 < k := by unfold tendI at hd; simp at hd; omega
        have e : (tIs (z.take k)).dropLast = tIs (z.take (k - 1)) := by
          unfold tIs
          rw [← List.map_dropLast, List.dropLast_eq_take, List.take_take, List.length_take]
          congr 2
          have := hk.1
          omega
        refine bt_last (st_pop (D := D) (j := 2) (Rs := tIs (z.take k)) ?_ (vr 2 rfl rfl rfl rfl rfl) (List.mem_singleton.mpr rfl) ?_ rfl stb_Is rfl ?_)
        · intro q
          have hq := congrArg List.length q
          rw [is_len, List.length_take, List.length_nil] at hq
          have hk1 := hk.1
          omega
        · exact stbx_n (stbx_s (stb_Ln stb_Is) (stbx_0 (stbc_s (sol_I _) (stbc_n (stbc_n (stbc_s (sol_I _) (stbc_s (sol_I _) (stbc_n (stbc_n stbc_nil)))))))))
        · rw [e]; exact Sub.refl _
      · have h0 : 0 < k := by unfold tendI at hd; simp at hd; omega
        exact ⟨⟨by have := hk.1; omega, by rw [trimI_step hk.1 hd]; exact hk.2⟩, by show k - 1 < k; omega⟩
      · have e : z.take k = sts s f (t + 1) := by rw [← hz, ← hk.2, trimI_end hk.1 hd]
        show Sub [none, some (tLn [D] (tIs s)), some (tD D (tIs (z.take k))), some (tI (lastI s)), none, none, some (tI (fcI s r)), some (tI (shf : Nat)), none, none] _
        rw [e]
        exact sub_eq (sub_im (tLn_un (by simp)) (sub_im (fun v H h => tD_Ln (D := D) v H h) (sub_eq (sub_eq (sub_eq (sub_no (sub_no (sub_eq (sub_eq sub_nil)))))))))
  · have h1 : s.length ≤ (sts s f t).length := of_decide_eq_true hd
    have h2 : t ≠ T := fun z => by have := hb.st; rw [z] at h1; omega
    exact ⟨by omega, by show T - (t + 1) < T - t; omega⟩
  · have h1 : ¬ s.length ≤ (sts s f t).length := of_decide_eq_false hd
    have h2 : t = T := Classical.byContradiction fun z => h1 (hb.go t (by omega))
    rw [h2]; exact Sub.refl _
end
end SLT
set_option exponentiation.threshold 256
set_option maxRecDepth 100000
set_option maxHeartbeats 1000000
namespace SLT
open PySem PySem.Spec PyProof.Rows L2 SL SW
section
variable {P : Program} {w : World} {K : PySem.W.Frag} {mg : Str → Option Value} {base : Heap} {k : Nat}
/-- the rows of the turns A 0, A 1, .., A (N + 1) = [] -/
structure CdB (p q : Cf) (A : Nat → Iw) (Tn : Nat → Nat) (N : Nat) : Prop where
  pp : PrB p
  pq : PrB q
  a0 : A 0 = prims p
  a1 : A 1 = prims q
  nx : ∀ t, t < N → A (t + 2) = pRow (sts (A (t + 1)) (A t) (Tn t))
  b : ∀ t, t < N → IrB (A t) (A (t + 1)) (Tn t)
  go : ∀ t, t < N → A (t + 1) ≠ []
  st : A (N + 1) = []
  l : (A N).length ≤ 500000
  h : lastI (A N) ≠ 0
def gcdRow (a : Iw) : Cf := a.map fun n => Rat.divInt n (lastI a)
theorem tIs_T {p : Iw} (v : V) (H : Hp) (h : (tT K (tIs p)).p v H) : (tLT K (tIs p)).p v H := tT_LT v H h
theorem w_cd (B : Bs P K mg) (p q : Cf) (hp : p ≠ []) (hq : q ≠ []) (g : Cf) (h1 : p.length = 1 ∨ q.length = 1 → g = (Pol.C 1).row) (h2 : ¬ (p.length = 1 ∨ q.length = 1) → ∃ A Tn N, CdB p q A Tn N ∧ g = trim (gcdRow (A N))) : FnT P w K mg base 48 (fTop K "common_divisor") (spT [tP K p, tP K q] (tP K g)) := by
  obtain ⟨fd', D⟩ := B.F.d_common_divisor
  refine fnT_of (fn_ret D sc_common_divisor rfl fun cdv A0 outer sh0 H hr => ?_) (bi_common_divisor D)
  have h0 : ∀ {l : Cf}, l ≠ [] → decide (l.length = 0) = false := fun h => by simpa using h
  refine bt_cons (Δ := ini N_common_divisor [tP K p, tP K q]) (st_ifF (WT_.tt (or2 (p := false) (q := false) (tt_val (ET.imp (et_meth0 (w_Pis0 B p) B.F.cl_Poly B.F.me_Poly_is_zero (hr.mono (by omega)) (vr 0 rfl rfl rfl rfl rfl) (noP rfl) rfl) (tB_of (h0 hp)))) fun _ => tt_val (ET.imp (et_meth0 (w_Pis0 B q) B.F.cl_Poly B.F.me_Poly_is_zero (hr.mono (by omega)) (vr 1 rfl rfl rfl rfl rfl) (noP rfl) rfl) (tB_of (h0 hq))))) (bt_nil rfl (Sub.refl _))) ?_
  have hd : ∀ l : Cf, decide (((l.length : Nat) : Int) - 1 = 0) = decide (l.length = 1) := fun l => by rw [decide_eq_decide]; omega
  by_cases hz : p.length = 1 ∨ q.length = 1
  · refine bt_end (st_if (d := decide (p.length = 1) || decide (q.length = 1)) (WT_.tt (or2 (tt_cast (tt_eq (et_meth0 (w_Pdeg B p) B.F.cl_Poly B.F.me_Poly_degree (hr.mono (by omega)) (vr 0 rfl rfl rfl rfl rfl) (noP rfl) rfl) et_int rfl) (hd p)) fun _ => tt_cast (tt_eq (et_meth0 (w_Pdeg B q) B.F.cl_Poly B.F.me_Poly_degree (hr.mono (by omega)) (vr 1 rfl rfl rfl rfl rfl) (noP rfl) rfl) et_int rfl) (hd q))) (fun _ => ?_) fun h => ?_)
    · rw [h1 hz]
      exact bt_last (st_ret (et_make B.F.mk_Poly (mkP_T B [1] (by simp)) (hr.mono (by omega)) rfl B.F.g_Poly (at_one (et_disT (Rs := tMs K [1]) (at_one (ET.imp et_int (tI_M (n := 1) rfl))) (by simp [tMs, sizeLine]))) rfl rfl rfl) rfl)
    · simp at h; omega
  · obtain ⟨A, Tn, N, hb, rfl⟩ := h2 hz
    refine bt_cons (Δ := ini N_common_divisor [tP K p, tP K q]) (st_if (d := decide (p.length = 1) || decide (q.length = 1)) (WT_.tt (or2 (tt_cast (tt_eq (et_meth0 (w_Pdeg B p) B.F.cl_Poly B.F.me_Poly_degree (hr.mono (by omega)) (vr 0 rfl rfl rfl rfl rfl) (noP rfl) rfl) et_int rfl) (hd p)) fun _ => tt_cast (tt_eq (et_meth0 (w_Pdeg B q) B.F.cl_Poly B.F.me_Poly_degree (hr.mono (by omega)) (vr 1 rfl rfl rfl rfl rfl) (noP rfl) rfl) et_int rfl) (hd q))) (fun h => by simp at h; omega) fun h => bt_nil rfl (Sub.refl _)) ?_
    let Γs : Nat → Cxt := fun t => [none, none, some (tLn [] (tIs (A t))), some (tLn [] (tIs (A (t + 1)))), none, none]
    refine bt_cons (Δ := Γs 0) (st_par (i := 2) (j := 3) (R := tLn [] (tIs (A 0))) (S := tLn [] (tIs (A 1))) rfl sc_common_divisor.nd rfl rfl (by decide) rfl rfl (at_two ?_ ?_) rfl (sub_no (sub_no (sub_eq (sub_eq (sub_eq (sub_eq sub_nil)))))) rfl rfl) ?_
    · rw [hb.a0]
      exact EF.et (ef_list rfl B.F.b_list (ET.imp (et_ixT 1 rfl rfl (et_meth0 (w_Pprim B p hb.pp) B.F.cl_Poly B.F.me_Poly_primitive (hr.mono (by omega)) (vr 0 rfl rfl rfl rfl rfl) (noP rfl) rfl) et_int) tT_LT))
    · rw [hb.a1]
      exact EF.et (ef_list rfl B.F.b_list (ET.imp (et_ixT 1 rfl rfl (et_meth0 (w_Pprim B q hb.pq) B.F.cl_Poly B.F.me_Poly_primitive (hr.mono (by omega)) (vr 1 rfl rfl rfl rfl rfl) (noP rfl) rfl) et_int) tT_LT))
    refine bt_cons (Δ := Γs N) (st_while Γs (fun t => decide (0 < (A (t + 1)).length)) (fun t => t + 1) (fun t => N - t) 0 (fun t => t ≤ N) PassesOwn.never (Sub.refl _) (Nat.zero_le _) (fun t ht => ?_) (fun t ht hd => ?_) (fun t ht hd => ?_) rfl (fun t ht hd => ?_)) ?_
    · exact tt_cast (tt_gt (et_leni B rfl (vr 3 rfl rfl rfl rfl rfl)) et_int rfl) (by simp)
    · have h1 : t < N := by
        refine Classical.byContradiction fun z => ?_
        have : t = N := by omega
        rw [this, hb.st] at hd; simp at hd
      refine bt_last (st_par (i := 2) (j := 3) (R := tLn [] (tIs (A (t + 1)))) (S := tLn [] (tIs (A (t + 2)))) rfl sc_common_divisor.nd rfl rfl (by decide) rfl rfl (at_two (vr 3 rfl rfl rfl rfl rfl) ?_) rfl (Sub.refl _) rfl rfl)
      rw [hb.nx t h1]
      exact et_call (w_irest B _ _ _ (hb.b t h1)) (hr.mono (by omega)) rfl B.F.g_integer_rest B.F.k_integer_rest (at_two (vr 2 rfl rfl rfl rfl rfl) (vr 3 rfl rfl rfl rfl rfl)) rfl rfl rfl
    · have h1 : t ≠ N := fun z => by rw [z, hb.st] at hd; simp at hd
      exact ⟨by omega, by show N - (t + 1) < N - t; omega⟩
    · have h1 : t = N := Classical.byContradiction fun z => by
        have := hb.go t (by omega)
        have h2 := of_decide_eq_false hd
        exact this (List.length_eq_zero_iff.mp (by omega))
      rw [h1]; exact Sub.refl _
    have hl : 0 < (A N).length := List.length_pos_iff.mpr fun z => hb.h (by rw [z]; rfl)
    refine bt_cons (Δ := [none, none, some (tLn [] (tIs (A N))), none, some (tI (lastI (A N))), none]) (st_set (i := 4) (R := tI (lastI (A N))) sc_common_divisor.nd rfl (.inr rfl) (et_ixL ((A N).length - 1) (by omega) (is_getD (by omega)) (ET.imp (vr 2 rfl rfl rfl rfl rfl) tLn_L) (et_sub (et_leni B rfl (vr 2 rfl rfl rfl rfl rfl)) et_int)) rfl (sub_eq (sub_eq (sub_eq (sub_no (sub_eq (sub_eq sub_nil)))))) rfl (.inl rfl)) ?_
    have hgl : (gcdRow (A N)).length = (A N).length := List.length_map _
    refine bt_last (st_ret (et_Poly B (hr.mono (by omega)) (by rw [hgl]; have := hb.l; omega) rfl ?_) rfl)
    refine et_ofEF (ef_lc (lc_one (Sf := fun i => tQ K (Rat.divInt ((A N).getD i 0) (lastI (A N)))) (j := 5) (it_rowI (vr 2 rfl rfl rfl rfl rfl)) (blkOk_by (N := N_common_divisor) (sc := d_common_divisor.scope) (by decide +kernel)) (by show 5 < 6; decide) (pgB sc_common_divisor.nd rfl fun _ _ => rfl)
      (fun i hi s2 H2 C2 cl fp => et_make B.F.mk_Ratio (mkQ2 B _ _ hb.h) (hr.mono (by omega)) rfl B.F.g_Ratio (at_two (vr 5 rfl rfl rfl rfl rfl) (vc 4 rfl rfl rfl rfl rfl)) rfl rfl rfl) (fun i hi => sol_Q) (Nat.le_trans hb.l (by decide))) rfl sc_common_divisor.nd) hgl (fun i hi => ?_)
    unfold gcdRow
    simp [List.getD_eq_getElem?_getD, hi]
end
end SLT
set_option exponentiation.threshold 256
set_option maxRecDepth 100000
set_option maxHeartbeats 1000000
namespace SLT
open PySem PySem.Spec PyProof.Rows L2 SL SW
abbrev cFun (K : PySem.W.Frag) : Addr := He.ga K "RatFun"
abbrev fFun (K : PySem.W.Frag) (m : Str) : Addr := He.fAd K ("RatFun", some m)
def tF (K : PySem.W.Frag) (n d : Cf) : Ty := ⟨fun v H => ∃ a dx u z, v = .ref a ∧ H a = some (.ins (cFun K) dx [("num", u), ("den", z)]) ∧ (tP K n).p u H ∧ (tP K d).p z H, fun e ⟨a, dx, u, z, h1, h2, h3, h4⟩ => ⟨a, dx, u, z, h1, e _ _ h2, (tP K _).mono e h3, (tP K _).mono e h4⟩⟩
theorem sol_F {K : PySem.W.Frag} {n d : Cf} : Sol (tF K n d) := fun m v H H' e ⟨a, dx, u, z, h1, h2, h3, h4⟩ => ⟨a, dx, u, z, h1, (by rcases e _ _ h2 with x | ⟨_, _, _, x, _⟩; exact x; cases x), sol_P m _ _ _ e h3, sol_P m _ _ _ e h4⟩
theorem isF {K : PySem.W.Frag} {n d : Cf} : IsIns (cFun K) (tF K n d) := fun v H ⟨a, dx, u, z, h1, h2, _⟩ => ⟨a, dx, _, h1, h2⟩
theorem noF {K : PySem.W.Frag} {m : Str} {n d : Cf} (h : (m == ("num" : Str)) = false) (h2 : (m == ("den" : Str)) = false) : InsNo (cFun K) m (tF K n d) := fun v H ⟨a, dx, u, z, h1, h3, _⟩ => ⟨a, dx, _, h1, h3, by simp [List.lookup, h, h2]⟩
section
variable {X : Cx} {Γ Δ : Cxt} {e c : Expr} {pos : Pos} {mg : Str → Option Value} {n d : Cf} {D : Ends} {σ : L2.St} {H : Hp} {x y rest : List Stmt} {st : Stmt}
theorem et_num (F : Facts X.K mg) (he : ET X Γ e (tF X.K n d)) (hb : attributeBase e "num" X.env (eval e X.env) = eval e X.env := by rfl) : ET X Γ (.Attribute e "num" pos) (tP X.K n) :=
  et_fld hb he fun v H ⟨a, dx, u, z, h1, h2, h3, h4⟩ => ⟨a, _, dx, _, u, h1, h2, F.cl_RatFun, F.na_RatFun_num, rfl, h3⟩
theorem et_den (F : Facts X.K mg) (he : ET X Γ e (tF X.K n d)) (hb : attributeBase e "den" X.env (eval e X.env) = eval e X.env := by rfl) : ET X Γ (.Attribute e "den" pos) (tP X.K d) :=
  et_fld hb he fun v H ⟨a, dx, u, z, h1, h2, h3, h4⟩ => ⟨a, _, dx, _, z, h1, h2, F.cl_RatFun, F.na_RatFun_den, rfl, h4⟩
theorem wB_ifT (h : TT_ X Γ c true) (ok : OKc Γ σ H) (k : ∀ H1, Same H H1 → OKc Γ σ H1 → wB X x D σ H1) : wB X [.If c x y pos] D σ H :=
  wB_of (pss_one (ps_if pt_w pb_w pb_w)) (h.use ok fun H1 s ok1 => iteT (k H1 s ok1))
theorem wB_ifF (h : TT_ X Γ c false) (ok : OKc Γ σ H) (k : ∀ H1, Same H H1 → OKc Γ σ H1 → wB X y D σ H1) : wB X [.If c x y pos] D σ H :=
  wB_of (pss_one (ps_if pt_w pb_w pb_w)) (h.use ok fun H1 s ok1 => iteF (k H1 s ok1))
theorem wB_step (h : ST X Γ st { nx := some Δ }) (ok : OKc Γ σ H) (k : ∀ σ' H1, Same H H1 → OKc Δ σ' H1 → wB X rest D σ' H1) : wB X (st :: rest) D σ H :=
  wB_cons (wS_st h ok ⟨fun G e σ1 H1 s1 ok1 => by cases e; exact k σ1 H1 s1.nil ok1, endR_none, endC_none, endC_none⟩)
end
/-- what common_divisor gives -/
def CdG (p q g : Cf) : Prop := (p.length = 1 ∨ q.length = 1 → g = (Pol.C 1).row) ∧ (¬ (p.length = 1 ∨ q.length = 1) → ∃ A Tn N, CdB p q A Tn N ∧ g = trim (gcdRow (A N)))
/-- what RatFun(n, d) keeps -/
structure RfG (n d g rn rd : Cf) : Prop where
  c : CdG n d g
  bd : DivB d g
  bn : DivB n g
  l : lastR (quo d g) ≠ 0
  v : QB (lastR (quo d g))⁻¹
  pn : PB (quo n g)
  pd : PB (quo d g)
  en : rn = trim (scaleL (lastR (quo d g))⁻¹ (quo n g))
  ed : rd = trim (scaleL (lastR (quo d g))⁻¹ (quo d g))
inductive RfB (n d rn rd : Cf) : Prop where
  | zero (h : n = []) (hd : d ≠ []) (hn : rn = []) (hr : rd = (Pol.C 1).row)
  | one (h : n ≠ []) (hd : d.length = 1) (l : lastR d ≠ 0) (v : QB (lastR d)⁻¹) (b : PB n) (hn : rn = trim (scaleL (lastR d)⁻¹ n)) (hr : rd = (Pol.C 1).row)
  | gen (h : n ≠ []) (hd : d ≠ []) (h1 : d.length ≠ 1) (g : Cf) (b : RfG n d g rn rd)
section
variable {P : Program} {w : World} {K : PySem.W.Frag} {mg : Str → Option Value} {base : Heap} {k : Nat}
theorem ne_of_kit {K : PySem.W.Frag} {a b : Addr} (h1 : PySem.W.kitOne K (.ref a) (.ref b) = some false) (h2 : PySem.W.kitOne K (.ref a) (.ref a) = some true) : a ≠ b := fun z => by
  rw [← z, h2] at h1; cases h1
theorem solC_P {C : Addr} (h : cRatio K ≠ C) (h2 : cPoly K ≠ C) {p : Cf} : SolC C (tP K p) := fun v H x dx fs fs' hD ⟨a, d2, t, h1, hh, h3⟩ => ⟨a, d2, t, h1, (by rw [upd_ne (ne_of hh hD (by intro z; cases z; exact h2 rfl))]; exact hh), solC_T (solC_Qs h) _ _ _ _ _ _ hD h3⟩
theorem w_Finit (B : Bs P K mg) (n d rn rd : Cf) (hb : RfB n d rn rd) : FnT P w K mg base 52 (fFun K "__init__") (spMk (cFun K) [tP K n, tP K d] (tF K rn rd)) := by
  obtain ⟨fd', D⟩ := B.F.d_RatFun_init
  refine fnT_of (fn_init D sc_RatFun_init rfl fun cdv A outer s H q dq H0 E σ hr ok sm n1 n2 ne hq fin _ => ?_) (bi_RatFun_init D)
  have ne1 : cRatio K ≠ cFun K := ne_of_kit B.F.kc_Ratio_RatFun B.F.kc_Ratio_Ratio
  have ne2 : cPoly K ≠ cFun K := ne_of_kit B.F.kc_Poly_RatFun B.F.kc_Poly_Poly
  have hd0 : d ≠ [] := by
    rcases hb with ⟨_, h, _⟩ | ⟨_, h, _⟩ | ⟨_, h, _⟩
    · exact h
    · intro z; rw [z] at h; simp at h
    · exact h
  have h0 : ∀ {l : Cf}, l ≠ [] → decide (l.length = 0) = false := fun h => by simpa using h
  have hfin : ∀ v1 v2 (H' : Hp), (tP K rn).p v1 H' → (tP K rd).p v2 H' → H' q = some (.ins (cFun K) dq [("num", v1), ("den", v2)]) → (tF K rn rd).p (.ref q) H' := fun v1 v2 H' r1 r2 h => ⟨q, dq, v1, v2, rfl, h, r1, r2⟩
  refine wB_step (Δ := ini N_RatFun_init [tV (.ref q), tP K n, tP K d]) (st_ifF (tt_val (ET.imp (et_meth0 (w_Pis0 B d) B.F.cl_Poly B.F.me_Poly_is_zero (hr.mono (by omega)) (vr 2 rfl rfl rfl rfl rfl) (noP rfl) rfl) (tB_of (h0 hd0)))) (bt_nil rfl (Sub.refl _))) ok fun σ1 H1 s1 ok1 => ?_
  have hΓ : ∀ R, some R ∈ ini N_RatFun_init [tV (.ref q), tP K n, tP K d] → SolC (cFun K) R := fun R hR => by
    simp [ini] at hR
    rcases hR with h | h | h <;> subst h <;> first | exact solC_V | exact solC_P ne1 ne2
  have hone : ∀ {Γ : Cxt} {pos p1 p2 p3}, ET (BodyCx P w K mg base N_RatFun_init d_RatFun_init.qual d_RatFun_init.scope (fFun K "__init__") cdv A outer s H) Γ (.Call (.Name "constant" p1) [.Call (.Name "one" p2) [] [] p3] [] pos) (tP K (Pol.C 1).row) := fun {Γ pos p1 p2 p3} =>
    et_call (w_constant B 1) (hr.mono (by omega)) rfl B.F.g_constant B.F.k_constant (at_one (et_call0 (w_one B) (hr.mono (by omega)) rfl B.F.g_one B.F.k_one rfl)) rfl rfl rfl
  rcases hb with ⟨h, _, rfl, rfl⟩ | ⟨h, hd, l, v, b, rfl, rfl⟩ | ⟨h, hd, hd1, g, b⟩
  · subst h
    refine wB_ifT (tt_val (ET.imp (et_meth0 (w_Pis0 B []) B.F.cl_Poly B.F.me_Poly_is_zero (hr.mono (by omega)) (vr 1 rfl rfl rfl rfl rfl) (noP rfl) rfl) (tB_of rfl))) ok1 fun H2 s2 ok2 => ?_
    exact wB_store2 (U := tF K [] (Pol.C 1).row) (R1 := tP K []) (R2 := tP K (Pol.C 1).row) ok2 (sm.trans (s1.trans s2)) n1 ((s1.trans s2) _ _ hq) B.F.cl_RatFun B.F.na_RatFun_num B.F.na_RatFun_den hΓ (vr 1 rfl rfl rfl rfl rfl) hone (vr 0 rfl rfl rfl rfl rfl) (vr 0 rfl rfl rfl rfl rfl) (solC_P ne1 ne2) (solC_P ne1 ne2) (by decide) rfl rfl hfin fin
  · have hdg : decide (((d.length : Nat) : Int) - 1 = 0) = true := by rw [decide_eq_true_eq]; omega
    refine wB_ifF (tt_val (ET.imp (et_meth0 (w_Pis0 B n) B.F.cl_Poly B.F.me_Poly_is_zero (hr.mono (by omega)) (vr 1 rfl rfl rfl rfl rfl) (noP rfl) rfl) (tB_of (h0 h)))) ok1 fun H2 s2 ok2 => ?_
    refine wB_ifT (tt_cast (tt_eq (et_meth0 (w_Pdeg B d) B.F.cl_Poly B.F.me_Poly_degree (hr.mono (by omega)) (vr 2 rfl rfl rfl rfl rfl) (noP rfl) rfl) et_int rfl) hdg) ok2 fun H3 s3 ok3 => ?_
    have sA := (s1.trans s2).trans s3
    refine wB_store2 (U := tF K (trim (scaleL (lastR d)⁻¹ n)) (Pol.C 1).row) (R1 := tP K (trim (scaleL (lastR d)⁻¹ n))) (R2 := tP K (Pol.C 1).row) ok3 (sm.trans sA) n1 (sA _ _ hq) B.F.cl_RatFun B.F.na_RatFun_num B.F.na_RatFun_den hΓ ?_ hone (vr 0 rfl rfl rfl rfl rfl) (vr 0 rfl rfl rfl rfl rfl) (solC_P ne1 ne2) (solC_P ne1 ne2) (by decide) rfl rfl hfin fin
    exact et_meth (w_Pscaled B n _ b v) B.F.cl_Poly B.F.me_Poly_scaled (hr.mono (by omega)) (vr 1 rfl rfl rfl rfl rfl) (noP rfl) (at_one (et_meth0 (w_Qinv B _ l) B.F.cl_Ratio B.F.me_Ratio_inverse (hr.mono (by omega)) (et_meth0 (w_Plast B d hd0) B.F.cl_Poly B.F.me_Poly_last (hr.mono (by omega)) (vr 2 rfl rfl rfl rfl rfl) (noP rfl) rfl) (noQ rfl rfl) rfl)) rfl rfl rfl
  · have hdg : decide (((d.length : Nat) : Int) - 1 = 0) = false := by rw [decide_eq_false_iff_not]; have := List.length_pos_iff.mpr hd; omega
    refine wB_ifF (tt_val (ET.imp (et_meth0 (w_Pis0 B n) B.F.cl_Poly B.F.me_Poly_is_zero (hr.mono (by omega)) (vr 1 rfl rfl rfl rfl rfl) (noP rfl) rfl) (tB_of (h0 h)))) ok1 fun H2 s2 ok2 => ?_
    refine wB_ifF (tt_cast (tt_eq (et_meth0 (w_Pdeg B d) B.F.cl_Poly B.F.me_Poly_degree (hr.mono (by omega)) (vr 2 rfl rfl rfl rfl rfl) (noP rfl) rfl) et_int rfl) hdg) ok2 fun H3 s3 ok3 => ?_
    let iv := (lastR (quo d g))⁻¹
    have hlow : quo d g ≠ [] := fun z => b.l (by rw [z]; rfl)
    refine wB_step (Δ := [some (tV (.ref q)), some (tP K n), some (tP K d), some (tP K g), none, none]) (st_set (i := 3) (R := tP K g) sc_RatFun_init.nd rfl (.inl rfl) (et_call (w_cd B n d h hd g b.c.1 b.c.2) (hr.mono (by omega)) rfl B.F.g_common_divisor B.F.k_common_divisor (at_two (vr 1 rfl rfl rfl rfl rfl) (vr 2 rfl rfl rfl rfl rfl)) rfl rfl rfl) rfl (Sub.refl _) rfl (.inl rfl)) ok3 fun σ4 H4 s4 ok4 => ?_
    refine wB_step (Δ := [some (tV (.ref q)), some (tP K n), some (tP K d), some (tP K g), some (tP K (quo d g)), none]) (st_set (i := 4) (R := tP K (quo d g)) sc_RatFun_init.nd rfl (.inl rfl) (et_own B.F.me_Poly_floordiv rfl B.F.sf_Poly (w_Pfloordiv B d g b.bd) (hr.mono (by omega)) isP isP (vr 2 rfl rfl rfl rfl rfl) (vr 3 rfl rfl rfl rfl rfl)) rfl (Sub.refl _) rfl (.inl rfl)) ok4 fun σ5 H5 s5 ok5 => ?_
    refine wB_step (Δ := [some (tV (.ref q)), some (tP K n), some (tP K d), some (tP K g), some (tP K (quo d g)), some (tQ K iv)]) (st_set (i := 5) (R := tQ K iv) sc_RatFun_init.nd rfl (.inl rfl) (et_meth0 (w_Qinv B _ b.l) B.F.cl_Ratio B.F.me_Ratio_inverse (hr.mono (by omega)) (et_meth0 (w_Plast B (quo d g) hlow) B.F.cl_Poly B.F.me_Poly_last (hr.mono (by omega)) (vr 4 rfl rfl rfl rfl rfl) (noP rfl) rfl) (noQ rfl rfl) rfl) rfl (Sub.refl _) rfl (.inl rfl)) ok5 fun σ6 H6 s6 ok6 => ?_
    have sA := ((((s1.trans s2).trans s3).trans s4).trans s5).trans s6
    have hΓ2 : ∀ R, some R ∈ ([some (tV (.ref q)), some (tP K n), some (tP K d), some (tP K g), some (tP K (quo d g)), some (tQ K iv)] : Cxt) → SolC (cFun K) R := fun R hR => by
      simp at hR
      rcases hR with h | h | h | h | h | h <;> subst h <;> first | exact solC_V | exact solC_P ne1 ne2 | exact solC_Q ne1
    refine wB_store2 (U := tF K rn rd) (R1 := tP K rn) (R2 := tP K rd) ok6 (sm.trans sA) n1 (sA _ _ hq) B.F.cl_RatFun B.F.na_RatFun_num B.F.na_RatFun_den hΓ2 ?_ ?_ (vr 0 rfl rfl rfl rfl rfl) (vr 0 rfl rfl rfl rfl rfl) (solC_P ne1 ne2) (solC_P ne1 ne2) (by decide) rfl rfl hfin fin
    · rw [b.en]
      exact et_meth (w_Pscaled B (quo n g) _ b.pn b.v) B.F.cl_Poly B.F.me_Poly_scaled (hr.mono (by omega)) (et_own B.F.me_Poly_floordiv rfl B.F.sf_Poly (w_Pfloordiv B n g b.bn) (hr.mono (by omega)) isP isP (vr 1 rfl rfl rfl rfl rfl) (vr 3 rfl rfl rfl rfl rfl)) (noP rfl) (at_one (vr 5 rfl rfl rfl rfl rfl)) rfl rfl rfl
    · rw [b.ed]
      exact et_meth (w_Pscaled B (quo d g) _ b.pd b.v) B.F.cl_Poly B.F.me_Poly_scaled (hr.mono (by omega)) (vr 4 rfl rfl rfl rfl rfl) (noP rfl) (at_one (vr 5 rfl rfl rfl rfl rfl)) rfl rfl rfl
end
end SLT
set_option exponentiation.threshold 256
set_option maxRecDepth 100000
set_option maxHeartbeats 1000000
namespace SLT
open PySem PySem.Spec PyProof.Rows L2 SL SW
/-- a quotient as it is kept -/
structure Fr where
  n : Pol
  d : Pol
abbrev tR (K : PySem.W.Frag) (f : Fr) : Ty := tF K f.n.row f.d.row
abbrev RfR (a b : Pol) (r : Fr) : Prop := RfB a.row b.row r.n.row r.d.row
structure SumB (f g r : Fr) (s : Int) : Prop where
  same : f.d.row = g.d.row → PB f.n.row ∧ PB g.n.row ∧ (s = 1 → RfR (f.n + g.n) f.d r) ∧ (s = -1 → RfR (f.n - g.n) f.d r)
  diff : f.d.row ≠ g.d.row → MulB f.n.row g.d.row ∧ MulB g.n.row f.d.row ∧ MulB f.d.row g.d.row ∧ PB (f.n * g.d).row ∧ PB (g.n * f.d).row ∧ (s = 1 → RfR (f.n * g.d + g.n * f.d) (f.d * g.d) r) ∧ (s = -1 → RfR (f.n * g.d - g.n * f.d) (f.d * g.d) r)
section
variable {P : Program} {w : World} {K : PySem.W.Frag} {mg : Str → Option Value} {base : Heap} {k : Nat}
section
variable {X : Cx} {Γ : Cxt} {a b e : Expr} {pos pp : Pos} {f g r : Fr} {p q : Pol}
theorem et_RF (B : Bs X.prog X.K X.mg) (hr : Room 53 X.A) (h : RfR p q r) (hg : Gl X "RatFun") (ha : ET X Γ a (tP X.K p.row)) (hb : ET X Γ b (tP X.K q.row)) (hs : starEach [a, b] X.env = (false, eval a X.env) :: starEach [b] X.env := by rfl) (hs2 : starEach [b] X.env = (false, eval b X.env) :: starEach [] X.env := by rfl) (hp : (backTo pos (starEach [b] X.env)).any (·.1) = false := by rfl) :
    ET X Γ (.Call (.Name "RatFun" pp) [a, b] [] pos) (tR X.K r) := et_make B.F.mk_RatFun (w_Finit B _ _ _ _ h) hr hg B.F.g_RatFun (at_two ha hb hs hs2) rfl hs hp
theorem et_pm (B : Bs X.prog X.K X.mg) (hr : Room 53 X.A) (h : MulB p.row q.row) (ha : ET X Γ a (tP X.K p.row)) (hb : ET X Γ b (tP X.K q.row)) : ET X Γ (.BinOp a .Mult b pos) (tP X.K (p * q).row) := et_own B.F.me_Poly_mul rfl B.F.sf_Poly (w_Pmul B _ _ h) (hr.mono (by omega)) isP isP ha hb
theorem et_pa (B : Bs X.prog X.K X.mg) (hr : Room 53 X.A) (h : PB p.row) (h2 : PB q.row) (ha : ET X Γ a (tP X.K p.row)) (hb : ET X Γ b (tP X.K q.row)) : ET X Γ (.BinOp a .Add b pos) (tP X.K (p + q).row) := et_own B.F.me_Poly_add rfl B.F.sf_Poly (w_Padd B _ _ h h2) (hr.mono (by omega)) isP isP ha hb
theorem et_ps (B : Bs X.prog X.K X.mg) (hr : Room 53 X.A) (h : PB p.row) (h2 : PB q.row) (ha : ET X Γ a (tP X.K p.row)) (hb : ET X Γ b (tP X.K q.row)) : ET X Γ (.BinOp a .Sub b pos) (tP X.K (p - q).row) := et_own B.F.me_Poly_sub rfl B.F.sf_Poly (w_Psub B _ _ h h2) (hr.mono (by omega)) isP isP ha hb
theorem tt_peq (B : Bs X.prog X.K X.mg) (hr : Room 53 X.A) {p q : Cf} (ha : ET X Γ a (tP X.K p)) (hb : ET X Γ b (tP X.K q)) (hm : behindInMarks .Eq b = false := by rfl) : ET X Γ (.Compare a [.Eq] [b] pos) (tB (decide (p = q))) := et_ownEq B.F.me_Poly_eq (w_Peq B p q) (hr.mono (by omega)) isP isP ha hb hm
theorem tt_peqT (B : Bs X.prog X.K X.mg) (hr : Room 53 X.A) {p q : Cf} {d : Bool} (h : decide (p = q) = d) (ha : ET X Γ a (tP X.K p)) (hb : ET X Γ b (tP X.K q)) (hm : behindInMarks .Eq b = false := by rfl) : TT_ X Γ (.Compare a [.Eq] [b] pos) d := h ▸ tt_cmp (op_owEq B.F.me_Poly_eq (w_Peq B p q) (hr.mono (by omega))) ha hb (r_ow isP isP fun _ _ _ _ z => z) hm
end
theorem w_Fadd (B : Bs P K mg) (f g r : Fr) (h : SumB f g r 1) : FnT P w K mg base 54 (fFun K "__add__") (spT [tR K f, tR K g] (tR K r)) := by
  obtain ⟨fd', D⟩ := B.F.d_RatFun_add
  refine fnT_of (fn_ret D sc_RatFun_add rfl fun cdv A outer s H hr => ?_) (bi_RatFun_add D)
  by_cases hd : f.d.row = g.d.row
  · obtain ⟨h1, h2, h3, _⟩ := h.same hd
    refine bt_end (st_ifT (tt_peqT B hr (decide_eq_true hd) (et_den B.F (vr 0 rfl rfl rfl rfl rfl)) (et_den B.F (vr 1 rfl rfl rfl rfl rfl))) (bt_last (st_ret (et_RF B hr (h3 rfl) rfl (et_pa B hr h1 h2 (et_num B.F (vr 0 rfl rfl rfl rfl rfl)) (et_num B.F (vr 1 rfl rfl rfl rfl rfl))) (et_den B.F (vr 0 rfl rfl rfl rfl rfl))) rfl)))
  · obtain ⟨m1, m2, m3, h1, h2, h3, _⟩ := h.diff hd
    refine bt_cons (Δ := ini N_RatFun_add [tR K f, tR K g]) (st_ifF (tt_peqT B hr (decide_eq_false hd) (et_den B.F (vr 0 rfl rfl rfl rfl rfl)) (et_den B.F (vr 1 rfl rfl rfl rfl rfl))) (bt_nil rfl (Sub.refl _))) (bt_last (st_ret (et_RF B hr (h3 rfl) rfl
      (et_pa B hr h1 h2 (et_pm B hr m1 (et_num B.F (vr 0 rfl rfl rfl rfl rfl)) (et_den B.F (vr 1 rfl rfl rfl rfl rfl))) (et_pm B hr m2 (et_num B.F (vr 1 rfl rfl rfl rfl rfl)) (et_den B.F (vr 0 rfl rfl rfl rfl rfl)))) (et_pm B hr m3 (et_den B.F (vr 0 rfl rfl rfl rfl rfl)) (et_den B.F (vr 1 rfl rfl rfl rfl rfl)))) rfl))
theorem w_Fsub (B : Bs P K mg) (f g r : Fr) (h : SumB f g r (-1)) : FnT P w K mg base 54 (fFun K "__sub__") (spT [tR K f, tR K g] (tR K r)) := by
  obtain ⟨fd', D⟩ := B.F.d_RatFun_sub
  refine fnT_of (fn_ret D sc_RatFun_sub rfl fun cdv A outer s H hr => ?_) (bi_RatFun_sub D)
  by_cases hd : f.d.row = g.d.row
  · obtain ⟨h1, h2, _, h3⟩ := h.same hd
    refine bt_end (st_ifT (tt_peqT B hr (decide_eq_true hd) (et_den B.F (vr 0 rfl rfl rfl rfl rfl)) (et_den B.F (vr 1 rfl rfl rfl rfl rfl))) (bt_last (st_ret (et_RF B hr (h3 rfl) rfl (et_ps B hr h1 h2 (et_num B.F (vr 0 rfl rfl rfl rfl rfl)) (et_num B.F (vr 1 rfl rfl rfl rfl rfl))) (et_den B.F (vr 0 rfl rfl rfl rfl rfl))) rfl)))
  · obtain ⟨m1, m2, m3, h1, h2, _, h3⟩ := h.diff hd
    refine bt_cons (Δ := ini N_RatFun_sub [tR K f, tR K g]) (st_ifF (tt_peqT B hr (decide_eq_false hd) (et_den B.F (vr 0 rfl rfl rfl rfl rfl)) (et_den B.F (vr 1 rfl rfl rfl rfl rfl))) (bt_nil rfl (Sub.refl _))) (bt_last (st_ret (et_RF B hr (h3 rfl) rfl
      (et_ps B hr h1 h2 (et_pm B hr m1 (et_num B.F (vr 0 rfl rfl rfl rfl rfl)) (et_den B.F (vr 1 rfl rfl rfl rfl rfl))) (et_pm B hr m2 (et_num B.F (vr 1 rfl rfl rfl rfl rfl)) (et_den B.F (vr 0 rfl rfl rfl rfl rfl)))) (et_pm B hr m3 (et_den B.F (vr 0 rfl rfl rfl rfl rfl)) (et_den B.F (vr 1 rfl rfl rfl rfl rfl)))) rfl))
structure PrdB (f g r : Fr) : Prop where
  a : MulB f.n.row g.n.row
  b : MulB f.d.row g.d.row
  r : RfR (f.n * g.n) (f.d * g.d) r
theorem w_Fmul (B : Bs P K mg) (f g r : Fr) (h : PrdB f g r) : FnT P w K mg base 54 (fFun K "__mul__") (spT [tR K f, tR K g] (tR K r)) := by
  obtain ⟨fd', D⟩ := B.F.d_RatFun_mul
  refine fnT_of (fn_ret D sc_RatFun_mul rfl fun cdv A outer s H hr => ?_) (bi_RatFun_mul D)
  exact bt_last (st_ret (et_RF B hr h.r rfl (et_pm B hr h.a (et_num B.F (vr 0 rfl rfl rfl rfl rfl)) (et_num B.F (vr 1 rfl rfl rfl rfl rfl))) (et_pm B hr h.b (et_den B.F (vr 0 rfl rfl rfl rfl rfl)) (et_den B.F (vr 1 rfl rfl rfl rfl rfl)))) rfl)
theorem w_Fneg (B : Bs P K mg) (f r : Fr) (hp : f.n.row.length ≤ 500000) (h : RfR (-f.n) f.d r) : FnT P w K mg base 54 (fFun K "__neg__") (spT [tR K f] (tR K r)) := by
  obtain ⟨fd', D⟩ := B.F.d_RatFun_neg
  refine fnT_of (fn_ret D sc_RatFun_neg rfl fun cdv A outer s H hr => ?_) (bi_RatFun_neg D)
  have hn : ∀ {Γ : Cxt} {pos e}, ET (BodyCx P w K mg base N_RatFun_neg d_RatFun_neg.qual d_RatFun_neg.scope (fFun K "__neg__") cdv A outer s H) Γ e (tP K f.n.row) → ET (BodyCx P w K mg base N_RatFun_neg d_RatFun_neg.qual d_RatFun_neg.scope (fFun K "__neg__") cdv A outer s H) Γ (.UnaryOp .USub e pos) (tP K (-f.n).row) := fun he => by
    rw [← neg_row]
    exact et_ownNeg B.F.me_Poly_neg (w_Pneg B f.n.row (by omega)) (hr.mono (by omega)) isP he
  exact bt_last (st_ret (et_RF B hr h rfl (hn (et_num B.F (vr 0 rfl rfl rfl rfl rfl))) (et_den B.F (vr 0 rfl rfl rfl rfl rfl))) rfl)
structure QuoB (f g r : Fr) : Prop where
  z : g.n.row ≠ []
  a : MulB f.n.row g.d.row
  b : MulB f.d.row g.n.row
  r : RfR (f.n * g.d) (f.d * g.n) r
theorem w_Fdiv (B : Bs P K mg) (f g r : Fr) (h : QuoB f g r) : FnT P w K mg base 54 (fFun K "__floordiv__") (spT [tR K f, tR K g] (tR K r)) := by
  obtain ⟨fd', D⟩ := B.F.d_RatFun_floordiv
  refine fnT_of (fn_ret D sc_RatFun_floordiv rfl fun cdv A outer s H hr => ?_) (bi_RatFun_floordiv D)
  refine bt_cons (Δ := ini N_RatFun_floordiv [tR K f, tR K g]) (st_ifF (tt_val (ET.imp (et_meth0 (w_Pis0 B g.n.row) B.F.cl_Poly B.F.me_Poly_is_zero (hr.mono (by omega)) (et_num B.F (vr 1 rfl rfl rfl rfl rfl)) (noP rfl) rfl) (tB_of (by simpa using h.z)))) (bt_nil rfl (Sub.refl _))) ?_
  exact bt_last (st_ret (et_RF B hr h.r rfl (et_pm B hr h.a (et_num B.F (vr 0 rfl rfl rfl rfl rfl)) (et_den B.F (vr 1 rfl rfl rfl rfl rfl))) (et_pm B hr h.b (et_den B.F (vr 0 rfl rfl rfl rfl rfl)) (et_num B.F (vr 1 rfl rfl rfl rfl rfl)))) rfl)
theorem w_Fis0 (B : Bs P K mg) (f : Fr) : FnT P w K mg base 54 (fFun K "is_zero") (spT [tR K f] (tB (decide (f.n.row.length = 0)))) := by
  obtain ⟨fd', D⟩ := B.F.d_RatFun_is_zero
  refine fnT_of (fn_ret D sc_RatFun_is_zero rfl fun cdv A outer s H hr => ?_) (bi_RatFun_is_zero D)
  exact bt_last (st_ret (et_meth0 (w_Pis0 B f.n.row) B.F.cl_Poly B.F.me_Poly_is_zero (hr.mono (by omega)) (et_num B.F (vr 0 rfl rfl rfl rfl rfl)) (noP rfl) rfl) rfl)
theorem w_Finv (B : Bs P K mg) (f r : Fr) (hz : f.n.row ≠ []) (h : RfR f.d f.n r) : FnT P w K mg base 54 (fFun K "inverse") (spT [tR K f] (tR K r)) := by
  obtain ⟨fd', D⟩ := B.F.d_RatFun_inverse
  refine fnT_of (fn_ret D sc_RatFun_inverse rfl fun cdv A outer s H hr => ?_) (bi_RatFun_inverse D)
  refine bt_cons (Δ := ini N_RatFun_inverse [tR K f]) (st_ifF (tt_val (ET.imp (et_meth0 (w_Pis0 B f.n.row) B.F.cl_Poly B.F.me_Poly_is_zero (hr.mono (by omega)) (et_num B.F (vr 0 rfl rfl rfl rfl rfl)) (noP rfl) rfl) (tB_of (by simpa using hz)))) (bt_nil rfl (Sub.refl _))) ?_
  exact bt_last (st_ret (et_RF B hr h rfl (et_den B.F (vr 0 rfl rfl rfl rfl rfl)) (et_num B.F (vr 0 rfl rfl rfl rfl rfl))) rfl)
structure ShfB (f : Fr) (a : Rat) (r : Fr) : Prop where
  n : ShB f.n.row a
  d : ShB f.d.row a
  r : RfR (shSt f.n.row a f.n.row.length) (shSt f.d.row a f.d.row.length) r
theorem w_Fshift (B : Bs P K mg) (f r : Fr) (a : Rat) (h : ShfB f a r) : FnT P w K mg base 54 (fFun K "shifted") (spT [tR K f, tQ K a] (tR K r)) := by
  obtain ⟨fd', D⟩ := B.F.d_RatFun_shifted
  refine fnT_of (fn_ret D sc_RatFun_shifted rfl fun cdv A outer s H hr => ?_) (bi_RatFun_shifted D)
  refine bt_last (st_ret (et_RF B hr h.r rfl (et_meth (w_Pshifted B _ _ h.n) B.F.cl_Poly B.F.me_Poly_shifted (hr.mono (by omega)) (et_num B.F (vr 0 rfl rfl rfl rfl rfl)) (noP rfl) (at_one (vr 1 rfl rfl rfl rfl rfl)) rfl rfl rfl) (et_meth (w_Pshifted B _ _ h.d) B.F.cl_Poly B.F.me_Poly_shifted (hr.mono (by omega)) (et_den B.F (vr 0 rfl rfl rfl rfl rfl)) (noP rfl) (at_one (vr 1 rfl rfl rfl rfl rfl)) rfl rfl rfl)) rfl)
theorem w_Feq (B : Bs P K mg) (f g : Fr) : FnT P w K mg base 54 (fFun K "__eq__") (spT [tR K f, tR K g] (tB (decide (f.n.row = g.n.row) && decide (f.d.row = g.d.row)))) := by
  obtain ⟨fd', D⟩ := B.F.d_RatFun_eq
  refine fnT_of (fn_ret D sc_RatFun_eq rfl fun cdv A outer s H hr => ?_) (bi_RatFun_eq D)
  refine bt_last (st_ret (et_andT (et_callB call_isi rfl B.F.b_isinstance rfl (at_two (vr 1 rfl rfl rfl rfl rfl) (et_glob (v := .ref _) rfl B.F.g_RatFun rfl rfl)) (r_isi isF B.F.cl_RatFun B.F.ca_RatFun B.F.kc_RatFun_RatFun) (by decide) rfl rfl rfl) ?_) rfl)
  by_cases h : f.n.row = g.n.row
  · rw [decide_eq_true h]
    exact et_andT (ET.imp (tt_peq B hr (et_num B.F (vr 0 rfl rfl rfl rfl rfl)) (et_num B.F (vr 1 rfl rfl rfl rfl rfl))) (tB_of (decide_eq_true h))) (et_one (tt_peq B hr (et_den B.F (vr 0 rfl rfl rfl rfl rfl)) (et_den B.F (vr 1 rfl rfl rfl rfl rfl))))
  · rw [decide_eq_false h]
    exact et_andF (ET.imp (tt_peq B hr (et_num B.F (vr 0 rfl rfl rfl rfl rfl)) (et_num B.F (vr 1 rfl rfl rfl rfl rfl))) (tB_of (decide_eq_false h)))
theorem w_of_poly (B : Bs P K mg) (p : Pol) (r : Fr) (h : RfR p (Pol.C 1) r) : FnT P w K mg base 56 (fTop K "of_poly") (spT [tP K p.row] (tR K r)) := by
  obtain ⟨fd', D⟩ := B.F.d_of_poly
  refine fnT_of (fn_ret D sc_of_poly rfl fun cdv A outer s H hr => ?_) (bi_of_poly D)
  exact bt_last (st_ret (et_RF B (hr.mono (by omega)) h rfl (vr 0 rfl rfl rfl rfl rfl) (et_call (w_constant B 1) (hr.mono (by omega)) rfl B.F.g_constant B.F.k_constant (at_one (et_call0 (w_one B) (hr.mono (by omega)) rfl B.F.g_one B.F.k_one rfl)) rfl rfl rfl)) rfl)
theorem w_of_ratio (B : Bs P K mg) (q : Rat) (r : Fr) (h : RfR (Pol.C q) (Pol.C 1) r) : FnT P w K mg base 58 (fTop K "of_ratio") (spT [tQ K q] (tR K r)) := by
  obtain ⟨fd', D⟩ := B.F.d_of_ratio
  refine fnT_of (fn_ret D sc_of_ratio rfl fun cdv A outer s H hr => ?_) (bi_of_ratio D)
  exact bt_last (st_ret (et_call (w_of_poly B (Pol.C q) r h) (hr.mono (by omega)) rfl B.F.g_of_poly B.F.k_of_poly (at_one (et_call (w_constant B q) (hr.mono (by omega)) rfl B.F.g_constant B.F.k_constant (at_one (vr 0 rfl rfl rfl rfl rfl)) rfl rfl rfl)) rfl rfl rfl) rfl)
end
end SLT
set_option exponentiation.threshold 256
set_option maxRecDepth 100000
set_option maxHeartbeats 1000000
namespace SLT
open PySem PySem.Spec PyProof.Rows L2 SL SW
open Lean.Grind
def polI (l : Iw) : Pol := Pol.of (l.map fun z : Int => (z : Rat))
theorem co_polI (l : Iw) (i : Nat) : (polI l).co i = (l.getD i 0 : Int) := by
  unfold polI
  rw [Pol.co_of, List.getD_eq_getElem?_getD, List.getD_eq_getElem?_getD, List.getElem?_map]
  by_cases h : i < l.length
  · simp [h]
  · simp [List.getElem?_eq_none (Nat.not_lt.mp h)]
theorem polI_Z (l : Iw) : (polI l).Z := fun i => ⟨_, co_polI l i⟩
theorem getD_ge (l : Iw) {i : Nat} (h : l.length ≤ i) : l.getD i 0 = 0 := by rw [List.getD_eq_getElem?_getD, List.getElem?_eq_none h]; rfl
theorem lastI_ne {l : Iw} (h : lastI l ≠ 0) : l ≠ [] ∧ 0 < l.length := by
  have : l ≠ [] := fun z => h (by rw [z]; rfl)
  exact ⟨this, List.length_pos_iff.mpr this⟩
theorem polI_len {l : Iw} (h : lastI l ≠ 0) : (polI l).len = l.length := by
  have h1 := (lastI_ne h).2
  have := Pol.len_eq (p := polI l) (n := l.length - 1) (fun i hi => by rw [co_polI, getD_ge l (by omega)]; rfl) (by
    rw [co_polI]; exact fun z => h (Rat.intCast_inj.mp z))
  omega
theorem polI_nil : polI [] = 0 := Pol.ext_co fun i => by rw [co_polI, Pol.co_zero]; rfl
theorem polI_ne {l : Iw} (h : lastI l ≠ 0) : polI l ≠ 0 := fun z => by
  have := polI_len h
  rw [z, (Pol.len_zero_iff 0).mpr rfl] at this
  have := (lastI_ne h).2
  omega
/-- no zero at the end -/
def TrI (l : Iw) : Prop := l = [] ∨ lastI l ≠ 0
theorem trimI_getD (p : Iw) (i : Nat) : (trimI p).getD i 0 = p.getD i 0 := by
  induction p generalizing i with
  | nil => rfl
  | cons a r ih =>
    have e : trimI (a :: r) = match trimI r with
      | [] => if a = 0 then [] else [a]
      | b :: s => a :: b :: s := rfl
    rw [e]
    cases h : trimI r with
    | nil =>
      rw [h] at ih
      cases i with
      | zero => by_cases ha : a = 0 <;> simp [ha]
      | succ i =>
        have := ih i
        simp at this
        by_cases ha : a = 0 <;> simp [ha] <;> rw [← this]
    | cons b s =>
      rw [h] at ih
      cases i with
      | zero => simp
      | succ i => have := ih i; simpa using this
theorem trimI_Tr : ∀ l : Iw, TrI (trimI l)
  | [] => .inl rfl
  | a :: r => by
    have e : trimI (a :: r) = match trimI r with
      | [] => if a = 0 then [] else [a]
      | b :: s => a :: b :: s := rfl
    rw [e]
    cases h : trimI r with
    | nil =>
      by_cases ha : a = 0
      · simp only [ha, if_true]; exact .inl rfl
      · simp only [ha, if_false]; exact .inr (by simpa [lastI] using ha)
    | cons b s =>
      have ih := trimI_Tr r
      rw [h] at ih
      rcases ih with z | z
      · cases z
      · refine .inr ?_
        unfold lastI at z ⊢
        simpa using z
theorem trimI_id {l : Iw} (h : TrI l) : trimI l = l := by
  rcases h with z | z
  · rw [z]; rfl
  · have h1 := trimI_pre l
    have h2 := trimI_le l
    by_cases hl : (trimI l).length = l.length
    · rw [← h1, hl, List.take_length]
    · have := trimI_getD l (l.length - 1)
      rw [getD_ge (trimI l) (by omega)] at this
      exact absurd this.symm z
theorem polI_trimI (l : Iw) : polI (trimI l) = polI l := Pol.ext_co fun i => by rw [co_polI, co_polI, trimI_getD]
theorem subI_getD (r : Iw) (f : Int) (s : Iw) (sh : Nat) : ∀ c, sh + c ≤ r.length → ∀ i, (subI r f s sh c).getD i 0 = r.getD i 0 - (if sh ≤ i ∧ i < sh + c then f * s.getD (i - sh) 0 else 0)
  | 0, h, i => by
    rw [if_neg (by omega)]; simp [subI]
  | c + 1, h, i => by
    have ih := subI_getD r f s sh c (by omega)
    have hl := subI_len r f s sh c
    show ((subI r f s sh c).set (sh + c) _).getD i 0 = _
    rw [List.getD_eq_getElem?_getD, List.getElem?_set]
    by_cases hi : sh + c = i
    · subst hi
      rw [if_pos rfl, if_pos (by omega), if_pos (by omega), ih, if_neg (by omega), show sh + c - sh = c by omega]
      simp
    · rw [if_neg hi, ← List.getD_eq_getElem?_getD, ih]
      congr 1
      by_cases h2 : sh ≤ i ∧ i < sh + c
      · rw [if_pos h2, if_pos (by omega)]
      · rw [if_neg h2, if_neg (by omega)]
theorem mlI_getD (s r : Iw) (i : Nat) : (mlI s r).getD i 0 = tmI s r * r.getD i 0 := by
  unfold mlI
  rw [List.getD_eq_getElem?_getD, List.getD_eq_getElem?_getD, List.getElem?_map]
  by_cases h : i < r.length
  · simp [h]
  · simp [List.getElem?_eq_none (Nat.not_lt.mp h)]
theorem stp_getD {s r : Iw} (h : s.length ≤ r.length) (i : Nat) : (stp s r).getD i 0 = tmI s r * r.getD i 0 - (if r.length - s.length ≤ i then fcI s r * s.getD (i - (r.length - s.length)) 0 else 0) := by
  unfold stp
  have hm : (mlI s r).length = r.length := List.length_map _
  rw [trimI_getD, subI_getD _ _ _ _ _ (by rw [hm]; omega), mlI_getD]
  congr 1
  by_cases h1 : r.length - s.length ≤ i
  · rw [if_pos h1]
    by_cases h2 : i < r.length - s.length + s.length
    · rw [if_pos ⟨h1, h2⟩]
    · rw [if_neg (by omega), getD_ge s (by omega)]; simp
  · rw [if_neg h1, if_neg (by omega)]
theorem cm_dvd1 (s r : Iw) : ((cmI s r : Nat) : Int) ∣ lastI s := Int.natAbs_dvd_natAbs.mp (by rw [Int.natAbs_natCast]; exact Nat.gcd_dvd_left _ _)
theorem cm_dvd2 (s r : Iw) : ((cmI s r : Nat) : Int) ∣ lastI r := Int.natAbs_dvd_natAbs.mp (by rw [Int.natAbs_natCast]; exact Nat.gcd_dvd_right _ _)
theorem tm_mul (s r : Iw) : tmI s r * cmI s r = lastI s := by unfold tmI; rw [Int.fdiv_eq_ediv_of_dvd (cm_dvd1 s r)]; exact Int.ediv_mul_cancel (cm_dvd1 s r)
theorem fc_mul (s r : Iw) : fcI s r * cmI s r = lastI r := by unfold fcI; rw [Int.fdiv_eq_ediv_of_dvd (cm_dvd2 s r)]; exact Int.ediv_mul_cancel (cm_dvd2 s r)
theorem cm_ne {s : Iw} (hs : lastI s ≠ 0) (r : Iw) : (cmI s r : Int) ≠ 0 := fun z => hs (by rw [← tm_mul s r, z]; simp)
theorem tm_ne {s : Iw} (hs : lastI s ≠ 0) (r : Iw) : tmI s r ≠ 0 := fun z => hs (by rw [← tm_mul s r, z]; simp)
theorem tm_le {s : Iw} (hs : lastI s ≠ 0) (r : Iw) : (tmI s r).natAbs ≤ (lastI s).natAbs := by
  have h := cm_ne hs r
  rw [← tm_mul s r, Int.natAbs_mul]
  exact Nat.le_mul_of_pos_right _ (by omega)
theorem fc_le {s : Iw} (hs : lastI s ≠ 0) (r : Iw) : (fcI s r).natAbs ≤ (lastI r).natAbs := by
  have h := cm_ne hs r
  have e : (lastI r).natAbs = (fcI s r).natAbs * (cmI s r : Int).natAbs := by rw [← Int.natAbs_mul, fc_mul]
  rw [e]
  exact Nat.le_mul_of_pos_right _ (by omega)
theorem stp_lt {s r : Iw} (hs : lastI s ≠ 0) (h : s.length ≤ r.length) : (stp s r).length < r.length := by
  have h1 := stp_le s r
  have h2 := (lastI_ne hs).2
  rcases trimI_Tr (subI (mlI s r) (fcI s r) s (r.length - s.length) s.length) with z | z
  · show (trimI _).length < _
    rw [z]; simp; omega
  · have z : lastI (stp s r) ≠ 0 := z
    refine Classical.byContradiction fun hc => z ?_
    have e : (stp s r).length = r.length := by omega
    unfold lastI
    rw [e, stp_getD h, if_pos (by omega), show r.length - 1 - (r.length - s.length) = s.length - 1 by omega]
    show tmI s r * lastI r - fcI s r * lastI s = 0
    have a := fc_mul s r
    have b := tm_mul s r
    rw [← a]
    have : tmI s r * (fcI s r * cmI s r) = fcI s r * (tmI s r * cmI s r) := by grind
    rw [this, b]; omega
theorem polI_stp {s r : Iw} (h : s.length ≤ r.length) : polI (stp s r) = Pol.C (tmI s r : Rat) * polI r - Pol.mon (fcI s r : Rat) (r.length - s.length) * polI s := Pol.ext_co fun i => by
  rw [co_polI, stp_getD h, Pol.co_sub, Pol.co_Cmul, Pol.mon_mul, co_polI, co_polI, Rat.intCast_sub, Rat.intCast_mul]
  congr 1
  split
  · rw [Rat.intCast_mul]
  · rfl
theorem sts_Tr {s f : Iw} (hf : TrI f) : ∀ t, TrI (sts s f t)
  | 0 => hf
  | t + 1 => trimI_Tr _
theorem sts_T {s f : Iw} (hs : lastI s ≠ 0) : ∃ T, T ≤ f.length ∧ (∀ t, t < T → s.length ≤ (sts s f t).length) ∧ (sts s f T).length < s.length := by
  have key : ∀ n t, (sts s f t).length ≤ n → (sts s f t).length + t ≤ f.length → (∀ j, j < t → s.length ≤ (sts s f j).length) → ∃ T, T ≤ f.length ∧ (∀ t, t < T → s.length ≤ (sts s f t).length) ∧ (sts s f T).length < s.length := by
    intro n
    induction n with
    | zero => exact fun t h1 h2 h3 => ⟨t, by omega, h3, by have := (lastI_ne hs).2; omega⟩
    | succ n ih =>
      intro t h1 h2 h3
      by_cases h4 : (sts s f t).length < s.length
      · exact ⟨t, by omega, h3, h4⟩
      · have h5 : (sts s f (t + 1)).length < (sts s f t).length := stp_lt hs (by omega)
        exact ih (t + 1) (by omega) (by omega) fun j hj => by
          by_cases e : j = t
          · subst e; omega
          · exact h3 j (by omega)
  exact key _ 0 (Nat.le_refl _) (Nat.le_refl _) fun j hj => absurd hj (Nat.not_lt_zero _)
theorem sts_pol {s f : Iw} (hs : lastI s ≠ 0) (t : Nat) (h : ∀ j, j < t → s.length ≤ (sts s f j).length) : ∃ (a : Rat) (Q : Pol), a ≠ 0 ∧ Q.len ≤ f.length + 1 - s.length ∧ polI (sts s f t) = Pol.C a * polI f - Q * polI s := by
  induction t with
  | zero => exact ⟨1, 0, by grind, by rw [(Pol.len_zero_iff 0).mpr rfl]; omega, by rw [Pol.C_one]; show polI f = _; grind⟩
  | succ t ih =>
    obtain ⟨a, Q, h1, h2, h3⟩ := ih fun j hj => h j (by omega)
    have h4 := h t (by omega)
    have h5 := sts_le s f t
    have h6 : (tmI s (sts s f t) : Rat) ≠ 0 := fun z => tm_ne hs (sts s f t) (Rat.intCast_inj.mp z)
    refine ⟨(tmI s (sts s f t) : Rat) * a, Pol.C (tmI s (sts s f t) : Rat) * Q + Pol.mon (fcI s (sts s f t) : Rat) ((sts s f t).length - s.length), fun z => (Rat.mul_eq_zero.mp z).elim h6 h1, ?_, ?_⟩
    · refine Nat.le_trans (Pol.len_add_le _ _) ?_
      have h7 := Pol.len_Cmul_le (tmI s (sts s f t) : Rat) Q
      have h8 : (Pol.mon (fcI s (sts s f t) : Rat) ((sts s f t).length - s.length)).len ≤ (sts s f t).length - s.length + 1 := Pol.len_le fun i hi => by rw [Pol.co_mon, if_neg (by omega)]
      omega
    · show polI (stp s (sts s f t)) = _
      rw [polI_stp h4, h3, ← Pol.C_mul]; grind
def BdI (B : Nat) (l : Iw) : Prop := ∀ i, (l.getD i 0).natAbs ≤ B
theorem BdI.mem {B : Nat} {l : Iw} (h : BdI B l) {n : Int} (hn : n ∈ l) : n.natAbs ≤ B := by
  obtain ⟨i, hi, e⟩ := List.getElem_of_mem hn
  have := h i
  rw [List.getD_eq_getElem?_getD, List.getElem?_eq_getElem hi] at this
  rw [← e]; exact this
theorem BdI_iff {B : Nat} {l : Iw} : BdI B l ↔ Hq 1 B (polI l) := by
  constructor
  · intro h i
    rw [co_polI]
    exact ⟨_, by simp, h i⟩
  · intro h i
    obtain ⟨z, h1, h2⟩ := h i
    rw [co_polI] at h1
    have : l.getD i 0 = z := Rat.intCast_inj.mp (by rw [← h1]; simp)
    rw [this]; exact h2
theorem sts_bd {s f : Iw} {b : Nat} (hs : lastI s ≠ 0) (hf : BdI (2 ^ b) f) (hb : BdI (2 ^ b) s) (t : Nat) (h : ∀ j, j < t → s.length ≤ (sts s f j).length) : BdI (2 ^ ((b + 1) * t + b)) (sts s f t) := by
  induction t with
  | zero => simpa [sts] using hf
  | succ t ih =>
    have ih := ih fun j hj => h j (by omega)
    intro i
    show ((stp s (sts s f t)).getD i 0).natAbs ≤ _
    rw [stp_getD (h t (by omega))]
    have h1 : (tmI s (sts s f t)).natAbs ≤ 2 ^ b := Nat.le_trans (tm_le hs _) (hb _)
    have h2 : (fcI s (sts s f t)).natAbs ≤ 2 ^ ((b + 1) * t + b) := Nat.le_trans (fc_le hs _) (ih _)
    have h3 : (tmI s (sts s f t) * (sts s f t).getD i 0).natAbs ≤ 2 ^ b * 2 ^ ((b + 1) * t + b) := by
      rw [Int.natAbs_mul]; exact Nat.mul_le_mul h1 (ih i)
    have h4 : (if (sts s f t).length - s.length ≤ i then fcI s (sts s f t) * s.getD (i - ((sts s f t).length - s.length)) 0 else 0).natAbs ≤ 2 ^ b * 2 ^ ((b + 1) * t + b) := by
      split
      · rw [Int.natAbs_mul, Nat.mul_comm]; exact Nat.mul_le_mul (hb _) h2
      · simp
    have h5 : 2 ^ b * 2 ^ ((b + 1) * t + b) + 2 ^ b * 2 ^ ((b + 1) * t + b) = 2 ^ ((b + 1) * (t + 1) + b) := by
      rw [← Nat.two_mul, ← Nat.pow_add, ← Nat.pow_succ', Nat.mul_succ]; congr 1; omega
    omega
theorem irB {s f : Iw} {b T : Nat} (hs : lastI s ≠ 0) (hf : BdI (2 ^ b) f) (hb : BdI (2 ^ b) s) (hT : T ≤ f.length) (lf : f.length ≤ 500000) (ls : s.length ≤ 500000) (h : ∀ t, t < T → s.length ≤ (sts s f t).length) (h2 : (sts s f T).length < s.length) (hsz : (b + 1) * (f.length + 1) ≤ 60000000) : IrB f s T := by
  have hp : ∀ t, t < T → (b + 1) * t + b < 60000000 := fun t ht => by
    have : (b + 1) * t + (b + 1) ≤ (b + 1) * (f.length + 1) := by rw [← Nat.mul_succ]; exact Nat.mul_le_mul_left _ (by omega)
    omega
  have hb1 : b < 60000000 := by
    have : (b + 1) * 1 ≤ (b + 1) * (f.length + 1) := Nat.mul_le_mul_left _ (by omega)
    omega
  have lt : ∀ {x c : Nat}, x ≤ 2 ^ c → c < 60000000 → x < 2 ^ 60000000 := fun h1 h2 => Nat.lt_of_le_of_lt h1 (Nat.pow_lt_pow_right (by decide) h2)
  refine ⟨⟨lf, ls⟩, hs, h, h2, fun t ht n hn => ?_, fun t ht n hn => ?_⟩
  · exact QB.m (lt (Nat.le_trans (tm_le hs _) (hb _)) hb1) (lt ((sts_bd hs hf hb t fun j hj => h j (by omega)).mem hn) (hp t ht))
  · exact QB.m (lt (Nat.le_trans (fc_le hs _) (sts_bd hs hf hb t (fun j hj => h j (by omega)) _)) (hp t ht)) (lt (hb.mem hn) hb1)
def gcdF (f : Nat → Int) : Nat → Nat
  | 0 => 0
  | t + 1 => Nat.gcd (gcdF f t) (f t).natAbs
theorem gcdF_dvd (f : Nat → Int) : ∀ n i, i < n → gcdF f n ∣ (f i).natAbs
  | n + 1, i, h => by
    by_cases e : i = n
    · subst e; exact Nat.gcd_dvd_right _ _
    · exact Nat.dvd_trans (Nat.gcd_dvd_left _ _) (gcdF_dvd f n i (by omega))
theorem dvd_gcdF (f : Nat → Int) (e : Nat) : ∀ n, (∀ i, i < n → e ∣ (f i).natAbs) → e ∣ gcdF f n
  | 0, _ => Nat.dvd_zero _
  | n + 1, h => Nat.dvd_gcd (dvd_gcdF f e n fun i hi => h i (by omega)) (h n (by omega))
theorem gcdI_F (l : Iw) (n : Nat) : gcdI l n = gcdF (fun i => l.getD i 0) n := by
  induction n with
  | zero => rfl
  | succ n ih => show Nat.gcd (gcdI l n) _ = Nat.gcd (gcdF _ n) _; rw [ih]
theorem com_F (p : Cf) (n : Nat) : com p n = gcdF (prN p) n := by
  induction n with
  | zero => rfl
  | succ n ih => show Nat.gcd (com p n) _ = Nat.gcd (gcdF _ n) _; rw [ih]
/-- the quotients by the common divisor have none -/
theorem prim_of {f g : Nat → Int} {n : Nat} {c : Int} (hc : c.natAbs = gcdF f n) (hc0 : c ≠ 0) (hg : ∀ i, i < n → f i = c * g i) {p : Pol} (hp : ∀ i, i < n → p.co i = g i) : p.Pr := fun e he => by
  refine Classical.byContradiction fun z => ?_
  have hd : ∀ i, Dv e (p.co i) := fun i => Classical.byContradiction fun w => z ⟨i, w⟩
  have h1 : e * c.natAbs ∣ gcdF f n := dvd_gcdF f _ n fun i hi => by
    have := hd i
    rw [hp i hi, Dv_of] at this
    rw [hg i hi, Int.natAbs_mul, Nat.mul_comm]
    exact Nat.mul_dvd_mul_left _ this
  rw [← hc] at h1
  have h2 := Nat.le_of_dvd (by omega) h1
  have := Nat.mul_lt_mul_of_pos_right he (show 0 < c.natAbs by omega)
  omega
theorem pRow_spec {l : Iw} (h : lastI l ≠ 0) : (pRow l).length = l.length ∧ lastI (pRow l) ≠ 0 ∧ (polI (pRow l)).Pr ∧ ∃ c : Rat, c ≠ 0 ∧ polI l = Pol.C c * polI (pRow l) := by
  have ht := trimI_id (.inr h)
  have hl := (lastI_ne h).2
  let g := gcdI l l.length
  have hg : g = gcdF (fun i => l.getD i 0) l.length := gcdI_F _ _
  have hdv : ∀ i, i < l.length → ((g : Nat) : Int) ∣ l.getD i 0 := fun i hi => Int.natAbs_dvd_natAbs.mp (by rw [Int.natAbs_natCast, hg]; exact gcdF_dvd (fun i => l.getD i 0) _ i hi)
  have hg0 : g ≠ 0 := fun z => h (by
    have := hdv (l.length - 1) (by omega)
    rw [z] at this
    exact Int.zero_dvd.mp this)
  have hc0 : ((g : Nat) : Int) ≠ 0 := by omega
  unfold pRow
  rw [ht]
  by_cases h2 : gcdI l l.length < 2
  · rw [if_pos h2]
    have g1 : g = 1 := by have : g < 2 := h2; omega
    refine ⟨rfl, h, ?_, 1, by grind, by rw [Pol.C_one]; grind⟩
    exact prim_of (f := fun i => l.getD i 0) (g := fun i => l.getD i 0) (n := l.length) (c := ((g : Nat) : Int)) (by rw [Int.natAbs_natCast, hg]) hc0 (fun i hi => by rw [g1]; simp) fun i hi => co_polI _ _
  · rw [if_neg h2]
    have e : ∀ i, (l.map fun n => n.fdiv ((gcdI l l.length : Nat) : Int)).getD i 0 = (l.getD i 0).fdiv (g : Nat) := fun i => by
      rw [List.getD_eq_getElem?_getD, List.getD_eq_getElem?_getD, List.getElem?_map]
      by_cases h : i < l.length
      · simp [h]; rfl
      · simp [List.getElem?_eq_none (Nat.not_lt.mp h)]
    have e2 : ∀ i, i < l.length → l.getD i 0 = (g : Nat) * (l.map fun n => n.fdiv ((gcdI l l.length : Nat) : Int)).getD i 0 := fun i hi => by
      rw [e, Int.fdiv_eq_ediv_of_dvd (hdv i hi), Int.mul_ediv_cancel' (hdv i hi)]
    have hlen : (l.map fun n => n.fdiv ((gcdI l l.length : Nat) : Int)).length = l.length := List.length_map _
    refine ⟨hlen, fun z => h ?_, ?_, (g : Rat), natc_ne (by omega), ?_⟩
    · unfold lastI at z ⊢
      rw [hlen] at z
      rw [e2 _ (by omega), z]; simp
    · exact prim_of (f := fun i => l.getD i 0) (n := l.length) (c := ((g : Nat) : Int)) (by rw [Int.natAbs_natCast, hg]) hc0 e2 fun i hi => co_polI _ _
    · refine Pol.ext_co fun i => ?_
      rw [Pol.co_Cmul, co_polI, co_polI]
      by_cases hi : i < l.length
      · rw [e2 i hi, Rat.intCast_mul, Rat.intCast_natCast]
      · rw [getD_ge l (by omega), getD_ge _ (by rw [hlen]; omega)]; simp
theorem pRow_nil : pRow [] = [] := rfl
theorem prN_eq (p : Cf) {i : Nat} (hi : i < p.length) : ((prN p i : Int) : Rat) = p.getD i 0 * (scl p p.length : Nat) := by
  obtain ⟨k, hk⟩ := scl_dvd p p.length i hi
  have hd := (p.getD i 0).den_pos
  unfold prN
  rw [hk, Nat.mul_div_cancel_left _ hd, Rat.intCast_mul, ← mul_den, Rat.natCast_mul, Rat.intCast_natCast]
  grind
theorem prims_spec {p : Pol} (h0 : p ≠ 0) : comS p.row ≠ 0 ∧ (prims p.row).length = p.len ∧ lastI (prims p.row) ≠ 0 ∧ (polI (prims p.row)).Pr ∧ ∃ c : Rat, c ≠ 0 ∧ p = Pol.C c * polI (prims p.row) := by
  have hl := Pol.len_pos h0
  have hS := scl_pos p.row p.row.length
  have hlc := Pol.lc_ne h0
  have hS0 := natc_ne hS
  have hpr : ∀ i, i < p.len → ((prN p.row i : Int) : Rat) = p.co i * (scl p.row p.row.length : Nat) := fun i hi => prN_eq p.row hi
  have hcom : com p.row p.row.length = gcdF (prN p.row) p.row.length := com_F _ _
  have hcn : (comS p.row).natAbs = gcdF (prN p.row) p.row.length := by
    rw [← hcom]; unfold comS; split <;> simp
  have hlast : prN p.row (p.len - 1) ≠ 0 := fun z => by
    have := hpr (p.len - 1) (by omega)
    rw [z] at this
    exact (Rat.mul_eq_zero.mp this.symm).elim hlc hS0
  have hdv : ∀ i, i < p.len → comS p.row ∣ prN p.row i := fun i hi => Int.natAbs_dvd_natAbs.mp (by rw [hcn]; exact gcdF_dvd _ _ i hi)
  have hc0 : comS p.row ≠ 0 := fun z => hlast (by
    have := hdv (p.len - 1) (by omega)
    rw [z] at this
    exact Int.zero_dvd.mp this)
  have hlen : (prims p.row).length = p.len := by unfold prims; simp; rfl
  have hget : ∀ i, i < p.len → prN p.row i = comS p.row * (prims p.row).getD i 0 := fun i hi => by
    have : (prims p.row).getD i 0 = (prN p.row i).fdiv (comS p.row) := by
      unfold prims
      rw [List.getD_eq_getElem?_getD, List.getElem?_map, List.getElem?_range (show i < List.length p.row from hi)]; rfl
    rw [this, Int.fdiv_eq_ediv_of_dvd (hdv i hi), Int.mul_ediv_cancel' (hdv i hi)]
  have hcr : (comS p.row : Rat) ≠ 0 := fun z => hc0 (Rat.intCast_inj.mp z)
  refine ⟨hc0, hlen, fun z => hlast ?_, ?_, (comS p.row : Rat) * ((scl p.row p.row.length : Nat) : Rat)⁻¹, fun z => ?_, ?_⟩
  · unfold lastI at z
    rw [hlen] at z
    rw [hget _ (by omega), z]; simp
  · exact prim_of (f := prN p.row) (n := p.row.length) hcn hc0 hget fun i hi => co_polI _ _
  · rcases Rat.mul_eq_zero.mp z with w | w
    · exact hcr w
    · have := Rat.mul_inv_cancel _ hS0; rw [w] at this; grind
  · refine Pol.ext_co fun i => ?_
    rw [Pol.co_Cmul, co_polI]
    by_cases hi : i < p.len
    · have h1 := hpr i hi
      rw [hget i hi, Rat.intCast_mul] at h1
      have h2 := Rat.mul_inv_cancel _ hS0
      grind
    · rw [Pol.co_ge p (by omega), getD_ge _ (by rw [hlen]; omega)]; simp
end SLT
set_option maxRecDepth 100000
set_option maxHeartbeats 1000000
set_option exponentiation.threshold 100
namespace SLT
open PySem PySem.Spec PyProof.Rows L2 SL SW
open Lean.Grind
theorem chain {f g : Pol} {m b R : Nat} (hf : Hq 1 (2 ^ b) f) (hg : Hq 1 (2 ^ b) g) (lf : f.len ≤ m) (lg : g.len ≤ m) (hR : remS m (2 ^ b) ≤ 2 ^ R) (hm : m ≤ 500000) (hsz : (R + 1) * (m + 1) ≤ 60000000) :
    ∀ (n : Nat) (r s : Iw) (u v u' v' : Pol) (c : Rat), s.length ≤ n → lastI r ≠ 0 → TrI s → BdI (2 ^ R) r → BdI (2 ^ R) s → s.length ≤ f.len → s.length ≤ g.len → s.length ≤ r.length → r.length ≤ m → Cof f g (polI r) (polI s) u v u' v' c →
    ∃ (A : Nat → Iw) (Tn : Nat → Nat) (N : Nat), A 0 = r ∧ A 1 = s ∧ (∀ t, t < N → A (t + 2) = pRow (sts (A (t + 1)) (A t) (Tn t))) ∧ (∀ t, t < N → IrB (A t) (A (t + 1)) (Tn t)) ∧ (∀ t, t < N → A (t + 1) ≠ []) ∧ A (N + 1) = [] ∧ (A N).length ≤ m ∧ lastI (A N) ≠ 0 ∧ BdI (2 ^ R) (A N) ∧ ∃ u v u' v' c, Cof f g (polI (A N)) 0 u v u' v' c := by
  have base : ∀ (r s : Iw) (u v u' v' : Pol) (c : Rat), s = [] → lastI r ≠ 0 → BdI (2 ^ R) r → r.length ≤ m → Cof f g (polI r) (polI s) u v u' v' c → ∃ (A : Nat → Iw) (Tn : Nat → Nat) (N : Nat), A 0 = r ∧ A 1 = s ∧ (∀ t, t < N → A (t + 2) = pRow (sts (A (t + 1)) (A t) (Tn t))) ∧ (∀ t, t < N → IrB (A t) (A (t + 1)) (Tn t)) ∧ (∀ t, t < N → A (t + 1) ≠ []) ∧ A (N + 1) = [] ∧ (A N).length ≤ m ∧ lastI (A N) ≠ 0 ∧ BdI (2 ^ R) (A N) ∧ ∃ u v u' v' c, Cof f g (polI (A N)) 0 u v u' v' c := by
    intro r s u v u' v' c h0 h1 h2 h3 hC
    subst h0
    rw [polI_nil] at hC
    exact ⟨fun t => if t = 0 then r else [], fun _ => 0, 0, rfl, rfl, fun t h => absurd h (Nat.not_lt_zero _), fun t h => absurd h (Nat.not_lt_zero _), fun t h => absurd h (Nat.not_lt_zero _), rfl, h3, h1, h2, u, v, u', v', c, hC⟩
  intro n
  induction n with
  | zero => exact fun r s u v u' v' c h0 h1 h2 h3 h4 h5 h6 h7 h8 hC => base r s u v u' v' c (List.length_eq_zero_iff.mp (by omega)) h1 h3 h8 hC
  | succ n ih =>
    intro r s u v u' v' c h0 h1 h2 h3 h4 h5 h6 h7 h8 hC
    rcases h2 with hs | hs
    · exact base r s u v u' v' c hs h1 h3 h8 hC
    obtain ⟨T, t1, t2, t3⟩ := sts_T (s := s) (f := r) hs
    obtain ⟨a, Q, a0, q1, q2⟩ := sts_pol (s := s) (f := r) hs T t2
    have hir : IrB r s T := irB hs h3 h4 t1 (by omega) (by omega) t2 t3 (Nat.le_trans (Nat.mul_le_mul_left _ (by omega)) hsz)
    have ls := (lastI_ne hs).2
    have ps := polI_len hs
    have pr := polI_len h1
    have hw : TrI (sts s r T) := sts_Tr (.inr h1) T
    -- the new row
    have new : ∃ (c2 : Rat), c2 ≠ 0 ∧ polI (sts s r T) = Pol.C c2 * polI (pRow (sts s r T)) ∧ (pRow (sts s r T)).length = (sts s r T).length ∧ TrI (pRow (sts s r T)) ∧ (pRow (sts s r T) ≠ [] → lastI (pRow (sts s r T)) ≠ 0 ∧ (polI (pRow (sts s r T))).Pr) := by
      rcases hw with z | z
      · rw [z, pRow_nil]
        exact ⟨1, by grind, by rw [polI_nil]; grind, rfl, .inl rfl, fun h => absurd rfl h⟩
      · obtain ⟨p1, p2, p3, c2, p4, p5⟩ := pRow_spec z
        exact ⟨c2, p4, p5, p1, .inr p2, fun _ => ⟨p2, p3⟩⟩
    obtain ⟨c2, c20, n1, n2, n3, n4⟩ := new
    have hi := Pol.C_inv c20
    have hci : c2⁻¹ ≠ 0 := fun z => by have := Rat.mul_inv_cancel _ c20; rw [z] at this; grind
    have hlen : (polI (pRow (sts s r T))).len = (pRow (sts s r T)).length := by
      rcases n3 with z | z
      · rw [z, polI_nil, (Pol.len_zero_iff 0).mpr rfl]; rfl
      · exact polI_len z
    have hC' := hC.next (a := c2⁻¹ * a) (Q := Pol.C c2⁻¹ * Q) (t := polI (pRow (sts s r T))) (fun z => (Rat.mul_eq_zero.mp z).elim hci a0) (by rw [pr, ps]; exact Nat.le_trans (Pol.len_Cmul_le _ _) q1) (by
      have : Pol.C c2⁻¹ * polI (sts s r T) = Pol.C c2⁻¹ * (Pol.C c2 * polI (pRow (sts s r T))) := by rw [n1]
      rw [q2] at this
      rw [← Pol.C_mul]; grind) (by omega)
    have hb : BdI (2 ^ R) (pRow (sts s r T)) := by
      rw [BdI_iff]
      by_cases hz : pRow (sts s r T) = []
      · rw [hz, polI_nil]; intro i; rw [Pol.co_zero, Rat.zero_mul]; exact Ib.zero
      · obtain ⟨k1, k2⟩ := n4 hz
        exact (hC'.bound hf hg lf lg (polI_ne k1) (polI_Z _) k2 (by omega) (by omega) (by omega)).mono hR
    obtain ⟨A, Tn, N, e1, e2, e3, e4, e5, e6, e7, e8, e9, e10⟩ := ih s (pRow (sts s r T)) _ _ _ _ _ (by omega) hs n3 h4 hb (by omega) (by omega) (by omega) (by omega) hC'
    refine ⟨fun t => if t = 0 then r else A (t - 1), fun t => if t = 0 then T else Tn (t - 1), N + 1, rfl, ?_, fun t ht => ?_, fun t ht => ?_, fun t ht => ?_, ?_, ?_, ?_, ?_, ?_⟩
    · simp [e1]
    · cases t with
      | zero => simp [e1, e2]
      | succ t => simpa using e3 t (by omega)
    · cases t with
      | zero => simpa [e1] using hir
      | succ t => simpa using e4 t (by omega)
    · cases t with
      | zero => simp [e1]; exact (lastI_ne hs).1
      | succ t => simpa using e5 t (by omega)
    · simpa using e6
    · simpa using e7
    · simpa using e8
    · simpa using e9
    · simpa using e10
theorem Ib.bounds {L B : Nat} {q : Rat} (hL : 0 < L) (h : Ib B (q * L)) : q.den ∣ L ∧ q.num.natAbs ≤ B := by
  obtain ⟨z, h1, h2⟩ := h
  have e0 := mul_den q
  have hd := natc_ne q.den_pos
  have e1 : ((q.num * L : Int) : Rat) = ((z * q.den : Int) : Rat) := by
    rw [Rat.intCast_mul, Rat.intCast_mul, ← e0, ← h1, Rat.intCast_natCast, Rat.intCast_natCast]; grind
  have e2 := congrArg Int.natAbs (Rat.intCast_inj.mp e1)
  rw [Int.natAbs_mul, Int.natAbs_mul, Int.natAbs_natCast, Int.natAbs_natCast] at e2
  have dv : q.den ∣ L := Nat.Coprime.dvd_of_dvd_mul_left (Nat.Coprime.symm q.reduced) (e2 ▸ Nat.dvd_mul_left _ _)
  refine ⟨dv, ?_⟩
  obtain ⟨k, hk⟩ := dv
  rw [hk] at e2
  have hp := q.den_pos
  have hk0 : 0 < k := Nat.pos_of_ne_zero fun z => by rw [z] at hk; omega
  have e3 : q.num.natAbs * k = z.natAbs := Nat.eq_of_mul_eq_mul_right hp (by rw [← e2]; grind)
  have : q.num.natAbs ≤ q.num.natAbs * k := Nat.le_mul_of_pos_right _ hk0
  omega
theorem QB.of {L B b : Nat} {q : Rat} (hL : 0 < L) (h : Ib B (q * L)) (hB : B ≤ 2 ^ b) (hL2 : L ≤ 2 ^ b) (hb : b < 60000000) : QB q := by
  obtain ⟨h1, h2⟩ := Ib.bounds hL h
  have h3 := Nat.le_of_dvd hL h1
  have h4 : 2 ^ b < 2 ^ 60000000 := Nat.pow_lt_pow_right (by decide) hb
  exact ⟨Nat.lt_of_le_of_lt (Nat.le_trans h2 hB) h4, Nat.lt_of_le_of_lt (Nat.le_trans h3 hL2) h4⟩
theorem Hq.qb {L B b : Nat} {p : Pol} (hL : 0 < L) (h : Hq L B p) (hB : B ≤ 2 ^ b) (hL2 : L ≤ 2 ^ b) (hb : b < 60000000) (i : Nat) : QB (p.row.getD i 0) := QB.of hL (h i) hB hL2 hb
theorem Hq.pb {L B b : Nat} {p : Pol} (hL : 0 < L) (h : Hq L B p) (hB : B ≤ 2 ^ b) (hL2 : L ≤ 2 ^ b) (hb : b < 60000000) (hl : p.len ≤ 500000) : PB p.row := ⟨hl, fun c hc => by
  obtain ⟨i, hi, e⟩ := List.getElem_of_mem hc
  have := Hq.qb hL h hB hL2 hb i
  rw [List.getD_eq_getElem?_getD, List.getElem?_eq_getElem hi] at this
  rw [← e]; exact this⟩
theorem scl_dvdL {p : Cf} {L : Nat} (h : ∀ i, (p.getD i 0).den ∣ L) : ∀ t, scl p t ∣ L
  | 0 => Nat.one_dvd _
  | t + 1 => Nat.lcm_dvd (scl_dvdL h t) (h t)
theorem prB {p : Pol} {L B b : Nat} (h0 : p ≠ 0) (hL : 0 < L) (hL2 : L < 2 ^ 13400) (h : Hq L B p) (hB : B ≤ 2 ^ b) (hL3 : L ≤ 2 ^ b) (hb : b < 60000000) (hl : p.len ≤ 500000) : PrB p.row := by
  have hd : ∀ i, (p.row.getD i 0).den ∣ L := fun i => (Ib.bounds hL (h i)).1
  refine ⟨hl, fun z => h0 ((p.eq_zero_iff).mpr z), fun t _ => Nat.lt_of_le_of_lt (Nat.le_of_dvd hL (scl_dvdL hd t)) hL2, fun i => Nat.lt_of_le_of_lt (Nat.le_of_dvd hL (hd i)) hL2, Hq.qb hL h hB hL3 hb, (prims_spec h0).1⟩
theorem prims_bd {p : Pol} {L B : Nat} (h0 : p ≠ 0) (hL : 0 < L) (h : Hq L B p) : BdI B (prims p.row) := by
  obtain ⟨_, _, _, h4, c, h5, h6⟩ := prims_spec h0
  rw [BdI_iff]
  refine prim_bound (r := c * L) (polI_Z _) h4 (fun z => (Rat.mul_eq_zero.mp z).elim h5 (natc_ne hL)) fun i => ?_
  have := h i
  rw [h6, Pol.co_Cmul] at this
  rwa [show c * (L : Rat) * (polI (prims p.row)).co i = c * (polI (prims p.row)).co i * L by grind]
/-- what common_divisor gives for two of positive degrees -/
theorem cd_main {p q : Pol} {Lp Lq m b R : Nat} (hp0 : p ≠ 0) (hq0 : q ≠ 0) (hLp : 0 < Lp) (hLq : 0 < Lq) (hLp2 : Lp < 2 ^ 13400) (hLq2 : Lq < 2 ^ 13400) (hp : Hq Lp (2 ^ b) p) (hq : Hq Lq (2 ^ b) q) (lp : p.len ≤ m) (lq : q.len ≤ m) (hb : Lp ≤ 2 ^ b) (hb2 : Lq ≤ 2 ^ b) (hR : remS m (2 ^ b) ≤ 2 ^ R) (hbR : b ≤ R) (hm : m ≤ 500000) (hsz : (R + 1) * (m + 1) ≤ 60000000) :
    ∃ A Tn N, CdB p.row q.row A Tn N ∧ ∃ G : Pol, trim (gcdRow (A N)) = G.row ∧ G.lc = 1 ∧ (∃ x, p = x * G) ∧ (∃ y, q = y * G) ∧ (∃ u v, G = u * p + v * q) ∧ ∃ L, 0 < L ∧ L ≤ 2 ^ R ∧ Hq L (2 ^ R) G := by
  have hR6 : R < 60000000 := by
    have : (R + 1) * 1 ≤ (R + 1) * (m + 1) := Nat.mul_le_mul_left _ (by omega)
    omega
  obtain ⟨a1, a2, a3, a4, cp, a5, a6⟩ := prims_spec hp0
  obtain ⟨b1, b2, b3, b4, cq, b5, b6⟩ := prims_spec hq0
  have bp := prims_bd hp0 hLp hp
  have bq := prims_bd hq0 hLq hq
  let f := polI (prims p.row)
  let g := polI (prims q.row)
  have lf : f.len = p.len := by rw [← a2]; exact polI_len a3
  have lg : g.len = q.len := by rw [← b2]; exact polI_len b3
  have h2R : 2 ^ b ≤ 2 ^ R := Nat.pow_le_pow_right (by decide) hbR
  have bpR : BdI (2 ^ R) (prims p.row) := fun i => Nat.le_trans (bp i) h2R
  have bqR : BdI (2 ^ R) (prims q.row) := fun i => Nat.le_trans (bq i) h2R
  have hf : Hq 1 (2 ^ b) f := BdI_iff.mp bp
  have hg : Hq 1 (2 ^ b) g := BdI_iff.mp bq
  have C0 := cof0 f g
  have ch : ∃ (A : Nat → Iw) (Tn : Nat → Nat) (N : Nat), A 0 = prims p.row ∧ A 1 = prims q.row ∧ (∀ t, t < N → A (t + 2) = pRow (sts (A (t + 1)) (A t) (Tn t))) ∧ (∀ t, t < N → IrB (A t) (A (t + 1)) (Tn t)) ∧ (∀ t, t < N → A (t + 1) ≠ []) ∧ A (N + 1) = [] ∧ (A N).length ≤ m ∧ lastI (A N) ≠ 0 ∧ BdI (2 ^ R) (A N) ∧ ∃ u v u' v' c, Cof f g (polI (A N)) 0 u v u' v' c := by
    by_cases hl : q.len ≤ p.len
    · exact chain hf hg (by omega) (by omega) hR hm hsz _ (prims p.row) (prims q.row) _ _ _ _ _ (Nat.le_refl _) a3 (.inr b3) bpR bqR (by omega) (by omega) (by omega) (by omega) C0
    · obtain ⟨p1, p2, p3, c2, p4, p5⟩ := pRow_spec a3
      have hi := Pol.C_inv p4
      have hci : c2⁻¹ ≠ 0 := fun z => by have := Rat.mul_inv_cancel _ p4; rw [z] at this; grind
      have hlen := polI_len p2
      have hC' := C0.next (a := c2⁻¹) (Q := 0) (t := polI (pRow (prims p.row))) hci (by rw [(Pol.len_zero_iff 0).mpr rfl]; omega) (by
        have : Pol.C c2⁻¹ * f = Pol.C c2⁻¹ * (Pol.C c2 * polI (pRow (prims p.row))) := by rw [← p5]
        grind) (by omega)
      have hb' : BdI (2 ^ R) (pRow (prims p.row)) := by
        rw [BdI_iff]
        refine prim_bound (r := c2) (polI_Z _) p3 p4 fun i => ?_
        have := (BdI_iff.mp bpR) i
        rw [p5, Pol.co_Cmul] at this
        simpa using this
      obtain ⟨A, Tn, N, e1, e2, e3, e4, e5, e6, e7, e8, e9, e10⟩ := chain hf hg (by omega) (by omega) hR hm hsz _ (prims q.row) (pRow (prims p.row)) _ _ _ _ _ (Nat.le_refl _) b3 (.inr p2) bqR hb' (by omega) (by omega) (by omega) (by omega) hC'
      have hir : IrB (prims p.row) (prims q.row) 0 := irB b3 bpR bqR (Nat.zero_le _) (by omega) (by omega) (fun t ht => absurd ht (Nat.not_lt_zero _)) (by show (prims p.row).length < _; omega) (Nat.le_trans (Nat.mul_le_mul_left _ (by omega)) hsz)
      refine ⟨fun t => if t = 0 then prims p.row else A (t - 1), fun t => if t = 0 then 0 else Tn (t - 1), N + 1, rfl, ?_, fun t ht => ?_, fun t ht => ?_, fun t ht => ?_, ?_, ?_, ?_, ?_, ?_⟩
      · simp [e1]
      · cases t with
        | zero => simp [e1, e2]; rfl
        | succ t => simpa using e3 t (by omega)
      · cases t with
        | zero => simpa [e1] using hir
        | succ t => simpa using e4 t (by omega)
      · cases t with
        | zero => simp [e1]; exact (lastI_ne b3).1
        | succ t => simpa using e5 t (by omega)
      · simpa using e6
      · simpa using e7
      · simpa using e8
      · simpa using e9
      · simpa using e10
  obtain ⟨A, Tn, N, e1, e2, e3, e4, e5, e6, e7, e8, e9, u, v, u', v', c, hC⟩ := ch
  refine ⟨A, Tn, N, ⟨prB hp0 hLp hLp2 hp (Nat.le_refl _) hb (by omega) (by omega), prB hq0 hLq hLq2 hq (Nat.le_refl _) hb2 (by omega) (by omega), e1, e2, e3, e4, e5, e6, by omega, e8⟩, ?_⟩
  have hla : (lastI (A N) : Rat) ≠ 0 := fun z => e8 (Rat.intCast_inj.mp z)
  let l : Rat := (lastI (A N) : Rat)
  have hli := Pol.C_inv hla
  let G := Pol.C l⁻¹ * polI (A N)
  have coG : ∀ i, G.co i = ((A N).getD i 0 : Int) * l⁻¹ := fun i => by show (Pol.C l⁻¹ * polI (A N)).co i = _; rw [Pol.co_Cmul, co_polI, Rat.mul_comm]
  have hrow : G = Pol.of (gcdRow (A N)) := Pol.ext_co fun i => by
    rw [coG, Pol.co_of]
    unfold gcdRow
    rw [List.getD_eq_getElem?_getD, List.getD_eq_getElem?_getD, List.getElem?_map]
    by_cases h : i < (A N).length
    · simp [h, Rat.divInt_eq_div, Rat.div_def]; rfl
    · simp [List.getElem?_eq_none (Nat.not_lt.mp h)]
  obtain ⟨x, y, hx, hy⟩ := hC.gcd
  have hlc : (polI (A N)).lc = l := by unfold Pol.lc; rw [polI_len e8, co_polI]; rfl
  refine ⟨G, by rw [hrow]; rfl, ?_, ⟨Pol.C cp * (x * Pol.C l), ?_⟩, ⟨Pol.C cq * (y * Pol.C l), ?_⟩, ⟨Pol.C l⁻¹ * (u * Pol.C cp⁻¹), Pol.C l⁻¹ * (v * Pol.C cq⁻¹), ?_⟩, (lastI (A N)).natAbs, by omega, e9 _, fun i => ?_⟩
  · show (Pol.C l⁻¹ * polI (A N)).lc = 1
    rw [Pol.lc_mul, Pol.lc_C, hlc]; exact Rat.inv_mul_cancel _ hla
  · show p = _
    rw [a6]
    have : f = x * polI (A N) := hx
    show Pol.C cp * f = Pol.C cp * (x * Pol.C l) * (Pol.C l⁻¹ * polI (A N))
    rw [this]; grind
  · show q = _
    rw [b6]
    have : g = y * polI (A N) := hy
    show Pol.C cq * g = Pol.C cq * (y * Pol.C l) * (Pol.C l⁻¹ * polI (A N))
    rw [this]; grind
  · show Pol.C l⁻¹ * polI (A N) = _
    have i1 := Pol.C_inv a5
    have i2 := Pol.C_inv b5
    have hp : p = Pol.C cp * f := a6
    have hq : q = Pol.C cq * g := b6
    have hr := hC.er
    rw [hr, hp, hq]; grind
  · have hn := e9 i
    have e : ((lastI (A N)).natAbs : Rat) = l ∨ ((lastI (A N)).natAbs : Rat) = -l := by
      by_cases hs : 0 ≤ lastI (A N)
      · left
        have : ((lastI (A N)).natAbs : Int) = lastI (A N) := by omega
        rw [← Rat.intCast_natCast, this]
      · right
        have : ((lastI (A N)).natAbs : Int) = -lastI (A N) := by omega
        rw [← Rat.intCast_natCast, this, Rat.intCast_neg]
    have hmi := Rat.inv_mul_cancel _ hla
    have hmi : l⁻¹ * l = 1 := hmi
    rw [coG]
    rcases e with e | e
    · rw [e]; exact ⟨(A N).getD i 0, by rw [Rat.mul_assoc, hmi, Rat.mul_one], hn⟩
    · rw [e]; exact ⟨-(A N).getD i 0, by rw [Rat.intCast_neg, Rat.mul_assoc, show l⁻¹ * -l = -1 by grind]; grind, by omega⟩
end SLT
set_option maxRecDepth 100000
set_option maxHeartbeats 1000000
set_option exponentiation.threshold 100
namespace SLT
open PySem PySem.Spec PyProof.Rows L2 SL SW
open Lean.Grind
theorem addTo_getD (r : Cf) (i : Nat) (v : Rat) (hi : i < r.length) (m : Nat) : (addTo r i v).getD m 0 = r.getD m 0 + if m = i then v else 0 := by
  unfold addTo
  rw [List.getD_eq_getElem?_getD, List.getElem?_set]
  by_cases h : i = m
  · subst h
    rw [if_pos rfl, if_pos hi, if_pos rfl]; rfl
  · rw [if_neg h, if_neg (fun z => h z.symm), ← List.getD_eq_getElem?_getD]; grind
theorem inn_getD (u : Rat) (q r : Cf) (i : Nat) : ∀ c, i + c ≤ r.length → ∀ m, (inn u q r i c).getD m 0 = r.getD m 0 + if i ≤ m ∧ m < i + c then u * q.getD (m - i) 0 else 0
  | 0, h, m => by rw [if_neg (by omega)]; show r.getD m 0 = _; grind
  | c + 1, h, m => by
    have ih := inn_getD u q r i c (by omega)
    show (addTo (inn u q r i c) (i + c) _).getD m 0 = _
    rw [addTo_getD _ _ _ (by rw [inn_len]; omega), ih]
    by_cases h1 : m = i + c
    · subst h1
      rw [if_neg (by omega), if_pos rfl, if_pos (by omega), show i + c - i = c by omega]; grind
    · by_cases h2 : i ≤ m ∧ m < i + c
      · rw [if_pos h2, if_neg h1, if_pos (by omega)]; grind
      · rw [if_neg h2, if_neg h1, if_neg (by omega)]; grind
def trunc (k : Nat) (q : Pol) : Pol := .of (q.row.take k)
theorem co_trunc (k : Nat) (q : Pol) (i : Nat) : (trunc k q).co i = if i < k then q.co i else 0 := by
  unfold trunc Pol.co
  rw [show (Pol.of (q.row.take k)).row.getD i 0 = (q.row.take k).getD i 0 from trim_getD _ i, List.getD_eq_getElem?_getD, List.getElem?_take]
  by_cases h : i < k
  · rw [if_pos h, if_pos h]; rfl
  · rw [if_neg h, if_neg h]; rfl
theorem trunc_succ (k : Nat) (q : Pol) : trunc (k + 1) q = trunc k q + Pol.mon (q.co k) k := Pol.ext_co fun i => by
  rw [Pol.co_add, co_trunc, co_trunc, Pol.co_mon]
  by_cases h : i < k
  · rw [if_pos (by omega), if_pos h, if_neg (by omega)]; grind
  · by_cases h2 : i = k
    · subst h2; rw [if_pos (by omega), if_neg h, if_pos rfl]; grind
    · rw [if_neg (by omega), if_neg h, if_neg h2]; grind
section
variable {p q g : Pol}
theorem dv_go (e : p = q * g) (hg : g ≠ 0) (hp : p ≠ 0) : ∀ t, (∀ i, (dv p.row g.row (dvN p.row g.row) (lastR g.row)⁻¹ t).1.getD i 0 = (trunc (dvN p.row g.row - t) q * g).co i) ∧ (t < dvN p.row g.row → dvF g.row (dvN p.row g.row) (lastR g.row)⁻¹ (dv p.row g.row (dvN p.row g.row) (lastR g.row)⁻¹ t).1 t = q.co (dvN p.row g.row - 1 - t)) := by
  have hq : q ≠ 0 := fun z => hp (by rw [e, z]; grind)
  have hl := Pol.len_mul hq hg
  rw [← e] at hl
  have lg := Pol.len_pos hg
  have lq := Pol.len_pos hq
  have hn : dvN p.row g.row = q.len := by show p.len + 1 - g.len = _; omega
  have hlc : lastR g.row = g.lc := rfl
  have hlc0 := Pol.lc_ne hg
  rw [hn, hlc]
  have val : ∀ t, (∀ i, (dv p.row g.row q.len g.lc⁻¹ t).1.getD i 0 = (trunc (q.len - t) q * g).co i) → dvF g.row q.len g.lc⁻¹ (dv p.row g.row q.len g.lc⁻¹ t).1 t = if t < q.len then q.co (q.len - 1 - t) else 0 := fun t h => by
    unfold dvF
    rw [h]
    have ltr : (trunc (q.len - t) q).len ≤ q.len - t := Pol.len_le fun i hi => by rw [co_trunc, if_neg (by omega)]
    by_cases ht : t < q.len
    · rw [if_pos ht]
      have := (Pol.mul_top (trunc (q.len - t) q) g (m := q.len - 1 - t) (n := g.len - 1) (by omega) (by omega)).1
      have e2 : q.len - 1 - t + (g.row.length - 1) = q.len - 1 - t + (g.len - 1) := rfl
      rw [e2, this, co_trunc, if_pos (by omega)]
      show q.co (q.len - 1 - t) * g.lc * g.lc⁻¹ = _
      rw [Rat.mul_assoc, Rat.mul_inv_cancel _ hlc0, Rat.mul_one]
    · rw [if_neg ht]
      have : trunc (q.len - t) q = 0 := Pol.ext_co fun i => by rw [co_trunc, if_neg (by omega), Pol.co_zero]
      rw [this, show (0 : Pol) * g = 0 by grind, Pol.co_zero, Rat.zero_mul]
  have main : ∀ t i, (dv p.row g.row q.len g.lc⁻¹ t).1.getD i 0 = (trunc (q.len - t) q * g).co i := by
    intro t
    induction t with
    | zero =>
      intro i
      have : trunc (q.len - 0) q = q := Pol.ext_co fun i => by
        rw [co_trunc]
        by_cases h : i < q.len
        · rw [if_pos (by omega)]
        · rw [if_neg (by omega), Pol.co_ge q (by omega)]
      rw [this, ← e]; rfl
    | succ t ih =>
      intro i
      have hv := val t ih
      show (inn (-(dvF g.row q.len g.lc⁻¹ (dv p.row g.row q.len g.lc⁻¹ t).1 t)) g.row (dv p.row g.row q.len g.lc⁻¹ t).1 (q.len - 1 - t) g.row.length).getD i 0 = _
      rw [inn_getD _ _ _ _ _ (by rw [dv_len1]; show q.len - 1 - t + g.len ≤ p.len; omega), ih, hv]
      by_cases ht : t < q.len
      · rw [if_pos ht]
        have e3 : q.len - t = (q.len - (t + 1)) + 1 := by omega
        have e4 : q.len - 1 - t = q.len - (t + 1) := by omega
        rw [e3, trunc_succ, show (trunc (q.len - (t + 1)) q + Pol.mon (q.co (q.len - (t + 1))) (q.len - (t + 1))) * g = trunc (q.len - (t + 1)) q * g + Pol.mon (q.co (q.len - (t + 1))) (q.len - (t + 1)) * g by grind, Pol.co_add, Pol.mon_mul, e4]
        by_cases h1 : q.len - (t + 1) ≤ i
        · rw [if_pos h1]
          by_cases h2 : i < q.len - (t + 1) + g.row.length
          · rw [if_pos ⟨h1, h2⟩]
            show _ + -q.co (q.len - (t + 1)) * g.co (i - (q.len - (t + 1))) = _
            grind
          · have hgi : g.co (i - (q.len - (t + 1))) = 0 := Pol.co_ge g (by
              have : g.row.length = g.len := rfl
              omega)
            rw [if_neg (fun z => h2 z.2), hgi]; grind
        · rw [if_neg h1, if_neg (fun z => h1 z.1)]; grind
      · rw [if_neg ht, show q.len - t = 0 by omega, show q.len - (t + 1) = 0 by omega]
        have : (if q.len - 1 - t ≤ i ∧ i < q.len - 1 - t + g.row.length then -(0 : Rat) * g.row.getD (i - (q.len - 1 - t)) 0 else 0) = 0 := by split <;> grind
        rw [this]; grind
  exact fun t => ⟨main t, fun ht => by rw [val t (main t), if_pos ht]⟩
theorem quo_row (e : p = q * g) (hg : g ≠ 0) : quo p.row g.row = q.row := by
  have lg := Pol.len_pos hg
  by_cases hp : p = 0
  · have hq : q = 0 := by
      rcases Pol.zero_of_mul (e.symm.trans hp) with z | z
      · exact z
      · exact absurd z hg
    subst hp
    rw [hq]
    unfold quo
    have : dvN (0 : Pol).row g.row = 0 := by show (0 : Pol).len + 1 - g.len = 0; rw [(Pol.len_zero_iff 0).mpr rfl]; omega
    rw [this, Pol.zero_row]
    rfl
  have hq : q ≠ 0 := fun z => hp (by rw [e, z]; grind)
  have hl := Pol.len_mul hq hg
  rw [← e] at hl
  have lq := Pol.len_pos hq
  have hn : dvN p.row g.row = q.len := by show p.len + 1 - g.len = _; omega
  have go := dv_go e hg hp
  have main : ∀ t, t ≤ q.len → ∀ i, (dv p.row g.row (dvN p.row g.row) (lastR g.row)⁻¹ t).2.getD i 0 = if q.len - t ≤ i ∧ i < q.len then q.co i else 0 := by
    intro t
    induction t with
    | zero =>
      intro _ i
      rw [if_neg (by omega)]
      show (List.replicate _ (0 : Rat)).getD i 0 = 0
      rw [List.getD_eq_getElem?_getD, List.getElem?_replicate]; split <;> rfl
    | succ t ih =>
      intro ht i
      have ih := ih (by omega)
      show ((dv p.row g.row (dvN p.row g.row) (lastR g.row)⁻¹ t).2.set _ (dvF _ _ _ _ _)).getD i 0 = _
      rw [(go t).2 (by omega), hn, List.getD_eq_getElem?_getD, List.getElem?_set, dv_len2]
      by_cases h : q.len - 1 - t = i
      · subst h
        rw [if_pos rfl, if_pos (by omega), if_pos (by omega)]; rfl
      · rw [hn] at ih
        rw [if_neg h, ← List.getD_eq_getElem?_getD, ih]
        by_cases h2 : q.len - t ≤ i ∧ i < q.len
        · rw [if_pos h2, if_pos (by omega)]
        · rw [if_neg h2, if_neg (by omega)]
  have : Pol.of (dv p.row g.row (dvN p.row g.row) (lastR g.row)⁻¹ (dvN p.row g.row)).2 = q := Pol.ext_co fun i => by
    have h := main q.len (Nat.le_refl _) i
    rw [← hn] at h
    rw [Pol.co_of, h]
    by_cases hi : i < q.len
    · rw [if_pos (by omega)]
    · rw [if_neg (by omega), Pol.co_ge q (by omega)]
  exact congrArg Pol.row this
theorem QB.inv {q : Rat} (h0 : q ≠ 0) (h : QB q) : QB q⁻¹ := by
  have hn : q.num ≠ 0 := fun z => h0 (by rw [← Rat.num_divInt_den q, z]; simp)
  have hi := Rat.mul_inv_cancel _ h0
  have e := mul_den q
  have hb : Ib q.den (q⁻¹ * (q.num.natAbs : Nat)) := by
    have e2 : q⁻¹ * (q.num : Rat) = q.den := by rw [← e]; grind
    by_cases hs : 0 ≤ q.num
    · have : ((q.num.natAbs : Nat) : Rat) = q.num := by
        have : ((q.num.natAbs : Nat) : Int) = q.num := by omega
        rw [← Rat.intCast_natCast, this]
      exact ⟨q.den, by rw [this, e2, Rat.intCast_natCast], by simp⟩
    · have : ((q.num.natAbs : Nat) : Rat) = -q.num := by
        have : ((q.num.natAbs : Nat) : Int) = -q.num := by omega
        rw [← Rat.intCast_natCast, this, Rat.intCast_neg]
      exact ⟨-q.den, by rw [this, Rat.intCast_neg, Rat.intCast_natCast, ← e2]; grind, by simp⟩
  obtain ⟨h1, h2⟩ := Ib.bounds (by omega) hb
  exact ⟨Nat.lt_of_le_of_lt h2 h.2, Nat.lt_of_le_of_lt (Nat.le_of_dvd (by omega) h1) h.1⟩
theorem trunc_Hq {L B k : Nat} (h : Hq L B q) : Hq L B (trunc k q) := fun i => by
  rw [co_trunc]
  split
  · exact h i
  · rw [Rat.zero_mul]; exact Ib.zero
theorem divB {Lq Lg b : Nat} (e : p = q * g) (hm : g.lc = 1) (hLq : 0 < Lq) (hLg : 0 < Lg) (hq : Hq Lq (2 ^ b) q) (hg : Hq Lg (2 ^ b) g) (bq : Lq ≤ 2 ^ b) (bg : Lg ≤ 2 ^ b) (lp : p.len ≤ 500000) (lq : q.len ≤ 500000) (lg : g.len ≤ 500000) (hb : 2 * b + 20 < 60000000) : DivB p.row g.row := by
  have hg0 : g ≠ 0 := fun z => by
    rw [z] at hm
    unfold Pol.lc at hm
    rw [Pol.co_zero] at hm
    exact absurd hm (by decide)
  have l1 := Pol.len_pos hg0
  have hL : 0 < Lq * Lg := Nat.mul_pos hLq hLg
  have hL2 : Lq * Lg ≤ 2 ^ (2 * b + 19) := by
    refine Nat.le_trans (Nat.mul_le_mul bq bg) ?_
    rw [← Nat.pow_add]; exact Nat.pow_le_pow_right (by decide) (by omega)
  have qbz : QB 0 := QB0
  have qt : ∀ k i, QB ((trunc k q * g).co i) := fun k i => by
    have h := (trunc_Hq (k := k) hq).mul hg
    refine QB.of hL (h i) (b := 2 * b + 19) ?_ hL2 (by omega)
    have : (trunc k q).len ≤ 2 ^ 19 := by
      refine Nat.le_trans (Pol.len_le (n := q.len) fun i hi => ?_) (by omega)
      rw [co_trunc, Pol.co_ge q hi]; split <;> rfl
    refine Nat.le_trans (Nat.mul_le_mul this (Nat.le_refl _)) ?_
    rw [← Nat.pow_add, ← Nat.pow_add]; exact Nat.pow_le_pow_right (by decide) (by omega)
  have qq : ∀ i, QB (q.co i) := fun i => QB.of hLq (hq i) (Nat.le_refl _) bq (by omega)
  have qg : ∀ i, QB (g.co i) := fun i => QB.of hLg (hg i) (Nat.le_refl _) bg (by omega)
  have qqg : ∀ i j, QB (q.co i * g.co j) := fun i j => by
    have h := (hq i).mul (hg j)
    have e : q.co i * Lq * (g.co j * Lg) = q.co i * g.co j * ((Lq * Lg : Nat) : Rat) := by rw [Rat.natCast_mul]; grind
    rw [e] at h
    exact QB.of hL h (b := 2 * b + 19) (by rw [← Nat.pow_add]; exact Nat.pow_le_pow_right (by decide) (by omega)) hL2 (by omega)
  have hv : QB (lastR g.row)⁻¹ := by
    have : lastR g.row = 1 := hm
    rw [this]
    exact QB.inv (by decide) ⟨Nat.one_lt_two_pow (by decide), Nat.one_lt_two_pow (by decide)⟩
  by_cases hp : p = 0
  · have hz : ∀ t i, (dv p.row g.row (dvN p.row g.row) (lastR g.row)⁻¹ t).1.getD i 0 = 0 := fun t i => by
      rw [List.getD_eq_getElem?_getD, List.getElem?_eq_none (by rw [dv_len1, hp, Pol.zero_row]; simp)]; rfl
    have hn : dvN p.row g.row = 0 := by rw [hp]; show (0 : Pol).len + 1 - g.len = 0; rw [(Pol.len_zero_iff 0).mpr rfl]; omega
    refine ⟨⟨lp, l1, lg⟩, by rw [show lastR g.row = 1 from hm]; decide, hv, fun t i => by rw [hz]; exact qbz, fun t c m ht => absurd ht (by rw [hn]; omega), fun t ht => absurd ht (by rw [hn]; omega), qg, fun t i ht => absurd ht (by rw [hn]; omega)⟩
  have go := dv_go e hg0 hp
  have hq0 : q ≠ 0 := fun z => hp (by rw [e, z]; grind)
  have hl := Pol.len_mul hq0 hg0
  rw [← e] at hl
  have hn : dvN p.row g.row = q.len := by show p.len + 1 - g.len = _; omega
  refine ⟨⟨lp, l1, lg⟩, by rw [show lastR g.row = 1 from hm]; decide, hv, fun t i => by rw [(go t).1]; exact qt _ _, fun t c m ht hc => ?_, fun t ht => by rw [(go t).2 ht]; exact qq _, qg, fun t i ht => by rw [(go t).2 ht]; exact qqg _ _⟩
  have hc : c ≤ g.len := hc
  rw [inn_getD _ _ _ _ _ (by rw [dv_len1]; show _ ≤ p.len; omega)]
  have h1 := (go (t + 1)).1 m
  have e1 : (dv p.row g.row (dvN p.row g.row) (lastR g.row)⁻¹ (t + 1)).1 = inn (-(dvF g.row (dvN p.row g.row) (lastR g.row)⁻¹ (dv p.row g.row (dvN p.row g.row) (lastR g.row)⁻¹ t).1 t)) g.row (dv p.row g.row (dvN p.row g.row) (lastR g.row)⁻¹ t).1 (dvN p.row g.row - 1 - t) g.row.length := rfl
  rw [e1, inn_getD _ _ _ _ _ (by rw [dv_len1]; show dvN p.row g.row - 1 - t + g.len ≤ p.len; omega)] at h1
  by_cases h2 : dvN p.row g.row - 1 - t ≤ m ∧ m < dvN p.row g.row - 1 - t + c
  · rw [if_pos h2]
    rw [if_pos ⟨h2.1, by have : g.row.length = g.len := rfl; omega⟩] at h1
    rw [h1]; exact qt _ _
  · rw [if_neg h2, Rat.add_zero, (go t).1]; exact qt _ _
end
theorem Pol.row_Cmul (c : Rat) (p : Pol) : (Pol.C c * p).row = trim (scaleL c p.row) := by
  have : Pol.C c * p = Pol.of (scaleL c p.row) := Pol.ext fun x => by rw [Pol.ev_mul, Pol.ev_C, Pol.ev_of, ev_scaleL]; rfl
  rw [this]; rfl
theorem remS_le {m b : Nat} (h : m ≤ 128) : remS m (2 ^ b) ≤ 2 ^ (8 + b + (b + 10) * (2 * m)) := by
  have h1 : redS m (2 ^ b) ≤ 2 ^ ((b + 10) * (2 * m)) := by
    unfold redS
    rw [Nat.pow_mul 2 (b + 10) (2 * m)]
    refine Nat.pow_le_pow_left ?_ _
    have e : 2 ^ (b + 10) = 2 ^ 10 * 2 ^ b := by rw [← Nat.pow_add]; congr 1; omega
    have hp : 0 < 2 ^ b := Nat.two_pow_pos b
    have h2 : 2 * (2 * m) * (2 ^ b + 1) ≤ 512 * (2 ^ b + 1) := Nat.mul_le_mul_right _ (by omega)
    rw [e]
    have : 2 ^ 10 = 1024 := rfl
    omega
  unfold remS
  have e : 2 ^ (8 + b + (b + 10) * (2 * m)) = 2 ^ 8 * (2 ^ ((b + 10) * (2 * m)) * 2 ^ b) := by rw [← Nat.pow_add, ← Nat.pow_add]; congr 1; omega
  rw [e]
  exact Nat.mul_le_mul (by have : 2 ^ 8 = 256 := rfl; omega) (Nat.mul_le_mul_right _ h1)
theorem kro_le {m h : Nat} (hm : m ≤ 128) : kro m (2 ^ h) ≤ 2 ^ (h + 19 * m) := by
  unfold kro
  have e : 2 ^ (h + 19 * m) = 2 ^ h * (2 ^ 9) ^ m * (2 ^ 10) ^ m := by rw [← Nat.pow_mul, ← Nat.pow_mul, ← Nat.pow_add, ← Nat.pow_add]; congr 1; omega
  rw [e]
  exact Nat.mul_le_mul (Nat.mul_le_mul_left _ (Nat.pow_le_pow_left (by have : 2 ^ 9 = 512 := rfl; omega) _)) (Nat.pow_le_pow_left (by have : 2 ^ 10 = 1024 := rfl; omega) _)
theorem C1_row : (Pol.C 1).row = (1 : Pol).row := by rw [Pol.C_one]
/-- RatFun(N, D) is the quotient in lowest terms -/
theorem rfR {N D n d : Pol} {LN LD Ln m b R : Nat} (hD0 : D ≠ 0) (hc : Can n d) (e : n * D = N * d) (p1 : 0 < LN) (p2 : 0 < LD) (p3 : 0 < Ln) (s1 : LN < 2 ^ 13400) (s2 : LD < 2 ^ 13400) (b1 : LN ≤ 2 ^ b) (b2 : LD ≤ 2 ^ b) (b3 : Ln ≤ 2 ^ b) (hN : Hq LN (2 ^ b) N) (hD : Hq LD (2 ^ b) D) (hn : Hq Ln (2 ^ b) n) (hd : Hq Ln (2 ^ b) d) (lN : N.len ≤ m) (lD : D.len ≤ m) (ln : n.len ≤ m) (ld : d.len ≤ m) (hR : remS m (2 ^ b) ≤ 2 ^ R) (hbR : 2 * b ≤ R) (hm : m ≤ 500000) (hsz : (R + 1) * (m + 1) ≤ 60000000) (hR2 : 2 * R + 20 < 60000000) : RfR N D ⟨n, d⟩ := by
  have hDr : D.row ≠ [] := fun z => hD0 ((D.eq_zero_iff).mpr z)
  have lDp := Pol.len_pos hD0
  have hlc0 := Pol.lc_ne hD0
  have uq : ∀ {n' d' : Pol}, Can n' d' → n' * D = N * d' → n = n' ∧ d = d' := fun {n' d'} h h2 => can_uniq hc h (Pol.cancel hD0 (by grind))
  by_cases hN0 : N = 0
  · have h := uq (n' := 0) (d' := 1) ⟨by rw [← Pol.C_one, Pol.lc_C], 0, 1, by grind⟩ (by rw [hN0]; grind)
    exact .zero ((N.eq_zero_iff).mp hN0) hDr (by rw [h.1]; exact Pol.zero_row) (by rw [h.2]; exact C1_row.symm)
  have hNr : N.row ≠ [] := fun z => hN0 ((N.eq_zero_iff).mpr z)
  have qlc : QB D.lc := QB.of p2 (hD _) (Nat.le_refl _) b2 (by omega)
  have hli := Pol.C_inv hlc0
  by_cases hD1 : D.row.length = 1
  · have hDc : D = Pol.C D.lc := by
      have := Pol.C_of_len (p := D) (by show D.row.length ≤ 1; omega)
      have e2 : D.lc = D.co 0 := by unfold Pol.lc; rw [show D.len - 1 = 0 by show D.row.length - 1 = 0; omega]
      rw [e2]; exact this
    have h := uq (n' := Pol.C D.lc⁻¹ * N) (d' := 1) ⟨by rw [← Pol.C_one, Pol.lc_C], 0, 1, by grind⟩ (by
      have : Pol.C D.lc⁻¹ * N * D = Pol.C D.lc⁻¹ * N * Pol.C D.lc := congrArg (fun z => Pol.C D.lc⁻¹ * N * z) hDc
      rw [this]; grind)
    refine .one hNr hD1 hlc0 (QB.inv hlc0 qlc) (Hq.pb p1 hN (Nat.le_refl _) b1 (by omega) (by omega)) ?_ (by rw [h.2]; exact C1_row.symm)
    rw [h.1]; exact Pol.row_Cmul _ _
  -- the common divisor
  have hG : ∃ G : Pol, CdG N.row D.row G.row ∧ G.lc = 1 ∧ (∃ x, N = x * G) ∧ (∃ y, D = y * G) ∧ (∃ u v, G = u * N + v * D) ∧ ∃ L, 0 < L ∧ L ≤ 2 ^ R ∧ Hq L (2 ^ R) G := by
    by_cases hN1 : N.row.length = 1
    · have hNc : N = Pol.C N.lc := by
        have := Pol.C_of_len (p := N) (by show N.row.length ≤ 1; omega)
        have e2 : N.lc = N.co 0 := by unfold Pol.lc; rw [show N.len - 1 = 0 by show N.row.length - 1 = 0; omega]
        rw [e2]; exact this
      have hni := Pol.C_inv (Pol.lc_ne hN0)
      refine ⟨1, ⟨fun _ => C1_row.symm, fun h => absurd (.inl hN1) h⟩, by rw [← Pol.C_one, Pol.lc_C], ⟨N, by grind⟩, ⟨D, by grind⟩, ⟨Pol.C N.lc⁻¹, 0, ?_⟩, 1, Nat.one_pos, Nat.one_le_two_pow, fun i => ?_⟩
      · have : Pol.C N.lc⁻¹ * N = Pol.C N.lc⁻¹ * Pol.C N.lc := congrArg (fun z => Pol.C N.lc⁻¹ * z) hNc
        rw [this]; grind
      · rw [← Pol.C_one, Pol.co_C]
        split
        · exact ⟨1, by simp, Nat.one_le_two_pow⟩
        · rw [Rat.zero_mul]; exact Ib.zero
    · obtain ⟨A, Tn, T, hcd, G, g1, g2, g3, g4, g5, g6⟩ := cd_main hN0 hD0 p1 p2 s1 s2 hN hD lN lD b1 b2 hR (by omega) hm hsz
      exact ⟨G, ⟨fun h => by omega, fun _ => ⟨A, Tn, T, hcd, g1.symm⟩⟩, g2, g3, g4, g5, g6⟩
  obtain ⟨G, g1, g2, ⟨x, hx⟩, ⟨y, hy⟩, ⟨u, v, huv⟩, L, L0, LR, hGH⟩ := hG
  have hG0 : G ≠ 0 := fun z => hD0 (by rw [hy, z]; grind)
  have hylc : y.lc = D.lc := by rw [hy, Pol.lc_mul, g2, Rat.mul_one]
  have h1 : u * x + v * y = 1 := Pol.cancel hG0 (by grind)
  have hn' := uq (n' := Pol.C D.lc⁻¹ * x) (d' := Pol.C D.lc⁻¹ * y) ⟨by rw [Pol.lc_mul, Pol.lc_C, hylc]; exact Rat.inv_mul_cancel _ hlc0, Pol.C D.lc * u, Pol.C D.lc * v, by grind⟩ (by
    have : Pol.C D.lc⁻¹ * x * D = Pol.C D.lc⁻¹ * x * (y * G) := congrArg (fun z => Pol.C D.lc⁻¹ * x * z) hy
    rw [this]
    have : N * (Pol.C D.lc⁻¹ * y) = x * G * (Pol.C D.lc⁻¹ * y) := congrArg (fun z => z * (Pol.C D.lc⁻¹ * y)) hx
    rw [this]; grind)
  have hxn : x = Pol.C D.lc * n := by rw [hn'.1]; grind
  have hyd : y = Pol.C D.lc * d := by rw [hn'.2]; grind
  have hq : ∀ {q a : Pol}, a = Pol.C D.lc * q → Hq Ln (2 ^ b) q → Hq (LD * Ln) (2 ^ (2 * b)) a := fun {q a} e h i => by
    have h2 := (hD (D.len - 1)).mul (h i)
    rw [e, Pol.co_Cmul, Rat.natCast_mul]
    have e2 : D.co (D.len - 1) * LD * (q.co i * Ln) = D.lc * q.co i * (LD * Ln) := by unfold Pol.lc; grind
    rw [e2] at h2
    rw [Nat.two_mul, Nat.pow_add]; exact h2
  have hxH := hq hxn hn
  have hyH := hq hyd hd
  have hLL : 0 < LD * Ln := Nat.mul_pos p2 p3
  have hLL2 : LD * Ln ≤ 2 ^ (2 * b) := by rw [Nat.two_mul, Nat.pow_add]; exact Nat.mul_le_mul b2 b3
  have hbR2 : 2 ^ (2 * b) ≤ 2 ^ R := Nat.pow_le_pow_right (by decide) hbR
  have lG : G.len ≤ 500000 := by
    have hy0 : y ≠ 0 := fun z => hD0 (by rw [hy, z]; grind)
    have := Pol.len_mul hy0 hG0
    rw [← hy] at this
    have := Pol.len_pos hy0
    omega
  have lx : x.len ≤ 500000 := by rw [hxn]; exact Nat.le_trans (Pol.len_Cmul_le _ _) (by omega)
  have ly : y.len ≤ 500000 := by rw [hyd]; exact Nat.le_trans (Pol.len_Cmul_le _ _) (by omega)
  have qx : quo N.row G.row = x.row := quo_row hx hG0
  have qy : quo D.row G.row = y.row := quo_row hy hG0
  have hl : lastR (quo D.row G.row) = D.lc := by rw [qy]; exact hylc
  refine .gen hNr hDr hD1 G.row ⟨g1, divB hy g2 hLL L0 (hyH.mono hbR2) hGH (Nat.le_trans hLL2 hbR2) LR (by omega) ly lG (by omega), divB hx g2 hLL L0 (hxH.mono hbR2) hGH (Nat.le_trans hLL2 hbR2) LR (by omega) lx lG (by omega), by rw [hl]; exact hlc0, by rw [hl]; exact QB.inv hlc0 qlc, ?_, ?_, ?_, ?_⟩
  · rw [qx]; exact Hq.pb hLL hxH (Nat.le_refl _) hLL2 (by omega) lx
  · rw [qy]; exact Hq.pb hLL hyH (Nat.le_refl _) hLL2 (by omega) ly
  · rw [hl, qx, hn'.1]; exact Pol.row_Cmul _ _
  · rw [hl, qy, hn'.2]; exact Pol.row_Cmul _ _
end SLT
set_option exponentiation.threshold 256
set_option maxRecDepth 100000
set_option maxHeartbeats 1000000
namespace SLT
open PySem PySem.Spec PyProof.Rows L2 SL SW
/-- a field of functions of x, as the walks know it -/
class FunQ (Q : Type) extends Lean.Grind.Field Q where
  dec : DecidableEq Q
  fr : Q → Fr
  sh : Nat → Q → Q
  ofR : Rat → Q
  frI : ∀ {f g : Q}, fr f = fr g → f = g
instance {Q : Type} [FunQ Q] : DecidableEq Q := FunQ.dec
abbrev tq {Q : Type} [FunQ Q] (K : PySem.W.Frag) (f : Q) : Ty := tR K (FunQ.fr f)
def tqs {Q : Type} [FunQ Q] (K : PySem.W.Frag) (l : List Q) : List Ty := l.map (tq K)
/-- what the methods give for values of moderate size -/
structure Ops (Q : Type) [FunQ Q] (Sz : Q → Prop) (P : Program) (w : World) (K : PySem.W.Frag) (mg : Str → Option Value) (base : Heap) : Prop where
  add : ∀ f g : Q, Sz f → Sz g → FnT P w K mg base 54 (fFun K "__add__") (spT [tq K f, tq K g] (tq K (f + g)))
  sub : ∀ f g : Q, Sz f → Sz g → FnT P w K mg base 54 (fFun K "__sub__") (spT [tq K f, tq K g] (tq K (f - g)))
  mul : ∀ f g : Q, Sz f → Sz g → FnT P w K mg base 54 (fFun K "__mul__") (spT [tq K f, tq K g] (tq K (f * g)))
  neg : ∀ f : Q, Sz f → FnT P w K mg base 54 (fFun K "__neg__") (spT [tq K f] (tq K (-f)))
  div : ∀ f g : Q, Sz f → Sz g → g ≠ 0 → FnT P w K mg base 54 (fFun K "__floordiv__") (spT [tq K f, tq K g] (tq K (f / g)))
  inv : ∀ f : Q, Sz f → f ≠ 0 → FnT P w K mg base 54 (fFun K "inverse") (spT [tq K f] (tq K f⁻¹))
  is0 : ∀ f : Q, FnT P w K mg base 54 (fFun K "is_zero") (spT [tq K f] (tB (decide (f = 0))))
  eq : ∀ f g : Q, FnT P w K mg base 54 (fFun K "__eq__") (spT [tq K f, tq K g] (tB (decide (f = g))))
  sh : ∀ (f : Q) (k : Nat), Sz f → k ≤ 5 → FnT P w K mg base 54 (fFun K "shifted") (spT [tq K f, tQ K (k : Rat)] (tq K (FunQ.sh k f)))
  zero : FnT P w K mg base 58 (fTop K "of_ratio") (spT [tQ K 0] (tq K (0 : Q)))
  one : FnT P w K mg base 58 (fTop K "of_ratio") (spT [tQ K 1] (tq K (1 : Q)))
/-- a list that is none of m, or a tuple -/
def tSn (m : List Addr) (K : PySem.W.Frag) (Rs : List Ty) : Ty := ⟨fun v H => (tLn m Rs).p v H ∨ (tT K Rs).p v H, fun e h => h.imp ((tLn m Rs).mono e) ((tT K Rs).mono e)⟩
section
variable {K : PySem.W.Frag} {m : List Addr} {Rs : List Ty} {R : Ty} {X : Cx} {Γ : Cxt} {a b : Expr} {pos : Pos}
theorem tLn_S (v : V) (H : Hp) (h : (tLn m Rs).p v H) : (tSn m K Rs).p v H := .inl h
theorem tT_S (v : V) (H : Hp) (h : (tT K Rs).p v H) : (tSn m K Rs).p v H := .inr h
theorem tSn_LT (v : V) (H : Hp) (h : (tSn m K Rs).p v H) : (tLT K Rs).p v H := h.elim (tLn_LT v H) (tT_LT v H)
theorem stb_Sn (hs : ∀ R ∈ Rs, Stb m R) : Stb m (tSn m K Rs) := fun v H H' e h => h.imp (stb_Ln hs v H H' e) (stb_T hs v H H' e)
theorem new_Sn {D : Addr} {v : V} {H : Hp} (h : H D = none) (r : (tSn m K Rs).p v H) : (tSn (D :: m) K Rs).p v H := r.imp (new_Ln h) id
theorem ixr_or {r1 r2 : R2} (h1 : IxR X r1) (h2 : IxR X r2) : IxR X (fun x y H Q => r1 x y H Q ∨ r2 x y H Q) := fun e s pins st σ H x y v u Q I rx ry h hs =>
  h.elim (fun h => h1 e s pins st σ H x y v u Q I rx ry h hs) fun h => h2 e s pins st σ H x y v u Q I rx ry h hs
theorem et_ixS {i : Int} (n : Nat) (hi : i = n) (hR : Rs[n]? = some R) (ha : ET X Γ a (tSn m X.K Rs)) (hb : ET X Γ b (tI i)) (hs : PlainIx b := by intro _ _; rfl) : ET X Γ (.Subscript a b pos) R :=
  et_ix (ixr_or ix_list ix_tup) hs ha hb fun x y H Q h1 h2 k => h1.elim (fun h => .inl (r_ixL hi hR x y H Q (tLn_L x H h) h2 k)) fun h => .inr (r_ixT hi hR x y H Q h h2 k)
end
section
variable {Q : Type} [FunQ Q] {Sz : Q → Prop}
def addLQ (a b : List Q) : List Q := (List.range a.length).map fun k => if k < b.length then a.getD k 0 + b.getD k 0 else a.getD k 0
def addQ (a b : List Q) : List Q := if a.length < b.length then addLQ b a else addLQ a b
def scaleQ (f : Q) (l : List Q) : List Q := l.map fun c => f * c
def movQ (l : List Q) : List Q := 0 :: l.map (FunQ.sh 1)
variable {P : Program} {w : World} {K : PySem.W.Frag} {mg : Str → Option Value} {base : Heap} {k : Nat}
theorem qq_len (l : List Q) : (tqs K l).length = l.length := List.length_map _
theorem qq_getD {l : List Q} {i : Nat} (h : i < l.length) : (tqs K l)[i]? = some (tq K (l.getD i 0)) := by
  unfold tqs
  rw [List.getElem?_map, List.getD_eq_getElem?_getD, List.getElem?_eq_getElem h]; rfl
theorem sol_qq {l : List Q} : ∀ R ∈ tqs K l, Sol R := fun R h => by
  obtain ⟨q, _, rfl⟩ := List.mem_map.mp h
  exact sol_F
theorem stb_qq {m : List Addr} {l : List Q} : ∀ R ∈ tqs K l, Stb m R := fun R h => sol_qq R h m
theorem getD_mem {l : List Q} {i : Nat} (h : i < l.length) : l.getD i 0 ∈ l := by
  rw [List.getD_eq_getElem?_getD, List.getElem?_eq_getElem h]; exact List.getElem_mem h
theorem qq_map {n : Nat} {f : Nat → Q} {p : List Q} (h1 : p.length = n) (h : ∀ i, i < n → p.getD i 0 = f i) : (List.range n).map (fun i => tq K (f i)) = tqs K p := by
  unfold tqs
  apply List.ext_getElem
  · simp [h1]
  · intro i h2 h3
    simp at h2 h3
    have := h i h2
    rw [List.getD_eq_getElem?_getD, List.getElem?_eq_getElem (by omega)] at this
    simp at this
    simp [this]
section
variable {X : Cx} {Γ : Cxt} {e tg : Expr} {pos pp : Pos} {l : List Q} {m : List Addr}
theorem et_lenq (B : Bs X.prog X.K X.mg) (hg : Gl X "len") (he : ET X Γ e (tLT X.K (tqs X.K l))) (hs : starEach [e] X.env = (false, eval e X.env) :: starEach [] X.env := by rfl) : ET X Γ (.Call (.Name "len" pp) [e] [] pos) (tI (l.length : Nat)) := by
  have h := et_len (p := pp) (pos := pos) hg B.F.b_len he hs
  rwa [qq_len] at h
theorem et_fq {n : Nat} {f : Nat → Q} (h : EF X Γ e ((List.range n).map fun i => tq X.K (f i))) (h1 : l.length = n) (h2 : ∀ i, i < n → l.getD i 0 = f i) : EF X Γ e (tqs X.K l) := by
  rwa [qq_map h1 h2] at h
theorem it_tupq (he : ET X Γ e (tT X.K (tqs X.K l))) : IT_ m X Γ tg e l.length fun i => tq X.K (l.getD i 0) := by
  have h := it_tup (m := m) (tg := tg) rfl he (Rf := fun i => tq X.K (l.getD i 0)) (fun i hi => qq_getD (by rwa [qq_len] at hi)) stb_qq
  rwa [qq_len] at h
theorem it_lstq (he : ET X Γ e (tLn m (tqs X.K l))) : IT_ m X Γ tg e l.length fun i => tq X.K (l.getD i 0) := by
  have h := it_lst (K := X.K) (tg := tg) he (Rf := fun i => tq X.K (l.getD i 0)) (fun i hi => qq_getD (by rwa [qq_len] at hi)) stb_qq
  rwa [qq_len] at h
end
theorem addLQ_len (a b : List Q) : (addLQ a b).length = a.length := by simp [addLQ]
theorem w_add_rows (B : Bs P K mg) (O : Ops Q Sz P w K mg base) (a b : List Q) (ha : ∀ x ∈ a, Sz x) (hb : ∀ x ∈ b, Sz x) (la : a.length ≤ 1000) (lb : b.length ≤ 1000) : FnT P w K mg base 60 (fTop K "add_rows") (spT [tSn [] K (tqs K a), tSn [] K (tqs K b)] (tLn [] (tqs K (addQ a b)))) := by
  obtain ⟨fd', D⟩ := B.F.d_add_rows
  refine fnT_of (fn_ret D sc_add_rows rfl fun cdv A outer s H hr => ?_) (bi_add_rows D)
  have main : ∀ a b : List Q, (∀ x ∈ a, Sz x) → (∀ x ∈ b, Sz x) → a.length ≤ 1000 → BT (BodyCx P w K mg base N_add_rows d_add_rows.qual d_add_rows.scope (fTop K "add_rows") cdv A outer s H) [some (tSn [] K (tqs K a)), some (tSn [] K (tqs K b)), none, none] (d_add_rows.body.drop 1) { rt := some (tLn [] (tqs K (addLQ a b))) } := by
    intro a b ha hb la
    refine bt_new (i := 2) (Rs := tqs K ([] : List Q)) sc_add_rows.nd rfl (.inl rfl) (ef_disp at_nil (by simp [tqs])) (fun D => [some (tSn [D] K (tqs K a)), some (tSn [D] K (tqs K b)), none, none]) (fun D => subn_im (fun v H h => new_Sn h) (subn_im (fun v H h => new_Sn h) (subn_eq (subn_eq subn_nil)))) (fun D _ => ?_) rfl (.inl rfl)
    let Γs : Nat → Cxt := fun t => [some (tSn [D] K (tqs K a)), some (tSn [D] K (tqs K b)), some (tD D (tqs K ((addLQ a b).take t))), none]
    have hl := addLQ_len a b
    refine bt_cons (Δ := Γs a.length) ?_ (bt_last (st_ret (ET.imp (vr 2 rfl rfl rfl rfl rfl) (fun v H h => ?_)) rfl))
    · refine st_for1 (i := 3) (n := a.length) (Rf := fun t => tI (t : Nat)) Γs (it_rangeN rfl B.F.b_range (et_lenq B rfl (ET.imp (vr 0 rfl rfl rfl rfl rfl) tSn_LT)) rfl (by omega)) (Sub.refl _) (fun t ht => ?_) rfl (Sub.refl _) rfl PassesOwn.never sc_add_rows.nd rfl rfl (fun _ => rfl)
      have htk : (addLQ a b).take (t + 1) = (addLQ a b).take t ++ [if t < b.length then a.getD t 0 + b.getD t 0 else a.getD t 0] := by
        rw [List.take_succ_eq_append_getElem (by rw [hl]; exact ht)]
        unfold addLQ
        simp
      have hap : tqs K ((addLQ a b).take t) ++ [tq K (if t < b.length then a.getD t 0 + b.getD t 0 else a.getD t 0)] = tqs K ((addLQ a b).take (t + 1)) := by
        rw [htk]; unfold tqs; rw [List.map_append]; rfl
      have hS : StbX [D] ((Γs t).set 3 (some (tI (t : Nat)))) 2 := stbx_s (stb_Sn stb_qq) (stbx_s (stb_Sn stb_qq) (stbx_0 (stbc_s (sol_I _) stbc_nil)))
      have hln : (tqs K ((addLQ a b).take t)).length < sizeLine := by rw [qq_len, List.length_take]; simp [sizeLine]; omega
      by_cases hk : t < b.length
      · rw [if_pos hk] at hap
        refine bt_last (st_ifT (tt_cast (tt_lt (vr 3 rfl rfl rfl rfl rfl) (et_lenq B rfl (ET.imp (vr 1 rfl rfl rfl rfl rfl) tSn_LT)) rfl) (by simp; omega)) (bt_last (st_app (D := D) (j := 2) (Rs := tqs K ((addLQ a b).take t)) (R := tq K (a.getD t 0 + b.getD t 0)) hln (vr 2 rfl rfl rfl rfl rfl) ?_ (List.mem_singleton.mpr rfl) hS rfl (sol_F _) stb_qq rfl ?_)))
        · exact et_own B.F.me_RatFun_add rfl B.F.sf_RatFun (O.add _ _ (ha _ (getD_mem ht)) (hb _ (getD_mem hk))) (hr.mono (by omega)) isF isF (et_ixS t rfl (qq_getD ht) (vr 0 rfl rfl rfl rfl rfl) (vr 3 rfl rfl rfl rfl rfl)) (et_ixS t rfl (qq_getD hk) (vr 1 rfl rfl rfl rfl rfl) (vr 3 rfl rfl rfl rfl rfl))
        · rw [hap]
          exact sub_eq (sub_eq (sub_eq (sub_no sub_nil)))
      · rw [if_neg hk] at hap
        refine bt_last (st_ifF (tt_cast (tt_lt (vr 3 rfl rfl rfl rfl rfl) (et_lenq B rfl (ET.imp (vr 1 rfl rfl rfl rfl rfl) tSn_LT)) rfl) (by simp; omega)) (bt_last (st_app (D := D) (j := 2) (Rs := tqs K ((addLQ a b).take t)) (R := tq K (a.getD t 0)) hln (vr 2 rfl rfl rfl rfl rfl) (et_ixS t rfl (qq_getD ht) (vr 0 rfl rfl rfl rfl rfl) (vr 3 rfl rfl rfl rfl rfl)) (List.mem_singleton.mpr rfl) hS rfl (sol_F _) stb_qq rfl ?_)))
        rw [hap]
        exact sub_eq (sub_eq (sub_eq (sub_no sub_nil)))
    · have e : (addLQ a b).take a.length = addLQ a b := by rw [← hl, List.take_length]
      rw [e] at h
      exact tD_Ln (D := D) v H h
  unfold addQ
  by_cases hlt : a.length < b.length
  · rw [if_pos hlt]
    refine bt_cons (Δ := [some (tSn [] K (tqs K b)), some (tSn [] K (tqs K a)), none, none]) (st_ifT (tt_cast (tt_lt (et_lenq B rfl (ET.imp (vr 0 rfl rfl rfl rfl rfl) tSn_LT)) (et_lenq B rfl (ET.imp (vr 1 rfl rfl rfl rfl rfl) tSn_LT)) rfl) (by simp; omega)) (bt_last (st_par (i := 0) (j := 1) rfl sc_add_rows.nd rfl rfl (by decide) rfl rfl (at_two (vr 1 rfl rfl rfl rfl rfl) (vr 0 rfl rfl rfl rfl rfl)) rfl (Sub.refl _) rfl rfl))) ?_
    exact main b a hb ha lb
  · rw [if_neg hlt]
    refine bt_cons (Δ := [some (tSn [] K (tqs K a)), some (tSn [] K (tqs K b)), none, none]) (st_ifF (tt_cast (tt_lt (et_lenq B rfl (ET.imp (vr 0 rfl rfl rfl rfl rfl) tSn_LT)) (et_lenq B rfl (ET.imp (vr 1 rfl rfl rfl rfl rfl) tSn_LT)) rfl) (by simp; omega)) (bt_nil rfl (Sub.refl _))) ?_
    exact main a b ha hb la
def QTy {Q : Type} [FunQ Q] (K : PySem.W.Frag) (l : List Q) (R : Ty) : Prop := ∀ {X : Cx} {Γ : Cxt} {tg iter : Expr}, X.K = K → ET X Γ iter R → IT_ [] X Γ tg iter l.length fun i => tq K (l.getD i 0)
theorem qtyL (l : List Q) : QTy K l (tLn [] (tqs K l)) := fun {X Γ tg iter} hK he => by subst hK; exact it_lstq he
theorem qtyT (l : List Q) : QTy K l (tT K (tqs K l)) := fun {X Γ tg iter} hK he => by subst hK; exact it_tupq he
theorem w_scale_row (B : Bs P K mg) (O : Ops Q Sz P w K mg base) (f : Q) (l : List Q) (hf : Sz f) (hl : ∀ x ∈ l, Sz x) (ll : l.length ≤ 1000) (R : Ty) (hR : QTy K l R) : FnT P w K mg base 60 (fTop K "scale_row") (spT [tq K f, R] (tLn [] (tqs K (scaleQ f l)))) := by
  obtain ⟨fd', D⟩ := B.F.d_scale_row
  refine fnT_of (fn_ret D sc_scale_row rfl fun cdv A outer s H hr => ?_) (bi_scale_row D)
  refine bt_last (st_ret (EF.et (et_fq (ef_lc (lc_one (Sf := fun i => tq K (f * l.getD i 0)) (j := 2) (hR rfl (vr 1 rfl rfl rfl rfl rfl)) (blkOk_by (N := N_scale_row) (sc := d_scale_row.scope) (by decide +kernel)) (by show 2 < 3; decide) (pgB sc_scale_row.nd rfl fun _ _ => rfl)
    (fun i hi s2 H2 C2 cl fp => et_own B.F.me_RatFun_mul rfl B.F.sf_RatFun (O.mul _ _ hf (hl _ (getD_mem hi))) (hr.mono (by omega)) isF isF (vc 0 rfl rfl rfl rfl rfl) (vr 2 rfl rfl rfl rfl rfl)) (fun i hi => sol_F) (by omega)) rfl sc_scale_row.nd) (by simp [scaleQ]) (fun i hi => ?_))) rfl)
  simp [scaleQ, List.getD_eq_getElem?_getD, hi]
theorem w_moved_row (B : Bs P K mg) (O : Ops Q Sz P w K mg base) (l : List Q) (hl : ∀ x ∈ l, Sz x) (ll : l.length ≤ 1000) : FnT P w K mg base 62 (fTop K "moved_row") (spT [tLn [] (tqs K l)] (tLn [] (tqs K (movQ l)))) := by
  obtain ⟨fd', D⟩ := B.F.d_moved_row
  refine fnT_of (fn_ret D sc_moved_row rfl fun cdv A outer s H hr => ?_) (bi_moved_row D)
  have e : tqs K [(0 : Q)] ++ tqs K (l.map (FunQ.sh 1)) = tqs K (movQ l) := by unfold tqs movQ; rw [List.map_cons]; rfl
  rw [← e]
  refine bt_last (st_ret (EF.et (ef_cat (Rs := tqs K [(0 : Q)]) (Ss := tqs K (l.map (FunQ.sh 1))) (by rw [qq_len, qq_len]; simp [sizeLine]; omega) (EF.et (ef_disp (at_one (et_call O.zero (hr.mono (by omega)) rfl B.F.g_of_ratio B.F.k_of_ratio (at_one (et_call0 (w_zero B) (hr.mono (by omega)) rfl B.F.g_zero B.F.k_zero rfl)) rfl rfl rfl)) (by simp [tqs, sizeLine])))
    (EF.et (et_fq (ef_lc (lc_one (Sf := fun i => tq K (FunQ.sh 1 (l.getD i 0))) (j := 1) (it_lstq (vr 0 rfl rfl rfl rfl rfl)) (blkOk_by (N := N_moved_row) (sc := d_moved_row.scope) (by decide +kernel)) (by show 1 < 2; decide) (pgB sc_moved_row.nd rfl fun _ _ => rfl)
    (fun i hi s2 H2 C2 cl fp => et_meth (O.sh _ 1 (hl _ (getD_mem hi)) (by decide)) B.F.cl_RatFun B.F.me_RatFun_shifted (hr.mono (by omega)) (vr 1 rfl rfl rfl rfl rfl) (noF rfl rfl) (at_one (et_call0 (w_one B) (hr.mono (by omega)) rfl B.F.g_one B.F.k_one rfl)) rfl rfl rfl) (fun i hi => sol_F) (by omega)) rfl sc_moved_row.nd) (by simp) (fun i hi => ?_))))) rfl)
  simp [List.getD_eq_getElem?_getD, hi]
def mulSt (a b : List Q) : Nat → List Q × List Q
  | 0 => ([], b)
  | t + 1 => (addQ (mulSt a b t).1 (scaleQ (a.getD t 0) (mulSt a b t).2), movQ (mulSt a b t).2)
def mulQ (a b : List Q) : List Q := (mulSt a b a.length).1
structure MulQ (Sz : Q → Prop) (a b : List Q) : Prop where
  as : ∀ x ∈ a, Sz x
  p : ∀ t, t ≤ a.length → ∀ x ∈ (mulSt a b t).2, Sz x
  t : ∀ t, t ≤ a.length → ∀ x ∈ (mulSt a b t).1, Sz x
  s : ∀ t, t < a.length → ∀ x ∈ scaleQ (a.getD t 0) (mulSt a b t).2, Sz x
  la : a.length ≤ 100
  lb : b.length ≤ 100
theorem addQ_len (a b : List Q) : (addQ a b).length = max a.length b.length := by
  unfold addQ
  split
  · rw [addLQ_len]; omega
  · rw [addLQ_len]; omega
theorem mulSt_len (a b : List Q) (t : Nat) : (mulSt a b t).2.length = b.length + t ∧ (mulSt a b t).1.length ≤ b.length + t := by
  induction t with
  | zero => exact ⟨rfl, Nat.zero_le _⟩
  | succ t ih =>
    refine ⟨by show (movQ _).length = _; simp [movQ, ih.1]; omega, ?_⟩
    show (addQ _ _).length ≤ _
    rw [addQ_len]
    have : (scaleQ (a.getD t 0) (mulSt a b t).2).length = (mulSt a b t).2.length := List.length_map _
    rw [this]
    omega
theorem w_multiply_steps (B : Bs P K mg) (O : Ops Q Sz P w K mg base) (a b : List Q) (h : MulQ Sz a b) : FnT P w K mg base 64 (fTop K "multiply_steps") (spT [tT K (tqs K a), tT K (tqs K b)] (tLn [] (tqs K (mulQ a b)))) := by
  obtain ⟨fd', D⟩ := B.F.d_multiply_steps
  refine fnT_of (fn_ret D sc_multiply_steps rfl fun cdv A outer s H hr => ?_) (bi_multiply_steps D)
  have la := h.la
  have lb := h.lb
  let Γs : Nat → Cxt := fun t => [some (tT K (tqs K a)), none, some (tLn [] (tqs K (mulSt a b t).1)), some (tLn [] (tqs K (mulSt a b t).2)), none]
  refine bt_cons (Δ := [some (tT K (tqs K a)), some (tT K (tqs K b)), some (tLn [] (tqs K ([] : List Q))), none, none]) (st_set (i := 2) (R := tLn [] (tqs K ([] : List Q))) sc_multiply_steps.nd rfl (.inl rfl) (EF.et (ef_disp at_nil (by simp [tqs]))) rfl (Sub.refl _) rfl (.inl rfl)) ?_
  refine bt_cons (Δ := Γs 0) (st_set (i := 3) (R := tLn [] (tqs K b)) sc_multiply_steps.nd rfl (.inl rfl) (EF.et (ef_list rfl B.F.b_list (ET.imp (vr 1 rfl rfl rfl rfl rfl) tT_LT))) rfl (sub_eq (sub_no (sub_eq (sub_eq (sub_eq sub_nil))))) rfl (.inl rfl)) ?_
  refine bt_cons (Δ := Γs a.length) ?_ (bt_last (st_ret (vr 2 rfl rfl rfl rfl rfl) rfl))
  refine st_for1 (i := 4) (n := a.length) (Rf := fun t => tq K (a.getD t 0)) Γs (it_tupq (vr 0 rfl rfl rfl rfl rfl)) (Sub.refl _) (fun t ht => ?_) rfl (Sub.refl _) rfl PassesOwn.never sc_multiply_steps.nd rfl rfl (fun _ => rfl)
  have hl := mulSt_len a b t
  have hls : (scaleQ (a.getD t 0) (mulSt a b t).2).length = (mulSt a b t).2.length := List.length_map _
  refine bt_cons (Δ := [some (tT K (tqs K a)), none, some (tLn [] (tqs K (mulSt a b (t + 1)).1)), some (tLn [] (tqs K (mulSt a b t).2)), none]) (st_set (i := 2) (R := tLn [] (tqs K (mulSt a b (t + 1)).1)) sc_multiply_steps.nd rfl (.inl rfl) (et_call (w_add_rows B O _ _ (h.t t (by omega)) (h.s t ht) (by omega) (by omega)) (hr.mono (by omega)) rfl B.F.g_add_rows B.F.k_add_rows (at_two (ET.imp (vr 2 rfl rfl rfl rfl rfl) tLn_S) (ET.imp (et_call (w_scale_row B O _ _ (h.as _ (getD_mem ht)) (h.p t (by omega)) (by omega) _ (qtyL _)) (hr.mono (by omega)) rfl B.F.g_scale_row B.F.k_scale_row (at_two (vr 4 rfl rfl rfl rfl rfl) (vr 3 rfl rfl rfl rfl rfl)) rfl rfl rfl) tLn_S)) rfl rfl rfl) rfl (sub_eq (sub_eq (sub_eq (sub_eq (sub_no sub_nil))))) rfl (.inl rfl)) ?_
  exact bt_last (st_set (i := 3) (R := tLn [] (tqs K (mulSt a b (t + 1)).2)) sc_multiply_steps.nd rfl (.inl rfl) (et_call (w_moved_row B O _ (h.p t (by omega)) (by omega)) (hr.mono (by omega)) rfl B.F.g_moved_row B.F.k_moved_row (at_one (vr 3 rfl rfl rfl rfl rfl)) rfl rfl rfl) rfl (Sub.refl _) rfl (.inl rfl))
end
end SLT
set_option maxRecDepth 100000
set_option maxHeartbeats 1000000
set_option exponentiation.threshold 100
namespace SLT
open PySem PySem.Spec PyProof.Rows L2 SL SW
open Lean.Grind
noncomputable instance funKF : FunQ KF := { KF.field with
  dec := fun a b => Classical.propDecidable _
  fr := fun x => ⟨x.num, x.den⟩
  sh := fun k => KF.sh (k : Rat)
  ofR := fun q => KF.ofP (Pol.C q)
  frI := fun {f g} h => by
    have h1 := congrArg Fr.n h
    have h2 := congrArg Fr.d h
    exact KF.ext h1 h2 }
noncomputable abbrev frK (x : KF) : Fr := ⟨x.num, x.den⟩
/-- x is a quotient of integral polynomials of at most m coefficients below 2^h -/
def Rp (m h : Nat) (x : KF) : Prop := ∃ N D : Pol, Hq 1 (2 ^ h) N ∧ Hq 1 (2 ^ h) D ∧ N.len ≤ m ∧ D.len ≤ m ∧ ∃ hD, x = KF.mk N D hD
theorem Rp.mono {m h m' h' : Nat} {x : KF} (r : Rp m h x) (h1 : m ≤ m') (h2 : h ≤ h') : Rp m' h' x := by
  obtain ⟨N, D, a, b, c, d, e, f⟩ := r
  exact ⟨N, D, a.mono (Nat.pow_le_pow_right (by decide) h2), b.mono (Nat.pow_le_pow_right (by decide) h2), by omega, by omega, e, f⟩
theorem Rp.can {m h : Nat} {x : KF} (r : Rp m h x) (hm : m ≤ 128) : ∃ L, 0 < L ∧ L ≤ 2 ^ h ∧ Hq L (2 ^ (h + 19 * m)) x.num ∧ Hq L (2 ^ (h + 19 * m)) x.den ∧ x.num.len ≤ m ∧ x.den.len ≤ m := by
  obtain ⟨N, D, a, b, c, d, e, f⟩ := r
  have h1 := KF.eq_iff.mp ((KF.eq_mk x).symm.trans f)
  obtain ⟨L, l1, l2, l3, l4, l5, l6⟩ := red_bound a b c d e x.cn h1
  exact ⟨L, l1, l2, l3.mono (kro_le hm), l4.mono (kro_le hm), l5, l6⟩
theorem _root_.SW.Hq.mul7 {L M a b : Nat} {p q : Pol} (h1 : Hq L (2 ^ a) p) (h2 : Hq M (2 ^ b) q) (hp : p.len ≤ 128) : Hq (L * M) (2 ^ (a + b + 7)) (p * q) := by
  refine (h1.mul h2).mono ?_
  have e : 2 ^ (a + b + 7) = 2 ^ 7 * (2 ^ a * 2 ^ b) := by rw [← Nat.pow_add, ← Nat.pow_add]; congr 1; omega
  rw [e]
  exact Nat.mul_le_mul_right _ hp
theorem _root_.SW.Hq.add2 {L a b c : Nat} {p q : Pol} (h1 : Hq L (2 ^ a) p) (h2 : Hq L (2 ^ b) q) (ha : a < c) (hb : b < c) : Hq L (2 ^ c) (p + q) := by
  refine (h1.add h2).mono ?_
  have e : 2 ^ c = 2 ^ (c - 1) + 2 ^ (c - 1) := by rw [← Nat.two_mul, ← Nat.pow_succ']; congr 1; omega
  have h3 : 2 ^ a ≤ 2 ^ (c - 1) := Nat.pow_le_pow_right (by decide) (by omega)
  have h4 : 2 ^ b ≤ 2 ^ (c - 1) := Nat.pow_le_pow_right (by decide) (by omega)
  omega
theorem _root_.SW.Hq.sub2 {L a b c : Nat} {p q : Pol} (h1 : Hq L (2 ^ a) p) (h2 : Hq L (2 ^ b) q) (ha : a < c) (hb : b < c) : Hq L (2 ^ c) (p - q) := Hq.add2 h1 h2.neg ha hb
theorem _root_.SW.Hq.up2 {L a b : Nat} {p : Pol} (h : Hq L (2 ^ a) p) (hb : a ≤ b) : Hq L (2 ^ b) p := h.mono (Nat.pow_le_pow_right (by decide) hb)
theorem len_sum {p q : Pol} {m : Nat} (h1 : p.len ≤ m) (h2 : q.len ≤ m) : (p + q).len ≤ m ∧ (p - q).len ≤ m := ⟨Nat.le_trans (Pol.len_add_le _ _) (by omega), Nat.le_trans (Pol.len_sub_le _ _) (by omega)⟩
section
variable {m1 h1 m2 h2 : Nat} {x y : KF}
theorem Rp.add (r1 : Rp m1 h1 x) (r2 : Rp m2 h2 y) (b1 : m1 ≤ 128) (b2 : m2 ≤ 128) : Rp (m1 + m2) (h1 + h2 + 8) (x + y) := by
  obtain ⟨N, D, a, b, c, d, e, f⟩ := r1
  obtain ⟨N', D', a', b', c', d', e', f'⟩ := r2
  have l1 := Pol.len_mul_le N D'
  have l2 := Pol.len_mul_le N' D
  have l3 := Pol.len_mul_le D D'
  exact ⟨N * D' + N' * D, D * D', Hq.add2 (a.mul7 b' (by omega)) (a'.mul7 b (by omega)) (by omega) (by omega), (b.mul7 b' (by omega)).up2 (by omega), (len_sum (by omega) (by omega)).1, by omega, Pol.mul_ne e e', by rw [f, f', KF.add_mk]⟩
theorem Rp.neg (r1 : Rp m1 h1 x) : Rp m1 h1 (-x) := by
  obtain ⟨N, D, a, b, c, d, e, f⟩ := r1
  exact ⟨-N, D, a.neg, b, by rw [Pol.len_neg]; exact c, d, e, by rw [f, KF.neg_mk]⟩
theorem Rp.sub (r1 : Rp m1 h1 x) (r2 : Rp m2 h2 y) (b1 : m1 ≤ 128) (b2 : m2 ≤ 128) : Rp (m1 + m2) (h1 + h2 + 8) (x - y) := r1.add r2.neg b1 b2
theorem Rp.mul (r1 : Rp m1 h1 x) (r2 : Rp m2 h2 y) (b1 : m1 ≤ 128) (b2 : m2 ≤ 128) : Rp (m1 + m2) (h1 + h2 + 8) (x * y) := by
  obtain ⟨N, D, a, b, c, d, e, f⟩ := r1
  obtain ⟨N', D', a', b', c', d', e', f'⟩ := r2
  have l1 := Pol.len_mul_le N N'
  have l3 := Pol.len_mul_le D D'
  exact ⟨N * N', D * D', (a.mul7 a' (by omega)).up2 (by omega), (b.mul7 b' (by omega)).up2 (by omega), by omega, by omega, Pol.mul_ne e e', by rw [f, f', KF.mul_mk]⟩
theorem Rp.inv (r1 : Rp m1 h1 x) (h0 : x ≠ 0) : Rp m1 h1 x⁻¹ := by
  obtain ⟨N, D, a, b, c, d, e, f⟩ := r1
  have hN : N ≠ 0 := fun z => h0 (by rw [f, KF.mk_zero]; exact z)
  exact ⟨D, N, b, a, d, c, hN, by rw [f, KF.inv_mk hN]⟩
theorem Rp.div (r1 : Rp m1 h1 x) (r2 : Rp m2 h2 y) (b1 : m1 ≤ 128) (b2 : m2 ≤ 128) (h0 : y ≠ 0) : Rp (m1 + m2) (h1 + h2 + 8) (x / y) := r1.mul (r2.inv h0) b1 b2
end
theorem co_mulX (q : Pol) (a : Rat) (i : Nat) : (q * Pol.of [a, 1]).co i = a * q.co i + if i = 0 then 0 else q.co (i - 1) := by
  have : q * Pol.of [a, 1] = Pol.of (mulL [a, 1] q.row) := Pol.ext fun x => by rw [Pol.ev_mul, Pol.ev_of, Pol.ev_of, ev_mulL]; show q.ev x * _ = _ * q.ev x; grind
  rw [this, Pol.co_of, mulL_cons_getD]
  by_cases h : i = 0
  · rw [if_pos h, if_pos h]; rfl
  · rw [if_neg h, if_neg h, mulL_cons_getD]
    have : (if i - 1 = 0 then (0 : Rat) else (mulL [] q.row).getD (i - 1 - 1) 0) = 0 := by split <;> simp [mulL]
    rw [this, Rat.one_mul, Rat.add_zero]; rfl
theorem sftL_Hq {L B k : Nat} (hk : k ≤ 5) : ∀ l : Cf, (∀ i, Ib B (l.getD i 0 * L)) → Hq L (B * 8 ^ l.length) (sftL k l) ∧ (sftL (k : Rat) l).len ≤ l.length ∧ Hq L (B * 8 ^ (l.length + 1)) (sftL k l * Pol.of [(k : Rat), 1])
  | [], h => by
    have e : sftL (k : Rat) [] = 0 := rfl
    rw [e, show (0 : Pol) * Pol.of [(k : Rat), 1] = 0 by grind]
    exact ⟨fun i => by rw [Pol.co_zero, Rat.zero_mul]; exact Ib.zero, by rw [(Pol.len_zero_iff 0).mpr rfl]; exact Nat.zero_le _, fun i => by rw [Pol.co_zero, Rat.zero_mul]; exact Ib.zero⟩
  | c :: r, h => by
    obtain ⟨i1, i2, i3⟩ := sftL_Hq hk r fun i => by have := h (i + 1); simpa using this
    have hc : Ib B (c * L) := by simpa using h 0
    have step : ∀ (q : Pol) (E : Nat), Hq L E q → Hq L (6 * E) (q * Pol.of [(k : Rat), 1]) := fun q E hq i => by
      rw [co_mulX, Rat.add_mul]
      have a1 : Ib (5 * E) ((k : Rat) * q.co i * L) := by rw [Rat.mul_assoc]; exact (Ib.nat hk).mul (hq i)
      refine (a1.add (B := E) ?_).mono (by omega)
      split
      · rw [Rat.zero_mul]; exact Ib.zero
      · exact hq _
    have e : sftL (k : Rat) (c :: r) = sftL k r * Pol.of [(k : Rat), 1] + Pol.C c := rfl
    have hC : Hq L B (Pol.C c) := fun i => by
      rw [Pol.co_C]
      split
      · exact hc
      · rw [Rat.zero_mul]; exact Ib.zero
    have hE : B ≤ B * 8 ^ r.length := Nat.le_mul_of_pos_right _ (Nat.pow_pos (by decide))
    have p1 : Hq L (B * 8 ^ (r.length + 1)) (sftL (k : Rat) (c :: r)) := by
      rw [e]
      refine ((step _ _ i1).add hC).mono ?_
      rw [Nat.pow_succ]; grind
    refine ⟨p1, ?_, (step _ _ p1).mono ?_⟩
    · rw [e]
      refine Nat.le_trans (Pol.len_add_le _ _) ?_
      have l1 := Pol.len_mul_le (sftL (k : Rat) r) (Pol.of [(k : Rat), 1])
      have l2 := Pol.len_of_le [(k : Rat), 1]
      have l3 : (Pol.C c).len ≤ 1 := Pol.len_of_le [c]
      simp at l2 ⊢
      omega
    · rw [List.length_cons, Nat.pow_succ 8 (r.length + 1)]; grind
theorem sft_Hq {L B k : Nat} (hk : k ≤ 5) {p : Pol} (h : Hq L B p) : Hq L (B * 8 ^ p.len) (p.sft k) := (sftL_Hq hk p.row h).1
theorem sft_len (k : Rat) (p : Pol) : (p.sft k).len ≤ p.len := by
  have : ∀ l : Cf, (sftL k l).len ≤ l.length := fun l => by
    induction l with
    | nil => show (0 : Pol).len ≤ _; rw [(Pol.len_zero_iff 0).mpr rfl]; exact Nat.zero_le _
    | cons c r ih =>
      show (sftL k r * Pol.of [k, 1] + Pol.C c).len ≤ _
      refine Nat.le_trans (Pol.len_add_le _ _) ?_
      have l1 := Pol.len_mul_le (sftL k r) (Pol.of [k, 1])
      have l2 := Pol.len_of_le [k, 1]
      have l3 : (Pol.C c).len ≤ 1 := Pol.len_of_le [c]
      simp at l2 ⊢
      omega
  exact this p.row
theorem _root_.SW.Hq.sft2 {L a k m : Nat} (hk : k ≤ 5) {p : Pol} (h : Hq L (2 ^ a) p) (hm : p.len ≤ m) : Hq L (2 ^ (a + 3 * m)) (p.sft k) := by
  refine (sft_Hq hk h).mono ?_
  rw [Nat.pow_add, Nat.pow_mul]
  exact Nat.mul_le_mul_left _ (Nat.pow_le_pow_right (by decide) hm)
theorem Rp.sh {m h k : Nat} (hk : k ≤ 5) {x : KF} (r : Rp m h x) : Rp m (h + 3 * m) (KF.sh k x) := by
  obtain ⟨N, D, a, b, c, d, e, f⟩ := r
  exact ⟨N.sft k, D.sft k, Hq.sft2 hk a c, Hq.sft2 hk b d, Nat.le_trans (sft_len _ _) c, Nat.le_trans (sft_len _ _) d, Pol.sft_ne e, by rw [f, KF.sh_mk]⟩
theorem shSt_eq (a : Rat) (p : Cf) : ∀ t, t ≤ p.length → shSt p a t = sftL a (p.drop (p.length - t))
  | 0, _ => by
    rw [Nat.sub_zero, List.drop_length]
    exact Pol.eq_of_row (by show trim [] = (0 : Pol).row; rw [Pol.zero_row]; rfl)
  | t + 1, h => by
    have e : p.drop (p.length - (t + 1)) = p.getD (p.length - 1 - t) 0 :: p.drop (p.length - t) := by
      rw [List.drop_eq_getElem_cons (by omega), List.getD_eq_getElem?_getD, List.getElem?_eq_getElem (by omega)]
      simp only [Option.getD_some]
      congr 1
      · congr 1; omega
      · congr 1; omega
    rw [e]
    show shSt p a t * Pol.of [a, 1] + Pol.C _ = sftL a (p.drop (p.length - t)) * Pol.of [a, 1] + Pol.C _
    rw [shSt_eq a p t (by omega)]
theorem shSt_all (a : Rat) (p : Pol) : shSt p.row a p.row.length = p.sft a := by
  rw [shSt_eq a p.row _ (Nat.le_refl _), Nat.sub_self, List.drop_zero]; rfl
theorem outR_Ib {p q : Pol} {L M A B : Nat} (hp : Hq L A p) (hq : Hq M B q) : ∀ i, i ≤ p.len → ∀ m, Ib (i * (A * B)) ((outR p.row q.row i).getD m 0 * ((L * M : Nat) : Rat))
  | 0, _, m => by
    have : (outR p.row q.row 0).getD m 0 = 0 := by
      show (List.replicate _ (0 : Rat)).getD m 0 = 0
      rw [List.getD_eq_getElem?_getD, List.getElem?_replicate]; split <;> rfl
    rw [this, Rat.zero_mul]; exact Ib.zero
  | i + 1, hi, m => by
    have ih := outR_Ib hp hq i (by omega) m
    show Ib _ ((inn (p.row.getD i 0) q.row (outR p.row q.row i) i q.row.length).getD m 0 * _)
    rw [inn_getD _ _ _ _ _ (by rw [outR_len]; have : p.row.length = p.len := rfl; omega), Rat.add_mul, Nat.succ_mul]
    refine ih.add ?_
    split
    · have := (hp i).mul (hq (m - i))
      rw [Rat.natCast_mul]
      rwa [show p.co i * (L : Rat) * (q.co (m - i) * M) = p.row.getD i 0 * q.row.getD (m - i) 0 * (L * M) by unfold Pol.co; grind] at this
    · rw [Rat.zero_mul]; exact Ib.zero
theorem mulB {p q : Pol} {L M b : Nat} (hL : 0 < L) (hM : 0 < M) (hp : Hq L (2 ^ b) p) (hq : Hq M (2 ^ b) q) (bL : L ≤ 2 ^ b) (bM : M ≤ 2 ^ b) (lp : p.len ≤ 500000) (lq : q.len ≤ 500000) (hb : 2 * b + 20 < 60000000) : MulB p.row q.row := by
  have hLM : 0 < L * M := Nat.mul_pos hL hM
  have hLM2 : L * M ≤ 2 ^ (2 * b + 19) := by
    refine Nat.le_trans (Nat.mul_le_mul bL bM) ?_
    rw [← Nat.pow_add]; exact Nat.pow_le_pow_right (by decide) (by omega)
  have e2 : 2 ^ b * 2 ^ b = 2 ^ (2 * b) := by rw [← Nat.pow_add]; congr 1; omega
  have prod : ∀ i j, Ib (2 ^ (2 * b)) (p.row.getD i 0 * q.row.getD j 0 * ((L * M : Nat) : Rat)) := fun i j => by
    have := (hp i).mul (hq j)
    rw [Rat.natCast_mul]
    rwa [e2, show p.co i * (L : Rat) * (q.co j * M) = p.row.getD i 0 * q.row.getD j 0 * (L * M) by unfold Pol.co; grind] at this
  refine ⟨⟨lp, lq⟩, fun i c m hi hc => ?_, fun i j => QB.of hLM (prod i j) (Nat.pow_le_pow_right (by decide) (by omega : 2 * b ≤ 2 * b + 19)) hLM2 (by omega), fun i => QB.of hL (hp i) (Nat.le_refl _) bL (by omega), fun i => QB.of hM (hq i) (Nat.le_refl _) bM (by omega)⟩
  have hi : i < p.len := hi
  have hc : c ≤ q.len := hc
  rw [inn_getD _ _ _ _ _ (by rw [outR_len]; have : p.row.length = p.len := rfl; have : q.row.length = q.len := rfl; omega)]
  have h1 := outR_Ib hp hq i (by omega) m
  have h2 : Ib (2 ^ (2 * b)) ((if i ≤ m ∧ m < i + c then p.row.getD i 0 * q.row.getD (m - i) 0 else 0) * ((L * M : Nat) : Rat)) := by
    split
    · exact prod _ _
    · rw [Rat.zero_mul]; exact Ib.zero
  have h3 := h1.add h2
  rw [← Rat.add_mul, e2] at h3
  refine QB.of hLM h3 (b := 2 * b + 19) ?_ hLM2 (by omega)
  have : i * 2 ^ (2 * b) + 2 ^ (2 * b) ≤ 2 ^ 19 * 2 ^ (2 * b) := by
    rw [← Nat.succ_mul]; exact Nat.mul_le_mul_right _ (by have : 2 ^ 19 = 524288 := rfl; omega)
  rw [← Nat.pow_add] at this
  exact Nat.le_trans this (Nat.pow_le_pow_right (by decide) (by omega))
abbrev Sz : KF → Prop := Rp 40 1500
theorem rfRK {x : KF} {N D : Pol} {LN LD : Nat} (hD0 : D ≠ 0) (e : x = KF.mk N D hD0) (hx : Rp 80 3008 x) (p1 : 0 < LN) (p2 : 0 < LD) (b1 : LN ≤ 2 ^ 4550) (b2 : LD ≤ 2 ^ 4550) (hN : Hq LN (2 ^ 4550) N) (hD : Hq LD (2 ^ 4550) D) (lN : N.len ≤ 80) (lD : D.len ≤ 80) : RfR N D (frK x) := by
  obtain ⟨L, l1, l2, l3, l4, l5, l6⟩ := hx.can (by decide)
  have up : ∀ {a : Nat}, a ≤ 4550 → 2 ^ a ≤ 2 ^ 4550 := fun h => Nat.pow_le_pow_right (by decide) h
  have up2 : (2 : Nat) ^ 4550 < 2 ^ 13400 := Nat.pow_lt_pow_right (by decide) (by decide)
  exact rfR (m := 80) (b := 4550) (R := 8 + 4550 + (4550 + 10) * (2 * 80)) hD0 x.cn (KF.eq_iff.mp ((KF.eq_mk x).symm.trans e)) p1 p2 l1 (Nat.lt_of_le_of_lt b1 up2) (Nat.lt_of_le_of_lt b2 up2) b1 b2 (Nat.le_trans l2 (up (by decide))) hN hD (l3.up2 (by decide)) (l4.up2 (by decide)) lN lD l5 l6 (remS_le (by decide)) (by decide) (by decide) (by decide) (by decide)
theorem sz_can {x : KF} (r : Sz x) : ∃ L, 0 < L ∧ L ≤ 2 ^ 1500 ∧ Hq L (2 ^ 2260) x.num ∧ Hq L (2 ^ 2260) x.den ∧ x.num.len ≤ 40 ∧ x.den.len ≤ 40 := r.can (by decide)
theorem LL {L M : Nat} (h1 : L ≤ 2 ^ 1500) (h2 : M ≤ 2 ^ 1500) : L * M ≤ 2 ^ 4550 := Nat.le_trans (Nat.mul_le_mul h1 h2) (by rw [← Nat.pow_add]; exact Nat.pow_le_pow_right (by decide) (by decide))
theorem L28 {L : Nat} (h1 : L ≤ 2 ^ 1500) : L ≤ 2 ^ 4550 := Nat.le_trans h1 (Nat.pow_le_pow_right (by decide) (by decide))
theorem L14 {L : Nat} (h1 : L ≤ 2 ^ 1500) : L ≤ 2 ^ 2260 := Nat.le_trans h1 (Nat.pow_le_pow_right (by decide) (by decide))
theorem sum_mk (f g : KF) : f + g = KF.mk (f.num * g.den + g.num * f.den) (f.den * g.den) (Pol.mul_ne f.cn.ne g.cn.ne) := by
  rw [← KF.add_mk (h := f.cn.ne) (h' := g.cn.ne), ← KF.eq_mk, ← KF.eq_mk]
theorem prd_mk (f g : KF) : f * g = KF.mk (f.num * g.num) (f.den * g.den) (Pol.mul_ne f.cn.ne g.cn.ne) := by
  rw [← KF.mul_mk (h := f.cn.ne) (h' := g.cn.ne), ← KF.eq_mk, ← KF.eq_mk]
theorem neg_mk (f : KF) : -f = KF.mk (-f.num) f.den f.cn.ne := by rw [← KF.neg_mk, ← KF.eq_mk]
theorem dif_mk (f g : KF) : f - g = KF.mk (f.num * g.den - g.num * f.den) (f.den * g.den) (Pol.mul_ne f.cn.ne g.cn.ne) := by
  have h : f - g = f + -g := rfl
  have : KF.mk f.num f.den f.cn.ne + KF.mk (-g.num) g.den g.cn.ne = f + -g := by rw [← neg_mk, ← KF.eq_mk]
  rw [h, ← this, KF.add_mk]
  exact KF.eq_iff.mpr (by grind)
theorem num_ne {f : KF} (h : f ≠ 0) : f.num ≠ 0 := fun z => h (by rw [KF.eq_mk f, KF.mk_zero]; exact z)
theorem inv_mk (f : KF) (h : f ≠ 0) : f⁻¹ = KF.mk f.den f.num (num_ne h) := by
  have := KF.inv_mk (n := f.num) (d := f.den) (h := f.cn.ne) (num_ne h)
  rwa [← KF.eq_mk] at this
theorem div_mk (f g : KF) (h : g ≠ 0) : f / g = KF.mk (f.num * g.den) (f.den * g.num) (Pol.mul_ne f.cn.ne (num_ne h)) := by
  have e : f / g = f * g⁻¹ := rfl
  have : KF.mk f.num f.den f.cn.ne * KF.mk g.den g.num (num_ne h) = f * g⁻¹ := by rw [← inv_mk g h, ← KF.eq_mk]
  rw [e, ← this, KF.mul_mk]
theorem le5 {a : Nat} (h : a ≤ 40) : a ≤ 500000 := by omega
theorem dc1 : 2 * 2260 + 20 < 60000000 := by decide
theorem szB {f g : KF} (hf : Sz f) (hg : Sz g) (s : Int) (hs : s = 1 ∨ s = -1) : SumB (frK f) (frK g) (frK (if s = 1 then f + g else f - g)) s := by
  obtain ⟨L, l1, l2, l3, l4, l5, l6⟩ := sz_can hf
  obtain ⟨M, m1, m2, m3, m4, m5, m6⟩ := sz_can hg
  have hLM := LL l2 m2
  have hp : 0 < L * M := Nat.mul_pos l1 m1
  refine ⟨fun hd => ?_, fun hd => ?_⟩
  · have hd : f.den = g.den := Pol.eq_of_row hd
    -- one denominator
    have hgU : Hq (L * M) (2 ^ (2260 + 1500)) g.num := by
      rw [Nat.mul_comm]
      refine (m3.up L).mono ?_
      rw [Nat.pow_add]; exact Nat.mul_le_mul_left _ l2
    have hfU : Hq (L * M) (2 ^ (2260 + 1500)) f.num := by
      refine (l3.up M).mono ?_
      rw [Nat.pow_add]; exact Nat.mul_le_mul_left _ m2
    refine ⟨Hq.pb l1 l3 (Nat.le_refl _) (L14 l2) (by decide) (by show f.num.len ≤ _; omega), Hq.pb m1 m3 (Nat.le_refl _) (L14 m2) (by decide) (by show g.num.len ≤ _; omega), fun h => ?_, fun h => ?_⟩
    · subst h
      rw [if_pos rfl]
      refine rfRK (N := f.num + g.num) (D := f.den) (LN := L * M) (LD := L) f.cn.ne ?_ ((hf.add hg (by decide) (by decide)).mono (by decide) (by decide)) hp l1 hLM (L28 l2) ((Hq.add2 hfU hgU (c := 3761) (by decide) (by decide)).up2 (by decide)) (l4.up2 (by decide)) (Nat.le_trans (len_sum (m := 40) l5 m5).1 (by decide)) (by omega)
      rw [sum_mk]
      exact KF.eq_iff.mpr (by rw [hd]; grind)
    · subst h
      rw [if_neg (by decide)]
      refine rfRK (N := f.num - g.num) (D := f.den) (LN := L * M) (LD := L) f.cn.ne ?_ ((hf.sub hg (by decide) (by decide)).mono (by decide) (by decide)) hp l1 hLM (L28 l2) ((Hq.sub2 hfU hgU (c := 3761) (by decide) (by decide)).up2 (by decide)) (l4.up2 (by decide)) (Nat.le_trans (len_sum (m := 40) l5 m5).2 (by decide)) (by omega)
      rw [dif_mk]
      exact KF.eq_iff.mpr (by rw [hd]; grind)
  · have a1 : Hq (L * M) (2 ^ 4527) (f.num * g.den) := (Hq.mul7 l3 m4 (by omega)).up2 (by decide)
    have a2 : Hq (L * M) (2 ^ 4527) (g.num * f.den) := by rw [Nat.mul_comm]; exact (Hq.mul7 m3 l4 (by omega)).up2 (by decide)
    have a3 : Hq (L * M) (2 ^ 4527) (f.den * g.den) := (Hq.mul7 l4 m4 (by omega)).up2 (by decide)
    have b1 := Pol.len_mul_le f.num g.den
    have b2 := Pol.len_mul_le g.num f.den
    have b3 := Pol.len_mul_le f.den g.den
    refine ⟨mulB (p := f.num) (q := g.den) l1 m1 l3 m4 (L14 l2) (L14 m2) (le5 l5) (le5 m6) dc1, mulB (p := g.num) (q := f.den) m1 l1 m3 l4 (L14 m2) (L14 l2) (le5 m5) (le5 l6) dc1, mulB (p := f.den) (q := g.den) l1 m1 l4 m4 (L14 l2) (L14 m2) (le5 l6) (le5 m6) dc1, Hq.pb (p := f.num * g.den) hp (a1.up2 (by decide : 4527 ≤ 4550)) (Nat.le_refl _) hLM (by decide) (by omega), Hq.pb (p := g.num * f.den) hp (a2.up2 (by decide : 4527 ≤ 4550)) (Nat.le_refl _) hLM (by decide) (by omega), fun h => ?_, fun h => ?_⟩
    · subst h
      rw [if_pos rfl]
      exact rfRK (N := f.num * g.den + g.num * f.den) (D := f.den * g.den) (LN := L * M) (LD := L * M) _ (sum_mk f g) ((hf.add hg (by decide) (by decide)).mono (by decide) (by decide)) hp hp hLM hLM (Hq.add2 a1 a2 (by decide) (by decide)) (a3.up2 (by decide)) (len_sum (by omega) (by omega)).1 (by omega)
    · subst h
      rw [if_neg (by decide)]
      exact rfRK (N := f.num * g.den - g.num * f.den) (D := f.den * g.den) (LN := L * M) (LD := L * M) _ (dif_mk f g) ((hf.sub hg (by decide) (by decide)).mono (by decide) (by decide)) hp hp hLM hLM (Hq.sub2 a1 a2 (by decide) (by decide)) (a3.up2 (by decide)) (len_sum (by omega) (by omega)).2 (by omega)
section
variable {P : Program} {w : World} {K : PySem.W.Frag} {mg : Str → Option Value}
theorem Hq_C (a : Int) {h : Nat} (ha : a.natAbs ≤ 2 ^ h) : Hq 1 (2 ^ h) (Pol.C (a : Rat)) := fun i => by
  rw [Pol.co_C]
  split
  · exact ⟨a, by simp, ha⟩
  · rw [Rat.zero_mul]; exact Ib.zero
theorem Rp_C (a : Int) {h : Nat} (ha : a.natAbs ≤ 2 ^ h) : Rp 1 h (KF.ofP (Pol.C (a : Rat))) := by
  refine ⟨Pol.C (a : Rat), 1, Hq_C a ha, ?_, Pol.len_of_le [(a : Rat)], Pol.len_one, Pol.one_ne, rfl⟩
  rw [← Pol.C_one]
  exact Hq_C 1 Nat.one_le_two_pow
theorem w_of_ratioI (B : Bs P K mg) (base : Heap) (a : Int) (ha : a.natAbs ≤ 2 ^ 1500) : FnT P w K mg base 58 (fTop K "of_ratio") (spT [tQ K (a : Rat)] (tq K (KF.ofP (Pol.C (a : Rat))))) := by
  refine w_of_ratio B (a : Rat) (frK (KF.ofP (Pol.C (a : Rat)))) ?_
  have h1 := Hq_C a ha
  refine rfRK (LN := 1) (LD := 1) (N := Pol.C (a : Rat)) (D := Pol.C 1) (by rw [Pol.C_one]; exact Pol.one_ne) (KF.eq_iff.mpr (by rw [Pol.C_one])) ((Rp_C a ha).mono (by decide) (by decide)) Nat.one_pos Nat.one_pos Nat.one_le_two_pow Nat.one_le_two_pow (h1.up2 (by decide)) ((Hq_C 1 (h := 0) (by decide)).up2 (by decide)) (Nat.le_trans (Pol.len_of_le _) (by simp)) (Nat.le_trans (Pol.len_of_le _) (by simp))
theorem opsK (B : Bs P K mg) (base : Heap) : Ops KF Sz P w K mg base where
  add f g hf hg := w_Fadd B (frK f) (frK g) (frK (f + g)) (szB hf hg 1 (.inl rfl))
  sub f g hf hg := w_Fsub B (frK f) (frK g) (frK (f - g)) (szB hf hg (-1) (.inr rfl))
  mul f g hf hg := w_Fmul B (frK f) (frK g) (frK (f * g)) (by
    obtain ⟨L, l1, l2, l3, l4, l5, l6⟩ := sz_can hf
    obtain ⟨M, m1, m2, m3, m4, m5, m6⟩ := sz_can hg
    have hLM := LL l2 m2
    have hp : 0 < L * M := Nat.mul_pos l1 m1
    have b1 := Pol.len_mul_le f.num g.num
    have b3 := Pol.len_mul_le f.den g.den
    exact ⟨mulB (p := f.num) (q := g.num) l1 m1 l3 m3 (L14 l2) (L14 m2) (le5 l5) (le5 m5) dc1, mulB (p := f.den) (q := g.den) l1 m1 l4 m4 (L14 l2) (L14 m2) (le5 l6) (le5 m6) dc1, rfRK (N := f.num * g.num) (D := f.den * g.den) (LN := L * M) (LD := L * M) _ (prd_mk f g) ((hf.mul hg (by decide) (by decide)).mono (by decide) (by decide)) hp hp hLM hLM ((Hq.mul7 l3 m3 (by omega)).up2 (by decide)) ((Hq.mul7 l4 m4 (by omega)).up2 (by decide)) (by omega) (by omega)⟩)
  neg f hf := w_Fneg B (frK f) (frK (-f)) (by
    obtain ⟨L, l1, l2, l3, l4, l5, l6⟩ := sz_can hf
    show f.num.len ≤ _; omega) (by
    obtain ⟨L, l1, l2, l3, l4, l5, l6⟩ := sz_can hf
    exact rfRK (N := -f.num) (D := f.den) (LN := L) (LD := L) _ (neg_mk f) (hf.neg.mono (by decide) (by decide)) l1 l1 (L28 l2) (L28 l2) (l3.neg.up2 (by decide)) (l4.up2 (by decide)) (by rw [Pol.len_neg]; omega) (by omega))
  div f g hf hg h0 := w_Fdiv B (frK f) (frK g) (frK (f / g)) (by
    obtain ⟨L, l1, l2, l3, l4, l5, l6⟩ := sz_can hf
    obtain ⟨M, m1, m2, m3, m4, m5, m6⟩ := sz_can hg
    have hLM := LL l2 m2
    have hp : 0 < L * M := Nat.mul_pos l1 m1
    have b1 := Pol.len_mul_le f.num g.den
    have b3 := Pol.len_mul_le f.den g.num
    exact ⟨fun z => num_ne h0 ((Pol.eq_zero_iff _).mpr z), mulB (p := f.num) (q := g.den) l1 m1 l3 m4 (L14 l2) (L14 m2) (le5 l5) (le5 m6) dc1, mulB (p := f.den) (q := g.num) l1 m1 l4 m3 (L14 l2) (L14 m2) (le5 l6) (le5 m5) dc1, rfRK (N := f.num * g.den) (D := f.den * g.num) (LN := L * M) (LD := L * M) _ (div_mk f g h0) ((hf.div hg (by decide) (by decide) h0).mono (by decide) (by decide)) hp hp hLM hLM ((Hq.mul7 l3 m4 (by omega)).up2 (by decide)) ((Hq.mul7 l4 m3 (by omega)).up2 (by decide)) (by omega) (by omega)⟩)
  inv f hf h0 := w_Finv B (frK f) (frK f⁻¹) (fun z => num_ne h0 ((Pol.eq_zero_iff _).mpr z)) (by
    obtain ⟨L, l1, l2, l3, l4, l5, l6⟩ := sz_can hf
    exact rfRK (N := f.den) (D := f.num) (LN := L) (LD := L) _ (inv_mk f h0) ((hf.inv h0).mono (by decide) (by decide)) l1 l1 (L28 l2) (L28 l2) (l4.up2 (by decide)) (l3.up2 (by decide)) (by omega) (by omega))
  is0 f := by
    have h := w_Fis0 (w := w) (base := base) B (frK f)
    have e : decide (f.num.row.length = 0) = decide (f = 0) := decide_eq_decide.mpr ⟨fun h => by
      have : f.num = 0 := (Pol.len_zero_iff _).mp h
      rw [KF.eq_mk f, KF.mk_zero]; exact this, fun h => by
      have : f.num = 0 := by
        refine Classical.byContradiction fun z => ?_
        have := KF.eq_mk f
        rw [h] at this
        have h2 := (KF.mk_zero.mp this.symm)
        exact z (by rw [h]; exact h2)
      exact (Pol.len_zero_iff _).mpr this⟩
    rw [← e]; exact h
  eq f g := by
    have h := w_Feq (w := w) (base := base) B (frK f) (frK g)
    have e : (decide (f.num.row = g.num.row) && decide (f.den.row = g.den.row)) = decide (f = g) := by
      by_cases hfg : f = g
      · subst hfg; simp
      · rw [decide_eq_false hfg]
        rw [Bool.and_eq_false_iff]
        by_cases h1 : f.num.row = g.num.row
        · right; exact decide_eq_false fun h2 => hfg (KF.ext (Pol.eq_of_row h1) (Pol.eq_of_row h2))
        · left; exact decide_eq_false h1
    rw [← e]; exact h
  sh f k hf hk := w_Fshift B (frK f) (frK (KF.sh k f)) (k : Rat) (by
    obtain ⟨L, l1, l2, l3, l4, l5, l6⟩ := sz_can hf
    have hsh : KF.sh k f = KF.mk (f.num.sft k) (f.den.sft k) (Pol.sft_ne f.cn.ne) := by
      have := KF.sh_mk (a := (k : Rat)) (n := f.num) (d := f.den) (h := f.cn.ne)
      rwa [← KF.eq_mk] at this
    have one : ∀ p : Pol, Hq L (2 ^ 2260) p → p.len ≤ 40 → ShB p.row (k : Rat) := fun p hp lp => by
      have hd : ∀ t, t ≤ p.row.length → Hq L (2 ^ (2260 + 3 * 41)) (shSt p.row (k : Rat) t) ∧ (shSt p.row (k : Rat) t).len ≤ 40 ∧ Hq L (2 ^ (2260 + 3 * 41)) (shSt p.row (k : Rat) t * Pol.of [(k : Rat), 1]) := fun t ht => by
        rw [shSt_eq _ _ _ ht]
        obtain ⟨h1, h2, h3⟩ := sftL_Hq (L := L) (B := 2 ^ 2260) hk (p.row.drop (p.row.length - t)) fun i => by
          have := hp (p.row.length - t + i)
          rw [List.getD_eq_getElem?_getD, List.getElem?_drop, ← List.getD_eq_getElem?_getD]; exact this
        have hl : (p.row.drop (p.row.length - t)).length ≤ 40 := by rw [List.length_drop]; have : p.row.length = p.len := rfl; omega
        have e : ∀ n, n ≤ 41 → 2 ^ 2260 * 8 ^ n ≤ 2 ^ (2260 + 3 * 41) := fun n hn => by
          rw [Nat.pow_add, Nat.pow_mul]
          exact Nat.mul_le_mul_left _ (Nat.pow_le_pow_right (by decide) hn)
        exact ⟨h1.mono (e _ (by omega)), by omega, h3.mono (e _ (by omega))⟩
      have hX : Hq 1 (2 ^ (2260 + 3 * 41)) (Pol.of [(k : Rat), 1]) := fun i => by
        have e2 : 5 ≤ 2 ^ (2260 + 3 * 41) := Nat.le_trans (by decide : 5 ≤ 2 ^ 3) (Nat.pow_le_pow_right (by decide) (by decide))
        rw [Pol.co_of]
        match i with
        | 0 => exact ⟨(k : Int), by simp; exact (Rat.intCast_natCast k).symm, by omega⟩
        | 1 => exact ⟨1, by simp, by omega⟩
        | i + 2 => simp; exact Ib.zero
      have lX := Pol.len_of_le [(k : Rat), 1]
      have lX : (Pol.of [(k : Rat), 1]).len ≤ 2 := lX
      have L15 : L ≤ 2 ^ (2260 + 3 * 41) := Nat.le_trans l2 (Nat.pow_le_pow_right (by decide) (by decide))
      refine ⟨by show p.len ≤ _; omega, fun t ht => ?_, fun t ht => ?_, fun i => QB.of l1 (hp i) (Nat.le_refl _) (L14 l2) (by decide)⟩
      · obtain ⟨h1, h2, h3⟩ := hd t (by omega)
        exact mulB l1 Nat.one_pos h1 hX L15 Nat.one_le_two_pow (by omega) (by omega) (by decide)
      · obtain ⟨h1, h2, h3⟩ := hd t (by omega)
        have := Pol.len_mul_le (shSt p.row (k : Rat) t) (Pol.of [(k : Rat), 1])
        exact Hq.pb l1 h3 (Nat.le_refl _) L15 (by decide) (by omega)
    refine ⟨one _ l3 l5, one _ l4 l6, ?_⟩
    show RfR (shSt f.num.row _ _) (shSt f.den.row _ _) _
    rw [shSt_all, shSt_all]
    exact rfRK (N := f.num.sft k) (D := f.den.sft k) (LN := L) (LD := L) (Pol.sft_ne f.cn.ne) hsh ((hf.sh hk).mono (by decide) (by decide)) l1 l1 (L28 l2) (L28 l2) ((Hq.sft2 hk l3 l5).up2 (by decide)) ((Hq.sft2 hk l4 l6).up2 (by decide)) (Nat.le_trans (sft_len _ _) (by omega)) (Nat.le_trans (sft_len _ _) (by omega)))
  zero := by
    have := w_of_ratioI (w := w) B base 0 (by simp)
    exact this
  one := by
    have := w_of_ratioI (w := w) B base 1 Nat.one_le_two_pow
    have e : KF.ofP (Pol.C ((1 : Int) : Rat)) = (1 : KF) := KF.eq_iff.mpr (by rw [show ((1 : Int) : Rat) = 1 from rfl, Pol.C_one])
    rw [e] at this
    exact this
end
end SLT
set_option exponentiation.threshold 256
set_option maxRecDepth 100000
set_option maxHeartbeats 1000000
namespace SLT
open PySem PySem.Spec PyProof.Rows L2 SL SW
abbrev cSteps (K : PySem.W.Frag) : Addr := He.ga K "Steps"
abbrev fSteps (K : PySem.W.Frag) (m : Str) : Addr := He.fAd K ("Steps", some m)
section
variable {Q : Type} [FunQ Q] {Sz : Q → Prop}
def tS (K : PySem.W.Frag) (l : List Q) : Ty := ⟨fun v H => ∃ a dx t, v = .ref a ∧ H a = some (.ins (cSteps K) dx [("coefficients", t)]) ∧ (tT K (tqs K l)).p t H, fun e ⟨a, dx, t, h1, h2, h3⟩ => ⟨a, dx, t, h1, e _ _ h2, (tT K _).mono e h3⟩⟩
theorem isS {K : PySem.W.Frag} {l : List Q} : IsIns (cSteps K) (tS K l) := fun v H ⟨a, dx, t, h1, h2, _⟩ => ⟨a, dx, _, h1, h2⟩
theorem noS {K : PySem.W.Frag} {m : Str} {l : List Q} (h : (m == ("coefficients" : Str)) = false) : InsNo (cSteps K) m (tS K l) := fun v H ⟨a, dx, t, h1, h2, _⟩ => ⟨a, dx, _, h1, h2, by simp [List.lookup, h]⟩
theorem sol_S {K : PySem.W.Frag} {l : List Q} : Sol (tS K l) := fun m v H H' e ⟨a, dx, t, h1, h2, h3⟩ => ⟨a, dx, t, h1, (by rcases e _ _ h2 with x | ⟨_, _, _, x, _⟩; exact x; cases x), sol_T sol_qq m _ _ _ e h3⟩
section
variable {X : Cx} {Γ : Cxt} {e a : Expr} {pos : Pos} {mg : Str → Option Value} {l : List Q} {Rs : List Ty} {lo hi : Option Expr} {l0 h0 : Option Int} {p2 : Pos}
theorem et_co (F : Facts X.K mg) (he : ET X Γ e (tS X.K l)) (hb : attributeBase e "coefficients" X.env (eval e X.env) = eval e X.env := by rfl) : ET X Γ (.Attribute e "coefficients" pos) (tT X.K (tqs X.K l)) :=
  et_fld hb he fun v H ⟨a, dx, t, h1, h2, h3⟩ => ⟨a, _, dx, _, t, h1, h2, F.cl_Steps, F.na_Steps_coefficients, rfl, h3⟩
/-- tuple(a[lo:hi]), a a list or a tuple -/
theorem et_slS (ha : ET X Γ a (tSn [] X.K Rs)) (hl : PT_ X Γ lo l0) (hh : PT_ X Γ hi h0) : ET X Γ (.Subscript a (.Slice lo hi none p2) pos) (tSn [] X.K (cutR Rs l0 h0)) := by
  obtain ⟨tl, pl, kl⟩ := hl
  obtain ⟨th, ph, kh⟩ := hh
  have hs : SlR X (fun x l h H Q => rSlL X.K x l h H Q ∨ rSlA X.K x l h H Q) := fun pins s σ H x v vl vu lo hi sl Q I r1 r2 r3 r4 h => h.elim (sl_list pins s σ H x v vl vu lo hi sl Q I r1 r2 r3 r4) (sl_tupA pins s σ H x v vl vu lo hi sl Q I r1 r2 r3 r4)
  refine fun σ H ok => wE_of (pe_slice hs pe_w pl ph) (ha.use ok fun v H1 s ok1 r => kl σ H1 ok1 _ fun H2 s2 ok2 => kh σ H2 ok2 _ fun H3 s3 ok3 => ?_)
  have r3 := (tSn [] X.K Rs).mono (s2.trans s3) r
  rcases r3 with r3 | r3
  · obtain ⟨q, xs, e, hn, hq, ht⟩ := r3
    exact .inl ⟨q, xs, e, SqL.of hq, fun D hD => ⟨((s.trans s2).trans s3).trans (same_new hD), .inl ⟨D, _, rfl, by simp, upd_same, (tvs_cut ht l0 h0).up (same_new hD)⟩⟩⟩
  · obtain ⟨q, xs, e, hq, ht⟩ := r3
    refine .inr ⟨q, xs, e, hq, fun he => ⟨(s.trans s2).trans s3, .inr ⟨q, xs, rfl, hq, ?_⟩⟩, fun _ D hD => ⟨((s.trans s2).trans s3).trans (same_new hD), .inr ⟨D, _, rfl, .inl (.inl upd_same), (tvs_cut ht l0 h0).up (same_new hD)⟩⟩⟩
    rw [ht.len] at he
    unfold cutR
    rw [he.1, he.2]
    simpa using ht
end
def trimQ : List Q → List Q
  | [] => []
  | a :: r => match trimQ r with
    | [] => if a = 0 then [] else [a]
    | b :: s => a :: b :: s
def tendQ (p : List Q) (k : Nat) : Bool := decide (0 < k) && decide (p.getD (k - 1) 0 = 0)
theorem trimQ_snoc0 (p : List Q) : trimQ (p ++ [0]) = trimQ p := by
  induction p with
  | nil => simp [trimQ]
  | cons a r ih => simp only [List.cons_append, trimQ, ih]
theorem trimQ_snoc (p : List Q) {a : Q} (h : a ≠ 0) : trimQ (p ++ [a]) = p ++ [a] := by
  induction p with
  | nil => simp [trimQ, h]
  | cons b r ih =>
    simp only [List.cons_append, trimQ, ih]
    cases r <;> rfl
theorem trimQ_step {p : List Q} {k : Nat} (hk : k ≤ p.length) (h : tendQ p k = true) : trimQ (p.take (k - 1)) = trimQ (p.take k) := by
  unfold tendQ at h
  simp only [Bool.and_eq_true, decide_eq_true_eq] at h
  obtain ⟨j, rfl⟩ : ∃ j, k = j + 1 := ⟨k - 1, by omega⟩
  have hj : j < p.length := by omega
  rw [Nat.add_sub_cancel] at h ⊢
  rw [List.take_succ_eq_append_getElem hj, show p[j] = 0 by have := h.2; rwa [List.getD_eq_getElem?_getD, List.getElem?_eq_getElem hj] at this, trimQ_snoc0]
theorem trimQ_end {p : List Q} {k : Nat} (hk : k ≤ p.length) (h : tendQ p k = false) : trimQ (p.take k) = p.take k := by
  cases k with
  | zero => rfl
  | succ j =>
    have hj : j < p.length := by omega
    unfold tendQ at h
    simp at h
    rw [List.take_succ_eq_append_getElem hj]
    apply trimQ_snoc
    rwa [List.getElem?_eq_getElem hj] at h
theorem trimQ_pre (p : List Q) : p.take (trimQ p).length = trimQ p := by
  induction p with
  | nil => rfl
  | cons a r ih =>
    unfold trimQ
    cases h : trimQ r with
    | nil => by_cases ha : a = 0 <;> simp [ha]
    | cons b s =>
      rw [h] at ih
      simp only [List.length_cons] at ih ⊢
      rw [List.take_succ_cons, ih]
theorem trimQ_le (p : List Q) : (trimQ p).length ≤ p.length := by
  have := congrArg List.length (trimQ_pre p)
  rw [List.length_take] at this
  omega
section
variable {P : Program} {w : World} {K : PySem.W.Frag} {mg : Str → Option Value} {base : Heap} {k : Nat}
theorem solC_F {C : Addr} (h : cRatio K ≠ C) (h2 : cPoly K ≠ C) (h3 : cFun K ≠ C) {n d : Cf} : SolC C (tF K n d) := fun v H x dx fs fs' hD ⟨a, d2, u, z, h1, hh, r1, r2⟩ => ⟨a, d2, u, z, h1, (by rw [upd_ne (ne_of hh hD (by intro z; cases z; exact h3 rfl))]; exact hh), solC_P h h2 _ _ _ _ _ _ hD r1, solC_P h h2 _ _ _ _ _ _ hD r2⟩
theorem solC_qq {C : Addr} (h : cRatio K ≠ C) (h2 : cPoly K ≠ C) (h3 : cFun K ≠ C) {l : List Q} : ∀ R ∈ tqs K l, SolC C R := fun R hR => by
  obtain ⟨q, _, rfl⟩ := List.mem_map.mp hR
  exact solC_F h h2 h3
theorem w_Sinit (B : Bs P K mg) (O : Ops Q Sz P w K mg base) (l : List Q) (ll : l.length ≤ 1000) : FnT P w K mg base 58 (fSteps K "__init__") (spMk (cSteps K) [tSn [] K (tqs K l)] (tS K (trimQ l))) := by
  obtain ⟨fd', D⟩ := B.F.d_Steps_init
  refine fnT_of (fn_init D sc_Steps_init rfl fun cdv A outer s H q dq H0 E σ hr ok sm n1 n2 ne hq fin _ => ?_) (bi_Steps_init D)
  have ne1 : cRatio K ≠ cSteps K := ne_of_kit B.F.kc_Ratio_Steps B.F.kc_Ratio_Ratio
  have ne2 : cPoly K ≠ cSteps K := ne_of_kit B.F.kc_Poly_Steps B.F.kc_Poly_Poly
  have ne3 : cFun K ≠ cSteps K := ne_of_kit B.F.kc_RatFun_Steps B.F.kc_RatFun_RatFun
  let Γs : Nat → Cxt := fun k => [some (tV (.ref q)), some (tSn [] K (tqs K l)), some (tI (k : Nat))]
  refine wB_step (Δ := Γs l.length) (st_set (i := 2) sc_Steps_init.nd rfl (.inl rfl) (et_lenq B rfl (ET.imp (vr 1 rfl rfl rfl rfl rfl) tSn_LT)) rfl (Sub.refl _) rfl (.inl rfl)) ok fun σ1 H1 s1 ok1 => ?_
  refine wB_step (Δ := Γs (trimQ l).length) (st_while Γs (tendQ l) (fun k => k - 1) id l.length (fun k => k ≤ l.length ∧ trimQ (l.take k) = trimQ l) PassesOwn.never (Sub.refl _) ⟨Nat.le_refl _, by rw [List.take_length]⟩ (fun k hk => ?_) (fun k hk hd => ?_) (fun k hk hd => ?_) rfl (fun k hk hd => ?_)) ok1 fun σ2 H2 s2 ok2 => ?_
  · refine WT_.tt (and2 (p := decide (0 < k)) (q := decide (l.getD (k - 1) 0 = 0)) (tt_cast (tt_gt (vr 2 rfl rfl rfl rfl rfl) et_int rfl) (by simp)) fun h => ?_)
    have h0 : 0 < k := of_decide_eq_true h
    have hk2 : k - 1 < l.length := by have := hk.1; omega
    exact tt_val (et_meth0 (O.is0 _) B.F.cl_RatFun B.F.me_RatFun_is_zero (hr.mono (by omega)) (et_ixS (k - 1) (by omega) (qq_getD hk2) (vr 1 rfl rfl rfl rfl rfl) (et_sub (vr 2 rfl rfl rfl rfl rfl) et_int)) (noF rfl rfl) rfl)
  · have h0 : 0 < k := by unfold tendQ at hd; simp at hd; omega
    refine bt_last (st_set (i := 2) sc_Steps_init.nd rfl (.inl rfl) (ET.imp (et_sub (vr 2 rfl rfl rfl rfl rfl) et_int) (tI_of (c := ((k - 1 : Nat) : Int)) (by omega))) rfl (Sub.refl _) rfl (.inl rfl))
  · have h0 : 0 < k := by unfold tendQ at hd; simp at hd; omega
    exact ⟨⟨by have := hk.1; omega, by rw [trimQ_step hk.1 hd]; exact hk.2⟩, by show k - 1 < k; omega⟩
  · have e : (trimQ l).length = k := by
      rw [← hk.2, trimQ_end hk.1 hd, List.length_take]
      have := hk.1; omega
    rw [e]
    exact Sub.refl _
  have h1 := trimQ_le l
  have h2 := trimQ_pre l
  have e : cutR (tqs K l) none (some ((trimQ l).length : Int)) = tqs K (trimQ l) := by
    rw [cut_to (by rw [qq_len]; exact h1)]
    unfold tqs
    rw [← List.map_take, h2]
  refine wB_store1 (U := tS K (trimQ l)) (R := tT K (tqs K (trimQ l))) ok2 (sm.trans (s1.trans s2)) n1 ((s1.trans s2) _ _ hq) B.F.cl_Steps B.F.na_Steps_coefficients ?_ (vr 0 rfl rfl rfl rfl rfl) (solC_T (solC_qq ne1 ne2 ne3)) rfl (fun v H' r h => ⟨q, dq, v, rfl, h, r⟩) fin
  rw [← e]
  exact et_tup rfl B.F.b_tuple (ET.imp (et_slS (vr 1 rfl rfl rfl rfl rfl) pt_no (pt_at (vr 2 rfl rfl rfl rfl rfl))) tSn_LT)
end
end
end SLT
set_option exponentiation.threshold 256
set_option maxRecDepth 100000
set_option maxHeartbeats 1000000
namespace SLT
open PySem PySem.Spec PyProof.Rows L2 SL SW
section
variable {Q : Type} [FunQ Q] {Sz : Q → Prop}
variable {P : Program} {w : World} {K : PySem.W.Frag} {mg : Str → Option Value} {base : Heap} {k : Nat}
section
variable {X : Cx} {Γ : Cxt} {e : Expr} {pos pp : Pos} {l : List Q}
theorem et_Steps (B : Bs X.prog X.K X.mg) (O : Ops Q Sz X.prog X.w X.K X.mg X.base) (hr : Room 59 X.A) (hl : l.length ≤ 1000) (hg : Gl X "Steps") (he : ET X Γ e (tSn [] X.K (tqs X.K l))) (hs : starEach [e] X.env = (false, eval e X.env) :: starEach [] X.env := by rfl) : ET X Γ (.Call (.Name "Steps" pp) [e] [] pos) (tS X.K (trimQ l)) :=
  et_make B.F.mk_Steps (w_Sinit B O l hl) hr hg B.F.g_Steps (at_one he hs) rfl hs rfl
end
theorem w_Slen (B : Bs P K mg) (l : List Q) : FnT P w K mg base 36 (fSteps K "__len__") (spT [tS K l] (tI (l.length : Nat))) := by
  obtain ⟨fd', D⟩ := B.F.d_Steps_len
  refine fnT_of (fn_ret D sc_Steps_len rfl fun cdv A outer s H hr => ?_) (bi_Steps_len D)
  exact bt_last (st_ret (et_lenq B rfl (ET.imp (et_co B.F (vr 0 rfl rfl rfl rfl rfl)) tT_LT)) rfl)
theorem w_Sorder (B : Bs P K mg) (l : List Q) : FnT P w K mg base 36 (fSteps K "order") (spT [tS K l] (tI ((l.length : Nat) - 1))) := by
  obtain ⟨fd', D⟩ := B.F.d_Steps_order
  refine fnT_of (fn_ret D sc_Steps_order rfl fun cdv A outer s H hr => ?_) (bi_Steps_order D)
  exact bt_last (st_ret (et_sub (et_lenq B rfl (ET.imp (et_co B.F (vr 0 rfl rfl rfl rfl rfl)) tT_LT)) et_int) rfl)
theorem w_Sis0 (B : Bs P K mg) (l : List Q) : FnT P w K mg base 36 (fSteps K "is_zero") (spT [tS K l] (tB (decide (l.length = 0)))) := by
  obtain ⟨fd', D⟩ := B.F.d_Steps_is_zero
  refine fnT_of (fn_ret D sc_Steps_is_zero rfl fun cdv A outer s H hr => ?_) (bi_Steps_is_zero D)
  exact bt_last (st_ret (ET.imp (ev_eq (et_lenq B rfl (ET.imp (et_co B.F (vr 0 rfl rfl rfl rfl rfl)) tT_LT)) et_int rfl) (tB_of (by simp))) rfl)
theorem w_Sadd (B : Bs P K mg) (O : ∀ base, Ops Q Sz P w K mg base) (a b : List Q) (ha : ∀ x ∈ a, Sz x) (hb : ∀ x ∈ b, Sz x) (la : a.length ≤ 1000) (lb : b.length ≤ 1000) : FnT P w K mg base 62 (fSteps K "__add__") (spT [tS K a, tS K b] (tS K (trimQ (addQ a b)))) := by
  obtain ⟨fd', D⟩ := B.F.d_Steps_add
  refine fnT_of (fn_ret D sc_Steps_add rfl fun cdv A outer s H hr => ?_) (bi_Steps_add D)
  exact bt_last (st_ret (et_Steps B (O _) (hr.mono (by omega)) (by rw [addQ_len]; omega) rfl (ET.imp (et_call (w_add_rows B (O _) a b ha hb la lb) (hr.mono (by omega)) rfl B.F.g_add_rows B.F.k_add_rows (at_two (ET.imp (et_co B.F (vr 0 rfl rfl rfl rfl rfl)) tT_S) (ET.imp (et_co B.F (vr 1 rfl rfl rfl rfl rfl)) tT_S)) rfl rfl rfl) tLn_S)) rfl)
theorem w_Smul (B : Bs P K mg) (O : ∀ base, Ops Q Sz P w K mg base) (a b : List Q) (h : MulQ Sz a b) (hl : (mulQ a b).length ≤ 1000) : FnT P w K mg base 66 (fSteps K "__mul__") (spT [tS K a, tS K b] (tS K (trimQ (mulQ a b)))) := by
  obtain ⟨fd', D⟩ := B.F.d_Steps_mul
  refine fnT_of (fn_ret D sc_Steps_mul rfl fun cdv A outer s H hr => ?_) (bi_Steps_mul D)
  exact bt_last (st_ret (et_Steps B (O _) (hr.mono (by omega)) hl rfl (ET.imp (et_call (w_multiply_steps B (O _) a b h) (hr.mono (by omega)) rfl B.F.g_multiply_steps B.F.k_multiply_steps (at_two (et_co B.F (vr 0 rfl rfl rfl rfl rfl)) (et_co B.F (vr 1 rfl rfl rfl rfl rfl))) rfl rfl rfl) tLn_S)) rfl)
theorem w_Sscaled (B : Bs P K mg) (O : ∀ base, Ops Q Sz P w K mg base) (l : List Q) (f : Q) (hf : Sz f) (hl : ∀ x ∈ l, Sz x) (ll : l.length ≤ 1000) : FnT P w K mg base 62 (fSteps K "scaled") (spT [tS K l, tq K f] (tS K (trimQ (scaleQ f l)))) := by
  obtain ⟨fd', D⟩ := B.F.d_Steps_scaled
  refine fnT_of (fn_ret D sc_Steps_scaled rfl fun cdv A outer s H hr => ?_) (bi_Steps_scaled D)
  exact bt_last (st_ret (et_Steps B (O _) (hr.mono (by omega)) (by unfold scaleQ; rw [List.length_map]; omega) rfl (ET.imp (et_call (w_scale_row B (O _) f l hf hl ll _ (qtyT _)) (hr.mono (by omega)) rfl B.F.g_scale_row B.F.k_scale_row (at_two (vr 1 rfl rfl rfl rfl rfl) (et_co B.F (vr 0 rfl rfl rfl rfl rfl))) rfl rfl rfl) tLn_S)) rfl)
theorem w_Sneg (B : Bs P K mg) (O : ∀ base, Ops Q Sz P w K mg base) (l : List Q) (hl : ∀ x ∈ l, Sz x) (ll : l.length ≤ 1000) : FnT P w K mg base 60 (fSteps K "__neg__") (spT [tS K l] (tS K (trimQ (l.map fun c => -c)))) := by
  obtain ⟨fd', D⟩ := B.F.d_Steps_neg
  refine fnT_of (fn_ret D sc_Steps_neg rfl fun cdv A outer s H hr => ?_) (bi_Steps_neg D)
  refine bt_last (st_ret (et_Steps B (O _) (hr.mono (by omega)) (by rw [List.length_map]; omega) rfl (ET.imp (EF.et (et_fq (ef_lc (lc_one (Sf := fun i => tq K (-(l.getD i 0))) (j := 1) (it_tupq (et_co B.F (vr 0 rfl rfl rfl rfl rfl))) (blkOk_by (N := N_Steps_neg) (sc := d_Steps_neg.scope) (by decide +kernel)) (by show 1 < 2; decide) (pgB sc_Steps_neg.nd rfl fun _ _ => rfl)
    (fun i hi s2 H2 C2 cl fp => et_ownNeg B.F.me_RatFun_neg ((O _).neg _ (hl _ (getD_mem hi))) (hr.mono (by omega)) isF (vr 1 rfl rfl rfl rfl rfl)) (fun i hi => sol_F) (by omega)) rfl sc_Steps_neg.nd) (by simp) (fun i hi => ?_))) tLn_S)) rfl)
  simp [List.getD_eq_getElem?_getD, hi]
theorem w_Ssub (B : Bs P K mg) (O : ∀ base, Ops Q Sz P w K mg base) (a b : List Q) (ha : ∀ x ∈ a, Sz x) (hb : ∀ x ∈ b, Sz x) (hb2 : ∀ x ∈ b.map (fun c => -c), Sz x) (la : a.length ≤ 1000) (lb : b.length ≤ 1000) : FnT P w K mg base 62 (fSteps K "__sub__") (spT [tS K a, tS K b] (tS K (trimQ (addQ a (b.map fun c => -c))))) := by
  obtain ⟨fd', D⟩ := B.F.d_Steps_sub
  refine fnT_of (fn_ret D sc_Steps_sub rfl fun cdv A outer s H hr => ?_) (bi_Steps_sub D)
  refine bt_last (st_ret (et_Steps B (O _) (hr.mono (by omega)) (by rw [addQ_len, List.length_map]; omega) rfl (ET.imp (et_call (w_add_rows B (O _) a (b.map fun c => -c) ha hb2 la (by rw [List.length_map]; omega)) (hr.mono (by omega)) rfl B.F.g_add_rows B.F.k_add_rows (at_two (ET.imp (et_co B.F (vr 0 rfl rfl rfl rfl rfl)) tT_S) (ET.imp (EF.et (et_fq (ef_lc (lc_one (Sf := fun i => tq K (-(b.getD i 0))) (j := 2) (it_tupq (et_co B.F (vr 1 rfl rfl rfl rfl rfl))) (blkOk_by (N := N_Steps_sub) (sc := d_Steps_sub.scope) (by decide +kernel)) (by show 2 < 3; decide) (pgB sc_Steps_sub.nd rfl fun _ _ => rfl)
    (fun i hi s2 H2 C2 cl fp => et_ownNeg B.F.me_RatFun_neg ((O _).neg _ (hb _ (getD_mem hi))) (hr.mono (by omega)) isF (vr 2 rfl rfl rfl rfl rfl)) (fun i hi => sol_F) (by omega)) rfl sc_Steps_sub.nd) (by simp) (fun i hi => ?_))) tLn_S)) rfl rfl rfl) tLn_S)) rfl)
  simp [List.getD_eq_getElem?_getD, hi]
theorem w_Slead (B : Bs P K mg) (l : List Q) (h : l ≠ []) : FnT P w K mg base 40 (fSteps K "leading") (spT [tS K l] (tq K (l.getD (l.length - 1) 0))) := by
  obtain ⟨fd', D⟩ := B.F.d_Steps_leading
  refine fnT_of (fn_ret D sc_Steps_leading rfl fun cdv A outer s H hr => ?_) (bi_Steps_leading D)
  have hl : 0 < l.length := List.length_pos_iff.mpr h
  refine bt_cons (Δ := ini N_Steps_leading [tS K l]) (st_ifF (tt_val (ET.imp (et_meth0 (w_Sis0 B l) B.F.cl_Steps B.F.me_Steps_is_zero (hr.mono (by omega)) (vr 0 rfl rfl rfl rfl rfl) (noS rfl) rfl) (tB_of (by simpa using h)))) (bt_nil rfl (Sub.refl _))) ?_
  exact bt_last (st_ret (et_ixT (l.length - 1) (by omega) (qq_getD (by omega)) (et_co B.F (vr 0 rfl rfl rfl rfl rfl)) (et_sub (et_lenq B rfl (ET.imp (et_co B.F (vr 0 rfl rfl rfl rfl rfl)) tT_LT)) et_int)) rfl)
theorem w_Smonic (B : Bs P K mg) (O : ∀ base, Ops Q Sz P w K mg base) (l : List Q) (h : l ≠ []) (hz : l.getD (l.length - 1) 0 ≠ 0) (hi : Sz (l.getD (l.length - 1) 0)⁻¹) (hl : ∀ x ∈ l, Sz x) (ll : l.length ≤ 1000) : FnT P w K mg base 64 (fSteps K "monic") (spT [tS K l] (tS K (trimQ (scaleQ (l.getD (l.length - 1) 0)⁻¹ l)))) := by
  obtain ⟨fd', D⟩ := B.F.d_Steps_monic
  refine fnT_of (fn_ret D sc_Steps_monic rfl fun cdv A outer s H hr => ?_) (bi_Steps_monic D)
  have hp : 0 < l.length := List.length_pos_iff.mpr h
  exact bt_last (st_ret (et_meth (w_Sscaled B O l _ hi hl ll) B.F.cl_Steps B.F.me_Steps_scaled (hr.mono (by omega)) (vr 0 rfl rfl rfl rfl rfl) (noS rfl) (at_one (et_meth0 ((O _).inv _ (hl _ (getD_mem (by omega))) hz) B.F.cl_RatFun B.F.me_RatFun_inverse (hr.mono (by omega)) (et_meth0 (w_Slead B l h) B.F.cl_Steps B.F.me_Steps_leading (hr.mono (by omega)) (vr 0 rfl rfl rfl rfl rfl) (noS rfl) rfl) (noF rfl rfl) rfl)) rfl rfl rfl) rfl)
theorem w_Sget (B : Bs P K mg) (O : ∀ base, Ops Q Sz P w K mg base) (l : List Q) (i : Nat) : FnT P w K mg base 60 (fSteps K "__getitem__") (spT [tS K l, tI (i : Nat)] (tq K (l.getD i 0))) := by
  obtain ⟨fd', D⟩ := B.F.d_Steps_getitem
  refine fnT_of (fn_ret D sc_Steps_getitem rfl fun cdv A outer s H hr => ?_) (bi_Steps_getitem D)
  by_cases hi : i < l.length
  · exact bt_end (st_ifT (tt_cast (tt_lt (vr 1 rfl rfl rfl rfl rfl) (et_lenq B rfl (ET.imp (et_co B.F (vr 0 rfl rfl rfl rfl rfl)) tT_LT)) rfl) (by simp; omega)) (bt_last (st_ret (et_ixT i rfl (qq_getD hi) (et_co B.F (vr 0 rfl rfl rfl rfl rfl)) (vr 1 rfl rfl rfl rfl rfl)) rfl)))
  · have e : l.getD i 0 = 0 := by rw [List.getD_eq_getElem?_getD, List.getElem?_eq_none (by omega)]; rfl
    rw [e]
    refine bt_cons (Δ := ini N_Steps_getitem [tS K l, tI (i : Nat)]) (st_ifF (tt_cast (tt_lt (vr 1 rfl rfl rfl rfl rfl) (et_lenq B rfl (ET.imp (et_co B.F (vr 0 rfl rfl rfl rfl rfl)) tT_LT)) rfl) (by simp; omega)) (bt_nil rfl (Sub.refl _))) ?_
    exact bt_last (st_ret (et_call (O _).zero (hr.mono (by omega)) rfl B.F.g_of_ratio B.F.k_of_ratio (at_one (et_call0 (w_zero B) (hr.mono (by omega)) rfl B.F.g_zero B.F.k_zero rfl)) rfl rfl rfl) rfl)
end
end SLT
set_option exponentiation.threshold 256
set_option maxRecDepth 100000
set_option maxHeartbeats 1000000
namespace SLT
open PySem PySem.Spec PyProof.Rows L2 SL SW
section
variable {Q : Type} [FunQ Q] {Sz : Q → Prop}
variable {P : Program} {w : World} {K : PySem.W.Frag} {mg : Str → Option Value} {base : Heap} {k : Nat}
def monQ (f : Q) (k : Nat) : List Q := List.replicate k 0 ++ [f]
theorem w_step_monomial (B : Bs P K mg) (O : ∀ base, Ops Q Sz P w K mg base) (f : Q) (k : Nat) (hk : k ≤ 100) : FnT P w K mg base 60 (fTop K "step_monomial") (spT [tq K f, tI (k : Nat)] (tS K (trimQ (monQ f k)))) := by
  obtain ⟨fd', D⟩ := B.F.d_step_monomial
  refine fnT_of (fn_ret D sc_step_monomial rfl fun cdv A outer s H hr => ?_) (bi_step_monomial D)
  have hl : (monQ f k).length = k + 1 := by simp [monQ]
  refine bt_last (st_ret (et_Steps B (O _) (hr.mono (by omega)) (by rw [hl]; omega) rfl ?_) rfl)
  have e : tqs K (List.replicate k (0 : Q)) ++ tqs K [f] = tqs K (monQ f k) := by unfold tqs monQ; rw [List.map_append]
  refine ET.imp (ET.cast (R := tLn [] (tqs K (List.replicate k (0 : Q)) ++ tqs K [f])) (EF.et (ef_cat (by rw [qq_len, qq_len]; simp [sizeLine]; omega) (EF.et (et_fq (ef_lc (lc_one (Sf := fun i => tq K (0 : Q)) (j := 2) (it_rangeN rfl B.F.b_range (vr 1 rfl rfl rfl rfl rfl) rfl (by omega)) (blkOk_by (N := N_step_monomial) (sc := d_step_monomial.scope) (by decide +kernel)) (by show 2 < 3; decide) (pgB sc_step_monomial.nd rfl fun _ _ => rfl)
    (fun i hi s2 H2 C2 cl fp => et_call (O _).zero (hr.mono (by omega)) rfl B.F.g_of_ratio B.F.k_of_ratio (at_one (et_call0 (w_zero B) (hr.mono (by omega)) rfl B.F.g_zero B.F.k_zero rfl)) rfl rfl rfl) (fun i hi => sol_F) (by omega)) rfl sc_step_monomial.nd) (by simp) (fun i hi => ?_))) (EF.et (ef_disp (Rs := tqs K [f]) (at_one (vr 0 rfl rfl rfl rfl rfl)) (by simp [tqs, sizeLine]))))) (by rw [e]; rfl)) tLn_S
  simp [List.getD_eq_getElem?_getD, hi]
theorem w_ratio_operator (B : Bs P K mg) (O : ∀ base, Ops Q Sz P w K mg base) (f : Q) (hf : Sz f) : FnT P w K mg base 62 (fTop K "ratio_operator") (spT [tq K f] (tS K (trimQ [-f, 1]))) := by
  obtain ⟨fd', D⟩ := B.F.d_ratio_operator
  refine fnT_of (fn_ret D sc_ratio_operator rfl fun cdv A outer s H hr => ?_) (bi_ratio_operator D)
  exact bt_last (st_ret (et_Steps B (O _) (hr.mono (by omega)) (by simp) rfl (ET.imp (et_disT (Rs := tqs K [-f, 1]) (at_two (et_ownNeg B.F.me_RatFun_neg ((O _).neg _ hf) (hr.mono (by omega)) isF (vr 0 rfl rfl rfl rfl rfl)) (et_call (O _).one (hr.mono (by omega)) rfl B.F.g_of_ratio B.F.k_of_ratio (at_one (et_call0 (w_one B) (hr.mono (by omega)) rfl B.F.g_one B.F.k_one rfl)) rfl rfl rfl)) (by simp [tqs, sizeLine])) tT_S)) rfl)
theorem w_step_annihilator (B : Bs P K mg) (O : ∀ base, Ops Q Sz P w K mg base) (f : Q) (hf : Sz f) (h0 : f ≠ 0) (hs : Sz (FunQ.sh 1 f)) (hq : Sz (FunQ.sh 1 f / f)) : FnT P w K mg base 64 (fTop K "step_annihilator") (spT [tq K f] (tS K (trimQ [-(FunQ.sh 1 f / f), 1]))) := by
  obtain ⟨fd', D⟩ := B.F.d_step_annihilator
  refine fnT_of (fn_ret D sc_step_annihilator rfl fun cdv A outer s H hr => ?_) (bi_step_annihilator D)
  refine bt_cons (Δ := ini N_step_annihilator [tq K f]) (st_ifF (tt_val (ET.imp (et_meth0 ((O _).is0 f) B.F.cl_RatFun B.F.me_RatFun_is_zero (hr.mono (by omega)) (vr 0 rfl rfl rfl rfl rfl) (noF rfl rfl) rfl) (tB_of (decide_eq_false h0)))) (bt_nil rfl (Sub.refl _))) ?_
  exact bt_last (st_ret (et_call (w_ratio_operator B O _ hq) (hr.mono (by omega)) rfl B.F.g_ratio_operator B.F.k_ratio_operator (at_one (et_own B.F.me_RatFun_floordiv rfl B.F.sf_RatFun ((O _).div _ _ hs hf h0) (hr.mono (by omega)) isF isF (et_meth ((O _).sh f 1 hf (by decide)) B.F.cl_RatFun B.F.me_RatFun_shifted (hr.mono (by omega)) (vr 0 rfl rfl rfl rfl rfl) (noF rfl rfl) (at_one (et_call0 (w_one B) (hr.mono (by omega)) rfl B.F.g_one B.F.k_one rfl)) rfl rfl rfl) (vr 0 rfl rfl rfl rfl rfl))) rfl rfl rfl) rfl)
def actSt (l : List Q) (y : Q) : Nat → Q × Q
  | 0 => (0, y)
  | t + 1 => ((actSt l y t).1 + l.getD t 0 * (actSt l y t).2, FunQ.sh 1 (actSt l y t).2)
def actQ (l : List Q) (y : Q) : Q := (actSt l y l.length).1
structure ActB (Sz : Q → Prop) (l : List Q) (y : Q) : Prop where
  hl : ∀ x ∈ l, Sz x
  ht : ∀ t, t ≤ l.length → Sz (actSt l y t).1
  hy : ∀ t, t ≤ l.length → Sz (actSt l y t).2
  hp : ∀ t, t < l.length → Sz (l.getD t 0 * (actSt l y t).2)
theorem w_Scall (B : Bs P K mg) (O : ∀ base, Ops Q Sz P w K mg base) (l : List Q) (y : Q) (h : ActB Sz l y) : FnT P w K mg base 60 (fSteps K "__call__") (spT [tS K l, tq K y] (tq K (actQ l y))) := by
  obtain ⟨fd', D⟩ := B.F.d_Steps_call
  refine fnT_of (fn_ret D sc_Steps_call rfl fun cdv A outer s H hr => ?_) (bi_Steps_call D)
  let Γs : Nat → Cxt := fun t => [some (tS K l), some (tq K (actSt l y t).2), some (tq K (actSt l y t).1), none]
  refine bt_cons (Δ := Γs 0) (st_set (i := 2) (R := tq K (0 : Q)) sc_Steps_call.nd rfl (.inl rfl) (et_call (O _).zero (hr.mono (by omega)) rfl B.F.g_of_ratio B.F.k_of_ratio (at_one (et_call0 (w_zero B) (hr.mono (by omega)) rfl B.F.g_zero B.F.k_zero rfl)) rfl rfl rfl) rfl (Sub.refl _) rfl (.inl rfl)) ?_
  refine bt_cons (Δ := Γs l.length) ?_ (bt_last (st_ret (vr 2 rfl rfl rfl rfl rfl) rfl))
  refine st_for1 (i := 3) (n := l.length) (Rf := fun t => tq K (l.getD t 0)) Γs (it_tupq (et_co B.F (vr 0 rfl rfl rfl rfl rfl))) (Sub.refl _) (fun t ht => ?_) rfl (Sub.refl _) rfl PassesOwn.never sc_Steps_call.nd rfl rfl (fun _ => rfl)
  refine bt_cons (Δ := [some (tS K l), some (tq K (actSt l y t).2), some (tq K (actSt l y (t + 1)).1), none]) (st_set (i := 2) (R := tq K (actSt l y (t + 1)).1) sc_Steps_call.nd rfl (.inl rfl) (et_own B.F.me_RatFun_add rfl B.F.sf_RatFun ((O _).add _ _ (h.ht t (by omega)) (h.hp t ht)) (hr.mono (by omega)) isF isF (vr 2 rfl rfl rfl rfl rfl) (et_own B.F.me_RatFun_mul rfl B.F.sf_RatFun ((O _).mul _ _ (h.hl _ (getD_mem ht)) (h.hy t (by omega))) (hr.mono (by omega)) isF isF (vr 3 rfl rfl rfl rfl rfl) (vr 1 rfl rfl rfl rfl rfl))) rfl (sub_eq (sub_eq (sub_eq (sub_no sub_nil)))) rfl (.inl rfl)) ?_
  exact bt_last (st_set (i := 1) (R := tq K (actSt l y (t + 1)).2) sc_Steps_call.nd rfl (.inl rfl) (et_meth ((O _).sh _ 1 (h.hy t (by omega)) (by decide)) B.F.cl_RatFun B.F.me_RatFun_shifted (hr.mono (by omega)) (vr 1 rfl rfl rfl rfl rfl) (noF rfl rfl) (at_one (et_call0 (w_one B) (hr.mono (by omega)) rfl B.F.g_one B.F.k_one rfl)) rfl rfl rfl) rfl (Sub.refl _) rfl (.inl rfl))
end
end SLT
set_option exponentiation.threshold 256
set_option maxRecDepth 100000
set_option maxHeartbeats 1000000
namespace SLT
open PySem PySem.Spec PyProof.Rows L2 SL SW
section
variable {Q : Type} [FunQ Q] {Sz : Q → Prop}
variable {P : Program} {w : World} {K : PySem.W.Frag} {mg : Str → Option Value} {base : Heap} {k : Nat}
def leadQ (l : List Q) : Q := l.getD (l.length - 1) 0
def trmQ (m r : List Q) : List Q := trimQ (monQ (leadQ r / FunQ.sh (r.length - m.length) (leadQ m)) (r.length - m.length))
def sdv (a m : List Q) : Nat → List Q × List Q
  | 0 => ([], a)
  | t + 1 => (trimQ (addQ (sdv a m t).1 (trmQ m (sdv a m t).2)), trimQ (addQ (sdv a m t).2 ((trimQ (mulQ (trmQ m (sdv a m t).2) m)).map fun c => -c)))
structure SdvB (Sz : Q → Prop) (a m : List Q) (T : Nat) : Prop where
  m0 : m ≠ []
  ml : m.length ≤ 100
  ms : ∀ x ∈ m, Sz x
  go : ∀ t, t < T → m.length ≤ (sdv a m t).2.length
  st : (sdv a m T).2.length < m.length
  gp : ∀ t, t < T → (sdv a m t).2.length - m.length ≤ 5
  q : ∀ t, t ≤ T → (∀ x ∈ (sdv a m t).1, Sz x) ∧ (sdv a m t).1.length ≤ 100
  r : ∀ t, t ≤ T → (∀ x ∈ (sdv a m t).2, Sz x) ∧ (sdv a m t).2.length ≤ 100
  s : ∀ t, t < T → Sz (FunQ.sh ((sdv a m t).2.length - m.length) (leadQ m)) ∧ FunQ.sh ((sdv a m t).2.length - m.length) (leadQ m) ≠ 0
  tm : ∀ t, t < T → (∀ x ∈ trmQ m (sdv a m t).2, Sz x) ∧ (trmQ m (sdv a m t).2).length ≤ 100
  mu : ∀ t, t < T → MulQ Sz (trmQ m (sdv a m t).2) m ∧ (mulQ (trmQ m (sdv a m t).2) m).length ≤ 1000
  p : ∀ t, t < T → (∀ x ∈ trimQ (mulQ (trmQ m (sdv a m t).2) m), Sz x) ∧ (∀ x ∈ (trimQ (mulQ (trmQ m (sdv a m t).2) m)).map (fun c => -c), Sz x)
theorem w_Sdivide (B : Bs P K mg) (O : ∀ base, Ops Q Sz P w K mg base) (a m : List Q) (T : Nat) (h : SdvB Sz a m T) : FnT P w K mg base 70 (fSteps K "divide") (spT [tS K a, tS K m] (tT K [tS K (sdv a m T).1, tS K (sdv a m T).2])) := by
  obtain ⟨fd', D⟩ := B.F.d_Steps_divide
  refine fnT_of (fn_ret D sc_Steps_divide rfl fun cdv A outer s H hr => ?_) (bi_Steps_divide D)
  let Γs : Nat → Cxt := fun t => [none, some (tS K m), some (tS K (sdv a m t).1), some (tS K (sdv a m t).2), none, none]
  refine bt_cons (Δ := ini N_Steps_divide [tS K a, tS K m]) (st_ifF (tt_val (ET.imp (et_meth0 (w_Sis0 B m) B.F.cl_Steps B.F.me_Steps_is_zero (hr.mono (by omega)) (vr 1 rfl rfl rfl rfl rfl) (noS rfl) rfl) (tB_of (by simpa using h.m0)))) (bt_nil rfl (Sub.refl _))) ?_
  refine bt_cons (Δ := [some (tS K a), some (tS K m), some (tS K ([] : List Q)), none, none, none]) (st_set (i := 2) (R := tS K ([] : List Q)) sc_Steps_divide.nd rfl (.inl rfl) (et_Steps (l := ([] : List Q)) B (O _) (hr.mono (by omega)) (by simp) rfl (ET.imp (et_disT (Rs := tqs K ([] : List Q)) at_nil (by simp [tqs])) tT_S)) rfl (Sub.refl _) rfl (.inl rfl)) ?_
  refine bt_cons (Δ := Γs 0) (st_set (i := 3) (R := tS K a) sc_Steps_divide.nd rfl (.inl rfl) (vr 0 rfl rfl rfl rfl rfl) rfl (sub_no (sub_eq (sub_eq (sub_eq (sub_eq (sub_eq sub_nil)))))) rfl (.inl rfl)) ?_
  refine bt_cons (Δ := Γs T) (st_while Γs (fun t => decide (m.length ≤ (sdv a m t).2.length)) (fun t => t + 1) (fun t => T - t) 0 (fun t => t ≤ T) PassesOwn.never (Sub.refl _) (Nat.zero_le _) (fun t ht => ?_) (fun t ht hd => ?_) (fun t ht hd => ?_) rfl (fun t ht hd => ?_)) (bt_last (st_ret (et_disT (at_two (vr 2 rfl rfl rfl rfl rfl) (vr 3 rfl rfl rfl rfl rfl)) (by simp [sizeLine])) rfl))
  · exact tt_cast (tt_ge (et_meth0 (w_Sorder B _) B.F.cl_Steps B.F.me_Steps_order (hr.mono (by omega)) (vr 3 rfl rfl rfl rfl rfl) (noS rfl) rfl) (et_meth0 (w_Sorder B m) B.F.cl_Steps B.F.me_Steps_order (hr.mono (by omega)) (vr 1 rfl rfl rfl rfl rfl) (noS rfl) rfl) rfl) (by simp)
  · have h1 : m.length ≤ (sdv a m t).2.length := of_decide_eq_true hd
    have h2 : t < T := by
      refine Classical.byContradiction fun z => ?_
      have e : t = T := by omega
      have := h.st; rw [e] at h1; omega
    have hm0 : 0 < m.length := List.length_pos_iff.mpr h.m0
    have hr0 : (sdv a m t).2 ≠ [] := fun z => by rw [z, List.length_nil] at h1; omega
    let g : Nat := (sdv a m t).2.length - m.length
    have hrt := h.r t ht
    have hqt := h.q t ht
    have htm := h.tm t h2
    have hmu := h.mu t h2
    have hgp : g ≤ 5 := h.gp t h2
    refine bt_cons (Δ := [none, some (tS K m), some (tS K (sdv a m t).1), some (tS K (sdv a m t).2), some (tI (g : Nat)), none]) (st_set (i := 4) (R := tI (g : Nat)) sc_Steps_divide.nd rfl (.inl rfl) (ET.imp (et_sub (et_meth0 (w_Sorder B _) B.F.cl_Steps B.F.me_Steps_order (hr.mono (by omega)) (vr 3 rfl rfl rfl rfl rfl) (noS rfl) rfl) (et_meth0 (w_Sorder B m) B.F.cl_Steps B.F.me_Steps_order (hr.mono (by omega)) (vr 1 rfl rfl rfl rfl rfl) (noS rfl) rfl)) (tI_of (by show _ = (((sdv a m t).2.length - m.length : Nat) : Int); omega))) rfl (Sub.refl _) rfl (.inl rfl)) ?_
    refine bt_cons (Δ := [none, some (tS K m), some (tS K (sdv a m t).1), some (tS K (sdv a m t).2), none, some (tS K (trmQ m (sdv a m t).2))]) (st_set (i := 5) (R := tS K (trmQ m (sdv a m t).2)) sc_Steps_divide.nd rfl (.inl rfl) ?_ rfl (sub_eq (sub_eq (sub_eq (sub_eq (sub_no (sub_eq sub_nil)))))) rfl (.inl rfl)) ?_
    · refine et_call (w_step_monomial B O _ g (by omega)) (hr.mono (by omega)) rfl B.F.g_step_monomial B.F.k_step_monomial (at_two ?_ (vr 4 rfl rfl rfl rfl rfl)) rfl rfl rfl
      refine et_own B.F.me_RatFun_floordiv rfl B.F.sf_RatFun ((O _).div _ _ (hrt.1 _ (getD_mem (by have := List.length_pos_iff.mpr hr0; omega))) (h.s t h2).1 (h.s t h2).2) (hr.mono (by omega)) isF isF (et_meth0 (w_Slead B _ hr0) B.F.cl_Steps B.F.me_Steps_leading (hr.mono (by omega)) (vr 3 rfl rfl rfl rfl rfl) (noS rfl) rfl) ?_
      exact et_meth ((O _).sh _ g (h.ms _ (getD_mem (by omega))) hgp) B.F.cl_RatFun B.F.me_RatFun_shifted (hr.mono (by omega)) (et_meth0 (w_Slead B m h.m0) B.F.cl_Steps B.F.me_Steps_leading (hr.mono (by omega)) (vr 1 rfl rfl rfl rfl rfl) (noS rfl) rfl) (noF rfl rfl) (at_one (et_make B.F.mk_Ratio (mkQ1 B (g : Nat)) (hr.mono (by omega)) rfl B.F.g_Ratio (at_one (vr 4 rfl rfl rfl rfl rfl)) rfl rfl rfl)) rfl rfl rfl
    refine bt_cons (Δ := [none, some (tS K m), some (tS K (sdv a m (t + 1)).1), some (tS K (sdv a m t).2), none, some (tS K (trmQ m (sdv a m t).2))]) (st_set (i := 2) (R := tS K (sdv a m (t + 1)).1) sc_Steps_divide.nd rfl (.inl rfl) (et_own B.F.me_Steps_add rfl B.F.sf_Steps (w_Sadd B O _ _ hqt.1 htm.1 (by omega) (by omega)) (hr.mono (by omega)) isS isS (vr 2 rfl rfl rfl rfl rfl) (vr 5 rfl rfl rfl rfl rfl)) rfl (Sub.refl _) rfl (.inl rfl)) ?_
    have hml := trimQ_le (mulQ (trmQ m (sdv a m t).2) m)
    exact bt_last (st_set (i := 3) (R := tS K (sdv a m (t + 1)).2) sc_Steps_divide.nd rfl (.inl rfl) (et_own B.F.me_Steps_sub rfl B.F.sf_Steps (w_Ssub B O _ _ hrt.1 (h.p t h2).1 (h.p t h2).2 (by omega) (by omega)) (hr.mono (by omega)) isS isS (vr 3 rfl rfl rfl rfl rfl) (et_own B.F.me_Steps_mul rfl B.F.sf_Steps (w_Smul B O _ _ hmu.1 hmu.2) (hr.mono (by omega)) isS isS (vr 5 rfl rfl rfl rfl rfl) (vr 1 rfl rfl rfl rfl rfl))) rfl (sub_eq (sub_eq (sub_eq (sub_eq (sub_eq (sub_no sub_nil)))))) rfl (.inl rfl))
  · have h1 : m.length ≤ (sdv a m t).2.length := of_decide_eq_true hd
    have h2 : t ≠ T := fun z => by have := h.st; rw [z] at h1; omega
    exact ⟨by omega, by show T - (t + 1) < T - t; omega⟩
  · have h1 : ¬ m.length ≤ (sdv a m t).2.length := of_decide_eq_false hd
    have h2 : t = T := Classical.byContradiction fun z => h1 (h.go t (by omega))
    rw [h2]; exact Sub.refl _
theorem tQs_inj {X : Cx} {H : Hp} : ∀ {p q : Cf} {xs : List V}, TVs xs (tQs X.K p) H → TVs xs (tQs X.K q) H → p = q
  | [], [], _, _, _ => rfl
  | a :: p, b :: q, x :: xs, ⟨⟨i, dx, e1, g1⟩, h1⟩, ⟨⟨j, dy, e2, g2⟩, h2⟩ => by
    have hp := tQs_inj (p := p) (q := q) h1 h2
    have hij : i = j := by rw [e1] at e2; cases e2; rfl
    subst hij
    rw [g1] at g2
    simp only [Option.some.injEq, HO.ins.injEq, insQ, List.cons.injEq, Prod.mk.injEq, V.int.injEq, true_and, and_true] at g2
    have hab : a = b := Rat.ext g2.2.1 (by have := g2.2.2; omega)
    rw [hab, hp]
  | [], _ :: _, [], _, h => h.elim
  | [], _ :: _, _ :: _, h, _ => h.elim
  | _ :: _, [], [], h, _ => h.elim
  | _ :: _, [], _ :: _, _, h => h.elim
  | _ :: _, _ :: _, [], h, _ => h.elim
theorem tP_inj {X : Cx} {pins : List (Addr × Obj)} {σ : L2.St} {H : Hp} {s : Shared} {p q : Cf} {v : V} (I : L2.Inv X pins σ H s) (h : (tP X.K p).p v H) (h2 : (tP X.K q).p v H) : p = q := by
  obtain ⟨a, dx, t, e1, g1, a1, xs, f1, q1, r1⟩ := h
  obtain ⟨b, dy, t2, e2, g2, a2, ys, f2, q2, r2⟩ := h2
  have hab : a = b := by rw [e1] at e2; cases e2; rfl
  subst hab
  rw [g1] at g2
  simp only [Option.some.injEq, HO.ins.injEq, List.cons.injEq, Prod.mk.injEq, true_and, and_true] at g2
  have ht : t = t2 := g2.2
  subst ht
  have h12 : a1 = a2 := by rw [f1] at f2; cases f2; rfl
  subst h12
  have := I.tuple_inj q1 q2
  subst this
  exact tQs_inj r1 r2
theorem fr_ext {f g : Fr} (h1 : f.n.row = g.n.row) (h2 : f.d.row = g.d.row) : f = g := by
  obtain ⟨a, b⟩ := f
  obtain ⟨c, d⟩ := g
  have e1 : a = c := Pol.eq_of_row h1
  have e2 : b = d := Pol.eq_of_row h2
  rw [e1, e2]
theorem w_Seq (B : Bs P K mg) (O : ∀ base, Ops Q Sz P w K mg base) (a b : List Q) : FnT P w K mg base 62 (fSteps K "__eq__") (spT [tS K a, tS K b] (tB (decide (a = b)))) := by
  obtain ⟨fd', D⟩ := B.F.d_Steps_eq
  refine fnT_of (fn_ret D sc_Steps_eq rfl fun cdv A outer s H hr => ?_) (bi_Steps_eq D)
  refine bt_last (st_ret (et_andT (et_callB call_isi rfl B.F.b_isinstance rfl (at_two (vr 1 rfl rfl rfl rfl rfl) (et_glob (v := .ref _) rfl B.F.g_Steps rfl rfl)) (r_isi isS B.F.cl_Steps B.F.ca_Steps B.F.kc_Steps_Steps) (by decide) rfl rfl rfl) (et_one ?_)) rfl)
  refine ET.imp (et_RcB (n := 58) (rcB_tup (n := 57) (d := fun i => decide (a.getD i 0 = b.getD i 0)) fun i R S h1 h2 => ?_) (hr.mono (by omega)) (et_co B.F (vr 0 rfl rfl rfl rfl rfl)) (et_co B.F (vr 1 rfl rfl rfl rfl rfl))) (tB_of ?_)
  · have l1 : i < a.length := by
      have := (List.getElem?_eq_some_iff.mp h1).1
      rwa [qq_len] at this
    have l2 : i < b.length := by
      have := (List.getElem?_eq_some_iff.mp h2).1
      rwa [qq_len] at this
    rw [qq_getD l1] at h1
    rw [qq_getD l2] at h2
    cases h1; cases h2
    refine (rcB_ins B.F.me_RatFun_eq (FnT.mono ((O _).eq _ _) (by omega)) isF isF).eqB fun pins σ s x y H I ⟨p, dx, u, z, e1, g1, r1, r2⟩ ⟨q, dy, u2, z2, e2, g2, r3, r4⟩ => ⟨p, q, e1, e2, fun ez => ?_⟩
    subst ez
    rw [g1] at g2
    simp only [Option.some.injEq, HO.ins.injEq, List.cons.injEq, Prod.mk.injEq, true_and, and_true] at g2
    obtain ⟨_, rfl, rfl⟩ := g2
    exact decide_eq_true (FunQ.frI (fr_ext (tP_inj I r1 r3) (tP_inj I r2 r4)))
  · rw [qq_len, qq_len]
    unfold tres
    by_cases h : a = b
    · subst h
      simp
    · rw [decide_eq_false h]
      rw [Bool.and_eq_false_iff]
      by_cases hl : a.length = b.length
      · refine .inl ?_
        rw [List.all_eq_false]
        have : ∃ i, i < a.length ∧ a.getD i 0 ≠ b.getD i 0 := by
          refine Classical.byContradiction fun hn => h (List.ext_getElem hl fun i h1 h2 => ?_)
          refine Classical.byContradiction fun hc => hn ⟨i, h1, ?_⟩
          rw [List.getD_eq_getElem?_getD, List.getD_eq_getElem?_getD, List.getElem?_eq_getElem h1, List.getElem?_eq_getElem h2]
          exact hc
        obtain ⟨i, h1, h2⟩ := this
        exact ⟨i, List.mem_range.mpr (by omega), by rw [decide_eq_false h2]; decide⟩
      · exact .inr (by simpa using hl)
end
end SLT
set_option exponentiation.threshold 256
set_option maxRecDepth 100000
set_option maxHeartbeats 1000000
namespace SLT
open PySem PySem.Spec PyProof.Rows L2 SL SW
open Lean.Grind
/-- the coefficient -/
def co (l : List KF) (i : Nat) : KF := l.getD i 0
theorem co_ge {l : List KF} {i : Nat} (h : l.length ≤ i) : co l i = 0 := by unfold co; rw [List.getD_eq_getElem?_getD, List.getElem?_eq_none h]; rfl
theorem co_nil (i : Nat) : co [] i = 0 := rfl
theorem trimQ_co (p : List KF) (i : Nat) : co (trimQ p) i = co p i := by
  unfold co
  induction p generalizing i with
  | nil => rfl
  | cons a r ih =>
    rw [trimQ]
    cases h : trimQ r with
    | nil =>
      rw [h] at ih
      cases i with
      | zero => by_cases ha : a = 0 <;> simp [ha]
      | succ i =>
        have := ih i
        simp at this
        by_cases ha : a = 0 <;> simp [ha] <;> rw [← this]
    | cons b s =>
      rw [h] at ih
      cases i with
      | zero => simp
      | succ i => have := ih i; simpa using this
/-- no zero at the end -/
def TrQ (l : List KF) : Prop := l = [] ∨ co l (l.length - 1) ≠ 0
theorem trimQ_Tr : ∀ l : List KF, TrQ (trimQ l)
  | [] => .inl rfl
  | a :: r => by
    rw [trimQ]
    cases h : trimQ r with
    | nil =>
      by_cases ha : a = 0
      · simp only [ha, if_true]; exact .inl rfl
      · simp only [ha, if_false]; exact .inr (by simpa [co] using ha)
    | cons b s =>
      have ih := trimQ_Tr r
      rw [h] at ih
      rcases ih with z | z
      · cases z
      · refine .inr ?_
        unfold co at z ⊢
        simpa using z
theorem TrQ.eq {p q : List KF} (hp : TrQ p) (hq : TrQ q) (h : ∀ i, co p i = co q i) : p = q := by
  have len : ∀ {p q : List KF}, TrQ p → (∀ i, co p i = co q i) → p.length ≤ q.length := fun {p q} hp h => by
    rcases hp with e | e
    · rw [e]; exact Nat.zero_le _
    · refine Classical.byContradiction fun z => e ?_
      rw [h]; exact co_ge (by omega)
  have l := Nat.le_antisymm (len hp h) (len hq fun i => (h i).symm)
  refine List.ext_getElem l fun i h1 h2 => ?_
  have := h i
  unfold co at this
  rw [List.getD_eq_getElem?_getD, List.getD_eq_getElem?_getD, List.getElem?_eq_getElem h1, List.getElem?_eq_getElem h2] at this
  exact this
theorem trimQ_id {l : List KF} (h : TrQ l) : trimQ l = l := (trimQ_Tr l).eq h (trimQ_co l)
theorem len_le {l : List KF} (h : TrQ l) {n : Nat} (hz : ∀ i, n ≤ i → co l i = 0) : l.length ≤ n := by
  rcases h with e | e
  · rw [e]; exact Nat.zero_le _
  · refine Classical.byContradiction fun z => e (hz _ (by omega))
theorem len_eq {l : List KF} (h : TrQ l) {n : Nat} (hz : ∀ i, n < i → co l i = 0) (hn : co l n ≠ 0) : l.length = n + 1 := by
  have h1 := len_le h (n := n + 1) hz
  have : ¬ l.length ≤ n := fun z => hn (co_ge z)
  omega
def su : Nat → (Nat → KF) → KF
  | 0, _ => 0
  | n + 1, f => su n f + f n
theorem su_add (n : Nat) (f g : Nat → KF) : su n (fun i => f i + g i) = su n f + su n g := by
  induction n with
  | zero => show (0 : KF) = 0 + 0; grind
  | succ n ih => simp only [su, ih]; grind
theorem su_mul (n : Nat) (c : KF) (f : Nat → KF) : su n (fun i => c * f i) = c * su n f := by
  induction n with
  | zero => show (0 : KF) = c * 0; grind
  | succ n ih => simp only [su, ih]; grind
theorem su_congr {n : Nat} {f g : Nat → KF} (h : ∀ i, i < n → f i = g i) : su n f = su n g := by
  induction n with
  | zero => rfl
  | succ n ih => simp only [su]; rw [ih fun i hi => h i (by omega), h n (by omega)]
theorem su_more {n m : Nat} {f : Nat → KF} (h : n ≤ m) (hz : ∀ i, n ≤ i → f i = 0) : su m f = su n f := by
  induction m with
  | zero => have : n = 0 := by omega
            subst this; rfl
  | succ m ih =>
    by_cases e : n = m + 1
    · subst e; rfl
    · simp only [su]; rw [ih (by omega), hz m (by omega)]; grind
theorem su_sh (n : Nat) (a : Rat) (f : Nat → KF) : KF.sh a (su n f) = su n fun i => KF.sh a (f i) := by
  induction n with
  | zero => exact KF.sh_zero a
  | succ n ih => simp only [su, KF.sh_add, ih]
theorem su_zero {n : Nat} {f : Nat → KF} (h : ∀ i, i < n → f i = 0) : su n f = 0 := by
  induction n with
  | zero => rfl
  | succ n ih => simp only [su]; rw [ih fun i hi => h i (by omega), h n (by omega)]; grind
theorem su_one {n : Nat} {f : Nat → KF} (j : Nat) (hj : j < n) (h : ∀ i, i ≠ j → f i = 0) : su n f = f j := by
  induction n with
  | zero => omega
  | succ n ih =>
    simp only [su]
    by_cases e : j = n
    · subst e
      rw [su_zero fun i hi => h i (by omega)]; grind
    · rw [ih (by omega), h n (by omega)]; grind
theorem addLQ_co (a b : List KF) (h : b.length ≤ a.length) (i : Nat) : co (addLQ a b) i = co a i + co b i := by
  unfold addLQ
  by_cases hi : i < a.length
  · have e : co ((List.range a.length).map fun k => if k < b.length then a.getD k 0 + b.getD k 0 else a.getD k 0) i = if i < b.length then co a i + co b i else co a i := by
      unfold co
      rw [List.getD_eq_getElem?_getD, List.getElem?_map, List.getElem?_range hi]
      rfl
    rw [e]
    split
    · rfl
    · rw [co_ge (l := b) (by omega)]; grind
  · rw [co_ge (by simp; omega), co_ge (l := a) (by omega), co_ge (l := b) (by omega)]; grind
theorem addQ_co (a b : List KF) (i : Nat) : co (addQ a b) i = co a i + co b i := by
  unfold addQ
  split
  · rw [addLQ_co b a (by omega)]; grind
  · exact addLQ_co a b (by omega) i
theorem map_co (f : KF → KF) (h0 : f 0 = 0) (l : List KF) (i : Nat) : co (l.map f) i = f (co l i) := by
  unfold co
  rw [List.getD_eq_getElem?_getD, List.getD_eq_getElem?_getD, List.getElem?_map]
  by_cases h : i < l.length
  · simp [h]
  · simp [List.getElem?_eq_none (Nat.not_lt.mp h), h0]
theorem scaleQ_co (f : KF) (l : List KF) (i : Nat) : co (scaleQ f l) i = f * co l i := map_co (fun c => f * c) (by grind) l i
theorem negQ_co (l : List KF) (i : Nat) : co (l.map fun c => -c) i = -co l i := map_co (fun c => -c) (by grind) l i
theorem movQ_co (l : List KF) (i : Nat) : co (movQ l) i = if i = 0 then 0 else KF.sh 1 (co l (i - 1)) := by
  unfold movQ
  cases i with
  | zero => rfl
  | succ i =>
    rw [if_neg (by omega), Nat.add_sub_cancel]
    exact map_co (FunQ.sh 1) (KF.sh_zero _) l i
theorem sh_s (a b : Nat) (x : KF) : KF.sh (b : Nat) (KF.sh (a : Nat) x) = KF.sh ((a + b : Nat) : Rat) x := by rw [KF.sh_sh, Rat.natCast_add]
theorem sh1 (t : Nat) (x : KF) : KF.sh 1 (KF.sh (t : Nat) x) = KF.sh ((t + 1 : Nat) : Rat) x := sh_s t 1 x
theorem mulSt2_co (a b : List KF) (t i : Nat) : co (mulSt a b t).2 i = if i < t then 0 else KF.sh (t : Nat) (co b (i - t)) := by
  induction t generalizing i with
  | zero => rw [if_neg (by omega)]; exact (KF.sh_0 _).symm
  | succ t ih =>
    show co (movQ (mulSt a b t).2) i = _
    rw [movQ_co]
    by_cases h0 : i = 0
    · rw [if_pos h0, if_pos (by omega)]
    · rw [if_neg h0, ih]
      by_cases h1 : i < t + 1
      · rw [if_pos (by omega), if_pos h1]; exact KF.sh_zero _
      · rw [if_neg (by omega), if_neg h1, sh1, show i - 1 - t = i - (t + 1) by omega]
/-- a coefficient of a product -/
def pc (a b : List KF) (n i : Nat) : KF := su n fun j => co a j * if i < j then 0 else KF.sh (j : Nat) (co b (i - j))
theorem mulSt1_co (a b : List KF) (t i : Nat) : co (mulSt a b t).1 i = pc a b t i := by
  induction t with
  | zero => rfl
  | succ t ih =>
    show co (addQ (mulSt a b t).1 (scaleQ (co a t) (mulSt a b t).2)) i = _
    rw [addQ_co, ih, scaleQ_co, mulSt2_co]
    rfl
theorem mulQ_co (a b : List KF) (i : Nat) : co (mulQ a b) i = pc a b a.length i := mulSt1_co a b _ i
theorem mulQ_coN (a b : List KF) {n : Nat} (h : a.length ≤ n) (i : Nat) : co (mulQ a b) i = pc a b n i := by
  rw [mulQ_co]
  exact (su_more h fun j hj => by rw [co_ge hj]; grind).symm
theorem mulQ_add (p q m : List KF) (i : Nat) : co (mulQ (trimQ (addQ p q)) m) i = co (mulQ p m) i + co (mulQ q m) i := by
  have h1 := trimQ_le (addQ p q)
  have h2 := addQ_len p q
  rw [mulQ_coN _ m (n := max p.length q.length) (by omega), mulQ_coN p m (n := max p.length q.length) (by omega), mulQ_coN q m (n := max p.length q.length) (by omega)]
  unfold pc
  rw [← su_add]
  exact su_congr fun j _ => by rw [trimQ_co, addQ_co]; grind
theorem mulQ_sub (p q m : List KF) (i : Nat) : co (mulQ (trimQ (addQ p (q.map fun c => -c))) m) i = co (mulQ p m) i - co (mulQ q m) i := by
  rw [mulQ_add]
  have : co (mulQ (q.map fun c => -c) m) i = -co (mulQ q m) i := by
    rw [mulQ_coN _ m (n := q.length) (by rw [List.length_map]; omega), mulQ_co q m]
    unfold pc
    have e : ∀ x : KF, -x = (-1) * x := fun x => by grind
    rw [e, ← su_mul]
    exact su_congr fun j _ => by rw [negQ_co]; grind
  rw [this]; grind
/-- the top of a product -/
theorem mulQ_top {a b : List KF} {m n : Nat} (ha : a.length = m + 1) (hb : b.length = n + 1) : co (mulQ a b) (m + n) = co a m * KF.sh (m : Nat) (co b n) ∧ ∀ i, m + n < i → co (mulQ a b) i = 0 := by
  refine ⟨?_, fun i hi => ?_⟩
  · rw [mulQ_co, ha]
    unfold pc
    simp only [su]
    rw [su_zero fun j hj => ?_, if_neg (by omega), show m + n - m = n by omega]
    · grind
    · rw [if_neg (by omega), co_ge (l := b) (by omega), KF.sh_zero]; grind
  · rw [mulQ_co, ha]
    unfold pc
    refine su_zero fun j hj => ?_
    rw [if_neg (by omega), co_ge (l := b) (by omega), KF.sh_zero]; grind
theorem kf_mul_ne {x y : KF} (hx : x ≠ 0) (hy : y ≠ 0) : x * y ≠ 0 := fun z => by
  have := Field.mul_inv_cancel hx
  have h : x⁻¹ * (x * y) = 0 := by rw [z]; grind
  exact hy (by grind)
theorem lead_ne {l : List KF} (h : TrQ l) (h0 : l ≠ []) : leadQ l ≠ 0 := h.resolve_left h0
theorem mul_len {a b : List KF} (ha : TrQ a) (hb : TrQ b) (a0 : a ≠ []) (b0 : b ≠ []) : (trimQ (mulQ a b)).length + 1 = a.length + b.length := by
  have la := List.length_pos_iff.mpr a0
  have lb := List.length_pos_iff.mpr b0
  have h := mulQ_top (a := a) (b := b) (m := a.length - 1) (n := b.length - 1) (by omega) (by omega)
  have := len_eq (trimQ_Tr (mulQ a b)) (n := a.length - 1 + (b.length - 1)) (fun i hi => by rw [trimQ_co]; exact h.2 i hi) (by
    rw [trimQ_co, h.1]
    exact kf_mul_ne (lead_ne ha a0) (KF.sh_ne (lead_ne hb b0)))
  omega
theorem act_su (l : List KF) (y : KF) (t : Nat) : (actSt l y t).1 = su t (fun i => co l i * KF.sh (i : Nat) y) ∧ (actSt l y t).2 = KF.sh (t : Nat) y := by
  induction t with
  | zero => exact ⟨rfl, (KF.sh_0 y).symm⟩
  | succ t ih =>
    refine ⟨?_, ?_⟩
    · show (actSt l y t).1 + l.getD t 0 * (actSt l y t).2 = _
      rw [ih.1, ih.2]; rfl
    · show KF.sh ((1 : Nat) : Rat) (actSt l y t).2 = _
      rw [ih.2]; exact sh_s t 1 y
theorem actQ_su (l : List KF) (y : KF) {n : Nat} (h : l.length ≤ n) : actQ l y = su n fun i => co l i * KF.sh (i : Nat) y := by
  unfold actQ
  rw [(act_su l y l.length).1]
  exact (su_more h fun i hi => by rw [co_ge hi]; grind).symm
theorem act_trim (l : List KF) (y : KF) : actQ (trimQ l) y = actQ l y := by
  rw [actQ_su (trimQ l) y (trimQ_le l), actQ_su l y (Nat.le_refl _)]
  exact su_congr fun i _ => by rw [trimQ_co]
theorem act_add (a b : List KF) (y : KF) : actQ (addQ a b) y = actQ a y + actQ b y := by
  have h := addQ_len a b
  rw [actQ_su _ y (n := max a.length b.length) (by omega), actQ_su a y (n := max a.length b.length) (by omega), actQ_su b y (n := max a.length b.length) (by omega), ← su_add]
  exact su_congr fun i _ => by rw [addQ_co]; grind
theorem act_scale (f : KF) (l : List KF) (y : KF) : actQ (scaleQ f l) y = f * actQ l y := by
  rw [actQ_su _ y (n := l.length) (by unfold scaleQ; rw [List.length_map]; omega), actQ_su l y (Nat.le_refl _), ← su_mul]
  exact su_congr fun i _ => by rw [scaleQ_co]; grind
theorem act_neg (l : List KF) (y : KF) : actQ (l.map fun c => -c) y = -actQ l y := by
  have e : ∀ x : KF, -x = (-1) * x := fun x => by grind
  rw [actQ_su _ y (n := l.length) (by rw [List.length_map]; omega), actQ_su l y (Nat.le_refl _), e, ← su_mul]
  exact su_congr fun i _ => by rw [negQ_co]; grind
theorem act_mulSt2 (a b : List KF) (y : KF) (t : Nat) : actQ (mulSt a b t).2 y = KF.sh (t : Nat) (actQ b y) := by
  induction t with
  | zero => exact (KF.sh_0 _).symm
  | succ t ih =>
    show actQ (movQ (mulSt a b t).2) y = _
    generalize (mulSt a b t).2 = l at ih
    have e : actQ (movQ l) y = KF.sh 1 (actQ l y) := by
      rw [actQ_su (movQ l) y (n := l.length + 1) (by simp [movQ]), actQ_su l y (Nat.le_refl _), show (1 : Rat) = ((1 : Nat) : Rat) from rfl, su_sh]
      have shift : ∀ (n : Nat) (f : Nat → KF), su (n + 1) f = f 0 + su n fun i => f (i + 1) := fun n f => by
        induction n with
        | zero => show (0 : KF) + f 0 = f 0 + 0; grind
        | succ n ih =>
          show su (n + 1) f + f (n + 1) = _
          rw [ih]
          simp only [su]
          grind
      rw [shift]
      have z : co (movQ l) 0 * KF.sh ((0 : Nat) : Rat) y = 0 := by rw [movQ_co, if_pos rfl]; grind
      rw [z]
      have : su l.length (fun i => co (movQ l) (i + 1) * KF.sh ((i + 1 : Nat) : Rat) y) = su l.length fun i => KF.sh ((1 : Nat) : Rat) (co l i * KF.sh (i : Nat) y) := su_congr fun i _ => by
        rw [movQ_co, if_neg (by omega), Nat.add_sub_cancel, KF.sh_mul, sh_s]; rfl
      rw [this]; grind
    rw [e, ih, sh1]
theorem act_mul (a b : List KF) (y : KF) : actQ (mulQ a b) y = actQ a (actQ b y) := by
  have key : ∀ t, actQ (mulSt a b t).1 y = su t fun i => co a i * KF.sh (i : Nat) (actQ b y) := fun t => by
    induction t with
    | zero => rfl
    | succ t ih =>
      show actQ (addQ (mulSt a b t).1 (scaleQ (co a t) (mulSt a b t).2)) y = _
      rw [act_add, ih, act_scale, act_mulSt2]; rfl
  unfold mulQ
  rw [key, actQ_su a (actQ b y) (Nat.le_refl _)]
theorem monQ_co (f : KF) (k i : Nat) : co (monQ f k) i = if i = k then f else 0 := by
  unfold monQ co
  rw [List.getD_eq_getElem?_getD]
  by_cases h : i < k
  · rw [List.getElem?_append_left (by simpa using h), if_neg (by omega)]
    simp [h]
  · rw [List.getElem?_append_right (by simpa using h)]
    by_cases e : i = k
    · subst e; simp
    · obtain ⟨j, hj⟩ : ∃ j, i - k = j + 1 := ⟨i - k - 1, by omega⟩
      simp [e, hj]
theorem monQ_len (f : KF) (k : Nat) : (monQ f k).length = k + 1 := by simp [monQ]
theorem act_mon (f : KF) (k : Nat) (y : KF) : actQ (monQ f k) y = f * KF.sh (k : Nat) y := by
  rw [actQ_su _ y (n := k + 1) (by rw [monQ_len]; omega), su_one k (by omega) fun i hi => by rw [monQ_co, if_neg hi]; grind]
  rw [monQ_co, if_pos rfl]
theorem monQ_mul_co (f : KF) (k : Nat) (m : List KF) (i : Nat) : co (mulQ (monQ f k) m) i = if i < k then 0 else f * KF.sh (k : Nat) (co m (i - k)) := by
  rw [mulQ_coN _ m (n := k + 1) (by rw [monQ_len]; omega)]
  unfold pc
  rw [su_one k (by omega) fun j hj => by rw [monQ_co, if_neg hj]; grind]
  rw [monQ_co, if_pos rfl]
  split
  · grind
  · rfl
theorem trim_mul_co (p m : List KF) (i : Nat) : co (mulQ (trimQ p) m) i = co (mulQ p m) i := by
  rw [mulQ_coN _ m (n := p.length) (trimQ_le p), mulQ_co p m]
  exact su_congr fun j _ => by rw [trimQ_co]
theorem trm_co {m r : List KF} (i : Nat) : co (mulQ (trmQ m r) m) i = if i < r.length - m.length then 0 else leadQ r / KF.sh ((r.length - m.length : Nat) : Rat) (leadQ m) * KF.sh ((r.length - m.length : Nat) : Rat) (co m (i - (r.length - m.length))) := by
  unfold trmQ
  rw [trim_mul_co, monQ_mul_co]
  rfl
theorem sdv_Tr (a m : List KF) (ha : TrQ a) : ∀ t, TrQ (sdv a m t).1 ∧ TrQ (sdv a m t).2
  | 0 => ⟨.inl rfl, ha⟩
  | t + 1 => ⟨trimQ_Tr _, trimQ_Tr _⟩
theorem sdv_eq (a m : List KF) (t i : Nat) : co (mulQ (sdv a m t).1 m) i + co (sdv a m t).2 i = co a i := by
  induction t with
  | zero =>
    show co (mulQ [] m) i + co a i = _
    have : co (mulQ [] m) i = 0 := rfl
    rw [this]; grind
  | succ t ih =>
    show co (mulQ (trimQ (addQ (sdv a m t).1 (trmQ m (sdv a m t).2))) m) i + co (trimQ (addQ (sdv a m t).2 ((trimQ (mulQ (trmQ m (sdv a m t).2) m)).map fun c => -c))) i = _
    rw [mulQ_add, trimQ_co, addQ_co, negQ_co, trimQ_co, ← ih]; grind
theorem sdv_lt {a m : List KF} (ha : TrQ a) (hm : TrQ m) (m0 : m ≠ []) {t : Nat} (h : m.length ≤ (sdv a m t).2.length) : (sdv a m (t + 1)).2.length < (sdv a m t).2.length := by
  have hr := (sdv_Tr a m ha t).2
  have lm := List.length_pos_iff.mpr m0
  have hlm := lead_ne hm m0
  refine Nat.lt_of_le_of_lt (len_le (trimQ_Tr _) (n := (sdv a m t).2.length - 1) fun i hi => ?_) (by omega)
  rw [trimQ_co, addQ_co, negQ_co, trimQ_co, trm_co, if_neg (by omega)]
  generalize hrr : (sdv a m t).2 = r at *
  by_cases e : i = r.length - 1
  · subst e
    rw [show r.length - 1 - (r.length - m.length) = m.length - 1 by omega]
    have h2 : KF.sh ((r.length - m.length : Nat) : Rat) (leadQ m) ≠ 0 := KF.sh_ne hlm
    have h3 := Field.mul_inv_cancel h2
    have h4 : leadQ r / KF.sh ((r.length - m.length : Nat) : Rat) (leadQ m) * KF.sh ((r.length - m.length : Nat) : Rat) (leadQ m) = leadQ r := by
      rw [Field.div_eq_mul_inv]; grind
    have h5 : co m (m.length - 1) = leadQ m := rfl
    have h6 : co r (r.length - 1) = leadQ r := rfl
    rw [h5, h6, h4]; grind
  · rw [co_ge (l := r) (by omega), co_ge (l := m) (by omega), KF.sh_zero]; grind
theorem sdv_T {a m : List KF} (ha : TrQ a) (hm : TrQ m) (m0 : m ≠ []) : ∃ T, (∀ t, t < T → m.length ≤ (sdv a m t).2.length) ∧ (sdv a m T).2.length < m.length := by
  have key : ∀ n t, (sdv a m t).2.length ≤ n → (∀ j, j < t → m.length ≤ (sdv a m j).2.length) → ∃ T, (∀ t, t < T → m.length ≤ (sdv a m t).2.length) ∧ (sdv a m T).2.length < m.length := by
    intro n
    have lm := List.length_pos_iff.mpr m0
    induction n with
    | zero => exact fun t h1 h2 => ⟨t, h2, by omega⟩
    | succ n ih =>
      intro t h1 h2
      by_cases h3 : (sdv a m t).2.length < m.length
      · exact ⟨t, h2, h3⟩
      · have h4 := sdv_lt ha hm m0 (t := t) (by omega)
        exact ih (t + 1) (by omega) fun j hj => by
          by_cases e : j = t
          · subst e; omega
          · exact h2 j (by omega)
  exact key _ 0 (Nat.le_refl _) fun j hj => absurd hj (Nat.not_lt_zero _)
theorem sdv_len {a m : List KF} (ha : TrQ a) (hm : TrQ m) (m0 : m ≠ []) {T : Nat} (h : ∀ t, t < T → m.length ≤ (sdv a m t).2.length) : ∀ t, t ≤ T → (sdv a m t).2.length + t ≤ a.length
  | 0, _ => Nat.le_refl _
  | t + 1, ht => by
    have h1 := sdv_len ha hm m0 h t (by omega)
    have h2 := sdv_lt ha hm m0 (h t (by omega))
    omega
/-- the remainder tells the quotient -/
theorem div_uniq {a b q r : List KF} (ha : TrQ a) (hb : TrQ b) (hq : TrQ q) (hr : TrQ r) (b0 : b ≠ []) (e : ∀ i, co (mulQ q b) i + co r i = co (mulQ a b) i) (hl : r.length < b.length) : q = a ∧ r = [] := by
  let d := trimQ (addQ a (q.map fun c => -c))
  have hd : TrQ d := trimQ_Tr _
  have hdr : ∀ i, co (mulQ d b) i = co r i := fun i => by
    show co (mulQ (trimQ (addQ a (q.map fun c => -c))) b) i = _
    rw [mulQ_sub, ← e]; grind
  by_cases d0 : d = []
  · have hz : ∀ i, co a i = co q i := fun i => by
      have : co d i = 0 := by rw [d0]; rfl
      have h2 : co d i = co a i + -co q i := by show co (trimQ _) i = _; rw [trimQ_co, addQ_co, negQ_co]
      rw [h2] at this; grind
    refine ⟨(hq.eq ha fun i => (hz i).symm), hr.eq (.inl rfl) fun i => ?_⟩
    rw [← hdr, d0]; rfl
  · have l := mul_len hd hb d0 b0
    have : (trimQ (mulQ d b)) = r := (trimQ_Tr _).eq hr fun i => by rw [trimQ_co, hdr]
    rw [this] at l
    have := List.length_pos_iff.mpr d0
    omega
end SLT
set_option exponentiation.threshold 256
set_option maxRecDepth 100000
set_option maxHeartbeats 1000000
namespace SL
open PySem PySem.Spec PyProof.Rows L2
abbrev Sd := Int × Int
def HasS (D : Addr) (s : Sd) (H : Hp) : Prop := H D = some (.lst [.int s.1, .int s.2])
theorem HasS.up {D : Addr} {s : Sd} {H H' : Hp} (h : HasS D s H) (e : Same H H') : HasS D s H' := e _ _ h
/-- the list at D, holding s -/
def tSt (D : Addr) (s : Sd) : Ty := tD D [tI s.1, tI s.2]
theorem tSt_iff {D : Addr} {s : Sd} {v : V} {H : Hp} : (tSt D s).p v H ↔ v = .ref D ∧ HasS D s H := by
  constructor
  · rintro ⟨e, xs, h1, h2⟩
    match xs, h2 with
    | [a, b], ⟨ha, hb, _⟩ =>
      cases (show a = .int _ from ha)
      cases (show b = .int _ from hb)
      exact ⟨e, h1⟩
  · rintro ⟨e, h⟩
    exact ⟨e, _, h, rfl, rfl, trivial⟩
section
variable {X : Cx} {Γ Δ : Cxt} {e a b c : Expr} {es : List Expr} {R S U : Ty} {Rs Ss : List Ty} {pos : Pos} {k : Nat} {f C D : Addr} {s s1 s2 s3 : Sd}
def EM (X : Cx) (D : Addr) (s s' : Sd) (Γ : Cxt) (e : Expr) (R : Ty) : Prop := ∀ σ H, OKc Γ σ H → HasS D s H → wE X e σ H fun v H' => SameM [D] H H' ∧ HasS D s' H' ∧ R.p v H'
def TM (X : Cx) (D : Addr) (s s' : Sd) (Γ : Cxt) (e : Expr) (d : Bool) : Prop := ∀ σ H, OKc Γ σ H → HasS D s H → wT X e σ H fun c H' => SameM [D] H H' ∧ HasS D s' H' ∧ c = d
def AM (X : Cx) (D : Addr) (s s' : Sd) (Γ : Cxt) (es : List Expr) (Rs : List Ty) : Prop := ∀ σ H, OKc Γ σ H → HasS D s H → wA X es σ H fun vs H' => SameM [D] H H' ∧ HasS D s' H' ∧ TVs vs Rs H'
theorem EM.use (h : EM X D s s1 Γ e R) (hΓ : StbC [D] Γ) {σ : L2.St} {H : Hp} (ok : OKc Γ σ H) (hs : HasS D s H) {Q : VK} (k : ∀ v H1, SameM [D] H H1 → HasS D s1 H1 → OKc Γ σ H1 → R.p v H1 → Q v H1) : wE X e σ H Q :=
  wE_imp (h σ H ok hs) fun v H1 ⟨m, hs1, r⟩ => k v H1 m hs1 (ok.stb hΓ m) r
theorem TM.use {d : Bool} (h : TM X D s s1 Γ e d) (hΓ : StbC [D] Γ) {σ : L2.St} {H : Hp} (ok : OKc Γ σ H) (hs : HasS D s H) {Q : Bool → Hp → Prop} (k : ∀ H1, SameM [D] H H1 → HasS D s1 H1 → OKc Γ σ H1 → Q d H1) : wT X e σ H Q :=
  wT_imp (h σ H ok hs) fun v H1 ⟨m, hs1, r⟩ => r ▸ k H1 m hs1 (ok.stb hΓ m)
theorem AM.use (h : AM X D s s1 Γ es Rs) (hΓ : StbC [D] Γ) {σ : L2.St} {H : Hp} (ok : OKc Γ σ H) (hs : HasS D s H) {Q : List V → Hp → Prop} (k : ∀ vs H1, SameM [D] H H1 → HasS D s1 H1 → OKc Γ σ H1 → TVs vs Rs H1 → Q vs H1) : wA X es σ H Q :=
  wA_imp (h σ H ok hs) fun v H1 ⟨m, hs1, r⟩ => k v H1 m hs1 (ok.stb hΓ m) r
theorem em_of (h : ET X Γ e R) : EM X D s s Γ e R := fun σ H ok hs => h.use ok fun v H1 sm _ r => ⟨sm.m, hs.up sm, r⟩
theorem EM.imp (h : EM X D s s1 Γ e R) (k : ∀ v H, R.p v H → S.p v H) : EM X D s s1 Γ e S := fun σ H ok hs => wE_imp (h σ H ok hs) fun v H1 ⟨m, hs1, r⟩ => ⟨m, hs1, k v H1 r⟩
theorem EM.cast (h : EM X D s s1 Γ e R) (q : R = S) : EM X D s s1 Γ e S := q ▸ h
theorem am_nil : AM X D s s Γ [] [] := fun σ H _ hs => wA_of pa_nil ⟨SameM.refl H, hs, trivial⟩
theorem am_cons (hΓ : StbC [D] Γ) (h : EM X D s s1 Γ e R) (hR : Stb [D] R) (hr : AM X D s1 s2 Γ es Rs) (hst : starEach (e :: es) X.env = (false, eval e X.env) :: starEach es X.env) : AM X D s s2 Γ (e :: es) (R :: Rs) :=
  fun σ H ok hs => wA_of (pa_cons pe_w pa_w hst) (h.use hΓ ok hs fun v H1 m hs1 ok1 r => hr.use hΓ ok1 hs1 fun vs H2 m2 hs2 _ rs => ⟨m.trans m2, hs2, hR v _ _ m2 r, rs⟩)
theorem am_one (hΓ : StbC [D] Γ) (h : EM X D s s1 Γ e R) (hst : starEach [e] X.env = (false, eval e X.env) :: starEach [] X.env := by rfl) : AM X D s s1 Γ [e] [R] :=
  fun σ H ok hs => wA_of (pa_cons pe_w pa_nil hst) (h.use hΓ ok hs fun v H1 m hs1 ok1 r => ⟨m, hs1, r, trivial⟩)
theorem am_two (hΓ : StbC [D] Γ) (h : EM X D s s1 Γ a R) (hR : Stb [D] R) (h2 : EM X D s1 s2 Γ b S) (hst : starEach [a, b] X.env = (false, eval a X.env) :: starEach [b] X.env := by rfl) (hst2 : starEach [b] X.env = (false, eval b X.env) :: starEach [] X.env := by rfl) : AM X D s s2 Γ [a, b] [R, S] := am_cons hΓ h hR (am_one hΓ h2 hst2) hst
/-- what such a def promises -/
def spM (D : Addr) (s s' : Sd) (Rs : List Ty) (U : Ty) : Sp := fun vs H Q _ => HasS D s H ∧ TVs vs Rs H ∧ ∀ v H', SameM [D] H H' → HasS D s' H' → U.p v H' → Q v H'
theorem em_call (hΓ : StbC [D] Γ) {x : Str} {p : Pos} (F : FnT X.prog X.w X.K X.mg X.base k f (spM D s1 s2 Rs U)) (hr : Room k X.A) (hg : Gl X x) (hm : X.mg x = some (.ref f)) (hk : PySem.W.keepIn X.K (.ref f) = true) (ha : AM X D s s1 Γ (e :: es) Rs)
    (hdb : (x == ("__debug__" : Str)) = false := by rfl) (he : starEach (e :: es) X.env = (false, eval e X.env) :: starEach es X.env := by rfl) (hpl : (backTo pos (starEach es X.env)).any (·.1) = false := by rfl) : EM X D s s2 Γ (.Call (.Name x p) (e :: es) [] pos) U := by
  obtain ⟨fd, ps, ds, dvs, sp', F1, hb, hd, hi⟩ := F
  exact fun σ H ok hs => wE_of (pe_call (E := E0) F1 hr hg hm hk hb hd pass0 pa_w hdb he hpl) (ha.use hΓ ok hs fun vs H1 m hs1 _ rs => hi _ _ _ _ ⟨hs1, rs, fun v H2 m2 hs2 u => ⟨m.trans m2, hs2, u⟩⟩)
theorem em_callT (hΓ : StbC [D] Γ) {x : Str} {p : Pos} (F : FnT X.prog X.w X.K X.mg X.base k f (spT Rs U)) (hr : Room k X.A) (hg : Gl X x) (hm : X.mg x = some (.ref f)) (hk : PySem.W.keepIn X.K (.ref f) = true) (ha : AM X D s s1 Γ (e :: es) Rs)
    (hdb : (x == ("__debug__" : Str)) = false := by rfl) (he : starEach (e :: es) X.env = (false, eval e X.env) :: starEach es X.env := by rfl) (hpl : (backTo pos (starEach es X.env)).any (·.1) = false := by rfl) : EM X D s s1 Γ (.Call (.Name x p) (e :: es) [] pos) U := by
  obtain ⟨fd, ps, ds, dvs, sp', F1, hb, hd, hi⟩ := F
  exact fun σ H ok hs => wE_of (pe_call (E := E0) F1 hr hg hm hk hb hd pass0 pa_w hdb he hpl) (ha.use hΓ ok hs fun vs H1 m hs1 _ rs => hi _ _ _ _ ⟨rs, fun v H2 m2 u => ⟨m.trans m2.m, hs1.up m2, u⟩⟩)
theorem em_callTy (hΓ : StbC [D] Γ) {x : Str} {p : Pos} {T : String} {r : List V → Hp → VK → Prop} (hc : CallR X (.type T) r) (hg : Gl X x) (hm : X.mg x = none) (hv : bootBuiltins x = some (.type T)) (ha : AM X D s s1 Γ (e :: es) Rs) (hr : RnT r Rs U)
    (hn : x ≠ "__name__") (hdb : (x == ("__debug__" : Str)) = false := by rfl) (he : starEach (e :: es) X.env = (false, eval e X.env) :: starEach es X.env := by rfl) (hpl : (backTo pos (starEach es X.env)).any (·.1) = false := by rfl) : EM X D s s1 Γ (.Call (.Name x p) (e :: es) [] pos) U :=
  fun σ H ok hs => wE_of (pe_callTy hc hg hm hv pa_w hn hdb he hpl) (ha.use hΓ ok hs fun vs H1 m hs1 _ rs => hr vs H1 _ rs fun v H2 m2 u => ⟨m.trans m2.m, hs1.up m2, u⟩)
theorem em_make (hΓ : StbC [D] Γ) {x : Str} {p : Pos} (M : Mk X.K C f) (F : FnT X.prog X.w X.K X.mg X.base k f (spMk C Rs U)) (hr : Room (k + 1) X.A) (hg : Gl X x) (hm : X.mg x = some (.ref C)) (ha : AM X D s s1 Γ (e :: es) Rs)
    (hdb : (x == ("__debug__" : Str)) = false := by rfl) (he : starEach (e :: es) X.env = (false, eval e X.env) :: starEach es X.env := by rfl) (hpl : (backTo pos (starEach es X.env)).any (·.1) = false := by rfl) : EM X D s s1 Γ (.Call (.Name x p) (e :: es) [] pos) U := by
  obtain ⟨fd, ps, ds, dvs, sp', F1, hb, hd, hj⟩ := F
  refine fun σ H ok hs => wE_of (pe_make (E := E0) M F1 hr hg hm hb hd pass0 pa_w hdb he hpl) (ha.use hΓ ok hs fun vs H1 m hs1 _ rs => ?_)
  intro x dx hx hdx ne
  exact hj (.ref x :: vs) _ _ _ ⟨x, dx, vs, H1, rfl, rs, upd2_same hx hdx, hx, hdx, ne, by rw [upd_ne ne, upd_same], upd_same, fun H' s' u => ⟨rfl, m.trans s'.m, hs1.up s', u⟩⟩
theorem bin_useM (hΓ : StbC [D] Γ) (ha : EM X D s s1 Γ a R) (hR : Stb [D] R) (hb : EM X D s1 s2 Γ b S) {r : R2} (hr : R2T r R S U) {σ : L2.St} {H : Hp} (ok : OKc Γ σ H) (hs : HasS D s H) {Q : VK} (k : ∀ v H1, SameM [D] H H1 → HasS D s2 H1 → U.p v H1 → Q v H1) :
    tOp r (wE X a) (wE X b) σ H Q :=
  ha.use hΓ ok hs fun x H1 m1 hs1 ok1 rx => hb.use hΓ ok1 hs1 fun y H2 m2 hs2 _ ry => hr x y H2 Q (hR x _ _ m2 rx) ry fun v H3 sm u => k v H3 ((m1.trans m2).trans sm.m) (hs2.up sm) u
theorem em_op (hΓ : StbC [D] Γ) {op : Operator} {r : R2} (ho : OpR X (binaryOp op) r) (ha : EM X D s s1 Γ a R) (hR : Stb [D] R) (hb : EM X D s1 s2 Γ b S) (hr : R2T r R S U) : EM X D s s2 Γ (.BinOp a op b pos) U :=
  fun σ H ok hs => wE_of (pe_op ho pe_w pe_w) (bin_useM hΓ ha hR hb hr ok hs fun _ _ m h u => ⟨m, h, u⟩)
theorem em_cmp (hΓ : StbC [D] Γ) {op : CmpOp} {r : R2} (ho : OpR X (compareOp op) r) (ha : EM X D s s1 Γ a R) (hR : Stb [D] R) (hb : EM X D s1 s2 Γ b S) (hr : R2T r R S U) (hm : behindInMarks op b = false := by rfl) : EM X D s s2 Γ (.Compare a [op] [b] pos) U :=
  fun σ H ok hs => wE_of (pe_cmpR ho pe_w pe_w hm) (bin_useM hΓ ha hR hb hr ok hs fun _ _ m h u => ⟨m, h, u⟩)
theorem tm_cmp (hΓ : StbC [D] Γ) {op : CmpOp} {r : R2} {d : Bool} (ho : OpR X (compareOp op) r) (ha : EM X D s s1 Γ a R) (hR : Stb [D] R) (hb : EM X D s1 s2 Γ b S) (hr : R2T r R S (tB d)) (hm : behindInMarks op b = false := by rfl) : TM X D s s2 Γ (.Compare a [op] [b] pos) d :=
  fun σ H ok hs => wT_of (pt_cmpR ho pe_w pe_w hm) (bin_useM hΓ ha hR hb hr ok hs fun v H1 m h u => ⟨d, u, m, h, rfl⟩)
theorem em_ifT (hΓ : StbC [D] Γ) (h : TM X D s s1 Γ c true) (h1 : EM X D s1 s2 Γ a R) : EM X D s s2 Γ (.IfExp c a b pos) R :=
  fun σ H ok hs => wE_of (pe_ifExp pt_w pe_w pe_w) (h.use hΓ ok hs fun H1 m hs1 ok1 => iteT (h1.use hΓ ok1 hs1 fun v H2 m2 hs2 _ r => ⟨m.trans m2, hs2, r⟩))
theorem em_ifF (hΓ : StbC [D] Γ) (h : TM X D s s1 Γ c false) (h1 : EM X D s1 s2 Γ b R) : EM X D s s2 Γ (.IfExp c a b pos) R :=
  fun σ H ok hs => wE_of (pe_ifExp pt_w pe_w pe_w) (h.use hΓ ok hs fun H1 m hs1 ok1 => iteF (h1.use hΓ ok1 hs1 fun v H2 m2 hs2 _ r => ⟨m.trans m2, hs2, r⟩))
theorem em_cat (hΓ : StbC [D] Γ) (hl : Rs.length + Ss.length ≤ sizeLine) (h1 : EM X D s s1 Γ a (tLn [D] Rs)) (hR : ∀ R ∈ Rs, Stb [D] R) (h2 : EM X D s1 s2 Γ b (tLn [] Ss)) : EM X D s s2 Γ (.BinOp a .Add b pos) (tLn [] (Rs ++ Ss)) := by
  refine fun σ H ok hs => wE_of (pe_op op_cat pe_w pe_w) ?_
  refine h1.use hΓ ok hs fun v H1 m1 hs1 ok1 r1 => h2.use hΓ ok1 hs1 fun u H2 m2 hs2 ok2 r2 => ?_
  obtain ⟨A, xs, e1, _, hx, tx⟩ := stb_Ln hR v _ _ m2 r1
  obtain ⟨E, ys, e2, _, hy, ty⟩ := r2
  exact ⟨A, E, xs, ys, e1, e2, hx, hy, by rw [tx.len, ty.len]; exact hl, fun q hq => ⟨(m1.trans m2).trans (same_new hq).m, hs2.up (same_new hq), q, _, rfl, by simp, upd_same, (tx.app ty).up (same_new hq)⟩⟩
theorem em_disp (h : AM X D s s1 Γ es Rs) (hΓ : StbC [D] Γ) (hl : Rs.length ≤ sizeLine) : EM X D s s1 Γ (.List es pos) (tLn [D] Rs) := fun σ H ok hs => by
  refine wE_of (pe_lst pa_w) (h.use hΓ ok hs fun vs H1 m hs1 _ rs => ⟨by rw [rs.len]; exact hl, fun p hp => ⟨m.trans (same_new hp).m, hs1.up (same_new hp), p, vs, rfl, ?_, upd_same, rs.up (same_new hp)⟩⟩)
  intro z
  rw [List.mem_singleton.mp z] at hp
  have : H1 D = _ := hs1
  rw [hp] at this; cases this
/-- [elt for x in iter], the items change the list -/
theorem EM.blk {scope : Scope} (h : Blks X scope fun Y => EM Y D s s1 Γ e R) {σ : L2.St} {H : Hp} (ok : OKc Γ σ H) (hs : HasS D s H) {Q : VK} (k : ∀ v H1, SameM [D] H H1 → HasS D s1 H1 → R.p v H1 → Q v H1) : wEB X scope e σ H Q :=
  fun s0 H0 C cl fp => wE_imp (h s0 H0 C cl fp σ H ok hs) fun v H1 ⟨m, hs1, r⟩ => k v H1 m hs1 r
theorem em_lc {x : Str} {j n : Nat} {Rf Sf : Nat → Ty} {ss : Nat → Sd} {iter elt : Expr} {scope : Scope} {px : Pos} (hc : X.calm = true) (hN : X.N.Nodup) (hΓ : StbC [D] Γ) (hi : IT_ [D] X Γ (.Name x px) iter n Rf) (ok : BlkOk X.N X.env.scope scope [(x, j)]) (hj : j < Γ.length)
    (hg : Blks X scope fun Y => PG Y (.Name x px) (gName j)) (he : ∀ i, i < n → Blks X scope fun Y => EM Y D (ss i) (ss (i + 1)) (Γ.set j (some (Rf i))) elt (Sf i)) (hsol : ∀ i, i < n → Sol (Sf i)) (hz : n ≤ 1000000) (hs : ∀ x, foldedSetIterable iter X.env x = pure x := by intro _; rfl) :
    EM X D (ss 0) (ss n) Γ (.ListComp elt [⟨.Name x px, iter, [], 0⟩] scope pos) (tLn [D] ((List.range n).map Sf)) := fun σ H o hs0 => by
  obtain ⟨wi, pi, hw⟩ := hi
  refine wE_of (pe_lc (g := gName j) hc hN pi ok hg (fun _ _ _ _ _ => pts_nil) (te := wEB X scope elt) (fun s H0 C cl fp => ⟨fun pins s' σ' H' Q I h => h s H0 C cl fp pins s' I⟩) hs) ?_
  refine hw σ H o _ fun J H1 sm1 ok1 dr => ?_
  intro P hP
  have hs1 := hs0.up sm1
  have hDP : D ≠ P := fun z => by
    have : H1 D = _ := hs1
    rw [z, hP] at this; cases this
  have sD : Same H1 (upd H1 P (.lst [])) := fun b u e => by rw [upd_ne (ne_of_none e hP)]; exact e
  have hPn : H P = none := sm1.free hP
  refine ⟨fun i m H' => m = n - i ∧ i ≤ n ∧ SameM [D] H1 H' ∧ HasS D (ss i) H' ∧ ∃ xs, H' P = some (.lst xs) ∧ TVs xs ((List.range i).map Sf) H', ⟨n, rfl, Nat.zero_le _, sD.m, hs1.up sD, [], upd_same, trivial⟩, ?_⟩
  rintro i m H' ⟨rfl, hl, s', hs', xs, hx, rx⟩
  obtain ⟨d1, d2⟩ := dr H' s'
  by_cases hlt : i < n
  · obtain ⟨g1, g2⟩ := d1 i hlt
    let Nx : Hp → Prop := fun H2 => SameM [D] H1 H2 ∧ HasS D (ss (i + 1)) H2 ∧ ∃ xs, H2 P = some (.lst xs) ∧ TVs xs ((List.range (i + 1)).map Sf) H2
    refine .inr ⟨g1, Nx, fun H2 q => ⟨n - (i + 1), by omega, rfl, hlt, q.1, q.2.1, q.2.2⟩, fun y H2 hy => ?_⟩
    obtain ⟨sm2, r2⟩ := g2 y H2 hy
    have okj : OKc (Γ.set j (some (Rf i))) ((wipe σ [j]).set j (some y)) H2 := set_ok hj ((wipe_ok (ok1.stb hΓ s') [j]).up sm2) r2
    refine ⟨by simp [wipe], ?_⟩
    refine iteT (B := Nx H2) (EM.blk (he i hlt) okj (hs'.up sm2) fun v H5 m5 hs5 rv => ?_)
    have sC : SameM [D] H' H5 := sm2.m.trans m5
    have hx5 : H5 P = some (.lst xs) := by
      rcases sC _ _ hx with z | ⟨z, _⟩
      · exact z
      · exact absurd (List.mem_singleton.mp z).symm hDP
    have st : ∀ S ∈ (List.range i).map Sf, ∀ m, Stb m S := fun S hS m => by
      obtain ⟨q, hq, eq⟩ := List.mem_map.mp hS
      exact eq ▸ hsol q (by have := List.mem_range.mp hq; omega) m
    refine ⟨xs, hx5, ?_, fun b u e => ?_, ?_, xs ++ [v], upd_same, ?_⟩
    · rw [rx.len, List.length_map, List.length_range]
      exact Nat.lt_of_lt_of_le hlt (Nat.le_trans hz (by decide))
    · have ne := ne_of_none e hP
      rw [upd_ne ne]
      exact (s'.trans sC) b u e
    · show upd H5 P _ D = _
      rw [upd_ne hDP]; exact hs5
    · rw [List.range_succ, List.map_append]
      have one : TVs [v] [Sf i] H5 := ⟨rv, trivial⟩
      refine (TVs.app (rx.stb (fun S hS => st S hS _) sC) one).stb (m := [P]) (fun S hS => ?_) (SameM.put hx5 (by simp))
      rcases List.mem_append.mp hS with hm | hm
      · exact st S hm _
      · rw [List.mem_singleton.mp hm]
        exact hsol i hlt _
  · have e : i = n := by omega
    subst e
    exact .inl ⟨d2, sm1.m.trans s', hs', P, xs, rfl, by simpa using fun z => hDP z.symm, hx, rx⟩
/-- the context without the state's value -/
theorem ok_ref {j : Nat} {σ : L2.St} {H : Hp} (ok : OKc Γ σ H) (hj : Γ[j]? = some (some (tSt D s))) : OKc (Γ.set j (some (tV (.ref D)))) σ H ∧ HasS D s H := by
  obtain ⟨v, h1, h2⟩ := ok.2 j _ hj
  rw [tSt_iff] at h2
  refine ⟨⟨by rw [List.length_set]; exact ok.1, fun i R hi => ?_⟩, h2.2⟩
  by_cases e : j = i
  · subst e
    rw [List.getElem?_set_self (List.getElem?_eq_some_iff.mp hj).1] at hi
    cases hi
    exact ⟨v, h1, h2.1⟩
  · rw [List.getElem?_set_ne e] at hi
    exact ok.2 i R hi
theorem ok_st {j : Nat} {σ : L2.St} {H : Hp} (ok : OKc (Γ.set j (some (tV (.ref D)))) σ H) (hj : j < Γ.length) (hs : HasS D s H) : OKc (Γ.set j (some (tSt D s))) σ H := by
  refine ⟨by have := ok.1; rw [List.length_set] at this ⊢; exact this, fun i R hi => ?_⟩
  by_cases e : j = i
  · subst e
    rw [List.getElem?_set_self hj] at hi
    cases hi
    obtain ⟨v, h1, h2⟩ := ok.2 j (tV (.ref D)) (List.getElem?_set_self hj)
    exact ⟨v, h1, tSt_iff.mpr ⟨h2, hs⟩⟩
  · rw [List.getElem?_set_ne e] at hi
    exact ok.2 i R (by rw [List.getElem?_set_ne e]; exact hi)
/-- a value and the list behind it -/
def tAnd (U : Ty) (D : Addr) (s : Sd) : Ty := ⟨fun v H => U.p v H ∧ HasS D s H, fun e ⟨h1, h2⟩ => ⟨U.mono e h1, h2.up e⟩⟩
theorem st_retM {j : Nat} {t : Tg} (hj : Γ[j]? = some (some (tSt D s))) (he : EM X D s s1 (Γ.set j (some (tV (.ref D)))) e R) (hmu : D ∈ t.mu) (h : t.rt = some (tAnd R D s1)) : ST X Γ (.Return (some e) pos) t := fun σ H E ok te => by
  obtain ⟨ok1, hs⟩ := ok_ref ok hj
  exact wS_of (ps_ret pe_w) (wE_imp (he σ H ok1 hs) fun v H1 ⟨m, hs1, r⟩ => te.rt _ h v H1 (m.mono fun a ha => by rw [List.mem_singleton.mp ha]; exact hmu) ⟨r, hs1⟩)
theorem st_setM {i j : Nat} {x : Str} {pos' : Pos} {t : Tg} (hj : Γ[j]? = some (some (tSt D s))) (hΓ : StbC [D] (Γ.set j (some (tV (.ref D))))) (hN : X.N.Nodup) (hi : X.N[i]? = some x) (hx : Loc X.env.scope x) (he : EM X D s s1 (Γ.set j (some (tV (.ref D)))) e R) (hmu : D ∈ t.mu) (h : t.nx = some Δ) (hΔ : Sub ((Γ.set j (some (tSt D s1))).set i (some R)) Δ)
    (hf : X.fn x = true ∨ X.env.scope.names.lookup x = some .local) (hs : swapsWith e (some (.Name x pos')) pos.line X.env = pure false := by rfl) : ST X Γ (.Assign [.Name x pos'] e pos) t := fun σ H E ok te => by
  obtain ⟨ok1, hs0⟩ := ok_ref ok hj
  exact wS_of (ps_set hN hi hx pe_w hs hf) (he.use hΓ ok1 hs0 fun v H1 m hs1 ok2 r => te.nx Δ h _ H1 (m.mono fun a ha => by rw [List.mem_singleton.mp ha]; exact hmu) (((ok_st ok2 (List.getElem?_eq_some_iff.mp hj).1 hs1).put i r).sub hΔ))
theorem st_parM {i l j : Nat} {x y : Str} {px py pt : Pos} {kt k2 pt2} {t : Tg} (hj : Γ[j]? = some (some (tSt D s))) (hΓ : StbC [D] (Γ.set j (some (tV (.ref D))))) (hc : X.calm = true) (hN : X.N.Nodup) (hi : X.N[i]? = some x) (hl : X.N[l]? = some y) (hil : i ≠ l)
    (hx : X.env.scope.names.lookup x = some .local) (hy : X.env.scope.names.lookup y = some .local) (ha : AM X D s s1 (Γ.set j (some (tV (.ref D)))) [a, b] [R, S]) (hmu : D ∈ t.mu) (h : t.nx = some Δ) (hΔ : Sub (((Γ.set j (some (tSt D s1))).set i (some R)).set l (some S)) Δ)
    (hw : swappedStores [.Tuple [.Name x px, .Name y py] kt pt] (.Tuple [a, b] k2 pt2) X.env = pure (some [x, y]) := by rfl)
    (hs : swapsWithSole [.Tuple [.Name x px, .Name y py] kt pt] (.Tuple [a, b] k2 pt2) pos.line X.env = pure false := by rfl) : ST X Γ (.Assign [.Tuple [.Name x px, .Name y py] kt pt] (.Tuple [a, b] k2 pt2) pos) t := fun σ H E ok te => by
  obtain ⟨ok1, hs0⟩ := ok_ref ok hj
  exact wS_of (ps_par hc hN hi hl hil hx hy pa_w hw hs) (ha.use hΓ ok1 hs0 fun vs H1 m hs1 ok2 rs => by
    match vs, rs with
    | [v, w], ⟨r1, r2, _⟩ => exact ⟨v, w, rfl, te.nx Δ h _ H1 (m.mono fun a ha => by rw [List.mem_singleton.mp ha]; exact hmu) ((((ok_st ok2 (List.getElem?_eq_some_iff.mp hj).1 hs1).put i r1).put l r2).sub hΔ)⟩)
end
section
variable {P : Program} {w : World} {K : PySem.W.Frag} {mg : Str → Option Value} {base : Heap} {k : Nat} {f : Addr} {fd : FuncData} {N ps : List Str} {Rs : List Ty} {U : Ty}
  {x qual : Str} {params : Arguments} {body : List Stmt} {scope : Scope} {dvs : List V} {kws : List (Str × V)} {D : Addr} {s s' : Sd}
theorem tvs_st {vs : List V} {H : Hp} (h : TVs vs (tV (.ref D) :: Rs) H) (hs : HasS D s H) : TVs vs (tSt D s :: Rs) H := by
  match vs, h with
  | v :: vs, ⟨h1, h2⟩ => exact ⟨tSt_iff.mpr ⟨h1, hs⟩, h2⟩
/-- a def that changes the list, its first argument, and returns -/
theorem fn_retM (F : FunD K x qual params body scope dvs kws f fd) (S : FnScope N ps scope) (hl : Rs.length + 1 = ps.length)
    (h : ∀ cdv A outer s0 H, Room k (A.deeper (envOfC qual scope s0.heap.objs.size f cdv)) → BT (BodyCx P w K mg base N qual scope f cdv A outer s0 H) (ini N (tSt D s :: Rs)) body { rt := some (tAnd U D s'), mu := [D] }) :
    FnOk P w K mg base CX0 (k + 1) f fd ps (spM D s s' (tV (.ref D) :: Rs) U) := by
  refine F.ok S (fun vs H Q E q => q.2.1.len.trans hl) (fun cdv A outer s0 H vs Q E hr q => ?_)
  refine ⟨wB (BodyCx P w K mg base N qual scope f cdv A outer s0 H) body, PSs.nox pb_w, ?_⟩
  exact h cdv A outer s0 H hr _ H _ (ini_ok (tvs_st q.2.1 q.1)) ⟨endC_none, fun R e v H' s' r => by cases e; exact q.2.2 v H' s' r.2 r.1, endC_none, endC_none⟩
end
def spN (Rs Ss : List Ty) : Sp := fun vs H Q _ => TVs vs Rs H ∧ ∀ A H', Same H H' → H A = none → (tD A Ss).p (.ref A) H' → Q (.ref A) H'
theorem ef_callN {X : Cx} {Γ : Cxt} {e : Expr} {es : List Expr} {Rs Ss : List Ty} {pos : Pos} {k : Nat} {f : Addr} {x : Str} {p : Pos} (F : FnT X.prog X.w X.K X.mg X.base k f (spN Rs Ss)) (hr : Room k X.A) (hg : Gl X x) (hm : X.mg x = some (.ref f)) (hk : PySem.W.keepIn X.K (.ref f) = true) (ha : AT X Γ (e :: es) Rs)
    (hdb : (x == ("__debug__" : Str)) = false := by rfl) (he : starEach (e :: es) X.env = (false, eval e X.env) :: starEach es X.env := by rfl) (hpl : (backTo pos (starEach es X.env)).any (·.1) = false := by rfl) : EF X Γ (.Call (.Name x p) (e :: es) [] pos) Ss := by
  obtain ⟨fd, ps, ds, dvs, sp', F1, hb, hd, hi⟩ := F
  exact fun σ H ok => wE_of (pe_call (E := E0) F1 hr hg hm hk hb hd pass0 pa_w hdb he hpl) (ha.use ok fun vs H1 sm _ rs => hi _ _ _ _ ⟨rs, fun A H2 sm2 n d => ⟨sm.trans sm2, A, rfl, sm.free n, d⟩⟩)
/-- what is known since H0 -/
def tSince (H0 : Hp) (R : Ty) : Ty := ⟨fun v H => R.p v H ∧ Same H0 H, fun e ⟨h1, h2⟩ => ⟨R.mono e h1, h2.trans e⟩⟩
def tNew (H0 : Hp) (Ss : List Ty) : Ty := ⟨fun v H => ∃ A, v = .ref A ∧ H0 A = none ∧ (tD A Ss).p v H, fun e ⟨A, h1, h2, h3⟩ => ⟨A, h1, h2, (tD A Ss).mono e h3⟩⟩
theorem st_retN {X : Cx} {Γ : Cxt} {e : Expr} {R : Ty} {Ss : List Ty} {pos : Pos} {H0 : Hp} {i : Nat} {t : Tg} (hi : Γ[i]? = some (some (tSince H0 R))) (he : EF X Γ e Ss) (h : t.rt = some (tNew H0 Ss)) : ST X Γ (.Return (some e) pos) t := fun σ H E ok te =>
  wS_of (ps_ret pe_w) (wE_imp (he σ H ok) fun v H1 ⟨sm, A, ev, n, d⟩ => te.rt _ h v H1 sm.m ⟨A, ev, by
    obtain ⟨u, _, hu⟩ := ok.2 i _ hi
    exact hu.2.free n, d⟩)
section
variable {P : Program} {w : World} {K : PySem.W.Frag} {mg : Str → Option Value} {base : Heap} {k : Nat} {f : Addr} {fd : FuncData} {N ps : List Str} {R : Ty} {Ss : List Ty}
  {x qual : Str} {params : Arguments} {body : List Stmt} {scope : Scope} {dvs : List V} {kws : List (Str × V)}
theorem fn_retN (F : FunD K x qual params body scope dvs kws f fd) (S : FnScope N ps scope) (hl : 1 = ps.length)
    (h : ∀ cdv A outer s0 H, Room k (A.deeper (envOfC qual scope s0.heap.objs.size f cdv)) → BT (BodyCx P w K mg base N qual scope f cdv A outer s0 H) (ini N [tSince H R]) body { rt := some (tNew H Ss) }) :
    FnOk P w K mg base CX0 (k + 1) f fd ps (spN [R] Ss) := by
  refine F.ok S (fun vs H Q E q => q.1.len.trans hl) (fun cdv A outer s0 H vs Q E hr q => ?_)
  refine ⟨wB (BodyCx P w K mg base N qual scope f cdv A outer s0 H) body, PSs.nox pb_w, ?_⟩
  have hv : TVs vs [tSince H R] H := by
    match vs, q.1 with
    | [v], ⟨h1, _⟩ => exact ⟨⟨h1, Same.refl H⟩, trivial⟩
  exact h cdv A outer s0 H hr _ H _ (ini_ok hv) ⟨endC_none, fun R e v H' s' r => by
    cases e
    obtain ⟨A, e1, e2, e3⟩ := r
    subst e1
    exact q.2 A H' s'.nil e2 e3, endC_none, endC_none⟩
end
end SL
set_option maxRecDepth 100000
set_option maxHeartbeats 1000000
set_option exponentiation.threshold 100
namespace SLT
open PySem PySem.Spec PyProof.Rows L2 SL SW
/-- the second number stays small -/
def SOk (s : Sd) : Prop := s.2.natAbs < 2 ^ 40
def takeV (s : Sd) (m : Int) : Int := if 0 < s.1 then s.1 % m else (((s.2 * 48271 + 11) % 2147483647).fdiv 7) % m
def takeS (s : Sd) (m : Int) : Sd := if 0 < s.1 then (s.1.fdiv m, s.2) else (s.1, (s.2 * 48271 + 11) % 2147483647)
theorem takeS_ok {s : Sd} (h : SOk s) (m : Int) : SOk (takeS s m) := by
  unfold takeS SOk
  split
  · exact h
  · show ((s.2 * 48271 + 11) % 2147483647).natAbs < 2 ^ 40
    have h1 := Int.emod_nonneg (s.2 * 48271 + 11) (by decide : (2147483647 : Int) ≠ 0)
    have h2 := Int.emod_lt_of_pos (s.2 * 48271 + 11) (by decide : (0 : Int) < 2147483647)
    have : (2 : Nat) ^ 40 = 1099511627776 := by decide
    omega
theorem takeV_lt (s : Sd) {m : Int} (hm : 0 < m) : 0 ≤ takeV s m ∧ takeV s m < m := by
  unfold takeV
  split
  · exact ⟨Int.emod_nonneg _ (by omega), Int.emod_lt_of_pos _ hm⟩
  · exact ⟨Int.emod_nonneg _ (by omega), Int.emod_lt_of_pos _ hm⟩
section
variable {P : Program} {w : World} {K : PySem.W.Frag} {mg : Str → Option Value} {base : Heap} {k : Nat}
theorem w_take (B : Bs P K mg) (D : Addr) (s : Sd) (m : Int) (hs : SOk s) (hm : 0 < m) : FnT P w K mg base 36 (fTop K "_law_take") (spM D s (takeS s m) [tV (.ref D), tI m] (tI (takeV s m))) := by
  obtain ⟨fd', DD⟩ := B.F.d_law_take
  refine fnT_of (fn_retM DD sc_law_take rfl fun cdv A outer sh H hr => ?_) (bi_law_take DD)
  let Y := BodyCx P w K mg base N_law_take d_law_take.qual d_law_take.scope (fTop K "_law_take") cdv A outer sh H
  have g0 : ∀ {Γ : Cxt} {i j : Int} {pos p1 p2 k0}, Γ[0]? = some (some (tD D [tI i, tI j])) → ET Y Γ (.Subscript (.Name "state" p1) (.Constant (.int 0) k0 p2) pos) (tI i) := fun {Γ i j pos p1 p2 k0} h => et_ixL (Rs := [tI i, tI j]) 0 rfl rfl (ET.imp (vr 0 rfl rfl h rfl rfl) tD_L) et_int
  have g1 : ∀ {Γ : Cxt} {i j : Int} {pos p1 p2 k0}, Γ[0]? = some (some (tD D [tI i, tI j])) → ET Y Γ (.Subscript (.Name "state" p1) (.Constant (.int 1) k0 p2) pos) (tI j) := fun {Γ i j pos p1 p2 k0} h => et_ixL (Rs := [tI i, tI j]) 1 rfl rfl (ET.imp (vr 0 rfl rfl h rfl rfl) tD_L) et_int
  have hst : ∀ S ∈ ([tI s.1, tI s.2] : List Ty), Stb [D] S := fun S hS => by
    simp at hS
    rcases hS with h | h <;> subst h <;> exact sol_I _
  have fin : ∀ {v : Int} {s' : Sd} (v0 : V) (H0 : Hp), (tD D [tI s'.1, tI s'.2]).p v0 H0 → HasS D s' H0 := fun v0 H0 h => (tSt_iff.mp h).2
  by_cases h0 : 0 < s.1
  · have eV : takeV s m = s.1 % m := by unfold takeV; rw [if_pos h0]
    have eS : takeS s m = (s.1.fdiv m, s.2) := by unfold takeS; rw [if_pos h0]
    rw [eV, eS]
    refine bt_end (st_ifT (tt_cast (tt_gt (g0 rfl) et_int rfl) (decide_eq_true h0)) ?_)
    refine bt_cons (Δ := [some (tSt D s), some (tI m), some (tI (s.1 % m))]) (st_set (i := 2) sc_law_take.nd rfl (.inl rfl) (et_modP hm (et_int_ rfl B.F.b_int (g0 rfl)) (vr 1 rfl rfl rfl rfl rfl)) rfl (Sub.refl _) rfl (.inl rfl)) ?_
    refine bt_cons (Δ := [some (tSt D (s.1.fdiv m, s.2)), some (tI m), some (tI (s.1 % m))]) (st_setI (D := D) (Rs := [tI s.1, tI s.2]) (j := 0) (n := 0) rfl (by simp) (fd B sc_law_take (hr.mono (by omega)) (by omega) (g0 rfl) (vr 1 rfl rfl rfl rfl rfl)) (vr 0 rfl rfl rfl rfl rfl) et_int (List.mem_singleton.mpr rfl) (stbx_0 (stbc_s (sol_I _) (stbc_s (sol_I _) stbc_nil))) rfl (sol_I _) hst rfl (Sub.refl _)) ?_
    refine bt_last (fun σ H1 E ok te => ?_)
    obtain ⟨ok1, hs1⟩ := ok_ref ok (j := 0) (s := (s.1.fdiv m, s.2)) (D := D) rfl
    exact wS_of (ps_ret pe_w) ((vr (Γ := [some (tSt D (s.1.fdiv m, s.2)), some (tI m), some (tI (s.1 % m))]) 2 rfl rfl rfl rfl rfl : ET Y _ _ (tI (s.1 % m))).use ok fun v H2 s2 ok2 r => te.rt _ rfl v H2 s2.m ⟨r, hs1.up s2⟩)
  · have eV : takeV s m = (((s.2 * 48271 + 11) % 2147483647).fdiv 7) % m := by unfold takeV; rw [if_neg h0]
    have eS : takeS s m = (s.1, (s.2 * 48271 + 11) % 2147483647) := by unfold takeS; rw [if_neg h0]
    rw [eV, eS]
    refine bt_cons (Δ := ini N_law_take [tSt D s, tI m]) (st_ifF (tt_cast (tt_gt (g0 rfl) et_int rfl) (decide_eq_false h0)) (bt_nil rfl (Sub.refl _))) ?_
    have hc : CMulB s.2 48271 := CMulB.of (a := 40) (b := 17) hs (by decide) (by decide) (by decide) (by decide)
    refine bt_cons (Δ := [some (tSt D (s.1, (s.2 * 48271 + 11) % 2147483647)), some (tI m), none]) (st_setI (D := D) (Rs := [tI s.1, tI s.2]) (j := 0) (n := 1) rfl (by simp) (et_modP (by decide) (et_int_ rfl B.F.b_int (et_add (et_mul hc (g1 rfl) et_int) et_int)) et_int) (vr 0 rfl rfl rfl rfl rfl) et_int (List.mem_singleton.mpr rfl) (stbx_0 (stbc_s (sol_I _) (stbc_n stbc_nil))) rfl (sol_I _) hst rfl (Sub.refl _)) ?_
    refine bt_last (fun σ H1 E ok te => ?_)
    obtain ⟨ok1, hs1⟩ := ok_ref ok (j := 0) (s := (s.1, (s.2 * 48271 + 11) % 2147483647)) (D := D) rfl
    exact wS_of (ps_ret pe_w) ((et_modP (Γ := [some (tSt D (s.1, (s.2 * 48271 + 11) % 2147483647)), some (tI m), none]) hm (et_int_ rfl B.F.b_int (fd B sc_law_take (hr.mono (by omega)) (by decide) (g1 rfl) et_int)) (vr 1 rfl rfl rfl rfl rfl) : ET Y _ _ (tI _)).use ok fun v H2 s2 ok2 r => te.rt _ rfl v H2 s2.m ⟨r, hs1.up s2⟩)
def qV (s : Sd) : Rat := Rat.divInt (takeV s 9 - 4) (1 + if takeV (takeS s 9) 4 = 0 then 1 else 0)
def qS (s : Sd) : Sd := takeS (takeS s 9) 4
def iter {α : Type} (f : α → α) (a : α) : Nat → α
  | 0 => a
  | n + 1 => f (iter f a n)
theorem iter_ok {f : Sd → Sd} (hf : ∀ s, SOk s → SOk (f s)) {s : Sd} (h : SOk s) : ∀ n, SOk (iter f s n)
  | 0 => h
  | n + 1 => hf _ (iter_ok hf h n)
theorem qS_ok {s : Sd} (h : SOk s) : SOk (qS s) := takeS_ok (takeS_ok h 9) 4
section
variable {X : Cx} {Γ : Cxt} {e a b : Expr} {pos p1 p2 : Pos} {D : Addr} {s : Sd}
theorem em_take (B : Bs X.prog X.K X.mg) (hΓ : StbC [D] Γ) (hr : Room 36 X.A) (hg : Gl X "_law_take") (hs : SOk s) {m : Int} (hm : 0 < m) (hb : ET X Γ b (tI m)) (ha : ET X Γ a (tV (.ref D)))
    (h1 : starEach [a, b] X.env = (false, eval a X.env) :: starEach [b] X.env := by rfl) (h2 : starEach [b] X.env = (false, eval b X.env) :: starEach [] X.env := by rfl) (h3 : (backTo pos (starEach [b] X.env)).any (·.1) = false := by rfl) :
    EM X D s (takeS s m) Γ (.Call (.Name "_law_take" p1) [a, b] [] pos) (tI (takeV s m)) :=
  em_call hΓ (w_take B D s m hs hm) hr hg B.F.g_law_take B.F.k_law_take (am_two hΓ (em_of ha) (sol_V _) (em_of hb) h1 h2) rfl h1 h3
end
theorem w_law_q (B : Bs P K mg) (D : Addr) (s : Sd) (hs : SOk s) : FnT P w K mg base 40 (fTop K "_law_q") (spM D s (qS s) [tV (.ref D)] (tQ K (qV s))) := by
  obtain ⟨fd', DD⟩ := B.F.d_law_q
  refine fnT_of (fn_retM DD sc_law_q rfl fun cdv A outer sh H hr => ?_) (bi_law_q DD)
  have hΓ : StbC [D] ((ini N_law_q [tSt D s]).set 0 (some (tV (.ref D)))) := stbc_s (sol_V _) stbc_nil
  refine bt_last (st_retM (j := 0) rfl (em_make hΓ B.F.mk_Ratio (mkQ2 B _ _ ?_) (hr.mono (by omega)) rfl B.F.g_Ratio (am_two hΓ
    (em_op hΓ op_sub (em_take B hΓ (hr.mono (by omega)) (by exact rfl) hs (by decide) et_int (vr 0 rfl rfl rfl rfl rfl)) (sol_I _) (em_of et_int) (r_I0 (g := fun i j => i - j))) (sol_I _)
    (em_op hΓ op_add (em_of et_int) (sol_I _) (em_callTy hΓ (r := rInt1) call_int1 rfl B.F.b_int rfl (am_one hΓ (em_cmp hΓ op_eq (em_take B hΓ (hr.mono (by omega)) (by exact rfl) (takeS_ok hs 9) (by decide) et_int (vr 0 rfl rfl rfl rfl rfl)) (sol_I _) (em_of et_int) r_eqI)) r_intB (by decide)) (r_I0 (g := fun i j => i + j))))) (List.mem_singleton.mpr rfl) ?_)
  · split <;> decide
  · unfold qV qS
    simp only [decide_eq_true_eq]
def polV (s : Sd) (n : Nat) : Cf := (List.range n).map fun i => qV (iter qS s i)
theorem qs_pol (s : Sd) (n : Nat) : (List.range n).map (fun i => tQ K (qV (iter qS s i))) = tQs K (polV s n) := by unfold tQs polV; rw [List.map_map]; rfl
theorem w_law_pol (B : Bs P K mg) (D : Addr) (s : Sd) (hs : SOk s) (n : Nat) (hn : n ≤ 100) : FnT P w K mg base 42 (fTop K "_law_pol") (spM D s (iter qS s n) [tV (.ref D), tI (n : Nat)] (tP K (trim (polV s n)))) := by
  obtain ⟨fd', DD⟩ := B.F.d_law_pol
  refine fnT_of (fn_retM DD sc_law_pol rfl fun cdv A outer sh H hr => ?_) (bi_law_pol DD)
  have hΓ : StbC [D] ((ini N_law_pol [tSt D s, tI (n : Nat)]).set 0 (some (tV (.ref D)))) := stbc_s (sol_V _) (stbc_s (sol_I _) (stbc_n stbc_nil))
  refine bt_last (st_retM (j := 0) (s1 := iter qS s n) rfl (em_make hΓ B.F.mk_Poly (mkP_L B (polV s n) (by simp [polV]; omega)) (hr.mono (by omega)) rfl B.F.g_Poly (am_one hΓ (EM.imp (em_lc (ss := iter qS s) (Rf := fun i => tI (i : Nat)) (Sf := fun i => tQ K (qV (iter qS s i))) (j := 2) (n := n) rfl sc_law_pol.nd hΓ (it_rangeN rfl B.F.b_range (vr 1 rfl rfl rfl rfl rfl) rfl (by omega)) (blkOk_by (N := N_law_pol) (sc := d_law_pol.scope) (by decide +kernel)) (by show 2 < 3; decide) (pgB sc_law_pol.nd rfl fun _ _ => rfl)
    (fun i hi s2 H2 C2 cl fp => ?_) (fun i hi => sol_Q) (by omega)) fun v H h => ?_))) (List.mem_singleton.mpr rfl) rfl)
  · have hΓ2 : StbC [D] (((ini N_law_pol [tSt D s, tI (n : Nat)]).set 0 (some (tV (.ref D)))).set 2 (some (tI (i : Nat)))) := stbc_s (sol_V _) (stbc_s (sol_I _) (stbc_s (sol_I _) stbc_nil))
    exact em_call hΓ2 (w_law_q B D _ (iter_ok (fun _ h => qS_ok h) hs i)) (hr.mono (by omega)) rfl B.F.g_law_q B.F.k_law_q (am_one hΓ2 (em_of (vc 0 rfl rfl rfl rfl rfl))) rfl
  · rw [qs_pol] at h
    exact tLQ_M v H (tLn_un (fun a h => by cases h) v H h)
end
end SLT
set_option maxRecDepth 100000
set_option maxHeartbeats 1000000
set_option exponentiation.threshold 100
namespace SLT
open PySem PySem.Spec PyProof.Rows L2 SL SW
theorem qV_2 (s : Sd) : Ib 8 (qV s * ((2 : Nat) : Rat)) := by
  have h1 := takeV_lt s (m := 9) (by decide)
  unfold qV
  by_cases h : takeV (takeS s 9) 4 = 0
  · rw [if_pos h]
    refine ⟨takeV s 9 - 4, ?_, by omega⟩
    rw [Rat.divInt_eq_div]
    have : ((1 + 1 : Int) : Rat) = ((2 : Nat) : Rat) := rfl
    rw [this]
    exact Rat.div_mul_cancel (by decide)
  · rw [if_neg h]
    refine ⟨(takeV s 9 - 4) * 2, ?_, by omega⟩
    rw [Rat.divInt_eq_div, Rat.intCast_mul]
    have : ((1 + 0 : Int) : Rat) = 1 := rfl
    rw [this, Rat.div_def]
    have : (1 : Rat)⁻¹ = 1 := by grind
    rw [this, Rat.mul_one]; rfl
def denS (s : Sd) : Sd := if 0 < takeV s 3 then takeS s 3 else qS (takeS s 3)
def denV (s : Sd) : Pol := if 0 < takeV s 3 then Pol.C 1 else Pol.of [-qV (takeS s 3), 1]
def numN (s : Sd) : Nat := (1 + takeV (denS s) 3).toNat
def numV (s : Sd) : Pol := Pol.of (polV (takeS (denS s) 3) (numN s))
def funS (s : Sd) : Sd := iter qS (takeS (denS s) 3) (numN s)
theorem line_ne (q : Rat) : Pol.of [q, 1] ≠ 0 := fun z => by
  have := congrArg (fun p => Pol.co p 1) z
  simp only [Pol.co_of, Pol.co_zero] at this
  exact absurd this (by simp)
theorem denV_ne (s : Sd) : denV s ≠ 0 := by
  unfold denV
  split
  · rw [Pol.C_one]; exact Pol.one_ne
  · exact line_ne _
def funV (s : Sd) : KF := KF.mk (numV s) (denV s) (denV_ne s)
noncomputable def otherV (s : Sd) : KF := if funV s = 0 then 1 else funV s
theorem denS_ok {s : Sd} (h : SOk s) : SOk (denS s) := by
  unfold denS
  split
  · exact takeS_ok h 3
  · exact qS_ok (takeS_ok h 3)
theorem funS_ok {s : Sd} (h : SOk s) : SOk (funS s) := iter_ok (fun _ h => qS_ok h) (takeS_ok (denS_ok h) 3) _
theorem numN_le (s : Sd) : numN s ≤ 3 ∧ ((numN s : Nat) : Int) = 1 + takeV (denS s) 3 := by
  have := takeV_lt (denS s) (m := 3) (by decide)
  unfold numN
  omega
theorem C1_ne : Pol.C 1 ≠ 0 := by rw [Pol.C_one]; exact Pol.one_ne
theorem one_kf : (1 : KF) = KF.mk (Pol.C 1) (Pol.C 1) C1_ne := KF.eq_iff.mpr (by rw [Pol.C_one])
theorem kf_ne : (1 : KF) ≠ 0 := fun h => Lean.Grind.Field.zero_ne_one h.symm
theorem otherV_ne (s : Sd) : otherV s ≠ 0 := by
  unfold otherV
  split
  · exact kf_ne
  · assumption
theorem numV_H (s : Sd) : Hq 2 (2 ^ 3) (numV s) ∧ (numV s).len ≤ 3 := by
  have hn := (numN_le s).1
  refine ⟨fun i => ?_, Nat.le_trans (Pol.len_of_le _) (by simp [polV]; exact hn)⟩
  unfold numV
  rw [Pol.co_of]
  unfold polV
  rw [List.getD_eq_getElem?_getD, List.getElem?_map]
  by_cases h : i < numN s
  · rw [List.getElem?_range h]; exact qV_2 _
  · rw [List.getElem?_eq_none (by simpa using h)]
    show Ib _ ((0 : Rat) * _)
    rw [Rat.zero_mul]; exact Ib.zero
theorem denV_H (s : Sd) : Hq 2 (2 ^ 3) (denV s) ∧ (denV s).len ≤ 2 := by
  unfold denV
  split
  · refine ⟨fun i => ?_, Nat.le_trans (Pol.len_of_le [1]) (by decide)⟩
    rw [Pol.co_C]
    split
    · exact ⟨2, by simp, by decide⟩
    · rw [Rat.zero_mul]; exact Ib.zero
  · refine ⟨fun i => ?_, Nat.le_trans (Pol.len_of_le _) (by simp)⟩
    rw [Pol.co_of]
    match i with
    | 0 =>
      have := (qV_2 (takeS s 3)).neg
      show Ib 8 (-qV (takeS s 3) * _)
      rwa [Rat.neg_mul]
    | 1 => exact ⟨2, by simp, by decide⟩
    | i + 2 => simp; exact Ib.zero
theorem Hq.two {p : Pol} (h : Hq 2 (2 ^ 3) p) : Hq 1 (2 ^ 3) (Pol.C 2 * p) := fun i => by
  have := h i
  rw [Pol.co_Cmul]
  have e : (2 : Rat) * p.co i * ((1 : Nat) : Rat) = p.co i * ((2 : Nat) : Rat) := by
    rw [show ((1 : Nat) : Rat) = 1 from rfl, show ((2 : Nat) : Rat) = 2 from rfl]; grind
  rw [e]; exact this
theorem C2_ne : Pol.C 2 ≠ 0 := fun z => by
  have := congrArg (fun p => Pol.co p 0) z
  simp only [Pol.co_C, Pol.co_zero] at this
  exact absurd this (by decide)
/-- a drawn function: at most three coefficients above, two below, below 8 -/
theorem fun_H (s : Sd) : ∃ N D : Pol, Hq 1 (2 ^ 3) N ∧ Hq 1 (2 ^ 3) D ∧ N.len ≤ 3 ∧ D.len ≤ 2 ∧ ∃ hD, funV s = KF.mk N D hD := by
  refine ⟨Pol.C 2 * numV s, Pol.C 2 * denV s, Hq.two (numV_H s).1, Hq.two (denV_H s).1, Nat.le_trans (Pol.len_Cmul_le _ _) (numV_H s).2, Nat.le_trans (Pol.len_Cmul_le _ _) (denV_H s).2, Pol.mul_ne C2_ne (denV_ne s), KF.eq_iff.mpr ?_⟩
  show numV s * (Pol.C 2 * denV s) = Pol.C 2 * numV s * denV s
  grind
theorem Hq_C1 {h : Nat} : Hq 1 (2 ^ h) (Pol.C 1) := Hq_C 1 Nat.one_le_two_pow
theorem other_H (s : Sd) : ∃ N D : Pol, Hq 1 (2 ^ 3) N ∧ Hq 1 (2 ^ 3) D ∧ N.len ≤ 3 ∧ D.len ≤ 2 ∧ ∃ hD, otherV s = KF.mk N D hD := by
  unfold otherV
  split
  · exact ⟨Pol.C 1, Pol.C 1, Hq_C1, Hq_C1, Nat.le_trans (Pol.len_of_le [1]) (by decide), Nat.le_trans (Pol.len_of_le [1]) (by decide), C1_ne, one_kf⟩
  · exact fun_H s
theorem fun_Rp (s : Sd) : Rp 3 3 (funV s) := by
  obtain ⟨N, D, a, b, c, d, e, f⟩ := fun_H s
  exact ⟨N, D, a, b, c, by omega, e, f⟩
theorem other_Rp (s : Sd) : Rp 3 3 (otherV s) := by
  obtain ⟨N, D, a, b, c, d, e, f⟩ := other_H s
  exact ⟨N, D, a, b, c, by omega, e, f⟩
theorem fun_rf (s : Sd) : RfR (numV s) (denV s) (frK (funV s)) := by
  have h8 : (2 : Nat) ≤ 2 ^ 4550 := Nat.le_trans (by decide : 2 ≤ 2 ^ 1) (Nat.pow_le_pow_right (by decide) (by decide))
  refine rfRK (N := numV s) (D := denV s) (LN := 2) (LD := 2) (denV_ne s) rfl ((fun_Rp s).mono (by decide) (by decide)) (by decide) (by decide) h8 h8 ((numV_H s).1.up2 (by decide)) ((denV_H s).1.up2 (by decide)) ?_ ?_
  · have := (numV_H s).2; omega
  · have := (denV_H s).2; omega
theorem one_rf : RfR (Pol.C 1) (Pol.C 1) (frK 1) :=
  rfRK (N := Pol.C 1) (D := Pol.C 1) (LN := 1) (LD := 1) C1_ne one_kf (by
    have := Rp_C 1 (h := 0) (by decide)
    have e : KF.ofP (Pol.C ((1 : Int) : Rat)) = (1 : KF) := KF.eq_iff.mpr (by rw [show ((1 : Int) : Rat) = 1 from rfl, Pol.C_one])
    rw [e] at this
    exact this.mono (by decide) (by decide)) (by decide) (by decide) Nat.one_le_two_pow Nat.one_le_two_pow Hq_C1 Hq_C1 (Nat.le_trans (Pol.len_of_le [1]) (by decide)) (Nat.le_trans (Pol.len_of_le [1]) (by decide))
noncomputable def stepsV (s : Sd) (n : Nat) : List KF := (List.range n).map (fun i => funV (iter funS s i)) ++ [otherV (iter funS s n)]
def stepsS (s : Sd) (n : Nat) : Sd := funS (iter funS s n)
theorem stepsV_len (s : Sd) (n : Nat) : (stepsV s n).length = n + 1 := by simp [stepsV]
theorem stepsV_trim (s : Sd) (n : Nat) : trimQ (stepsV s n) = stepsV s n := trimQ_snoc _ (otherV_ne _)
section
variable {P : Program} {w : World} {K : PySem.W.Frag} {mg : Str → Option Value} {base : Heap} {k : Nat}
theorem w_law_line (B : Bs P K mg) (q : Rat) : FnT P w K mg base 40 (fTop K "_law_line") (spT [tQ K q] (tP K (Pol.of [-q, 1]).row)) := by
  obtain ⟨fd', D⟩ := B.F.d_law_line
  refine fnT_of (fn_ret D sc_law_line rfl fun cdv A outer s H hr => ?_) (bi_law_line D)
  exact bt_last (st_ret (et_make B.F.mk_Poly (mkP_T B [-q, 1] (by simp)) (hr.mono (by omega)) rfl B.F.g_Poly (at_one (et_disT (Rs := tMs K [-q, 1]) (at_two (ET.imp (et_ownNeg B.F.me_Ratio_neg (w_Qneg B _) (hr.mono (by omega)) isQ (vr 0 rfl rfl rfl rfl rfl)) tQ_M) (ET.imp (et_make B.F.mk_Ratio (mkQ1 B 1) (hr.mono (by omega)) rfl B.F.g_Ratio (at_one et_int) rfl rfl rfl) (tQ_M (q := 1)))) (by simp [tMs, sizeLine]))) rfl rfl rfl) rfl)
theorem et_P1 {X : Cx} {Γ : Cxt} {pos pp p1 : Pos} {j k1 k2} (B : Bs X.prog X.K X.mg) (hr : Room 39 X.A) (hg : Gl X "Poly") (hs : starEach [.Tuple [.Constant (.int 1) k1 p1] k2 j] X.env = (false, eval (.Tuple [.Constant (.int 1) k1 p1] k2 j) X.env) :: starEach [] X.env := by rfl) (hs2 : starEach [.Constant (.int 1) k1 p1] X.env = (false, eval (.Constant (.int 1) k1 p1) X.env) :: starEach [] X.env := by rfl) : ET X Γ (.Call (.Name "Poly" pp) [.Tuple [.Constant (.int 1) k1 p1] k2 j] [] pos) (tP X.K (Pol.C 1).row) :=
  et_make B.F.mk_Poly (mkP_T B [1] (by simp)) hr hg B.F.g_Poly (at_one (et_disT (Rs := tMs X.K [1]) (at_one (ET.imp et_int (tI_M (n := 1) rfl)) hs2) (by simp [tMs, sizeLine])) hs) rfl hs rfl
theorem w_law_fun (B : Bs P K mg) (D : Addr) (s : Sd) (hs : SOk s) : FnT P w K mg base 56 (fTop K "_law_fun") (spM D s (funS s) [tV (.ref D)] (tq K (funV s))) := by
  obtain ⟨fd', DD⟩ := B.F.d_law_fun
  refine fnT_of (fn_retM DD sc_law_fun rfl fun cdv A outer sh H hr => ?_) (bi_law_fun DD)
  have hΓ : StbC [D] ((ini N_law_fun [tSt D s]).set 0 (some (tV (.ref D)))) := stbc_s (sol_V _) (stbc_n stbc_nil)
  have hΓ2 : StbC [D] ([some (tV (.ref D)), some (tP K (denV s).row)] : Cxt) := stbc_s (sol_V _) (stbc_s (sol_P _) stbc_nil)
  have h3 := takeV_lt s (m := 3) (by decide)
  refine bt_cons (Δ := [some (tSt D (denS s)), some (tP K (denV s).row)]) (st_setM (i := 1) (j := 0) (R := tP K (denV s).row) (s1 := denS s) rfl hΓ sc_law_fun.nd rfl (.inl rfl) ?_ (List.mem_singleton.mpr rfl) rfl (Sub.refl _) (.inl rfl)) ?_
  · have ht : ∀ {d} {q1 q2 q3 q4 q5 q6 : Pos} {k1 k2}, decide (0 < takeV s 3) = d → TM (BodyCx P w K mg base N_law_fun d_law_fun.qual d_law_fun.scope (fTop K "_law_fun") cdv A outer sh H) D s (takeS s 3) ((ini N_law_fun [tSt D s]).set 0 (some (tV (.ref D)))) (.Compare (.Call (.Name "_law_take" q1) [.Name "state" q2, .Constant (.int 3) k1 q3] [] q4) [.Gt] [.Constant (.int 0) k2 q5] q6) d := fun {d q1 q2 q3 q4 q5 q6 k1 k2} hd => by
      rw [← hd]
      exact tm_cmp hΓ op_gt (em_take B hΓ (hr.mono (by omega)) (by exact rfl) hs (by decide) et_int (vr 0 rfl rfl rfl rfl rfl)) (sol_I _) (em_of et_int) (r_Ib (g := fun i j => decide (j < i)))
    by_cases h : 0 < takeV s 3
    · have e1 : denS s = takeS s 3 := by unfold denS; rw [if_pos h]
      have e2 : denV s = Pol.C 1 := by unfold denV; rw [if_pos h]
      rw [e1, e2]
      exact em_ifT hΓ (ht (decide_eq_true h)) (em_of (et_P1 B (hr.mono (by omega)) rfl))
    · have e1 : denS s = qS (takeS s 3) := by unfold denS; rw [if_neg h]
      have e2 : denV s = Pol.of [-qV (takeS s 3), 1] := by unfold denV; rw [if_neg h]
      rw [e1, e2]
      exact em_ifF hΓ (ht (decide_eq_false h)) (em_callT hΓ (w_law_line B _) (hr.mono (by omega)) rfl B.F.g_law_line B.F.k_law_line (am_one hΓ (em_call hΓ (w_law_q B D _ (takeS_ok hs 3)) (hr.mono (by omega)) rfl B.F.g_law_q B.F.k_law_q (am_one hΓ (em_of (vr 0 rfl rfl rfl rfl rfl))))))
  have hn := numN_le s
  refine bt_last (st_retM (j := 0) (s1 := funS s) rfl (em_make hΓ2 B.F.mk_RatFun (w_Finit B _ _ _ _ (fun_rf s)) (hr.mono (by omega)) rfl B.F.g_RatFun (am_two hΓ2 ?_ (sol_P _) (em_of (vr 1 rfl rfl rfl rfl rfl)))) (List.mem_singleton.mpr rfl) rfl)
  refine em_call hΓ2 (w_law_pol B D (takeS (denS s) 3) (takeS_ok (denS_ok hs) 3) (numN s) (by omega)) (hr.mono (by omega)) rfl B.F.g_law_pol B.F.k_law_pol (am_two hΓ2 (em_of (vr 0 rfl rfl rfl rfl rfl)) (sol_V _) (EM.cast (em_op hΓ2 op_add (em_of et_int) (sol_I _) (em_take B hΓ2 (hr.mono (by omega)) (by exact rfl) (denS_ok hs) (by decide) et_int (vr 0 rfl rfl rfl rfl rfl)) (r_I0 (g := fun i j => i + j))) ?_))
  rw [hn.2]
theorem w_law_other (B : Bs P K mg) (D : Addr) (s : Sd) (hs : SOk s) : FnT P w K mg base 60 (fTop K "_law_fun_other") (spM D s (funS s) [tV (.ref D)] (tq K (otherV s))) := by
  obtain ⟨fd', DD⟩ := B.F.d_law_fun_other
  refine fnT_of (fn_retM DD sc_law_fun_other rfl fun cdv A outer sh H hr => ?_) (bi_law_fun_other DD)
  have hΓ : StbC [D] ((ini N_law_fun_other [tSt D s]).set 0 (some (tV (.ref D)))) := stbc_s (sol_V _) (stbc_n stbc_nil)
  have hΓ2 : StbC [D] ([some (tV (.ref D)), some (tq K (funV s))] : Cxt) := stbc_s (sol_V _) (stbc_s (sol_F _) stbc_nil)
  refine bt_cons (Δ := [some (tSt D (funS s)), some (tq K (funV s))]) (st_setM (i := 1) (j := 0) (R := tq K (funV s)) (s1 := funS s) rfl hΓ sc_law_fun_other.nd rfl (.inl rfl) (em_call hΓ (w_law_fun B D s hs) (hr.mono (by omega)) rfl B.F.g_law_fun B.F.k_law_fun (am_one hΓ (em_of (vr 0 rfl rfl rfl rfl rfl)))) (List.mem_singleton.mpr rfl) rfl (Sub.refl _) (.inl rfl)) ?_
  refine bt_last (st_retM (j := 0) (s1 := funS s) rfl ?_ (List.mem_singleton.mpr rfl) rfl)
  by_cases h : funV s = 0
  · have e : otherV s = 1 := by unfold otherV; rw [if_pos h]
    rw [e]
    exact em_of (et_ifT (tt_val (ET.imp (et_meth0 ((opsK B _).is0 (funV s)) B.F.cl_RatFun B.F.me_RatFun_is_zero (hr.mono (by omega)) (vr 1 rfl rfl rfl rfl rfl) (noF rfl rfl) rfl) (tB_of (decide_eq_true h)))) (et_call (w_of_poly B (Pol.C 1) (frK 1) one_rf) (hr.mono (by omega)) rfl B.F.g_of_poly B.F.k_of_poly (at_one (et_P1 B (hr.mono (by omega)) rfl)) rfl rfl rfl))
  · have e : otherV s = funV s := by unfold otherV; rw [if_neg h]
    rw [e]
    exact em_of (et_ifF (tt_val (ET.imp (et_meth0 ((opsK B _).is0 (funV s)) B.F.cl_RatFun B.F.me_RatFun_is_zero (hr.mono (by omega)) (vr 1 rfl rfl rfl rfl rfl) (noF rfl rfl) rfl) (tB_of (decide_eq_false h)))) (vr 1 rfl rfl rfl rfl rfl))
def seedV : List Int → Nat → Int
  | _, 0 => 0
  | l, t + 1 => seedV l t * 1000003 + (l.getD t 0).natAbs
def totV : List Int → Nat → Int
  | _, 0 => 1
  | l, t + 1 => (totV l t * 48271 + l.getD t 0) % 2147483647
def stateV (l : List Int) : Sd := (seedV l l.length, totV l l.length)
theorem totV_ok (l : List Int) (t : Nat) : (totV l t).natAbs < 2 ^ 40 := by
  have e : (2 : Nat) ^ 40 = 1099511627776 := by decide
  cases t with
  | zero => show (1 : Int).natAbs < _; omega
  | succ t =>
    show ((totV l t * 48271 + l.getD t 0) % 2147483647).natAbs < _
    have h1 := Int.emod_nonneg (totV l t * 48271 + l.getD t 0) (by decide : (2147483647 : Int) ≠ 0)
    have h2 := Int.emod_lt_of_pos (totV l t * 48271 + l.getD t 0) (by decide : (0 : Int) < 2147483647)
    omega
theorem w_law_state (B : Bs P K mg) (l : List Int) (hl : l.length ≤ 63) : FnT P w K mg base 42 (fTop K "_law_state") (spN [tL K (tIs l)] [tI (stateV l).1, tI (stateV l).2]) := by
  obtain ⟨fd', DD⟩ := B.F.d_law_state
  refine fnT_of (fn_retN DD sc_law_state rfl fun cdv A outer sh H hr => ?_) (bi_law_state DD)
  let Γs : Nat → Cxt := fun t => [some (tSince H (tL K (tIs l))), some (tI (seedV l t)), some (tI (totV l t)), none]
  refine bt_cons (Δ := [some (tSince H (tL K (tIs l))), some (tI 0), none, none]) (st_set (i := 1) sc_law_state.nd rfl (.inl rfl) et_int rfl (Sub.refl _) rfl (.inl rfl)) ?_
  refine bt_cons (Δ := Γs 0) (st_set (i := 2) sc_law_state.nd rfl (.inl rfl) et_int rfl (Sub.refl _) rfl (.inl rfl)) ?_
  refine bt_cons (Δ := Γs l.length) ?_ (bt_last (st_retN (i := 0) rfl (ef_disp (at_two (vr 1 rfl rfl rfl rfl rfl) (vr 2 rfl rfl rfl rfl rfl)) (by simp [sizeLine])) rfl))
  have hcut : cutR (tIs l) none (some (63 : Int)) = tIs l := by
    unfold cutR HT.sIx
    simp only []
    rw [if_neg (by omega)]
    rw [is_len]
    simp
    rw [List.take_of_length_le (by rw [is_len]; omega)]
  have hit : ∀ {q1 q2 q3 q4 : Pos} {k1}, ET (BodyCx P w K mg base N_law_state d_law_state.qual d_law_state.scope (fTop K "_law_state") cdv A outer sh H) (Γs 0) (.Subscript (.Name "script" q1) (.Slice none (some (.Constant (.int 63) k1 q2)) none q3) q4) (tLn [] (tIs l)) := fun {q1 q2 q3 q4 k1} => by
    rw [← hcut]
    exact EF.et (ef_slL (ET.imp (vr 0 rfl rfl rfl rfl rfl) fun v H h => h.1) pt_no (pt_at et_int))
  refine st_for1 (i := 3) (n := l.length) (Rf := fun t => tI (l.getD t 0)) Γs (it_rowI hit) (Sub.refl _) (fun t ht => ?_) rfl (Sub.refl _) rfl PassesOwn.never sc_law_state.nd rfl rfl (fun _ => rfl)
  refine bt_cons (Δ := [some (tSince H (tL K (tIs l))), some (tI (seedV l (t + 1))), some (tI (totV l t)), some (tI (l.getD t 0))]) (st_set (i := 1) (R := tI (seedV l (t + 1))) sc_law_state.nd rfl (.inl rfl) (et_add (et_mulS (.inr ⟨by decide, by decide⟩) (vr 1 rfl rfl rfl rfl rfl) et_int) (et_abs rfl B.F.b_abs (vr 3 rfl rfl rfl rfl rfl))) rfl (Sub.refl _) rfl (.inl rfl)) ?_
  exact bt_last (st_set (i := 2) (R := tI (totV l (t + 1))) sc_law_state.nd rfl (.inl rfl) (et_modP (by decide) (et_int_ rfl B.F.b_int (et_add (et_mulS (.inr ⟨by decide, by decide⟩) (vr 2 rfl rfl rfl rfl rfl) et_int) (vr 3 rfl rfl rfl rfl rfl))) et_int) rfl (sub_eq (sub_eq (sub_eq (sub_no sub_nil)))) rfl (.inl rfl))
end
end SLT
set_option maxRecDepth 100000
set_option maxHeartbeats 1000000
set_option exponentiation.threshold 100
namespace SLT
open PySem PySem.Spec PyProof.Rows L2 SL SW
open Lean.Grind
theorem ofP_mul (p q : Pol) : KF.ofP p * KF.ofP q = KF.ofP (p * q) := by
  show KF.mk p 1 _ * KF.mk q 1 _ = KF.mk (p * q) 1 _
  rw [KF.mul_mk]; exact KF.eq_iff.mpr (by grind)
theorem ofP_add (p q : Pol) : KF.ofP p + KF.ofP q = KF.ofP (p + q) := by
  show KF.mk p 1 _ + KF.mk q 1 _ = KF.mk (p + q) 1 _
  rw [KF.add_mk]; exact KF.eq_iff.mpr (by grind)
theorem ofP_neg (p : Pol) : -KF.ofP p = KF.ofP (-p) := by
  show -KF.mk p 1 _ = KF.mk (-p) 1 _
  rw [KF.neg_mk]
theorem ofP_sh (a : Rat) (p : Pol) : KF.sh a (KF.ofP p) = KF.ofP (p.sft a) := by
  show KF.sh a (KF.mk p 1 _) = KF.mk (p.sft a) 1 _
  rw [KF.sh_mk]; exact KF.eq_iff.mpr (by rw [Pol.sft_one])
theorem mk_of {x : KF} {N D : Pol} (h : D ≠ 0) (e : x * KF.ofP D = KF.ofP N) : x = KF.mk N D h := by
  rw [KF.eq_mk x] at e ⊢
  have e : KF.mk x.num x.den x.cn.ne * KF.mk D 1 Pol.one_ne = KF.mk N 1 Pol.one_ne := e
  rw [KF.mul_mk] at e
  have := KF.eq_iff.mp e
  exact KF.eq_iff.mpr (by grind)
theorem of_mk {N D : Pol} (h : D ≠ 0) : KF.mk N D h * KF.ofP D = KF.ofP N := by
  show KF.mk N D h * KF.mk D 1 _ = KF.mk N 1 _
  rw [KF.mul_mk]; exact KF.eq_iff.mpr (by grind)
theorem ofP_ne {p : Pol} (h : p ≠ 0) : KF.ofP p ≠ 0 := fun z => h (by
  have : KF.mk p 1 Pol.one_ne = 0 := z
  exact KF.mk_zero.mp this)
/-- x is N / D, N integral of degree at most n, coefficients at most 2^h -/
def Cd (D : Pol) (n h : Nat) (x : KF) : Prop := ∃ N, Hq 1 (2 ^ h) N ∧ N.len ≤ n + 1 ∧ x * KF.ofP D = KF.ofP N
structure Dn (D : Pol) (d h : Nat) : Prop where
  ne : D ≠ 0
  H : Hq 1 (2 ^ h) D
  l : D.len ≤ d + 1
section
variable {D E : Pol} {n m h g d e k : Nat} {x y : KF}
theorem Hq.Z0 {L B : Nat} : Hq L B 0 := fun i => by rw [Pol.co_zero, Rat.zero_mul]; exact Ib.zero
theorem Cd.zero : Cd D n h 0 := ⟨0, Hq.Z0, by rw [(Pol.len_zero_iff 0).mpr rfl]; omega, by
  have : KF.ofP 0 = 0 := rfl
  rw [this]; grind⟩
theorem Cd.mono (r : Cd D n h x) (h1 : n ≤ m) (h2 : h ≤ g) : Cd D m g x := by
  obtain ⟨N, a, b, c⟩ := r
  exact ⟨N, a.up2 h2, by omega, c⟩
theorem Dn.mono (r : Dn D d h) (h1 : d ≤ e) (h2 : h ≤ g) : Dn D e g := ⟨r.ne, r.H.up2 h2, Nat.le_trans r.l (by omega)⟩
theorem Cd.add (r : Cd D n h x) (s : Cd D n h y) : Cd D n (h + 1) (x + y) := by
  obtain ⟨N, a, b, c⟩ := r
  obtain ⟨M, a', b', c'⟩ := s
  exact ⟨N + M, Hq.add2 a a' (by omega) (by omega), (len_sum b b').1, by rw [← ofP_add, ← c, ← c']; grind⟩
theorem Cd.neg (r : Cd D n h x) : Cd D n h (-x) := by
  obtain ⟨N, a, b, c⟩ := r
  exact ⟨-N, a.neg, by rw [Pol.len_neg]; exact b, by rw [← ofP_neg, ← c]; grind⟩
theorem Cd.mul (r : Cd D n h x) (s : Cd E m g y) (hn : n ≤ 100) : Cd (D * E) (n + m) (h + g + 7) (x * y) := by
  obtain ⟨N, a, b, c⟩ := r
  obtain ⟨M, a', b', c'⟩ := s
  have := Pol.len_mul_le N M
  exact ⟨N * M, a.mul7 a' (by omega), by omega, by rw [← ofP_mul, ← ofP_mul, ← c, ← c']; grind⟩
theorem Dn.mul (r : Dn D d h) (s : Dn E e g) (hn : d ≤ 100) : Dn (D * E) (d + e) (h + g + 7) := by
  have := Pol.len_mul_le D E
  have := r.l
  have := s.l
  exact ⟨Pol.mul_ne r.ne s.ne, r.H.mul7 s.H (by omega), by omega⟩
theorem Cd.ext (r : Cd D n h x) (s : Dn E e g) (hn : n ≤ 100) : Cd (D * E) (n + e) (h + g + 7) x := by
  obtain ⟨N, a, b, c⟩ := r
  have := Pol.len_mul_le N E
  have := s.l
  exact ⟨N * E, a.mul7 s.H (by omega), by omega, by rw [← ofP_mul, ← ofP_mul, ← c]; grind⟩
theorem pcomm (p q : Pol) : p * q = q * p := by grind
theorem Cd.extL (r : Cd D n h x) (s : Dn E e g) (hn : n ≤ 100) : Cd (E * D) (n + e) (h + g + 7) x := by
  rw [pcomm E D]; exact r.ext s hn
theorem Cd.sh (r : Cd D n h x) (hk : k ≤ 5) : Cd (D.sft k) n (h + 3 * (n + 1)) (KF.sh k x) := by
  obtain ⟨N, a, b, c⟩ := r
  exact ⟨N.sft k, Hq.sft2 hk a b, Nat.le_trans (sft_len _ _) b, by rw [← ofP_sh, ← ofP_sh, ← c, KF.sh_mul]⟩
theorem Dn.sh (r : Dn D d h) (hk : k ≤ 5) : Dn (D.sft k) d (h + 3 * (d + 1)) := ⟨Pol.sft_ne r.ne, Hq.sft2 hk r.H r.l, Nat.le_trans (sft_len _ _) r.l⟩
theorem Cd.rp (r : Cd D n h x) (s : Dn D d g) (h1 : n ≤ 39) (h2 : d ≤ 39) (h3 : h ≤ 1500) (h4 : g ≤ 1500) : Sz x := by
  obtain ⟨N, a, b, c⟩ := r
  have := s.l
  exact ⟨N, D, a.up2 h3, s.H.up2 h4, Nat.le_trans b (Nat.succ_le_succ h1), Nat.le_trans s.l (Nat.succ_le_succ h2), s.ne, mk_of s.ne c⟩
/-- all of a list over one denominator -/
def CL (D : Pol) (n h : Nat) (l : List KF) : Prop := ∀ i, Cd D n h (co l i)
theorem co_mem {l : List KF} (hx : x ∈ l) : ∃ i, x = co l i := by
  obtain ⟨i, hi, rfl⟩ := List.mem_iff_getElem.mp hx
  exact ⟨i, by unfold co; rw [List.getD_eq_getElem?_getD, List.getElem?_eq_getElem hi]; rfl⟩
theorem CL.mem {l : List KF} (r : CL D n h l) (hx : x ∈ l) : Cd D n h x := by
  obtain ⟨i, rfl⟩ := co_mem hx
  exact r i
theorem CL.rp {l : List KF} (r : CL D n h l) (s : Dn D d g) (h1 : n ≤ 39) (h2 : d ≤ 39) (h3 : h ≤ 1500) (h4 : g ≤ 1500) : ∀ x ∈ l, Sz x := fun x hx => (r.mem hx).rp s h1 h2 h3 h4
theorem CL.mono {l : List KF} (r : CL D n h l) (h1 : n ≤ m) (h2 : h ≤ g) : CL D m g l := fun i => (r i).mono h1 h2
theorem CL.trim {l : List KF} (r : CL D n h l) : CL D n h (trimQ l) := fun i => by rw [trimQ_co]; exact r i
theorem CL.neg {l : List KF} (r : CL D n h l) : CL D n h (l.map fun c => -c) := fun i => by rw [negQ_co]; exact (r i).neg
theorem CL.add {l p : List KF} (r : CL D n h l) (s : CL D n h p) : CL D n (h + 1) (addQ l p) := fun i => by rw [addQ_co]; exact (r i).add (s i)
theorem CL.nil : CL D n h [] := fun i => Cd.zero
/-- drawn functions: one denominator -/
def Dr (x : KF) : Prop := ∃ D, Dn D 1 3 ∧ Cd D 2 3 x
theorem fun_Dr (s : Sd) : Dr (funV s) := by
  obtain ⟨N, D, a, b, c, d, hD, z⟩ := fun_H s
  exact ⟨D, ⟨hD, b, d⟩, N, a, c, by rw [z]; exact of_mk hD⟩
theorem other_Dr (s : Sd) : Dr (otherV s) := by
  obtain ⟨N, D, a, b, c, d, hD, z⟩ := other_H s
  exact ⟨D, ⟨hD, b, d⟩, N, a, c, by rw [z]; exact of_mk hD⟩
theorem Dr.list : ∀ l : List KF, l.length ≤ 50 → (∀ x ∈ l, Dr x) → ∃ D, Dn D l.length (10 * l.length) ∧ CL D (l.length + 1) (10 * l.length) l
  | [], _, _ => ⟨1, ⟨Pol.one_ne, by rw [← Pol.C_one]; exact Hq_C1, Nat.le_trans Pol.len_one (by omega)⟩, CL.nil⟩
  | x :: r, hl, hx => by
    rw [List.length_cons] at hl ⊢
    obtain ⟨E, e1, e2⟩ := hx x (List.mem_cons_self ..)
    obtain ⟨D, d1, d2⟩ := Dr.list r (by omega) fun y hy => hx y (List.mem_cons_of_mem _ hy)
    refine ⟨E * D, (e1.mul d1 (by omega)).mono (by omega) (by omega), fun i => ?_⟩
    match i with
    | 0 => exact (e2.ext d1 (by omega)).mono (by omega) (by omega)
    | i + 1 => exact ((d2 i).extL e1 (by omega)).mono (by omega) (by omega)
theorem steps_Dr (s : Sd) (n : Nat) (hn : n ≤ 40) : ∃ D, Dn D (n + 1) (10 * (n + 1)) ∧ CL D (n + 2) (10 * (n + 1)) (stepsV s n) := by
  have := Dr.list (stepsV s n) (by rw [stepsV_len]; omega) fun x hx => by
    rcases List.mem_append.mp hx with h | h
    · obtain ⟨i, _, rfl⟩ := List.mem_map.mp h
      exact fun_Dr _
    · rw [List.mem_singleton.mp h]; exact other_Dr _
  rwa [stepsV_len] at this
def PE (E : Pol) : Nat → Pol
  | 0 => E.sft (0 : Nat)
  | m + 1 => PE E m * E.sft ((m + 1 : Nat) : Rat)
/-- the growth by a moved denominator -/
abbrev gE (e g : Nat) : Nat := g + 3 * (e + 1) + 7
theorem PE_Dn (s : Dn E e g) : ∀ m, m ≤ 5 → (m + 1) * e ≤ 100 → Dn (PE E m) ((m + 1) * e) ((m + 1) * gE e g)
  | 0, _, _ => (s.sh (k := 0) (by decide)).mono (by omega) (by unfold gE; omega)
  | m + 1, hm, he => by
    have e1 : (m + 1 + 1) * e = (m + 1) * e + e := by rw [Nat.succ_mul]
    have e2 : (m + 1 + 1) * gE e g = (m + 1) * gE e g + gE e g := by rw [Nat.succ_mul]
    have := (PE_Dn s m (by omega) (by omega)).mul (s.sh hm) (by omega)
    exact this.mono (by omega) (by unfold gE at *; omega)
theorem PE_Cd (s : Dn E e g) {p : Nat} {z : KF} {j : Nat} (r : Cd E p h z) : ∀ m, m ≤ 5 → p + m * e ≤ 100 → (m + 1) * e ≤ 100 → j ≤ m → Cd (PE E m) (p + m * e) (h + 3 * (p + 1) + m * (gE e g + 7)) (KF.sh (j : Nat) z)
  | 0, _, _, _, hj => by
    have : j = 0 := by omega
    subst this
    exact (r.sh (k := 0) (by decide)).mono (by omega) (by omega)
  | m + 1, hm, hp, hq, hj => by
    have e1 : (m + 1) * e = m * e + e := by rw [Nat.succ_mul]
    have e0 : (m + 1 + 1) * e = (m + 1) * e + e := by rw [Nat.succ_mul]
    have e2 : (m + 1) * (gE e g + 7) = m * (gE e g + 7) + (gE e g + 7) := by rw [Nat.succ_mul]
    by_cases hj2 : j = m + 1
    · subst hj2
      have := (r.sh (k := m + 1) (by omega)).extL (PE_Dn s m (by omega) (by omega)) (by omega)
      refine this.mono (by omega) ?_
      have e3 : (m + 1) * gE e g ≤ (m + 1) * (gE e g + 7) := Nat.mul_le_mul_left _ (by omega)
      have e4 : (m + 1) * (gE e g + 7) = (m + 1) * gE e g + (m + 1) * 7 := by rw [Nat.mul_add]
      omega
    · have := (PE_Cd s (j := j) r m (by omega) (by omega) (by omega) (by omega)).ext (s.sh (k := m + 1) hm) (by omega)
      exact this.mono (by omega) (by unfold gE at *; omega)
/-- sums of coefficients by moved values -/
theorem su_Cd {a : List KF} {z : Nat → KF} {p f m : Nat} (ca : CL D n h a) (s : Dn E e g) (cz : ∀ j, Cd E p f (z j)) (hm : m ≤ 5) (b1 : n ≤ 100) (b2 : p + m * e ≤ 100) (b3 : (m + 1) * e ≤ 100) : ∀ t, t ≤ m + 1 → Cd (D * PE E m) (n + p + m * e) (h + f + 3 * (p + 1) + m * (gE e g + 7) + 7 + t) (su t fun j => co a j * KF.sh (j : Nat) (z j))
  | 0, _ => Cd.zero
  | t + 1, ht => by
    have h1 := su_Cd ca s cz hm b1 b2 b3 t (by omega)
    have h2 := (ca t).mul (PE_Cd s (cz t) m hm b2 b3 (by omega : t ≤ m)) b1
    exact (h1.add (h2.mono (by omega) (by omega))).mono (by omega) (by omega)
theorem pc_su (a b : List KF) (t i : Nat) : pc a b t i = su t fun j => co a j * KF.sh (j : Nat) (if i < j then 0 else co b (i - j)) := by
  unfold pc
  refine su_congr fun j _ => ?_
  split
  · rw [KF.sh_zero]
  · rfl
end

end SLT
set_option maxRecDepth 100000
set_option maxHeartbeats 1000000
set_option exponentiation.threshold 100
namespace SLT
open PySem PySem.Spec PyProof.Rows L2 SL SW
open Lean.Grind
section
variable {D E : Pol} {n m h g d e p k : Nat} {x y : KF} {a b : List KF}
/-- the numbers fit -/
structure Fit (d n h e p g m : Nat) : Prop where
  n1 : d + (m + 1) * e ≤ 39
  n2 : n + p + m * e ≤ 39
  n3 : h + g + 3 * (p + 1) + m * (gE e g + 7) + 7 + (m + 1) ≤ 1500
  n4 : h + (m + 1) * gE e g + 7 ≤ 1500
theorem mulSt2_Cd (cb : CL E p g b) {t : Nat} (ht : t ≤ 5) : CL (E.sft t) p (g + 3 * (p + 1)) (mulSt a b t).2 := fun i => by
  rw [mulSt2_co]
  split
  · exact Cd.zero
  · exact (cb _).sh ht
theorem mulB_q (da : Dn D d h) (ca : CL D n h a) (db : Dn E e g) (cb : CL E p g b) (la : a.length ≤ m + 1) (lb : b.length ≤ 100) (hm : m ≤ 4) (F : Fit d n h e p g m) :
    MulQ Sz a b ∧ CL (D * PE E m) (n + p + m * e) (h + g + 3 * (p + 1) + m * (gE e g + 7) + 7 + (m + 1)) (mulQ a b) ∧ Dn (D * PE E m) (d + (m + 1) * e) (h + (m + 1) * gE e g + 7) := by
  obtain ⟨n1, n2, n3, n4⟩ := F
  have e1 : (m + 1) * e = m * e + e := by rw [Nat.succ_mul]
  have e2 : (m + 1) * gE e g = m * gE e g + gE e g := by rw [Nat.succ_mul]
  have e3 : gE e g = g + 3 * (e + 1) + 7 := rfl
  have dP := da.mul (PE_Dn db m (by omega) (by omega)) (by omega)
  have hp : ∀ t, t ≤ m + 1 → ∀ i, Cd (D * PE E m) (n + p + m * e) (h + g + 3 * (p + 1) + m * (gE e g + 7) + 7 + (m + 1)) (pc a b t i) := fun t ht i => by
    rw [pc_su]
    refine (su_Cd (p := p) (f := g) ca db (fun j => ?_) (by omega) (by omega) (by omega) (by omega) t ht).mono (Nat.le_refl _) (by omega)
    split
    · exact Cd.zero
    · exact cb _
  refine ⟨⟨ca.rp da (by omega) (by omega) (by omega) (by omega), fun t ht x hx => ?_, fun t ht x hx => ?_, fun t ht x hx => ?_, by omega, lb⟩, fun i => ?_, dP.mono (Nat.le_refl _) (by omega)⟩
  · have h5 : t ≤ 5 := by omega
    exact (mulSt2_Cd (a := a) (t := t) cb h5).rp (db.sh h5) (by omega) (by omega) (by omega) (by omega) x hx
  · obtain ⟨i, rfl⟩ := co_mem hx
    rw [mulSt1_co]
    exact (hp t (by omega) i).rp dP n2 (by omega) n3 (by omega)
  · obtain ⟨i, rfl⟩ := co_mem hx
    rw [scaleQ_co]
    exact ((ca t).mul (mulSt2_Cd cb (t := t) (by omega) i) (by omega)).rp (da.mul (db.sh (k := t) (by omega)) (by omega)) (by omega) (by omega) (by omega) (by omega)
  · rw [mulQ_co]; exact hp _ la i
theorem Cd.sh6 {E : Pol} (cy : Cd E p g y) {t : Nat} (ht : t ≤ 6) (dy : Dn E e g) (b1 : p ≤ 39) (b2 : e ≤ 39) (b3 : g + 6 * (p + 1) ≤ 1500) (b4 : g + 6 * (e + 1) ≤ 1500) : Sz (KF.sh t y) := by
  match t with
  | 0 => exact (cy.sh (k := 0) (by decide)).rp (dy.sh (k := 0) (by decide)) b1 b2 (by omega) (by omega)
  | t + 1 =>
    rw [← sh_s t 1]
    exact ((cy.sh (k := t) (by omega)).sh (k := 1) (by decide)).rp ((dy.sh (k := t) (by omega)).sh (k := 1) (by decide)) b1 b2 (by omega) (by omega)
theorem actB_q (da : Dn D d h) (ca : CL D n h a) (dy : Dn E e g) (cy : Cd E p g y) (la : a.length ≤ m + 1) (hm : m ≤ 5) (F : Fit d n h e p g m) (b3 : g + 6 * (p + 1) ≤ 1500) (b4 : g + 6 * (e + 1) ≤ 1500) :
    ActB Sz a y ∧ Cd (D * PE E m) (n + p + m * e) (h + g + 3 * (p + 1) + m * (gE e g + 7) + 7 + (m + 1)) (actQ a y) ∧ Dn (D * PE E m) (d + (m + 1) * e) (h + (m + 1) * gE e g + 7) := by
  obtain ⟨n1, n2, n3, n4⟩ := F
  have e1 : (m + 1) * e = m * e + e := by rw [Nat.succ_mul]
  have e2 : (m + 1) * gE e g = m * gE e g + gE e g := by rw [Nat.succ_mul]
  have e3 : gE e g = g + 3 * (e + 1) + 7 := rfl
  have dP := da.mul (PE_Dn dy m hm (by omega)) (by omega)
  have hp : ∀ t, t ≤ m + 1 → Cd (D * PE E m) (n + p + m * e) (h + g + 3 * (p + 1) + m * (gE e g + 7) + 7 + (m + 1)) (su t fun i => co a i * KF.sh (i : Nat) y) := fun t ht =>
    (su_Cd ca dy (fun j => cy) (by omega) (by omega) (by omega) (by omega) t ht).mono (Nat.le_refl _) (by omega)
  refine ⟨⟨ca.rp da (by omega) (by omega) (by omega) (by omega), fun t ht => ?_, fun t ht => ?_, fun t ht => ?_⟩, ?_, dP.mono (Nat.le_refl _) (by omega)⟩
  · rw [(SLT.act_su a y t).1]; exact (hp t (by omega)).rp dP n2 (by omega) n3 (by omega)
  · rw [(SLT.act_su a y t).2]; exact cy.sh6 (by omega) dy (by omega) (by omega) b3 b4
  · rw [(SLT.act_su a y t).2]
    exact ((ca t).mul (cy.sh (k := t) (by omega)) (by omega)).rp (da.mul (dy.sh (k := t) (by omega)) (by omega)) (by omega) (by omega) (by omega) (by omega)
  · unfold actQ; rw [(SLT.act_su a y _).1]; exact hp _ la
theorem div_mul {x s z : KF} (h : s ≠ 0) (hz : z * s = x) : x / s = z := by
  have := Field.mul_inv_cancel h
  rw [Field.div_eq_mul_inv, ← hz]; grind
theorem step_Cd {R : Pol} {r m : List KF} {n' H : Nat} (cr : CL R n' H r) (dm : Dn E e g) (cm : CL E p g m) (tm : TrQ m) (m0 : m ≠ []) {gap : Nat} (hg : gap ≤ 5) (hn : n' ≤ 100) :
    KF.sh gap (leadQ m) ≠ 0 ∧ ∃ S, Dn S p (g + 3 * (p + 1)) ∧ Cd (R * S) (n' + e) (H + (g + 3 * (e + 1)) + 7) (leadQ r / KF.sh gap (leadQ m)) ∧ ∀ j, Cd (R * S) (n' + p) (H + (g + 3 * (p + 1)) + 7) (leadQ r / KF.sh gap (leadQ m) * KF.sh gap (co m j)) := by
  have hl := lead_ne tm m0
  have hs := KF.sh_ne (a := (gap : Rat)) hl
  refine ⟨hs, ?_⟩
  obtain ⟨M, a1, a2, a3⟩ := cm (m.length - 1)
  have a3 : leadQ m * KF.ofP E = KF.ofP M := a3
  have hM : M ≠ 0 := fun z => by
    have : leadQ m * KF.ofP E = 0 := by rw [a3, z]; rfl
    exact kf_mul_ne hl (ofP_ne dm.ne) this
  have s3 : KF.sh gap (leadQ m) * KF.ofP (E.sft gap) = KF.ofP (M.sft gap) := by rw [← ofP_sh, ← ofP_sh, ← a3, KF.sh_mul]
  obtain ⟨N, b1, b2, b3⟩ := cr (r.length - 1)
  have b3 : leadQ r * KF.ofP R = KF.ofP N := b3
  generalize KF.sh gap (leadQ m) = s at *
  generalize leadQ r = z at *
  have inv := Field.mul_inv_cancel hs
  have q : ∀ (w : KF) (W : Pol) (n2 h2 : Nat), Hq 1 (2 ^ h2) W → W.len ≤ n2 + 1 → w * KF.ofP (E.sft gap) = KF.ofP W → Cd (R * M.sft gap) (n' + n2) (H + h2 + 7) (z / s * w) := fun w W n2 h2 c1 c2 c3 => by
    have := Pol.len_mul_le N W
    refine ⟨N * W, b1.mul7 c1 (by omega), by omega, ?_⟩
    rw [← ofP_mul, ← ofP_mul, ← b3, ← c3, ← s3, Field.div_eq_mul_inv]
    grind
  have d2 : Dn (E.sft gap) e (g + 3 * (e + 1)) := dm.sh hg
  refine ⟨M.sft gap, ⟨Pol.sft_ne hM, Hq.sft2 hg a1 a2, Nat.le_trans (sft_len _ _) a2⟩, ?_, fun j => ?_⟩
  · have := q 1 (E.sft gap) e (g + 3 * (e + 1)) d2.H d2.l (by grind)
    have e1 : z / s * 1 = z / s := by grind
    rwa [e1] at this
  · obtain ⟨W, c1, c2, c3⟩ := (cm j).sh hg
    exact q _ W p _ c1 c2 c3
theorem trm_c {m r : List KF} (i : Nat) : co (trmQ m r) i = if i = r.length - m.length then leadQ r / KF.sh ((r.length - m.length : Nat) : Rat) (leadQ m) else 0 := by
  unfold trmQ
  rw [trimQ_co, monQ_co]
  rfl
theorem trm_len (m r : List KF) : (trmQ m r).length ≤ r.length - m.length + 1 := by
  have := trimQ_le (monQ (leadQ r / KF.sh ((r.length - m.length : Nat) : Rat) (leadQ m)) (r.length - m.length))
  rw [monQ_len] at this
  exact this
theorem trm_pc {m r : List KF} (t i : Nat) : pc (trmQ m r) m t i = if r.length - m.length < t then (if i < r.length - m.length then 0 else leadQ r / KF.sh ((r.length - m.length : Nat) : Rat) (leadQ m) * KF.sh ((r.length - m.length : Nat) : Rat) (co m (i - (r.length - m.length)))) else 0 := by
  unfold pc
  split
  · rw [su_one (r.length - m.length) (by assumption) fun j hj => by rw [trm_c, if_neg hj]; grind]
    rw [trm_c, if_pos rfl]
    split
    · grind
    · rfl
  · exact su_zero fun j hj => by rw [trm_c, if_neg (by omega)]; grind
theorem sdv_B (da : Dn D d h) (ca : CL D n h a) {m : List KF} (dm : Dn E e g) (cm : CL E p g m) (ha : TrQ a) (tm : TrQ m) (m0 : m ≠ []) (la : a.length ≤ 100) (lm : m.length ≤ 100) {k : Nat} (lk : a.length ≤ m.length + k) (hk : k ≤ 4)
    (n1 : d + (k + 1) * p ≤ 39) (n2 : n + (k + 1) * p ≤ 39) (n3 : n + k * p + e ≤ 39) (n4 : h + (k + 1) * (g + 3 * (p + 1) + 8) + (g + 3 * (e + 1) + 7) ≤ 1500) (he : e ≤ 39) :
    ∃ T, SdvB Sz a m T ∧ (sdv a m T).2.length < m.length ∧ ∃ R, Dn R (d + (k + 1) * p) (h + (k + 1) * (g + 3 * (p + 1) + 8) + (g + 3 * (e + 1) + 7)) ∧ CL R (n + k * p + e) (h + (k + 1) * (g + 3 * (p + 1) + 8) + (g + 3 * (e + 1) + 7)) (sdv a m T).1 ∧ CL R (n + (k + 1) * p) (h + (k + 1) * (g + 3 * (p + 1) + 8) + (g + 3 * (e + 1) + 7)) (sdv a m T).2 := by
  obtain ⟨T, go, st⟩ := sdv_T ha tm m0
  have lens := sdv_len ha tm m0 go
  have hT : T ≤ k + 1 := by
    refine Classical.byContradiction fun z => ?_
    have h1 := lens (k + 1) (by omega)
    have h2 := go (k + 1) (by omega)
    omega
  have lenr : ∀ t, t ≤ T → (sdv a m t).2.length ≤ a.length := fun t ht => by have := lens t ht; omega
  have inv : ∀ t, t ≤ T → ∃ R, Dn R (d + t * p) (h + t * (g + 3 * (p + 1) + 8)) ∧ CL R (n + t * p) (h + t * (g + 3 * (p + 1) + 8)) (sdv a m t).2 ∧ CL R (n + (t - 1) * p + e) (h + t * (g + 3 * (p + 1) + 8) + (g + 3 * (e + 1) + 7)) (sdv a m t).1 := by
    intro t
    induction t with
    | zero => exact fun _ => ⟨D, da.mono (by omega) (by omega), ca.mono (by omega) (by omega), CL.nil⟩
    | succ t ih =>
      intro ht
      obtain ⟨R, r1, r2, r3⟩ := ih (by omega)
      have lt := lenr t (by omega)
      have u1 : (t + 1) * p = t * p + p := by rw [Nat.succ_mul]
      have u2 : (t + 1) * (g + 3 * (p + 1) + 8) = t * (g + 3 * (p + 1) + 8) + (g + 3 * (p + 1) + 8) := by rw [Nat.succ_mul]
      have u3 : (t + 1) * p ≤ (k + 1) * p := Nat.mul_le_mul_right _ (by omega)
      obtain ⟨hs, S, s1, s2, s3⟩ := step_Cd r2 dm cm tm m0 (gap := (sdv a m t).2.length - m.length) (by omega) (by omega)
      refine ⟨R * S, (r1.mul s1 (by omega)).mono (by omega) (by omega), ?_, ?_⟩
      · refine CL.trim fun i => ?_
        rw [addQ_co, negQ_co, trimQ_co, trm_co]
        have h1 := (r2 i).ext s1 (by omega)
        have h2 : Cd (R * S) (n + t * p + p) (h + t * (g + 3 * (p + 1) + 8) + (g + 3 * (p + 1)) + 7) (if i < (sdv a m t).2.length - m.length then 0 else leadQ (sdv a m t).2 / KF.sh (((sdv a m t).2.length - m.length : Nat) : Rat) (leadQ m) * KF.sh (((sdv a m t).2.length - m.length : Nat) : Rat) (co m (i - ((sdv a m t).2.length - m.length)))) := by
          split
          · exact Cd.zero
          · exact s3 _
        exact (h1.add h2.neg).mono (by omega) (by omega)
      · refine CL.trim fun i => ?_
        rw [addQ_co, trm_c]
        have h1 : Cd (R * S) (n + t * p + e) (h + t * (g + 3 * (p + 1) + 8) + (g + 3 * (e + 1) + 7) + (g + 3 * (p + 1)) + 7) (co (sdv a m t).1 i) := by
          cases t with
          | zero => exact Cd.zero
          | succ t =>
            have u4 : (t + 1) * p = t * p + p := by rw [Nat.succ_mul]
            have u5 : (t + 1) * p ≤ k * p := Nat.mul_le_mul_right _ (by omega)
            have := (r3 i).ext s1 (by rw [Nat.add_sub_cancel]; omega)
            exact this.mono (by rw [Nat.add_sub_cancel]; omega) (by omega)
        have h2 : Cd (R * S) (n + t * p + e) (h + t * (g + 3 * (p + 1) + 8) + (g + 3 * (e + 1)) + 7) (if i = (sdv a m t).2.length - m.length then leadQ (sdv a m t).2 / KF.sh (((sdv a m t).2.length - m.length : Nat) : Rat) (leadQ m) else 0) := by
          split
          · exact s2
          · exact Cd.zero
        exact (h1.add (h2.mono (Nat.le_refl _) (by omega))).mono (by rw [Nat.add_sub_cancel]; exact Nat.le_refl _) (by omega)
  have lim : ∀ t, t ≤ T → t * p ≤ (k + 1) * p ∧ (t - 1) * p ≤ k * p ∧ t * (g + 3 * (p + 1) + 8) ≤ (k + 1) * (g + 3 * (p + 1) + 8) := fun t ht => ⟨Nat.mul_le_mul_right _ (by omega), Nat.mul_le_mul_right _ (by omega), Nat.mul_le_mul_right _ (by omega)⟩
  have e3 : (k + 1) * p = k * p + p := by rw [Nat.succ_mul]
  have e4 : (k + 1) * (g + 3 * (p + 1) + 8) = k * (g + 3 * (p + 1) + 8) + (g + 3 * (p + 1) + 8) := by rw [Nat.succ_mul]
  -- what each step needs
  have stp : ∀ t, t < T → KF.sh (((sdv a m t).2.length - m.length : Nat) : Rat) (leadQ m) ≠ 0 ∧ Sz (leadQ (sdv a m t).2 / KF.sh (((sdv a m t).2.length - m.length : Nat) : Rat) (leadQ m)) ∧ ∀ j, Sz (leadQ (sdv a m t).2 / KF.sh (((sdv a m t).2.length - m.length : Nat) : Rat) (leadQ m) * KF.sh (((sdv a m t).2.length - m.length : Nat) : Rat) (co m j)) := fun t ht => by
    obtain ⟨R, r1, r2, r3⟩ := inv t (by omega)
    have lt := lenr t (by omega)
    have u1 : (t + 1) * p = t * p + p := by rw [Nat.succ_mul]
    have u2 : (t + 1) * (g + 3 * (p + 1) + 8) = t * (g + 3 * (p + 1) + 8) + (g + 3 * (p + 1) + 8) := by rw [Nat.succ_mul]
    have u3 : (t + 1) * p ≤ (k + 1) * p := Nat.mul_le_mul_right _ (by omega)
    have u4 : t * p ≤ k * p := Nat.mul_le_mul_right _ (by omega)
    have u5 : t * (g + 3 * (p + 1) + 8) ≤ k * (g + 3 * (p + 1) + 8) := Nat.mul_le_mul_right _ (by omega)
    obtain ⟨hs, S, s1, s2, s3⟩ := step_Cd r2 dm cm tm m0 (gap := (sdv a m t).2.length - m.length) (by omega) (by omega)
    have dRS := r1.mul s1 (by omega)
    exact ⟨hs, s2.rp dRS (by omega) (by omega) (by omega) (by omega), fun j => (s3 j).rp dRS (by omega) (by omega) (by omega) (by omega)⟩
  have sz0 : Sz 0 := by
    have := Cd.rp (D := D) (n := 0) (h := 0) Cd.zero da (by omega) (by omega) (by omega) (by omega)
    exact this
  have stm : ∀ t, t < T → ∀ x ∈ trmQ m (sdv a m t).2, Sz x := fun t ht x hx => by
    obtain ⟨i, rfl⟩ := co_mem hx
    rw [trm_c]
    split
    · exact (stp t ht).2.1
    · exact sz0
  have sprod : ∀ t, t < T → ∀ s i, Sz (pc (trmQ m (sdv a m t).2) m s i) := fun t ht s i => by
    rw [trm_pc]
    split
    · split
      · exact sz0
      · exact (stp t ht).2.2 _
    · exact sz0
  have e5 : k * p ≤ 39 := by omega
  refine ⟨T, ⟨m0, lm, cm.rp dm (by omega) he (by omega) (by omega), go, st, fun t ht => ?_, fun t ht => ?_, fun t ht => ?_, fun t ht => ?_, fun t ht => ⟨stm t ht, ?_⟩, fun t ht => ⟨⟨stm t ht, fun s hs => ?_, fun s hs x hx => ?_, fun s hs x hx => ?_, ?_, lm⟩, ?_⟩, fun t ht => ⟨fun x hx => ?_, fun x hx => ?_⟩⟩, st, ?_⟩
  · have := lenr t (by omega); omega
  · obtain ⟨R, r1, r2, r3⟩ := inv t ht
    obtain ⟨l1, l2, l3⟩ := lim t ht
    refine ⟨r3.rp r1 (by omega) (by omega) (by omega) (by omega), ?_⟩
    have key : ∀ s, s ≤ T → (sdv a m s).1.length ≤ 100 := fun s => by
      induction s with
      | zero => exact fun _ => Nat.zero_le _
      | succ s ih =>
        intro hs
        have h1 := trimQ_le (addQ (sdv a m s).1 (trmQ m (sdv a m s).2))
        have h2 := addQ_len (sdv a m s).1 (trmQ m (sdv a m s).2)
        have h3 := trm_len m (sdv a m s).2
        have h4 := lenr s (by omega)
        have h5 := ih (by omega)
        show (trimQ (addQ (sdv a m s).1 (trmQ m (sdv a m s).2))).length ≤ 100
        omega
    exact key t ht
  · obtain ⟨R, r1, r2, r3⟩ := inv t ht
    obtain ⟨l1, l2, l3⟩ := lim t ht
    have := lenr t ht
    exact ⟨r2.rp r1 (by omega) (by omega) (by omega) (by omega), by omega⟩
  · have := lenr t (by omega)
    refine ⟨?_, (stp t ht).1⟩
    exact ((cm (m.length - 1)).sh (k := (sdv a m t).2.length - m.length) (by omega)).rp (dm.sh (by omega)) (by omega) he (by omega) (by omega)
  · have h3 := trm_len m (sdv a m t).2
    have := lenr t (by omega)
    omega
  · have h3 := trm_len m (sdv a m t).2
    have := lenr t (by omega)
    exact (mulSt2_Cd cm (t := s) (by omega)).rp (dm.sh (k := s) (by omega)) (by omega) he (by omega) (by omega)
  · obtain ⟨i, rfl⟩ := co_mem hx
    rw [mulSt1_co]; exact sprod t ht s i
  · obtain ⟨i, rfl⟩ := co_mem hx
    rw [scaleQ_co]
    have := trm_c (m := m) (r := (sdv a m t).2) s
    have e6 : (trmQ m (sdv a m t).2).getD s 0 = co (trmQ m (sdv a m t).2) s := rfl
    rw [e6, this, mulSt2_co]
    by_cases hs2 : s = (sdv a m t).2.length - m.length
    · rw [if_pos hs2]
      split
      · rw [show ∀ z : KF, z * 0 = 0 from fun z => by grind]; exact sz0
      · rw [hs2]; exact (stp t ht).2.2 _
    · rw [if_neg hs2, show ∀ z : KF, 0 * z = 0 from fun z => by grind]; exact sz0
  · have h3 := trm_len m (sdv a m t).2
    have := lenr t (by omega)
    omega
  · have h3 := trm_len m (sdv a m t).2
    have := lenr t (by omega)
    have h6 := (mulSt_len (trmQ m (sdv a m t).2) m (trmQ m (sdv a m t).2).length).2
    show (mulSt (trmQ m (sdv a m t).2) m (trmQ m (sdv a m t).2).length).1.length ≤ 1000
    omega
  · obtain ⟨i, rfl⟩ := co_mem hx
    rw [trimQ_co, mulQ_co]; exact sprod t ht _ i
  · obtain ⟨i, rfl⟩ := co_mem hx
    rw [negQ_co, trimQ_co, mulQ_co]; exact (sprod t ht _ i).neg
  · obtain ⟨R, r1, r2, r3⟩ := inv T (Nat.le_refl _)
    obtain ⟨l1, l2, l3⟩ := lim T (Nat.le_refl _)
    exact ⟨R, r1.mono (by omega) (by omega), r3.mono (by omega) (by omega), r2.mono (by omega) (by omega)⟩
end

end SLT
set_option maxRecDepth 100000
set_option maxHeartbeats 1000000
set_option exponentiation.threshold 100
namespace SLT
open PySem PySem.Spec PyProof.Rows L2 SL SW
open Lean.Grind
section
variable {D E : Pol} {n m h g d e p k : Nat} {x y f : KF} {a b : List KF}
/-- one denominator for all -/
def CLx (d n h : Nat) (l : List KF) : Prop := ∃ D, Dn D d h ∧ CL D n h l
def Cx1 (d n h : Nat) (x : KF) : Prop := ∃ D, Dn D d h ∧ Cd D n h x
theorem CLx.sz {l : List KF} (r : CLx d n h l) (h1 : n ≤ 39) (h2 : d ≤ 39) (h3 : h ≤ 1500) : ∀ x ∈ l, Sz x := by
  obtain ⟨D, a, b⟩ := r
  exact b.rp a h1 h2 h3 h3
theorem Cx1.sz (r : Cx1 d n h x) (h1 : n ≤ 39) (h2 : d ≤ 39) (h3 : h ≤ 1500) : Sz x := by
  obtain ⟨D, a, b⟩ := r
  exact b.rp a h1 h2 h3 h3
theorem CLx.mono {l : List KF} {d' n' h' : Nat} (r : CLx d n h l) (h1 : d ≤ d') (h2 : n ≤ n') (h3 : h ≤ h') : CLx d' n' h' l := by
  obtain ⟨D, a, b⟩ := r
  exact ⟨D, a.mono h1 h3, b.mono h2 h3⟩
theorem CLx.trim {l : List KF} (r : CLx d n h l) : CLx d n h (trimQ l) := by
  obtain ⟨D, a, b⟩ := r
  exact ⟨D, a, b.trim⟩
theorem CLx.neg {l : List KF} (r : CLx d n h l) : CLx d n h (l.map fun c => -c) := by
  obtain ⟨D, a, b⟩ := r
  exact ⟨D, a, b.neg⟩
theorem CLx.add {l q : List KF} (r : CLx d n h l) (s : CLx e p g q) (h1 : d ≤ 100) (h2 : n ≤ 100) (h3 : p ≤ 100) : CLx (d + e) (max (n + e) (p + d)) (h + g + 8) (addQ l q) := by
  obtain ⟨D, a, b⟩ := r
  obtain ⟨E, a', b'⟩ := s
  refine ⟨D * E, (a.mul a' h1).mono (Nat.le_refl _) (by omega), ?_⟩
  exact CL.mono (CL.add (fun i => ((b i).ext a' h2).mono (m := max (n + e) (p + d)) (g := h + g + 7) (by omega) (by omega)) fun i => ((b' i).extL a h3).mono (by omega) (by omega)) (Nat.le_refl _) (by omega)
theorem CLx.scale {l : List KF} (r : CLx d n h l) (s : Cx1 e p g f) (h1 : e ≤ 100) (h2 : p ≤ 100) : CLx (e + d) (p + n) (g + h + 7) (scaleQ f l) := by
  obtain ⟨D, a, b⟩ := r
  obtain ⟨E, a', b'⟩ := s
  exact ⟨E * D, a'.mul a h1, fun i => by rw [scaleQ_co]; exact b'.mul (b i) h2⟩
theorem Cx1.mul (r : Cx1 d n h x) (s : Cx1 e p g y) (h1 : d ≤ 100) (h2 : n ≤ 100) : Cx1 (d + e) (n + p) (h + g + 7) (x * y) := by
  obtain ⟨D, a, b⟩ := r
  obtain ⟨E, a', b'⟩ := s
  exact ⟨D * E, a.mul a' h1, b.mul b' h2⟩
theorem Cx1.list (r : Cx1 d n h x) : CLx d n h [x] := by
  obtain ⟨D, a, b⟩ := r
  refine ⟨D, a, fun i => ?_⟩
  match i with
  | 0 => exact b
  | i + 1 => exact Cd.zero
/-- the height of a product -/
abbrev hm2 (h e p g m : Nat) : Nat := max (h + g + 3 * (p + 1) + m * (gE e g + 7) + 7 + (m + 1)) (h + (m + 1) * gE e g + 7)
/-- products -/
theorem CLx.mul (ra : CLx d n h a) (rb : CLx e p g b) (la : a.length ≤ m + 1) (lb : b.length ≤ 100) (hm : m ≤ 4) (F : Fit d n h e p g m) :
    MulQ Sz a b ∧ CLx (d + (m + 1) * e) (n + p + m * e) (hm2 h e p g m) (mulQ a b) ∧ (mulQ a b).length ≤ 1000 := by
  obtain ⟨D, a1, a2⟩ := ra
  obtain ⟨E, b1, b2⟩ := rb
  obtain ⟨h1, h2, h3⟩ := mulB_q a1 a2 b1 b2 la lb hm F
  refine ⟨h1, ⟨_, h3.mono (Nat.le_refl _) (Nat.le_max_right _ _), h2.mono (Nat.le_refl _) (Nat.le_max_left _ _)⟩, ?_⟩
  · have h6 := (mulSt_len a b a.length).2
    show (mulSt a b a.length).1.length ≤ 1000
    omega
theorem CLx.act (ra : CLx d n h a) (ry : Cx1 e p g y) (la : a.length ≤ m + 1) (hm : m ≤ 5) (F : Fit d n h e p g m) (b3 : g + 6 * (p + 1) ≤ 1500) (b4 : g + 6 * (e + 1) ≤ 1500) :
    ActB Sz a y ∧ Cx1 (d + (m + 1) * e) (n + p + m * e) (hm2 h e p g m) (actQ a y) := by
  obtain ⟨D, a1, a2⟩ := ra
  obtain ⟨E, b1, b2⟩ := ry
  obtain ⟨h1, h2, h3⟩ := actB_q a1 a2 b1 b2 la hm F b3 b4
  exact ⟨h1, _, h3.mono (Nat.le_refl _) (Nat.le_max_right _ _), h2.mono (Nat.le_refl _) (Nat.le_max_left _ _)⟩
/-- a division and its proof -/
structure DivK (a m : List KF) (T : Nat) : Prop where
  s : SdvB Sz a m T
  mq : MulQ Sz (sdv a m T).1 m
  ml : (mulQ (sdv a m T).1 m).length ≤ 1000
  mz : ∀ x ∈ trimQ (mulQ (sdv a m T).1 m), Sz x
  ml2 : (trimQ (mulQ (sdv a m T).1 m)).length ≤ 1000
  rz : ∀ x ∈ (sdv a m T).2, Sz x
  rl : (sdv a m T).2.length ≤ 1000
  eq : trimQ (addQ (trimQ (mulQ (sdv a m T).1 m)) (sdv a m T).2) = a
  lt : (sdv a m T).2.length < m.length
theorem sdv_qlen (a m : List KF) (ha : TrQ a) (hm : TrQ m) (m0 : m ≠ []) {k T : Nat} (lk : a.length ≤ m.length + k) (go : ∀ t, t < T → m.length ≤ (sdv a m t).2.length) : ∀ t, t ≤ T → (sdv a m t).1.length ≤ k + 1
  | 0, _ => Nat.zero_le _
  | t + 1, ht => by
    have ih := sdv_qlen a m ha hm m0 lk go t (by omega)
    have h0 := sdv_len ha hm m0 go t (by omega)
    have h1 := trimQ_le (addQ (sdv a m t).1 (trmQ m (sdv a m t).2))
    have h2 := addQ_len (sdv a m t).1 (trmQ m (sdv a m t).2)
    have h3 := trm_len m (sdv a m t).2
    show (trimQ (addQ (sdv a m t).1 (trmQ m (sdv a m t).2))).length ≤ _
    omega
theorem divK (ra : CLx d n h a) {l : List KF} (rl : CLx e p g l) (ha : TrQ a) (tl : TrQ l) (l0 : l ≠ []) (la : a.length ≤ 100) (ll : l.length ≤ 100) {k H : Nat} (lk : a.length ≤ l.length + k) (hk : k ≤ 4)
    (n1 : d + (k + 1) * p ≤ 39) (n2 : n + (k + 1) * p ≤ 39) (n3 : n + k * p + e ≤ 39) (n4 : h + (k + 1) * (g + 3 * (p + 1) + 8) + (g + 3 * (e + 1) + 7) ≤ H) (hH : H ≤ 1500) (he : e ≤ 39) (F : Fit (d + (k + 1) * p) (n + k * p + e) H e p g k)
    (F5 : hm2 H e p g k ≤ 1500) : ∃ T, DivK a l T := by
  obtain ⟨D, a1, a2⟩ := ra
  obtain ⟨E, b1, b2⟩ := rl
  obtain ⟨T, s, st, R, r1, r2, _⟩ := sdv_B a1 a2 b1 b2 ha tl l0 la ll lk hk n1 n2 n3 (Nat.le_trans n4 hH) he
  have hq : CLx (d + (k + 1) * p) (n + k * p + e) H (sdv a l T).1 := ⟨R, r1.mono (Nat.le_refl _) n4, r2.mono (Nat.le_refl _) n4⟩
  obtain ⟨q1, q2, q3⟩ := CLx.mul hq ⟨E, b1, b2⟩ (sdv_qlen a l ha tl l0 lk s.go T (Nat.le_refl _)) ll hk F
  refine ⟨T, s, q1, q3, q2.trim.sz F.n2 F.n1 F5, Nat.le_trans (trimQ_le _) q3, (s.r T (Nat.le_refl _)).1, Nat.le_trans (s.r T (Nat.le_refl _)).2 (by decide), ?_, st⟩
  refine (trimQ_Tr _).eq ha fun i => ?_
  rw [trimQ_co, addQ_co, trimQ_co]
  exact sdv_eq a l T i
end

end SLT
set_option exponentiation.threshold 256
set_option maxRecDepth 100000
set_option maxHeartbeats 1000000
namespace SL
open PySem PySem.Spec PyProof.Rows L2
section
variable {P : Program} {w : World} {K : PySem.W.Frag} {mg : Str → Option Value} {base : Heap} {k : Nat} {f : Addr} {sp : Sp}
theorem FnT.raw (F : FnT P w K mg base k f sp) : FnR P w K mg base CX0 k f sp := by
  obtain ⟨fd, ps, ds, dvs, sp', F1, hb, hd, hi⟩ := F
  exact FnR.imp (FnOk.raw F1 hb hd) fun vs H Q E q => hi vs H Q E q
end
section
variable {X : Cx} {Γ Δ : Cxt} {e a b c tg iter : Expr} {R S U : Ty} {Rs : List Ty} {pos p : Pos} {k : Nat} {f C : Addr} {sp : Sp} {es : List Expr}
theorem run_in {A : Around} {pins : List (Addr × Obj)} {σ : L2.St} {H : Hp} {s : Shared} {Q : VK} {us : List Value} {ws : List V} (F : FnT X.prog X.w X.K X.mg X.base k f sp) (hr : Room k A) (e0 : Env0 X.prog X.w X.K X.mg X.base A X.stack s H) (I : Inv X pins σ H s) (r : Vals ws us) (h : sp ws H Q E0) :
    wpAny (model X.prog X.w) A (call (.ref f) us) (EP X pins σ Q) X.xe s := wpAny_call (SlX.run_at F.raw hr e0 pass0 I r h)
/-- len(x) -/
def rLenO (C : Addr) (sp : Sp) : List V → Hp → VK → Prop := fun xs H Q => ∃ a dx fs, xs = [.ref a] ∧ H a = some (.ins C dx fs) ∧ sp [.ref a] H (fun v H' => ∃ n : Nat, v = .int n ∧ n < 2 ^ 62 ∧ Q v H') E0
theorem call_lenO (hm : Meth X.K C "__len__" f) (F : FnT X.prog X.w X.K X.mg X.base k f sp) (hr : Room (k + 1) X.A) : CallR X (.builtin "len") (rLenO C sp) := by
  intro pins s σ H xs us Q I r h
  obtain ⟨a, dx, fs, rfl, ha, q⟩ := h
  obtain ⟨u, rfl, ru⟩ := r.one
  cases (show u = Value.ref a from ru)
  obtain ⟨_, _, J⟩ := inst_of I ha
  obtain ⟨mf, hF⟩ := I.fr
  refine PySem.W.len_K hF I.ok.mod.kin J hm.at_ hm.fn (wpAny_mono (run_in (us := [.ref a]) (ws := [.ref a]) F (Room.in1 hr) I.env0.in1 I (.cons rfl .nil) q) (fun v s' z => ?_) fun _ _ z => z)
  obtain ⟨v0, H', I', rz, n, en, hn, qz⟩ := z
  subst en
  obtain ⟨t, e⟩ := (show ∃ t, v = Value.int (n : Int) t from rz)
  subst e
  exact ⟨⟨by omega, by omega⟩, .int n, H', I'.tok _, ⟨_, rfl⟩, qz⟩
theorem et_lenO {n : Nat} (hm : Meth X.K C "__len__" f) (F : FnT X.prog X.w X.K X.mg X.base k f (spT [R] (tI (n : Nat)))) (hr : Room (k + 1) X.A) (hR : IsIns C R) (hn : n < 2 ^ 62) (hg : Gl X "len") (hb : X.mg "len" = none) (ha : ET X Γ a R) (hs : starEach [a] X.env = (false, eval a X.env) :: starEach [] X.env := by rfl) : ET X Γ (.Call (.Name "len" p) [a] [] pos) (tI (n : Nat)) := by
  refine et_callB (call_lenO hm F hr) hg hb rfl (at_one ha hs) (fun xs H Q h q => ?_) (by decide) rfl hs rfl
  obtain ⟨v, e, h1⟩ := tvs_one h
  subst e
  obtain ⟨p, dx, fs, rfl, hp⟩ := hR v H h1
  exact ⟨p, dx, fs, rfl, hp, ⟨h1, trivial⟩, fun v H' sm u => ⟨n, u, hn, q v H' sm u⟩⟩
/-- x[i] -/
theorem ix_own (hm : Meth X.K C "__getitem__" f) (hf : PySem.W.fnIn X.K f = true) (F : FnT X.prog X.w X.K X.mg X.base k f sp) (hr : Room (k + 1) X.A) {value slice : Expr} (hsl : ∀ x i, subscripted slice true (.ref x) i = runValue (.builtin "lifetime.subscript" ⟨[.ref x, i], []⟩))
    {pins : List (Addr × Obj)} {s : Shared} {σ : L2.St} {H : Hp} {x y : V} {v u : Value} {Q : VK} (I : Inv X pins σ H s) (rx : RelV x v) (ry : RelV y u) (h : (∃ p dx fs, x = .ref p ∧ H p = some (.ins C dx fs)) ∧ sp [x, y] H Q E0) : wpAny (model X.prog X.w) X.A (subscriptTail value slice v u) (EP X pins σ Q) X.xe s := by
  obtain ⟨⟨p, dx, fs, rfl, hp⟩, q⟩ := h
  obtain rfl : v = Value.ref p := rx
  obtain ⟨_, _, J⟩ := inst_of I hp
  obtain ⟨mf, hF⟩ := I.fr
  exact PySem.W.sub_K hF I.ok.mod.kin J hm.at_ hf hm.fn (run_in (us := [.ref p, u]) (ws := [.ref p, y]) F (Room.in1 hr) I.env0.in1 I (.cons rfl (.cons ry .nil)) q) (hsl _ _)
theorem et_ixO (hm : Meth X.K C "__getitem__" f) (hf : PySem.W.fnIn X.K f = true) (F : FnT X.prog X.w X.K X.mg X.base k f (spT [R, S] U)) (hr : Room (k + 1) X.A) (hR : IsIns C R) (ha : ET X Γ a R) (hb : ET X Γ b S) (hsl : ∀ x i, subscripted b true (.ref x) i = runValue (.builtin "lifetime.subscript" ⟨[.ref x, i], []⟩) := by intro _ _; rfl) : ET X Γ (.Subscript a b pos) U := fun σ H ok => by
  refine wE_of (t := tOp (fun x y H Q => (∃ p dx fs, x = .ref p ∧ H p = some (.ins C dx fs)) ∧ spT [R, S] U [x, y] H Q E0) (wE X a) (wE X b)) ⟨fun pins s σ H Q I h => ?_⟩ (bin_use ha hb (fun x y H Q h1 h2 q => ⟨hR x H h1, ⟨h1, h2, trivial⟩, q⟩) ok fun _ _ s u => ⟨s, u⟩)
  exact Subscript_ (binT pe_w pe_w I h fun v u s2 x y H2 I2 rx ry q => ix_own hm hf F hr hsl I2 rx ry q)
/-- x(..) -/
theorem et_callO {fe : Expr} {g : Addr} (hm : Meth X.K C "__call__" g) (hf : PySem.W.fnIn X.K g = true) (F : FnT X.prog X.w X.K X.mg X.base k g (spT (R :: Rs) U)) (hr : Room k X.A) (hR : IsIns C R) (he : ET X Γ fe R) (ha : AT X Γ (e :: es) Rs)
    (ht : eval (.Call fe (e :: es) [] pos) X.env = (do callWith pos (← eval fe X.env) [] (backTo pos (starEach (e :: es) X.env)) (backToKw pos (keywordEach [] X.env))) := by rfl)
    (hs : starEach (e :: es) X.env = (false, eval e X.env) :: starEach es X.env := by rfl) (hpl : (backTo pos (starEach es X.env)).any (·.1) = false := by rfl) : ET X Γ (.Call fe (e :: es) [] pos) U := fun σ H ok => by
  refine wE_of (StX.pe_callO (E := E0) pe_w ⟨hm.at_, hm.fn, hf⟩ F.raw hr pass0 pa_w ht hs hpl) (he.use ok fun v H1 s1 ok1 r => ?_)
  obtain ⟨a, dx, fs, rfl, hp⟩ := hR v H1 r
  exact ⟨a, rfl, ha.use ok1 fun vs H2 s2 _ rs => ⟨.inr ⟨dx, fs, s2 _ _ hp⟩, ⟨R.mono s2 r, rs⟩, fun u H3 s3 q => ⟨(s1.trans s2).trans s3, q⟩⟩⟩
end
/-- at it: the iterator of the tuple at t, at its start -/
def ItT (t it : Addr) : HO := .ext fun h => h.IsTupleIter it t 0
theorem itT_ok {P : Program} {w : World} {H : Hp} {h : Heap} {t it : Addr} (e : h.IsTupleIter it t 0) : ObjOk P w H h it (ItT t it) := ⟨e, by obtain ⟨o, ho, _⟩ := e; exact ⟨o, ho⟩, fun h1 h2 q k => q.at fun o e => k _ e⟩
def rIterT (K : PySem.W.Frag) (n : Nat) : List V → Hp → VK → Prop := fun xs H Q => ∃ (t : Addr) (zs : List V), xs = [.ref t] ∧ SqT K H t zs ∧ ∀ it, H it = none → n ≤ it → Q (.ref it) (upd H it (ItT t it))
section
variable {X : Cx} {Γ Δ : Cxt} {e a b c tg iter : Expr} {R S U : Ty} {Rs : List Ty} {pos p : Pos} {k : Nat} {f C : Addr} {sp : Sp} {es : List Expr}
theorem call_iterT : CallR X (.builtin "iter") (rIterT X.K X.s_0.heap.objs.size) := by
  intro pins s σ H xs us Q I r h
  obtain ⟨t, zs, rfl, hq, q⟩ := h
  obtain ⟨u, rfl, ru⟩ := r.one
  cases (show u = Value.ref t from ru)
  obtain ⟨its, rv, pt, hz⟩ := I.tuple hq
  refine Calls.call_function_entry (by decide +kernel) (by decide +kernel) PySem.W.kdk_entry_iter (PySem.W.kdk_args_iter _) ?_
  unfold Builtin.«iter»
  refine wpAny_bind (m := someArgs "iter" 1 2 _) (wpAny_of_eq (a := [Value.ref t]) (by first | rfl | kernel_rfl!) ?_)
  show wpAny _ _ (pyIter (.ref t) >>= _) _ _ _
  refine wpAny_bind (wpAny_pyIter_tuple (show s.heap.IsTuple t its.toArray from pt) (wpAny_pure ⟨_, rfl, ?_⟩))
  exact ⟨.ref s.heap.objs.size, _, I.laid (t' := s.toks) (fun b u e => Heap.get?_push_of_some _ e) (Nat.le_refl _) (itT_ok ⟨_, Heap.get?_push_size _ rfl, rfl, rfl⟩), rfl, q _ (I.hok.fresh (Nat.le_refl _)) I.sz⟩
/-- what such an __iter__ promises -/
def spIt (K : PySem.W.Frag) (R : Ty) (Rs : List Ty) (n : Nat) : Sp := fun vs H Q _ => TVs vs [R] H ∧ ∀ t xs H' it, Same H H' → SqT K H' t xs → TVs xs Rs H' → H' it = none → n ≤ it → Q (.ref it) (upd H' it (ItT t it))
/-- a def at f, its promise told by the size of the heap at the call -/
def FnZ (P : Program) (w : World) (K : PySem.W.Frag) (mg : Str → Option Value) (base : Heap) (k : Nat) (f : Addr) (sp : Nat → Sp) : Prop :=
  ∀ (A : Around) (out : List Env) (s : Shared) (H : Hp) (us : List Value) (vs : List V) (Q : VK), Room k A → Env0 P w K mg base A out s H → Vals vs us → sp s.heap.objs.size vs H Q E0 → codeAny (model P w) A (.call (.ref f) ⟨us, []⟩) (CR CX0 out P w H s Q E0) s
theorem fnZ_of {P : Program} {w : World} {K : PySem.W.Frag} {mg : Str → Option Value} {base : Heap} {fd : FuncData} {N ps : List Str} {x qual : Str} {params : Arguments} {body : List Stmt} {scope : Scope} {dvs : List V} {kws : List (Str × V)} {sz : Nat → Sp}
    (D : FunD K x qual params body scope dvs kws f fd) (S : FnScope N ps scope) (bi : L2.Binds K fd ps []) (hl : ∀ n vs H Q, sz n vs H Q E0 → vs.length = ps.length)
    (hb : ∀ cdv A outer s H vs Q, Room k (A.deeper (envOfC qual scope s.heap.objs.size f cdv)) → sz s.heap.objs.size vs H Q E0 → wB (BodyCx P w K mg base N qual scope f cdv A outer s H) body { nx := fun _ H' => Q .non H', rt := Q } (L2.start N vs) H) : FnZ P w K mg base (k + 1) f sz := by
  obtain ⟨oc, od, dV, kV, doc, pm, an, cdv, ct, osl, efd, lk, hcd, _, _⟩ := D.ex
  subst efd
  intro A out s H us vs Q hr e0 rv hz
  have lv := hl _ _ _ _ hz
  have KX : K.In s.heap := PySem.W.Frag.In.keeps e0.mod.kin fun b o q => (e0.bs b o q).1
  have hb0 := bi s us KX (by rw [List.append_nil, ← rv.length, lv])
  rw [List.append_nil] at hb0
  have noLim : s.heap.NoLimit := e0.mod.nolimit.keeps fun b o q => (e0.bs b o q).1
  have kinds : ∀ y ∈ ps.zip us, scope.names.lookup y.1 = some .local ∨ (scope.names.lookup y.1 = some .cell ∧ ((cellsFrom (s.heap.objs.size + 1) scope.names []).lookup y.1).isSome = true) := fun ⟨n, v⟩ hy =>
    (S.par n (List.of_mem_zip hy).1).imp id fun q => ⟨q, PySem.W.cellsFrom_some _ _ _ (.inl q)⟩
  refine codeAny_call_function hr.depth (KX _ _ lk) rfl S.co S.gen rfl (PySem.W.codeRec_of KX hcd) (hb0 _ _ _ _ (wpAny_newFunctionEnv_cells S.kind kinds fun env he sA xA => ?_))
  subst he
  refine ⟨noLim.keeps xA.toInCall.keep, codeAny_func ?_⟩
  have I0 : Inv (cxOf CX0 P w K mg base N qual scope f cdv A out s H E0) [] (L2.start N vs) H sA := inv_start S hr.hd e0 lv rv xA
  have hB := hb cdv A out s H vs Q (hr.deeper _) hz
  have pB : PSs (cxOf CX0 P w K mg base N qual scope f cdv A out s H E0) body (wB (BodyCx P w K mg base N qual scope f cdv A out s H) body) := PSs.nox pb_w
  refine wpAny_mono (pB.run [] sA (L2.start N vs) H _ I0 hB) (fun fl sE hE => ?_) fun e sE hE => hE
  cases fl with
  | brk => exact hE.elim fun _ ⟨_, _, z⟩ => z.elim
  | cont => exact hE.elim fun _ ⟨_, _, z⟩ => z.elim
  | next =>
    obtain ⟨_, HE, J, q⟩ := hE
    exact ⟨V.non, HE, J.os, J.bare, J.base, J.hok, rfl, q⟩
  | ret u =>
    obtain ⟨v, _, HE, J, r1, q⟩ := hE
    exact ⟨v, HE, J.os, J.bare, J.base, J.hok, r1, q⟩
/-- the walk over it, told by what __iter__ is to keep -/
def iOwn (K : PySem.W.Frag) (C : Addr) (sp : Nat → Sp) (te : TE) : TI := fun σ H Rk => te σ H fun x H1 => (∃ a dx fs, x = .ref a ∧ H1 a = some (.ins C dx fs)) ∧ ∀ n, sp n [x] H1 (fun v H2 => ∃ t it, v = .ref it ∧ n ≤ it ∧ H2 it = some (ItT t it) ∧ Rk (Itt K t) (ItX.dropH H2 it)) E0
theorem pi_own {sz : Nat → Sp} (hm : Meth X.K C "__iter__" f) (F : FnZ X.prog X.w X.K X.mg X.base k f sz) (hr : Room k X.A) {te : TE} (he : PE X e te) : PI X tg e (iOwn X.K C sz te) := by
  refine ⟨fun pins s σ H Rk I h => ?_⟩
  refine thn (he.run pins s σ H _ I h) fun v s1 ⟨x, H1, I1, r1, ⟨a, dx, fs, ex, hp⟩, q⟩ => ?_
  subst ex
  obtain rfl : v = Value.ref a := r1
  obtain ⟨_, _, J⟩ := inst_of I1 hp
  obtain ⟨mf, hF⟩ := I1.fr
  refine PySem.W.owit_iter hF I1.ok.mod.kin J hm.at_ hm.fn (wpAny_call (codeAny_mono (F X.A X.stack s1 H1 [.ref a] [.ref a] _ hr I1.env0 (.cons rfl .nil) (q _)) fun r s' hq => ?_))
  cases r with
  | error e => exact hq.elim
  | ok fl =>
    cases fl with
    | next => exact False.elim hq
    | brk => exact False.elim hq
    | cont => exact False.elim hq
    | ret u =>
      obtain ⟨v0, H2, os, bare, un, hok, rv, t, it, ev, n1, n2, qk⟩ := (hq : CE X.stack X.prog X.w H1 s1 _ u s')
      subst ev
      obtain rfl : u = Value.ref it := rv
      obtain ⟨hh, g, d, tk, os'⟩ := s'
      obtain rfl : os' = s1.os := os
      have I2 : Inv X pins σ H2 ⟨hh, g, d, tk, s1.os⟩ := I1.call (h' := hh) (g' := g) (d' := d) (t' := tk) (ch := []) un hok bare (fun b z => absurd z (by simp))
      have hit : hh.IsTupleIter it t 0 := by
        have x : ObjOk X.prog X.w H2 hh it (.ext fun h => h.IsTupleIter it t 0) := hok it _ n2
        exact x.1
      have young : X.s_0.heap.objs.size ≤ it := Nat.le_trans I1.sz n1
      have hT : (⟨hh, g, d, tk, s1.os⟩ : Shared).TypeIs (.ref it) "tuple_iterator" := hit.typeIs
      refine wpAny_specialOf (name := Str.ofString "__next__") hT PySem.F.slot_tuple_iterator_next.lookup ?_
      refine ⟨it, [it], _, _, ItX.dropH H2 it, rfl, ItX.inv_drop I2 n2, turn_tuple t it, hit, fun b hb => ?_, qk⟩
      have e : b = it := by simpa using hb
      rw [e]
      exact ItX.inv_fp I2 n2 young
theorem sqT_drop {K : PySem.W.Frag} {H : Hp} {t it : Addr} {xs : List V} (h : SqT K H t xs) (n : H it = none) : SqT K (ItX.dropH (upd H it (ItT t it)) it) t xs := by
  rw [ItX.dropH_upd n]; exact h
/-- for .. in x -/
theorem it_own {m : List Addr} {Rf : Nat → Ty} (hm : Meth X.K C "__iter__" f) (F : FnZ X.prog X.w X.K X.mg X.base k f (spIt X.K R Rs)) (hr : Room k X.A) (hR : IsIns C R) (he : ET X Γ iter R) (hRf : ∀ i, i < Rs.length → Rs[i]? = some (Rf i)) (hmS : ∀ R ∈ Rs, Stb m R) : IT_ m X Γ tg iter Rs.length Rf :=
  ⟨_, pi_own hm F hr pe_w, fun σ H ok Rk h => he.use ok fun v H1 s1 ok1 r => ⟨hR v H1 r, fun n => ⟨⟨r, trivial⟩, fun t xs H2 it sm hq ts hn hni => ⟨t, it, rfl, hni, upd_same, by
    rw [ItX.dropH_upd hn]
    have s2 := s1.trans sm
    refine h _ H2 s2 (ok1.up sm) fun H3 s3 => ⟨fun i hi => ?_, ⟨xs, sqT_m s3 hq, Nat.le_of_eq ts.len⟩⟩
    obtain ⟨u, hu, ru⟩ := (ts.stb hmS s3).get (hRf i hi)
    have q2 := sqT_m s3 hq
    refine ⟨⟨xs, u, q2, hu⟩, fun y H' ⟨e1, e2⟩ => ?_⟩
    subst e1
    have := e2 xs q2
    rw [hu] at this
    cases this
    exact ⟨Same.refl _, ru⟩⟩⟩⟩⟩
end
end SL
set_option exponentiation.threshold 256
set_option maxRecDepth 100000
set_option maxHeartbeats 1000000
namespace SL
open PySem PySem.Spec PyProof.Rows L2
section
variable {prog : Program} {w : World} {A : Around} {R : Result → Shared → Prop}
/-- the lists' != , all items equal: no -/
theorem ne_loop (l b : Addr) (N : Nat) (J : Nat → Shared → Prop) (hl : GQ.ListI prog w A (fun e s' => R (.error e) s') l b N J) (fin : ∀ s, J N s → R (.ok (.ret (.bool false))) s) :
    ∀ (k i : Nat), N - i = k → i ≤ N → ∀ s, J i s → wpAny (model prog w) A.in1 (Builtin.«list.__eq__.loop» ⟨[.ref l, .ref b, rawInt i, rawInt 3], []⟩) (GQ.FinOf prog w A R) (fun e s' => R (.error e) s') s
  | 0, i, hk, hi, s, h => by
    obtain ⟨us, vs, n1, n2, g1, g2, z1, z2, _⟩ := hl _ _ h
    have ei : i = N := by omega
    have last : R (.ok (.ret (.bool false))) s := fin s (ei ▸ h)
    obtain ⟨hp, g, d, tk, os⟩ := s
    wp_walk using wpAny_loadPart' g1, wpAny_loadPart' g2
    have y1 : us[((i : Nat) : Int).toNat]? = none := by simp; omega
    have y2 : vs[((i : Nat) : Int).toNat]? = none := by simp; omega
    rw [y1, y2]
    wp_walk using wpAny_loadPart' g1, wpAny_loadPart' g2
    show R (.ok (.ret (.bool (us.size != vs.size)))) _
    rw [z1, z2]
    simpa using last
  | k + 1, i, hk, hi, s, h => by
    obtain ⟨us, vs, n1, n2, g1, g2, z1, z2, turn⟩ := hl _ _ h
    have k1 : i < us.size := by omega
    have k2 : i < vs.size := by omega
    have step := turn k1 k2
    obtain ⟨hp, g, d, tk, os⟩ := s
    wp_walk using wpAny_loadPart' g1, wpAny_loadPart' g2
    have y1 : us[((i : Nat) : Int).toNat]? = some us[i] := by simp [k1]
    have y2 : vs[((i : Nat) : Int).toNat]? = some vs[i] := by simp [k2]
    have nxt : ((i : Int) + 1) = ((i + 1 : Nat) : Int) := by omega
    rw [y1, y2]
    refine wpAny_bind (wpAny_mono step (fun r sN hN => ?_) fun _ _ x => x)
    obtain ⟨rfl, hN⟩ := hN
    have rest := ne_loop l b N J hl fin k (i + 1) (by omega) (by omega) sN hN
    obtain ⟨hp2, gN, dN, tN, oN⟩ := sN
    wp_walk
    rw [nxt]
    refine ⟨plainId_quiet PySem.MeetsSeq3.plain_eq_loop _, codeAny_builtin PySem.MeetsSeq3.entry_eq_loop ?_⟩
    rw [Around.under_plainId PySem.MeetsSeq3.plain_eq_loop _]
    exact rest
theorem list_ne0 (l b : Addr) (N : Nat) (J : Nat → Shared → Prop) (hl : GQ.ListI prog w A (fun e s' => R (.error e) s') l b N J) (fin : ∀ s, J N s → R (.ok (.ret (.bool false))) s) {s : Shared} (h : J 0 s) :
    wpAny (model prog w) A.in1 (Builtin.«list.__ne__» ⟨[.ref l, .ref b], []⟩) (GQ.FinOf prog w A R) (fun e s' => R (.error e) s') s := by
  obtain ⟨us, vs, n1, n2, g1, g2, z1, z2, _⟩ := hl _ _ h
  have rest := ne_loop (A := A) (R := R) l b N J hl fin _ 0 rfl (Nat.zero_le _) s h
  obtain ⟨hp, g, d, tk, os⟩ := s
  have same := AutoSeq1.sub_list_list
  have hne : ¬ (us.size != vs.size) = true := by simp [z1, z2]
  wp_walk using wpAny_loadPart' g1, wpAny_loadPart' g2
  refine ⟨plainId_quiet PySem.MeetsSeq3.plain_eq_loop _, codeAny_builtin PySem.MeetsSeq3.entry_eq_loop ?_⟩
  rw [Around.under_plainId PySem.MeetsSeq3.plain_eq_loop _]
  exact rest
end
section
variable {X : Cx} {Γ : Cxt} {a b : Expr} {R S U : Ty} {Rs Ss : List Ty} {pos : Pos} {n : Nat} {C f : Addr} {m1 m2 : List Addr}
theorem op_neL {k : Nat} (hl : Rs.length = Ss.length) (h : EqAll X n Rs Ss fun _ => true) (hr : Room (n + 1) X.A) : OpR X (compareOp .NotEq) (rRcB (tLn m1 Rs) (tLn m2 Ss) false) := by
  intro pins s σ H x y v u Q I rx ry q
  obtain ⟨⟨p, xs, rfl, _, hx, tx⟩, ⟨p2, ys, rfl, _, hy, ty⟩, kk⟩ := q
  obtain rfl : v = Value.ref p := rx
  obtain rfl : u = Value.ref p2 := ry
  obtain ⟨_, its, k1, r1, e1⟩ := I.hok p _ hx
  obtain ⟨_, its2, k2, r2, e2⟩ := I.hok p2 _ hy
  have sb : L2.Sub X (n + 1) X.A := ⟨hr, rfl⟩
  show wpAny _ _ (richCompare .NotEq (.ref p) (.ref p2)) _ _ s
  refine wpAny_richCompare_same_room (op := .NotEq) ⟨_, e1, rfl⟩ ⟨_, e2, rfl⟩ PySem.F.slot_list_ne (GQ.call_here PySem.F.slot_list_ne ⟨_, e1, rfl⟩ PySem.F.entry_list_ne (PySem.F.args_list_ne_2 _ _) ?_) hr.units0
  refine list_ne0 (R := wants (fun v s' => v ≠ .notImplemented ∧ EP X pins σ Q v s') X.xe) p p2 xs.length (fun _ s' => ∃ H', L2.Inv X pins σ H' s' ∧ Same H H') (fun i s' J => ?_) (fun s' J => ?_) ⟨H, I, Same.refl H⟩
  · obtain ⟨H1, I1, sm⟩ := id J
    obtain ⟨_, itsA, kA, rA, eA⟩ := I1.hok p _ (sm _ _ hx)
    obtain ⟨_, itsB, kB, rB, eB⟩ := I1.hok p2 _ (sm _ _ hy)
    refine ⟨itsA.toArray, itsB.toArray, kA, kB, eA, eB, by rw [List.size_toArray, ← rA.length], by rw [List.size_toArray, ← rB.length, tx.len, ty.len, hl], fun h1 h2 => ?_⟩
    exact turn_B h sb tx ty rA rB i h1 h2 s' J
  · obtain ⟨H1, I1, sm⟩ := J
    exact ⟨(by intro z; cases z), .bl false, H1, I1, rfl, kk _ H1 sm rfl⟩
theorem et_neL (hl : Rs.length = Ss.length) (h : EqAll X n Rs Ss fun _ => true) (hr : Room (n + 1) X.A) (ha : ET X Γ a (tLn m1 Rs)) (hb : ET X Γ b (tLn m2 Ss)) (hm : behindInMarks .NotEq b = false := by rfl) : ET X Γ (.Compare a [.NotEq] [b] pos) (tB false) :=
  et_cmp (op_neL (k := 0) hl h hr) ha hb (fun x y H Q h1 h2 k => ⟨h1, h2, k⟩) hm
theorem tt_neL (hl : Rs.length = Ss.length) (h : EqAll X n Rs Ss fun _ => true) (hr : Room (n + 1) X.A) (ha : ET X Γ a (tLn m1 Rs)) (hb : ET X Γ b (tLn m2 Ss)) (hm : behindInMarks .NotEq b = false := by rfl) : TT_ X Γ (.Compare a [.NotEq] [b] pos) false :=
  tt_cmp (op_neL (k := 0) hl h hr) ha hb (fun x y H Q h1 h2 k => ⟨h1, h2, k⟩) hm
/-- x == y, x an instance with its own ==, y an instance of another class -/
theorem op_eqX {C' : Addr} {d : Bool} (hm : Meth X.K C "__eq__" f) (nf : PySem.W.notFirst X.K C (.ref C') = true) (F : FnT X.prog X.w X.K X.mg X.base n f (spT [R, S] (tB d))) (hr : Room n X.A) (hR : IsIns C R) (hS : IsIns C' S) : OpR X (compareOp .Eq) (rRcB R S d) := by
  intro pins s σ H x y v u Q I rx ry q
  obtain ⟨px, py, k⟩ := q
  obtain ⟨p, dx, fs, rfl, hp⟩ := hR x H px
  obtain ⟨p2, dy, gs, rfl, hq⟩ := hS y H py
  obtain rfl : v = Value.ref p := rx
  obtain rfl : u = Value.ref p2 := ry
  obtain ⟨_, _, J⟩ := inst_of I hp
  obtain ⟨_, _, J'⟩ := inst_of I hq
  obtain ⟨mf, hF⟩ := I.fr
  show wpAny _ _ (richCompare .Eq (.ref p) (.ref p2)) _ _ s
  refine PySem.W.cmp_K (op := .Eq) (tb := .ref C') hr.units0 hF I.ok.mod.kin J J'.type nf hm.at_ hm.fn ?_
  exact wpAny_mono (run_T (us := [.ref p, .ref p2]) (vs := [.ref p, .ref p2]) (Q := Q) F hr I (.cons rfl (.cons rfl .nil)) ⟨⟨px, py, trivial⟩, fun v H' sm q => k v H' sm q⟩) (fun r s' ⟨z, H', I', rz, qz⟩ => back_of rz ⟨z, H', I', rz, qz⟩) fun _ _ z => z
theorem tt_eqX {C' : Addr} {d : Bool} (hm : Meth X.K C "__eq__" f) (nf : PySem.W.notFirst X.K C (.ref C') = true) (F : FnT X.prog X.w X.K X.mg X.base n f (spT [R, S] (tB d))) (hr : Room n X.A) (hR : IsIns C R) (hS : IsIns C' S) (ha : ET X Γ a R) (hb : ET X Γ b S) (hmk : behindInMarks .Eq b = false := by rfl) : TT_ X Γ (.Compare a [.Eq] [b] pos) d :=
  tt_cmp (op_eqX hm nf F hr hR hS) ha hb (fun x y H Q h1 h2 k => ⟨h1, h2, k⟩) hmk
/-- x == None -/
theorem op_eqNo {d : Bool} (hm : Meth X.K C "__eq__" f) (nf : PySem.W.notFirst X.K C (.type "NoneType") = true) (F : FnT X.prog X.w X.K X.mg X.base n f (spT [R, tN] (tB d))) (hr : Room n X.A) (hR : IsIns C R) : OpR X (compareOp .Eq) (rRcB R tN d) := by
  intro pins s σ H x y v u Q I rx ry q
  obtain ⟨px, py, k⟩ := q
  obtain ⟨p, dx, fs, rfl, hp⟩ := hR x H px
  cases (show y = .non from py)
  obtain rfl : v = Value.ref p := rx
  obtain rfl : u = Value.none := ry
  obtain ⟨_, _, J⟩ := inst_of I hp
  obtain ⟨mf, hF⟩ := I.fr
  show wpAny _ _ (richCompare .Eq (.ref p) .none) _ _ s
  refine PySem.W.cmp_K (op := .Eq) (tb := .type "NoneType") hr.units0 hF I.ok.mod.kin J (PySem.W.Looks.of_pure rfl) nf hm.at_ hm.fn ?_
  exact wpAny_mono (run_T (us := [.ref p, .none]) (vs := [.ref p, .non]) (Q := Q) F hr I (.cons rfl (.cons rfl .nil)) ⟨⟨px, rfl, trivial⟩, fun v H' sm q => k v H' sm q⟩) (fun r s' ⟨z, H', I', rz, qz⟩ => back_of rz ⟨z, H', I', rz, qz⟩) fun _ _ z => z
theorem tt_eqNo {d : Bool} (hm : Meth X.K C "__eq__" f) (nf : PySem.W.notFirst X.K C (.type "NoneType") = true) (F : FnT X.prog X.w X.K X.mg X.base n f (spT [R, tN] (tB d))) (hr : Room n X.A) (hR : IsIns C R) (ha : ET X Γ a R) (hb : ET X Γ b tN) (hmk : behindInMarks .Eq b = false := by rfl) : TT_ X Γ (.Compare a [.Eq] [b] pos) d :=
  tt_cmp (op_eqNo hm nf F hr hR) ha hb (fun x y H Q h1 h2 k => ⟨h1, h2, k⟩) hmk
theorem r_eqB {d e : Bool} : R2T rEq (tB d) (tB e) (tB (decide (d = e))) := fun x y H Q h1 h2 k => by
  cases (show x = .bl d from h1)
  cases (show y = .bl e from h2)
  refine ⟨rfl, ?_⟩
  have q : decide (V.bl d = V.bl e) = decide (d = e) := by simp
  rw [q]
  exact k _ H (Same.refl H) rfl
theorem r_neB {d e : Bool} : R2T rNe (tB d) (tB e) (tB (!decide (d = e))) := fun x y H Q h1 h2 k => by
  cases (show x = .bl d from h1)
  cases (show y = .bl e from h2)
  refine ⟨rfl, ?_⟩
  have q : decide (V.bl d = V.bl e) = decide (d = e) := by simp
  rw [q]
  exact k _ H (Same.refl H) rfl
theorem ev_eqB {d e : Bool} (ha : ET X Γ a (tB d)) (hb : ET X Γ b (tB e)) (hm : behindInMarks .Eq b = false := by rfl) : ET X Γ (.Compare a [.Eq] [b] pos) (tB (decide (d = e))) := et_cmp op_eq ha hb r_eqB hm
theorem tt_neB {d e : Bool} (ha : ET X Γ a (tB d)) (hb : ET X Γ b (tB e)) (hm : behindInMarks .NotEq b = false := by rfl) : TT_ X Γ (.Compare a [.NotEq] [b] pos) (!decide (d = e)) := tt_cmp op_ne ha hb r_neB hm
theorem tvs_two' {vs : List V} {R S : Ty} {H : Hp} (h : TVs vs [R, S] H) : ∃ v c, vs = [v, c] ∧ R.p v H ∧ S.p c H := by
  match vs, h with
  | [v, c], ⟨h1, h2, _⟩ => exact ⟨v, c, rfl, h1, h2⟩
/-- isinstance of a truth value, of an int -/
theorem r_isiBl {K : PySem.W.Frag} {d b : Bool} {T : String} (hk : PySem.W.kitOne K (.type "bool") (.type T) = some b) : RnT (rIsi K) [tB d, tV (.ty T)] (tB b) := by
  intro xs H Q h k
  obtain ⟨v, c, e, h1, h2⟩ := tvs_two' h
  cases (show v = .bl d from h1)
  cases (show c = .ty T from h2)
  exact ⟨_, _, _, _, _, e, .ty T, .base (.bl d), hk, k _ H (Same.refl H) rfl⟩
theorem r_isiIn {K : PySem.W.Frag} {n : Int} {b : Bool} {T : String} (hk : PySem.W.kitOne K (.type "int") (.type T) = some b) : RnT (rIsi K) [tI n, tV (.ty T)] (tB b) := by
  intro xs H Q h k
  obtain ⟨v, c, e, h1, h2⟩ := tvs_two' h
  cases (show v = .int n from h1)
  cases (show c = .ty T from h2)
  exact ⟨_, _, _, _, _, e, .ty T, .base (.int n), hk, k _ H (Same.refl H) rfl⟩
/-- isinstance(None, C) -/
theorem r_isiNo {K : PySem.W.Frag} {b : Bool} (hk : PySem.W.kitOne K (.type "NoneType") (.ref C) = some b) : RnT (rIsi K) [tN, tV (.ref C)] (tB b) := by
  intro xs H Q h k
  obtain ⟨v, c, e, h1, h2⟩ := tvs_two' h
  cases (show v = .non from h1)
  cases (show c = .ref C from h2)
  exact ⟨_, _, _, _, _, e, .own C, .base .non, hk, k _ H (Same.refl H) rfl⟩
theorem tt_eqXs {l : List Str} (hu : X.A.units + 64 < cLine) (ha : ET X Γ a (tLn m1 (l.map tX))) (hb : ET X Γ b (tLn m2 (l.map tX))) (hm : behindInMarks .Eq b = false := by rfl) : ET X Γ (.Compare a [.Eq] [b] pos) (tB true) := by
  refine et_cmp (op_eqV hu) ha hb (fun x y H Q h1 h2 k => ?_) hm
  obtain ⟨p, xs, rfl, _, hx, tx⟩ := h1
  obtain ⟨q, ys, rfl, _, hy, ty⟩ := h2
  have e : ∀ {vs : List V} {l : List Str} {H : Hp}, TVs vs (l.map tX) H → vs = l.map V.str := by
    intro vs
    induction vs with
    | nil => intro l H h; cases l with
      | nil => rfl
      | cons _ _ => exact h.elim
    | cons v vs ih => intro l H h; cases l with
      | nil => exact h.elim
      | cons z l =>
        obtain ⟨h1, h2⟩ := h
        cases (show v = .str z from h1)
        rw [ih h2]; rfl
  refine ⟨1, by decide, .inl ⟨p, q, xs, ys, rfl, rfl, SqL.of hx, SqL.of hy, ?_⟩, k _ H (Same.refl H) rfl⟩
  rw [e tx, e ty]
  have : ∀ l : List Str, Paired (EqV X.K H 1) (l.map V.str) (l.map V.str) := fun l => by
    induction l with
    | nil => exact .nil
    | cons z l ih => exact .cons (.inl ⟨rfl, rfl⟩) ih
  exact this l
end
end SL
set_option maxRecDepth 100000
set_option maxHeartbeats 1000000
set_option exponentiation.threshold 100
namespace SLT
open PySem PySem.Spec PyProof.Rows L2 SL SW
/-- what is not -/
def tNo : Ty := ⟨fun _ _ => False, fun _ h => h⟩
theorem bt_no {X : Cx} {Γ : Cxt} {sts : List Stmt} {t : Tg} (i : Nat) (h : Γ[i]? = some (some tNo)) : BT X Γ sts t := fun σ H D ok te => by
  obtain ⟨v, _, z⟩ := ok.2 i _ h
  exact z.elim
theorem fn_at {K : PySem.W.Frag} {d : He.DefD} {f : Addr} {fd : FuncData} (D : DefAt K d f fd) : PySem.W.fnIn K f = true := by
  obtain ⟨oc, od, dV, kV, doc, pm, an, cdv, ct, osl, e, lk, _⟩ := D.ex
  unfold PySem.W.fnIn
  rw [lk]
section
variable {P : Program} {w : World} {K : PySem.W.Frag} {mg : Str → Option Value} {base : Heap} {k : Nat}
section
variable {X : Cx} {Γ : Cxt} {e a b fe : Expr} {pos pp : Pos} {l : List KF} {y : KF}
theorem et_lenS (B : Bs X.prog X.K X.mg) (hr : Room 37 X.A) (hl : l.length < 2 ^ 62) (hg : Gl X "len") (he : ET X Γ e (tS X.K l)) (hs : starEach [e] X.env = (false, eval e X.env) :: starEach [] X.env := by rfl) : ET X Γ (.Call (.Name "len" pp) [e] [] pos) (tI (l.length : Nat)) :=
  et_lenO B.F.me_Steps_len (w_Slen B l) hr isS hl hg B.F.b_len he hs
theorem et_ixS' (B : Bs X.prog X.K X.mg) (hr : Room 61 X.A) (i : Nat) {j : Int} (hj : j = i) (he : ET X Γ e (tS X.K l)) (hb : ET X Γ b (tI j)) (hsl : ∀ x i, subscripted b true (.ref x) i = runValue (.builtin "lifetime.subscript" ⟨[.ref x, i], []⟩) := by intro _ _; rfl) : ET X Γ (.Subscript e b pos) (tq X.K (l.getD i 0)) := by
  obtain ⟨fd', D⟩ := B.F.d_Steps_getitem
  subst hj
  exact et_ixO B.F.me_Steps_getitem (fn_at D) (w_Sget B (fun base => opsK B base) l i) hr isS he hb hsl
theorem et_callS (B : Bs X.prog X.K X.mg) (hr : Room 60 X.A) (h : ActB Sz l y) (he : ET X Γ fe (tS X.K l)) (hy : ET X Γ e (tq X.K y))
    (ht : eval (.Call fe [e] [] pos) X.env = (do callWith pos (← eval fe X.env) [] (backTo pos (starEach [e] X.env)) (backToKw pos (keywordEach [] X.env))) := by rfl)
    (hs : starEach [e] X.env = (false, eval e X.env) :: starEach [] X.env := by rfl) (hpl : (backTo pos (starEach [] X.env)).any (·.1) = false := by rfl) : ET X Γ (.Call fe [e] [] pos) (tq X.K (actQ l y)) := by
  obtain ⟨fd', D⟩ := B.F.d_Steps_call
  exact et_callO B.F.me_Steps_call (fn_at D) (w_Scall B (fun base => opsK B base) l y h) hr isS he (at_one hy hs) ht hs hpl
end
theorem it_enumq {X : Cx} {Γ : Cxt} {e : Expr} {pos pp tpos : Pos} {elts : List Expr} {kk : Nat} {m : List Addr} {l : List KF} (B : Bs X.prog X.K X.mg) (hg : Gl X "enumerate") (he : ET X Γ e (tT X.K (tqs X.K l))) (hs : starEach [e] X.env = (false, eval e X.env) :: starEach [] X.env := by rfl) :
    IT_ m X Γ (.Tuple elts kk tpos) (.Call (.Name "enumerate" pp) [e] [] pos) l.length fun i => tT X.K [tI (i : Nat), tq X.K (l.getD i 0)] := by
  have h := it_enumT (m := m) (elts := elts) (kk := kk) (tpos := tpos) (p := pp) (pos := pos) (Rf := fun i => tq X.K (l.getD i 0)) hg B.F.b_enumerate he (fun i hi => qq_getD (by rwa [qq_len] at hi)) stb_qq hs
  rwa [qq_len] at h
theorem w_Siter (B : Bs P K mg) (l : List KF) : FnZ P w K mg base 36 (fSteps K "__iter__") (spIt K (tS K l) (tqs K l)) := by
  obtain ⟨fd', D⟩ := B.F.d_Steps_iter
  refine fnZ_of D sc_Steps_iter (bi_Steps_iter D) (fun n vs H Q q => q.1.len) (fun cdv A outer s H vs Q hr q => ?_)
  have ok : OKc (ini N_Steps_iter [tS K l]) (L2.start N_Steps_iter vs) H := ini_ok q.1
  refine wB_of (pss_one ps_w) (wS_of (ps_ret pe_w) (wE_of (pe_callB call_iterT (by exact rfl) B.F.b_iter rfl pa_w) ((at_one (et_co B.F (vr 0 rfl rfl rfl rfl rfl)) : AT (BodyCx P w K mg base N_Steps_iter d_Steps_iter.qual d_Steps_iter.scope (fSteps K "__iter__") cdv A outer s H) (ini N_Steps_iter [tS K l]) _ [tT K (tqs K l)]).use ok fun us H1 sm ok1 rs => ?_)))
  obtain ⟨v, e, t, xs, ev, hq, ts⟩ := tvs_one rs
  subst ev
  exact ⟨t, xs, e, hq, fun it hn hs => q.2 t xs H1 it sm hq ts hn hs⟩
theorem it_S {X : Cx} {Γ : Cxt} {e tg : Expr} {m : List Addr} {l : List KF} (B : Bs X.prog X.K X.mg) (hr : Room 36 X.A) (he : ET X Γ e (tS X.K l)) : IT_ m X Γ tg e l.length fun i => tq X.K (l.getD i 0) := by
  have h := it_own (m := m) (tg := tg) B.F.me_Steps_iter (w_Siter B l) hr isS he (Rf := fun i => tq X.K (l.getD i 0)) (fun i hi => qq_getD (by rwa [qq_len] at hi)) stb_qq
  rwa [qq_len] at h
theorem w_Sleast (B : Bs P K mg) (l : List KF) (j : Nat) (hj : j < l.length) (h0 : ∀ i, i < j → l.getD i 0 = 0) (h1 : l.getD j 0 ≠ 0) : FnT P w K mg base 56 (fSteps K "least") (spT [tS K l] (tI (j : Nat))) := by
  obtain ⟨fd', D⟩ := B.F.d_Steps_least
  refine fnT_of (fn_ret D sc_Steps_least rfl fun cdv A outer s H hr => ?_) (bi_Steps_least D)
  let Γs : Nat → Cxt := fun t => [some (if t ≤ j then tS K l else tNo), none, none]
  refine bt_cons (Δ := Γs l.length) ?_ (bt_no 0 (by show some (some (if l.length ≤ j then tS K l else tNo)) = _; rw [if_neg (by omega)]))
  refine st_for2 (i := 1) (j := 2) (n := l.length) (Rf := fun t => tI (t : Nat)) (Sf := fun t => tq K (l.getD t 0)) Γs (it_enumq B rfl (et_co B.F (vr 0 rfl rfl rfl rfl rfl))) ?_ (fun t ht => ?_) rfl (Sub.refl _) rfl PassesOwn.never sc_Steps_least.nd rfl rfl rfl rfl rfl rfl rfl rfl (fun _ => rfl)
  · show Sub _ [some (if 0 ≤ j then tS K l else tNo), none, none]
    rw [if_pos (Nat.zero_le _)]; exact Sub.refl _
  · by_cases htj : t ≤ j
    · show BT _ [some (if t ≤ j then tS K l else tNo), some (tI (t : Nat)), some (tq K (l.getD t 0))] _ _
      rw [if_pos htj]
      by_cases e : t = j
      · subst e
        exact bt_end (st_ifT (tt_cast (tt_not (tt_val (et_meth0 ((opsK B _).is0 (l.getD t 0)) B.F.cl_RatFun B.F.me_RatFun_is_zero (hr.mono (by omega)) (vr 2 rfl rfl rfl rfl rfl) (noF rfl rfl) rfl))) (by rw [decide_eq_false h1]; rfl)) (bt_last (st_ret (vr 1 rfl rfl rfl rfl rfl) rfl)))
      · refine bt_last (st_ifF (tt_cast (tt_not (tt_val (et_meth0 ((opsK B _).is0 (l.getD t 0)) B.F.cl_RatFun B.F.me_RatFun_is_zero (hr.mono (by omega)) (vr 2 rfl rfl rfl rfl rfl) (noF rfl rfl) rfl))) (by rw [decide_eq_true (h0 t (by omega))]; rfl)) (bt_nil rfl ?_))
        show Sub _ [some (if t + 1 ≤ j then tS K l else tNo), none, none]
        rw [if_pos (by omega)]
        exact sub_eq (sub_no (sub_no sub_nil))
    · exact bt_no 0 (by show some (some (if t ≤ j then tS K l else tNo)) = _; rw [if_neg htj])
theorem w_Sleast0 (B : Bs P K mg) : FnT P w K mg base 56 (fSteps K "least") (spT [tS K ([] : List KF)] (tI (-1))) := by
  obtain ⟨fd', D⟩ := B.F.d_Steps_least
  refine fnT_of (fn_ret D sc_Steps_least rfl fun cdv A outer s H hr => ?_) (bi_Steps_least D)
  let Γs : Nat → Cxt := fun t => [some (tS K ([] : List KF)), none, none]
  refine bt_cons (Δ := Γs 0) (st_for2 (i := 1) (j := 2) (n := 0) (Rf := fun t => tI (t : Nat)) (Sf := fun t => tq K (([] : List KF).getD t 0)) Γs (it_enumq (l := ([] : List KF)) B rfl (et_co B.F (vr 0 rfl rfl rfl rfl rfl))) (Sub.refl _) (fun t ht => absurd ht (Nat.not_lt_zero _)) rfl (Sub.refl _) rfl PassesOwn.never sc_Steps_least.nd rfl rfl rfl rfl rfl rfl rfl rfl (fun _ => rfl)) ?_
  exact bt_last (st_ret (et_neg et_int) rfl)
theorem w_SeqF (B : Bs P K mg) (a : List KF) (y : KF) : FnT P w K mg base 62 (fSteps K "__eq__") (spT [tS K a, tq K y] (tB false)) := by
  obtain ⟨fd', D⟩ := B.F.d_Steps_eq
  refine fnT_of (fn_ret D sc_Steps_eq rfl fun cdv A outer s H hr => ?_) (bi_Steps_eq D)
  exact bt_last (st_ret (et_andF (et_callB call_isi rfl B.F.b_isinstance rfl (at_two (vr 1 rfl rfl rfl rfl rfl) (et_glob (v := .ref _) rfl B.F.g_Steps rfl rfl)) (r_isi isF B.F.cl_RatFun B.F.ca_RatFun B.F.kc_RatFun_Steps) (by decide) rfl rfl rfl)) rfl)
theorem w_SeqN (B : Bs P K mg) (a : List KF) : FnT P w K mg base 62 (fSteps K "__eq__") (spT [tS K a, tN] (tB false)) := by
  obtain ⟨fd', D⟩ := B.F.d_Steps_eq
  refine fnT_of (fn_ret D sc_Steps_eq rfl fun cdv A outer s H hr => ?_) (bi_Steps_eq D)
  exact bt_last (st_ret (et_andF (et_callB call_isi rfl B.F.b_isinstance rfl (at_two (vr 1 rfl rfl rfl rfl rfl) (et_glob (v := .ref _) rfl B.F.g_Steps rfl rfl)) (r_isiNo B.F.knNoneType_Steps) (by decide) rfl rfl rfl)) rfl)
theorem act_sh (l : List KF) (y : KF) (t : Nat) : (actSt l y t).2 = KF.sh (t : Nat) y := by
  induction t with
  | zero => exact (KF.sh_0 y).symm
  | succ t ih =>
    show KF.sh ((1 : Nat) : Rat) (actSt l y t).2 = _
    rw [ih, KF.sh_sh, Rat.natCast_add]
end
end SLT
set_option maxRecDepth 100000
set_option maxHeartbeats 1000000
set_option exponentiation.threshold 100
namespace SLT
open PySem PySem.Spec PyProof.Rows L2 SL SW
open Lean.Grind
section
variable {D E : Pol} {n m h g d e p k : Nat} {x y f : KF} {a b : List KF}
theorem Cx1.rpg (r : Cx1 d n h x) {m : Nat} (h1 : n + 1 ≤ m) (h2 : d + 1 ≤ m) : Rp m h x := by
  obtain ⟨D, s, N, a, b, c⟩ := r
  exact ⟨N, D, a, s.H, Nat.le_trans b h1, Nat.le_trans s.l h2, s.ne, mk_of s.ne c⟩
theorem CLx.at (r : CLx d n h a) (i : Nat) : Cx1 d n h (co a i) := by
  obtain ⟨D, s, c⟩ := r
  exact ⟨D, s, c i⟩
theorem Cx1.mono {d' n' h' : Nat} (r : Cx1 d n h x) (h1 : d ≤ d') (h2 : n ≤ n') (h3 : h ≤ h') : Cx1 d' n' h' x := by
  obtain ⟨D, a, b⟩ := r
  exact ⟨D, a.mono h1 h3, b.mono h2 h3⟩
theorem Cx1.sh {k : Nat} (hk : k ≤ 5) (r : Cx1 d n h x) (g : Nat) (h1 : h + 3 * (n + 1) ≤ g) (h2 : h + 3 * (d + 1) ≤ g) : Cx1 d n g (KF.sh k x) := by
  obtain ⟨D, a, b⟩ := r
  exact ⟨_, (a.sh hk).mono (Nat.le_refl _) h2, (b.sh hk).mono (Nat.le_refl _) h1⟩
theorem Cx1.neg (r : Cx1 d n h x) : Cx1 d n h (-x) := by
  obtain ⟨D, a, b⟩ := r
  exact ⟨D, a, b.neg⟩
theorem Cx1.one : Cx1 0 0 0 1 := ⟨1, ⟨Pol.one_ne, by rw [← Pol.C_one]; exact Hq_C1, Nat.le_trans Pol.len_one (by decide)⟩, 1, by rw [← Pol.C_one]; exact Hq_C1, Nat.le_trans Pol.len_one (by decide), by
  have : KF.ofP 1 = (1 : KF) := rfl
  rw [this]; grind⟩
theorem Cx1.list2 (r : Cx1 d n h x) (hd : d ≤ 100) : CLx d (max n d) h [x, 1] := by
  obtain ⟨D, a, b⟩ := r
  refine ⟨D, a, fun i => ?_⟩
  match i with
  | 0 => exact b.mono (Nat.le_max_left _ _) (Nat.le_refl _)
  | 1 => exact ⟨D, a.H, Nat.le_trans a.l (Nat.succ_le_succ (Nat.le_max_right _ _)), by show (1 : KF) * _ = _; grind⟩
  | i + 2 => exact Cd.zero
theorem Cx1.mon (r : Cx1 d n h x) (k : Nat) : CLx d n h (monQ x k) := by
  obtain ⟨D, a, b⟩ := r
  refine ⟨D, a, fun i => ?_⟩
  rw [monQ_co]
  split
  · exact b
  · exact Cd.zero
theorem co2 (x z : KF) : co [x, z] 0 = x ∧ co [x, z] 1 = z := ⟨rfl, rfl⟩
theorem act2 (x z y : KF) : actQ (trimQ [x, z]) y = x * y + z * KF.sh 1 y := by
  rw [act_trim, actQ_su _ y (n := 2) (by simp)]
  show (0 : KF) + co [x, z] 0 * KF.sh ((0 : Nat) : Rat) y + co [x, z] 1 * KF.sh ((1 : Nat) : Rat) y = _
  have e : KF.sh ((0 : Nat) : Rat) y = y := KF.sh_0 y
  rw [(co2 x z).1, (co2 x z).2, e, show ((1 : Nat) : Rat) = 1 from rfl]
  grind
theorem mul_inv {x : KF} (h : x ≠ 0) : x * x⁻¹ = 1 := Field.mul_inv_cancel h
theorem trm2 {x : KF} : trimQ [x, 1] = [x, 1] := trimQ_snoc [x] kf_ne
theorem trm1 {x : KF} (h : x ≠ 0) : trimQ [x] = [x] := trimQ_snoc [] h
theorem monQ_trim {x : KF} (h : x ≠ 0) (k : Nat) : trimQ (monQ x k) = monQ x k := trimQ_snoc _ h
theorem zero1 : trimQ [(0 : KF)] = [] := by simp [trimQ]
end
end SLT
set_option maxRecDepth 100000
set_option maxHeartbeats 1000000
set_option exponentiation.threshold 100
namespace SLT
open PySem PySem.Spec PyProof.Rows L2 SL SW
open Lean.Grind
section
variable {a b c p q : List KF} {f : KF}
theorem mulQ_len (a b : List KF) : (mulQ a b).length ≤ a.length + b.length := by
  have h6 := (mulSt_len a b a.length).2
  show (mulSt a b a.length).1.length ≤ _
  omega
theorem mulQ_congrL (h : ∀ i, co p i = co q i) (m : List KF) (i : Nat) : co (mulQ p m) i = co (mulQ q m) i := by
  rw [mulQ_coN p m (n := max p.length q.length) (by omega), mulQ_coN q m (n := max p.length q.length) (by omega)]
  unfold pc
  exact su_congr fun j _ => by rw [h]
theorem mulQ_congrR (m : List KF) (h : ∀ i, co p i = co q i) (i : Nat) : co (mulQ m p) i = co (mulQ m q) i := by
  rw [mulQ_co, mulQ_co]
  unfold pc
  exact su_congr fun j _ => by rw [h]
theorem mulQ_addL (p q m : List KF) (i : Nat) : co (mulQ (addQ p q) m) i = co (mulQ p m) i + co (mulQ q m) i := by
  rw [← mulQ_add, mulQ_congrL (fun i => (trimQ_co (addQ p q) i).symm)]
theorem mulQ_addR (m p q : List KF) (i : Nat) : co (mulQ m (addQ p q)) i = co (mulQ m p) i + co (mulQ m q) i := by
  rw [mulQ_co, mulQ_co, mulQ_co]
  unfold pc
  rw [← su_add]
  refine su_congr fun j _ => ?_
  split
  · grind
  · rw [addQ_co, KF.sh_add]; grind
theorem mulQ_negL (p m : List KF) (i : Nat) : co (mulQ (p.map fun c => -c) m) i = -co (mulQ p m) i := by
  have e : ∀ x : KF, -x = (-1) * x := fun x => by grind
  rw [mulQ_coN _ m (n := p.length) (by rw [List.length_map]; omega), mulQ_co p m]
  unfold pc
  rw [e, ← su_mul]
  exact su_congr fun j _ => by rw [negQ_co]; grind
theorem mulQ_negR (m p : List KF) (i : Nat) : co (mulQ m (p.map fun c => -c)) i = -co (mulQ m p) i := by
  have e : ∀ x : KF, -x = (-1) * x := fun x => by grind
  rw [mulQ_co, mulQ_co]
  unfold pc
  rw [e, ← su_mul]
  refine su_congr fun j _ => ?_
  split
  · grind
  · rw [negQ_co, KF.sh_neg]; grind
theorem mulQ_scaleL (f : KF) (p m : List KF) (i : Nat) : co (mulQ (scaleQ f p) m) i = f * co (mulQ p m) i := by
  rw [mulQ_coN _ m (n := p.length) (by unfold scaleQ; rw [List.length_map]; omega), mulQ_co p m]
  unfold pc
  rw [← su_mul]
  exact su_congr fun j _ => by rw [scaleQ_co]; grind
theorem su_shift (n : Nat) (f : Nat → KF) : su (n + 1) f = f 0 + su n fun i => f (i + 1) := by
  induction n with
  | zero => show (0 : KF) + f 0 = f 0 + 0; grind
  | succ n ih =>
    show su (n + 1) f + f (n + 1) = _
    rw [ih]
    simp only [su]
    grind
theorem mulQ_movL (l m : List KF) (i : Nat) : co (mulQ (movQ l) m) i = if i = 0 then 0 else KF.sh 1 (co (mulQ l m) (i - 1)) := by
  rw [mulQ_coN (movQ l) m (n := l.length + 1) (by simp [movQ]), mulQ_co]
  unfold pc
  rw [su_shift]
  have e0 : co (movQ l) 0 = 0 := by rw [movQ_co, if_pos rfl]
  rw [e0]
  by_cases h : i = 0
  · subst h
    rw [if_pos rfl, su_zero fun j _ => by rw [if_pos (by omega)]; grind]
    grind
  · rw [if_neg h, show (1 : Rat) = ((1 : Nat) : Rat) from rfl, su_sh]
    have : (su l.length fun j => co (movQ l) (j + 1) * if i < j + 1 then 0 else KF.sh ((j + 1 : Nat) : Rat) (co m (i - (j + 1)))) = su l.length fun j => KF.sh ((1 : Nat) : Rat) (co l j * if i - 1 < j then 0 else KF.sh (j : Nat) (co m (i - 1 - j))) := su_congr fun j _ => by
      rw [movQ_co, if_neg (by omega), Nat.add_sub_cancel, KF.sh_mul]
      by_cases h2 : i < j + 1
      · rw [if_pos h2, if_pos (by omega), KF.sh_zero]; rfl
      · rw [if_neg h2, if_neg (by omega), sh_s, show i - (j + 1) = i - 1 - j by omega]; rfl
    rw [this]; grind
theorem mulQ_st (a b c : List KF) (t : Nat) : (∀ i, co (mulQ (mulSt a b t).2 c) i = co (mulSt a (mulQ b c) t).2 i) ∧ ∀ i, co (mulQ (mulSt a b t).1 c) i = co (mulSt a (mulQ b c) t).1 i := by
  induction t with
  | zero => exact ⟨fun i => rfl, fun i => rfl⟩
  | succ t ih =>
    refine ⟨fun i => ?_, fun i => ?_⟩
    · show co (mulQ (movQ (mulSt a b t).2) c) i = co (movQ (mulSt a (mulQ b c) t).2) i
      rw [mulQ_movL, movQ_co, ih.1]
    · show co (mulQ (addQ (mulSt a b t).1 (scaleQ (a.getD t 0) (mulSt a b t).2)) c) i = co (addQ (mulSt a (mulQ b c) t).1 (scaleQ (a.getD t 0) (mulSt a (mulQ b c) t).2)) i
      rw [mulQ_addL, mulQ_scaleL, addQ_co, scaleQ_co, ih.1, ih.2]
theorem mulQ_assoc (a b c : List KF) (i : Nat) : co (mulQ (mulQ a b) c) i = co (mulQ a (mulQ b c)) i := (mulQ_st a b c a.length).2 i
end
/-- an operator -/
structure Ow where
  row : List KF
  tr : TrQ row
namespace Ow
theorem ext_co {a b : Ow} (h : ∀ i, co a.row i = co b.row i) : a = b := by
  obtain ⟨p, hp⟩ := a
  obtain ⟨q, hq⟩ := b
  have e : p = q := hp.eq hq h
  subst e; rfl
theorem ext_row {a b : Ow} (h : a.row = b.row) : a = b := ext_co fun i => by rw [h]
noncomputable def of (l : List KF) : Ow := ⟨trimQ l, trimQ_Tr l⟩
noncomputable instance : Add Ow := ⟨fun a b => of (addQ a.row b.row)⟩
noncomputable instance : Neg Ow := ⟨fun a => of (a.row.map fun c => -c)⟩
noncomputable instance : Sub Ow := ⟨fun a b => of (addQ a.row (b.row.map fun c => -c))⟩
noncomputable instance : Mul Ow := ⟨fun a b => of (mulQ a.row b.row)⟩
/-- a function as an operator -/
noncomputable def C (f : KF) : Ow := of [f]
noncomputable def sc (f : KF) (a : Ow) : Ow := of (scaleQ f a.row)
def Z : Ow := ⟨[], .inl rfl⟩
theorem add_row (a b : Ow) : (a + b).row = trimQ (addQ a.row b.row) := rfl
theorem neg_row (a : Ow) : (-a).row = trimQ (a.row.map fun c => -c) := rfl
theorem sub_row (a b : Ow) : (a - b).row = trimQ (addQ a.row (b.row.map fun c => -c)) := rfl
theorem mul_row (a b : Ow) : (a * b).row = trimQ (mulQ a.row b.row) := rfl
theorem sc_row (f : KF) (a : Ow) : (sc f a).row = trimQ (scaleQ f a.row) := rfl
variable {a b c : Ow} {f g : KF}
theorem co_add (a b : Ow) (i : Nat) : co (a + b).row i = co a.row i + co b.row i := by rw [add_row, trimQ_co, addQ_co]
theorem co_neg (a : Ow) (i : Nat) : co (-a).row i = -co a.row i := by rw [neg_row, trimQ_co, negQ_co]
theorem co_sub (a b : Ow) (i : Nat) : co (a - b).row i = co a.row i - co b.row i := by rw [sub_row, trimQ_co, addQ_co, negQ_co]; grind
theorem co_mul (a b : Ow) (i : Nat) : co (a * b).row i = co (mulQ a.row b.row) i := by rw [mul_row, trimQ_co]
theorem co_sc (f : KF) (a : Ow) (i : Nat) : co (sc f a).row i = f * co a.row i := by rw [sc_row, trimQ_co, scaleQ_co]
theorem co_Z (i : Nat) : co Z.row i = 0 := rfl
theorem co_C (f : KF) (i : Nat) : co (C f).row i = if i = 0 then f else 0 := by
  show co (trimQ [f]) i = _
  rw [trimQ_co]
  match i with
  | 0 => rfl
  | i + 1 => rw [if_neg (by omega)]; rfl
theorem C_row (h : f ≠ 0) : (C f).row = [f] := trm1 h
theorem assoc (a b c : Ow) : a * b * c = a * (b * c) := ext_co fun i => by
  rw [co_mul, co_mul]
  have h1 := mulQ_congrL (p := (a * b).row) (q := mulQ a.row b.row) (co_mul a b) c.row i
  have h2 := mulQ_congrR (p := (b * c).row) (q := mulQ b.row c.row) a.row (co_mul b c) i
  rw [h1, h2, mulQ_assoc]
theorem add_mul (a b c : Ow) : (a + b) * c = a * c + b * c := ext_co fun i => by
  rw [co_mul, co_add, co_mul, co_mul]
  have h1 := mulQ_congrL (p := (a + b).row) (q := addQ a.row b.row) (fun i => by rw [co_add, addQ_co]) c.row i
  rw [h1, mulQ_addL]
theorem mul_add (a b c : Ow) : a * (b + c) = a * b + a * c := ext_co fun i => by
  rw [co_mul, co_add, co_mul, co_mul]
  have h1 := mulQ_congrR (p := (b + c).row) (q := addQ b.row c.row) a.row (fun i => by rw [co_add, addQ_co]) i
  rw [h1, mulQ_addR]
theorem neg_mul (a b : Ow) : -a * b = -(a * b) := ext_co fun i => by
  rw [co_mul, co_neg, co_mul]
  have h1 := mulQ_congrL (p := (-a).row) (q := a.row.map fun c => -c) (fun i => by rw [co_neg, negQ_co]) b.row i
  rw [h1, mulQ_negL]
theorem mul_neg (a b : Ow) : a * -b = -(a * b) := ext_co fun i => by
  rw [co_mul, co_neg, co_mul]
  have h1 := mulQ_congrR (p := (-b).row) (q := b.row.map fun c => -c) a.row (fun i => by rw [co_neg, negQ_co]) i
  rw [h1, mulQ_negR]
theorem sc_mul (f : KF) (a b : Ow) : sc f a * b = sc f (a * b) := ext_co fun i => by
  rw [co_mul, co_sc, co_mul]
  have h1 := mulQ_congrL (p := (sc f a).row) (q := scaleQ f a.row) (fun i => by rw [co_sc, scaleQ_co]) b.row i
  rw [h1, mulQ_scaleL]
theorem sub_eq (a b : Ow) : a - b = a + -b := ext_co fun i => by rw [co_sub, co_add, co_neg]; grind
theorem add_comm (a b : Ow) : a + b = b + a := ext_co fun i => by rw [co_add, co_add]; grind
theorem add_assoc (a b c : Ow) : a + b + c = a + (b + c) := ext_co fun i => by simp only [co_add]; grind
theorem add_Z (a : Ow) : a + Z = a := ext_co fun i => by rw [co_add, co_Z]; grind
theorem Z_add (a : Ow) : Z + a = a := ext_co fun i => by rw [co_add, co_Z]; grind
theorem sub_Z (a : Ow) : a - Z = a := ext_co fun i => by rw [co_sub, co_Z]; grind
theorem Z_sub (a : Ow) : Z - a = -a := ext_co fun i => by rw [co_sub, co_Z, co_neg]; grind
theorem neg_neg (a : Ow) : - -a = a := ext_co fun i => by rw [co_neg, co_neg]; grind
theorem neg_Z : -Z = Z := ext_co fun i => by rw [co_neg, co_Z]; grind
theorem add_neg (a : Ow) : a + -a = Z := ext_co fun i => by rw [co_add, co_neg, co_Z]; grind
theorem neg_add' (a b : Ow) : -(a + b) = -a + -b := ext_co fun i => by simp only [co_neg, co_add]; grind
theorem sub_self (a : Ow) : a - a = Z := ext_co fun i => by rw [co_sub, co_Z]; grind
theorem sub_add (a b : Ow) : a - b + b = a := ext_co fun i => by rw [co_add, co_sub]; grind
theorem add_sub (a b : Ow) : a + b - b = a := ext_co fun i => by rw [co_sub, co_add]; grind
theorem Z_mul (a : Ow) : Z * a = Z := ext_co fun i => by rw [co_mul, co_Z, mulQ_co]; rfl
theorem mul_Z (a : Ow) : a * Z = Z := ext_co fun i => by
  rw [co_mul, co_Z, mulQ_co]
  exact su_zero fun j _ => by
    split
    · grind
    · rw [co_Z, KF.sh_zero]; grind
theorem C_mul (f : KF) (a : Ow) : C f * a = sc f a := ext_co fun i => by
  have hl : (C f).row.length ≤ 1 := trimQ_le [f]
  rw [co_mul, co_sc, mulQ_coN _ _ hl]
  unfold pc
  rw [su_one 0 (by omega) fun j hj => by rw [co_C, if_neg hj]; grind]
  rw [co_C, if_pos rfl, if_neg (by omega)]
  show f * KF.sh ((0 : Nat) : Rat) _ = _
  rw [show ((0 : Nat) : Rat) = 0 from rfl, KF.sh_0]; rfl
theorem sc_one (a : Ow) : sc 1 a = a := ext_co fun i => by rw [co_sc]; grind
theorem one_mul (a : Ow) : C 1 * a = a := by rw [C_mul, sc_one]
theorem mul_one (a : Ow) : a * C 1 = a := ext_co fun i => by
  rw [co_mul, mulQ_coN a.row _ (n := max a.row.length (i + 1)) (by omega)]
  unfold pc
  rw [su_one i (by omega) fun j hj => by
    split
    · grind
    · rw [co_C, if_neg (by omega), KF.sh_zero]; grind]
  rw [if_neg (by omega), Nat.sub_self, co_C, if_pos rfl, KF.sh_one]; grind
theorem sc_sc (f g : KF) (a : Ow) : sc f (sc g a) = sc (f * g) a := ext_co fun i => by simp only [co_sc]; grind
theorem sc_add (f : KF) (a b : Ow) : sc f (a + b) = sc f a + sc f b := ext_co fun i => by simp only [co_sc, co_add]; grind
theorem sc_neg (f : KF) (a : Ow) : sc f (-a) = -sc f a := ext_co fun i => by simp only [co_sc, co_neg]; grind
theorem sc_Z (f : KF) : sc f Z = Z := ext_co fun i => by simp only [co_sc, co_Z]; grind
theorem row_nil : a.row = [] ↔ a = Z := ⟨fun h => ext_row h, fun h => by rw [h]; rfl⟩
/-- the length: order and one -/
def len (a : Ow) : Nat := a.row.length
theorem len_Z : Z.len = 0 := rfl
theorem len_zero : a.len = 0 ↔ a = Z := ⟨fun h => row_nil.mp (List.length_eq_zero_iff.mp h), fun h => by rw [h]; rfl⟩
theorem ne_row (h : a ≠ Z) : a.row ≠ [] := fun z => h (row_nil.mp z)
theorem len_pos (h : a ≠ Z) : 0 < a.len := List.length_pos_iff.mpr (ne_row h)
theorem len_mul (ha : a ≠ Z) (hb : b ≠ Z) : (a * b).len + 1 = a.len + b.len := mul_len a.tr b.tr (ne_row ha) (ne_row hb)
theorem mul_ne (ha : a ≠ Z) (hb : b ≠ Z) : a * b ≠ Z := fun z => by
  have := len_mul ha hb
  have h1 := len_pos ha
  have h2 := len_pos hb
  rw [z, len_Z] at this
  omega
noncomputable def lead (a : Ow) : KF := leadQ a.row
theorem lead_ne' (h : a ≠ Z) : a.lead ≠ 0 := lead_ne a.tr (ne_row h)
theorem lead_co (a : Ow) : a.lead = co a.row (a.len - 1) := rfl
theorem len_sc (hf : f ≠ 0) (a : Ow) : (sc f a).len = a.len := by
  by_cases h : a = Z
  · rw [h, sc_Z]
  · have h1 := len_pos h
    have := len_eq (sc f a).tr (n := a.len - 1) (fun i hi => by rw [co_sc, co_ge (by show a.len ≤ i; omega)]; grind) (by rw [co_sc]; exact kf_mul_ne hf (lead_ne' h))
    show (sc f a).row.length = _
    omega
theorem sc_ne (hf : f ≠ 0) (h : a ≠ Z) : sc f a ≠ Z := fun z => by
  have := len_sc hf a
  have h1 := len_pos h
  rw [z, len_Z] at this
  omega
theorem lead_sc (hf : f ≠ 0) (a : Ow) : (sc f a).lead = f * a.lead := by rw [lead_co, lead_co, len_sc hf, co_sc]
theorem len_neg (a : Ow) : (-a).len = a.len := by
  by_cases h : a = Z
  · rw [h, neg_Z]
  · have h1 := len_pos h
    have h2 := lead_ne' h
    have := len_eq (-a).tr (n := a.len - 1) (fun i hi => by rw [co_neg, co_ge (by show a.len ≤ i; omega)]; grind) (by
      rw [co_neg]
      intro z
      exact h2 (by rw [lead_co]; grind))
    show (-a).row.length = _
    omega
theorem neg_ne (h : a ≠ Z) : -a ≠ Z := fun z => h (by rw [← neg_neg a, z, neg_Z])
theorem one_ne : C 1 ≠ Z := fun z => by
  have := congrArg (fun o => co (Ow.row o) 0) z
  simp only [co_C, co_Z, if_true] at this
  exact kf_ne this
theorem len_one : (C (1 : KF)).len = 1 := by show (C 1).row.length = 1; rw [C_row kf_ne]; rfl
theorem lead_mul (ha : a ≠ Z) (hb : b ≠ Z) : (a * b).lead = a.lead * KF.sh ((a.len - 1 : Nat) : Rat) b.lead := by
  have h1 := len_pos ha
  have h2 := len_pos hb
  have h3 := len_mul ha hb
  rw [lead_co, co_mul, show (a * b).len - 1 = (a.len - 1) + (b.len - 1) by omega]
  exact (mulQ_top (m := a.len - 1) (n := b.len - 1) (by show a.len = _; omega) (by show b.len = _; omega)).1
/-- quotient and remainder are told by these two -/
theorem div_uniq' {q r q' r' : Ow} (hb : b ≠ Z) (e : q * b + r = q' * b + r') (h1 : r.len < b.len) (h2 : r'.len < b.len) : q = q' ∧ r = r' := by
  have hr : (r - r').len < b.len := by
    refine Nat.lt_of_le_of_lt (len_le (r - r').tr (n := max r.len r'.len) fun i hi => ?_) (by omega)
    rw [co_sub, co_ge (l := r.row) (by show r.len ≤ i; omega), co_ge (l := r'.row) (by show r'.len ≤ i; omega)]; grind
  have key := div_uniq (a := q'.row) (b := b.row) (q := q.row) (r := (r - r').row) q'.tr b.tr q.tr (r - r').tr (ne_row hb) (fun i => by
    have := congrArg (fun o => co (Ow.row o) i) e
    simp only [co_add, co_mul] at this
    rw [co_sub]
    grind) hr
  refine ⟨ext_row key.1, ?_⟩
  have := row_nil.mp key.2
  have h3 : r = (r - r') + r' := (sub_add r r').symm
  rw [h3, this, Z_add]
end Ow
end SLT
set_option exponentiation.threshold 256
set_option maxRecDepth 100000
set_option maxHeartbeats 2000000
namespace RefX
open PySem PySem.W PySem.Calls PyProof.Rows PySem.HandSPX
def iA : Arguments := { posonlyargs := [], args := [{ arg := "self", annotation := none, pos := ⟨12, 17, 12, 21⟩ }, { arg := "reason", annotation := none, pos := ⟨12, 23, 12, 29⟩ }], vararg := none, kwonlyargs := [], kw_defaults := [], kwarg := none, defaults := [] }
def iSup : PySem.Expr := .Call (.Name "super" ⟨13, 8, 13, 13⟩) [] [] ⟨13, 8, 13, 15⟩
def iArg : PySem.Expr := .BinOp (.Constant (.str "refused: ") 0 ⟨13, 25, 13, 36⟩) .Add (.Name "reason" ⟨13, 39, 13, 45⟩) ⟨13, 25, 13, 45⟩
def iB : List Stmt :=
  [.Expr (.Call (.Attribute iSup "__init__" ⟨13, 8, 13, 24⟩) [iArg] [] ⟨13, 8, 13, 46⟩) ⟨13, 8, 13, 46⟩, .Assign [.Attribute (.Name "self" ⟨14, 8, 14, 12⟩) "reason" ⟨14, 8, 14, 19⟩] (.Name "reason" ⟨14, 22, 14, 28⟩) ⟨14, 8, 14, 28⟩]
def iS : Scope := { kind := .function, names := [("self", .local), ("reason", .local), ("__class__", .free), ("super", .globalImplicit)], isGenerator := false, isCoroutine := false, more := [] }
/-- what the written part says of Refused, at C, and of its __init__, at fI -/
structure Txt (prog : Program) (K : Frag) (mg : Str → Option Value) (C fI : Addr) : Prop where
  gC : mg "Refused" = some (.ref C)
  gs : mg "super" = none
  cls : ∃ nm q N bs bm sn sub ab col dd k0 k1 k2 k3 k5, K.lookup C = some (excClassObj nm q C N bs bm true sn sub ab col dd k0 k1 k2 k3 k5 "ValueError.__new__") ∧ refsVE bm = true
  sa : findIn K (.ref C) "__setattr__" = some (some (.builtin "object.__setattr__"))
  noN : findIn K (.ref C) "reason" = some none
  iC : findIn K (.ref C) "__init__" = some (some (.ref fI))
  tC : typeIn K (.ref fI) = some (.type "function")
  kC : keepIn K (.ref C) = true
  tyC : typeIn K (.ref C) = some (.type "type")
  xf : L2.XfC K C
  te : exmOne K (.ref C) (.ref C) = some true
  any : nsIn K cStatics "thirdparty.any" = some none
  sup : ks_superIn K C C "__init__" = some (some (.builtin "ValueError.__init__"))
  veC : subIn K (.ref C) (.type "ValueError") = some true
  mC : mroIn K C (.ref C) = some true
  top : (prog.main.scope.names.lookup ("super" : Str)).isSome = false
  fn : ∃ (oc : Value) (od : Option Addr) (doc pm : Value) (an : Option Addr) (cda : Addr) (ct : Value) (osl : Array (Option Value)) (cc : Addr),
    K.lookup fI = some ⟨oc, od, .func (ksFn "__init__" "Refused.__init__" iA iB iS .none .none doc pm an (.ref cda) ct cc), osl⟩ ∧ codeIn K (.ref cda) "Refused.__init__" = true ∧
      (∃ cl cld csl, K.lookup cc = some ⟨cl, cld, .cell (some (.ref C)), csl⟩) ∧ ∃ ccl cdd vs ccs file tf, K.lookup cda = some ⟨ccl, cdd, .fields vs, ccs⟩ ∧ vs[2]? = some (.str file tf) ∧ ((prog.main.file : Str) == file) = true
/-- what __init__ leaves of a fresh exception at x -/
structure InitEnd (h h' : Heap) (x C dx t1 : Addr) (v : Value) : Prop where
  keep : ∀ b o, b ≠ x → h.get? b = some o → h'.get? b = some o
  obj : h'.get? x = some { cls := .ref C, dict := some dx, data := .fields #[.ref t1, .none, .none, .none, .bool false, .none] }
  dbig : h.objs.size ≤ dx
  dne : dx ≠ x
  ns : h'.Ns1 dx (fun y => if y = "reason" then some v else none)
section
variable {prog : Program} {w : World} {A : Around} {E : Value → Shared → Prop} {h : Heap} {g : Array GenState} {d : Drawn} {t : Nat} {os : OsState}
variable {nm q : Str} {C N : Addr} {bs bm : List Value} {hdct : Bool} {sn : List Str} {sub : List Value} {ab : Bool} {col : Option Bool} {dd : Option Addr} {k0 k1 k2 k3 k5 : Option Value}
theorem call_bw {u e t0 : Addr} {rest : List Value} {Q : Value → Shared → Prop}
    (hC : h.get? C = some (excClassObj nm q C N bs bm hdct sn sub ab col dd k0 k1 k2 k3 k5 "ValueError.__new__")) (he : h.get? e = some (excO C t0)) (hu : h.get? u = some (kxs_mw "ValueError.__init__" e)) (hrest : rest.length ≤ sizeLine)
    (hq : ∀ h' t1, (∀ b o, b ≠ e → h.get? b = some o → h'.get? b = some o) → h'.get? e = some (excO C t1) → h.objs.size ≤ h'.objs.size → Q .none ⟨h', g, d, t, os⟩) :
    wpAny (model prog w) A (call (.ref u) rest) Q E ⟨h, g, d, t, os⟩ := by
  refine wpAny_call (codeAny_of_tree ?_)
  show wpAny _ A.in1 (callAny (.ref u) ⟨rest, []⟩) _ _ _
  simp only [callAny]
  refine wpAny_bind (wpAny_load hu ?_)
  simp only [kxs_mw, show (Value.type "method-wrapper" == Value.type "method" || Value.type "method-wrapper" == Value.type "builtin_function_or_method" || Value.type "method-wrapper" == Value.type "method-wrapper") = true by decide, if_true]
  refine W.KFB.if_so (by decide) ?_
  refine wpAny_bind (ESX.check_bound F.excBase_ValueError hC he rfl ?_)
  refine wpAny_bind (wpAny_pure (wpAny_pure ?_))
  refine ⟨Code.quiet_builtin _ (by decide +kernel), codeAny_builtin F.excBase_ValueError.initEntry ?_⟩
  rw [Around.under_plainId F.excBase_ValueError.init.plain _]
  wp_walk
  refine hq _ h.objs.size (fun b o hb ho => ?_) ?_ ?_
  · rw [Heap.get?_update_other _ _ (Ne.symm hb)]
    exact Heap.get?_push_of_some _ ho
  · rw [Heap.get?_update_self _ (Heap.get?_push_of_some _ he) rfl]
    rfl
  · simp
end
section
variable {prog : Program} {w : World} {A : Around} {R : Result → Shared → Prop} {s : Shared} {K : Frag} {mg : Str → Option Value} {C fI : Addr}
theorem ref_init (T : Txt prog K mg C fI) {x t0 : Addr} {z : Str} {tk : Tok} (X : K.In s.heap) (G : s.heap.Ns mainGlobals mg) (B : ∃ mb, s.heap.Ns builtinsNs mb ∧ ∀ x : Str, x ≠ "__name__" → mb x = bootBuiltins x)
    (hlim : s.heap.NoLimit) (hx : s.heap.get? x = some (excO C t0)) (xK : K.lookup x = none) (hroom : A.depth < recursionLimit) (hz : z.length ≤ 1000)
    (hq : ∀ h' tk' dx t1, InitEnd s.heap h' x C dx t1 (.str z tk) → R (.ok (.ret .none)) { s with heap := h', toks := tk' }) :
    codeAny (model prog w) A (.call (.ref fI) ⟨[.ref x, .str z tk], []⟩) R s := by
  obtain ⟨oc, od, doc, pm, an, cda, ct, osl, cc, ho, hcd, ⟨cl, cld, csl, hcell⟩, ccl, cdd, vs, ccs, file, tf, hcode, hvs, hfile⟩ := T.fn
  obtain ⟨nm, q, N, bs, bm, sn, sub, ab, col, dd, k0, k1, k2, k3, k5, hC, hbm⟩ := T.cls
  have hcl : clsIn K C = some { name := nm, bases := bs, mro := .ref C :: bm, ns := N, qualname := q, hasDict := true, slotNames := sn, subclasses := sub, abstract := ab, collection := col, hasDel := false } := by unfold clsIn; rw [hC] <;> rfl
  obtain ⟨mb, B1, B2⟩ := B
  refine ks_codeAny_call_defAt (body := iB) (binds := [("self", .ref x), ("reason", .str z tk)]) hroom (X _ _ ho) rfl hlim (codeRec_of X hcd) rfl (BindsTo.of_eq (by first | rfl | with_unfolding_all rfl)) (by show ∀ x ∈ iS.names, x.2 ≠ .cell; decide) (locs rfl) (fun h₁ hns k => ?_)
  have X₁ : K.In h₁ := X.keeps k
  have hxL : s.heap.objs.size ≠ x := Nat.ne_of_gt (Heap.lt_size hx)
  have hx₁ := k _ _ hx
  have hC₁ : h₁.get? C = _ := X₁ _ _ hC
  have hlt : s.heap.objs.size < h₁.objs.size := hns.lt
  obtain ⟨hp, g, dr, tks, os⟩ := s
  refine ks_wpAt_execs_cons (ks_wpAt_Expr_any (ks_wpAt_MethodCall ?_))
  refine ks_wpAt_super_base (env := ksEnv "Refused.__init__" iS hp.objs.size fI (.ref cda) cc) rfl rfl (by decide) rfl (X₁ _ _ ho) rfl (ar := { arg := "self", annotation := none, pos := ⟨12, 17, 12, 21⟩ }) rfl rfl (X₁ _ _ hcode) rfl hvs hfile T.top ?_
  refine ks_loadName_global rfl rfl (Calls.loadGlobal_builtin (env := ksEnv "Refused.__init__" iS hp.objs.size fI (.ref cda) cc) (G.keeps k) T.gs (B1.keeps k) ((B2 "super" (by decide)).trans rfl) ⟨rfl, ?_⟩)
  refine wpAny_loadName_free rfl rfl rfl ⟨_, X₁ _ _ hcell, rfl⟩ ?_
  refine wpAny_loadName_local rfl rfl hns (v := .ref x) rfl ?_
  refine ks_wpAny_isType_cls hC₁ rfl ⟨rfl, ?_⟩
  refine ks_wpAny_call_super hC₁ rfl hx₁ rfl (fun c e => by cases e) (looks_mroIn X₁ T.mC) (fun h2 e2 kk2 => ?_)
  have X₂ : K.In h2 := X₁.keeps kk2
  have hxc : x ≠ C := fun z => by rw [z, hC₁] at hx₁; cases hx₁
  have I2 : InstAt h2 x (excO C t0) C none := ⟨kk2 _ _ hx₁, rfl, rfl, trivial⟩
  have hsup := T.sup
  unfold ks_superIn at hsup
  rw [hcl] at hsup
  refine kxs_getMethod kxs_ValueError e2 (looks_opaque X₂ T.any) (l₀ := .ref C :: bm) (fun A Q E s k q => wpAny_bind ((looks_clsIn X₂ hcl) A _ E s k (wpAny_pure q))) rfl X₂ hsup (I2.type.andThen (looks_subIn X₂ T.veC)) hxc (by decide) ?_
  have hu : (h2.push (kxs_mw "ValueError.__init__" x)).get? h2.objs.size = some (kxs_mw "ValueError.__init__" x) := Heap.get?_push_at rfl rfl
  have kk3 : ∀ b o, h2.get? b = some o → (h2.push (kxs_mw "ValueError.__init__" x)).get? b = some o := fun b o e => Heap.get?_push_of_some _ e
  generalize h2.push (kxs_mw "ValueError.__init__" x) = h3 at *
  have k3 : ∀ b o, h₁.get? b = some o → h3.get? b = some o := fun b o e => kk3 b o (kk2 b o e)
  have env_k : ∀ b o, hp.get? b = some o → h3.get? b = some o := fun b o e => k3 b o (k b o e)
  have hns3 := hns.keeps k3
  refine kxs_callWith (i := "ValueError.__init__") (x := x) rfl (Calls.evalArgs_plain (Calls.spliced_cons ?_))
  show wpAny _ _ (eval iArg (ksEnv "Refused.__init__" iS hp.objs.size fI (.ref cda) cc)) _ _ _
  refine wpAny_BinOp (wpAny_Constant_str (wpAny_Name (wpAny_loadName_local rfl rfl hns3 (v := .str z tk) rfl ?_)))
  refine PyProof.Rows.add_str (fun t' tk' => Calls.spliced_nil ⟨hu, ?_⟩) (by rw [sizeLine_eq]; have : (("refused: " : Str)).length = 9 := rfl; omega)
  have hC₃ : h3.get? C = _ := k3 _ _ hC₁
  have hx₃ : h3.get? x = some (excO C t0) := k3 _ _ hx₁
  refine call_bw hC₃ hx₃ hu (by rw [sizeLine_eq]; show 1 ≤ _; omega) (fun h4 t1 k4 hx4 hl4 => ?_)
  -- self.reason = reason
  have k14 : ∀ b o, b ≠ x → h₁.get? b = some o → h4.get? b = some o := fun b o hb e => k4 b o hb (k3 b o e)
  have X₄ : K.In h4 := fun b o e => k14 b o (fun z => by rw [z, xK] at e; cases e) (X₁ b o e)
  have hns4 : h4.Ns hp.objs.size _ := hns.at fun o e => k14 _ o hxL e
  refine wpAt_of_wpAny (wpAny_execs_cons (plainObj_wpAny_Assign_Attribute ?_))
  refine wpAny_Name (wpAny_loadName_local rfl rfl hns4 (v := .str z tk) rfl (wpAny_Name (wpAny_loadName_local rfl rfl hns4 (v := .ref x) rfl ?_)))
  refine set_plain X₄ (ox := excO C t1) (od := none) ⟨hx4, rfl, rfl, trivial⟩ T.sa ?_
  refine exc_osa X₄ hx4 hcl (show refsVE (.ref C :: bm) = true from hbm) rfl T.noN (fun h5 tk5 dx k5' dn dne hx5 hn5 => ?_)
  refine wpAny_execs_nil (hq h5 tk5 dx t1 ⟨fun b o hb e => k5' b o hb (k14 b o hb (k b o e)), hx5, Nat.le_of_lt (Nat.lt_of_lt_of_le hns4.lt dn), dne, hn5⟩)
end
/-- a made error -/
structure OwnMade (h h' : Heap) (e C d : Addr) (v : Value) : Prop where
  keep : ∀ b o, h.get? b = some o → h'.get? b = some o
  new : h.objs.size ≤ e
  obj : ∃ oe vs, h'.get? e = some oe ∧ oe.cls = .ref C ∧ oe.dict = some d ∧ oe.data = .fields vs ∧ vs[1]? = some .none
  dbig : h.objs.size ≤ d
  dne : d ≠ e
  ns : h'.Ns1 d (fun y => if y = "reason" then some v else none)
section
variable {prog : Program} {w : World} {A : Around} {R : Result → Shared → Prop} {s : Shared} {K : Frag} {mg : Str → Option Value} {C fI : Addr}
theorem ref_made (T : Txt prog K mg C fI) {z : Str} {tk : Tok} (X : K.In s.heap) (G : s.heap.Ns mainGlobals mg) (B : ∃ mb, s.heap.Ns builtinsNs mb ∧ ∀ x : Str, x ≠ "__name__" → mb x = bootBuiltins x)
    (hlim : s.heap.NoLimit) (hroom : A.depth + 1 < recursionLimit) (hz : z.length ≤ 1000)
    (hq : ∀ h' tk' e d, OwnMade s.heap h' e C d (.str z tk) → R (.ok (.ret (.ref e))) { s with heap := h', toks := tk' }) :
    codeAny (model prog w) A (.call (.ref C) ⟨[.str z tk], []⟩) R s := by
  obtain ⟨nm, q, N, bs, bm, sn, sub, ab, col, dd, k0, k1, k2, k3, k5, hC, hbm⟩ := T.cls
  obtain ⟨hp, g, dr, tks, os⟩ := s
  have k : ∀ b o, hp.get? b = some o → ((hp.push (kdv_tup [.str z tk])).push (excO C hp.objs.size)).get? b = some o := fun b o e => Heap.get?_push_of_some _ (Heap.get?_push_of_some _ e)
  have hget : ((hp.push (kdv_tup [.str z tk])).push (excO C hp.objs.size)).get? (hp.objs.size + 1) = some (excO C hp.objs.size) := by heap_get
  have hnx : K.lookup (hp.objs.size + 1) = none := by
    cases e : K.lookup (hp.objs.size + 1) with
    | none => rfl
    | some o =>
      have z : hp.get? (hp.objs.size + 1) = some o := X _ _ e
      exact absurd (Nat.lt_of_succ_lt (Heap.lt_size z)) (Nat.lt_irrefl _)
  obtain ⟨mb, B1, B2⟩ := B
  refine call_own F.excBase_ValueError (fun X => refsVE_contains X bm hbm) (X _ _ hC) (looks_findIn X T.iC) (fun self => bind_fn X self T.tC) (by rw [sizeLine_eq]; exact (by decide : 1 ≤ 16777216)) ?_
  refine ref_init (s := ⟨(hp.push (kdv_tup [.str z tk])).push (excO C hp.objs.size), g, dr, tks, os⟩) T (X.keeps k) (G.keeps k) ⟨mb, B1.keeps k, B2⟩ (hlim.keeps k) hget hnx ?_ hz fun h' tk' dx t1 ⟨k', hx, dn, dne, hns⟩ => ?_
  · show A.depth + 1 < recursionLimit
    exact hroom
  · have old : ∀ b o, hp.get? b = some o → h'.get? b = some o := fun b o e => k' b o (Nat.ne_of_lt (Nat.lt_succ_of_lt (Heap.lt_size e))) (k b o e)
    have z : hp.objs.size + 1 + 1 ≤ dx := by
      first
        | (simpa only [Heap.size_push] using dn)
        | exact dn
        | (have q := dn; rw [Heap.size_push, Heap.size_push] at q; exact q)
    exact ⟨rfl, hq h' tk' (hp.objs.size + 1) dx ⟨old, Nat.le_succ _, ⟨_, _, hx, rfl, rfl, rfl, rfl⟩, Nat.le_trans (Nat.le_trans (Nat.le_succ _) (Nat.le_succ _)) z, dne, hns⟩⟩
end
end RefX
namespace SL
open PySem PySem.Spec PyProof.Rows L2
theorem relO_ref {v : V} {v' : Value} (r : RelV v v') (f : Str) : RelO (List.lookup f [(("reason" : Str), v)]) (if f = "reason" then some v' else none) := by
  by_cases hw : f = "reason"
  · subst hw
    rw [if_pos rfl]
    have q : List.lookup ("reason" : Str) [(("reason" : Str), v)] = some v := by simp [List.lookup]
    rw [q]
    exact r
  · rw [if_neg hw]
    have qw : (f == ("reason" : Str)) = false := by simpa using hw
    have q2 : List.lookup f [(("reason" : Str), v)] = none := by simp [List.lookup, qw]
    rw [q2]
    trivial
section
variable {X : Cx} {C fI : Addr}
/-- Refused(z) -/
def tMkRef (C : Addr) (z : Str) : L2.St → Hp → XK → Prop := fun σ H Q => ∀ d, H d = none → Q (.ref C) (some d) (upd H d (.xd [(("reason" : Str), .str z)]))
theorem pmk_ref {z : Str} {j : Nat} {p p2 pos : Pos} {k : Nat} (T : RefX.Txt X.prog X.K X.mg C fI) (hz : z.length ≤ 1000) (hr : Room (k + 1) X.A) (hg : Gl X "Refused") :
    PMk X (.Call (.Name "Refused" p) [.Constant (.str z) j p2] [] pos) (tMkRef C z) := by
  intro pins s σ H Q I h
  refine wpAny_Call_Name_kw (ld_glob I hg T.gC ?_)
  have ha : PA X [.Constant (.str z) j p2] (tCons (tC (.str z)) tNil) := pa_cons pe_str pa_nil
  refine PySem.W.callWith_K (h₀ := X.base) I.ok.mod.kin T.kC (thn (ha.run pos pins s σ H (fun vs H1 => vs = [V.str z] ∧ H = H1) I ⟨rfl, rfl⟩) fun us s1 hh => ?_)
  obtain ⟨vs, H1, I1, r1, ev, eH⟩ := hh
  subst ev
  rw [← eH] at I1
  refine ⟨I1.kIn, ?_⟩
  cases r1 with
  | cons rv rn =>
    rename_i v' us'
    cases rn
    obtain ⟨tz, rfl⟩ := rv
    show wpAny _ _ (call (.ref C) [.str z tz]) _ _ _
    have hlim := I1.nolimit
    have hG := I1.mod.glob.keeps I1.bk
    obtain ⟨mb, hB1, hB2⟩ := I1.mod.blt
    have hB := hB1.keeps I1.bk
    obtain ⟨hp, g, dr, tk, os⟩ := s1
    refine wpAny_call (RefX.ref_made T I1.kIn hG ⟨mb, hB, hB2⟩ hlim (by have := hr.dp; omega) hz fun h' tk' e d M => ?_)
    show MkP X pins σ Q (.ref e) ⟨h', g, dr, tk', os⟩
    obtain ⟨oe, fv, hoe, hc, hd, hdat, h1⟩ := M.obj
    have hns := M.ns
    obtain ⟨G', g1, g2⟩ := restrict h' fun b => decide (b ≠ e)
    have gk : ∀ b, b ≠ e → G'.get? b = h'.get? b := fun b hb => g1 b (decide_eq_true hb)
    have ge : G'.get? e = none := g2 e (by simp)
    have old : ∀ b o, hp.get? b = some o → G'.get? b = some o := fun b o q => (gk b (Nat.ne_of_lt (Nat.lt_of_lt_of_le (Heap.lt_size q) M.new))).trans (M.keep b o q)
    have ob : ObjOk X.prog X.w (upd H d (.xd [(("reason" : Str), .str z)])) G' d (.xd [(("reason" : Str), .str z)]) :=
      ⟨_, hns.at (fun o q => (gk d M.dne).trans q), fun f => relO_ref (v := .str z) (v' := .str z tz) ⟨tz, rfl⟩ f⟩
    have J : Inv X pins σ (upd H d (.xd [(("reason" : Str), .str z)])) ⟨G', g, dr, tk', os⟩ := I1.laid (t' := tk') old M.dbig ob
    refine ⟨e, oe, fv, ⟨G', g, dr, tk', os⟩, _, .ref C, some d, rfl, J, fun b o q => ?_, ge, hoe, ⟨hc, hd⟩, hdat, h1, ?_, rfl, I1.bare, raises_own T.xf.exC T.tyC, h d (I1.hok.fresh M.dbig)⟩
    · by_cases hb : b = e
      · have q' : G'.get? b = some o := q
        rw [hb, ge] at q'; cases q'
      · exact (gk b hb).symm.trans q
    · rw [upd_ne (Ne.symm M.dne)]
      exact I1.hok.fresh M.new
end
end SL
set_option exponentiation.threshold 256
set_option maxRecDepth 100000
set_option maxHeartbeats 1000000
namespace SL
open PySem PySem.Spec PyProof.Rows L2
/-- from such arguments an error of the class at C -/
def spX (Rs : List Ty) (C : Addr) (W : Option Addr → Hp → Prop) : Sp := fun vs H _ E => TVs vs Rs H ∧ ∀ d H', Same H H' → W d H' → E (.ref C) d H'
def FnX (P : Program) (w : World) (K : PySem.W.Frag) (mg : Str → Option Value) (base : Heap) (k : Nat) (f : Addr) (Rs : List Ty) (C : Addr) (W : Option Addr → Hp → Prop) : Prop :=
  ∃ fd ps, FnOk P w K mg base (L2.CX P w) k f fd ps (spX Rs C W) ∧ Binds K fd ps []
/-- the expression raises -/
def XT (X : Cx) (Γ : Cxt) (e : Expr) (C : Addr) (W : Option Addr → Hp → Prop) : Prop :=
  ∀ (Wx : WX), Takes X Wx → ∀ σ H, OKc Γ σ H → (∀ d H', Same H H' → W d H' → Wx (.ref C) d σ H') → ∀ Q, wE X e σ H Q
section
variable {X : Cx} {Γ Δ : Cxt} {e a b c o : Expr} {R S U : Ty} {Rs : List Ty} {pos apos p : Pos} {k : Nat} {f C D : Addr} {W : Option Addr → Hp → Prop} {x m : Str}
theorem xt_call (F : FnX X.prog X.w X.K X.mg X.base k f Rs C W) (hr : Room k X.A) (hg : Gl X x) (hm : X.mg x = some (.ref f)) (hk : PySem.W.keepIn X.K (.ref f) = true) {es : List Expr} (ha : AT X Γ (e :: es) Rs)
    (hdb : (x == ("__debug__" : Str)) = false := by decide) (he : starEach (e :: es) X.env = (false, eval e X.env) :: starEach es X.env := by rfl) (hpl : (backTo pos (starEach es X.env)).any (·.1) = false := by rfl) : XT X Γ (.Call (.Name x p) (e :: es) [] pos) C W := by
  obtain ⟨fd, ps, F1, hb⟩ := F
  intro Wx tk σ H ok h Q
  exact wE_of (pe_callS (E := WE Wx) F1 hr hg hm hk hb (passAt tk) pa_w hdb he hpl) (ha.use ok fun vs H1 s _ rs => ⟨rs, fun d H2 s2 w => h d H2 (s.trans s2) w⟩)
theorem xt_meth0 {pl : Sem Bool} (F : FnX X.prog X.w X.K X.mg X.base k f [R] C W) (cl : Cls X.K D) (hm : Meth X.K D m f) (hr : Room k X.A) (ho : ET X Γ o R) (hi : InsNo D m R)
    (ht : eval (.Call (.Attribute o m apos) [] [] pos) X.env = (do
      let ov ← eval o X.env
      standAt apos.atName
      let (f, first) ← holding [ov] (getMethod ov m pl)
      callWith pos f first (backTo pos (starEach [] X.env)) (backToKw pos (keywordEach [] X.env))) := by rfl) : XT X Γ (.Call (.Attribute o m apos) [] [] pos) C W := by
  obtain ⟨fd, ps, F1, hb⟩ := F
  intro Wx tk σ H ok h Q pins s I
  refine PySem.W.methodCall_KW (pl := pl) (thn (ho σ H ok pins s I) fun u s1 ⟨y, H1, I1, rx, sm, r⟩ => ?_) ht
  obtain ⟨q, dx, fs, ex, ea, l⟩ := hi y H1 r
  subst ex
  obtain rfl : u = Value.ref q := rx
  refine getmeth_ok I1 ea cl hm l ?_
  exact PySem.W.callWith_K0 (first := [.ref q]) I1.kIn hm.kp (run_fnS (E := WE Wx) (us := [.ref q]) (vs := [.ref q]) F1 hr hb (passAt tk σ) I1 (.cons rfl .nil) ⟨⟨r, trivial⟩, fun d H2 s2 w => h d H2 (sm.trans s2) w⟩)
theorem xt_meth {pl : Sem Bool} {es : List Expr} (F : FnX X.prog X.w X.K X.mg X.base k f (R :: Rs) C W) (cl : Cls X.K D) (hm : Meth X.K D m f) (hr : Room k X.A) (ho : ET X Γ o R) (hi : InsNo D m R) (ha : AT X Γ (e :: es) Rs)
    (hst : starEach (e :: es) X.env = (false, eval e X.env) :: starEach es X.env := by rfl) (hpl : (backTo pos (starEach es X.env)).any (·.1) = false := by rfl)
    (ht : eval (.Call (.Attribute o m apos) (e :: es) [] pos) X.env = (do
      let ov ← eval o X.env
      standAt apos.atName
      let (f, first) ← holding [ov] (getMethod ov m pl)
      callWith pos f first (backTo pos (starEach (e :: es) X.env)) (backToKw pos (keywordEach [] X.env))) := by rfl) : XT X Γ (.Call (.Attribute o m apos) (e :: es) [] pos) C W := by
  obtain ⟨fd, ps, F1, hb⟩ := F
  intro Wx tk σ H ok h Q pins s I
  refine PySem.W.methodCall_KW (pl := pl) (thn (ho σ H ok pins s I) fun u s1 ⟨y, H1, I1, rx, sm, r⟩ => ?_) ht
  obtain ⟨q, dx, fs, ex, ea, l⟩ := hi y H1 r
  subst ex
  obtain rfl : u = Value.ref q := rx
  refine getmeth_ok I1 ea cl hm l ?_
  refine PySem.W.callWith_K (first := [.ref q]) (h₀ := X.base) I.ok.mod.kin hm.kp (thn (ha σ H1 (ok.up sm) pos pins s1 I1) fun us s2 ⟨vs, H2, I2, rv, s2m, rs⟩ => ⟨I2.kIn, ?_⟩) hst hpl
  exact run_fnS (E := WE Wx) (us := .ref q :: us) (vs := .ref q :: vs) F1 hr hb (passAt tk σ) I2 (.cons rfl rv) ⟨⟨R.mono s2m r, rs⟩, fun d H3 s3 w => h d H3 ((sm.trans s2m).trans s3) w⟩
/-- the receiver raises -/
theorem xt_recv {pl : Sem Bool} {es : List Expr} (ho : XT X Γ o C W)
    (ht : eval (.Call (.Attribute o m apos) es [] pos) X.env = (do
      let ov ← eval o X.env
      standAt apos.atName
      let (f, first) ← holding [ov] (getMethod ov m pl)
      callWith pos f first (backTo pos (starEach es X.env)) (backToKw pos (keywordEach [] X.env))) := by rfl) : XT X Γ (.Call (.Attribute o m apos) es [] pos) C W := by
  intro Wx tk σ H ok h Q pins s I
  exact PySem.W.methodCall_KW (pl := pl) (thn (ho Wx tk σ H ok h (fun _ _ => False) pins s I) fun u s1 ⟨y, H1, I1, rx, z⟩ => z.elim) ht
/-- the argument raises -/
theorem xt_arg {pl : Sem Bool} (cl : Cls X.K D) (hm : Meth X.K D m f) (ho : ET X Γ o R) (hi : InsNo D m R) (ha : XT X Γ e C W)
    (hst : starEach [e] X.env = (false, eval e X.env) :: starEach [] X.env := by rfl) (hpl : (backTo pos (starEach [] X.env)).any (·.1) = false := by rfl)
    (ht : eval (.Call (.Attribute o m apos) [e] [] pos) X.env = (do
      let ov ← eval o X.env
      standAt apos.atName
      let (f, first) ← holding [ov] (getMethod ov m pl)
      callWith pos f first (backTo pos (starEach [e] X.env)) (backToKw pos (keywordEach [] X.env))) := by rfl) : XT X Γ (.Call (.Attribute o m apos) [e] [] pos) C W := by
  intro Wx tk σ H ok h Q pins s I
  refine PySem.W.methodCall_KW (pl := pl) (thn (ho σ H ok pins s I) fun u s1 ⟨y, H1, I1, rx, sm, r⟩ => ?_) ht
  obtain ⟨q, dx, fs, ex, ea, l⟩ := hi y H1 r
  subst ex
  obtain rfl : u = Value.ref q := rx
  refine getmeth_ok I1 ea cl hm l ?_
  have he : wE X e σ H1 fun _ _ => False := ha Wx tk σ H1 (ok.up sm) (fun d H2 s2 w => h d H2 (sm.trans s2) w) _
  have hw : wA X [e] σ H1 fun _ _ => False := wA_of (pa_cons pe_w pa_nil hst) (wE_imp he fun _ _ z => z.elim)
  exact PySem.W.callWith_K (first := [.ref q]) (h₀ := X.base) I.ok.mod.kin hm.kp (thn (hw pos pins s1 I1) fun us s2 ⟨vs, H2, I2, rv, z⟩ => z.elim) hst hpl
theorem st_retX {i : Nat} {H0 : Hp} {Wx : WX} {t : Tg} (tk : Takes X Wx) (hi : Γ[i]? = some (some (tSince H0 R))) (he : XT X Γ e C W) (h : ∀ d σ H', Same H0 H' → W d H' → Wx (.ref C) d σ H') : ST X Γ (.Return (some e) pos) t := fun σ H E ok te => by
  obtain ⟨v, hv, r⟩ := ok.2 i _ hi
  exact wS_of (ps_ret pe_w) (he Wx tk σ H ok (fun d H' s w => h d σ H' (r.2.trans s) w) _)
theorem st_raise {i : Nat} {H0 : Hp} {Wx : WX} {t : Tg} {pm : L2.St → Hp → XK → Prop} (hc : X.calm = true) (tk : Takes X Wx) (hi : Γ[i]? = some (some (tSince H0 R))) (hp : PMk X e pm) (h : ∀ σ H', Same H0 H' → pm σ H' fun cls d H2 => Wx cls d σ H2) : ST X Γ (.Raise (some e) none pos) t := fun σ H E ok te => by
  obtain ⟨v, hv, r⟩ := ok.2 i _ hi
  exact wS_of (ps_raise hc tk hp) (h σ H r.2)
theorem st_tryOnly {np pos' : Pos} {b₀ : Stmt} {suite rest : List Stmt} {t : Tg} (hs : X.stack = X.env :: X.outer) (hf : X.env.frame = some X.env.locals) (hc : Names X x (.ref C)) (hx : PySem.W.exmOne X.K (.ref C) (.ref C) = some true)
    (hb : ∀ pn xe, XT (X.tr pn xe) Γ e C W) (hsu : ∀ a pn, BT (X.suite a pn) Γ (b₀ :: suite) t)
    (hsw : swapsWith e none p.line X.env = pure false := by rfl) : ST X Γ (.Try (.Expr e p :: rest) [.ExceptHandler (some (.Name x np)) none (b₀ :: suite) pos'] [] [] pos) t := fun σ H E ok te => by
  refine wS_of (ps_try_only (Wout := fun _ _ _ _ => False) hs hf hc takes0 (tb := fun W D σ H => ∀ pn xe, Takes (X.tr pn xe) W → wB (X.tr pn xe) (.Expr e p :: rest) D σ H) (ts := fun a _ _ D σ H => ∀ pn, wB (X.suite a pn) (b₀ :: suite) D σ H)
    (fun W pn xe tk pass => ⟨fun pins s σ H D I h => h pn xe tk pins s I⟩) (fun a oe cls d pn hz hfl => ⟨fun pins s σ H D I h => h _ pins s I⟩)) ?_
  intro pn xe tk
  have h0 : wE (X.tr pn xe) e σ H (fun _ _ => False) := hb pn xe _ tk σ H ok (fun d H' s w => ⟨true, hx, fun _ a _ pn' => hsu a pn' σ H' E (ok.up s) (te.up s.m), fun z => nomatch z⟩) _
  have h1 : tSeq (tDrop (wE (X.tr pn xe) e)) (wB (X.tr pn xe) rest) E σ H := wE_imp h0 fun _ _ z => z.elim
  exact wB_of (pss_cons (ps_expr (X := X.tr pn xe) pe_w hsw) pb_w) h1
/-- the caught error in its slot -/
def tEr (a dd : Addr) (z : Str) : Ty := ⟨fun v H => v = .ref a ∧ H dd = some (.xd [(("reason" : Str), .str z)]), fun e h => ⟨h.1, e _ _ h.2⟩⟩
/-- its dict -/
def WR (z : Str) : Option Addr → Hp → Prop := fun d H => ∃ dd, d = some dd ∧ H dd = some (.xd [(("reason" : Str), .str z)])
theorem ok_drop {σ : L2.St} {H : Hp} {i : Nat} (ok : OKc Δ σ H) (h : Δ[i]? = some none) : OKc Δ (σ.set i none) H := by
  refine ⟨by rw [List.length_set]; exact ok.1, fun j R hj => ?_⟩
  by_cases e : i = j
  · subst e; rw [h] at hj; cases hj
  · rw [List.getElem?_set_ne e]; exact ok.2 j R hj
theorem st_tryAs {n : Str} {i : Nat} {z : Str} {np pos' : Pos} {b₀ : Stmt} {suite rest : List Stmt} {mu : List Addr} {t : Tg} (hs : X.stack = X.env :: X.outer) (hf : X.env.frame = some X.env.locals) (hN : X.N.Nodup) (hi : X.N[i]? = some n) (hln : X.env.kindOf n = some .local) (hc : Names X x (.ref C)) (hx : PySem.W.exmOne X.K (.ref C) (.ref C) = some true)
    (hb : ∀ pn xe, XT (X.tr pn xe) Γ e C (WR z)) (hm : t.mu = mu) (ht : t.nx = some Δ) (hd : Δ[i]? = some none)
    (hsu : ∀ a dd oe pn, Zc (.ref C) (some dd) oe → (∃ vs, oe.data = .fields vs) → BT (X.suite a ((a, oe) :: pn)) (Γ.set i (some (tEr a dd z))) (b₀ :: suite) { nx := some Δ, mu := mu })
    (hsw : swapsWith e none p.line X.env = pure false := by rfl) : ST X Γ (.Try (.Expr e p :: rest) [.ExceptHandler (some (.Name x np)) (some n) (b₀ :: suite) pos'] [] [] pos) t := fun σ H E ok te => by
  refine wS_of (ps_try_as (i := i) (Wout := fun _ _ _ _ => False) hs hf hN hi hln hc takes0 (tb := fun W D σ H => ∀ pn xe, Takes (X.tr pn xe) W → wB (X.tr pn xe) (.Expr e p :: rest) D σ H) (ts := fun a cls d D σ H => ∀ oe pn, Zc cls d oe → (∃ vs, oe.data = .fields vs) → wB (X.suite a ((a, oe) :: pn)) (b₀ :: suite) D σ H)
    (fun W pn xe tk pass => ⟨fun pins s σ H D I h => h pn xe tk pins s I⟩) (fun a oe cls d pn hz hfl => ⟨fun pins s σ H D I h => h oe pn hz hfl pins s I⟩)) ?_
  intro pn xe tk
  have h0 : wE (X.tr pn xe) e σ H (fun _ _ => False) := by
    refine hb pn xe _ tk σ H ok (fun d H' s w => ⟨true, hx, fun _ a _ oe pn' hz hfl => ?_, fun z => nomatch z⟩) _
    obtain ⟨dd, rfl, hdd⟩ := w
    refine hsu a dd oe pn' hz hfl _ H' _ ((ok.up s).put i ⟨rfl, hdd⟩) ⟨fun G q σ' H2 s2 ok2 => ?_, endR_none, endC_none, endC_none⟩
    cases q
    exact te.nx Δ ht _ H2 (s.m.trans (hm ▸ s2)) (ok_drop ok2 hd)
  have h1 : tSeq (tDrop (wE (X.tr pn xe) e)) (wB (X.tr pn xe) rest) E σ H := wE_imp h0 fun _ _ z => z.elim
  exact wB_of (pss_cons (ps_expr (X := X.tr pn xe) pe_w hsw) pb_w) h1
theorem et_reason {z : Str} {a dd : Addr} {oe : Obj} {pn : List (Addr × Obj)} (T : XfC X.K C) (hno : PySem.W.findIn X.K (.ref C) "reason" = some none) (hz : Zc (.ref C) (some dd) oe) (hf : ∃ vs, oe.data = .fields vs)
    (he : ET (X.suite a ((a, oe) :: pn)) Γ e (tEr a dd z)) (hb : attributeBase e "reason" X.env (eval e X.env) = eval e X.env := by rfl) : ET (X.suite a ((a, oe) :: pn)) Γ (.Attribute e "reason" pos) (tX z) := fun σ H ok =>
  wE_of (pe_xf T hno hz hf pe_w hb) (he.use ok fun y H1 s _ ⟨ey, hy⟩ => ⟨ey, rfl, dd, _, .str z, rfl, hy, by simp [List.lookup], s, rfl⟩)
end
section
variable {P : Program} {w : World} {K : PySem.W.Frag} {mg : Str → Option Value} {base : Heap} {k : Nat} {f : Addr} {fd : FuncData} {N ps : List Str} {R : Ty} {Rs : List Ty} {C : Addr} {W : Option Addr → Hp → Prop}
  {x qual : Str} {params : Arguments} {body : List Stmt} {scope : Scope} {dvs : List V} {kws : List (Str × V)}
abbrev BodyX (P : Program) (w : World) (K : PySem.W.Frag) (mg : Str → Option Value) (base : Heap) (N : List Str) (qual : Str) (scope : Scope) (f : Addr) (cdv : Value) (A : Around) (outer : List Env) (s : Shared) (H : Hp) (E : XK) : Cx :=
  cxOf (L2.CX P w) P w K mg base N qual scope f cdv A outer s H E
/-- a def that raises -/
theorem fn_x (F : FunD K x qual params body scope dvs kws f fd) (S : FnScope N ps scope) (hl : (R :: Rs).length = ps.length)
    (h : ∀ cdv A outer s H E, Room k (A.deeper (envOfC qual scope s.heap.objs.size f cdv)) → (∀ d H', Same H H' → W d H' → E (.ref C) d H') → Takes (BodyX P w K mg base N qual scope f cdv A outer s H E) (fun cls d _ H' => E cls d H') →
      BT (BodyX P w K mg base N qual scope f cdv A outer s H E) (ini N (tSince H R :: Rs)) body {}) :
    FnOk P w K mg base (L2.CX P w) (k + 1) f fd ps (spX (R :: Rs) C W) := by
  refine F.ok S (fun vs H Q E q => q.1.len.trans hl) (fun cdv A outer s H vs Q E hr q => ?_)
  refine ⟨wB (BodyX P w K mg base N qual scope f cdv A outer s H E) body, pb_w, ?_⟩
  have hv : TVs vs (tSince H R :: Rs) H := by
    cases vs with
    | nil => exact q.1.elim
    | cons v vs => exact ⟨⟨q.1.1, Same.refl H⟩, q.1.2⟩
  exact h cdv A outer s H E hr q.2 (takes_of rfl rfl rfl rfl) _ H _ (ini_ok hv) ⟨endC_none, endR_none, endC_none, endC_none⟩
theorem fnX_of (h : FnOk P w K mg base (L2.CX P w) k f fd ps (spX Rs C W)) (b : Binds K fd ps []) : FnX P w K mg base k f Rs C W := ⟨fd, ps, h, b⟩
end
end SL
set_option exponentiation.threshold 256
set_option maxRecDepth 100000
set_option maxHeartbeats 1000000
namespace SL
open PySem PySem.Spec PyProof.Rows L2
section
variable {X : Cx} {Γ Δ : Cxt} {e a b : Expr} {R S U R1 R2 R3 R4 R5 : Ty} {Rs : List Ty} {pos p apos : Pos} {t : Tg} {k : Nat} {f C D : Addr} {x : Str} {s s1 s2 : Sd} {es : List Expr}
theorem pgn {i : Nat} {px : Pos} (hN : X.N.Nodup) (hi : X.N[i]? = some x) (hl : X.env.scope.names.lookup x = some .local) : PG X (.Name x px) (gName i) := pg_name hN hi (.inl hl) (.inr hl)
/-- a, b, c = e -/
theorem st_unp3 {i1 i2 i3 : Nat} {x1 x2 x3 : Str} {p1 p2 p3 pt : Pos} {kt} (hc : X.calm = true) (hN : X.N.Nodup) (h1 : X.N[i1]? = some x1) (h2 : X.N[i2]? = some x2) (h3 : X.N[i3]? = some x3)
    (l1 : X.env.scope.names.lookup x1 = some .local) (l2 : X.env.scope.names.lookup x2 = some .local) (l3 : X.env.scope.names.lookup x3 = some .local) (he : ET X Γ e (tT X.K [R1, R2, R3])) (h : t.nx = some Δ) (hΔ : Sub (((Γ.set i1 (some R1)).set i2 (some R2)).set i3 (some R3)) Δ)
    (hn : (assignEach [.Name x1 p1, .Name x2 p2, .Name x3 p3] X.env).length = 3) (hst : (assignEach [.Name x1 p1, .Name x2 p2, .Name x3 p3] X.env).findIdx? (·.1) = none)
    (hs1 : (assignEach [.Name x1 p1, .Name x2 p2, .Name x3 p3] X.env).map (·.2) = assign (.Name x1 p1) X.env :: (assignEach [.Name x2 p2, .Name x3 p3] X.env).map (·.2))
    (hs2 : (assignEach [.Name x2 p2, .Name x3 p3] X.env).map (·.2) = assign (.Name x2 p2) X.env :: (assignEach [.Name x3 p3] X.env).map (·.2))
    (hs3 : (assignEach [.Name x3 p3] X.env).map (·.2) = assign (.Name x3 p3) X.env :: (assignEach [] X.env).map (·.2))
    (hs : swapsWithSole [.Tuple [.Name x1 p1, .Name x2 p2, .Name x3 p3] kt pt] e pos.line X.env = pure false) (hw : swappedStores [.Tuple [.Name x1 p1, .Name x2 p2, .Name x3 p3] kt pt] e X.env = pure none)
    (hh : (assignEach [.Tuple [.Name x1 p1, .Name x2 p2, .Name x3 p3] kt pt] X.env).map (·.2) = [assign (.Tuple [.Name x1 p1, .Name x2 p2, .Name x3 p3] kt pt) X.env]) : ST X Γ (.Assign [.Tuple [.Name x1 p1, .Name x2 p2, .Name x3 p3] kt pt] e pos) t := fun σ H D ok te =>
  wS_of (ps_asg pe_w (pg_tup (n := 3) hc (pgs_cons (pgn hN h1 l1) (pgs_cons (pgn hN h2 l2) (pgs_cons (pgn hN h3 l3) pgs_nil hs3) hs2) hs1) hn hst) hs hw hh) (he.use ok fun v H1 s ok1 ⟨p, xs, ev, hq, rs⟩ => by
    match xs, rs with
    | [v1, v2, v3], ⟨r1, r2, r3, _⟩ =>
      exact ⟨p, _, ev, hq, rfl, v1, [v2, v3], rfl, v2, [v3], rfl, v3, [], rfl, rfl, te.nx Δ h _ H1 s.m ((((ok1.put i1 r1).put i2 r2).put i3 r3).sub hΔ)⟩)
/-- a, b, c, d, e = .. -/
theorem st_unp5 {i1 i2 i3 i4 i5 : Nat} {x1 x2 x3 x4 x5 : Str} {p1 p2 p3 p4 p5 pt : Pos} {kt} (hc : X.calm = true) (hN : X.N.Nodup) (h1 : X.N[i1]? = some x1) (h2 : X.N[i2]? = some x2) (h3 : X.N[i3]? = some x3) (h4 : X.N[i4]? = some x4) (h5 : X.N[i5]? = some x5)
    (l1 : X.env.scope.names.lookup x1 = some .local) (l2 : X.env.scope.names.lookup x2 = some .local) (l3 : X.env.scope.names.lookup x3 = some .local) (l4 : X.env.scope.names.lookup x4 = some .local) (l5 : X.env.scope.names.lookup x5 = some .local) (he : ET X Γ e (tT X.K [R1, R2, R3, R4, R5])) (h : t.nx = some Δ) (hΔ : Sub (((((Γ.set i1 (some R1)).set i2 (some R2)).set i3 (some R3)).set i4 (some R4)).set i5 (some R5)) Δ)
    (hn : (assignEach [.Name x1 p1, .Name x2 p2, .Name x3 p3, .Name x4 p4, .Name x5 p5] X.env).length = 5) (hst : (assignEach [.Name x1 p1, .Name x2 p2, .Name x3 p3, .Name x4 p4, .Name x5 p5] X.env).findIdx? (·.1) = none)
    (hs1 : (assignEach [.Name x1 p1, .Name x2 p2, .Name x3 p3, .Name x4 p4, .Name x5 p5] X.env).map (·.2) = assign (.Name x1 p1) X.env :: (assignEach [.Name x2 p2, .Name x3 p3, .Name x4 p4, .Name x5 p5] X.env).map (·.2))
    (hs2 : (assignEach [.Name x2 p2, .Name x3 p3, .Name x4 p4, .Name x5 p5] X.env).map (·.2) = assign (.Name x2 p2) X.env :: (assignEach [.Name x3 p3, .Name x4 p4, .Name x5 p5] X.env).map (·.2))
    (hs3 : (assignEach [.Name x3 p3, .Name x4 p4, .Name x5 p5] X.env).map (·.2) = assign (.Name x3 p3) X.env :: (assignEach [.Name x4 p4, .Name x5 p5] X.env).map (·.2))
    (hs4 : (assignEach [.Name x4 p4, .Name x5 p5] X.env).map (·.2) = assign (.Name x4 p4) X.env :: (assignEach [.Name x5 p5] X.env).map (·.2))
    (hs5 : (assignEach [.Name x5 p5] X.env).map (·.2) = assign (.Name x5 p5) X.env :: (assignEach [] X.env).map (·.2))
    (hs : swapsWithSole [.Tuple [.Name x1 p1, .Name x2 p2, .Name x3 p3, .Name x4 p4, .Name x5 p5] kt pt] e pos.line X.env = pure false) (hw : swappedStores [.Tuple [.Name x1 p1, .Name x2 p2, .Name x3 p3, .Name x4 p4, .Name x5 p5] kt pt] e X.env = pure none)
    (hh : (assignEach [.Tuple [.Name x1 p1, .Name x2 p2, .Name x3 p3, .Name x4 p4, .Name x5 p5] kt pt] X.env).map (·.2) = [assign (.Tuple [.Name x1 p1, .Name x2 p2, .Name x3 p3, .Name x4 p4, .Name x5 p5] kt pt) X.env]) : ST X Γ (.Assign [.Tuple [.Name x1 p1, .Name x2 p2, .Name x3 p3, .Name x4 p4, .Name x5 p5] kt pt] e pos) t := fun σ H D ok te =>
  wS_of (ps_asg pe_w (pg_tup (n := 5) hc (pgs_cons (pgn hN h1 l1) (pgs_cons (pgn hN h2 l2) (pgs_cons (pgn hN h3 l3) (pgs_cons (pgn hN h4 l4) (pgs_cons (pgn hN h5 l5) pgs_nil hs5) hs4) hs3) hs2) hs1) hn hst) hs hw hh) (he.use ok fun v H1 s ok1 ⟨p, xs, ev, hq, rs⟩ => by
    match xs, rs with
    | [v1, v2, v3, v4, v5], ⟨r1, r2, r3, r4, r5, _⟩ =>
      exact ⟨p, _, ev, hq, rfl, v1, [v2, v3, v4, v5], rfl, v2, [v3, v4, v5], rfl, v3, [v4, v5], rfl, v4, [v5], rfl, v5, [], rfl, rfl, te.nx Δ h _ H1 s.m ((((((ok1.put i1 r1).put i2 r2).put i3 r3).put i4 r4).put i5 r5).sub hΔ)⟩)
def NotNon (R : Ty) : Prop := ∀ v H, R.p v H → v ≠ .non
theorem ev_isN {d : Bool} (h : ∀ v H, R.p v H → decide (v = .non) = d) (ha : ET X Γ a R) (hb : ET X Γ b tN) (hm : behindInMarks .Is b = false := by rfl) : ET X Γ (.Compare a [.Is] [b] pos) (tB d) :=
  et_cmp op_isN ha hb (fun x y H Q r1 r2 q => ⟨r2, q _ H (Same.refl H) (by rw [h x H r1]; rfl)⟩) hm
theorem tt_notN {d : Bool} (h : ∀ v H, R.p v H → decide (v = .non) = d) (ha : ET X Γ a R) (hb : ET X Γ b tN) (hm : behindInMarks .IsNot b = false := by rfl) : TT_ X Γ (.Compare a [.IsNot] [b] pos) (!d) :=
  tt_cmp op_notN ha hb (fun x y H Q r1 r2 q => ⟨r2, q _ H (Same.refl H) (by rw [h x H r1]; rfl)⟩) hm
theorem tt_eqBB {d e : Bool} (ha : ET X Γ a (tB d)) (hb : ET X Γ b (tB e)) (hm : behindInMarks .Eq b = false := by rfl) : TT_ X Γ (.Compare a [.Eq] [b] pos) (decide (d = e)) := tt_cmp op_eq ha hb r_eqB hm
theorem em_ixL {i : Int} (n : Nat) (hΓ : StbC [D] Γ) (hi : i = n) (hR : Rs[n]? = some R) (ha : EM X D s s1 Γ a (tLn [D] Rs)) (hs : ∀ R ∈ Rs, Stb [D] R) (hb : EM X D s1 s2 Γ b (tI i)) (hp : PlainIx b := by intro _ _; rfl) : EM X D s s2 Γ (.Subscript a b pos) R :=
  fun σ H ok hs0 => wE_of (pe_ix ix_list pe_w pe_w hp) (bin_useM hΓ ha (stb_Ln hs) hb (fun x y H Q r1 r2 k => r_ixL hi hR x y H Q (tLn_L x H r1) r2 k) ok hs0 fun _ _ m h u => ⟨m, h, u⟩)
section
variable {P : Program} {w : World} {K : PySem.W.Frag} {mg : Str → Option Value} {base : Heap} {fd : FuncData} {N : List Str} {y qual pv : Str} {params : Arguments} {body : List Stmt} {scope : Scope} {W : Option Addr → Hp → Prop}
theorem tvs_tup {vs : List V} {H : Hp} {p : Addr} (h : TVs vs Rs H) (hp : H p = none) : TVs [V.ref p] [tT K Rs] (upd H p (.tup vs)) := ⟨⟨p, vs, rfl, .inl (.inl upd_same), h.up (same_new hp)⟩, trivial⟩
theorem bind_nil {pv : Str} {m : Sem (List (Str × Value))} {us : List Value} (h : m = (newTuple us >>= fun t => pure [(pv, t)])) : m = (newTuple us >>= fun t => pure (([] : List Str).zip ([] : List Value) ++ [(pv, t)])) := h
/-- what binding makes of the arguments of a def(*pv) -/
def BindV (K : PySem.W.Frag) (y qual : Str) (params : Arguments) (body : List Stmt) (scope : Scope) (pv : Str) : Prop := ∀ (kV doc pm : Value) (an : Option Addr) (cdv ct : Value) (us : List Value),
  bindArgs (PySem.W.fnOf y qual params body scope .none kV doc pm an cdv ct) ⟨us, []⟩ = (newTuple us >>= fun t => pure [(pv, t)])
theorem bindV_app {pv : Str} (hb : BindV K y qual params body scope pv) {kV doc pm cdv ct : Value} {an : Option Addr} : ∀ us rest : List Value, us.length = ([] : List Str).length → bindArgs (PySem.W.fnOf y qual params body scope .none kV doc pm an cdv ct) ⟨us ++ rest, []⟩ = (newTuple rest >>= fun t => pure (([] : List Str).zip us ++ [(pv, t)]))
  | [], rest, _ => bind_nil (hb kV doc pm an cdv ct rest)
  | _ :: _, _, h => absurd h (by intro z; cases z)
theorem fnV_of (F : FunD K y qual params body scope [] [] f fd) (S : FnScope N [pv] scope) (hb : BindV K y qual params body scope pv) (hz : Rs.length ≤ sizeLine)
    (h : ∀ cdv A outer s H, Room k (A.deeper (envOfC qual scope s.heap.objs.size f cdv)) → BT (BodyCx P w K mg base N qual scope f cdv A outer s H) (ini N [tT K Rs]) body { nx := some Δ }) : FnR P w K mg base CX0 (k + 1) f (spT Rs tN) := by
  obtain ⟨oc, od, dV, kV, doc, pm, an, cdv, ct, osl, rfl, lk, hcd, hD, hK⟩ := F.ex
  rcases hD with ⟨_, rfl⟩ | ⟨e, _⟩
  · have hbd : ∀ (A : Around) (outer : List Env) (s : Shared) (H : Hp) (vs : List V) (Q : VK) (E : XK), Room k (A.deeper (envOfC qual scope s.heap.objs.size f cdv)) → spT [tT K Rs] tN vs H Q E →
      ∃ t, PSs (cxOf CX0 P w K mg base N qual scope f cdv A outer s H E) body t ∧ t { nx := fun _ H' => Q .non H', rt := Q } (L2.start N vs) H := fun A outer s H vs Q E hr q => by
      refine ⟨wB (BodyCx P w K mg base N qual scope f cdv A outer s H) body, PSs.nox pb_w, ?_⟩
      exact h cdv A outer s H hr _ H _ (ini_ok q.1) ⟨fun G z σ' H' s' ok => q.2 .non H' s'.nil rfl, endR_none, endC_none, endC_none⟩
    have hs := StX.fn_star (ps := []) (pv := pv) (N := N) (sp := spT [tT K Rs] tN) lk hcd S StX.cxUp_none (bindV_app hb) hbd
    exact FnR.imp hs fun vs H Q E q => ⟨[], vs, rfl, rfl, by rw [q.1.len]; exact hz, fun p hp => ⟨tvs_tup q.1 hp, fun v H' s' u => q.2 v H' ((same_new hp).trans s') u⟩⟩
  · exact absurd rfl e
theorem tvs_since {vs : List V} {H : Hp} {R : Ty} (h : TVs vs [R] H) : TVs vs [tSince H R] H := by
  cases vs with
  | nil => exact h.elim
  | cons v vs => exact ⟨⟨h.1, Same.refl H⟩, h.2⟩
/-- one that raises -/
theorem fnVX_of (F : FunD K y qual params body scope [] [] f fd) (S : FnScope N [pv] scope) (hb : BindV K y qual params body scope pv) (hz : Rs.length ≤ sizeLine)
    (h : ∀ cdv A outer s H E, Room k (A.deeper (envOfC qual scope s.heap.objs.size f cdv)) → (∀ d H', Same H H' → W d H' → E (.ref C) d H') → Takes (BodyX P w K mg base N qual scope f cdv A outer s H E) (fun cls d _ H' => E cls d H') →
      BT (BodyX P w K mg base N qual scope f cdv A outer s H E) (ini N [tSince H (tT K Rs)]) body {}) : FnR P w K mg base (L2.CX P w) (k + 1) f (spX Rs C W) := by
  obtain ⟨oc, od, dV, kV, doc, pm, an, cdv, ct, osl, rfl, lk, hcd, hD, hK⟩ := F.ex
  rcases hD with ⟨_, rfl⟩ | ⟨e, _⟩
  · have hbd : ∀ (A : Around) (outer : List Env) (s : Shared) (H : Hp) (vs : List V) (Q : VK) (E : XK), Room k (A.deeper (envOfC qual scope s.heap.objs.size f cdv)) → spX [tT K Rs] C W vs H Q E →
      ∃ t, PSs (cxOf (L2.CX P w) P w K mg base N qual scope f cdv A outer s H E) body t ∧ t { nx := fun _ H' => Q .non H', rt := Q } (L2.start N vs) H := fun A outer s H vs Q E hr q => by
      refine ⟨wB (BodyX P w K mg base N qual scope f cdv A outer s H E) body, pb_w, ?_⟩
      have hv : TVs vs [tSince H (tT K Rs)] H := tvs_since q.1
      exact h cdv A outer s H E hr q.2 (takes_of rfl rfl rfl rfl) _ H _ (ini_ok hv) ⟨endC_none, endR_none, endC_none, endC_none⟩
    have hs := StX.fn_star (ps := []) (pv := pv) (N := N) (sp := spX [tT K Rs] C W) lk hcd S StX.cxUp (bindV_app hb) hbd
    exact FnR.imp hs fun vs H Q E q => ⟨[], vs, rfl, rfl, by rw [q.1.len]; exact hz, fun p hp => ⟨tvs_tup q.1 hp, fun d H' s' u => q.2 d H' ((same_new hp).trans s') u⟩⟩
  · exact absurd rfl e
end
section
variable {W : Option Addr → Hp → Prop}
/-- x(..), x such a def -/
theorem pe_callV {CX : CXT} {sp : Sp} {E : XK} {ta : TA} (F : FnR X.prog X.w X.K X.mg X.base CX k f sp) (hr : Room k X.A) (hg : Gl X x) (hm : X.mg x = some (.ref f)) (hk : PySem.W.keepIn X.K (.ref f) = true) (hx : Passes CX X E) (ha : PA X (e :: es) ta) (hdb : (x == ("__debug__" : Str)) = false := by decide)
    (he : starEach (e :: es) X.env = (false, eval e X.env) :: starEach es X.env := by rfl) (hpl : (backTo pos (starEach es X.env)).any (·.1) = false := by rfl) : PE X (.Call (.Name x p) (e :: es) [] pos) (fun σ H Q => ta σ H fun vs H1 => sp vs H1 Q E) := by
  refine ⟨fun pins s σ H Q I h => ?_⟩
  refine wpAny_Call_Name_kw (ld_glob I hg hm ?_ hdb)
  refine PySem.W.callWith_K (h₀ := X.base) I.ok.mod.kin hk (thn (ha.run pos pins s σ H _ I h) fun us s1 ⟨vs, H1, I1, r, q⟩ => ⟨I1.kIn, ?_⟩) he hpl
  exact wpAny_call (run_fnR F hr hx I1 r q)
theorem et_callV (F : FnR X.prog X.w X.K X.mg X.base CX0 k f (spT Rs U)) (hr : Room k X.A) (hg : Gl X x) (hm : X.mg x = some (.ref f)) (hk : PySem.W.keepIn X.K (.ref f) = true) (ha : AT X Γ (e :: es) Rs)
    (hdb : (x == ("__debug__" : Str)) = false := by decide) (he : starEach (e :: es) X.env = (false, eval e X.env) :: starEach es X.env := by rfl) (hpl : (backTo pos (starEach es X.env)).any (·.1) = false := by rfl) : ET X Γ (.Call (.Name x p) (e :: es) [] pos) U :=
  fun σ H ok => wE_of (pe_callV (E := E0) F hr hg hm hk pass0 pa_w hdb he hpl) (ha.use ok fun vs H1 s _ rs => ⟨rs, fun v H2 s2 u => ⟨s.trans s2, u⟩⟩)
theorem xt_callV (F : FnR X.prog X.w X.K X.mg X.base (L2.CX X.prog X.w) k f (spX Rs C W)) (hr : Room k X.A) (hg : Gl X x) (hm : X.mg x = some (.ref f)) (hk : PySem.W.keepIn X.K (.ref f) = true) (ha : AT X Γ (e :: es) Rs)
    (hdb : (x == ("__debug__" : Str)) = false := by decide) (he : starEach (e :: es) X.env = (false, eval e X.env) :: starEach es X.env := by rfl) (hpl : (backTo pos (starEach es X.env)).any (·.1) = false := by rfl) : XT X Γ (.Call (.Name x p) (e :: es) [] pos) C W := by
  intro Wx tk σ H ok h Q pins s I
  refine wpAny_Call_Name_kw (ld_glob I hg hm ?_ hdb)
  refine PySem.W.callWith_K (h₀ := X.base) I.ok.mod.kin hk (thn (ha σ H ok pos pins s I) fun us s2 ⟨vs, H2, I2, r, sm, rs⟩ => ⟨I2.kIn, ?_⟩) he hpl
  refine wpAny_call (codeAny_mono (F X.A X.stack s2 H2 us vs Q (WE Wx σ) hr I2.env0 r ⟨rs, fun d H3 s3 w => h d H3 (sm.trans s3) w⟩) fun r s' hq => ?_)
  cases r with
  | error e => exact passAt tk σ pins H2 s2 e s' I2 hq
  | ok fl =>
    cases fl with
    | ret u => exact I2.after hq
    | next => exact False.elim hq
    | brk => exact False.elim hq
    | cont => exact False.elim hq
/-- a def that a name of the block holds -/
theorem xt_callL {i : Nat} (F : FnX X.prog X.w X.K X.mg X.base k f Rs C W) (hr : Room k X.A) (hN : X.N[i]? = some x) (hv : L2.Vis X.env.scope x) (hk : PySem.W.keepIn X.K (.ref f) = true) (hΓ : Γ[i]? = some (some (tV (.ref f)))) (ha : AT X Γ (e :: es) Rs)
    (hdb : (x == ("__debug__" : Str)) = false := by decide) (hcd : (x == ("__classdict__" : Str)) = false := by decide) (he : starEach (e :: es) X.env = (false, eval e X.env) :: starEach es X.env := by rfl) (hpl : (backTo pos (starEach es X.env)).any (·.1) = false := by rfl) : XT X Γ (.Call (.Name x p) (e :: es) [] pos) C W := by
  obtain ⟨fd, ps, F1, hb⟩ := F
  intro Wx tk σ H ok h Q pins s I
  obtain ⟨v0, hs, ev⟩ := ok.2 i _ hΓ
  cases (show v0 = V.ref f from ev)
  refine wpAny_Call_Name_kw (thn ((pe_var (pos := p) hN hv hdb hcd).run pins s σ H (fun v H1 => v = .ref f ∧ H1 = H) I ⟨.ref f, hs, rfl, rfl⟩) fun u s1 ⟨v, H1, I1, r1, q1⟩ => ?_)
  obtain ⟨rfl, rfl⟩ := q1
  cases r1
  refine PySem.W.callWith_K (h₀ := X.base) I.ok.mod.kin hk (thn (ha σ H1 ok pos pins s1 I1) fun us s2 ⟨vs, H2, I2, r, sm, rs⟩ => ⟨I2.kIn, ?_⟩) he hpl
  exact run_fnS (E := WE Wx) F1 hr hb (passAt tk σ) I2 r ⟨rs, fun d H3 s3 w => h d H3 (sm.trans s3) w⟩
/-- a statement that raises -/
theorem st_exprX {i : Nat} {H0 : Hp} {Wx : WX} (tk : Takes X Wx) (hi : Γ[i]? = some (some (tSince H0 R))) (he : XT X Γ e C W) (h : ∀ d σ H', Same H0 H' → W d H' → Wx (.ref C) d σ H') (hs : swapsWith e none pos.line X.env = pure false := by rfl) : ST X Γ (.Expr e pos) t := fun σ H E ok te => by
  obtain ⟨v, hv, r⟩ := ok.2 i _ hi
  exact wS_of (ps_expr pe_w hs) (wE_imp (he Wx tk σ H ok (fun d H' s w => h d σ H' (r.2.trans s) w) fun _ _ => False) fun _ _ z => z.elim)
end
end
end SL
set_option exponentiation.threshold 256
set_option maxRecDepth 100000
set_option maxHeartbeats 1000000
namespace SLT
open PySem PySem.Spec PyProof.Rows L2 SL SW
theorem same_new {H : Hp} {a : Addr} {o : HO} (h : H a = none) : Same H (upd H a o) := fun b u e => by rw [upd_ne (ne_of_none e h)]; exact e
abbrev cZero (K : PySem.W.Frag) : Addr := He.ga K "ZeroDivisor"
section
variable {P : Program} {w : World} {K : PySem.W.Frag} {mg : Str → Option Value} {base : Heap} {k : Nat}
theorem zer_own {X : Cx} (B : Facts X.K X.mg) {m : Str} {j : Nat} {p p2 pos : Pos} (hg : Gl X "ZeroDivisor") : PMk X (.Call (.Name "ZeroDivisor" p) [.Constant (.str m) j p2] [] pos) (fun _ H Q => Q (.ref (cZero X.K)) none H) :=
  pmk_own PySem.F.excBase_ValueError B.ex_ZeroDivisor.1 B.g_ZeroDivisor B.ex_ZeroDivisor.2.1 (raises_own B.ex_ZeroDivisor.2.2.1 B.ex_ZeroDivisor.2.2.2) hg
theorem w_annX (B : Bs P K mg) : FnX P w K mg base 58 (fTop K "step_annihilator") [tq K (0 : KF)] (cZero K) (fun _ _ => True) := by
  obtain ⟨fd', D⟩ := B.F.d_step_annihilator
  refine fnX_of (fn_x D sc_step_annihilator rfl fun cdv A outer s H E hr hE tk => ?_) (bi_step_annihilator D)
  refine bt_end (st_ifT (tt_val (ET.imp (et_meth0 ((opsK B _).is0 0) B.F.cl_RatFun B.F.me_RatFun_is_zero (hr.mono (by omega)) (ET.imp (S := tq K (0 : KF)) (vr 0 rfl rfl rfl rfl rfl) fun _ _ h => h.1) (noF rfl rfl) rfl) (tB_of (decide_eq_true rfl)))) (bt_last (st_raise (i := 0) rfl tk rfl (zer_own B.F rfl) fun σ H' s => hE none _ s trivial)))
theorem w_divideX (B : Bs P K mg) (a : List KF) : FnX P w K mg base 50 (fSteps K "divide") [tS K a, tS K ([] : List KF)] (cZero K) (fun _ _ => True) := by
  obtain ⟨fd', D⟩ := B.F.d_Steps_divide
  refine fnX_of (fn_x D sc_Steps_divide rfl fun cdv A outer s H E hr hE tk => ?_) (bi_Steps_divide D)
  refine bt_end (st_ifT (tt_val (ET.imp (et_meth0 (w_Sis0 B ([] : List KF)) B.F.cl_Steps B.F.me_Steps_is_zero (hr.mono (by omega)) (vr 1 rfl rfl rfl rfl rfl) (noS rfl) rfl) (tB_of (by simp)))) (bt_last (st_raise (i := 0) rfl tk rfl (zer_own B.F rfl) fun σ H' s => hE none _ s trivial)))
end
end SLT
set_option exponentiation.threshold 256
set_option maxRecDepth 100000
set_option maxHeartbeats 1000000
namespace SLT
open PySem PySem.Spec PyProof.Rows L2 SL SW
abbrev lawSt (i : Nat) : Stmt := d_law.body.getD i (.Pass ⟨0, 0, 0, 0⟩)
section
variable {X : Cx} {Γ Δ : Cxt} {e a b : Expr} {pos : Pos}
theorem tt_neF {u v : KF} (B : Bs X.prog X.K X.mg) (h : u = v) (hr : Room 55 X.A) (ha : ET X Γ a (tq X.K u)) (hb : ET X Γ b (tq X.K v)) (hmk : behindInMarks .NotEq b = false := by rfl) : TT_ X Γ (.Compare a [.NotEq] [b] pos) false := by
  subst h
  have := tt_neI (pos := pos) B.F.me_RatFun_eq B.F.ne_RatFun ((opsK B _).eq u u) hr isF isF ha hb hmk
  rwa [decide_eq_true rfl] at this
theorem tt_neS {u v : List KF} (B : Bs X.prog X.K X.mg) (h : u = v) (hr : Room 63 X.A) (ha : ET X Γ a (tS X.K u)) (hb : ET X Γ b (tS X.K v)) (hmk : behindInMarks .NotEq b = false := by rfl) : TT_ X Γ (.Compare a [.NotEq] [b] pos) false := by
  subst h
  have := tt_neI (pos := pos) B.F.me_Steps_eq B.F.ne_Steps (w_Seq B (fun base => opsK B base) u u) hr isS isS ha hb hmk
  rwa [decide_eq_true rfl] at this
theorem tt_neZ {i j : Int} (h : i = j) (ha : ET X Γ a (tI i)) (hb : ET X Γ b (tI j)) (hm : behindInMarks .NotEq b = false := by rfl) : TT_ X Γ (.Compare a [.NotEq] [b] pos) false := by
  have := tt_ne (pos := pos) ha hb hm
  rwa [decide_eq_true h] at this
theorem tt_notT (h : TT_ X Γ a true) : TT_ X Γ (.UnaryOp .Not a pos) false := tt_not h
end
section
variable {P : Program} {w : World} {K : PySem.W.Frag} {mg : Str → Option Value} {base : Heap} {cdv : Value} {A : Around} {outer : List Env} {sh : Shared} {H : Hp} {D : Addr} {s : Sd} {a b : List KF} {y f : KF} {k : Nat}
abbrev LX (P : Program) (w : World) (K : PySem.W.Frag) (mg : Str → Option Value) (base : Heap) (cdv : Value) (A : Around) (outer : List Env) (sh : Shared) (H : Hp) : Cx := BodyCx P w K mg base N_law d_law.qual d_law.scope (fTop K "law") cdv A outer sh H
abbrev LT (D : Addr) (Δ : Cxt) : Tg := { rt := some (tB true), nx := some Δ, mu := [D] }
variable (B : Bs P K mg) (hr : Room 80 (A.deeper (envOfC d_law.qual d_law.scope sh.heap.objs.size (fTop K "law") cdv)))
include B hr
end
end SLT
set_option exponentiation.threshold 256
set_option maxRecDepth 100000
set_option maxHeartbeats 1000000
namespace SLT
open PySem PySem.Spec PyProof.Rows L2 SL SW
section
variable {X : Cx} {Γ Δ : Cxt} {e d : Expr} {pos p1 p2 : Pos} {a b : List KF}
theorem eq_items {m : List Addr} (O : Ops KF Sz X.prog X.w X.K X.mg X.base) (B : Facts X.K X.mg) {i j : Nat} (h1 : i < a.length) (h2 : j < b.length) : EqB X 57 (tq X.K (a.getD i 0)) (tq X.K (b.getD j 0)) (decide (a.getD i 0 = b.getD j 0)) := by
  refine (rcB_ins B.me_RatFun_eq (FnT.mono (O.eq _ _) (by omega)) isF isF).eqB fun pins σ s x y H I ⟨p, dx, u, z, e1, g1, r1, r2⟩ ⟨q, dy, u2, z2, e2, g2, r3, r4⟩ => ⟨p, q, e1, e2, fun ez => ?_⟩
  subst ez
  rw [g1] at g2
  simp only [Option.some.injEq, HO.ins.injEq, List.cons.injEq, Prod.mk.injEq, true_and, and_true] at g2
  obtain ⟨_, rfl, rfl⟩ := g2
  exact decide_eq_true (FunQ.frI (fr_ext (tP_inj I r1 r3) (tP_inj I r2 r4)))
theorem et_coEq (B : Bs X.prog X.K X.mg) (hr : Room 60 X.A) (ha : ET X Γ e (tT X.K (tqs X.K a))) (hb : ET X Γ d (tT X.K (tqs X.K b))) (hm : behindInMarks .Eq d = false := by rfl) : ET X Γ (.Compare e [.Eq] [d] pos) (tB (decide (a = b))) := by
  refine ET.imp (et_RcB (n := 58) (rcB_tup (n := 57) (d := fun i => decide (a.getD i 0 = b.getD i 0)) fun i R S h1 h2 => ?_) (hr.mono (by omega)) ha hb hm) (tB_of ?_)
  · have l1 : i < a.length := by
      have := (List.getElem?_eq_some_iff.mp h1).1
      rwa [qq_len] at this
    have l2 : i < b.length := by
      have := (List.getElem?_eq_some_iff.mp h2).1
      rwa [qq_len] at this
    rw [qq_getD l1] at h1
    rw [qq_getD l2] at h2
    cases h1; cases h2
    exact eq_items (m := []) (opsK B _) B.F l1 l2
  · rw [qq_len, qq_len]
    unfold tres
    by_cases h : a = b
    · subst h
      simp
    · rw [decide_eq_false h]
      rw [Bool.and_eq_false_iff]
      by_cases hl : a.length = b.length
      · refine .inl ?_
        rw [List.all_eq_false]
        have : ∃ i, i < a.length ∧ a.getD i 0 ≠ b.getD i 0 := by
          refine Classical.byContradiction fun hn => h (List.ext_getElem hl fun i h1 h2 => ?_)
          refine Classical.byContradiction fun hc => hn ⟨i, h1, ?_⟩
          rw [List.getD_eq_getElem?_getD, List.getD_eq_getElem?_getD, List.getElem?_eq_getElem h1, List.getElem?_eq_getElem h2]
          exact hc
        obtain ⟨i, h1, h2⟩ := this
        exact ⟨i, List.mem_range.mpr (by omega), by rw [decide_eq_false h2]; decide⟩
      · exact .inr (by simpa using hl)
end
section
variable {X : Cx} {Γ : Cxt} {e d : Expr} {pos : Pos}
theorem ET_neB {p : Bool} (ha : ET X Γ e (tB p)) (hb : ET X Γ d (tB p)) (hm : behindInMarks .NotEq d = false := by rfl) : TT_ X Γ (.Compare e [.NotEq] [d] pos) false := by
  have := tt_neB (pos := pos) ha hb hm
  rwa [decide_eq_true rfl] at this
end
theorem lcF_first {n j : Nat} {bf : Nat → Bool} {Sf : Nat → Ty} (hj : j < n) (h0 : ∀ i, i < j → bf i = false) (h1 : bf j = true) : (lcF n bf Sf)[0]? = some (Sf j) := by
  have key : ∀ m, j < m → (lcF m bf Sf)[0]? = some (Sf j) := fun m => by
    induction m with
    | zero => intro h; omega
    | succ m ih =>
      intro hm
      by_cases e : j = m
      · subst e
        have z : ∀ i, i ≤ j → lcF i bf Sf = [] := fun i => by
          induction i with
          | zero => exact fun _ => rfl
          | succ i ih2 => exact fun hi => by rw [lcF_no (h0 i (by omega))]; exact ih2 (by omega)
        rw [lcF_yes h1, z j (Nat.le_refl _)]; rfl
      · have := ih (by omega)
        have hl : 0 < (lcF m bf Sf).length := (List.getElem?_eq_some_iff.mp this).1
        cases q : bf m with
        | true => rw [lcF_yes q, List.getElem?_append_left hl]; exact this
        | false => rw [lcF_no q]; exact this
  exact key n hj
section
variable {P : Program} {w : World} {K : PySem.W.Frag} {mg : Str → Option Value} {base : Heap} {cdv : Value} {A : Around} {outer : List Env} {sh : Shared} {H : Hp} {D : Addr} {s : Sd} {a b : List KF} {y f : KF} {k : Nat}
variable (B : Bs P K mg) (hr : Room 80 (A.deeper (envOfC d_law.qual d_law.scope sh.heap.objs.size (fTop K "law") cdv)))
include B hr
end
end SLT
set_option exponentiation.threshold 256
set_option maxRecDepth 100000
set_option maxHeartbeats 1000000
namespace SLT
open PySem PySem.Spec PyProof.Rows L2 SL SW
section
variable {P : Program} {w : World} {K : PySem.W.Frag} {mg : Str → Option Value} {base : Heap} {cdv : Value} {A : Around} {outer : List Env} {sh : Shared} {H : Hp} {D : Addr} {s : Sd} {a b : List KF} {y f : KF} {k : Nat}
variable (B : Bs P K mg) (hr : Room 80 (A.deeper (envOfC d_law.qual d_law.scope sh.heap.objs.size (fTop K "law") cdv)))
include B hr
end
theorem st_unpM {X : Cx} {Γ Δ : Cxt} {a b : Expr} {R S : Ty} {pos : Pos} {D : Addr} {s s1 : Sd} {i l j : Nat} {x y : Str} {px py pt : Pos} {kt k2 pt2} {t : Tg} (hj : Γ[j]? = some (some (tSt D s))) (hΓ : StbC [D] (Γ.set j (some (tV (.ref D))))) (hc : X.calm = true) (hN : X.N.Nodup) (hi : X.N[i]? = some x) (hl : X.N[l]? = some y)
    (hx : L2.Loc X.env.scope x) (hy : L2.Loc X.env.scope y) (hfx : X.fn x = true ∨ X.env.scope.names.lookup x = some .local) (hfy : X.fn y = true ∨ X.env.scope.names.lookup y = some .local) (ha : AM X D s s1 (Γ.set j (some (tV (.ref D)))) [a, b] [R, S]) (hmu : D ∈ t.mu) (h : t.nx = some Δ) (hΔ : Sub (((Γ.set j (some (tSt D s1))).set i (some R)).set l (some S)) Δ)
    (hn : (assignEach [.Name x px, .Name y py] X.env).length = 2 := by rfl) (hst : (assignEach [.Name x px, .Name y py] X.env).findIdx? (·.1) = none := by rfl)
    (hs1 : (assignEach [.Name x px, .Name y py] X.env).map (·.2) = assign (.Name x px) X.env :: (assignEach [.Name y py] X.env).map (·.2) := by rfl)
    (hs2 : (assignEach [.Name y py] X.env).map (·.2) = assign (.Name y py) X.env :: (assignEach [] X.env).map (·.2) := by rfl)
    (hs : swapsWithSole [.Tuple [.Name x px, .Name y py] kt pt] (.Tuple [a, b] k2 pt2) pos.line X.env = pure false := by rfl) (hw : swappedStores [.Tuple [.Name x px, .Name y py] kt pt] (.Tuple [a, b] k2 pt2) X.env = pure none := by rfl)
    (h1 : (assignEach [.Tuple [.Name x px, .Name y py] kt pt] X.env).map (·.2) = [assign (.Tuple [.Name x px, .Name y py] kt pt) X.env] := by rfl) : ST X Γ (.Assign [.Tuple [.Name x px, .Name y py] kt pt] (.Tuple [a, b] k2 pt2) pos) t := fun σ H E ok te => by
  obtain ⟨ok1, hs0⟩ := ok_ref ok hj
  have hjl := (List.getElem?_eq_some_iff.mp hj).1
  refine wS_of (ps_asg pe_w (pg_tup (n := 2) hc (pgs_cons (pg_name hN hi hx hfx) (pgs_cons (pg_name hN hl hy hfy) pgs_nil hs2) hs1) hn hst) hs hw h1) (wE_of (pe_tup pa_w) (ha.use hΓ ok1 hs0 fun vs H1 m hs1 ok2 rs => ?_))
  match vs, rs with
  | [v, w], ⟨r1, r2, _⟩ =>
    refine ⟨by simp [sizeLine], fun Q hQ => ?_⟩
    have sn : Same H1 (upd H1 Q (.tup [v, w])) := same_new hQ
    refine ⟨Q, [v, w], rfl, .inl (.inl upd_same), rfl, v, [w], rfl, w, [], rfl, rfl, ?_⟩
    exact te.nx Δ h _ _ ((m.mono fun a ha => by rw [List.mem_singleton.mp ha]; exact hmu).trans sn.m) ((((ok_st (ok2.up sn) hjl (hs1.up sn)).put i (R.mono sn r1)).put l (S.mono sn r2)).sub hΔ)
end SLT
set_option exponentiation.threshold 256
set_option maxRecDepth 100000
set_option maxHeartbeats 1000000
namespace SLT
open PySem PySem.Spec PyProof.Rows L2 SL SW
noncomputable abbrev tO (K : PySem.W.Frag) (a : Ow) : Ty := tS K a.row
/-- of moderate size -/
structure ZO (a : Ow) : Prop where
  z : ∀ x ∈ a.row, Sz x
  l : a.row.length ≤ 100
structure MO (a b : Ow) : Prop where
  m : MulQ Sz a.row b.row
  l : (mulQ a.row b.row).length ≤ 1000
structure SO (f : KF) (a : Ow) : Prop where
  f : Sz f
  a : ZO a
def DvO (a m q r : Ow) : Prop := ∃ T, SdvB Sz a.row m.row T ∧ (sdv a.row m.row T).1 = q.row ∧ (sdv a.row m.row T).2 = r.row
theorem ZO.neg {a : Ow} (h : ZO a) : ∀ x ∈ a.row.map (fun c => -c), Sz x := fun x hx => by
  obtain ⟨y, hy, rfl⟩ := List.mem_map.mp hx
  exact (h.z y hy).neg
section
variable {X : Cx} {Γ : Cxt} {e a b : Expr} {pos pp : Pos} {x y q r : Ow} {f : KF}
theorem et_om (B : Bs X.prog X.K X.mg) (hr : Room 66 X.A) (h : MO x y) (ha : ET X Γ a (tO X.K x)) (hb : ET X Γ b (tO X.K y)) : ET X Γ (.BinOp a .Mult b pos) (tO X.K (x * y)) :=
  et_own B.F.me_Steps_mul rfl B.F.sf_Steps (w_Smul B (fun base => opsK B base) _ _ h.m h.l) hr isS isS ha hb
theorem et_oa (B : Bs X.prog X.K X.mg) (hr : Room 62 X.A) (h : ZO x) (h2 : ZO y) (ha : ET X Γ a (tO X.K x)) (hb : ET X Γ b (tO X.K y)) : ET X Γ (.BinOp a .Add b pos) (tO X.K (x + y)) :=
  et_own B.F.me_Steps_add rfl B.F.sf_Steps (w_Sadd B (fun base => opsK B base) _ _ h.z h2.z (Nat.le_trans h.l (by decide)) (Nat.le_trans h2.l (by decide))) hr isS isS ha hb
theorem et_os (B : Bs X.prog X.K X.mg) (hr : Room 62 X.A) (h : ZO x) (h2 : ZO y) (ha : ET X Γ a (tO X.K x)) (hb : ET X Γ b (tO X.K y)) : ET X Γ (.BinOp a .Sub b pos) (tO X.K (x - y)) :=
  et_own B.F.me_Steps_sub rfl B.F.sf_Steps (w_Ssub B (fun base => opsK B base) _ _ h.z h2.z h2.neg (Nat.le_trans h.l (by decide)) (Nat.le_trans h2.l (by decide))) hr isS isS ha hb
theorem et_on (B : Bs X.prog X.K X.mg) (hr : Room 60 X.A) (h : ZO x) (ha : ET X Γ a (tO X.K x)) : ET X Γ (.UnaryOp .USub a pos) (tO X.K (-x)) :=
  et_ownNeg B.F.me_Steps_neg (w_Sneg B (fun base => opsK B base) _ h.z (Nat.le_trans h.l (by decide))) hr isS ha
theorem et_o0 (B : Bs X.prog X.K X.mg) (hr : Room 36 X.A) {d : Bool} (h : decide (x.row.length = 0) = d) {apos : Pos} (ha : ET X Γ a (tO X.K x)) (ht : eval (.Call (.Attribute a "is_zero" apos) [] [] pos) X.env = eval (.Call (.Attribute a "is_zero" apos) [] [] pos) X.env := by rfl) {pl : Sem Bool}
    (ht2 : eval (.Call (.Attribute a "is_zero" apos) [] [] pos) X.env = (do
      let ov ← eval a X.env
      standAt apos.atName
      let (f, first) ← holding [ov] (getMethod ov "is_zero" pl)
      callWith pos f first (backTo pos (starEach [] X.env)) (backToKw pos (keywordEach [] X.env))) := by rfl) : ET X Γ (.Call (.Attribute a "is_zero" apos) [] [] pos) (tB d) :=
  ET.imp (et_meth0 (w_Sis0 B x.row) B.F.cl_Steps B.F.me_Steps_is_zero hr ha (noS rfl) ht2) (tB_of h)
theorem row0 (h : x = Ow.Z) : decide (x.row.length = 0) = true := by rw [h]; rfl
theorem row1 (h : x ≠ Ow.Z) : decide (x.row.length = 0) = false := decide_eq_false fun z => h (Ow.row_nil.mp (List.length_eq_zero_iff.mp z))
end
/-- Euclid: what stands where -/
structure EuB (a b : Ow) (T : Nat) (A U V Qs : Nat → Ow) : Prop where
  a0 : A 0 = a
  a1 : A 1 = b
  u0 : U 0 = Ow.C 1
  u1 : U 1 = Ow.Z
  v0 : V 0 = Ow.Z
  v1 : V 1 = Ow.C 1
  nz : ∀ t, t < T → A (t + 1) ≠ Ow.Z
  dv : ∀ t, t < T → DvO (A t) (A (t + 1)) (Qs t) (A (t + 2))
  su : ∀ t, t < T → U (t + 2) = U t - Qs t * U (t + 1) ∧ ZO (U t) ∧ MO (Qs t) (U (t + 1)) ∧ ZO (Qs t * U (t + 1))
  sv : ∀ t, t < T → V (t + 2) = V t - Qs t * V (t + 1) ∧ ZO (V t) ∧ MO (Qs t) (V (t + 1)) ∧ ZO (Qs t * V (t + 1))
  fin : A (T + 1) = Ow.Z
section
variable {P : Program} {w : World} {K : PySem.W.Frag} {mg : Str → Option Value} {base : Heap} {k : Nat}
theorem w_divO (B : Bs P K mg) {a m q r : Ow} (h : DvO a m q r) : FnT P w K mg base 70 (fSteps K "divide") (spT [tO K a, tO K m] (tT K [tO K q, tO K r])) := by
  obtain ⟨T, s, e1, e2⟩ := h
  have := w_Sdivide (w := w) (base := base) B (fun base => opsK B base) a.row m.row T s
  rwa [e1, e2] at this
theorem w_step_euclid (B : Bs P K mg) {a b : Ow} {T : Nat} {A U V Qs : Nat → Ow} (h : EuB a b T A U V Qs) : FnT P w K mg base 74 (fTop K "step_euclid") (spT [tO K a, tO K b] (tT K [tO K (A T), tO K (U T), tO K (V T), tO K (U (T + 1)), tO K (V (T + 1))])) := by
  obtain ⟨fd', D⟩ := B.F.d_step_euclid
  refine fnT_of (fn_ret D sc_step_euclid rfl fun cdv Ar outer s H hr => ?_) (bi_step_euclid D)
  let Y := BodyCx P w K mg base N_step_euclid d_step_euclid.qual d_step_euclid.scope (fTop K "step_euclid") cdv Ar outer s H
  let Γs : Nat → Cxt := fun t => [some (tO K (A t)), some (tO K (A (t + 1))), some (tO K (U t)), some (tO K (V t)), some (tO K (U (t + 1))), some (tO K (V (t + 1))), none, none]
  have e0 : tO K a = tO K (A 0) := by rw [h.a0]
  have e1 : tO K b = tO K (A 1) := by rw [h.a1]
  have e2 : tO K (Ow.C 1) = tO K (U 0) := by rw [h.u0]
  have e3 : tO K Ow.Z = tO K (V 0) := by rw [h.v0]
  have e4 : tO K (U 1) = tO K (V 0) := by rw [h.u1, h.v0]
  have e5 : tO K (V 1) = tO K (U 0) := by rw [h.v1, h.u0]
  rw [e0, e1]
  refine bt_cons (Δ := [some (tO K (A 0)), some (tO K (A 1)), some (tO K (U 0)), some (tO K (V 0)), none, none, none, none]) (st_par (i := 2) (j := 3) (R := tO K (U 0)) (S := tO K (V 0)) rfl sc_step_euclid.nd rfl rfl (by decide) rfl rfl (at_two ?_ ?_) rfl (Sub.refl _) rfl rfl) ?_
  · rw [← e2]
    exact et_Steps (l := [(1 : KF)]) B (opsK B _) (hr.mono (by omega)) (by simp) rfl (ET.imp (et_disT (Rs := tqs K [(1 : KF)]) (at_one (et_call (opsK B _).one (hr.mono (by omega)) rfl B.F.g_of_ratio B.F.k_of_ratio (at_one (et_call0 (w_one B) (hr.mono (by omega)) rfl B.F.g_one B.F.k_one rfl)) rfl rfl rfl)) (by simp [tqs, sizeLine])) tT_S)
  · rw [← e3]
    exact et_Steps (l := ([] : List KF)) B (opsK B _) (hr.mono (by omega)) (by simp) rfl (ET.imp (et_disT (Rs := tqs K ([] : List KF)) at_nil (by simp [tqs])) tT_S)
  refine bt_cons (Δ := Γs 0) (st_par (i := 4) (j := 5) (R := tO K (U 1)) (S := tO K (V 1)) rfl sc_step_euclid.nd rfl rfl (by decide) rfl rfl (at_two ?_ ?_) rfl (Sub.refl _) rfl rfl) ?_
  · rw [e4]; exact vr 3 rfl rfl rfl rfl rfl
  · rw [e5]; exact vr 2 rfl rfl rfl rfl rfl
  have nt : ∀ t, t ≤ T → decide (t < T) = !decide ((A (t + 1)).row.length = 0) := fun t ht => by
    by_cases hl : t < T
    · rw [decide_eq_true hl, row1 (h.nz t hl)]; rfl
    · have : t = T := by omega
      rw [decide_eq_false hl, this, row0 h.fin]; rfl
  refine bt_cons (Δ := Γs T) (st_while Γs (fun t => decide (t < T)) (fun t => t + 1) (fun t => T - t) 0 (fun t => t ≤ T) PassesOwn.never (Sub.refl _) (Nat.zero_le _) (fun t ht => ?_) (fun t ht hd => ?_) (fun t ht hd => ?_) rfl (fun t ht hd => ?_)) (bt_last (st_ret (et_disT (at_cons (vr 0 rfl rfl rfl rfl rfl) (at_cons (vr 2 rfl rfl rfl rfl rfl) (at_cons (vr 3 rfl rfl rfl rfl rfl) (at_two (vr 4 rfl rfl rfl rfl rfl) (vr 5 rfl rfl rfl rfl rfl)) rfl) rfl) rfl) (by simp [sizeLine])) rfl))
  · rw [nt t ht]
    exact tt_not (tt_val (et_meth0 (w_Sis0 B _) B.F.cl_Steps B.F.me_Steps_is_zero (hr.mono (by omega)) (vr 1 rfl rfl rfl rfl rfl) (noS rfl) rfl))
  · have hl : t < T := of_decide_eq_true hd
    obtain ⟨u1, u2, u3, u4⟩ := h.su t hl
    obtain ⟨v1, v2, v3, v4⟩ := h.sv t hl
    refine bt_cons (Δ := [some (tO K (A t)), some (tO K (A (t + 1))), some (tO K (U t)), some (tO K (V t)), some (tO K (U (t + 1))), some (tO K (V (t + 1))), some (tO K (Qs t)), some (tO K (A (t + 2)))]) (st_unpack (i := 6) (j := 7) rfl rfl sc_step_euclid.nd rfl rfl (.inl rfl) (.inl rfl) (.inr rfl) (.inr rfl) (et_meth (w_divO B (h.dv t hl)) B.F.cl_Steps B.F.me_Steps_divide (hr.mono (by omega)) (vr 0 rfl rfl rfl rfl rfl) (noS rfl) (at_one (vr 1 rfl rfl rfl rfl rfl)) rfl rfl rfl) rfl (Sub.refl _) rfl rfl rfl rfl rfl rfl rfl) ?_
    refine bt_cons (Δ := [some (tO K (A (t + 1))), some (tO K (A (t + 2))), some (tO K (U t)), some (tO K (V t)), some (tO K (U (t + 1))), some (tO K (V (t + 1))), some (tO K (Qs t)), none]) (st_par (i := 0) (j := 1) (R := tO K (A (t + 1))) (S := tO K (A (t + 2))) rfl sc_step_euclid.nd rfl rfl (by decide) rfl rfl (at_two (vr 1 rfl rfl rfl rfl rfl) (vr 7 rfl rfl rfl rfl rfl)) rfl (sub_eq (sub_eq (sub_eq (sub_eq (sub_eq (sub_eq (sub_eq (sub_no sub_nil)))))))) rfl rfl) ?_
    refine bt_cons (Δ := [some (tO K (A (t + 1))), some (tO K (A (t + 2))), some (tO K (U (t + 1))), some (tO K (V t)), some (tO K (U (t + 2))), some (tO K (V (t + 1))), some (tO K (Qs t)), none]) (st_par (i := 2) (j := 4) (R := tO K (U (t + 1))) (S := tO K (U (t + 2))) rfl sc_step_euclid.nd rfl rfl (by decide) rfl rfl (at_two (vr 4 rfl rfl rfl rfl rfl) ?_) rfl (Sub.refl _) rfl rfl) ?_
    · rw [u1]
      exact et_os B (hr.mono (by omega)) u2 u4 (vr 2 rfl rfl rfl rfl rfl) (et_om B (hr.mono (by omega)) u3 (vr 6 rfl rfl rfl rfl rfl) (vr 4 rfl rfl rfl rfl rfl))
    refine bt_last (st_par (i := 3) (j := 5) (R := tO K (V (t + 1))) (S := tO K (V (t + 2))) rfl sc_step_euclid.nd rfl rfl (by decide) rfl rfl (at_two (vr 5 rfl rfl rfl rfl rfl) ?_) rfl (sub_eq (sub_eq (sub_eq (sub_eq (sub_eq (sub_eq (sub_no (sub_eq sub_nil)))))))) rfl rfl)
    rw [v1]
    exact et_os B (hr.mono (by omega)) v2 v4 (vr 3 rfl rfl rfl rfl rfl) (et_om B (hr.mono (by omega)) v3 (vr 6 rfl rfl rfl rfl rfl) (vr 5 rfl rfl rfl rfl rfl))
  · have hl : t < T := of_decide_eq_true hd
    exact ⟨by omega, by show T - (t + 1) < T - t; omega⟩
  · have hl : ¬ t < T := of_decide_eq_false hd
    have e : t = T := by omega
    rw [e]; exact Sub.refl _
theorem w_divisor0 (B : Bs P K mg) {a b : Ow} {T : Nat} {A U V Qs : Nat → Ow} (h : EuB a b T A U V Qs) (hz : A T = Ow.Z) : FnT P w K mg base 78 (fTop K "step_divisor") (spT [tO K a, tO K b] (tT K [tO K Ow.Z, tO K Ow.Z, tO K Ow.Z])) := by
  obtain ⟨fd', D⟩ := B.F.d_step_divisor
  refine fnT_of (fn_ret D sc_step_divisor rfl fun cdv Ar outer s H hr => ?_) (bi_step_divisor D)
  refine bt_cons (Δ := [none, none, some (tO K Ow.Z), none, none, none, none]) (st_unp5 (i1 := 2) (i2 := 3) (i3 := 4) (i4 := 5) (i5 := 5) rfl sc_step_divisor.nd rfl rfl rfl rfl rfl rfl rfl rfl rfl rfl (et_call (w_step_euclid B h) (hr.mono (by omega)) rfl B.F.g_step_euclid B.F.k_step_euclid (at_two (vr 0 rfl rfl rfl rfl rfl) (vr 1 rfl rfl rfl rfl rfl)) rfl rfl rfl) rfl (by rw [hz]; exact sub_no (sub_no (sub_eq (sub_no (sub_no (sub_no (sub_eq sub_nil))))))) rfl rfl rfl rfl rfl rfl rfl rfl rfl rfl) ?_
  exact bt_end (st_ifT (tt_val (et_o0 B (hr.mono (by omega)) (row0 rfl) (vr 2 rfl rfl rfl rfl rfl))) (bt_last (st_ret (et_disT (at_cons (vr 2 rfl rfl rfl rfl rfl) (at_two (vr 2 rfl rfl rfl rfl rfl) (vr 2 rfl rfl rfl rfl rfl)) rfl) (by simp [sizeLine])) rfl)))
theorem et_sc {X : Cx} {Γ : Cxt} {a b : Expr} {pos apos : Pos} {x : Ow} {f : KF} (B : Bs X.prog X.K X.mg) (hr : Room 62 X.A) (h : SO f x) (ha : ET X Γ a (tO X.K x)) (hb : ET X Γ b (tq X.K f)) {pl : Sem Bool}
    (hs : starEach [b] X.env = (false, eval b X.env) :: starEach [] X.env := by rfl) (hp : (backTo pos (starEach [] X.env)).any (·.1) = false := by rfl)
    (ht : eval (.Call (.Attribute a "scaled" apos) [b] [] pos) X.env = (do
      let ov ← eval a X.env
      standAt apos.atName
      let (f, first) ← holding [ov] (getMethod ov "scaled" pl)
      callWith pos f first (backTo pos (starEach [b] X.env)) (backToKw pos (keywordEach [] X.env))) := by rfl) : ET X Γ (.Call (.Attribute a "scaled" apos) [b] [] pos) (tO X.K (Ow.sc f x)) :=
  et_meth (w_Sscaled B (fun base => opsK B base) x.row f h.f h.a.z (Nat.le_trans h.a.l (by decide))) B.F.cl_Steps B.F.me_Steps_scaled hr ha (noS rfl) (at_one hb hs) hs hp ht
/-- x.leading().inverse() -/
theorem et_li {X : Cx} {Γ : Cxt} {a : Expr} {pos apos pos2 apos2 : Pos} {x : Ow} (B : Bs X.prog X.K X.mg) (hr : Room 54 X.A) (h : x ≠ Ow.Z) (hz : Sz x.lead) (ha : ET X Γ a (tO X.K x)) {pl pl2 : Sem Bool}
    (ht : eval (.Call (.Attribute a "leading" apos) [] [] pos) X.env = (do
      let ov ← eval a X.env
      standAt apos.atName
      let (f, first) ← holding [ov] (getMethod ov "leading" pl)
      callWith pos f first (backTo pos (starEach [] X.env)) (backToKw pos (keywordEach [] X.env))) := by rfl)
    (ht2 : eval (.Call (.Attribute (.Call (.Attribute a "leading" apos) [] [] pos) "inverse" apos2) [] [] pos2) X.env = (do
      let ov ← eval (.Call (.Attribute a "leading" apos) [] [] pos) X.env
      standAt apos2.atName
      let (f, first) ← holding [ov] (getMethod ov "inverse" pl2)
      callWith pos2 f first (backTo pos2 (starEach [] X.env)) (backToKw pos2 (keywordEach [] X.env))) := by rfl) : ET X Γ (.Call (.Attribute (.Call (.Attribute a "leading" apos) [] [] pos) "inverse" apos2) [] [] pos2) (tq X.K x.lead⁻¹) :=
  et_meth0 ((opsK B _).inv x.lead hz (Ow.lead_ne' h)) B.F.cl_RatFun B.F.me_RatFun_inverse hr (et_meth0 (w_Slead B x.row (Ow.ne_row h)) B.F.cl_Steps B.F.me_Steps_leading (hr.mono (by omega)) ha (noS rfl) ht) (noF rfl rfl) ht2
theorem w_divisor (B : Bs P K mg) {a b : Ow} {T : Nat} {A U V Qs : Nat → Ow} (h : EuB a b T A U V Qs) (h0 : A T ≠ Ow.Z) (hz : Sz (A T).lead) (hi : Sz (A T).lead⁻¹) (z1 : ZO (A T)) (z2 : ZO (U T)) (z3 : ZO (V T)) : FnT P w K mg base 78 (fTop K "step_divisor") (spT [tO K a, tO K b] (tT K [tO K (Ow.sc (A T).lead⁻¹ (A T)), tO K (Ow.sc (A T).lead⁻¹ (U T)), tO K (Ow.sc (A T).lead⁻¹ (V T))])) := by
  obtain ⟨fd', D⟩ := B.F.d_step_divisor
  refine fnT_of (fn_ret D sc_step_divisor rfl fun cdv Ar outer s H hr => ?_) (bi_step_divisor D)
  refine bt_cons (Δ := [none, none, some (tO K (A T)), some (tO K (U T)), some (tO K (V T)), none, none]) (st_unp5 (i1 := 2) (i2 := 3) (i3 := 4) (i4 := 5) (i5 := 5) rfl sc_step_divisor.nd rfl rfl rfl rfl rfl rfl rfl rfl rfl rfl (et_call (w_step_euclid B h) (hr.mono (by omega)) rfl B.F.g_step_euclid B.F.k_step_euclid (at_two (vr 0 rfl rfl rfl rfl rfl) (vr 1 rfl rfl rfl rfl rfl)) rfl rfl rfl) rfl (sub_no (sub_no (sub_eq (sub_eq (sub_eq (sub_no (sub_eq sub_nil))))))) rfl rfl rfl rfl rfl rfl rfl rfl rfl rfl) ?_
  refine bt_cons (Δ := [none, none, some (tO K (A T)), some (tO K (U T)), some (tO K (V T)), none, none]) (st_ifF (tt_val (et_o0 B (hr.mono (by omega)) (row1 h0) (vr 2 rfl rfl rfl rfl rfl))) (bt_nil rfl (Sub.refl _))) ?_
  refine bt_cons (Δ := [none, none, some (tO K (A T)), some (tO K (U T)), some (tO K (V T)), none, some (tq K (A T).lead⁻¹)]) (st_set (i := 6) (R := tq K (A T).lead⁻¹) sc_step_divisor.nd rfl (.inl rfl) (et_li B (hr.mono (by omega)) h0 hz (vr 2 rfl rfl rfl rfl rfl)) rfl (Sub.refl _) rfl (.inl rfl)) ?_
  exact bt_last (st_ret (et_disT (at_cons (et_sc B (hr.mono (by omega)) ⟨hi, z1⟩ (vr 2 rfl rfl rfl rfl rfl) (vr 6 rfl rfl rfl rfl rfl)) (at_two (et_sc B (hr.mono (by omega)) ⟨hi, z2⟩ (vr 3 rfl rfl rfl rfl rfl) (vr 6 rfl rfl rfl rfl rfl)) (et_sc B (hr.mono (by omega)) ⟨hi, z3⟩ (vr 4 rfl rfl rfl rfl rfl) (vr 6 rfl rfl rfl rfl rfl))) rfl) (by simp [sizeLine])) rfl)
/-- what the least common multiple asks -/
structure MuB (a : Ow) (s t : Ow) : Prop where
  m : MO s a
  n0 : s * a ≠ Ow.Z
  hz : Sz (s * a).lead
  hi : Sz (s * a).lead⁻¹
  zm : ZO (s * a)
  zs : ZO s
  zt : ZO t
  zn : ZO (Ow.sc (s * a).lead⁻¹ t)
theorem w_multiple (B : Bs P K mg) {a b : Ow} {T : Nat} {A U V Qs : Nat → Ow} (h : EuB a b T A U V Qs) (a0 : a ≠ Ow.Z) (b0 : b ≠ Ow.Z) (M : MuB a (U (T + 1)) (V (T + 1))) :
    FnT P w K mg base 78 (fTop K "step_multiple") (spT [tO K a, tO K b] (tT K [tO K (Ow.sc (U (T + 1) * a).lead⁻¹ (U (T + 1) * a)), tO K (Ow.sc (U (T + 1) * a).lead⁻¹ (U (T + 1))), tO K (-Ow.sc (U (T + 1) * a).lead⁻¹ (V (T + 1)))])) := by
  obtain ⟨fd', D⟩ := B.F.d_step_multiple
  refine fnT_of (fn_ret D sc_step_multiple rfl fun cdv Ar outer s H hr => ?_) (bi_step_multiple D)
  refine bt_cons (Δ := ini N_step_multiple [tO K a, tO K b]) (st_ifF (WT_.tt (or_ff (tt_val (et_o0 B (hr.mono (by omega)) (row1 a0) (vr 0 rfl rfl rfl rfl rfl))) (or_one (tt_val (et_o0 B (hr.mono (by omega)) (row1 b0) (vr 1 rfl rfl rfl rfl rfl)))))) (bt_nil rfl (Sub.refl _))) ?_
  refine bt_cons (Δ := [some (tO K a), none, none, some (tO K (U (T + 1))), some (tO K (V (T + 1))), none, none]) (st_unp5 (i1 := 2) (i2 := 2) (i3 := 2) (i4 := 3) (i5 := 4) rfl sc_step_multiple.nd rfl rfl rfl rfl rfl rfl rfl rfl rfl rfl (et_call (w_step_euclid B h) (hr.mono (by omega)) rfl B.F.g_step_euclid B.F.k_step_euclid (at_two (vr 0 rfl rfl rfl rfl rfl) (vr 1 rfl rfl rfl rfl rfl)) rfl rfl rfl) rfl (sub_eq (sub_no (sub_no (sub_eq (sub_eq (sub_eq (sub_eq sub_nil))))))) rfl rfl rfl rfl rfl rfl rfl rfl rfl rfl) ?_
  refine bt_cons (Δ := [none, none, none, some (tO K (U (T + 1))), some (tO K (V (T + 1))), some (tO K (U (T + 1) * a)), none]) (st_set (i := 5) (R := tO K (U (T + 1) * a)) sc_step_multiple.nd rfl (.inl rfl) (et_om B (hr.mono (by omega)) M.m (vr 3 rfl rfl rfl rfl rfl) (vr 0 rfl rfl rfl rfl rfl)) rfl (sub_no (sub_eq (sub_eq (sub_eq (sub_eq (sub_eq (sub_eq sub_nil))))))) rfl (.inl rfl)) ?_
  refine bt_cons (Δ := [none, none, none, some (tO K (U (T + 1))), some (tO K (V (T + 1))), some (tO K (U (T + 1) * a)), some (tq K (U (T + 1) * a).lead⁻¹)]) (st_set (i := 6) (R := tq K (U (T + 1) * a).lead⁻¹) sc_step_multiple.nd rfl (.inl rfl) (et_li B (hr.mono (by omega)) M.n0 M.hz (vr 5 rfl rfl rfl rfl rfl)) rfl (Sub.refl _) rfl (.inl rfl)) ?_
  exact bt_last (st_ret (et_disT (at_cons (et_sc B (hr.mono (by omega)) ⟨M.hi, M.zm⟩ (vr 5 rfl rfl rfl rfl rfl) (vr 6 rfl rfl rfl rfl rfl)) (at_two (et_sc B (hr.mono (by omega)) ⟨M.hi, M.zs⟩ (vr 3 rfl rfl rfl rfl rfl) (vr 6 rfl rfl rfl rfl rfl)) (et_on B (hr.mono (by omega)) M.zn (et_sc B (hr.mono (by omega)) ⟨M.hi, M.zt⟩ (vr 4 rfl rfl rfl rfl rfl) (vr 6 rfl rfl rfl rfl rfl)))) rfl) (by simp [sizeLine])) rfl)
/-- q or None -/
noncomputable def tOq (K : PySem.W.Frag) (q r : Ow) : Ty := if r.row.length = 0 then tO K q else tN
theorem w_quotient (B : Bs P K mg) {a m q r : Ow} (m0 : m ≠ Ow.Z) (h : DvO a m q r) : FnT P w K mg base 74 (fTop K "step_quotient") (spT [tO K a, tO K m] (tOq K q r)) := by
  obtain ⟨fd', D⟩ := B.F.d_step_quotient
  refine fnT_of (fn_ret D sc_step_quotient rfl fun cdv Ar outer s H hr => ?_) (bi_step_quotient D)
  refine bt_cons (Δ := ini N_step_quotient [tO K a, tO K m]) (st_ifF (tt_val (et_o0 B (hr.mono (by omega)) (row1 m0) (vr 1 rfl rfl rfl rfl rfl))) (bt_nil rfl (Sub.refl _))) ?_
  refine bt_cons (Δ := [none, none, some (tO K q), some (tO K r)]) (st_unpack (i := 2) (j := 3) rfl rfl sc_step_quotient.nd rfl rfl (.inl rfl) (.inl rfl) (.inr rfl) (.inr rfl) (et_meth (w_divO B h) B.F.cl_Steps B.F.me_Steps_divide (hr.mono (by omega)) (vr 0 rfl rfl rfl rfl rfl) (noS rfl) (at_one (vr 1 rfl rfl rfl rfl rfl)) rfl rfl rfl) rfl (sub_no (sub_no (sub_eq (sub_eq sub_nil)))) rfl rfl rfl rfl rfl rfl rfl) ?_
  refine bt_last (st_ret (R := tOq K q r) ?_ rfl)
  unfold tOq
  by_cases hz : r.row.length = 0
  · rw [if_pos hz]
    exact et_ifT (tt_val (et_o0 B (hr.mono (by omega)) (decide_eq_true hz) (vr 3 rfl rfl rfl rfl rfl))) (vr 2 rfl rfl rfl rfl rfl)
  · rw [if_neg hz]
    exact et_ifF (tt_val (et_o0 B (hr.mono (by omega)) (decide_eq_false hz) (vr 3 rfl rfl rfl rfl rfl))) et_non
theorem w_quotient0 (B : Bs P K mg) : FnT P w K mg base 74 (fTop K "step_quotient") (spT [tO K Ow.Z, tO K Ow.Z] (tO K Ow.Z)) := by
  obtain ⟨fd', D⟩ := B.F.d_step_quotient
  refine fnT_of (fn_ret D sc_step_quotient rfl fun cdv Ar outer s H hr => ?_) (bi_step_quotient D)
  exact bt_end (st_ifT (tt_val (et_o0 B (hr.mono (by omega)) (row0 rfl) (vr 1 rfl rfl rfl rfl rfl))) (bt_last (st_ret (et_ifT (tt_val (et_o0 B (hr.mono (by omega)) (row0 rfl) (vr 0 rfl rfl rfl rfl rfl))) (vr 0 rfl rfl rfl rfl rfl)) rfl)))
theorem w_quotientN (B : Bs P K mg) {a : Ow} (a0 : a ≠ Ow.Z) : FnT P w K mg base 74 (fTop K "step_quotient") (spT [tO K a, tO K Ow.Z] tN) := by
  obtain ⟨fd', D⟩ := B.F.d_step_quotient
  refine fnT_of (fn_ret D sc_step_quotient rfl fun cdv Ar outer s H hr => ?_) (bi_step_quotient D)
  exact bt_end (st_ifT (tt_val (et_o0 B (hr.mono (by omega)) (row0 rfl) (vr 1 rfl rfl rfl rfl rfl))) (bt_last (st_ret (et_ifF (tt_val (et_o0 B (hr.mono (by omega)) (row1 a0) (vr 0 rfl rfl rfl rfl rfl))) et_non) rfl)))
theorem w_multipleX (B : Bs P K mg) {a b : Ow} (hz : a = Ow.Z ∨ b = Ow.Z) : FnX P w K mg base 50 (fTop K "step_multiple") [tO K a, tO K b] (cZero K) (fun _ _ => True) := by
  obtain ⟨fd', D⟩ := B.F.d_step_multiple
  refine fnX_of (fn_x D sc_step_multiple rfl fun cdv A outer s H E hr hE tk => ?_) (bi_step_multiple D)
  have ha : ∀ {p}, ET (BodyX P w K mg base N_step_multiple d_step_multiple.qual d_step_multiple.scope (fTop K "step_multiple") cdv A outer s H E) (ini N_step_multiple [tSince H (tO K a), tO K b]) (.Name "a" p) (tO K a) := fun {p} => ET.imp (vr 0 rfl rfl rfl rfl rfl) fun _ _ h => h.1
  refine bt_end (st_ifT ?_ (bt_last (st_raise (i := 0) rfl tk rfl (zer_own B.F rfl) fun σ H' s => hE none _ s trivial)))
  by_cases h : a = Ow.Z
  · exact WT_.tt (or_tt (tt_val (et_o0 B (hr.mono (by omega)) (row0 h) ha)))
  · exact WT_.tt (or_ff (tt_val (et_o0 B (hr.mono (by omega)) (row1 h) ha)) (or_one (tt_val (et_o0 B (hr.mono (by omega)) (row0 (hz.resolve_left h)) (vr 1 rfl rfl rfl rfl rfl)))))
theorem bv_check : BindV K d_check_steps.name d_check_steps.qual d_check_steps.params d_check_steps.body d_check_steps.scope "operators" := fun kV doc pm an cdv ct us => by
  cases us with
  | nil => rfl
  | cons u us => rfl
/-- the body of its loop -/
theorem w_check (B : Bs P K mg) {a b : Ow} (a0 : a ≠ Ow.Z) (b0 : b ≠ Ow.Z) : FnR P w K mg base CX0 46 (fTop K "check_steps") (spT [tO K a, tO K b] tN) := by
  obtain ⟨fd', D⟩ := B.F.d_check_steps
  refine fnV_of (Δ := ini N_check_steps [tT K [tO K a, tO K b]]) D sc_check_steps bv_check (by simp [sizeLine]) fun cdv A outer s H hr => ?_
  refine bt_last (st_for1 (Δ := ini N_check_steps [tT K [tO K a, tO K b]]) (i := 1) (n := 2) (Rf := fun i => [tO K a, tO K b].getD i tN) (fun _ => ini N_check_steps [tT K [tO K a, tO K b]]) (it_tup (m := []) (K := K) (Rs := [tO K a, tO K b]) (Rf := fun i => [tO K a, tO K b].getD i tN) rfl (vr 0 rfl rfl rfl rfl rfl) (fun i hi => ?_) (fun R hR => ?_)) (Sub.refl _) (fun i hi => ?_) rfl (Sub.refl _) rfl PassesOwn.never sc_check_steps.nd rfl rfl (fun _ => rfl))
  · match i, hi with
    | 0, _ => rfl
    | 1, _ => rfl
  · rcases List.mem_cons.mp hR with rfl | hR
    · exact sol_S []
    · rw [List.mem_singleton.mp hR]; exact sol_S []
  · have hc : ∃ c : Ow, c ≠ Ow.Z ∧ [tO K a, tO K b].getD i tN = tO K c := by
      match i, hi with
      | 0, _ => exact ⟨a, a0, rfl⟩
      | 1, _ => exact ⟨b, b0, rfl⟩
    obtain ⟨c, c0, ec⟩ := hc
    show BT _ [some (tT K [tO K a, tO K b]), some ([tO K a, tO K b].getD i tN)] _ _
    rw [ec]
    exact bt_last (st_ifF (tt_val (et_o0 B (hr.mono (by omega)) (row1 c0) (vr 1 rfl rfl rfl rfl rfl))) (bt_nil rfl (sub_eq (sub_no sub_nil))))
theorem w_checkX (B : Bs P K mg) {b : Ow} : FnR P w K mg base (L2.CX P w) 46 (fTop K "check_steps") (spX [tO K Ow.Z, tO K b] (cZero K) (fun _ _ => True)) := by
  obtain ⟨fd', D⟩ := B.F.d_check_steps
  refine fnVX_of D sc_check_steps bv_check (by simp [sizeLine]) fun cdv A outer s H E hr hE tk => ?_
  let Γs : Nat → Cxt := fun t => [some (if t = 0 then tSince H (tT K [tO K Ow.Z, tO K b]) else tNo), none]
  refine bt_cons (Δ := Γs 2) (st_for1 (i := 1) (n := 2) (Rf := fun i => [tO K Ow.Z, tO K b].getD i tN) Γs (it_tup (m := []) (K := K) (Rs := [tO K Ow.Z, tO K b]) (Rf := fun i => [tO K Ow.Z, tO K b].getD i tN) rfl (ET.imp (vr 0 rfl rfl rfl rfl rfl) fun _ _ h => h.1) (fun i hi => ?_) (fun R hR => ?_)) (Sub.refl _) (fun i hi => ?_) rfl (Sub.refl _) rfl (passes_of rfl) sc_check_steps.nd rfl rfl (fun _ => rfl)) (bt_no 0 rfl)
  · match i, hi with
    | 0, _ => rfl
    | 1, _ => rfl
  · rcases List.mem_cons.mp hR with rfl | hR
    · exact sol_S []
    · rw [List.mem_singleton.mp hR]; exact sol_S []
  · match i, hi with
    | 0, _ => exact bt_end (st_ifT (tt_val (et_o0 B (hr.mono (by omega)) (row0 rfl) (vr 1 rfl rfl rfl rfl rfl))) (bt_last (st_raise (i := 0) (R := tT K [tO K Ow.Z, tO K b]) rfl tk rfl (zer_own B.F rfl) fun σ H' s => hE none _ s trivial)))
    | 1, _ => exact bt_no 0 rfl
theorem w_steps_of_sum (B : Bs P K mg) {a b : Ow} {T : Nat} {A U V Qs : Nat → Ow} (h : EuB a b T A U V Qs) (a0 : a ≠ Ow.Z) (b0 : b ≠ Ow.Z) (M : MuB a (U (T + 1)) (V (T + 1))) :
    FnT P w K mg base 82 (fTop K "steps_of_sum") (spT [tO K a, tO K b] (tO K (Ow.sc (U (T + 1) * a).lead⁻¹ (U (T + 1) * a)))) := by
  obtain ⟨fd', D⟩ := B.F.d_steps_of_sum
  refine fnT_of (fn_ret D sc_steps_of_sum rfl fun cdv A outer s H hr => ?_) (bi_steps_of_sum D)
  refine bt_cons (Δ := ini N_steps_of_sum [tO K a, tO K b]) (st_expr (et_callV (w_check B a0 b0) (hr.mono (by omega)) rfl B.F.g_check_steps B.F.k_check_steps (at_two (vr 0 rfl rfl rfl rfl rfl) (vr 1 rfl rfl rfl rfl rfl)) rfl rfl rfl) rfl (Sub.refl _) rfl) ?_
  exact bt_last (st_ret (et_ixT 0 rfl rfl (et_call (w_multiple B h a0 b0 M) (hr.mono (by omega)) rfl B.F.g_step_multiple B.F.k_step_multiple (at_two (vr 0 rfl rfl rfl rfl rfl) (vr 1 rfl rfl rfl rfl rfl)) rfl rfl rfl) et_int) rfl)
theorem w_steps_of_sumX (B : Bs P K mg) {b : Ow} : FnX P w K mg base 56 (fTop K "steps_of_sum") [tO K Ow.Z, tO K b] (cZero K) (fun _ _ => True) := by
  obtain ⟨fd', D⟩ := B.F.d_steps_of_sum
  refine fnX_of (fn_x D sc_steps_of_sum rfl fun cdv A outer s H E hr hE tk => ?_) (bi_steps_of_sum D)
  have ha : ∀ {p}, ET (BodyX P w K mg base N_steps_of_sum d_steps_of_sum.qual d_steps_of_sum.scope (fTop K "steps_of_sum") cdv A outer s H E) (ini N_steps_of_sum [tSince H (tO K Ow.Z), tO K b]) (.Name "a" p) (tO K Ow.Z) := fun {p} => ET.imp (vr 0 rfl rfl rfl rfl rfl) fun _ _ h => h.1
  exact bt_end (st_exprX (i := 0) (R := tO K Ow.Z) tk rfl (xt_callV (w_checkX B) (hr.mono (by omega)) rfl B.F.g_check_steps B.F.k_check_steps (at_two ha (vr 1 rfl rfl rfl rfl rfl)) rfl rfl rfl) fun d σ H' s _ => hE d _ s trivial)
end
end SLT
set_option maxRecDepth 100000
set_option maxHeartbeats 1000000
set_option exponentiation.threshold 100
namespace SLT
open PySem PySem.Spec PyProof.Rows L2 SL SW
open Lean.Grind
/-- all coefficients over one denominator: degrees d, n, height h -/
def OC (d n h : Nat) (a : Ow) : Prop := CLx d n h a.row
section
variable {d n h e p g k m d' n' h' : Nat} {a b q r : Ow} {x f : KF}
theorem OC.mono (c : OC d n h a) (h1 : d ≤ d') (h2 : n ≤ n') (h3 : h ≤ h') : OC d' n' h' a := CLx.mono c h1 h2 h3
theorem OC.zo (c : OC d n h a) (hl : a.len ≤ 100) (h1 : d ≤ 39) (h2 : n ≤ 39) (h3 : h ≤ 1500) : ZO a := ⟨CLx.sz c h2 h1 h3, hl⟩
theorem OC.zero : OC 0 0 0 Ow.Z := ⟨1, ⟨Pol.one_ne, by rw [← Pol.C_one]; exact Hq_C1, Nat.le_trans Pol.len_one (by decide)⟩, CL.nil⟩
theorem OC.one : OC 0 0 0 (Ow.C 1) := CLx.trim (Cx1.list Cx1.one)
theorem OC.neg (c : OC d n h a) : OC d n h (-a) := CLx.trim (CLx.neg c)
theorem OC.add (c : OC d n h a) (s : OC e p g b) (h1 : d ≤ 100) (h2 : n ≤ 100) (h3 : p ≤ 100) : OC (d + e) (max (n + e) (p + d)) (h + g + 8) (a + b) := CLx.trim (CLx.add c s h1 h2 h3)
theorem OC.sub (c : OC d n h a) (s : OC e p g b) (h1 : d ≤ 100) (h2 : n ≤ 100) (h3 : p ≤ 100) : OC (d + e) (max (n + e) (p + d)) (h + g + 8) (a - b) := CLx.trim (CLx.add c (CLx.neg s) h1 h2 h3)
theorem OC.sc (c : OC d n h a) (s : Cx1 e p g f) (h1 : e ≤ 100) (h2 : p ≤ 100) : OC (e + d) (p + n) (g + h + 7) (Ow.sc f a) := CLx.trim (CLx.scale c s h1 h2)
theorem OC.mul (c : OC d n h a) (s : OC e p g b) (la : a.len ≤ m + 1) (lb : b.len ≤ 100) (hm : m ≤ 4) (F1 : d + (m + 1) * e ≤ 39) (F2 : n + p + m * e ≤ 39) (F3 : h + g + 3 * (p + 1) + m * (gE e g + 7) + 7 + (m + 1) ≤ 1500) (F4 : h + (m + 1) * gE e g + 7 ≤ 1500) :
    MO a b ∧ OC (d + (m + 1) * e) (n + p + m * e) (hm2 h e p g m) (a * b) := by
  obtain ⟨h1, h2, h3⟩ := CLx.mul c s la lb hm ⟨F1, F2, F3, F4⟩
  exact ⟨⟨h1, h3⟩, CLx.trim h2⟩
theorem OC.lead (c : OC d n h a) : Cx1 d n h a.lead := CLx.at c _
theorem Cx1.inv (c : Cx1 d n h x) (h0 : x ≠ 0) : Cx1 n d h x⁻¹ := by
  obtain ⟨D, s, N, a, b, e⟩ := c
  have hN : N ≠ 0 := fun z => by
    have : x * KF.ofP D = 0 := by rw [e, z]; rfl
    exact kf_mul_ne h0 (ofP_ne s.ne) this
  refine ⟨N, ⟨hN, a, b⟩, D, s.H, s.l, ?_⟩
  have i := mul_inv h0
  rw [← e]; grind
theorem Cx1.sz1 (c : Cx1 d n h x) (h1 : d ≤ 39) (h2 : n ≤ 39) (h3 : h ≤ 1500) : Sz x := Cx1.sz c h2 h1 h3
/-- divided by its lead -/
theorem OC.monic (c : OC d n h a) (h0 : a ≠ Ow.Z) : OC n n h (Ow.sc a.lead⁻¹ a) := by
  obtain ⟨D, s, c⟩ := c
  obtain ⟨N, a1, a2, a3⟩ := c (a.len - 1)
  have a3 : a.lead * KF.ofP D = KF.ofP N := a3
  have l0 := Ow.lead_ne' h0
  have hN : N ≠ 0 := fun z => by
    have : a.lead * KF.ofP D = 0 := by rw [a3, z]; rfl
    exact kf_mul_ne l0 (ofP_ne s.ne) this
  refine ⟨N, ⟨hN, a1, a2⟩, fun i => ?_⟩
  obtain ⟨M, b1, b2, b3⟩ := c i
  refine ⟨M, b1, b2, ?_⟩
  rw [Ow.co_sc, ← a3, ← b3]
  have i := mul_inv l0
  grind
/-- quotient and remainder -/
theorem dv_ex (c : OC d n h a) (s : OC e p g b) (hb : b ≠ Ow.Z) (la : a.len ≤ 100) (lb : b.len ≤ 100) (lk : a.len ≤ b.len + k) (hk : k ≤ 4) (n1 : d + (k + 1) * p ≤ 39) (n2 : n + (k + 1) * p ≤ 39) (n3 : n + k * p + e ≤ 39) (n4 : h + (k + 1) * (g + 3 * (p + 1) + 8) + (g + 3 * (e + 1) + 7) ≤ 1500) (he : e ≤ 39) :
    ∃ q r : Ow, DvO a b q r ∧ a = q * b + r ∧ r.len < b.len ∧ q.len ≤ k + 1 ∧ OC (d + (k + 1) * p) (n + k * p + e) (h + (k + 1) * (g + 3 * (p + 1) + 8) + (g + 3 * (e + 1) + 7)) q ∧ OC (d + (k + 1) * p) (n + (k + 1) * p) (h + (k + 1) * (g + 3 * (p + 1) + 8) + (g + 3 * (e + 1) + 7)) r := by
  obtain ⟨D, a1, a2⟩ := c
  obtain ⟨E, b1, b2⟩ := s
  obtain ⟨T, S, st, R, r1, r2, r3⟩ := sdv_B a1 a2 b1 b2 a.tr b.tr (Ow.ne_row hb) la lb lk hk n1 n2 n3 n4 he
  have tr := sdv_Tr a.row b.row a.tr T
  refine ⟨⟨_, tr.1⟩, ⟨_, tr.2⟩, ⟨T, S, rfl, rfl⟩, ?_, st, sdv_qlen a.row b.row a.tr b.tr (Ow.ne_row hb) lk S.go T (Nat.le_refl _), ⟨R, r1, r2⟩, ⟨R, r1, r3⟩⟩
  refine Ow.ext_co fun i => ?_
  rw [Ow.co_add, Ow.co_mul]
  exact (sdv_eq a.row b.row T i).symm
theorem dv_is {q' r' : Ow} (hd : DvO a b q r) (e : a = q * b + r) (hl : r.len < b.len) (hb : b ≠ Ow.Z) (e' : a = q' * b + r') (hl' : r'.len < b.len) : q = q' ∧ r = r' := Ow.div_uniq' hb (e.symm.trans e') hl hl'
/-- the quotient is known -/
theorem dv_at (c : OC d n h a) (s : OC e p g b) (hb : b ≠ Ow.Z) (la : a.len ≤ 100) (lb : b.len ≤ 100) (lk : a.len ≤ b.len + k) (hk : k ≤ 4) (n1 : d + (k + 1) * p ≤ 39) (n2 : n + (k + 1) * p ≤ 39) (n3 : n + k * p + e ≤ 39) (n4 : h + (k + 1) * (g + 3 * (p + 1) + 8) + (g + 3 * (e + 1) + 7) ≤ 1500) (he : e ≤ 39)
    {q r : Ow} (eq : a = q * b + r) (hl : r.len < b.len) : DvO a b q r := by
  obtain ⟨q', r', h1, h2, h3, _⟩ := dv_ex c s hb la lb lk hk n1 n2 n3 n4 he
  obtain ⟨rfl, rfl⟩ := dv_is h1 h2 h3 hb eq hl
  exact h1
/-- a quotient without a remainder, and its product -/
structure ExB (a b q : Ow) : Prop where
  d : DvO a b q Ow.Z
  m : MO q b
  e : q * b = a
theorem OC.cast {d' n' h' : Nat} (c : OC d n h a) (h1 : d = d') (h2 : n = n') (h3 : h = h') : OC d' n' h' a := by subst h1 h2 h3; exact c
theorem eq_add {a b : Ow} (h : a = b) : a = b + Ow.Z := by rw [Ow.add_Z]; exact h
/-- what the law's look at two operators asks -/
structure PairB (a b f g u v m s t : Ow) : Prop where
  dvs : ∀ {P : Program} {w : World} {K : PySem.W.Frag} {mg : Str → Option Value} {base : Heap}, Bs P K mg → FnT P w K mg base 78 (fTop K "step_divisor") (spT [tO K a, tO K b] (tT K [tO K g, tO K u, tO K v]))
  mlt : ∀ {P : Program} {w : World} {K : PySem.W.Frag} {mg : Str → Option Value} {base : Heap}, Bs P K mg → FnT P w K mg base 78 (fTop K "step_multiple") (spT [tO K a, tO K b] (tT K [tO K m, tO K s, tO K t]))
  sum : ∀ {P : Program} {w : World} {K : PySem.W.Frag} {mg : Str → Option Value} {base : Heap}, Bs P K mg → FnT P w K mg base 82 (fTop K "steps_of_sum") (spT [tO K a, tO K b] (tO K m))
  mua : MO u a
  mvb : MO v b
  zua : ZO (u * a)
  zvb : ZO (v * b)
  e1 : u * a + v * b = g
  g0 : g ≠ Ow.Z
  gl : g.lead = 1
  ga : ∃ q, DvO a g q Ow.Z
  gb : ∃ q, DvO b g q Ow.Z
  gf : ∃ q, DvO g f q Ow.Z
  msa : MO s a
  mtb : MO t b
  e2 : s * a = m
  e3 : t * b = m
  m0 : m ≠ Ow.Z
  ml : m.lead = 1
  ord : m.len + g.len = a.len + b.len
  a0 : a ≠ Ow.Z
  b0 : b ≠ Ow.Z
  f0 : f ≠ Ow.Z
  prs : ∀ i, i < 6 → ∃ q r, DvO ([a, m, m, a, b, a].getD i Ow.Z) ([g, a, b, b, a, f].getD i Ow.Z) q r ∧ (r = Ow.Z → MO q ([g, a, b, b, a, f].getD i Ow.Z) ∧ q * [g, a, b, b, a, f].getD i Ow.Z = [a, m, m, a, b, a].getD i Ow.Z)
def lk (l : List Ow) (t : Nat) : Ow := l.getD t Ow.Z
/-- two divisions at most -/
theorem eu1 {A B q1 : Ow} (hB : B ≠ Ow.Z) (d1 : DvO A B q1 Ow.Z) (m1 : MO q1 Ow.Z) (m2 : MO q1 (Ow.C 1)) (z1 : ZO q1) (z0 : ZO (Ow.C 1)) (zz : ZO Ow.Z) : EuB A B 1 (lk [A, B, Ow.Z]) (lk [Ow.C 1, Ow.Z, Ow.C 1]) (lk [Ow.Z, Ow.C 1, -q1]) (lk [q1]) where
  a0 := rfl
  a1 := rfl
  u0 := rfl
  u1 := rfl
  v0 := rfl
  v1 := rfl
  nz t ht := by
    match t, ht with
    | 0, _ => exact hB
  dv t ht := by
    match t, ht with
    | 0, _ => exact d1
  su t ht := by
    match t, ht with
    | 0, _ => exact ⟨by show Ow.C 1 = Ow.C 1 - q1 * Ow.Z; rw [Ow.mul_Z, Ow.sub_Z], z0, m1, by show ZO (q1 * Ow.Z); rw [Ow.mul_Z]; exact zz⟩
  sv t ht := by
    match t, ht with
    | 0, _ => exact ⟨by show -q1 = Ow.Z - q1 * Ow.C 1; rw [Ow.mul_one, Ow.Z_sub], zz, m2, by show ZO (q1 * Ow.C 1); rw [Ow.mul_one]; exact z1⟩
  fin := rfl
theorem eu2 {A B q1 R q2 : Ow} (hB : B ≠ Ow.Z) (hR : R ≠ Ow.Z) (d1 : DvO A B q1 R) (d2 : DvO B R q2 Ow.Z) (m1 : MO q1 Ow.Z) (m2 : MO q1 (Ow.C 1)) (m3 : MO q2 (Ow.C 1)) (m4 : MO q2 (-q1)) (z1 : ZO q1) (z2 : ZO q2) (z3 : ZO (q2 * -q1)) (z0 : ZO (Ow.C 1)) (zz : ZO Ow.Z) :
    EuB A B 2 (lk [A, B, R, Ow.Z]) (lk [Ow.C 1, Ow.Z, Ow.C 1, -q2]) (lk [Ow.Z, Ow.C 1, -q1, Ow.C 1 - q2 * -q1]) (lk [q1, q2]) where
  a0 := rfl
  a1 := rfl
  u0 := rfl
  u1 := rfl
  v0 := rfl
  v1 := rfl
  nz t ht := by
    match t, ht with
    | 0, _ => exact hB
    | 1, _ => exact hR
  dv t ht := by
    match t, ht with
    | 0, _ => exact d1
    | 1, _ => exact d2
  su t ht := by
    match t, ht with
    | 0, _ => exact ⟨by show Ow.C 1 = Ow.C 1 - q1 * Ow.Z; rw [Ow.mul_Z, Ow.sub_Z], z0, m1, by show ZO (q1 * Ow.Z); rw [Ow.mul_Z]; exact zz⟩
    | 1, _ => exact ⟨by show -q2 = Ow.Z - q2 * Ow.C 1; rw [Ow.mul_one, Ow.Z_sub], zz, m3, by show ZO (q2 * Ow.C 1); rw [Ow.mul_one]; exact z2⟩
  sv t ht := by
    match t, ht with
    | 0, _ => exact ⟨by show -q1 = Ow.Z - q1 * Ow.C 1; rw [Ow.mul_one, Ow.Z_sub], zz, m2, by show ZO (q1 * Ow.C 1); rw [Ow.mul_one]; exact z1⟩
    | 1, _ => exact ⟨rfl, z0, m4, z3⟩
  fin := rfl
end
end SLT
set_option maxRecDepth 100000
set_option maxHeartbeats 1000000
set_option exponentiation.threshold 100
namespace SLT
open PySem PySem.Spec PyProof.Rows L2 SL SW
open Lean.Grind
structure EuF1 (a b F G u v S T : Ow) : Prop where
  G0 : G ≠ Ow.Z
  cG : OC 6 7 102 G
  lG : G.len ≤ F.len + 1
  lG2 : F.len ≤ G.len
  cu : OC 0 0 0 u
  lu : u.len ≤ 1
  cv : OC 2 2 54 v
  lv : v.len ≤ 2
  e1 : u * a + v * b = G
  S0 : S ≠ Ow.Z
  cS : OC 6 6 222 S
  lS : S.len ≤ 2
  T0 : T ≠ Ow.Z
  cT : OC 10 10 379 T
  lT : T.len ≤ 2
  e2 : S * a = -(T * b)
  ord : (S * a).len + G.len = a.len + b.len
  xa : ∃ x, a = x * G
  xb : ∃ x, b = x * G
  xF : ∃ x, G = x * F
theorem eu_1 {p q F : Ow} (cp : OC 0 1 4 p) (cq : OC 0 1 4 q) (cF : OC 3 3 22 F) (p0 : p ≠ Ow.Z) (q0 : q ≠ Ow.Z) (F0 : F ≠ Ow.Z) (lp : p.len ≤ 2) (lq : q.len ≤ 2) (lF : F.len ≤ 2) (lk : p.len ≤ q.len + 1) :
    ∃ (T : Nat) (A U V Qs : Nat → Ow), EuB (p * F) (q * F) T A U V Qs ∧ EuF1 (p * F) (q * F) F (A T) (U T) (V T) (U (T + 1)) (V (T + 1)) := by
  have ca : OC 6 7 95 (p * F) := ((OC.mul (m := 1) cp cF lp (by omega) (by decide) (by decide) (by decide) (by decide) (by decide)).2).mono (by decide) (by decide) (by decide)
  have cb : OC 6 7 95 (q * F) := ((OC.mul (m := 1) cq cF lq (by omega) (by decide) (by decide) (by decide) (by decide) (by decide)).2).mono (by decide) (by decide) (by decide)
  have a0 := Ow.mul_ne p0 F0
  have b0 := Ow.mul_ne q0 F0
  have la := Ow.len_mul p0 F0
  have lb := Ow.len_mul q0 F0
  have pF := Ow.len_pos F0
  have pp := Ow.len_pos p0
  have pq := Ow.len_pos q0
  obtain ⟨q1, ρ, d1, e1, l1, k1, c1, c2⟩ := dv_ex (k := 1) cp cq q0 (by omega) (by omega) lk (by decide) (by decide) (by decide) (by decide) (by decide) (by decide)
  have c1 : OC 2 2 54 q1 := c1.mono (by decide) (by decide) (by decide)
  have c2 : OC 2 3 54 ρ := c2.mono (by decide) (by decide) (by decide)
  have eA : p * F = q1 * (q * F) + ρ * F := by rw [← Ow.assoc, ← Ow.add_mul, ← e1]
  have z0 : ZO (Ow.C 1) := OC.one.zo (by rw [Ow.len_one]; decide) (by decide) (by decide) (by decide)
  have zz : ZO Ow.Z := OC.zero.zo (by rw [Ow.len_Z]; decide) (by decide) (by decide) (by decide)
  have m1 : MO q1 Ow.Z := (OC.mul (m := 1) c1 OC.zero k1 (by rw [Ow.len_Z]; decide) (by decide) (by decide) (by decide) (by decide) (by decide)).1
  have m2 : MO q1 (Ow.C 1) := (OC.mul (m := 1) c1 OC.one k1 (by rw [Ow.len_one]; decide) (by decide) (by decide) (by decide) (by decide) (by decide)).1
  have z1 : ZO q1 := c1.zo (by omega) (by decide) (by decide) (by decide)
  by_cases hr : ρ = Ow.Z
  · have eA : p * F = q1 * (q * F) := by rw [eA, hr, Ow.Z_mul, Ow.add_Z]
    have dA : DvO (p * F) (q * F) q1 Ow.Z := dv_at (k := 1) ca cb b0 (by omega) (by omega) (by omega) (by decide) (by decide) (by decide) (by decide) (by decide) (by decide) (eq_add eA) (Ow.len_pos b0)
    have hq1 : q1 ≠ Ow.Z := fun z => a0 (by rw [eA, z, Ow.Z_mul])
    refine ⟨1, _, _, _, _, eu1 b0 dA m1 m2 z1 z0 zz, ?_⟩
    refine ⟨b0, cb.mono (by decide) (by decide) (by decide), by show (q * F).len ≤ _; omega, by show _ ≤ (q * F).len; omega, OC.zero, by show Ow.Z.len ≤ 1; rw [Ow.len_Z]; omega, OC.one.mono (by decide) (by decide) (by decide), by show (Ow.C 1).len ≤ _; rw [Ow.len_one]; omega, ?_, Ow.one_ne, OC.one.mono (by decide) (by decide) (by decide), by show (Ow.C 1).len ≤ _; rw [Ow.len_one]; omega, Ow.neg_ne hq1, c1.neg.mono (by decide) (by decide) (by decide), by show (-q1).len ≤ _; rw [Ow.len_neg]; omega, ?_, ?_, ⟨q1, eA⟩, ⟨Ow.C 1, ?_⟩, ⟨q, rfl⟩⟩
    · show Ow.Z * (p * F) + Ow.C 1 * (q * F) = q * F
      rw [Ow.Z_mul, Ow.one_mul, Ow.Z_add]
    · show Ow.C 1 * (p * F) = -(-q1 * (q * F))
      rw [Ow.one_mul, Ow.neg_mul, Ow.neg_neg]; exact eA
    · show (Ow.C 1 * (p * F)).len + (q * F).len = _
      rw [Ow.one_mul]
    · show q * F = Ow.C 1 * (q * F)
      rw [Ow.one_mul]
  · have pr := Ow.len_pos hr
    have lr : ρ.len = 1 := by omega
    have R0 := Ow.mul_ne hr F0
    have lR := Ow.len_mul hr F0
    have cR : OC 5 6 102 (ρ * F) := ((OC.mul (m := 0) c2 cF (by omega) (by omega) (by decide) (by decide) (by decide) (by decide) (by decide)).2).mono (by decide) (by decide) (by decide)
    have dA : DvO (p * F) (q * F) q1 (ρ * F) := dv_at (k := 1) ca cb b0 (by omega) (by omega) (by omega) (by decide) (by decide) (by decide) (by decide) (by decide) (by decide) eA (by omega)
    obtain ⟨q2, r2, d2, e2, l2, k2, c3, _⟩ := dv_ex (k := 1) cq c2 hr (by omega) (by omega) (by omega) (by decide) (by decide) (by decide) (by decide) (by decide) (by decide)
    have hr2 : r2 = Ow.Z := Ow.len_zero.mp (by omega)
    have e2 : q = q2 * ρ := by rw [e2, hr2, Ow.add_Z]
    have c3 : OC 6 6 222 q2 := c3.mono (by decide) (by decide) (by decide)
    have eB : q * F = q2 * (ρ * F) := by rw [← Ow.assoc, ← e2]
    have dB : DvO (q * F) (ρ * F) q2 Ow.Z := dv_at (k := 1) cb cR R0 (by omega) (by omega) (by omega) (by decide) (by decide) (by decide) (by decide) (by decide) (by decide) (eq_add eB) (by rw [Ow.len_Z]; omega)
    have q20 : q2 ≠ Ow.Z := fun z => b0 (by rw [eB, z, Ow.Z_mul])
    have lq2 := Ow.len_mul q20 hr
    rw [← e2] at lq2
    have m3 : MO q2 (Ow.C 1) := (OC.mul (m := 1) c3 OC.one k2 (by rw [Ow.len_one]; decide) (by decide) (by decide) (by decide) (by decide) (by decide)).1
    obtain ⟨m4, c4⟩ := OC.mul (m := 1) c3 c1.neg k2 (by rw [Ow.len_neg]; omega) (by decide) (by decide) (by decide) (by decide) (by decide)
    have c4 : OC 10 10 371 (q2 * -q1) := c4.mono (by decide) (by decide) (by decide)
    have l4 := mulQ_len q2.row (-q1).row
    have l5 := trimQ_le (mulQ q2.row (-q1).row)
    have l6 : (-q1).row.length = q1.len := Ow.len_neg q1
    have l7 : q2.row.length = q2.len := rfl
    have z3 : ZO (q2 * -q1) := c4.zo (by show (trimQ (mulQ q2.row (-q1).row)).length ≤ 100; omega) (by decide) (by decide) (by decide)
    have z2 : ZO q2 := c3.zo (by omega) (by decide) (by decide) (by decide)
    have eT : (Ow.C 1 - q2 * -q1) * (q * F) = q2 * (p * F) := by
      rw [Ow.sub_eq, Ow.add_mul, Ow.one_mul, Ow.mul_neg, Ow.neg_neg, Ow.assoc, eA, Ow.mul_add, ← eB, Ow.add_comm]
    have hqa := Ow.mul_ne q20 a0
    have T0 : Ow.C 1 - q2 * -q1 ≠ Ow.Z := fun z => hqa (by rw [← eT, z, Ow.Z_mul])
    have lT := Ow.len_mul T0 b0
    have lqa := Ow.len_mul q20 a0
    rw [eT] at lT
    refine ⟨2, _, _, _, _, eu2 b0 R0 dA dB m1 m2 m3 m4 z1 z2 z3 z0 zz, ?_⟩
    refine ⟨R0, cR.mono (by decide) (by decide) (by decide), by show (ρ * F).len ≤ _; omega, by show _ ≤ (ρ * F).len; omega, OC.one, by show (Ow.C 1).len ≤ 1; rw [Ow.len_one]; omega, c1.neg.mono (by decide) (by decide) (by decide), by show (-q1).len ≤ _; rw [Ow.len_neg]; omega, ?_, Ow.neg_ne q20, c3.neg.mono (by decide) (by decide) (by decide), by show (-q2).len ≤ _; rw [Ow.len_neg]; omega, T0, (OC.sub OC.one c4 (by decide) (by decide) (by decide)).mono (by decide) (by decide) (by decide), by show (Ow.C 1 - q2 * -q1).len ≤ _; omega, ?_, ?_, ⟨q1 * q2 + Ow.C 1, ?_⟩, ⟨q2, eB⟩, ⟨ρ, rfl⟩⟩
    · show Ow.C 1 * (p * F) + -q1 * (q * F) = ρ * F
      rw [Ow.one_mul, Ow.neg_mul, ← Ow.sub_eq, eA, Ow.add_comm, Ow.add_sub]
    · show -q2 * (p * F) = -((Ow.C 1 - q2 * -q1) * (q * F))
      rw [Ow.neg_mul, eT]
    · show (-q2 * (p * F)).len + (ρ * F).len = _
      rw [Ow.neg_mul, Ow.len_neg]; omega
    · show p * F = (q1 * q2 + Ow.C 1) * (ρ * F)
      rw [Ow.add_mul, Ow.one_mul, Ow.assoc, ← eB]; exact eA
theorem mu_1 {a b F G u v S T : Ow} (ca : OC 6 7 95 a) (cb : OC 6 7 95 b) (a0 : a ≠ Ow.Z) (b0 : b ≠ Ow.Z) (la : a.len ≤ 4) (lb : b.len ≤ 4) (E : EuF1 a b F G u v S T) :
    MuB a S T ∧ S * a ≠ Ow.Z ∧ OC 18 19 480 (S * a) ∧ OC 19 19 480 (Ow.sc (S * a).lead⁻¹ (S * a)) ∧ OC 13 12 348 (Ow.sc (S * a).lead⁻¹ S) ∧ OC 17 16 505 (Ow.sc (S * a).lead⁻¹ T) := by
  obtain ⟨m1, c1⟩ := OC.mul (m := 1) E.cS ca E.lS (by omega) (by decide) (by decide) (by decide) (by decide) (by decide)
  have c1 : OC 18 19 480 (S * a) := c1.mono (by decide) (by decide) (by decide)
  have n0 := Ow.mul_ne E.S0 a0
  have lM := Ow.len_mul E.S0 a0
  have hl := Ow.lead_ne' n0
  have lS := E.lS
  have lT := E.lT
  have la0 := Ow.lead_ne' a0
  have lb0 := Ow.lead_ne' b0
  have lS0 := Ow.lead_ne' E.S0
  have lT0 := Ow.lead_ne' E.T0
  have hi : (S * a).lead⁻¹ ≠ 0 := fun z => by
    have := mul_inv hl
    rw [z] at this
    exact kf_ne (by rw [← this]; grind)
  have kS : OC 13 12 348 (Ow.sc (S * a).lead⁻¹ S) := by
    have hs : KF.sh ((S.len - 1 : Nat) : Rat) a.lead ≠ 0 := KF.sh_ne la0
    have e : Ow.sc (S * a).lead⁻¹ S = Ow.sc (KF.sh ((S.len - 1 : Nat) : Rat) a.lead)⁻¹ (Ow.sc S.lead⁻¹ S) := by
      rw [Ow.sc_sc, Ow.lead_mul E.S0 a0]
      congr 1
      have i1 := mul_inv lS0
      have i2 := mul_inv hs
      have i3 := mul_inv (kf_mul_ne lS0 hs)
      generalize KF.sh ((S.len - 1 : Nat) : Rat) a.lead = z at *
      generalize S.lead = y at *
      generalize (y * z)⁻¹ = w at *
      grind
    rw [e]
    exact (OC.sc (E.cS.monic E.S0) ((Cx1.sh (k := S.len - 1) (by omega) ca.lead 119 (by decide) (by decide)).inv hs) (by decide) (by decide)).mono (by decide) (by decide) (by decide)
  have kT : OC 17 16 505 (Ow.sc (S * a).lead⁻¹ T) := by
    have hs : KF.sh ((T.len - 1 : Nat) : Rat) b.lead ≠ 0 := KF.sh_ne lb0
    have e : Ow.sc (S * a).lead⁻¹ T = -Ow.sc (KF.sh ((T.len - 1 : Nat) : Rat) b.lead)⁻¹ (Ow.sc T.lead⁻¹ T) := by
      have e3 : (S * a).lead = -(T.lead * KF.sh ((T.len - 1 : Nat) : Rat) b.lead) := by
        have e4 : (-(T * b)).lead = -(T * b).lead := by
          rw [Ow.lead_co, Ow.lead_co, Ow.len_neg, Ow.co_neg]
        rw [E.e2, e4, Ow.lead_mul E.T0 b0]
      rw [Ow.sc_sc, e3, ← Ow.sc_neg]
      refine Ow.ext_co fun i => ?_
      rw [Ow.co_sc, Ow.co_sc, Ow.co_neg]
      have i1 := mul_inv lT0
      have i2 := mul_inv hs
      have i3 := mul_inv (show -(T.lead * KF.sh ((T.len - 1 : Nat) : Rat) b.lead) ≠ 0 from fun z => kf_mul_ne lT0 hs (by grind))
      generalize KF.sh ((T.len - 1 : Nat) : Rat) b.lead = z at *
      generalize T.lead = y at *
      generalize (-(y * z))⁻¹ = w at *
      grind
    rw [e]
    exact (OC.sc (E.cT.monic E.T0) ((Cx1.sh (k := T.len - 1) (by omega) cb.lead 119 (by decide) (by decide)).inv hs) (by decide) (by decide)).neg.mono (by decide) (by decide) (by decide)
  exact ⟨⟨m1, n0, c1.lead.sz1 (by decide) (by decide) (by decide), (c1.lead.inv hl).sz1 (by decide) (by decide) (by decide), c1.zo (by omega) (by decide) (by decide) (by decide), E.cS.zo (by omega) (by decide) (by decide) (by decide), E.cT.zo (by omega) (by decide) (by decide) (by decide), kT.zo (by rw [Ow.len_sc hi]; omega) (by decide) (by decide) (by decide)⟩, n0, c1, (c1.monic n0).mono (by decide) (by decide) (by decide), kS, kT⟩
theorem pair_1 {p q F : Ow} (cp : OC 0 1 4 p) (cq : OC 0 1 4 q) (cF : OC 3 3 22 F) (p0 : p ≠ Ow.Z) (q0 : q ≠ Ow.Z) (F0 : F ≠ Ow.Z) (lp : p.len ≤ 2) (lq : q.len ≤ 2) (lF : F.len ≤ 2) (lk : p.len ≤ q.len + 1) :
    ∃ g u v m s t, PairB (p * F) (q * F) F g u v m s t := by
  obtain ⟨T, A, U, V, Qs, H, E⟩ := eu_1 cp cq cF p0 q0 F0 lp lq lF lk
  have ca : OC 6 7 95 (p * F) := ((OC.mul (m := 1) cp cF lp (by omega) (by decide) (by decide) (by decide) (by decide) (by decide)).2).mono (by decide) (by decide) (by decide)
  have cb : OC 6 7 95 (q * F) := ((OC.mul (m := 1) cq cF lq (by omega) (by decide) (by decide) (by decide) (by decide) (by decide)).2).mono (by decide) (by decide) (by decide)
  have a0 := Ow.mul_ne p0 F0
  have b0 := Ow.mul_ne q0 F0
  have la := Ow.len_mul p0 F0
  have lb := Ow.len_mul q0 F0
  have pF := Ow.len_pos F0
  have pp := Ow.len_pos p0
  have pq := Ow.len_pos q0
  have xF' : ∃ x, p * F = x * F := ⟨p, rfl⟩
  generalize p * F = a at *
  generalize q * F = b at *
  have pA := Ow.len_pos a0
  have pB := Ow.len_pos b0
  obtain ⟨M, n0, cM, cm, cs, ct⟩ := mu_1 ca cb a0 b0 (by omega) (by omega) E
  have mlt := fun {P : Program} {w : World} {K : PySem.W.Frag} {mg : Str → Option Value} {base : Heap} (B : Bs P K mg) => w_multiple (w := w) (base := base) B H a0 b0 M
  have sum := fun {P : Program} {w : World} {K : PySem.W.Frag} {mg : Str → Option Value} {base : Heap} (B : Bs P K mg) => w_steps_of_sum (w := w) (base := base) B H a0 b0 M
  have lG := E.lG
  have lG2 := E.lG2
  have lu := E.lu
  have lv := E.lv
  have lS := E.lS
  have lT := E.lT
  have gl0 := Ow.lead_ne' E.G0
  have ml0 := Ow.lead_ne' n0
  have inz : ∀ {x : KF}, x ≠ 0 → x⁻¹ ≠ 0 := fun {x} h z => by
    have := mul_inv h
    rw [z] at this
    exact kf_ne (by rw [← this]; grind)
  have ci : Cx1 7 6 102 (A T).lead⁻¹ := E.cG.lead.inv gl0
  have dvs := fun {P : Program} {w : World} {K : PySem.W.Frag} {mg : Str → Option Value} {base : Heap} (B : Bs P K mg) => w_divisor (w := w) (base := base) B H E.G0 (E.cG.lead.sz1 (by decide) (by decide) (by decide)) (ci.sz1 (by decide) (by decide) (by decide)) (E.cG.zo (by omega) (by decide) (by decide) (by decide)) (E.cu.zo (by omega) (by decide) (by decide) (by decide)) (E.cv.zo (by omega) (by decide) (by decide) (by decide))
  generalize A T = G at *
  generalize U T = u at *
  generalize V T = v at *
  generalize U (T + 1) = S at *
  generalize V (T + 1) = T' at *
  have cg : OC 7 7 102 (Ow.sc G.lead⁻¹ G) := (E.cG.monic E.G0).mono (by decide) (by decide) (by decide)
  have g0 := Ow.sc_ne (inz gl0) E.G0
  have lg := Ow.len_sc (inz gl0) G
  have cu : OC 7 6 109 (Ow.sc G.lead⁻¹ u) := (OC.sc E.cu ci (by decide) (by decide)).mono (by decide) (by decide) (by decide)
  have cv : OC 9 8 163 (Ow.sc G.lead⁻¹ v) := (OC.sc E.cv ci (by decide) (by decide)).mono (by decide) (by decide) (by decide)
  have lu2 := Ow.len_sc (inz gl0) u
  have lv2 := Ow.len_sc (inz gl0) v
  have lm := Ow.len_sc (inz ml0) (S * a)
  have lSa := Ow.len_mul E.S0 a0
  have lTb := Ow.len_mul E.T0 b0
  have lTS : (T' * b).len = (S * a).len := by rw [E.e2, Ow.len_neg]
  have ls2 := Ow.len_sc (inz ml0) S
  have lt2 := Ow.len_sc (inz ml0) T'
  have lt3 := Ow.len_neg (Ow.sc (S * a).lead⁻¹ T')
  have gG : G = Ow.C G.lead * Ow.sc G.lead⁻¹ G := by
    rw [Ow.C_mul, Ow.sc_sc, mul_inv gl0, Ow.sc_one]
  obtain ⟨m1, c1⟩ := OC.mul (m := 0) cu ca (by omega) (by omega) (by decide) (by decide) (by decide) (by decide) (by decide)
  obtain ⟨m2, c2⟩ := OC.mul (m := 1) cv cb (by omega) (by omega) (by decide) (by decide) (by decide) (by decide) (by decide)
  have c1 : OC 13 13 239 _ := c1.mono (by decide) (by decide) (by decide)
  have c2 : OC 21 21 421 _ := c2.mono (by decide) (by decide) (by decide)
  have mlen : ∀ x y : Ow, (x * y).len ≤ x.len + y.len := fun x y => Nat.le_trans (trimQ_le _) (mulQ_len _ _)
  have l1 := mlen (Ow.sc G.lead⁻¹ u) a
  have l2 := mlen (Ow.sc G.lead⁻¹ v) b
  have xg : ∀ {x : Ow}, (∃ y, x = y * G) → ∃ y, x = y * Ow.sc G.lead⁻¹ G := fun {x} ⟨y, e⟩ => ⟨y * Ow.C G.lead, by rw [Ow.assoc, ← gG]; exact e⟩
  obtain ⟨xa, exa⟩ := xg E.xa
  obtain ⟨xb, exb⟩ := xg E.xb
  obtain ⟨xf, exf⟩ := E.xF
  have e2' : Ow.sc (S * a).lead⁻¹ S * a = Ow.sc (S * a).lead⁻¹ (S * a) := Ow.sc_mul _ _ _
  have e3' : -Ow.sc (S * a).lead⁻¹ T' * b = Ow.sc (S * a).lead⁻¹ (S * a) := by
    rw [Ow.neg_mul, Ow.sc_mul, ← Ow.sc_neg, ← E.e2]
  obtain ⟨msa, _⟩ := OC.mul (m := 1) cs ca (by omega) (by omega) (by decide) (by decide) (by decide) (by decide) (by decide)
  obtain ⟨mtb, _⟩ := OC.mul (m := 1) ct.neg cb (by omega) (by omega) (by decide) (by decide) (by decide) (by decide) (by decide)
  have mx0 := Ow.sc_ne (inz ml0) n0
  have pg := Ow.len_pos g0
  have gen : ∀ {d n h e p' g' : Nat} {x y : Ow}, (∃ q r, DvO x y q r ∧ x = q * y + r ∧ (MO q y)) → ∃ q r, DvO x y q r ∧ (r = Ow.Z → MO q y ∧ q * y = x) := fun {_ _ _ _ _ _ x y} ⟨q, r, h1, h2, h3⟩ => ⟨q, r, h1, fun z => ⟨h3, by rw [h2, z, Ow.add_Z]⟩⟩
  refine ⟨_, _, _, _, _, _, ⟨dvs, mlt, sum, m1, m2, c1.zo (by omega) (by decide) (by decide) (by decide), c2.zo (by omega) (by decide) (by decide) (by decide), ?_, g0, ?_, ⟨xa, ?_⟩, ⟨xb, ?_⟩, ⟨Ow.sc G.lead⁻¹ xf, ?_⟩, msa, mtb, e2', e3', mx0, ?_, ?_, a0, b0, F0, ?_⟩⟩
  · rw [Ow.sc_mul, Ow.sc_mul, ← Ow.sc_add, E.e1]
  · rw [Ow.lead_sc (inz gl0)]
    have := mul_inv gl0
    grind
  · exact dv_at (k := 1) ca cg g0 (by omega) (by omega) (by omega) (by decide) (by decide) (by decide) (by decide) (by decide) (by decide) (eq_add exa) pg
  · exact dv_at (k := 1) cb cg g0 (by omega) (by omega) (by omega) (by decide) (by decide) (by decide) (by decide) (by decide) (by decide) (eq_add exb) pg
  · exact dv_at (k := 1) cg cF F0 (by omega) (by omega) (by omega) (by decide) (by decide) (by decide) (by decide) (by decide) (by decide) (eq_add (by rw [Ow.sc_mul, ← exf])) pF
  · rw [Ow.lead_sc (inz ml0)]
    have := mul_inv ml0
    grind
  · rw [lm, lg]; exact E.ord
  · intro i hi
    match i, hi with
    | 0, _ =>
      obtain ⟨q', r', h1, h2, h3, h4, h5, _⟩ := dv_ex (k := 1) ca cg g0 (by omega) (by omega) (by omega) (by decide) (by decide) (by decide) (by decide) (by decide) (by decide)
      exact ⟨q', r', h1, fun z => ⟨(OC.mul (m := 1) h5 cg h4 (by omega) (by decide) (by decide) (by decide) (by decide) (by decide)).1, by show q' * Ow.sc G.lead⁻¹ G = a; rw [h2, z, Ow.add_Z]⟩⟩
    | 1, _ => exact ⟨_, Ow.Z, dv_at (k := 1) cm ca a0 (by omega) (by omega) (by omega) (by decide) (by decide) (by decide) (by decide) (by decide) (by decide) (eq_add e2'.symm) pA, fun _ => ⟨msa, e2'⟩⟩
    | 2, _ => exact ⟨_, Ow.Z, dv_at (k := 1) cm cb b0 (by omega) (by omega) (by omega) (by decide) (by decide) (by decide) (by decide) (by decide) (by decide) (eq_add e3'.symm) pB, fun _ => ⟨mtb, e3'⟩⟩
    | 3, _ =>
      obtain ⟨q', r', h1, h2, h3, h4, h5, _⟩ := dv_ex (k := 1) ca cb b0 (by omega) (by omega) (by omega) (by decide) (by decide) (by decide) (by decide) (by decide) (by decide)
      exact ⟨q', r', h1, fun z => ⟨(OC.mul (m := 1) h5 cb h4 (by omega) (by decide) (by decide) (by decide) (by decide) (by decide)).1, by show q' * b = a; rw [h2, z, Ow.add_Z]⟩⟩
    | 4, _ =>
      obtain ⟨q', r', h1, h2, h3, h4, h5, _⟩ := dv_ex (k := 1) cb ca a0 (by omega) (by omega) (by omega) (by decide) (by decide) (by decide) (by decide) (by decide) (by decide)
      exact ⟨q', r', h1, fun z => ⟨(OC.mul (m := 1) h5 ca h4 (by omega) (by decide) (by decide) (by decide) (by decide) (by decide)).1, by show q' * a = b; rw [h2, z, Ow.add_Z]⟩⟩
    | 5, _ =>
      obtain ⟨q', r', h1, h2, h3, h4, h5, _⟩ := dv_ex (k := 1) ca cF F0 (by omega) (by omega) (by omega) (by decide) (by decide) (by decide) (by decide) (by decide) (by decide)
      exact ⟨q', r', h1, fun z => ⟨(OC.mul (m := 1) h5 cF h4 (by omega) (by decide) (by decide) (by decide) (by decide) (by decide)).1, by show q' * F = a; rw [h2, z, Ow.add_Z]⟩⟩
structure EuF3 (a b F G u v S T : Ow) : Prop where
  G0 : G ≠ Ow.Z
  cG : OC 6 7 151 G
  lG : G.len ≤ F.len + 0
  lG2 : F.len ≤ G.len
  cu : OC 0 0 0 u
  lu : u.len ≤ 1
  cv : OC 0 0 21 v
  lv : v.len ≤ 1
  e1 : u * a + v * b = G
  S0 : S ≠ Ow.Z
  cS : OC 0 0 63 S
  lS : S.len ≤ 1
  T0 : T ≠ Ow.Z
  cT : OC 0 0 109 T
  lT : T.len ≤ 1
  e2 : S * a = -(T * b)
  ord : (S * a).len + G.len = a.len + b.len
  xa : ∃ x, a = x * G
  xb : ∃ x, b = x * G
  xF : ∃ x, G = x * F
theorem eu_3 {p q F : Ow} (cp : OC 0 0 0 p) (cq : OC 0 0 0 q) (cF : OC 6 7 95 F) (p0 : p ≠ Ow.Z) (q0 : q ≠ Ow.Z) (F0 : F ≠ Ow.Z) (lp : p.len ≤ 1) (lq : q.len ≤ 1) (lF : F.len ≤ 3) (lk : p.len ≤ q.len + 0) :
    ∃ (T : Nat) (A U V Qs : Nat → Ow), EuB (p * F) (q * F) T A U V Qs ∧ EuF3 (p * F) (q * F) F (A T) (U T) (V T) (U (T + 1)) (V (T + 1)) := by
  have ca : OC 6 7 130 (p * F) := ((OC.mul (m := 0) cp cF lp (by omega) (by decide) (by decide) (by decide) (by decide) (by decide)).2).mono (by decide) (by decide) (by decide)
  have cb : OC 6 7 130 (q * F) := ((OC.mul (m := 0) cq cF lq (by omega) (by decide) (by decide) (by decide) (by decide) (by decide)).2).mono (by decide) (by decide) (by decide)
  have a0 := Ow.mul_ne p0 F0
  have b0 := Ow.mul_ne q0 F0
  have la := Ow.len_mul p0 F0
  have lb := Ow.len_mul q0 F0
  have pF := Ow.len_pos F0
  have pp := Ow.len_pos p0
  have pq := Ow.len_pos q0
  obtain ⟨q1, ρ, d1, e1, l1, k1, c1, c2⟩ := dv_ex (k := 0) cp cq q0 (by omega) (by omega) lk (by decide) (by decide) (by decide) (by decide) (by decide) (by decide)
  have c1 : OC 0 0 21 q1 := c1.mono (by decide) (by decide) (by decide)
  have c2 : OC 0 0 21 ρ := c2.mono (by decide) (by decide) (by decide)
  have eA : p * F = q1 * (q * F) + ρ * F := by rw [← Ow.assoc, ← Ow.add_mul, ← e1]
  have z0 : ZO (Ow.C 1) := OC.one.zo (by rw [Ow.len_one]; decide) (by decide) (by decide) (by decide)
  have zz : ZO Ow.Z := OC.zero.zo (by rw [Ow.len_Z]; decide) (by decide) (by decide) (by decide)
  have m1 : MO q1 Ow.Z := (OC.mul (m := 0) c1 OC.zero k1 (by rw [Ow.len_Z]; decide) (by decide) (by decide) (by decide) (by decide) (by decide)).1
  have m2 : MO q1 (Ow.C 1) := (OC.mul (m := 0) c1 OC.one k1 (by rw [Ow.len_one]; decide) (by decide) (by decide) (by decide) (by decide) (by decide)).1
  have z1 : ZO q1 := c1.zo (by omega) (by decide) (by decide) (by decide)
  by_cases hr : ρ = Ow.Z
  · have eA : p * F = q1 * (q * F) := by rw [eA, hr, Ow.Z_mul, Ow.add_Z]
    have dA : DvO (p * F) (q * F) q1 Ow.Z := dv_at (k := 0) ca cb b0 (by omega) (by omega) (by omega) (by decide) (by decide) (by decide) (by decide) (by decide) (by decide) (eq_add eA) (Ow.len_pos b0)
    have hq1 : q1 ≠ Ow.Z := fun z => a0 (by rw [eA, z, Ow.Z_mul])
    refine ⟨1, _, _, _, _, eu1 b0 dA m1 m2 z1 z0 zz, ?_⟩
    refine ⟨b0, cb.mono (by decide) (by decide) (by decide), by show (q * F).len ≤ _; omega, by show _ ≤ (q * F).len; omega, OC.zero, by show Ow.Z.len ≤ 1; rw [Ow.len_Z]; omega, OC.one.mono (by decide) (by decide) (by decide), by show (Ow.C 1).len ≤ _; rw [Ow.len_one]; omega, ?_, Ow.one_ne, OC.one.mono (by decide) (by decide) (by decide), by show (Ow.C 1).len ≤ _; rw [Ow.len_one]; omega, Ow.neg_ne hq1, c1.neg.mono (by decide) (by decide) (by decide), by show (-q1).len ≤ _; rw [Ow.len_neg]; omega, ?_, ?_, ⟨q1, eA⟩, ⟨Ow.C 1, ?_⟩, ⟨q, rfl⟩⟩
    · show Ow.Z * (p * F) + Ow.C 1 * (q * F) = q * F
      rw [Ow.Z_mul, Ow.one_mul, Ow.Z_add]
    · show Ow.C 1 * (p * F) = -(-q1 * (q * F))
      rw [Ow.one_mul, Ow.neg_mul, Ow.neg_neg]; exact eA
    · show (Ow.C 1 * (p * F)).len + (q * F).len = _
      rw [Ow.one_mul]
    · show q * F = Ow.C 1 * (q * F)
      rw [Ow.one_mul]
  · have pr := Ow.len_pos hr
    have lr : ρ.len = 1 := by omega
    have R0 := Ow.mul_ne hr F0
    have lR := Ow.len_mul hr F0
    have cR : OC 6 7 151 (ρ * F) := ((OC.mul (m := 0) c2 cF (by omega) (by omega) (by decide) (by decide) (by decide) (by decide) (by decide)).2).mono (by decide) (by decide) (by decide)
    have dA : DvO (p * F) (q * F) q1 (ρ * F) := dv_at (k := 0) ca cb b0 (by omega) (by omega) (by omega) (by decide) (by decide) (by decide) (by decide) (by decide) (by decide) eA (by omega)
    obtain ⟨q2, r2, d2, e2, l2, k2, c3, _⟩ := dv_ex (k := 0) cq c2 hr (by omega) (by omega) (by omega) (by decide) (by decide) (by decide) (by decide) (by decide) (by decide)
    have hr2 : r2 = Ow.Z := Ow.len_zero.mp (by omega)
    have e2 : q = q2 * ρ := by rw [e2, hr2, Ow.add_Z]
    have c3 : OC 0 0 63 q2 := c3.mono (by decide) (by decide) (by decide)
    have eB : q * F = q2 * (ρ * F) := by rw [← Ow.assoc, ← e2]
    have dB : DvO (q * F) (ρ * F) q2 Ow.Z := dv_at (k := 0) cb cR R0 (by omega) (by omega) (by omega) (by decide) (by decide) (by decide) (by decide) (by decide) (by decide) (eq_add eB) (by rw [Ow.len_Z]; omega)
    have q20 : q2 ≠ Ow.Z := fun z => b0 (by rw [eB, z, Ow.Z_mul])
    have lq2 := Ow.len_mul q20 hr
    rw [← e2] at lq2
    have m3 : MO q2 (Ow.C 1) := (OC.mul (m := 0) c3 OC.one k2 (by rw [Ow.len_one]; decide) (by decide) (by decide) (by decide) (by decide) (by decide)).1
    obtain ⟨m4, c4⟩ := OC.mul (m := 0) c3 c1.neg k2 (by rw [Ow.len_neg]; omega) (by decide) (by decide) (by decide) (by decide) (by decide)
    have c4 : OC 0 0 101 (q2 * -q1) := c4.mono (by decide) (by decide) (by decide)
    have l4 := mulQ_len q2.row (-q1).row
    have l5 := trimQ_le (mulQ q2.row (-q1).row)
    have l6 : (-q1).row.length = q1.len := Ow.len_neg q1
    have l7 : q2.row.length = q2.len := rfl
    have z3 : ZO (q2 * -q1) := c4.zo (by show (trimQ (mulQ q2.row (-q1).row)).length ≤ 100; omega) (by decide) (by decide) (by decide)
    have z2 : ZO q2 := c3.zo (by omega) (by decide) (by decide) (by decide)
    have eT : (Ow.C 1 - q2 * -q1) * (q * F) = q2 * (p * F) := by
      rw [Ow.sub_eq, Ow.add_mul, Ow.one_mul, Ow.mul_neg, Ow.neg_neg, Ow.assoc, eA, Ow.mul_add, ← eB, Ow.add_comm]
    have hqa := Ow.mul_ne q20 a0
    have T0 : Ow.C 1 - q2 * -q1 ≠ Ow.Z := fun z => hqa (by rw [← eT, z, Ow.Z_mul])
    have lT := Ow.len_mul T0 b0
    have lqa := Ow.len_mul q20 a0
    rw [eT] at lT
    refine ⟨2, _, _, _, _, eu2 b0 R0 dA dB m1 m2 m3 m4 z1 z2 z3 z0 zz, ?_⟩
    refine ⟨R0, cR.mono (by decide) (by decide) (by decide), by show (ρ * F).len ≤ _; omega, by show _ ≤ (ρ * F).len; omega, OC.one, by show (Ow.C 1).len ≤ 1; rw [Ow.len_one]; omega, c1.neg.mono (by decide) (by decide) (by decide), by show (-q1).len ≤ _; rw [Ow.len_neg]; omega, ?_, Ow.neg_ne q20, c3.neg.mono (by decide) (by decide) (by decide), by show (-q2).len ≤ _; rw [Ow.len_neg]; omega, T0, (OC.sub OC.one c4 (by decide) (by decide) (by decide)).mono (by decide) (by decide) (by decide), by show (Ow.C 1 - q2 * -q1).len ≤ _; omega, ?_, ?_, ⟨q1 * q2 + Ow.C 1, ?_⟩, ⟨q2, eB⟩, ⟨ρ, rfl⟩⟩
    · show Ow.C 1 * (p * F) + -q1 * (q * F) = ρ * F
      rw [Ow.one_mul, Ow.neg_mul, ← Ow.sub_eq, eA, Ow.add_comm, Ow.add_sub]
    · show -q2 * (p * F) = -((Ow.C 1 - q2 * -q1) * (q * F))
      rw [Ow.neg_mul, eT]
    · show (-q2 * (p * F)).len + (ρ * F).len = _
      rw [Ow.neg_mul, Ow.len_neg]; omega
    · show p * F = (q1 * q2 + Ow.C 1) * (ρ * F)
      rw [Ow.add_mul, Ow.one_mul, Ow.assoc, ← eB]; exact eA
theorem mu_3 {a b F G u v S T : Ow} (ca : OC 6 7 130 a) (cb : OC 6 7 130 b) (a0 : a ≠ Ow.Z) (b0 : b ≠ Ow.Z) (la : a.len ≤ 4) (lb : b.len ≤ 4) (E : EuF3 a b F G u v S T) :
    MuB a S T ∧ S * a ≠ Ow.Z ∧ OC 6 7 228 (S * a) ∧ OC 7 7 228 (Ow.sc (S * a).lead⁻¹ (S * a)) ∧ OC 7 6 224 (Ow.sc (S * a).lead⁻¹ S) ∧ OC 7 6 270 (Ow.sc (S * a).lead⁻¹ T) := by
  obtain ⟨m1, c1⟩ := OC.mul (m := 0) E.cS ca E.lS (by omega) (by decide) (by decide) (by decide) (by decide) (by decide)
  have c1 : OC 6 7 228 (S * a) := c1.mono (by decide) (by decide) (by decide)
  have n0 := Ow.mul_ne E.S0 a0
  have lM := Ow.len_mul E.S0 a0
  have hl := Ow.lead_ne' n0
  have lS := E.lS
  have lT := E.lT
  have la0 := Ow.lead_ne' a0
  have lb0 := Ow.lead_ne' b0
  have lS0 := Ow.lead_ne' E.S0
  have lT0 := Ow.lead_ne' E.T0
  have hi : (S * a).lead⁻¹ ≠ 0 := fun z => by
    have := mul_inv hl
    rw [z] at this
    exact kf_ne (by rw [← this]; grind)
  have kS : OC 7 6 224 (Ow.sc (S * a).lead⁻¹ S) := by
    have hs : KF.sh ((S.len - 1 : Nat) : Rat) a.lead ≠ 0 := KF.sh_ne la0
    have e : Ow.sc (S * a).lead⁻¹ S = Ow.sc (KF.sh ((S.len - 1 : Nat) : Rat) a.lead)⁻¹ (Ow.sc S.lead⁻¹ S) := by
      rw [Ow.sc_sc, Ow.lead_mul E.S0 a0]
      congr 1
      have i1 := mul_inv lS0
      have i2 := mul_inv hs
      have i3 := mul_inv (kf_mul_ne lS0 hs)
      generalize KF.sh ((S.len - 1 : Nat) : Rat) a.lead = z at *
      generalize S.lead = y at *
      generalize (y * z)⁻¹ = w at *
      grind
    rw [e]
    exact (OC.sc (E.cS.monic E.S0) ((Cx1.sh (k := S.len - 1) (by omega) ca.lead 154 (by decide) (by decide)).inv hs) (by decide) (by decide)).mono (by decide) (by decide) (by decide)
  have kT : OC 7 6 270 (Ow.sc (S * a).lead⁻¹ T) := by
    have hs : KF.sh ((T.len - 1 : Nat) : Rat) b.lead ≠ 0 := KF.sh_ne lb0
    have e : Ow.sc (S * a).lead⁻¹ T = -Ow.sc (KF.sh ((T.len - 1 : Nat) : Rat) b.lead)⁻¹ (Ow.sc T.lead⁻¹ T) := by
      have e3 : (S * a).lead = -(T.lead * KF.sh ((T.len - 1 : Nat) : Rat) b.lead) := by
        have e4 : (-(T * b)).lead = -(T * b).lead := by
          rw [Ow.lead_co, Ow.lead_co, Ow.len_neg, Ow.co_neg]
        rw [E.e2, e4, Ow.lead_mul E.T0 b0]
      rw [Ow.sc_sc, e3, ← Ow.sc_neg]
      refine Ow.ext_co fun i => ?_
      rw [Ow.co_sc, Ow.co_sc, Ow.co_neg]
      have i1 := mul_inv lT0
      have i2 := mul_inv hs
      have i3 := mul_inv (show -(T.lead * KF.sh ((T.len - 1 : Nat) : Rat) b.lead) ≠ 0 from fun z => kf_mul_ne lT0 hs (by grind))
      generalize KF.sh ((T.len - 1 : Nat) : Rat) b.lead = z at *
      generalize T.lead = y at *
      generalize (-(y * z))⁻¹ = w at *
      grind
    rw [e]
    exact (OC.sc (E.cT.monic E.T0) ((Cx1.sh (k := T.len - 1) (by omega) cb.lead 154 (by decide) (by decide)).inv hs) (by decide) (by decide)).neg.mono (by decide) (by decide) (by decide)
  exact ⟨⟨m1, n0, c1.lead.sz1 (by decide) (by decide) (by decide), (c1.lead.inv hl).sz1 (by decide) (by decide) (by decide), c1.zo (by omega) (by decide) (by decide) (by decide), E.cS.zo (by omega) (by decide) (by decide) (by decide), E.cT.zo (by omega) (by decide) (by decide) (by decide), kT.zo (by rw [Ow.len_sc hi]; omega) (by decide) (by decide) (by decide)⟩, n0, c1, (c1.monic n0).mono (by decide) (by decide) (by decide), kS, kT⟩
theorem pair_3 {p q F : Ow} (cp : OC 0 0 0 p) (cq : OC 0 0 0 q) (cF : OC 6 7 95 F) (p0 : p ≠ Ow.Z) (q0 : q ≠ Ow.Z) (F0 : F ≠ Ow.Z) (lp : p.len ≤ 1) (lq : q.len ≤ 1) (lF : F.len ≤ 3) (lk : p.len ≤ q.len + 0) :
    ∃ g u v m s t, PairB (p * F) (q * F) F g u v m s t := by
  obtain ⟨T, A, U, V, Qs, H, E⟩ := eu_3 cp cq cF p0 q0 F0 lp lq lF lk
  have ca : OC 6 7 130 (p * F) := ((OC.mul (m := 0) cp cF lp (by omega) (by decide) (by decide) (by decide) (by decide) (by decide)).2).mono (by decide) (by decide) (by decide)
  have cb : OC 6 7 130 (q * F) := ((OC.mul (m := 0) cq cF lq (by omega) (by decide) (by decide) (by decide) (by decide) (by decide)).2).mono (by decide) (by decide) (by decide)
  have a0 := Ow.mul_ne p0 F0
  have b0 := Ow.mul_ne q0 F0
  have la := Ow.len_mul p0 F0
  have lb := Ow.len_mul q0 F0
  have pF := Ow.len_pos F0
  have pp := Ow.len_pos p0
  have pq := Ow.len_pos q0
  have xF' : ∃ x, p * F = x * F := ⟨p, rfl⟩
  generalize p * F = a at *
  generalize q * F = b at *
  have pA := Ow.len_pos a0
  have pB := Ow.len_pos b0
  obtain ⟨M, n0, cM, cm, cs, ct⟩ := mu_3 ca cb a0 b0 (by omega) (by omega) E
  have mlt := fun {P : Program} {w : World} {K : PySem.W.Frag} {mg : Str → Option Value} {base : Heap} (B : Bs P K mg) => w_multiple (w := w) (base := base) B H a0 b0 M
  have sum := fun {P : Program} {w : World} {K : PySem.W.Frag} {mg : Str → Option Value} {base : Heap} (B : Bs P K mg) => w_steps_of_sum (w := w) (base := base) B H a0 b0 M
  have lG := E.lG
  have lG2 := E.lG2
  have lu := E.lu
  have lv := E.lv
  have lS := E.lS
  have lT := E.lT
  have gl0 := Ow.lead_ne' E.G0
  have ml0 := Ow.lead_ne' n0
  have inz : ∀ {x : KF}, x ≠ 0 → x⁻¹ ≠ 0 := fun {x} h z => by
    have := mul_inv h
    rw [z] at this
    exact kf_ne (by rw [← this]; grind)
  have ci : Cx1 7 6 151 (A T).lead⁻¹ := E.cG.lead.inv gl0
  have dvs := fun {P : Program} {w : World} {K : PySem.W.Frag} {mg : Str → Option Value} {base : Heap} (B : Bs P K mg) => w_divisor (w := w) (base := base) B H E.G0 (E.cG.lead.sz1 (by decide) (by decide) (by decide)) (ci.sz1 (by decide) (by decide) (by decide)) (E.cG.zo (by omega) (by decide) (by decide) (by decide)) (E.cu.zo (by omega) (by decide) (by decide) (by decide)) (E.cv.zo (by omega) (by decide) (by decide) (by decide))
  generalize A T = G at *
  generalize U T = u at *
  generalize V T = v at *
  generalize U (T + 1) = S at *
  generalize V (T + 1) = T' at *
  have cg : OC 7 7 151 (Ow.sc G.lead⁻¹ G) := (E.cG.monic E.G0).mono (by decide) (by decide) (by decide)
  have g0 := Ow.sc_ne (inz gl0) E.G0
  have lg := Ow.len_sc (inz gl0) G
  have cu : OC 7 6 158 (Ow.sc G.lead⁻¹ u) := (OC.sc E.cu ci (by decide) (by decide)).mono (by decide) (by decide) (by decide)
  have cv : OC 7 6 179 (Ow.sc G.lead⁻¹ v) := (OC.sc E.cv ci (by decide) (by decide)).mono (by decide) (by decide) (by decide)
  have lu2 := Ow.len_sc (inz gl0) u
  have lv2 := Ow.len_sc (inz gl0) v
  have lm := Ow.len_sc (inz ml0) (S * a)
  have lSa := Ow.len_mul E.S0 a0
  have lTb := Ow.len_mul E.T0 b0
  have lTS : (T' * b).len = (S * a).len := by rw [E.e2, Ow.len_neg]
  have ls2 := Ow.len_sc (inz ml0) S
  have lt2 := Ow.len_sc (inz ml0) T'
  have lt3 := Ow.len_neg (Ow.sc (S * a).lead⁻¹ T')
  have gG : G = Ow.C G.lead * Ow.sc G.lead⁻¹ G := by
    rw [Ow.C_mul, Ow.sc_sc, mul_inv gl0, Ow.sc_one]
  obtain ⟨m1, c1⟩ := OC.mul (m := 0) cu ca (by omega) (by omega) (by decide) (by decide) (by decide) (by decide) (by decide)
  obtain ⟨m2, c2⟩ := OC.mul (m := 0) cv cb (by omega) (by omega) (by decide) (by decide) (by decide) (by decide) (by decide)
  have c1 : OC 13 13 323 _ := c1.mono (by decide) (by decide) (by decide)
  have c2 : OC 13 13 344 _ := c2.mono (by decide) (by decide) (by decide)
  have mlen : ∀ x y : Ow, (x * y).len ≤ x.len + y.len := fun x y => Nat.le_trans (trimQ_le _) (mulQ_len _ _)
  have l1 := mlen (Ow.sc G.lead⁻¹ u) a
  have l2 := mlen (Ow.sc G.lead⁻¹ v) b
  have xg : ∀ {x : Ow}, (∃ y, x = y * G) → ∃ y, x = y * Ow.sc G.lead⁻¹ G := fun {x} ⟨y, e⟩ => ⟨y * Ow.C G.lead, by rw [Ow.assoc, ← gG]; exact e⟩
  obtain ⟨xa, exa⟩ := xg E.xa
  obtain ⟨xb, exb⟩ := xg E.xb
  obtain ⟨xf, exf⟩ := E.xF
  have e2' : Ow.sc (S * a).lead⁻¹ S * a = Ow.sc (S * a).lead⁻¹ (S * a) := Ow.sc_mul _ _ _
  have e3' : -Ow.sc (S * a).lead⁻¹ T' * b = Ow.sc (S * a).lead⁻¹ (S * a) := by
    rw [Ow.neg_mul, Ow.sc_mul, ← Ow.sc_neg, ← E.e2]
  obtain ⟨msa, _⟩ := OC.mul (m := 0) cs ca (by omega) (by omega) (by decide) (by decide) (by decide) (by decide) (by decide)
  obtain ⟨mtb, _⟩ := OC.mul (m := 0) ct.neg cb (by omega) (by omega) (by decide) (by decide) (by decide) (by decide) (by decide)
  have mx0 := Ow.sc_ne (inz ml0) n0
  have pg := Ow.len_pos g0
  have gen : ∀ {d n h e p' g' : Nat} {x y : Ow}, (∃ q r, DvO x y q r ∧ x = q * y + r ∧ (MO q y)) → ∃ q r, DvO x y q r ∧ (r = Ow.Z → MO q y ∧ q * y = x) := fun {_ _ _ _ _ _ x y} ⟨q, r, h1, h2, h3⟩ => ⟨q, r, h1, fun z => ⟨h3, by rw [h2, z, Ow.add_Z]⟩⟩
  refine ⟨_, _, _, _, _, _, ⟨dvs, mlt, sum, m1, m2, c1.zo (by omega) (by decide) (by decide) (by decide), c2.zo (by omega) (by decide) (by decide) (by decide), ?_, g0, ?_, ⟨xa, ?_⟩, ⟨xb, ?_⟩, ⟨Ow.sc G.lead⁻¹ xf, ?_⟩, msa, mtb, e2', e3', mx0, ?_, ?_, a0, b0, F0, ?_⟩⟩
  · rw [Ow.sc_mul, Ow.sc_mul, ← Ow.sc_add, E.e1]
  · rw [Ow.lead_sc (inz gl0)]
    have := mul_inv gl0
    grind
  · exact dv_at (k := 0) ca cg g0 (by omega) (by omega) (by omega) (by decide) (by decide) (by decide) (by decide) (by decide) (by decide) (eq_add exa) pg
  · exact dv_at (k := 0) cb cg g0 (by omega) (by omega) (by omega) (by decide) (by decide) (by decide) (by decide) (by decide) (by decide) (eq_add exb) pg
  · exact dv_at (k := 0) cg cF F0 (by omega) (by omega) (by omega) (by decide) (by decide) (by decide) (by decide) (by decide) (by decide) (eq_add (by rw [Ow.sc_mul, ← exf])) pF
  · rw [Ow.lead_sc (inz ml0)]
    have := mul_inv ml0
    grind
  · rw [lm, lg]; exact E.ord
  · intro i hi
    match i, hi with
    | 0, _ =>
      obtain ⟨q', r', h1, h2, h3, h4, h5, _⟩ := dv_ex (k := 0) ca cg g0 (by omega) (by omega) (by omega) (by decide) (by decide) (by decide) (by decide) (by decide) (by decide)
      exact ⟨q', r', h1, fun z => ⟨(OC.mul (m := 0) h5 cg h4 (by omega) (by decide) (by decide) (by decide) (by decide) (by decide)).1, by show q' * Ow.sc G.lead⁻¹ G = a; rw [h2, z, Ow.add_Z]⟩⟩
    | 1, _ => exact ⟨_, Ow.Z, dv_at (k := 0) cm ca a0 (by omega) (by omega) (by omega) (by decide) (by decide) (by decide) (by decide) (by decide) (by decide) (eq_add e2'.symm) pA, fun _ => ⟨msa, e2'⟩⟩
    | 2, _ => exact ⟨_, Ow.Z, dv_at (k := 0) cm cb b0 (by omega) (by omega) (by omega) (by decide) (by decide) (by decide) (by decide) (by decide) (by decide) (eq_add e3'.symm) pB, fun _ => ⟨mtb, e3'⟩⟩
    | 3, _ =>
      obtain ⟨q', r', h1, h2, h3, h4, h5, _⟩ := dv_ex (k := 0) ca cb b0 (by omega) (by omega) (by omega) (by decide) (by decide) (by decide) (by decide) (by decide) (by decide)
      exact ⟨q', r', h1, fun z => ⟨(OC.mul (m := 0) h5 cb h4 (by omega) (by decide) (by decide) (by decide) (by decide) (by decide)).1, by show q' * b = a; rw [h2, z, Ow.add_Z]⟩⟩
    | 4, _ =>
      obtain ⟨q', r', h1, h2, h3, h4, h5, _⟩ := dv_ex (k := 0) cb ca a0 (by omega) (by omega) (by omega) (by decide) (by decide) (by decide) (by decide) (by decide) (by decide)
      exact ⟨q', r', h1, fun z => ⟨(OC.mul (m := 0) h5 ca h4 (by omega) (by decide) (by decide) (by decide) (by decide) (by decide)).1, by show q' * a = b; rw [h2, z, Ow.add_Z]⟩⟩
    | 5, _ =>
      obtain ⟨q', r', h1, h2, h3, h4, h5, _⟩ := dv_ex (k := 0) ca cF F0 (by omega) (by omega) (by omega) (by decide) (by decide) (by decide) (by decide) (by decide) (by decide)
      exact ⟨q', r', h1, fun z => ⟨(OC.mul (m := 0) h5 cF h4 (by omega) (by decide) (by decide) (by decide) (by decide) (by decide)).1, by show q' * F = a; rw [h2, z, Ow.add_Z]⟩⟩
structure EuF4 (a b F G u v S T : Ow) : Prop where
  G0 : G ≠ Ow.Z
  cG : OC 6 6 122 G
  lG : G.len ≤ F.len + 1
  lG2 : F.len ≤ G.len
  cu : OC 0 0 0 u
  lu : u.len ≤ 1
  cv : OC 6 6 105 v
  lv : v.len ≤ 2
  e1 : u * a + v * b = G
  S0 : S ≠ Ow.Z
  cS : OC 15 15 423 S
  lS : S.len ≤ 2
  T0 : T ≠ Ow.Z
  cT : OC 27 27 706 T
  lT : T.len ≤ 2
  e2 : S * a = -(T * b)
  ord : (S * a).len + G.len = a.len + b.len
  xa : ∃ x, a = x * G
  xb : ∃ x, b = x * G
  xF : ∃ x, G = x * F
theorem eu_4 {p q F : Ow} (cp : OC 3 3 22 p) (cq : OC 3 3 22 q) (cF : OC 0 0 0 F) (p0 : p ≠ Ow.Z) (q0 : q ≠ Ow.Z) (F0 : F ≠ Ow.Z) (lp : p.len ≤ 2) (lq : q.len ≤ 2) (lF : F.len ≤ 1) (lk : p.len ≤ q.len + 0) :
    ∃ (T : Nat) (A U V Qs : Nat → Ow), EuB (p * F) (q * F) T A U V Qs ∧ EuF4 (p * F) (q * F) F (A T) (U T) (V T) (U (T + 1)) (V (T + 1)) := by
  have ca : OC 3 3 51 (p * F) := ((OC.mul (m := 1) cp cF lp (by omega) (by decide) (by decide) (by decide) (by decide) (by decide)).2).mono (by decide) (by decide) (by decide)
  have cb : OC 3 3 51 (q * F) := ((OC.mul (m := 1) cq cF lq (by omega) (by decide) (by decide) (by decide) (by decide) (by decide)).2).mono (by decide) (by decide) (by decide)
  have a0 := Ow.mul_ne p0 F0
  have b0 := Ow.mul_ne q0 F0
  have la := Ow.len_mul p0 F0
  have lb := Ow.len_mul q0 F0
  have pF := Ow.len_pos F0
  have pp := Ow.len_pos p0
  have pq := Ow.len_pos q0
  obtain ⟨q1, ρ, d1, e1, l1, k1, c1, c2⟩ := dv_ex (k := 0) cp cq q0 (by omega) (by omega) lk (by decide) (by decide) (by decide) (by decide) (by decide) (by decide)
  have c1 : OC 6 6 105 q1 := c1.mono (by decide) (by decide) (by decide)
  have c2 : OC 6 6 105 ρ := c2.mono (by decide) (by decide) (by decide)
  have eA : p * F = q1 * (q * F) + ρ * F := by rw [← Ow.assoc, ← Ow.add_mul, ← e1]
  have z0 : ZO (Ow.C 1) := OC.one.zo (by rw [Ow.len_one]; decide) (by decide) (by decide) (by decide)
  have zz : ZO Ow.Z := OC.zero.zo (by rw [Ow.len_Z]; decide) (by decide) (by decide) (by decide)
  have m1 : MO q1 Ow.Z := (OC.mul (m := 0) c1 OC.zero k1 (by rw [Ow.len_Z]; decide) (by decide) (by decide) (by decide) (by decide) (by decide)).1
  have m2 : MO q1 (Ow.C 1) := (OC.mul (m := 0) c1 OC.one k1 (by rw [Ow.len_one]; decide) (by decide) (by decide) (by decide) (by decide) (by decide)).1
  have z1 : ZO q1 := c1.zo (by omega) (by decide) (by decide) (by decide)
  by_cases hr : ρ = Ow.Z
  · have eA : p * F = q1 * (q * F) := by rw [eA, hr, Ow.Z_mul, Ow.add_Z]
    have dA : DvO (p * F) (q * F) q1 Ow.Z := dv_at (k := 0) ca cb b0 (by omega) (by omega) (by omega) (by decide) (by decide) (by decide) (by decide) (by decide) (by decide) (eq_add eA) (Ow.len_pos b0)
    have hq1 : q1 ≠ Ow.Z := fun z => a0 (by rw [eA, z, Ow.Z_mul])
    refine ⟨1, _, _, _, _, eu1 b0 dA m1 m2 z1 z0 zz, ?_⟩
    refine ⟨b0, cb.mono (by decide) (by decide) (by decide), by show (q * F).len ≤ _; omega, by show _ ≤ (q * F).len; omega, OC.zero, by show Ow.Z.len ≤ 1; rw [Ow.len_Z]; omega, OC.one.mono (by decide) (by decide) (by decide), by show (Ow.C 1).len ≤ _; rw [Ow.len_one]; omega, ?_, Ow.one_ne, OC.one.mono (by decide) (by decide) (by decide), by show (Ow.C 1).len ≤ _; rw [Ow.len_one]; omega, Ow.neg_ne hq1, c1.neg.mono (by decide) (by decide) (by decide), by show (-q1).len ≤ _; rw [Ow.len_neg]; omega, ?_, ?_, ⟨q1, eA⟩, ⟨Ow.C 1, ?_⟩, ⟨q, rfl⟩⟩
    · show Ow.Z * (p * F) + Ow.C 1 * (q * F) = q * F
      rw [Ow.Z_mul, Ow.one_mul, Ow.Z_add]
    · show Ow.C 1 * (p * F) = -(-q1 * (q * F))
      rw [Ow.one_mul, Ow.neg_mul, Ow.neg_neg]; exact eA
    · show (Ow.C 1 * (p * F)).len + (q * F).len = _
      rw [Ow.one_mul]
    · show q * F = Ow.C 1 * (q * F)
      rw [Ow.one_mul]
  · have pr := Ow.len_pos hr
    have lr : ρ.len = 1 := by omega
    have R0 := Ow.mul_ne hr F0
    have lR := Ow.len_mul hr F0
    have cR : OC 6 6 122 (ρ * F) := ((OC.mul (m := 0) c2 cF (by omega) (by omega) (by decide) (by decide) (by decide) (by decide) (by decide)).2).mono (by decide) (by decide) (by decide)
    have dA : DvO (p * F) (q * F) q1 (ρ * F) := dv_at (k := 0) ca cb b0 (by omega) (by omega) (by omega) (by decide) (by decide) (by decide) (by decide) (by decide) (by decide) eA (by omega)
    obtain ⟨q2, r2, d2, e2, l2, k2, c3, _⟩ := dv_ex (k := 1) cq c2 hr (by omega) (by omega) (by omega) (by decide) (by decide) (by decide) (by decide) (by decide) (by decide)
    have hr2 : r2 = Ow.Z := Ow.len_zero.mp (by omega)
    have e2 : q = q2 * ρ := by rw [e2, hr2, Ow.add_Z]
    have c3 : OC 15 15 423 q2 := c3.mono (by decide) (by decide) (by decide)
    have eB : q * F = q2 * (ρ * F) := by rw [← Ow.assoc, ← e2]
    have dB : DvO (q * F) (ρ * F) q2 Ow.Z := dv_at (k := 1) cb cR R0 (by omega) (by omega) (by omega) (by decide) (by decide) (by decide) (by decide) (by decide) (by decide) (eq_add eB) (by rw [Ow.len_Z]; omega)
    have q20 : q2 ≠ Ow.Z := fun z => b0 (by rw [eB, z, Ow.Z_mul])
    have lq2 := Ow.len_mul q20 hr
    rw [← e2] at lq2
    have m3 : MO q2 (Ow.C 1) := (OC.mul (m := 1) c3 OC.one k2 (by rw [Ow.len_one]; decide) (by decide) (by decide) (by decide) (by decide) (by decide)).1
    obtain ⟨m4, c4⟩ := OC.mul (m := 1) c3 c1.neg k2 (by rw [Ow.len_neg]; omega) (by decide) (by decide) (by decide) (by decide) (by decide)
    have c4 : OC 27 27 698 (q2 * -q1) := c4.mono (by decide) (by decide) (by decide)
    have l4 := mulQ_len q2.row (-q1).row
    have l5 := trimQ_le (mulQ q2.row (-q1).row)
    have l6 : (-q1).row.length = q1.len := Ow.len_neg q1
    have l7 : q2.row.length = q2.len := rfl
    have z3 : ZO (q2 * -q1) := c4.zo (by show (trimQ (mulQ q2.row (-q1).row)).length ≤ 100; omega) (by decide) (by decide) (by decide)
    have z2 : ZO q2 := c3.zo (by omega) (by decide) (by decide) (by decide)
    have eT : (Ow.C 1 - q2 * -q1) * (q * F) = q2 * (p * F) := by
      rw [Ow.sub_eq, Ow.add_mul, Ow.one_mul, Ow.mul_neg, Ow.neg_neg, Ow.assoc, eA, Ow.mul_add, ← eB, Ow.add_comm]
    have hqa := Ow.mul_ne q20 a0
    have T0 : Ow.C 1 - q2 * -q1 ≠ Ow.Z := fun z => hqa (by rw [← eT, z, Ow.Z_mul])
    have lT := Ow.len_mul T0 b0
    have lqa := Ow.len_mul q20 a0
    rw [eT] at lT
    refine ⟨2, _, _, _, _, eu2 b0 R0 dA dB m1 m2 m3 m4 z1 z2 z3 z0 zz, ?_⟩
    refine ⟨R0, cR.mono (by decide) (by decide) (by decide), by show (ρ * F).len ≤ _; omega, by show _ ≤ (ρ * F).len; omega, OC.one, by show (Ow.C 1).len ≤ 1; rw [Ow.len_one]; omega, c1.neg.mono (by decide) (by decide) (by decide), by show (-q1).len ≤ _; rw [Ow.len_neg]; omega, ?_, Ow.neg_ne q20, c3.neg.mono (by decide) (by decide) (by decide), by show (-q2).len ≤ _; rw [Ow.len_neg]; omega, T0, (OC.sub OC.one c4 (by decide) (by decide) (by decide)).mono (by decide) (by decide) (by decide), by show (Ow.C 1 - q2 * -q1).len ≤ _; omega, ?_, ?_, ⟨q1 * q2 + Ow.C 1, ?_⟩, ⟨q2, eB⟩, ⟨ρ, rfl⟩⟩
    · show Ow.C 1 * (p * F) + -q1 * (q * F) = ρ * F
      rw [Ow.one_mul, Ow.neg_mul, ← Ow.sub_eq, eA, Ow.add_comm, Ow.add_sub]
    · show -q2 * (p * F) = -((Ow.C 1 - q2 * -q1) * (q * F))
      rw [Ow.neg_mul, eT]
    · show (-q2 * (p * F)).len + (ρ * F).len = _
      rw [Ow.neg_mul, Ow.len_neg]; omega
    · show p * F = (q1 * q2 + Ow.C 1) * (ρ * F)
      rw [Ow.add_mul, Ow.one_mul, Ow.assoc, ← eB]; exact eA
theorem mu_4 {a b F G u v S T : Ow} (ca : OC 3 3 51 a) (cb : OC 3 3 51 b) (a0 : a ≠ Ow.Z) (b0 : b ≠ Ow.Z) (la : a.len ≤ 3) (lb : b.len ≤ 3) (E : EuF4 a b F G u v S T) :
    MuB a S T ∧ S * a ≠ Ow.Z ∧ OC 21 21 572 (S * a) ∧ OC 21 21 572 (Ow.sc (S * a).lead⁻¹ (S * a)) ∧ OC 18 18 493 (Ow.sc (S * a).lead⁻¹ S) ∧ OC 30 30 776 (Ow.sc (S * a).lead⁻¹ T) := by
  obtain ⟨m1, c1⟩ := OC.mul (m := 1) E.cS ca E.lS (by omega) (by decide) (by decide) (by decide) (by decide) (by decide)
  have c1 : OC 21 21 572 (S * a) := c1.mono (by decide) (by decide) (by decide)
  have n0 := Ow.mul_ne E.S0 a0
  have lM := Ow.len_mul E.S0 a0
  have hl := Ow.lead_ne' n0
  have lS := E.lS
  have lT := E.lT
  have la0 := Ow.lead_ne' a0
  have lb0 := Ow.lead_ne' b0
  have lS0 := Ow.lead_ne' E.S0
  have lT0 := Ow.lead_ne' E.T0
  have hi : (S * a).lead⁻¹ ≠ 0 := fun z => by
    have := mul_inv hl
    rw [z] at this
    exact kf_ne (by rw [← this]; grind)
  have kS : OC 18 18 493 (Ow.sc (S * a).lead⁻¹ S) := by
    have hs : KF.sh ((S.len - 1 : Nat) : Rat) a.lead ≠ 0 := KF.sh_ne la0
    have e : Ow.sc (S * a).lead⁻¹ S = Ow.sc (KF.sh ((S.len - 1 : Nat) : Rat) a.lead)⁻¹ (Ow.sc S.lead⁻¹ S) := by
      rw [Ow.sc_sc, Ow.lead_mul E.S0 a0]
      congr 1
      have i1 := mul_inv lS0
      have i2 := mul_inv hs
      have i3 := mul_inv (kf_mul_ne lS0 hs)
      generalize KF.sh ((S.len - 1 : Nat) : Rat) a.lead = z at *
      generalize S.lead = y at *
      generalize (y * z)⁻¹ = w at *
      grind
    rw [e]
    exact (OC.sc (E.cS.monic E.S0) ((Cx1.sh (k := S.len - 1) (by omega) ca.lead 63 (by decide) (by decide)).inv hs) (by decide) (by decide)).mono (by decide) (by decide) (by decide)
  have kT : OC 30 30 776 (Ow.sc (S * a).lead⁻¹ T) := by
    have hs : KF.sh ((T.len - 1 : Nat) : Rat) b.lead ≠ 0 := KF.sh_ne lb0
    have e : Ow.sc (S * a).lead⁻¹ T = -Ow.sc (KF.sh ((T.len - 1 : Nat) : Rat) b.lead)⁻¹ (Ow.sc T.lead⁻¹ T) := by
      have e3 : (S * a).lead = -(T.lead * KF.sh ((T.len - 1 : Nat) : Rat) b.lead) := by
        have e4 : (-(T * b)).lead = -(T * b).lead := by
          rw [Ow.lead_co, Ow.lead_co, Ow.len_neg, Ow.co_neg]
        rw [E.e2, e4, Ow.lead_mul E.T0 b0]
      rw [Ow.sc_sc, e3, ← Ow.sc_neg]
      refine Ow.ext_co fun i => ?_
      rw [Ow.co_sc, Ow.co_sc, Ow.co_neg]
      have i1 := mul_inv lT0
      have i2 := mul_inv hs
      have i3 := mul_inv (show -(T.lead * KF.sh ((T.len - 1 : Nat) : Rat) b.lead) ≠ 0 from fun z => kf_mul_ne lT0 hs (by grind))
      generalize KF.sh ((T.len - 1 : Nat) : Rat) b.lead = z at *
      generalize T.lead = y at *
      generalize (-(y * z))⁻¹ = w at *
      grind
    rw [e]
    exact (OC.sc (E.cT.monic E.T0) ((Cx1.sh (k := T.len - 1) (by omega) cb.lead 63 (by decide) (by decide)).inv hs) (by decide) (by decide)).neg.mono (by decide) (by decide) (by decide)
  exact ⟨⟨m1, n0, c1.lead.sz1 (by decide) (by decide) (by decide), (c1.lead.inv hl).sz1 (by decide) (by decide) (by decide), c1.zo (by omega) (by decide) (by decide) (by decide), E.cS.zo (by omega) (by decide) (by decide) (by decide), E.cT.zo (by omega) (by decide) (by decide) (by decide), kT.zo (by rw [Ow.len_sc hi]; omega) (by decide) (by decide) (by decide)⟩, n0, c1, (c1.monic n0).mono (by decide) (by decide) (by decide), kS, kT⟩
end SLT
set_option exponentiation.threshold 256
set_option maxRecDepth 100000
set_option maxHeartbeats 1000000
namespace SLT
open PySem PySem.Spec PyProof.Rows L2 SL SW
section
variable {P : Program} {w : World} {K : PySem.W.Frag} {mg : Str → Option Value} {base : Heap} {k : Nat}
theorem ref_no {x : Ow} (v : V) (H : Hp) (h : (tO K x).p v H) : decide (v = .non) = false := by
  obtain ⟨a, dx, t, e, _⟩ := h
  rw [e]; rfl
theorem non_no (v : V) (H : Hp) (h : tN.p v H) : decide (v = .non) = true := by
  have e : v = .non := h
  rw [e]; rfl
theorem w_law_divides (B : Bs P K mg) {a m q r : Ow} (h : DvO a m q r) : FnT P w K mg base 74 (fTop K "_law_divides") (spT [tO K m, tO K a] (tB (decide (r.row.length = 0)))) := by
  obtain ⟨fd', D⟩ := B.F.d_law_divides
  refine fnT_of (fn_ret D sc_law_divides rfl fun cdv Ar outer s H hr => ?_) (bi_law_divides D)
  exact bt_last (st_ret (et_o0 B (hr.mono (by omega)) rfl (et_ixT 1 rfl rfl (et_meth (w_divO B h) B.F.cl_Steps B.F.me_Steps_divide (hr.mono (by omega)) (vr 1 rfl rfl rfl rfl rfl) (noS rfl) (at_one (vr 0 rfl rfl rfl rfl rfl)) rfl rfl rfl) et_int)) rfl)
theorem tt_neO {X : Cx} {Γ : Cxt} {a b : Expr} {pos : Pos} {u v : Ow} (B : Bs X.prog X.K X.mg) (h : u = v) (hr : Room 63 X.A) (ha : ET X Γ a (tO X.K u)) (hb : ET X Γ b (tO X.K v)) (hmk : behindInMarks .NotEq b = false := by rfl) : TT_ X Γ (.Compare a [.NotEq] [b] pos) false :=
  tt_neS B (congrArg Ow.row h) hr ha hb hmk
theorem et_one1 {X : Cx} {Γ : Cxt} {p1 p2 p3 p4 : Pos} {k1 : Nat} (B : Bs X.prog X.K X.mg) (hr : Room 58 X.A) (hg : Gl X "of_ratio") (hg2 : Gl X "Ratio")
    (s1 : starEach [.Call (.Name "Ratio" p2) [.Constant (.int 1) k1 p3] [] p4] X.env = (false, eval (.Call (.Name "Ratio" p2) [.Constant (.int 1) k1 p3] [] p4) X.env) :: starEach [] X.env := by rfl)
    (s2 : starEach [.Constant (.int 1) k1 p3] X.env = (false, eval (.Constant (.int 1) k1 p3) X.env) :: starEach [] X.env := by rfl) {pos : Pos} : ET X Γ (.Call (.Name "of_ratio" p1) [.Call (.Name "Ratio" p2) [.Constant (.int 1) k1 p3] [] p4] [] pos) (tq X.K (1 : KF)) :=
  et_call (opsK B _).one hr hg B.F.g_of_ratio B.F.k_of_ratio (at_one (et_make B.F.mk_Ratio (mkQ1 B 1) (hr.mono (by omega)) hg2 B.F.g_Ratio (at_one et_int s2) rfl s2 rfl) s1) rfl s1 rfl
abbrev prSt (i : Nat) : Stmt := d_law_pair_right.body.getD i (.Pass ⟨0, 0, 0, 0⟩)
abbrev forB : Stmt → List Stmt
  | .For _ _ b _ _ => b
  | _ => []
/-- one turn of the law's loop -/
noncomputable abbrev GP (K : PySem.W.Frag) (a b f g m o t : Ow) : Cxt := [some (tO K a), some (tO K b), some (tO K f), some (tO K g), none, none, some (tO K m), none, none, some (tO K o), some (tO K t), none]
noncomputable abbrev GQ (K : PySem.W.Frag) (a b f g m : Ow) : Cxt := [some (tO K a), some (tO K b), some (tO K f), some (tO K g), none, none, some (tO K m), none, none, none, none, none]
section
variable {cdv : Value} {A : Around} {outer : List Env} {sh : Shared} {H : Hp}
abbrev PX (P : Program) (w : World) (K : PySem.W.Frag) (mg : Str → Option Value) (base : Heap) (cdv : Value) (A : Around) (outer : List Env) (sh : Shared) (H : Hp) : Cx := BodyCx P w K mg base N_law_pair_right d_law_pair_right.qual d_law_pair_right.scope (fTop K "_law_pair_right") cdv A outer sh H
theorem pr_turn (B : Bs P K mg) {a b f g m o t : Ow} (hr : Room 89 (A.deeper (envOfC d_law_pair_right.qual d_law_pair_right.scope sh.heap.objs.size (fTop K "_law_pair_right") cdv))) (t0 : t ≠ Ow.Z) (h : ∃ q r, DvO o t q r ∧ (r = Ow.Z → MO q t ∧ q * t = o)) {tg : Tg} (hn : tg.nx = some (GQ K a b f g m)) :
    BT (PX P w K mg base cdv A outer sh H) (GP K a b f g m o t) (forB (prSt 5)) tg := by
  obtain ⟨q, r, hd, hx⟩ := h
  have out : Sub ([some (tO K a), some (tO K b), some (tO K f), some (tO K g), none, none, some (tO K m), none, none, some (tO K o), some (tO K t), some (tOq K q r)] : Cxt) (GQ K a b f g m) := sub_eq (sub_eq (sub_eq (sub_eq (sub_eq (sub_eq (sub_eq (sub_eq (sub_eq (sub_no (sub_no (sub_no sub_nil)))))))))))
  refine bt_cons (Δ := [some (tO K a), some (tO K b), some (tO K f), some (tO K g), none, none, some (tO K m), none, none, some (tO K o), some (tO K t), some (tOq K q r)]) (st_set (i := 11) (R := tOq K q r) sc_law_pair_right.nd rfl (.inl rfl) (et_call (w_quotient B t0 hd) (hr.mono (by omega)) rfl B.F.g_step_quotient B.F.k_step_quotient (at_two (vr 9 rfl rfl rfl rfl rfl) (vr 10 rfl rfl rfl rfl rfl)) rfl rfl rfl) rfl (Sub.refl _) rfl (.inl rfl)) ?_
  have hdv : ∀ {Γ : Cxt} {p1 p2 p3 p4}, Γ[9]? = some (some (tO K o)) → Γ[10]? = some (some (tO K t)) → ET (PX P w K mg base cdv A outer sh H) Γ (.Call (.Name "_law_divides" p1) [.Name "two" p2, .Name "one_v" p3] [] p4) (tB (decide (r.row.length = 0))) := fun {Γ p1 p2 p3 p4} h9 h10 => et_call (w_law_divides B hd) (hr.mono (by omega)) rfl B.F.g_law_divides B.F.k_law_divides (at_two (vr 10 rfl rfl h10 rfl rfl) (vr 9 rfl rfl h9 rfl rfl)) rfl rfl rfl
  by_cases hz : r = Ow.Z
  · have el : r.row.length = 0 := by rw [hz]; rfl
    have eq : tOq K q r = tO K q := if_pos el
    obtain ⟨hm, he⟩ := hx hz
    rw [eq] at out ⊢
    rw [decide_eq_true el] at hdv
    exact bt_last (st_ifF (WT_.tt (or_ff (tt_eqBB (d := false) (e := true) (ev_isN (d := false) (ref_no (K := K) (x := q)) (vr 11 rfl rfl rfl rfl rfl) et_non) (hdv rfl rfl)) (or_one (WT_.tt (and_tt (tt_notN (d := false) (ref_no (K := K) (x := q)) (vr 11 rfl rfl rfl rfl rfl) et_non) (and_one (tt_neO B he (hr.mono (by omega)) (et_om B (hr.mono (by omega)) hm (vr 11 rfl rfl rfl rfl rfl) (vr 10 rfl rfl rfl rfl rfl)) (vr 9 rfl rfl rfl rfl rfl)))))))) (bt_nil hn out))
  · have el : r.row.length ≠ 0 := fun z => hz (Ow.row_nil.mp (List.length_eq_zero_iff.mp z))
    have eq : tOq K q r = tN := if_neg el
    rw [eq] at out ⊢
    rw [decide_eq_false el] at hdv
    exact bt_last (st_ifF (WT_.tt (or_ff (tt_eqBB (d := true) (e := false) (ev_isN (d := true) non_no (vr 11 rfl rfl rfl rfl rfl) et_non) (hdv rfl rfl)) (or_one (WT_.tt (and_ff (tt_notN (d := true) non_no (vr 11 rfl rfl rfl rfl rfl) et_non)))))) (bt_nil hn out))
end
theorem pair_body : d_law_pair_right.body = [prSt 0, prSt 1, prSt 2, prSt 3, prSt 4, prSt 5, prSt 6] := by rfl
theorem w_law_pair (B : Bs P K mg) {a b f g u v m s t : Ow} (Pr : PairB a b f g u v m s t) : FnT P w K mg base 90 (fTop K "_law_pair_right") (spT [tO K a, tO K b, tO K f] (tB true)) := by
  obtain ⟨fd', D⟩ := B.F.d_law_pair_right
  refine fnT_of (fn_ret D sc_law_pair_right rfl fun cdv A outer sh H hr => ?_) (bi_law_pair_right D)
  rw [pair_body]
  refine bt_cons (Δ := [some (tO K a), some (tO K b), some (tO K f), some (tO K g), some (tO K u), some (tO K v), none, none, none, none, none, none]) (st_unp3 (i1 := 3) (i2 := 4) (i3 := 5) rfl sc_law_pair_right.nd rfl rfl rfl rfl rfl rfl (et_call (Pr.dvs B) (hr.mono (by omega)) rfl B.F.g_step_divisor B.F.k_step_divisor (at_two (vr 0 rfl rfl rfl rfl rfl) (vr 1 rfl rfl rfl rfl rfl)) rfl rfl rfl) rfl (Sub.refl _) rfl rfl rfl rfl rfl rfl rfl rfl) ?_
  refine bt_cons (Δ := [some (tO K a), some (tO K b), some (tO K f), some (tO K g), none, none, none, none, none, none, none, none]) (st_ifF (WT_.tt (or_ff (tt_neO B Pr.e1 (hr.mono (by omega)) (et_oa B (hr.mono (by omega)) Pr.zua Pr.zvb (et_om B (hr.mono (by omega)) Pr.mua (vr 4 rfl rfl rfl rfl rfl) (vr 0 rfl rfl rfl rfl rfl)) (et_om B (hr.mono (by omega)) Pr.mvb (vr 5 rfl rfl rfl rfl rfl) (vr 1 rfl rfl rfl rfl rfl))) (vr 3 rfl rfl rfl rfl rfl))
    (or_ff (tt_neF B Pr.gl (hr.mono (by omega)) (et_meth0 (w_Slead B g.row (Ow.ne_row Pr.g0)) B.F.cl_Steps B.F.me_Steps_leading (hr.mono (by omega)) (vr 3 rfl rfl rfl rfl rfl) (noS rfl) rfl) (et_one1 B (hr.mono (by omega)) (by exact rfl) (by exact rfl)))
    (or_ff (tt_notT (tt_val (ET.imp (et_call (w_law_divides B Pr.ga.choose_spec) (hr.mono (by omega)) rfl B.F.g_law_divides B.F.k_law_divides (at_two (vr 3 rfl rfl rfl rfl rfl) (vr 0 rfl rfl rfl rfl rfl)) rfl rfl rfl) (tB_of rfl))))
    (or_ff (tt_notT (tt_val (ET.imp (et_call (w_law_divides B Pr.gb.choose_spec) (hr.mono (by omega)) rfl B.F.g_law_divides B.F.k_law_divides (at_two (vr 3 rfl rfl rfl rfl rfl) (vr 1 rfl rfl rfl rfl rfl)) rfl rfl rfl) (tB_of rfl))))
    (or_one (tt_notT (tt_val (ET.imp (et_call (w_law_divides B Pr.gf.choose_spec) (hr.mono (by omega)) rfl B.F.g_law_divides B.F.k_law_divides (at_two (vr 2 rfl rfl rfl rfl rfl) (vr 3 rfl rfl rfl rfl rfl)) rfl rfl rfl) (tB_of rfl)))))))))) (bt_nil rfl (sub_eq (sub_eq (sub_eq (sub_eq (sub_no (sub_no (sub_eq (sub_eq (sub_eq (sub_eq (sub_eq (sub_eq sub_nil)))))))))))))) ?_
  refine bt_cons (Δ := [some (tO K a), some (tO K b), some (tO K f), some (tO K g), none, none, some (tO K m), some (tO K s), some (tO K t), none, none, none]) (st_unp3 (i1 := 6) (i2 := 7) (i3 := 8) rfl sc_law_pair_right.nd rfl rfl rfl rfl rfl rfl (et_call (Pr.mlt B) (hr.mono (by omega)) rfl B.F.g_step_multiple B.F.k_step_multiple (at_two (vr 0 rfl rfl rfl rfl rfl) (vr 1 rfl rfl rfl rfl rfl)) rfl rfl rfl) rfl (Sub.refl _) rfl rfl rfl rfl rfl rfl rfl rfl) ?_
  have eo : ((m.row.length : Nat) : Int) - 1 = ((a.row.length : Nat) : Int) - 1 + (((b.row.length : Nat) : Int) - 1) - (((g.row.length : Nat) : Int) - 1) := by
    have h1 : m.row.length + g.row.length = a.row.length + b.row.length := Pr.ord
    omega
  refine bt_cons (Δ := GQ K a b f g m) (st_ifF (WT_.tt (or_ff (tt_neO B Pr.e2 (hr.mono (by omega)) (et_om B (hr.mono (by omega)) Pr.msa (vr 7 rfl rfl rfl rfl rfl) (vr 0 rfl rfl rfl rfl rfl)) (vr 6 rfl rfl rfl rfl rfl))
    (or_ff (tt_neO B Pr.e3 (hr.mono (by omega)) (et_om B (hr.mono (by omega)) Pr.mtb (vr 8 rfl rfl rfl rfl rfl) (vr 1 rfl rfl rfl rfl rfl)) (vr 6 rfl rfl rfl rfl rfl))
    (or_ff (tt_neF B Pr.ml (hr.mono (by omega)) (et_meth0 (w_Slead B m.row (Ow.ne_row Pr.m0)) B.F.cl_Steps B.F.me_Steps_leading (hr.mono (by omega)) (vr 6 rfl rfl rfl rfl rfl) (noS rfl) rfl) (et_one1 B (hr.mono (by omega)) (by exact rfl) (by exact rfl)))
    (or_one (tt_neZ eo (et_meth0 (w_Sorder B m.row) B.F.cl_Steps B.F.me_Steps_order (hr.mono (by omega)) (vr 6 rfl rfl rfl rfl rfl) (noS rfl) rfl) (et_sub (et_add (et_meth0 (w_Sorder B a.row) B.F.cl_Steps B.F.me_Steps_order (hr.mono (by omega)) (vr 0 rfl rfl rfl rfl rfl) (noS rfl) rfl) (et_meth0 (w_Sorder B b.row) B.F.cl_Steps B.F.me_Steps_order (hr.mono (by omega)) (vr 1 rfl rfl rfl rfl rfl) (noS rfl) rfl)) (et_meth0 (w_Sorder B g.row) B.F.cl_Steps B.F.me_Steps_order (hr.mono (by omega)) (vr 3 rfl rfl rfl rfl rfl) (noS rfl) rfl)))))))) (bt_nil rfl (sub_eq (sub_eq (sub_eq (sub_eq (sub_eq (sub_eq (sub_eq (sub_no (sub_no (sub_eq (sub_eq (sub_eq sub_nil)))))))))))))) ?_
  refine bt_cons (Δ := GQ K a b f g m) (st_ifF (tt_neO B rfl (hr.mono (by omega)) (et_call (Pr.sum B) (hr.mono (by omega)) rfl B.F.g_steps_of_sum B.F.k_steps_of_sum (at_two (vr 0 rfl rfl rfl rfl rfl) (vr 1 rfl rfl rfl rfl rfl)) rfl rfl rfl) (vr 6 rfl rfl rfl rfl rfl)) (bt_nil rfl (Sub.refl _))) ?_
  refine bt_cons (Δ := GQ K a b f g m) ?_ (bt_last (st_ret et_bl rfl))
  have stp : ∀ x y : Ow, Stb [] (tT K [tO K x, tO K y]) := fun x y => stb_T (fun R hR => by
    rcases List.mem_cons.mp hR with rfl | hR
    · exact sol_S []
    · rw [List.mem_singleton.mp hR]; exact sol_S [])
  refine st_for2 (i := 9) (j := 10) (n := 6) (Rf := fun i => tO K ([a, m, m, a, b, a].getD i Ow.Z)) (Sf := fun i => tO K ([g, a, b, b, a, f].getD i Ow.Z)) (fun _ => GQ K a b f g m) (it_tup (m := []) (K := K) (Rs := [tT K [tO K a, tO K g], tT K [tO K m, tO K a], tT K [tO K m, tO K b], tT K [tO K a, tO K b], tT K [tO K b, tO K a], tT K [tO K a, tO K f]]) (Rf := fun i => tT K [tO K ([a, m, m, a, b, a].getD i Ow.Z), tO K ([g, a, b, b, a, f].getD i Ow.Z)]) rfl
    (et_disT (at_cons (et_disT (at_two (vr 0 rfl rfl rfl rfl rfl) (vr 3 rfl rfl rfl rfl rfl)) (by simp [sizeLine])) (at_cons (et_disT (at_two (vr 6 rfl rfl rfl rfl rfl) (vr 0 rfl rfl rfl rfl rfl)) (by simp [sizeLine])) (at_cons (et_disT (at_two (vr 6 rfl rfl rfl rfl rfl) (vr 1 rfl rfl rfl rfl rfl)) (by simp [sizeLine])) (at_cons (et_disT (at_two (vr 0 rfl rfl rfl rfl rfl) (vr 1 rfl rfl rfl rfl rfl)) (by simp [sizeLine])) (at_two (et_disT (at_two (vr 1 rfl rfl rfl rfl rfl) (vr 0 rfl rfl rfl rfl rfl)) (by simp [sizeLine])) (et_disT (at_two (vr 0 rfl rfl rfl rfl rfl) (vr 2 rfl rfl rfl rfl rfl)) (by simp [sizeLine]))) rfl) rfl) rfl) rfl) (by simp [sizeLine])) (fun i hi => ?_) (fun R hR => ?_)) (Sub.refl _) (fun i hi => ?_) rfl (Sub.refl _) rfl PassesOwn.never sc_law_pair_right.nd rfl rfl rfl rfl rfl rfl rfl rfl (fun _ => rfl)
  · match i, hi with
    | 0, _ => rfl
    | 1, _ => rfl
    | 2, _ => rfl
    | 3, _ => rfl
    | 4, _ => rfl
    | 5, _ => rfl
  · simp only [List.mem_cons, List.not_mem_nil, or_false] at hR
    rcases hR with rfl | rfl | rfl | rfl | rfl | rfl <;> exact stp _ _
  · have t0 : [g, a, b, b, a, f].getD i Ow.Z ≠ Ow.Z := by
      match i, hi with
      | 0, _ => exact Pr.g0
      | 1, _ => exact Pr.a0
      | 2, _ => exact Pr.b0
      | 3, _ => exact Pr.b0
      | 4, _ => exact Pr.a0
      | 5, _ => exact Pr.f0
    exact pr_turn B hr t0 (Pr.prs i hi) rfl
/-- what raises ZeroDivisor -/
theorem w_zd (B : Bs P K mg) {f : Addr} {j : Nat} (hj : j ≤ 60) {R S : Ty} {W : Option Addr → Hp → Prop} (F : FnX P w K mg base j f [R, S] (cZero K) W) (kp : PySem.W.keepIn K (.ref f) = true) : FnT P w K mg base 64 (fTop K "_law_zero_divisor") (spT [tV (.ref f), R, S] (tB true)) := by
  obtain ⟨fd', D⟩ := B.F.d_law_zero_divisor
  refine fnT_of (fn_ret D sc_law_zero_divisor rfl fun cdv A outer s H hr => ?_) (bi_law_zero_divisor D)
  refine bt_last (st_tryOnly rfl rfl ⟨rfl, by decide, .inl B.F.g_ZeroDivisor⟩ B.F.em_ZeroDivisor (fun pn xe => xt_callL (i := 0) F (hr.mono (by omega)) rfl (.inl rfl) kp rfl (at_two (vr 1 rfl rfl rfl rfl rfl) (vr 2 rfl rfl rfl rfl rfl)) rfl rfl rfl rfl) fun a pn => bt_last (st_ret et_bl rfl))
end
end SLT
set_option maxRecDepth 100000
set_option maxHeartbeats 1000000
set_option exponentiation.threshold 100
namespace SLT
open PySem PySem.Spec PyProof.Rows L2 SL SW
open Lean.Grind
def pV (s : Sd) (n : Nat) : Pol := Pol.of (polV s n)
noncomputable def pO (s : Sd) (n : Nat) : Pol := if (pV s n).row.length = 0 then Pol.C 1 else pV s n
theorem pV_H (s : Sd) {n : Nat} (hn : n ≤ 2) : Hq 2 (2 ^ 3) (pV s n) ∧ (pV s n).len ≤ 2 := by
  refine ⟨fun i => ?_, Nat.le_trans (Pol.len_of_le _) (by simp [polV]; exact hn)⟩
  unfold pV
  rw [Pol.co_of]
  unfold polV
  rw [List.getD_eq_getElem?_getD, List.getElem?_map]
  by_cases h : i < n
  · rw [List.getElem?_range h]; exact qV_2 _
  · rw [List.getElem?_eq_none (by simpa using h)]
    show Ib _ ((0 : Rat) * _)
    rw [Rat.zero_mul]; exact Ib.zero
theorem C1_H2 : Hq 2 (2 ^ 3) (Pol.C 1) ∧ (Pol.C 1).len ≤ 2 := by
  refine ⟨fun i => ?_, Nat.le_trans (Pol.len_of_le [1]) (by decide)⟩
  rw [Pol.co_C]
  split
  · exact ⟨2, by simp, by decide⟩
  · rw [Rat.zero_mul]; exact Ib.zero
theorem pO_H (s : Sd) {n : Nat} (hn : n ≤ 2) : Hq 2 (2 ^ 3) (pO s n) ∧ (pO s n).len ≤ 2 := by
  unfold pO
  split
  · exact C1_H2
  · exact pV_H s hn
theorem pO_ne (s : Sd) (n : Nat) : pO s n ≠ 0 := by
  unfold pO
  split
  · exact C1_ne
  · rename_i h
    exact fun z => h ((Pol.len_zero_iff _).mpr z)
theorem ofP_Cd {p : Pol} (h : Hq 2 (2 ^ 3) p ∧ p.len ≤ 2) : Cd (Pol.C 2) 1 3 (KF.ofP p) := ⟨Pol.C 2 * p, Hq.two h.1, Nat.le_trans (Pol.len_Cmul_le _ _) h.2, by rw [ofP_mul, pcomm]⟩
theorem C2_Dn : Dn (Pol.C 2) 0 3 := ⟨C2_ne, fun i => by
  rw [Pol.co_C]
  split
  · exact ⟨2, by simp, by decide⟩
  · rw [Rat.zero_mul]; exact Ib.zero, Nat.le_trans (Pol.len_of_le [2]) (by decide)⟩
theorem ofP_Cx1 {p : Pol} (h : Hq 2 (2 ^ 3) p ∧ p.len ≤ 2) : Cx1 0 1 4 (KF.ofP p) := ⟨_, C2_Dn.mono (by decide) (by decide), (ofP_Cd h).mono (by decide) (by decide)⟩
theorem ofP_rf {p : Pol} (h : Hq 2 (2 ^ 3) p ∧ p.len ≤ 2) : RfR p (Pol.C 1) (frK (KF.ofP p)) := by
  have h8 : (2 : Nat) ≤ 2 ^ 4550 := Nat.le_trans (by decide : 2 ≤ 2 ^ 1) (Nat.pow_le_pow_right (by decide) (by decide))
  refine rfRK (N := p) (D := Pol.C 1) (LN := 2) (LD := 1) C1_ne (KF.eq_iff.mpr (by rw [Pol.C_one])) (((ofP_Cx1 h).rpg (m := 2) (by decide) (by decide)).mono (by decide) (by decide)) (by decide) (by decide) h8 Nat.one_le_two_pow (h.1.up2 (by decide)) (Hq_C1 (h := 4550)) ?_ (Nat.le_trans (Pol.len_of_le [1]) (by decide))
  have := h.2; omega
def opn (s : Sd) : Nat := (1 + takeV s 2).toNat
def opT (s : Sd) : Sd := iter qS (takeS s 2) (opn s)
def opP (s : Sd) : Pol := pV (takeS s 2) (opn s)
noncomputable def opO (s : Sd) : Pol := pO (takeS s 2) (opn s)
noncomputable def opPs (s : Sd) (n : Nat) : List Pol := (List.range n).map (fun i => opP (iter opT s i)) ++ [opO (iter opT s n)]
noncomputable def opV (s : Sd) (n : Nat) : List KF := (opPs s n).map KF.ofP
def opS (s : Sd) (n : Nat) : Sd := opT (iter opT s n)
theorem opn_le (s : Sd) : opn s ≤ 2 ∧ ((opn s : Nat) : Int) = 1 + takeV s 2 := by
  have := takeV_lt s (m := 2) (by decide)
  unfold opn
  omega
theorem opT_ok {s : Sd} (h : SOk s) : SOk (opT s) := iter_ok (fun _ h => qS_ok h) (takeS_ok h 2) _
theorem opS_ok {s : Sd} (h : SOk s) (n : Nat) : SOk (opS s n) := opT_ok (iter_ok (fun _ h => opT_ok h) h n)
theorem opPs_len (s : Sd) (n : Nat) : (opPs s n).length = n + 1 := by simp [opPs]
theorem opPs_H (s : Sd) (n : Nat) : ∀ p ∈ opPs s n, Hq 2 (2 ^ 3) p ∧ p.len ≤ 2 := fun p hp => by
  rcases List.mem_append.mp hp with h | h
  · obtain ⟨i, _, rfl⟩ := List.mem_map.mp h
    exact pV_H _ (opn_le _).1
  · rw [List.mem_singleton.mp h]; exact pO_H _ (opn_le _).1
theorem opV_len (s : Sd) (n : Nat) : (opV s n).length = n + 1 := by unfold opV; rw [List.length_map, opPs_len]
theorem opV_trim (s : Sd) (n : Nat) : trimQ (opV s n) = opV s n := by
  unfold opV opPs
  rw [List.map_append]
  exact trimQ_snoc _ (ofP_ne (pO_ne _ _))
theorem opV_CL (s : Sd) (n : Nat) : CLx 0 1 4 (opV s n) := ⟨Pol.C 2, C2_Dn.mono (by decide) (by decide), fun i => by
  by_cases h : i < (opV s n).length
  · have hl : i < (opPs s n).length := by unfold opV at h; rwa [List.length_map] at h
    have e : co (opV s n) i = KF.ofP ((opPs s n)[i]) := by
      unfold co opV
      rw [List.getD_eq_getElem?_getD, List.getElem?_map, List.getElem?_eq_getElem hl]; rfl
    rw [e]
    exact (ofP_Cd (opPs_H s n _ (List.getElem_mem hl))).mono (by decide) (by decide)
  · rw [co_ge (by omega)]; exact Cd.zero⟩
/-- the drawn operator -/
noncomputable def opW (s : Sd) (n : Nat) : Ow := ⟨opV s n, by rw [← opV_trim]; exact trimQ_Tr _⟩
theorem opW_oc (s : Sd) (n : Nat) : OC 0 1 4 (opW s n) := opV_CL s n
theorem opW_len (s : Sd) (n : Nat) : (opW s n).len = n + 1 := opV_len s n
theorem opW_ne (s : Sd) (n : Nat) : opW s n ≠ Ow.Z := fun z => by
  have := opW_len s n
  rw [z, Ow.len_Z] at this
  omega
section
variable {P : Program} {w : World} {K : PySem.W.Frag} {mg : Str → Option Value} {base : Heap} {k : Nat}
theorem w_law_pol_other (B : Bs P K mg) (D : Addr) (s : Sd) (hs : SOk s) (n : Nat) (hn : n ≤ 100) : FnT P w K mg base 46 (fTop K "_law_pol_other") (spM D s (iter qS s n) [tV (.ref D), tI (n : Nat)] (tP K (pO s n).row)) := by
  obtain ⟨fd', DD⟩ := B.F.d_law_pol_other
  refine fnT_of (fn_retM DD sc_law_pol_other rfl fun cdv A outer sh H hr => ?_) (bi_law_pol_other DD)
  have hΓ : StbC [D] ((ini N_law_pol_other [tSt D s, tI (n : Nat)]).set 0 (some (tV (.ref D)))) := stbc_s (sol_V _) (stbc_s (sol_I _) (stbc_n stbc_nil))
  refine bt_cons (Δ := [some (tSt D (iter qS s n)), none, some (tP K (pV s n).row)]) (st_setM (i := 2) (j := 0) (R := tP K (pV s n).row) (s1 := iter qS s n) rfl hΓ sc_law_pol_other.nd rfl (.inl rfl) (em_call hΓ (w_law_pol B D s hs n hn) (hr.mono (by omega)) rfl B.F.g_law_pol B.F.k_law_pol (am_two hΓ (em_of (vr 0 rfl rfl rfl rfl rfl)) (sol_V _) (em_of (vr 1 rfl rfl rfl rfl rfl)))) (List.mem_singleton.mpr rfl) rfl (sub_eq (sub_no (sub_eq sub_nil))) (.inl rfl)) ?_
  refine bt_last (st_retM (j := 0) (s1 := iter qS s n) rfl ?_ (List.mem_singleton.mpr rfl) rfl)
  by_cases h : (pV s n).row.length = 0
  · have e : pO s n = Pol.C 1 := by unfold pO; rw [if_pos h]
    rw [e]
    exact em_of (et_ifT (tt_val (ET.imp (et_meth0 (w_Pis0 B (pV s n).row) B.F.cl_Poly B.F.me_Poly_is_zero (hr.mono (by omega)) (vr 2 rfl rfl rfl rfl rfl) (noP rfl) rfl) (tB_of (decide_eq_true h)))) (et_P1 B (hr.mono (by omega)) rfl))
  · have e : pO s n = pV s n := by unfold pO; rw [if_neg h]
    rw [e]
    exact em_of (et_ifF (tt_val (ET.imp (et_meth0 (w_Pis0 B (pV s n).row) B.F.cl_Poly B.F.me_Poly_is_zero (hr.mono (by omega)) (vr 2 rfl rfl rfl rfl rfl) (noP rfl) rfl) (tB_of (decide_eq_false h)))) (vr 2 rfl rfl rfl rfl rfl))
def tPs (K : PySem.W.Frag) (l : List Pol) : List Ty := l.map fun p => tP K p.row
theorem sol_Ps {l : List Pol} : ∀ R ∈ tPs K l, Sol R := fun R h => by
  obtain ⟨q, _, rfl⟩ := List.mem_map.mp h
  exact sol_P
theorem w_law_step_op (B : Bs P K mg) (D : Addr) (s : Sd) (hs : SOk s) (n : Nat) (hn : n ≤ 100) : FnT P w K mg base 66 (fTop K "_law_step_op") (spM D s (opS s n) [tV (.ref D), tI (n : Nat), tI 2] (tO K (opW s n))) := by
  obtain ⟨fd', DD⟩ := B.F.d_law_step_op
  refine fnT_of (fn_retM DD sc_law_step_op rfl fun cdv A outer sh H hr => ?_) (bi_law_step_op DD)
  have hok := iter_ok (fun _ h => opT_ok h) hs
  have hΓ : StbC [D] ((ini N_law_step_op [tSt D s, tI (n : Nat), tI 2]).set 0 (some (tV (.ref D)))) := stbc_s (sol_V _) (stbc_s (sol_I _) (stbc_s (sol_I _) (stbc_n (stbc_n (stbc_n stbc_nil)))))
  refine bt_cons (Δ := [some (tSt D (opS s n)), none, none, some (tLn [] (tPs K (opPs s n))), none, none]) (st_setM (i := 3) (j := 0) (R := tLn [] (tPs K (opPs s n))) (s1 := opS s n) rfl hΓ sc_law_step_op.nd rfl (.inl rfl) ?_ (List.mem_singleton.mpr rfl) rfl (sub_eq (sub_no (sub_no (sub_eq (sub_eq (sub_eq sub_nil)))))) (.inl rfl)) ?_
  · have e : (List.range n).map (fun i => tP K (opP (iter opT s i)).row) ++ [tP K (opO (iter opT s n)).row] = tPs K (opPs s n) := by unfold tPs opPs; rw [List.map_append, List.map_map]; rfl
    rw [← e]
    refine em_cat hΓ (Rs := (List.range n).map fun i => tP K (opP (iter opT s i)).row) (Ss := [tP K (opO (iter opT s n)).row]) (by simp [sizeLine]; omega) (em_lc (ss := iter opT s) (Rf := fun i => tI (i : Nat)) (Sf := fun i => tP K (opP (iter opT s i)).row) (j := 4) (n := n) rfl sc_law_step_op.nd hΓ (it_rangeN rfl B.F.b_range (vr 1 rfl rfl rfl rfl rfl) rfl (by omega)) (blkOk_by (N := N_law_step_op) (sc := d_law_step_op.scope) (by decide +kernel)) (by show 4 < 6; decide) (pgB sc_law_step_op.nd rfl fun _ _ => rfl) (fun i hi s2 H2 C2 cl fp => ?_) (fun i hi => sol_P) (by omega)) (fun R hR => ?_) (EM.imp (em_disp (Rs := [tP K (opO (iter opT s n)).row]) (am_one hΓ ?_) hΓ (by simp [sizeLine])) fun v H h => tLn_un (fun a h => by cases h) v H h)
    · have hΓ2 : StbC [D] (((ini N_law_step_op [tSt D s, tI (n : Nat), tI 2]).set 0 (some (tV (.ref D)))).set 4 (some (tI (i : Nat)))) := stbc_s (sol_V _) (stbc_s (sol_I _) (stbc_s (sol_I _) (stbc_n (stbc_s (sol_I _) (stbc_n stbc_nil)))))
      have ho := opn_le (iter opT s i)
      refine em_call hΓ2 (w_law_pol B D (takeS (iter opT s i) 2) (takeS_ok (hok i) 2) (opn (iter opT s i)) (by omega)) (hr.mono (by omega)) rfl B.F.g_law_pol B.F.k_law_pol (am_two hΓ2 (em_of (vc 0 rfl rfl rfl rfl rfl)) (sol_V _) (EM.cast (em_op hΓ2 op_add (em_of et_int) (sol_I _) (em_take B hΓ2 (hr.mono (by omega)) (by exact rfl) (hok i) (by decide) (vc 2 rfl rfl rfl rfl rfl) (vc 0 rfl rfl rfl rfl rfl)) (r_I0 (g := fun i j => i + j))) ?_))
      rw [ho.2]
    · obtain ⟨i, _, hi⟩ := List.mem_map.mp hR
      exact hi ▸ sol_P _
    · have ho := opn_le (iter opT s n)
      refine em_call hΓ (w_law_pol_other B D (takeS (iter opT s n) 2) (takeS_ok (hok n) 2) (opn (iter opT s n)) (by omega)) (hr.mono (by omega)) rfl B.F.g_law_pol_other B.F.k_law_pol_other (am_two hΓ (em_of (vc 0 rfl rfl rfl rfl rfl)) (sol_V _) (EM.cast (em_op hΓ op_add (em_of et_int) (sol_I _) (em_take B hΓ (hr.mono (by omega)) (by exact rfl) (hok n) (by decide) (vc 2 rfl rfl rfl rfl rfl) (vc 0 rfl rfl rfl rfl rfl)) (r_I0 (g := fun i j => i + j))) ?_))
      rw [ho.2]
  have hl : (opPs s n).length = n + 1 := opPs_len s n
  have hlt : (tPs K (opPs s n)).length = n + 1 := by unfold tPs; rw [List.length_map, hl]
  have e2 : tO K (opW s n) = tS K (trimQ (opV s n)) := by rw [opV_trim]; rfl
  rw [e2]
  refine bt_last (st_retM (j := 0) (s1 := opS s n) rfl (em_of (et_Steps B (opsK B _) (hr.mono (by omega)) (by rw [opV_len]; omega) rfl (ET.imp (EF.et (et_fq (n := (tPs K (opPs s n)).length) (f := fun i => (opV s n).getD i 0) (ef_lc (lc_one (Sf := fun i => tq K ((opV s n).getD i 0)) (j := 5) (it_lst (K := K) (Rf := fun i => tP K ((opPs s n).getD i 0).row) (vr 3 rfl rfl rfl rfl rfl) (fun i hi => ?_) fun R hR => sol_Ps R hR []) (blkOk_by (N := N_law_step_op) (sc := d_law_step_op.scope) (by decide +kernel)) (by show 5 < 6; decide) (pgB sc_law_step_op.nd rfl fun _ _ => rfl)
    (fun i hi s2 H2 C2 cl fp => ?_) (fun i hi => sol_F) (by omega)) rfl sc_law_step_op.nd) (by rw [opV_len, hlt]) (fun i hi => rfl))) tLn_S))) (List.mem_singleton.mpr rfl) rfl)
  · have hi' : i < (opPs s n).length := by omega
    unfold tPs
    rw [List.getElem?_map, List.getD_eq_getElem?_getD, List.getElem?_eq_getElem hi']; rfl
  · have hi' : i < (opPs s n).length := by omega
    have ev : (opV s n).getD i 0 = KF.ofP ((opPs s n).getD i 0) := by
      unfold opV
      rw [List.getD_eq_getElem?_getD, List.getD_eq_getElem?_getD, List.getElem?_map, List.getElem?_eq_getElem hi']; rfl
    rw [ev]
    refine et_call (w_of_poly B ((opPs s n).getD i 0) (frK (KF.ofP ((opPs s n).getD i 0))) (ofP_rf ?_)) (hr.mono (by omega)) rfl B.F.g_of_poly B.F.k_of_poly (at_one (vr 5 rfl rfl rfl rfl rfl)) rfl rfl rfl
    refine opPs_H s n _ ?_
    rw [List.getD_eq_getElem?_getD, List.getElem?_eq_getElem hi']; exact List.getElem_mem hi'
end
end SLT
set_option maxRecDepth 100000
set_option maxHeartbeats 1000000
set_option exponentiation.threshold 100
namespace SLT
open PySem PySem.Spec PyProof.Rows L2 SL SW
open Lean.Grind
section
variable {y z f : KF} {a b F p q : Ow}
/-- S - f -/
noncomputable def ratO (f : KF) : Ow := Ow.of [-f, 1]
noncomputable def annO (y : KF) : Ow := ratO (KF.sh 1 y / y)
theorem ratO_row (f : KF) : (ratO f).row = [-f, 1] := trm2
theorem ratO_len (f : KF) : (ratO f).len = 2 := by show (ratO f).row.length = 2; rw [ratO_row]; rfl
theorem ratO_ne (f : KF) : ratO f ≠ Ow.Z := fun h => by
  have := ratO_len f
  rw [h, Ow.len_Z] at this
  omega
theorem ratO_lead (f : KF) : (ratO f).lead = 1 := by
  show leadQ (ratO f).row = 1
  rw [ratO_row]; rfl
theorem ratO_oc {d n h : Nat} (c : Cx1 d n h f) (hd : d ≤ 100) : OC d (max n d) h (ratO f) := CLx.trim (Cx1.list2 c.neg hd)
theorem sh_Cx1 (c : Cx1 1 2 3 y) : Cx1 1 2 12 (KF.sh 1 y) := Cx1.sh (k := 1) (by decide) c 12 (by decide) (by decide)
theorem quo_Cx1 (c : Cx1 1 2 3 y) (y0 : y ≠ 0) : Cx1 3 3 22 (KF.sh 1 y / y) := by
  rw [Field.div_eq_mul_inv]
  exact (Cx1.mul (sh_Cx1 c) (c.inv y0) (by decide) (by decide)).mono (by decide) (by decide) (by decide)
theorem annO_oc (c : Cx1 1 2 3 y) (y0 : y ≠ 0) : OC 3 3 22 (annO y) := (ratO_oc (quo_Cx1 c y0) (by decide)).mono (by decide) (by decide) (by decide)
theorem act_ann (y0 : y ≠ 0) : actQ (annO y).row y = 0 := by
  show actQ (trimQ [-(KF.sh 1 y / y), 1]) y = 0
  rw [act2, Field.div_eq_mul_inv]
  have := mul_inv y0
  grind
theorem act_0 (l : List KF) : actQ l 0 = 0 := by
  rw [actQ_su l 0 (Nat.le_refl _)]
  exact su_zero fun i _ => by rw [KF.sh_zero]; grind
theorem act_Ow (a b : Ow) (y : KF) : actQ (a * b).row y = actQ a.row (actQ b.row y) := by
  rw [Ow.mul_row, act_trim, act_mul]
theorem len1_C (h : a.len = 1) : a = Ow.C a.lead := Ow.ext_co fun i => by
  rw [Ow.co_C]
  by_cases e : i = 0
  · rw [if_pos e, e, Ow.lead_co, h]
  · rw [if_neg e]; exact co_ge (by show a.len ≤ i; omega)
/-- the least common multiple of two annihilators -/
theorem both_ok (cy : Cx1 1 2 3 y) (y0 : y ≠ 0) (cz : Cx1 1 2 3 z) (z0 : z ≠ 0) : ∃ (T : Nat) (A U V Qs : Nat → Ow) (bo : Ow), EuB (annO y) (annO z) T A U V Qs ∧ MuB (annO y) (U (T + 1)) (V (T + 1)) ∧ bo = Ow.sc (U (T + 1) * annO y).lead⁻¹ (U (T + 1) * annO y) ∧ ActB Sz bo.row y ∧ actQ bo.row y = 0 ∧ bo.len ≤ 3 ∧ (bo.len = 2 ↔ annO y = annO z) := by
  have ca := annO_oc cy y0
  have cb := annO_oc cz z0
  have la : (annO y).len = 2 := ratO_len _
  have lb : (annO z).len = 2 := ratO_len _
  have a0 : annO y ≠ Ow.Z := ratO_ne _
  have b0 : annO z ≠ Ow.Z := ratO_ne _
  obtain ⟨T, A, U, V, Qs, H, E⟩ := eu_4 ca cb OC.one a0 b0 Ow.one_ne (by omega) (by omega) (by rw [Ow.len_one]; omega) (by omega)
  rw [Ow.mul_one, Ow.mul_one] at H E
  obtain ⟨M, n0, cM, cm, cs, ct⟩ := mu_4 (ca.mono (by decide) (by decide) (by decide)) (cb.mono (by decide) (by decide) (by decide)) a0 b0 (by omega) (by omega) E
  have hl := Ow.lead_ne' n0
  have hi : (U (T + 1) * annO y).lead⁻¹ ≠ 0 := fun z => by
    have := mul_inv hl
    rw [z] at this
    exact kf_ne (by rw [← this]; grind)
  have lS := E.lS
  have lM := Ow.len_mul E.S0 a0
  have lsc := Ow.len_sc hi (U (T + 1) * annO y)
  refine ⟨T, A, U, V, Qs, _, H, M, rfl, ?_, ?_, by omega, ?_⟩
  · exact (CLx.act cm cy (m := 2) (by show Ow.len _ ≤ 3; omega) (by decide) ⟨by decide, by decide, by decide, by decide⟩ (by decide) (by decide)).1
  · rw [← Ow.sc_mul, act_Ow, act_ann y0, act_0]
  · have ho := E.ord
    have hG := Ow.len_pos E.G0
    constructor
    · intro h
      have hG2 : (A T).len = 2 := by omega
      obtain ⟨x1, e1⟩ := E.xa
      obtain ⟨x2, e2⟩ := E.xb
      have n1 : x1 ≠ Ow.Z := fun z => a0 (by rw [e1, z, Ow.Z_mul])
      have n2 : x2 ≠ Ow.Z := fun z => b0 (by rw [e2, z, Ow.Z_mul])
      have k1 := Ow.len_mul n1 E.G0
      have k2 := Ow.len_mul n2 E.G0
      rw [← e1] at k1
      rw [← e2] at k2
      have f1 := len1_C (a := x1) (by omega)
      have f2 := len1_C (a := x2) (by omega)
      rw [f1, Ow.C_mul] at e1
      rw [f2, Ow.C_mul] at e2
      have g1 := congrArg Ow.lead e1
      have g2 := congrArg Ow.lead e2
      rw [Ow.lead_sc (Ow.lead_ne' n1)] at g1
      rw [Ow.lead_sc (Ow.lead_ne' n2)] at g2
      have h1 : (annO y).lead = 1 := ratO_lead _
      have h2 : (annO z).lead = 1 := ratO_lead _
      rw [h1] at g1
      rw [h2] at g2
      have i0 := mul_inv (Ow.lead_ne' E.G0)
      have : x1.lead = x2.lead := by grind
      rw [e1, e2, this]
    · intro h
      have e1 := E.e1
      rw [← h, ← Ow.add_mul] at e1
      have w0 : U T + V T ≠ Ow.Z := fun z => E.G0 (by rw [← e1, z, Ow.Z_mul])
      have k1 := Ow.len_mul w0 a0
      rw [e1] at k1
      have w1 := Ow.len_pos w0
      obtain ⟨x1, e2⟩ := E.xa
      have n1 : x1 ≠ Ow.Z := fun z => a0 (by rw [e2, z, Ow.Z_mul])
      have k2 := Ow.len_mul n1 E.G0
      rw [← e2] at k2
      have w2 := Ow.len_pos n1
      omega
structure Lx (F p q : Ow) (y z : KF) : Prop where
  cF : OC 3 3 22 F
  F0 : F ≠ Ow.Z
  lF : F.len ≤ 2
  cp : OC 0 1 4 p
  p0 : p ≠ Ow.Z
  lp : p.len ≤ 2
  cq : OC 0 1 4 q
  q0 : q ≠ Ow.Z
  lq : q.len ≤ 2
  cy : Cx1 1 2 3 y
  y0 : y ≠ 0
  cz : Cx1 1 2 3 z
  z0 : z ≠ 0
namespace Lx
variable (L : Lx F p q y z)
include L
theorem mF : ∀ {o : Ow}, OC 0 1 4 o → o.len ≤ 2 → MO o F ∧ OC 6 7 95 (o * F) := fun {o} c l => by
  have lF := L.lF
  have h := OC.mul (m := 1) c L.cF l (by omega) (by decide) (by decide) (by decide) (by decide) (by decide)
  exact ⟨h.1, h.2.mono (by decide) (by decide) (by decide)⟩
theorem pr_a : ∃ g u v m s t, PairB (p * F) (q * F) F g u v m s t := by
  have := Ow.len_pos L.q0
  have lp := L.lp
  exact pair_1 L.cp L.cq L.cF L.p0 L.q0 L.F0 L.lp L.lq L.lF (by omega)
theorem pr_b : ∃ g u v m s t, PairB p q (Ow.C 1) g u v m s t := by
  have := Ow.len_pos L.q0
  have lp := L.lp
  have h := pair_1 (F := Ow.C 1) L.cp L.cq (OC.one.mono (by decide) (by decide) (by decide)) L.p0 L.q0 Ow.one_ne L.lp L.lq (by rw [Ow.len_one]; decide) (by omega)
  rwa [Ow.mul_one, Ow.mul_one] at h
theorem pr_c : ∃ g u v m s t, PairB (p * F) (p * F) (p * F) g u v m s t := by
  have h0 := Ow.mul_ne L.p0 L.F0
  have hl := Ow.len_mul L.p0 L.F0
  have lp := L.lp
  have lF := L.lF
  have h := pair_3 (p := Ow.C 1) (q := Ow.C 1) OC.one OC.one (L.mF L.cp L.lp).2 Ow.one_ne Ow.one_ne h0 (by rw [Ow.len_one]; decide) (by rw [Ow.len_one]; decide) (by omega) (by omega)
  rwa [Ow.one_mul] at h
theorem zF : ZO F := L.cF.zo (by have := L.lF; omega) (by decide) (by decide) (by decide)
theorem dv0 : DvO Ow.Z F Ow.Z Ow.Z := by
  have h1 := Ow.len_pos L.F0
  have lF := L.lF
  exact dv_at (k := 0) OC.zero L.cF L.F0 (by rw [Ow.len_Z]; omega) (by omega) (by rw [Ow.len_Z]; omega) (by decide) (by decide) (by decide) (by decide) (by decide) (by decide) (by rw [Ow.Z_mul, Ow.add_Z]) h1
omit L in
theorem eu0 (a : Ow) : EuB a Ow.Z 0 (lk [a, Ow.Z]) (lk [Ow.C 1, Ow.Z]) (lk [Ow.Z, Ow.C 1]) (lk []) where
  a0 := rfl
  a1 := rfl
  u0 := rfl
  u1 := rfl
  v0 := rfl
  v1 := rfl
  nz t ht := absurd ht (Nat.not_lt_zero _)
  dv t ht := absurd ht (Nat.not_lt_zero _)
  su t ht := absurd ht (Nat.not_lt_zero _)
  sv t ht := absurd ht (Nat.not_lt_zero _)
  fin := rfl
theorem Fl : Sz F.lead ∧ Sz F.lead⁻¹ := ⟨L.cF.lead.sz1 (by decide) (by decide) (by decide), (L.cF.lead.inv (Ow.lead_ne' L.F0)).sz1 (by decide) (by decide) (by decide)⟩
omit L in
theorem zo1 : ZO (Ow.C 1) ∧ ZO Ow.Z := ⟨OC.one.zo (by rw [Ow.len_one]; decide) (by decide) (by decide) (by decide), OC.zero.zo (by rw [Ow.len_Z]; decide) (by decide) (by decide) (by decide)⟩
end Lx
/-- the four factors -/
noncomputable def facs (s1 s2 s3 : Sd) : List Ow := [Ow.C 1, ratO (KF.ofP (pO s1 2)), annO (otherV s2), opW s3 1]
theorem facs_ok (s1 s2 s3 : Sd) : ∀ F ∈ facs s1 s2 s3, OC 3 3 22 F ∧ F ≠ Ow.Z ∧ F.len ≤ 2 := fun F hF => by
  unfold facs at hF
  simp only [List.mem_cons, List.not_mem_nil, or_false] at hF
  rcases hF with rfl | rfl | rfl | rfl
  · exact ⟨OC.one.mono (by decide) (by decide) (by decide), Ow.one_ne, by rw [Ow.len_one]; decide⟩
  · exact ⟨(ratO_oc (ofP_Cx1 (pO_H _ (by decide))) (by decide)).mono (by decide) (by decide) (by decide), ratO_ne _, by rw [ratO_len]; decide⟩
  · exact ⟨annO_oc (other_Dr _) (otherV_ne _), ratO_ne _, by show (ratO _).len ≤ 2; rw [ratO_len]; decide⟩
  · exact ⟨(opW_oc _ _).mono (by decide) (by decide) (by decide), opW_ne _ _, by rw [opW_len]; decide⟩
end
end SLT
set_option exponentiation.threshold 256
set_option maxRecDepth 100000
set_option maxHeartbeats 1000000
namespace SLT
open PySem PySem.Spec PyProof.Rows L2 SL SW
section
variable {P : Program} {w : World} {K : PySem.W.Frag} {mg : Str → Option Value} {base : Heap} {cdv : Value} {A : Around} {outer : List Env} {sh : Shared} {H : Hp} {D : Addr} {s : Sd} {F p q : Ow} {y z : KF} {k : Nat}
noncomputable abbrev H4 (K : PySem.W.Frag) (D : Addr) (s : Sd) (F p q : Ow) : Cxt := [none, some (tSt D s), some (tO K (Ow.C 1)), some (tO K F), some (tO K p), some (tO K q), none, none, none, none, none]
/-- with the two annihilators -/
noncomputable abbrev H7 (K : PySem.W.Frag) (D : Addr) (s : Sd) (F : Ow) (y z : KF) : Cxt := [none, some (tSt D s), none, some (tO K F), none, none, some (tO K Ow.Z), some (tq K y), some (tO K (annO y)), some (tO K (annO z)), none]
noncomputable abbrev H8 (K : PySem.W.Frag) (D : Addr) (s : Sd) (F : Ow) (y z : KF) (bo : Ow) : Cxt := [none, some (tSt D s), none, some (tO K F), none, none, some (tO K Ow.Z), some (tq K y), some (tO K (annO y)), some (tO K (annO z)), some (tO K bo)]
noncomputable abbrev H9 (K : PySem.W.Frag) (D : Addr) (s : Sd) (F : Ow) : Cxt := [none, some (tSt D s), none, some (tO K F), none, none, some (tO K Ow.Z), none, none, none, none]
variable (B : Bs P K mg) (L : Lx F p q y z) (hr : Room 92 (A.deeper (envOfC d_law.qual d_law.scope sh.heap.objs.size (fTop K "law") cdv)))
include B L hr
theorem t_4 : ST (LX P w K mg base cdv A outer sh H) (H4 K D s F p q) (lawSt 4) (LT D (H4 K D s F p q)) := by
  obtain ⟨g1, u1, v1, m1, s1, t1, r1⟩ := L.pr_a
  obtain ⟨g2, u2, v2, m2, s2, t2, r2⟩ := L.pr_b
  exact st_ifF (WT_.tt (or_ff (tt_notT (tt_val (et_call (w_law_pair B r1) (hr.mono (by omega)) rfl B.F.g_law_pair_right B.F.k_law_pair_right (at_cons (et_om B (hr.mono (by omega)) (L.mF L.cp L.lp).1 (vr 4 rfl rfl rfl rfl rfl) (vr 3 rfl rfl rfl rfl rfl)) (at_two (et_om B (hr.mono (by omega)) (L.mF L.cq L.lq).1 (vr 5 rfl rfl rfl rfl rfl) (vr 3 rfl rfl rfl rfl rfl)) (vr 3 rfl rfl rfl rfl rfl)) rfl) rfl rfl rfl)))
    (or_one (tt_notT (tt_val (et_call (w_law_pair B r2) (hr.mono (by omega)) rfl B.F.g_law_pair_right B.F.k_law_pair_right (at_cons (vr 4 rfl rfl rfl rfl rfl) (at_two (vr 5 rfl rfl rfl rfl rfl) (vr 2 rfl rfl rfl rfl rfl)) rfl) rfl rfl rfl)))))) (bt_nil rfl (Sub.refl _))
theorem t_5 : ST (LX P w K mg base cdv A outer sh H) (H4 K D s F p q) (lawSt 5) (LT D (H4 K D s F p q)) := by
  obtain ⟨g1, u1, v1, m1, s1, t1, r1⟩ := L.pr_c
  have hx : ∀ {p1 p2 p3}, ET (LX P w K mg base cdv A outer sh H) (H4 K D s F p q) (.BinOp (.Name "first" p1) .Mult (.Name "factor" p2) p3) (tO K (p * F)) := fun {p1 p2 p3} => et_om B (hr.mono (by omega)) (L.mF L.cp L.lp).1 (vr 4 rfl rfl rfl rfl rfl) (vr 3 rfl rfl rfl rfl rfl)
  exact st_ifF (tt_notT (tt_val (et_call (w_law_pair B r1) (hr.mono (by omega)) rfl B.F.g_law_pair_right B.F.k_law_pair_right (at_cons hx (at_two hx hx) rfl) rfl rfl rfl))) (bt_nil rfl (Sub.refl _))
theorem t_89 {tg : Tg} {rest : List Stmt} (hrest : BT (LX P w K mg base cdv A outer sh H) (H9 K D s F) rest { rt := some (tB true), mu := [D] }) : BT (LX P w K mg base cdv A outer sh H) (H7 K D s F y z) (lawSt 8 :: lawSt 9 :: rest) { rt := some (tB true), mu := [D] } := by
  obtain ⟨T, Ar, U, V, Qs, bo, h1, h2, eb, h3, h4, h5, h6⟩ := both_ok L.cy L.y0 L.cz L.z0
  have a0 : annO y ≠ Ow.Z := ratO_ne _
  have b0 : annO z ≠ Ow.Z := ratO_ne _
  have hm := w_multiple (w := w) (base := base) B h1 a0 b0 h2
  rw [← eb] at hm
  have ho : ((bo.row.length : Nat) : Int) - 1 ≤ 2 := by
    have : bo.row.length ≤ 3 := h5
    omega
  have e1 : decide (((bo.row.length : Nat) : Int) - 1 = 1) = decide ((annO y).row = (annO z).row) := by
    refine decide_eq_decide.mpr ⟨fun h => congrArg Ow.row (h6.mp (by show bo.row.length = 2; omega)), fun h => ?_⟩
    have := h6.mpr (Ow.ext_row h)
    have : bo.row.length = 2 := this
    omega
  refine bt_cons (Δ := H8 K D s F y z bo) (st_set (i := 10) (R := tO K bo) sc_law.nd rfl (.inl rfl) (et_ixT 0 rfl rfl (et_call hm (hr.mono (by omega)) rfl B.F.g_step_multiple B.F.k_step_multiple (at_two (vr 8 rfl rfl rfl rfl rfl) (vr 9 rfl rfl rfl rfl rfl)) rfl rfl rfl) et_int) rfl (Sub.refl _) rfl (.inl rfl)) ?_
  refine bt_cons (Δ := H9 K D s F) (st_ifF (WT_.tt (or_ff (tt_notT (tt_val (ET.imp (et_meth0 ((opsK B _).is0 (actQ bo.row y)) B.F.cl_RatFun B.F.me_RatFun_is_zero (hr.mono (by omega)) (et_callS B (hr.mono (by omega)) h3 (vr 10 rfl rfl rfl rfl rfl) (vr 7 rfl rfl rfl rfl rfl)) (noF rfl rfl) rfl) (tB_of (decide_eq_true h4)))))
    (or_ff (tt_cast (tt_gt (et_meth0 (w_Sorder B bo.row) B.F.cl_Steps B.F.me_Steps_order (hr.mono (by omega)) (vr 10 rfl rfl rfl rfl rfl) (noS rfl) rfl) et_int rfl) (decide_eq_false (by omega)))
    (or_one (ET_neB (ET.imp (ev_eq (et_meth0 (w_Sorder B bo.row) B.F.cl_Steps B.F.me_Steps_order (hr.mono (by omega)) (vr 10 rfl rfl rfl rfl rfl) (noS rfl) rfl) et_int rfl) (tB_of e1)) (et_ownEq B.F.me_Steps_eq (w_Seq B (fun base => opsK B base) (annO y).row (annO z).row) (hr.mono (by omega)) isS isS (vr 8 rfl rfl rfl rfl rfl) (vr 9 rfl rfl rfl rfl rfl) rfl)))))) (bt_nil rfl (sub_eq (sub_eq (sub_eq (sub_eq (sub_eq (sub_eq (sub_eq (sub_no (sub_no (sub_no (sub_no sub_nil))))))))))))) ?_
  exact hrest
theorem t_10 : ST (LX P w K mg base cdv A outer sh H) (H9 K D s F) (lawSt 10) (LT D (H9 K D s F)) := by
  have hn : ∀ {p}, ET (LX P w K mg base cdv A outer sh H) (H9 K D s F) (.Name "none" p) (tO K Ow.Z) := fun {p} => vr 6 rfl rfl rfl rfl rfl
  have hf : ∀ {p}, ET (LX P w K mg base cdv A outer sh H) (H9 K D s F) (.Name "factor" p) (tO K F) := fun {p} => vr 3 rfl rfl rfl rfl rfl
  exact st_ifF (WT_.tt (or_ff (tt_neO B rfl (hr.mono (by omega)) (et_call (w_quotient B L.F0 L.dv0) (hr.mono (by omega)) rfl B.F.g_step_quotient B.F.k_step_quotient (at_two hn hf) rfl rfl rfl) hn)
    (or_ff (tt_neO B rfl (hr.mono (by omega)) (et_call (w_quotient0 B) (hr.mono (by omega)) rfl B.F.g_step_quotient B.F.k_step_quotient (at_two hn hn) rfl rfl rfl) hn)
    (or_one (tt_notN (d := true) non_no (et_call (w_quotientN B L.F0) (hr.mono (by omega)) rfl B.F.g_step_quotient B.F.k_step_quotient (at_two hf hn) rfl rfl rfl) et_non))))) (bt_nil rfl (Sub.refl _))
theorem t_11 : ST (LX P w K mg base cdv A outer sh H) (H9 K D s F) (lawSt 11) (LT D (H9 K D s F)) := by
  have hn : ∀ {p}, ET (LX P w K mg base cdv A outer sh H) (H9 K D s F) (.Name "none" p) (tO K Ow.Z) := fun {p} => vr 6 rfl rfl rfl rfl rfl
  have hf : ∀ {p}, ET (LX P w K mg base cdv A outer sh H) (H9 K D s F) (.Name "factor" p) (tO K F) := fun {p} => vr 3 rfl rfl rfl rfl rfl
  have z1 := Lx.zo1
  have h1 := w_divisor (w := w) (base := base) B (Lx.eu0 F) L.F0 L.Fl.1 L.Fl.2 L.zF z1.1 z1.2
  have hm : FnT P w K mg base 64 (fSteps K "monic") (spT [tO K F] (tO K (Ow.sc F.lead⁻¹ F))) := w_Smonic B (fun base => opsK B base) F.row (Ow.ne_row L.F0) (Ow.lead_ne' L.F0) L.Fl.2 L.zF.z (Nat.le_trans L.zF.l (by decide))
  exact st_ifF (WT_.tt (or_ff (tt_neO B rfl (hr.mono (by omega)) (et_ixT 0 rfl rfl (et_call (w_divisor0 B (Lx.eu0 Ow.Z) rfl) (hr.mono (by omega)) rfl B.F.g_step_divisor B.F.k_step_divisor (at_two hn hn) rfl rfl rfl) et_int) hn)
    (or_one (tt_neO B rfl (hr.mono (by omega)) (et_ixT 0 rfl rfl (et_call h1 (hr.mono (by omega)) rfl B.F.g_step_divisor B.F.k_step_divisor (at_two hf hn) rfl rfl rfl) et_int) (et_meth0 hm B.F.cl_Steps B.F.me_Steps_monic (hr.mono (by omega)) hf (noS rfl) rfl))))) (bt_nil rfl (Sub.refl _))
theorem t_12 : ST (LX P w K mg base cdv A outer sh H) (H9 K D s F) (lawSt 12) { rt := some (tB true), mu := [D] } := by
  have hn : ∀ {p}, ET (LX P w K mg base cdv A outer sh H) (H9 K D s F) (.Name "none" p) (tO K Ow.Z) := fun {p} => vr 6 rfl rfl rfl rfl rfl
  have hf : ∀ {p}, ET (LX P w K mg base cdv A outer sh H) (H9 K D s F) (.Name "factor" p) (tO K F) := fun {p} => vr 3 rfl rfl rfl rfl rfl
  exact st_ret (et_andT (et_call (w_zd B (by decide) (w_multipleX B (a := Ow.Z) (b := F) (.inl rfl)) B.F.k_step_multiple) (hr.mono (by omega)) rfl B.F.g_law_zero_divisor B.F.k_law_zero_divisor (at_cons (et_glob (v := .ref _) rfl B.F.g_step_multiple rfl rfl) (at_two hn hf) rfl) rfl rfl rfl)
    (et_andT (et_call (w_zd B (by decide) (w_multipleX B (a := F) (b := Ow.Z) (.inr rfl)) B.F.k_step_multiple) (hr.mono (by omega)) rfl B.F.g_law_zero_divisor B.F.k_law_zero_divisor (at_cons (et_glob (v := .ref _) rfl B.F.g_step_multiple rfl rfl) (at_two hf hn) rfl) rfl rfl rfl)
    (et_one (et_call (w_zd B (by decide) (w_steps_of_sumX B (b := F)) B.F.k_steps_of_sum) (hr.mono (by omega)) rfl B.F.g_law_zero_divisor B.F.k_law_zero_divisor (at_cons (et_glob (v := .ref _) rfl B.F.g_steps_of_sum rfl rfl) (at_two hn hf) rfl) rfl rfl rfl)))) rfl
end
end SLT
set_option exponentiation.threshold 256
set_option maxRecDepth 100000
set_option maxHeartbeats 1000000
namespace SLT
open PySem PySem.Spec PyProof.Rows L2 SL SW
section
variable {P : Program} {w : World} {K : PySem.W.Frag} {mg : Str → Option Value} {base : Heap}
theorem law_body : d_law.body = [lawSt 0, lawSt 1, lawSt 2, lawSt 3, lawSt 4, lawSt 5, lawSt 6, lawSt 7, lawSt 8, lawSt 9, lawSt 10, lawSt 11, lawSt 12] := by rfl
theorem ann_fn (B : Bs P K mg) {y : KF} (c : Cx1 1 2 3 y) (y0 : y ≠ 0) : FnT P w K mg base 64 (fTop K "step_annihilator") (spT [tq K y] (tO K (annO y))) :=
  w_step_annihilator (w := w) (base := base) B (fun base => opsK B base) y (c.sz1 (by decide) (by decide) (by decide)) y0 ((sh_Cx1 c).sz1 (by decide) (by decide) (by decide)) ((quo_Cx1 c y0).sz1 (by decide) (by decide) (by decide))
theorem w_law (B : Bs P K mg) {fd : FuncData} (DD : DefAt K d_law (fTop K "law") fd) (l : List Int) (hl : l.length ≤ 63) : FnOk P w K mg base CX0 93 (fTop K "law") fd ["script"] (spT [tL K (tIs l)] (tB true)) := by
  refine fn_ret DD sc_law rfl fun cdv A outer sh H hr => ?_
  let s0 : Sd := stateV l
  let s1 := iter qS s0 2
  let s2 := funS s1
  let s3 := opS s2 1
  let n0 : Nat := (takeV s3 4).toNat
  let s4 := takeS s3 4
  let n1 : Nat := (takeV s4 2).toNat
  let s5 := takeS s4 2
  let s6 := opS s5 n1
  let n2 : Nat := (takeV s6 2).toNat
  let s7 := takeS s6 2
  let s8 := opS s7 n2
  let s9 := funS s8
  let s10 := funS s9
  have o0 : SOk s0 := totV_ok l l.length
  have o1 : SOk s1 := iter_ok (fun _ h => qS_ok h) o0 2
  have o2 : SOk s2 := funS_ok o1
  have o3 : SOk s3 := opS_ok o2 1
  have o4 : SOk s4 := takeS_ok o3 4
  have o5 : SOk s5 := takeS_ok o4 2
  have o6 : SOk s6 := opS_ok o5 n1
  have o7 : SOk s7 := takeS_ok o6 2
  have o8 : SOk s8 := opS_ok o7 n2
  have o9 : SOk s9 := funS_ok o8
  have o10 : SOk s10 := funS_ok o9
  have t0 := takeV_lt s3 (m := 4) (by decide)
  have t1 := takeV_lt s4 (m := 2) (by decide)
  have t2 := takeV_lt s6 (m := 2) (by decide)
  have e0 : takeV s3 4 = (n0 : Int) := by show takeV s3 4 = ((takeV s3 4).toNat : Int); omega
  have e1 : takeV s4 2 = (n1 : Int) := by show takeV s4 2 = ((takeV s4 2).toNat : Int); omega
  have e2 : takeV s6 2 = (n2 : Int) := by show takeV s6 2 = ((takeV s6 2).toNat : Int); omega
  have hn0 : n0 < 4 := by omega
  let F : Ow := (facs s0 s1 s2).getD n0 Ow.Z
  let p : Ow := opW s5 n1
  let q : Ow := opW s7 n2
  have hF := facs_ok s0 s1 s2 F (by
    show (facs s0 s1 s2).getD n0 Ow.Z ∈ _
    rw [List.getD_eq_getElem?_getD, List.getElem?_eq_getElem (show n0 < (facs s0 s1 s2).length from hn0)]; exact List.getElem_mem _)
  have L : Lx F p q (otherV s8) (otherV s9) := ⟨hF.1, hF.2.1, hF.2.2, opW_oc _ _, opW_ne _ _, by show (opW s5 n1).len ≤ 2; rw [opW_len]; omega, opW_oc _ _, opW_ne _ _, by show (opW s7 n2).len ≤ 2; rw [opW_len]; omega, other_Dr _, otherV_ne _, other_Dr _, otherV_ne _⟩
  rw [law_body]
  refine bt_new (i := 1) (Rs := [tI s0.1, tI s0.2]) sc_law.nd rfl (.inl rfl) (ef_callN (w_law_state B l hl) (hr.mono (by omega)) rfl B.F.g_law_state B.F.k_law_state (at_one (vr 0 rfl rfl rfl rfl rfl))) (fun _ => [none, none, none, none, none, none, none, none, none, none, none]) (fun D => subn_no (subn_eq (subn_eq (subn_eq (subn_eq (subn_eq (subn_eq (subn_eq (subn_eq (subn_eq (subn_eq subn_nil))))))))))) (fun D _ => ?_) rfl (.inl rfl)
  have mD : D ∈ [D] := List.mem_singleton.mpr rfl
  refine bt_cons (Δ := [none, some (tSt D s0), some (tO K (Ow.C 1)), none, none, none, none, none, none, none, none]) (st_set (i := 2) (R := tO K (Ow.C 1)) sc_law.nd rfl (.inl rfl) (et_Steps (l := [(1 : KF)]) B (opsK B _) (hr.mono (by omega)) (by simp) rfl (ET.imp (et_disT (Rs := tqs K [(1 : KF)]) (at_one (et_one1 B (hr.mono (by omega)) (by exact rfl) (by exact rfl))) (by simp [tqs, sizeLine])) tT_S)) rfl (Sub.refl _) rfl (.inl rfl)) ?_
  have hΓ2 : StbC [D] ([none, some (tV (.ref D)), some (tO K (Ow.C 1)), none, none, none, none, none, none, none, none] : Cxt) := stbc_n (stbc_s (sol_V _) (stbc_s (sol_S _) (stbc_n (stbc_n (stbc_n (stbc_n (stbc_n (stbc_n (stbc_n (stbc_n stbc_nil))))))))))
  refine bt_cons (Δ := [none, some (tSt D s4), some (tO K (Ow.C 1)), some (tO K F), none, none, none, none, none, none, none]) (st_setM (i := 3) (j := 1) (s := s0) (s1 := s4) (R := tO K F) rfl hΓ2 sc_law.nd rfl (.inl rfl) ?_ mD rfl (Sub.refl _) (.inl rfl)) ?_
  · refine em_ixL (Rs := [tO K (Ow.C 1), tO K (ratO (KF.ofP (pO s0 2))), tO K (annO (otherV s1)), tO K (opW s2 1)]) n0 hΓ2 e0 ?_ (em_disp (s1 := s3) ?_ hΓ2 (by simp [sizeLine])) (fun R hR => ?_) (em_take B hΓ2 (hr.mono (by omega)) (by exact rfl) o3 (by decide) et_int (by exact vr 1 rfl rfl rfl rfl rfl))
    · show _ = some (tO K ((facs s0 s1 s2).getD n0 Ow.Z))
      generalize n0 = n at hn0
      match n, hn0 with
      | 0, _ => rfl
      | 1, _ => rfl
      | 2, _ => rfl
      | 3, _ => rfl
    · refine am_cons hΓ2 (em_of (vr 2 rfl rfl rfl rfl rfl)) (sol_S _) (am_cons (s1 := s1) hΓ2 ?_ (sol_S _) (am_cons (s1 := s2) hΓ2 ?_ (sol_S _) (am_one hΓ2 ?_) rfl) rfl) rfl
      · exact em_callT hΓ2 (w_ratio_operator B (fun base => opsK B base) (KF.ofP (pO s0 2)) ((ofP_Cx1 (pO_H s0 (by decide))).sz1 (by decide) (by decide) (by decide))) (hr.mono (by omega)) rfl B.F.g_ratio_operator B.F.k_ratio_operator (am_one hΓ2 (em_callT hΓ2 (w_of_poly B (pO s0 2) (frK (KF.ofP (pO s0 2))) (ofP_rf (pO_H s0 (by decide)))) (hr.mono (by omega)) rfl B.F.g_of_poly B.F.k_of_poly (am_one hΓ2 (em_call hΓ2 (w_law_pol_other B D s0 o0 2 (by decide)) (hr.mono (by omega)) rfl B.F.g_law_pol_other B.F.k_law_pol_other (am_two hΓ2 (em_of (vr 1 rfl rfl rfl rfl rfl)) (sol_V _) (em_of et_int))))))
      · exact em_callT hΓ2 (ann_fn B (other_Dr s1) (otherV_ne s1)) (hr.mono (by omega)) rfl B.F.g_step_annihilator B.F.k_step_annihilator (am_one hΓ2 (em_call hΓ2 (w_law_other B D s1 o1) (hr.mono (by omega)) rfl B.F.g_law_fun_other B.F.k_law_fun_other (am_one hΓ2 (em_of (vr 1 rfl rfl rfl rfl rfl)))))
      · exact em_call hΓ2 (w_law_step_op B D s2 o2 1 (by decide)) (hr.mono (by omega)) rfl B.F.g_law_step_op B.F.k_law_step_op (am_cons hΓ2 (em_of (vr 1 rfl rfl rfl rfl rfl)) (sol_V _) (am_two hΓ2 (em_of et_int) (sol_I _) (em_of et_int)) rfl)
    · simp only [List.mem_cons, List.not_mem_nil, or_false] at hR
      rcases hR with rfl | rfl | rfl | rfl <;> exact sol_S [D]
  have hΓ3 : StbC [D] ([none, some (tV (.ref D)), some (tO K (Ow.C 1)), some (tO K F), none, none, none, none, none, none, none] : Cxt) := stbc_n (stbc_s (sol_V _) (stbc_s (sol_S _) (stbc_s (sol_S _) (stbc_n (stbc_n (stbc_n (stbc_n (stbc_n (stbc_n (stbc_n stbc_nil))))))))))
  refine bt_cons (Δ := H4 K D s8 F p q) (st_parM (i := 4) (l := 5) (j := 1) (s := s4) (s1 := s8) (R := tO K p) (S := tO K q) rfl hΓ3 rfl sc_law.nd rfl rfl (by decide) rfl rfl ?_ mD rfl (Sub.refl _)) ?_
  · exact am_two hΓ3 (em_call hΓ3 (w_law_step_op B D s5 o5 n1 (by omega)) (hr.mono (by omega)) rfl B.F.g_law_step_op B.F.k_law_step_op (am_cons hΓ3 (em_of (vr 1 rfl rfl rfl rfl rfl)) (sol_V _) (am_two hΓ3 (EM.cast (em_take B hΓ3 (hr.mono (by omega)) (by exact rfl) o4 (by decide) et_int (by exact vr 1 rfl rfl rfl rfl rfl)) (by rw [e1])) (sol_I _) (em_of et_int)) rfl)) (sol_S _)
      (em_call hΓ3 (w_law_step_op B D s7 o7 n2 (by omega)) (hr.mono (by omega)) rfl B.F.g_law_step_op B.F.k_law_step_op (am_cons hΓ3 (em_of (vr 1 rfl rfl rfl rfl rfl)) (sol_V _) (am_two hΓ3 (EM.cast (em_take B hΓ3 (hr.mono (by omega)) (by exact rfl) o6 (by decide) et_int (by exact vr 1 rfl rfl rfl rfl rfl)) (by rw [e2])) (sol_I _) (em_of et_int)) rfl))
  refine bt_cons (t_4 B L hr) (bt_cons (t_5 B L hr) ?_)
  have hΓ4 : StbC [D] ([none, some (tV (.ref D)), some (tO K (Ow.C 1)), some (tO K F), some (tO K p), some (tO K q), none, none, none, none, none] : Cxt) := stbc_n (stbc_s (sol_V _) (stbc_s (sol_S _) (stbc_s (sol_S _) (stbc_s (sol_S _) (stbc_s (sol_S _) (stbc_n (stbc_n (stbc_n (stbc_n (stbc_n stbc_nil))))))))))
  refine bt_cons (Δ := [none, some (tSt D s9), none, some (tO K F), none, none, some (tO K Ow.Z), some (tq K (otherV s8)), none, none, none]) (st_parM (i := 6) (l := 7) (j := 1) (s := s8) (s1 := s9) (R := tO K Ow.Z) (S := tq K (otherV s8)) rfl hΓ4 rfl sc_law.nd rfl rfl (by decide) rfl rfl ?_ mD rfl (sub_eq (sub_eq (sub_no (sub_eq (sub_no (sub_no (sub_eq (sub_eq (sub_eq (sub_eq (sub_eq sub_nil)))))))))))) ?_
  · exact am_two hΓ4 (em_of (et_Steps (l := ([] : List KF)) B (opsK B _) (hr.mono (by omega)) (by simp) rfl (ET.imp (et_disT (Rs := tqs K ([] : List KF)) at_nil (by simp [tqs])) tT_S))) (sol_S _)
      (em_call hΓ4 (w_law_other B D s8 o8) (hr.mono (by omega)) rfl B.F.g_law_fun_other B.F.k_law_fun_other (am_one hΓ4 (em_of (vr 1 rfl rfl rfl rfl rfl))))
  have hΓ5 : StbC [D] ([none, some (tV (.ref D)), none, some (tO K F), none, none, some (tO K Ow.Z), some (tq K (otherV s8)), none, none, none] : Cxt) := stbc_n (stbc_s (sol_V _) (stbc_n (stbc_s (sol_S _) (stbc_n (stbc_n (stbc_s (sol_S _) (stbc_s (sol_F _) (stbc_n (stbc_n (stbc_n stbc_nil))))))))))
  refine bt_cons (Δ := H7 K D s10 F (otherV s8) (otherV s9)) (st_parM (i := 8) (l := 9) (j := 1) (s := s9) (s1 := s10) (R := tO K (annO (otherV s8))) (S := tO K (annO (otherV s9))) rfl hΓ5 rfl sc_law.nd rfl rfl (by decide) rfl rfl ?_ mD rfl (Sub.refl _)) ?_
  · exact am_two hΓ5 (em_of (et_call (ann_fn B (other_Dr s8) (otherV_ne s8)) (hr.mono (by omega)) rfl B.F.g_step_annihilator B.F.k_step_annihilator (at_one (vr 7 rfl rfl rfl rfl rfl)) rfl rfl rfl)) (sol_S _)
      (em_callT hΓ5 (ann_fn B (other_Dr s9) (otherV_ne s9)) (hr.mono (by omega)) rfl B.F.g_step_annihilator B.F.k_step_annihilator (am_one hΓ5 (em_call hΓ5 (w_law_other B D s9 o9) (hr.mono (by omega)) rfl B.F.g_law_fun_other B.F.k_law_fun_other (am_one hΓ5 (em_of (vr 1 rfl rfl rfl rfl rfl))))))
  exact t_89 (tg := {}) B L hr (bt_cons (t_10 B L hr) (bt_cons (t_11 B L hr) (bt_last (t_12 B L hr))))
/-- from any list of at most 63 whole numbers: True -/
def spLaw (K : PySem.W.Frag) : Sp := fun vs H Q E => ∃ l : List Int, l.length ≤ 63 ∧ spT [tL K (tIs l)] (tB true) vs H Q E
theorem law_ok (B : Bs P K mg) {fd : FuncData} (DD : DefAt K d_law (fTop K "law") fd) : FnOk P w K mg base CX0 93 (fTop K "law") fd ["script"] (spLaw K) :=
  ⟨fun vs H Q E ⟨l, hl, q⟩ => (w_law (w := w) (base := base) B DD l hl).len vs H Q E q, fun A outer s H args us vs Q E hr he hb hv ⟨l, hl, q⟩ => (w_law B DD l hl).run A outer s H args us vs Q E hr he hb hv q⟩
theorem tvs_ints (H : Hp) : ∀ ns : List Int, TVs (ns.map V.int) (tIs ns) H
  | [] => trivial
  | _ :: r => ⟨rfl, tvs_ints H r⟩
theorem law_sp {H : Hp} {a : Addr} {ns : List Int} (hl : ns.length ≤ 63) (hS : SqL K H a (ns.map V.int)) : spLaw K [.ref a] H (fun v _ => v = .bl true) fun _ _ _ => False :=
  ⟨ns, hl, ⟨⟨a, _, rfl, hS, tvs_ints H ns⟩, trivial⟩, fun v H' _ u => u⟩
end
end SLT
set_option exponentiation.threshold 256
set_option maxRecDepth 100000
set_option maxHeartbeats 8000000
namespace SLT
open PySem PySem.Spec PyProof.Rows L2 SL SW
theorem law_facts {w : World} {K : PySem.W.Frag} {h : Heap} {mg : Str → Option Value} {f : Addr} (X : K.In h) (G : h.Ns mainGlobals mg) (hfa : mg ("law" : Str) = some (.ref f)) (c : SaysZ fa xa fn exn K) :
    ∃ fd : FuncData, (∀ (s : Shared) (v : Value), BindsTo s fd ⟨[v], []⟩ [("script", v)]) ∧ ∀ base : Heap, K.In base → base.Ns mainGlobals mg → FnOk theProg w K mg base CX0 93 f fd ["script"] (spLaw K) := by
  have F := facts_of X G c
  obtain ⟨fd, D⟩ := F.d_law
  have e := hfa.symm.trans F.g_law
  cases e
  have b := FunD.bindsA (ps := ["script"]) D fun _ _ _ _ _ _ us hl => match us, hl with | [_], _ => by kernel_rfl
  exact ⟨fd, fun s v => b s [v] rfl, fun base _ _ => law_ok ⟨F, o_tr⟩ D⟩
end SLT
namespace SLT
open PySem PySem.W PySem.Calls PyProof.Rows L2 SL
theorem law_call (w : World) (mg : Str → Option Value) (fa : Addr) (h : Heap) (Y : SLT.hk.says w h) (G : h.Ns mainGlobals mg) (hmg0 : mg dd.name = some (.ref fa)) :
    ∃ (K : PySem.W.Frag) (fd : FuncData) (sp : Sp), K.In h ∧ (∀ (s : Shared) (u : Value), BindsTo s fd ⟨[u], []⟩ [("script", u)]) ∧
        (∀ (H : Hp) (a : Addr) (ns : List Int), ns.length ≤ 63 → L2.Only H → SqL K H a (ns.map V.int) → sp [.ref a] H (fun v _ => v = .bl true) fun _ _ _ => False) ∧
        ∀ base : Heap, K.In base → base.Ns mainGlobals mg → FnOk theProg w K mg base CX0 93 fa fd ["script"] sp := by
  obtain ⟨K, KX, c⟩ := Y
  rw [o_nm] at hmg0
  obtain ⟨fd, hb, hF⟩ := law_facts (w := w) KX G hmg0 c
  exact ⟨K, fd, spLaw K, KX, hb, fun H a ns hl _ hS => law_sp hl hS, hF⟩
theorem o_room93 : L2.Room 93 callerA := ⟨rfl, by decide, by decide⟩
theorem law_row (k1 : RR.wellSaid = true) : RR.Holds :=
  HandSHeadRun.head_imp (r := RR) (q := qq) (H := SLT.hk) (ob := SLT.ob) (M := 30000) (loose := SLT.loose) (d := dd) (kwd := []) SLT.ob_ok SLT.run o_hdef o_hp o_hk o_wr k1 o_ok o_bare o_hw
    (L2.walk_ofE (l := PySem.Challenge.rw_slopewrit_k22_whole_common_steps) (n := 63) (k := 93) (x := "script") (CX := L2.CX0) o_n (by decide) o_df o_room93 law_call (fun _ _ _ _ z => z))
end SLT
open PySem PySem.W PySem.Calls PyProof.Rows
theorem PySem.Challenge.cw_slopewrit_k22_whole_common_steps_holds : PySem.Challenge.rw_slopewrit_k22_whole_common_steps.Holds := by
  w_on; o_law
  exact SLT.law_row (by assumption)
