import PyProof.Rows.All
import PyProof.P3Statements
import Wide.All
import OpenK.AllK
import Wide.FinOn
import HandS.ForMost
import HandS.ForExc
import HandS.Wide
import HandS.Gcd
import HandS.More
import HandS.Deep
import HandS.IsInst
import HandS.Property
import HandS.ExcInit
import HandS.ExcCtx
import HandS.HotCalls
import HandS.Style
import HandS.TupAny
import HandS.Defaults
import PySem.Challenge.RW_consol_k23_whole_watches_tell_the_value
import HandS.Zip
import HandS.Rev
import HandS.ListItems
import HandS.ExcField
import PyProof.ReprReads
import PyProof.ReprRoads
import PyProof.ReprLen
import HandS.Ends
set_option Elab.async false
set_option linter.all false
/-! The mathematics of the law: expressions, their values, what a list of parts holds. No program here. -/
namespace KW
open PySem
set_option autoImplicit false

abbrev Fr := Int × Int
inductive Vl where
  | num (f : Fr) | tru (b : Bool)
  deriving DecidableEq
def Vl.n : Vl → Fr
  | .num f => f
  | .tru _ => (0, 1)
def Vl.t : Vl → Bool
  | .num _ => false
  | .tru b => b

/-! ### words -/
inductive LW where | number | money | percent
  deriving DecidableEq
def LW.s : LW → Str
  | .number => "number" | .money => "money" | .percent => "percent"
inductive RW where | fact | rate
  deriving DecidableEq
def RW.s : RW → Str
  | .fact => "fact" | .rate => "rate"
inductive BW where | add | subtract | multiply | min | max | less | atmost | equal | and | or
  deriving DecidableEq
def BW.s : BW → Str
  | .add => "add" | .subtract => "subtract" | .multiply => "multiply" | .min => "min" | .max => "max"
  | .less => "less" | .atmost => "atmost" | .equal => "equal" | .and => "and" | .or => "or"
inductive TW where | ever | always | before
  deriving DecidableEq
def TW.s : TW → Str
  | .ever => "ever" | .always => "always" | .before => "before"
def tfs : Bool → Str
  | true => "true" | false => "false"

/-- an expression; a let's name carries its body -/
inductive Ex where
  | lit (w : LW) (f : Fr)
  | ref (w : RW) (n : Str)
  | nam (n : Str) (b : Ex)
  | tt (b : Bool)
  | un (c : Ex)
  | bin (w : BW) (e f : Ex)
  | ite (c e f : Ex)
  | timed (w : TW) (k : Nat) (c : Ex)
  deriving DecidableEq

/-! ### numbers -/
def frac (p q : Int) : Fr := (p / ((Nat.gcd p.natAbs q.natAbs : Nat) : Int), q / ((Nat.gcd p.natAbs q.natAbs : Nat) : Int))
def plus (a b : Fr) : Fr := if a.2 = b.2 then frac (a.1 + b.1) a.2 else frac (a.1 * b.2 + b.1 * a.2) (a.2 * b.2)
def neg (a : Fr) : Fr := (-a.1, a.2)
def minus (a b : Fr) : Fr := plus a (neg b)
def times (a b : Fr) : Fr := frac (a.1 * b.1) (a.2 * b.2)
def b2z (b : Bool) : Int := if b then 1 else 0
def order (a b : Fr) : Int := b2z (decide (b.1 * a.2 < a.1 * b.2)) - b2z (decide (a.1 * b.2 < b.1 * a.2))
def smaller (a b : Fr) : Fr := if order a b ≤ 0 then a else b
def greater (a b : Fr) : Fr := if 0 ≤ order a b then a else b
def cmb : BW → Fr → Fr → Vl
  | .add, a, b => .num (plus a b)
  | .subtract, a, b => .num (minus a b)
  | .multiply, a, b => .num (times a b)
  | .min, a, b => .num (smaller a b)
  | .max, a, b => .num (greater a b)
  | .less, a, b => .tru (decide (order a b < 0))
  | .atmost, a, b => .tru (decide (order a b ≤ 0))
  | .equal, a, b => .tru (a.1 == b.1 && a.2 == b.2)
  | .and, _, _ => .tru false
  | .or, _, _ => .tru false

/-- sizes -/
def Sz (n : Nat) (f : Fr) : Prop := f.1.natAbs < 2 ^ n ∧ 0 < f.2 ∧ f.2.natAbs < 2 ^ n
theorem Sz.mono {n m : Nat} {f : Fr} (h : Sz n f) (hm : n ≤ m) : Sz m f :=
  ⟨Nat.lt_of_lt_of_le h.1 (Nat.pow_le_pow_right (by decide) hm), h.2.1, Nat.lt_of_lt_of_le h.2.2 (Nat.pow_le_pow_right (by decide) hm)⟩
theorem nat_gcd_pos {p q : Int} (h : 0 < q) : 0 < (Nat.gcd p.natAbs q.natAbs : Nat) := Nat.gcd_pos_of_pos_right _ (by omega)
theorem div_natAbs_le {p : Int} {g : Nat} : (p / (g : Int)).natAbs ≤ p.natAbs := Int.natAbs_ediv_le_natAbs p g
theorem frac_sz {n : Nat} {p q : Int} (hp : p.natAbs < 2 ^ n) (h0 : 0 < q) (hq : q.natAbs < 2 ^ n) : Sz n (frac p q) := by
  have hg := nat_gcd_pos (p := p) h0
  refine ⟨Nat.lt_of_le_of_lt div_natAbs_le hp, ?_, Nat.lt_of_le_of_lt div_natAbs_le hq⟩
  have hd : ((Nat.gcd p.natAbs q.natAbs : Nat) : Int) ∣ q := by
    have := Nat.gcd_dvd_right p.natAbs q.natAbs
    exact Int.ofNat_dvd_left.mpr this
  exact Int.ediv_pos_of_pos_of_dvd h0 (Int.natCast_nonneg _) hd
theorem pow_mul_lt {a b n m : Nat} (ha : a < 2 ^ n) (hb : b < 2 ^ m) : a * b < 2 ^ (n + m) := by
  rw [Nat.pow_add]
  rcases Nat.eq_zero_or_pos b with h | h
  · rw [h, Nat.mul_zero]; exact Nat.mul_pos (Nat.two_pow_pos _) (Nat.two_pow_pos _)
  · exact Nat.lt_of_lt_of_le ((Nat.mul_lt_mul_right h).mpr ha) (Nat.mul_le_mul_left _ (Nat.le_of_lt hb))
theorem mul_abs_lt {p q : Int} {n m : Nat} (hp : p.natAbs < 2 ^ n) (hq : q.natAbs < 2 ^ m) : (p * q).natAbs < 2 ^ (n + m) := by
  rw [Int.natAbs_mul]; exact pow_mul_lt hp hq
theorem add_abs_lt {p q : Int} {n : Nat} (hp : p.natAbs < 2 ^ n) (hq : q.natAbs < 2 ^ n) : (p + q).natAbs < 2 ^ (n + 1) := by
  have := Int.natAbs_add_le p q
  rw [Nat.pow_succ]; omega
theorem times_sz {n m : Nat} {a b : Fr} (ha : Sz n a) (hb : Sz m b) : Sz (n + m) (times a b) :=
  frac_sz (mul_abs_lt ha.1 hb.1) (Int.mul_pos ha.2.1 hb.2.1) (mul_abs_lt ha.2.2 hb.2.2)
theorem neg_sz {n : Nat} {a : Fr} (ha : Sz n a) : Sz n (neg a) := ⟨by show (-a.1).natAbs < _; rw [Int.natAbs_neg]; exact ha.1, ha.2.1, ha.2.2⟩
theorem plus_sz {n m : Nat} {a b : Fr} (ha : Sz n a) (hb : Sz m b) : Sz (n + m + 1) (plus a b) := by
  unfold plus
  split
  · have h1 : Sz (n + m) a := ha.mono (by omega)
    have h2 : Sz (n + m) b := hb.mono (by omega)
    exact frac_sz (add_abs_lt h1.1 h2.1) h1.2.1 (Nat.lt_of_lt_of_le h1.2.2 (Nat.pow_le_pow_right (by decide) (by omega)))
  · refine frac_sz (add_abs_lt (mul_abs_lt ha.1 hb.2.2) ?_) (Int.mul_pos ha.2.1 hb.2.1) (Nat.lt_of_lt_of_le (mul_abs_lt ha.2.2 hb.2.2) (Nat.pow_le_pow_right (by decide) (by omega)))
    have := mul_abs_lt hb.1 ha.2.2
    rw [Nat.add_comm m n] at this
    exact this
theorem smaller_sz {n : Nat} {a b : Fr} (ha : Sz n a) (hb : Sz n b) : Sz n (smaller a b) := by
  unfold smaller; split <;> assumption
theorem greater_sz {n : Nat} {a b : Fr} (ha : Sz n a) (hb : Sz n b) : Sz n (greater a b) := by
  unfold greater; split <;> assumption

/-! ### the value of an expression on a day -/
structure Md where
  fact : Str → Nat → Fr
  rate : Str → Nat → Fr
/-- the days looked back at -/
def win (d k : Nat) : List Nat := List.range' (d + 1 - k) (d + 1 - (d + 1 - k))
def sem (M : Md) : Ex → Nat → Vl
  | .lit .number f, _ => .num f
  | .lit .money f, _ => .num f
  | .lit .percent f, _ => .num (times f (1, 100))
  | .ref .fact n, d => .num (M.fact n d)
  | .ref .rate n, d => .num (M.rate n d)
  | .nam _ b, d => sem M b d
  | .tt b, _ => .tru b
  | .un c, d => .tru (!(sem M c d).t)
  | .bin .and e f, d => .tru ((sem M e d).t && (sem M f d).t)
  | .bin .or e f, d => .tru ((sem M e d).t || (sem M f d).t)
  | .bin w e f, d => cmb w (sem M e d).n (sem M f d).n
  | .ite c e f, d => if (sem M c d).t then sem M e d else sem M f d
  | .timed .before k c, d => .tru (decide (k ≤ d) && (sem M c (d - k)).t)
  | .timed .ever k c, d => .tru ((win d k).any fun j => (sem M c j).t)
  | .timed .always k c, d => .tru ((win d k).all fun j => (sem M c j).t)

/-- sorts: true, a truth; false, a number -/
def BW.log : BW → Bool
  | .and | .or => true
  | _ => false
def BW.cmp : BW → Bool
  | .less | .atmost | .equal => true
  | _ => false
def WT : Ex → Bool → Prop
  | .lit _ f, s => s = false ∧ f.1.natAbs < 2 ^ 30 ∧ 0 < f.2 ∧ f.2.natAbs < 2 ^ 20
  | .ref _ _, s => s = false
  | .nam _ b, s => s = false ∧ WT b false
  | .tt _, s => s = true
  | .un c, s => s = true ∧ WT c true
  | .bin w e f, s => if w.log = true then s = true ∧ WT e true ∧ WT f true else s = w.cmp ∧ WT e false ∧ WT f false
  | .ite c e f, s => WT c true ∧ WT e s ∧ WT f s
  | .timed _ k c, s => s = true ∧ 1 ≤ k ∧ WT c true
/-- bits -/
def bw : Ex → Nat
  | .lit _ _ => 30
  | .ref _ _ => 30
  | .nam _ b => bw b
  | .tt _ => 0
  | .un c => bw c
  | .bin w e f => if w.log = true then max (bw e) (bw f) else bw e + bw f + 1
  | .ite c e f => max (bw c) (max (bw e) (bw f))
  | .timed _ _ c => bw c
/-- depth -/
def dep : Ex → Nat
  | .lit _ _ => 0
  | .ref _ _ => 0
  | .nam _ b => dep b + 1
  | .tt _ => 0
  | .un c => dep c + 1
  | .bin _ e f => max (dep e) (dep f) + 1
  | .ite c e f => max (dep c) (max (dep e) (dep f)) + 1
  | .timed _ _ c => dep c + 1
def parts : Ex → List Ex
  | .lit _ _ => []
  | .ref _ _ => []
  | .nam _ b => [b]
  | .tt _ => []
  | .un c => [c]
  | .bin _ e f => [e, f]
  | .ite c e f => [c, e, f]
  | .timed _ _ c => [c]
/-- all that stands in it, itself too -/
def subs : Ex → List Ex
  | .lit w f => [.lit w f]
  | .ref w n => [.ref w n]
  | .nam n b => .nam n b :: subs b
  | .tt b => [.tt b]
  | .un c => .un c :: subs c
  | .bin w e f => .bin w e f :: (subs e ++ subs f)
  | .ite c e f => .ite c e f :: (subs c ++ (subs e ++ subs f))
  | .timed w k c => .timed w k c :: subs c
theorem self_subs (e : Ex) : e ∈ subs e := by cases e <;> simp [subs]
theorem parts_subs {e p : Ex} (h : p ∈ parts e) : ∀ x ∈ subs p, x ∈ subs e := by
  intro x hx
  cases e <;> simp [parts] at h <;> simp [subs]
  · subst h; exact .inr hx
  · subst h; exact .inr hx
  · rcases h with rfl | rfl
    · exact .inr (.inl hx)
    · exact .inr (.inr hx)
  · rcases h with rfl | rfl | rfl
    · exact .inr (.inl hx)
    · exact .inr (.inr (.inl hx))
    · exact .inr (.inr (.inr hx))
  · subst h; exact .inr hx
theorem subs_cases {e x : Ex} (h : x ∈ subs e) : x = e ∨ ∃ p ∈ parts e, x ∈ subs p := by
  cases e <;> simp [subs] at h <;> simp [parts]
  · exact h
  · exact h
  · exact h
  · exact h
  · exact h
  · exact h
  · exact h
  · exact h
theorem parts_dep {e p : Ex} (h : p ∈ parts e) : dep p < dep e := by
  cases e <;> simp [parts] at h <;> simp [dep]
  · subst h; omega
  · subst h; omega
  · rcases h with rfl | rfl <;> omega
  · rcases h with rfl | rfl | rfl <;> omega
  · subst h; omega
theorem parts_bw {e p : Ex} (h : p ∈ parts e) : bw p ≤ bw e := by
  cases e <;> simp [parts] at h <;> simp only [bw]
  · subst h; omega
  · subst h; omega
  · split <;> rcases h with rfl | rfl <;> omega
  · rcases h with rfl | rfl | rfl <;> omega
  · subst h; omega
theorem subs_trans {e x y : Ex} : x ∈ subs e → y ∈ subs x → y ∈ subs e := by
  induction e with
  | lit w f => intro h1 h2; simp [subs] at h1; subst h1; exact h2
  | ref w n => intro h1 h2; simp [subs] at h1; subst h1; exact h2
  | tt b => intro h1 h2; simp [subs] at h1; subst h1; exact h2
  | nam n b ih =>
    intro h1 h2
    rcases subs_cases h1 with rfl | ⟨p, hp, hx⟩
    · exact h2
    · simp [parts] at hp; subst hp; exact parts_subs (by simp [parts]) _ (ih hx h2)
  | un c ih =>
    intro h1 h2
    rcases subs_cases h1 with rfl | ⟨p, hp, hx⟩
    · exact h2
    · simp [parts] at hp; subst hp; exact parts_subs (by simp [parts]) _ (ih hx h2)
  | timed w k c ih =>
    intro h1 h2
    rcases subs_cases h1 with rfl | ⟨p, hp, hx⟩
    · exact h2
    · simp [parts] at hp; subst hp; exact parts_subs (by simp [parts]) _ (ih hx h2)
  | bin w e f ihe ihf =>
    intro h1 h2
    rcases subs_cases h1 with rfl | ⟨p, hp, hx⟩
    · exact h2
    · simp [parts] at hp
      rcases hp with rfl | rfl
      · exact parts_subs (by simp [parts]) _ (ihe hx h2)
      · exact parts_subs (by simp [parts]) _ (ihf hx h2)
  | ite c e f ihc ihe ihf =>
    intro h1 h2
    rcases subs_cases h1 with rfl | ⟨p, hp, hx⟩
    · exact h2
    · simp [parts] at hp
      rcases hp with rfl | rfl | rfl
      · exact parts_subs (by simp [parts]) _ (ihc hx h2)
      · exact parts_subs (by simp [parts]) _ (ihe hx h2)
      · exact parts_subs (by simp [parts]) _ (ihf hx h2)

/-- the size of a number's value -/
theorem sem_sz {M : Md} (hf : ∀ n d, Sz 30 (M.fact n d)) (hr : ∀ n d, Sz 30 (M.rate n d)) : ∀ (e : Ex) (d : Nat), WT e false → Sz (bw e) (sem M e d).n
  | .lit w f, d, h => by
    obtain ⟨_, h1, h2, h3⟩ := h
    have z : Sz 30 f := ⟨h1, h2, Nat.lt_of_lt_of_le h3 (Nat.pow_le_pow_right (by decide) (by decide))⟩
    cases w
    · exact z
    · exact z
    · show Sz 30 (frac (f.1 * 1) (f.2 * 100))
      refine frac_sz (by rw [Int.mul_one]; exact h1) (by omega) ?_
      rw [Int.natAbs_mul]
      have : (2 : Nat) ^ 30 = 2 ^ 20 * 1024 := by decide
      rw [this]
      have h4 : (100 : Int).natAbs = 100 := rfl
      rw [h4]; omega
  | .ref .fact n, d, _ => hf n d
  | .ref .rate n, d, _ => hr n d
  | .nam _ b, d, h => sem_sz hf hr b d h.2
  | .tt _, _, h => Bool.noConfusion (show false = true from h)
  | .un _, _, h => Bool.noConfusion h.1
  | .ite c e f, d, h => by
    have h1 := sem_sz hf hr e d h.2.1
    have h2 := sem_sz hf hr f d h.2.2
    show Sz (max (bw c) (max (bw e) (bw f))) (if (sem M c d).t = true then sem M e d else sem M f d).n
    split
    · exact h1.mono (by omega)
    · exact h2.mono (by omega)
  | .timed _ _ _, _, h => Bool.noConfusion h.1
  | .bin w e f, d, h => by
    cases w
    case and => exact Bool.noConfusion h.1
    case or => exact Bool.noConfusion h.1
    case less => exact Bool.noConfusion h.1
    case atmost => exact Bool.noConfusion h.1
    case equal => exact Bool.noConfusion h.1
    all_goals
      have h1 := sem_sz hf hr e d h.2.1
      have h2 := sem_sz hf hr f d h.2.2
    · exact plus_sz h1 h2
    · exact plus_sz h1 (neg_sz h2)
    · exact (times_sz h1 h2).mono (by show bw e + bw f ≤ bw e + bw f + 1; omega)
    · exact smaller_sz (h1.mono (by show bw e ≤ bw e + bw f + 1; omega)) (h2.mono (by show bw f ≤ bw e + bw f + 1; omega))
    · exact greater_sz (h1.mono (by show bw e ≤ bw e + bw f + 1; omega)) (h2.mono (by show bw f ≤ bw e + bw f + 1; omega))
/-- a truth's value is a truth, a number's a number -/
theorem sem_sort {M : Md} : ∀ (e : Ex) (d : Nat) (s : Bool), WT e s → (s = true → sem M e d = .tru (sem M e d).t) ∧ (s = false → sem M e d = .num (sem M e d).n)
  | .lit w f, d, s, h => by
    obtain ⟨rfl, _⟩ := h
    cases w <;> exact ⟨fun z => Bool.noConfusion z, fun _ => rfl⟩
  | .ref w n, d, s, h => by
    have h' : s = false := h
    subst h'
    cases w <;> exact ⟨fun z => Bool.noConfusion z, fun _ => rfl⟩
  | .nam _ b, d, s, h => by
    obtain ⟨rfl, h⟩ := h
    exact sem_sort b d false h
  | .tt b, d, s, h => by
    have h' : s = true := h
    subst h'
    exact ⟨fun _ => rfl, fun z => Bool.noConfusion z⟩
  | .un c, d, s, h => by
    obtain ⟨rfl, _⟩ := h
    exact ⟨fun _ => rfl, fun z => Bool.noConfusion z⟩
  | .ite c e f, d, s, h => by
    have h1 := sem_sort (M := M) e d s h.2.1
    have h2 := sem_sort (M := M) f d s h.2.2
    have q : sem M (.ite c e f) d = if (sem M c d).t = true then sem M e d else sem M f d := rfl
    rw [q]
    split
    · exact h1
    · exact h2
  | .timed w k c, d, s, h => by
    obtain ⟨rfl, _⟩ := h
    cases w <;> exact ⟨fun _ => rfl, fun z => Bool.noConfusion z⟩
  | .bin w e f, d, s, h => by
    cases w <;> obtain ⟨rfl, _⟩ := h
    all_goals first
      | exact ⟨fun z => Bool.noConfusion z, fun _ => rfl⟩
      | exact ⟨fun _ => rfl, fun z => Bool.noConfusion z⟩

/-! ### lists of parts -/
inductive Cl : List Ex → Prop where
  | nil : Cl []
  | snoc {gs : List Ex} {e : Ex} : Cl gs → (∀ p ∈ parts e, p ∈ gs) → Cl (gs ++ [e])
theorem append_snoc_cases {gs pre post : List Ex} {e g : Ex} (h : gs ++ [e] = pre ++ g :: post) : (pre = gs ∧ g = e ∧ post = []) ∨ ∃ post', post = post' ++ [e] ∧ gs = pre ++ g :: post' := by
  rcases List.eq_nil_or_concat post with rfl | ⟨p', x, rfl⟩
  · have h' : gs ++ [e] = pre ++ [g] := h
    obtain ⟨h1, h2⟩ := List.append_inj' h' rfl
    exact .inl ⟨h1.symm, by simpa using h2.symm, rfl⟩
  · have h' : gs ++ [e] = (pre ++ g :: p') ++ [x] := by rw [h]; simp
    obtain ⟨h1, h2⟩ := List.append_inj' h' rfl
    have : e = x := by simpa using h2
    subst this
    exact .inr ⟨p', by simp, h1⟩
theorem Cl.at {gs : List Ex} (c : Cl gs) : ∀ {pre post : List Ex} {g : Ex}, gs = pre ++ g :: post → Cl pre ∧ ∀ p ∈ parts g, p ∈ pre := by
  induction c with
  | nil =>
    intro pre post g h
    have := congrArg List.length h
    simp at this
  | @snoc gs e c hp ih =>
    intro pre post g h
    rcases append_snoc_cases h with ⟨rfl, rfl, rfl⟩ | ⟨post', rfl, rfl⟩
    · exact ⟨c, hp⟩
    · exact ih rfl
theorem Cl.subs {gs : List Ex} (c : Cl gs) : ∀ g ∈ gs, ∀ x ∈ subs g, x ∈ gs := by
  induction c with
  | nil => intro g hg; simp at hg
  | @snoc gs e c hp ih =>
    intro g hg x hx
    rcases List.mem_append.mp hg with h | h
    · exact List.mem_append_left _ (ih g h x hx)
    · have : g = e := by simpa using h
      subst this
      rcases subs_cases hx with rfl | ⟨p, hpp, hxp⟩
      · exact hg
      · exact List.mem_append_left _ (ih p (hp p hpp) x hxp)
/-- what all_parts makes of the list -/
structure Ap (e : Ex) (gs gs' : List Ex) : Prop where
  ext : ∃ t, gs' = gs ++ t ∧ (∀ g ∈ t, g ∈ subs e) ∧ t.length ≤ (subs e).length
  mem : e ∈ gs'
  nd : gs.Nodup → gs'.Nodup
  cl : Cl gs → Cl gs'
/-- .. of several, one after the other -/
structure Aps (es : List Ex) (gs gs' : List Ex) : Prop where
  ext : ∃ t, gs' = gs ++ t ∧ (∀ g ∈ t, ∃ e ∈ es, g ∈ subs e) ∧ t.length ≤ (es.map fun e => (subs e).length).sum
  mem : ∀ e ∈ es, e ∈ gs'
  nd : gs.Nodup → gs'.Nodup
  cl : Cl gs → Cl gs'
theorem Aps.nil {gs : List Ex} : Aps [] gs gs := ⟨⟨[], by simp, by simp, by simp⟩, by simp, id, id⟩
theorem Aps.snoc {es gs gs1 gs2 : List Ex} {e : Ex} (a : Aps es gs gs1) (b : Ap e gs1 gs2) : Aps (es ++ [e]) gs gs2 := by
  obtain ⟨t, rfl, ht, hl⟩ := a.ext
  obtain ⟨u, rfl, hu, hm⟩ := b.ext
  refine ⟨⟨t ++ u, by simp, fun g hg => ?_, ?_⟩, fun x hx => ?_, fun h => b.nd (a.nd h), fun h => b.cl (a.cl h)⟩
  · rcases List.mem_append.mp hg with h | h
    · obtain ⟨x, hx, hs⟩ := ht g h
      exact ⟨x, List.mem_append_left _ hx, hs⟩
    · exact ⟨e, by simp, hu g h⟩
  · simp; omega
  · rcases List.mem_append.mp hx with h | h
    · exact List.mem_append_left _ (a.mem x h)
    · have : x = e := by simpa using h
      subst this; exact b.mem
theorem subs_len (e : Ex) : (subs e).length = ((parts e).map fun p => (subs p).length).sum + 1 := by
  cases e <;> simp [subs, parts] <;> omega
theorem Ap.done {e : Ex} {gs : List Ex} (h : e ∈ gs) : Ap e gs gs := ⟨⟨[], by simp, by simp, by simp⟩, h, id, id⟩
theorem Ap.end {e : Ex} {gs gs1 : List Ex} (a : Aps (parts e) gs gs1) (h : e ∈ gs1) : Ap e gs gs1 := by
  obtain ⟨t, rfl, ht, hl⟩ := a.ext
  refine ⟨⟨t, rfl, fun g hg => ?_, by rw [subs_len]; omega⟩, h, a.nd, a.cl⟩
  obtain ⟨x, hx, hs⟩ := ht g hg
  exact parts_subs hx _ hs
theorem Ap.add {e : Ex} {gs gs1 : List Ex} (a : Aps (parts e) gs gs1) (h : e ∉ gs1) : Ap e gs (gs1 ++ [e]) := by
  obtain ⟨t, rfl, ht, hl⟩ := a.ext
  refine ⟨⟨t ++ [e], by simp, fun g hg => ?_, by rw [subs_len]; simp; omega⟩, by simp, fun hn => ?_, fun hc => .snoc (a.cl hc) a.mem⟩
  · rcases List.mem_append.mp hg with h | h
    · obtain ⟨x, hx, hs⟩ := ht g h
      exact parts_subs hx _ hs
    · have : g = e := by simpa using h
      subst this; exact self_subs g
  · refine List.nodup_append.mpr ⟨a.nd hn, by simp, fun x hx y hy q => ?_⟩
    have : y = e := by simpa using hy
    subst this; subst q
    exact h hx
def Ex.isT : Ex → Bool
  | .timed _ _ _ => true
  | _ => false
def Ex.days : Ex → Nat
  | .timed _ k _ => k
  | _ => 0
/-- the timed ones -/
def tl (gs : List Ex) : List Ex := gs.filter Ex.isT
theorem filter_split {gs : List Ex} {p : Ex → Bool} : ∀ {i : Nat} {g : Ex}, (gs.filter p)[i]? = some g → ∃ pre post, gs = pre ++ g :: post ∧ (pre.filter p).length = i ∧ p g = true := by
  induction gs with
  | nil => intro i g h; simp at h
  | cons x r ih =>
    intro i g h
    by_cases hx : p x = true
    · rw [List.filter_cons_of_pos hx] at h
      cases i with
      | zero =>
        have : x = g := by simpa using h
        subst this
        exact ⟨[], r, by simp, by simp, hx⟩
      | succ i =>
        obtain ⟨pre, post, e, hl, hp⟩ := ih (i := i) (g := g) (by simpa using h)
        exact ⟨x :: pre, post, by rw [e]; simp, by rw [List.filter_cons_of_pos hx, List.length_cons, hl], hp⟩
    · rw [List.filter_cons_of_neg hx] at h
      obtain ⟨pre, post, e, hl, hp⟩ := ih h
      exact ⟨x :: pre, post, by rw [e]; simp, by rw [List.filter_cons_of_neg hx, hl], hp⟩
/-- the timed truths within a timed one stand ahead of it -/
theorem tl_before {gs : List Ex} (c : Cl gs) {i : Nat} {g x : Ex} (h : (tl gs)[i]? = some g) {p : Ex} (hp : p ∈ parts g) (hx : x ∈ subs p) (ht : x.isT = true) : ∃ j, j < i ∧ (tl gs)[j]? = some x := by
  obtain ⟨pre, post, e, hl, hg⟩ := filter_split h
  obtain ⟨cp, hpp⟩ := c.at e
  have hm : x ∈ pre := cp.subs p (hpp p hp) x hx
  have hf : x ∈ pre.filter Ex.isT := List.mem_filter.mpr ⟨hm, ht⟩
  obtain ⟨j, hj, e2⟩ := List.mem_iff_getElem.mp hf
  refine ⟨j, by omega, ?_⟩
  unfold tl
  rw [e, List.filter_append, List.getElem?_append_left hj, List.getElem?_eq_getElem hj, e2]
theorem tl_all {gs : List Ex} (c : Cl gs) {e x : Ex} (he : e ∈ gs) (hx : x ∈ subs e) (ht : x.isT = true) : ∃ j, j < (tl gs).length ∧ (tl gs)[j]? = some x := by
  have hf : x ∈ tl gs := List.mem_filter.mpr ⟨c.subs e he x hx, ht⟩
  obtain ⟨j, hj, e2⟩ := List.mem_iff_getElem.mp hf
  exact ⟨j, hj, by rw [List.getElem?_eq_getElem hj, e2]⟩

/-- what _law_timed_parts makes of its list -/
structure Tp (e : Ex) (gs gs' : List Ex) : Prop where
  nd : gs.Nodup → gs'.Nodup
  mem : ∀ x, x ∈ gs' ↔ x ∈ gs ∨ (x.isT = true ∧ x ∈ subs e)
  len : gs'.length ≤ gs.length + (subs e).length
structure Tps (es : List Ex) (gs gs' : List Ex) : Prop where
  nd : gs.Nodup → gs'.Nodup
  mem : ∀ x, x ∈ gs' ↔ x ∈ gs ∨ (x.isT = true ∧ ∃ e ∈ es, x ∈ subs e)
  len : gs'.length ≤ gs.length + (es.map fun e => (subs e).length).sum
theorem Tps.nil {gs : List Ex} : Tps [] gs gs := ⟨id, by simp, by simp⟩
theorem Tps.snoc {es gs gs1 gs2 : List Ex} {e : Ex} (a : Tps es gs gs1) (b : Tp e gs1 gs2) : Tps (es ++ [e]) gs gs2 := by
  refine ⟨fun h => b.nd (a.nd h), fun x => ?_, ?_⟩
  · rw [b.mem, a.mem]
    constructor
    · rintro ((h | ⟨h1, x', hx, h2⟩) | ⟨h1, h2⟩)
      · exact .inl h
      · exact .inr ⟨h1, x', List.mem_append_left _ hx, h2⟩
      · exact .inr ⟨h1, e, by simp, h2⟩
    · rintro (h | ⟨h1, x', hx, h2⟩)
      · exact .inl (.inl h)
      · rcases List.mem_append.mp hx with h | h
        · exact .inl (.inr ⟨h1, x', h, h2⟩)
        · have : x' = e := by simpa using h
          subst this; exact .inr ⟨h1, h2⟩
  · have h1 := a.len
    have h2 := b.len
    simp; omega
theorem Tp.end {e : Ex} {gs gs1 : List Ex} (a : Tps (parts e) gs gs1) (h : e.isT = true → e ∈ gs1) : Tp e gs gs1 := by
  refine ⟨a.nd, fun x => ?_, by have := a.len; rw [subs_len]; omega⟩
  constructor
  · intro hx
    rcases (a.mem x).mp hx with h1 | ⟨h1, p, hp, hs⟩
    · exact .inl h1
    · exact .inr ⟨h1, parts_subs hp _ hs⟩
  · rintro (h1 | ⟨h1, h2⟩)
    · exact (a.mem x).mpr (.inl h1)
    · rcases subs_cases h2 with rfl | ⟨p, hp, hs⟩
      · exact h h1
      · exact (a.mem x).mpr (.inr ⟨h1, p, hp, hs⟩)
theorem Tp.add {e : Ex} {gs gs1 : List Ex} (a : Tps (parts e) gs gs1) (ht : e.isT = true) (h : e ∉ gs1) : Tp e gs (gs1 ++ [e]) := by
  refine ⟨fun hn => ?_, fun x => ?_, by have := a.len; rw [subs_len]; simp; omega⟩
  · refine List.nodup_append.mpr ⟨a.nd hn, by simp, fun x hx y hy q => ?_⟩
    have : y = e := by simpa using hy
    subst this; subst q
    exact h hx
  · rw [List.mem_append, a.mem]
    constructor
    · rintro ((h1 | ⟨h1, p, hp, hs⟩) | h1)
      · exact .inl h1
      · exact .inr ⟨h1, parts_subs hp _ hs⟩
      · have : x = e := by simpa using h1
        subst this; exact .inr ⟨ht, self_subs x⟩
    · rintro (h1 | ⟨h1, h2⟩)
      · exact .inl (.inl h1)
      · rcases subs_cases h2 with rfl | ⟨p, hp, hs⟩
        · exact .inr (by simp)
        · exact .inl (.inr ⟨h1, p, hp, hs⟩)
theorem perm_sum {xs ys : List Int} (h : xs.Perm ys) : xs.sum = ys.sum := by
  induction h with
  | nil => rfl
  | cons x _ ih => simp [ih]
  | swap x y l => simp; omega
  | trans _ _ h1 h2 => exact h1.trans h2
/-- two lists of the same members, none twice: the same sums -/
theorem sum_same {α : Type} [DecidableEq α] (f : α → Int) : ∀ {xs ys : List α}, xs.Nodup → ys.Nodup → (∀ x, x ∈ xs ↔ x ∈ ys) → (xs.map f).sum = (ys.map f).sum := by
  intro xs
  induction xs with
  | nil =>
    intro ys _ _ h
    cases ys with
    | nil => rfl
    | cons y r => exact absurd ((h y).mpr (by simp)) (by simp)
  | cons x r ih =>
    intro ys hx hy h
    obtain ⟨hx1, hx2⟩ := List.nodup_cons.mp hx
    have hm : x ∈ ys := (h x).mp (by simp)
    have e1 : (ys.map f).sum = f x + ((ys.erase x).map f).sum := by
      have : ys.Perm (x :: ys.erase x) := List.perm_cons_erase hm
      have h2 := perm_sum (this.map f)
      simpa using h2
    rw [e1, List.map_cons, List.sum_cons]
    congr 1
    refine ih hx2 (hy.erase x) fun z => ?_
    rw [hy.mem_erase_iff]
    constructor
    · intro hz
      exact ⟨fun q => hx1 (q ▸ hz), (h z).mp (List.mem_cons_of_mem _ hz)⟩
    · rintro ⟨h1, h2⟩
      rcases List.mem_cons.mp ((h z).mpr h2) with q | q
      · exact absurd q h1
      · exact q
end KW
set_option maxRecDepth 100000
set_option maxHeartbeats 4000000
/-! The text by places, the scopes of its defs, heaps. -/
namespace KW
open PySem L2
def top (i : Nat) : Stmt := PySem.Challenge.pw_consol_k23_whole_watches_tell_the_value.main.body.getD i (.Pass ⟨0, 0, 0, 0⟩)
/-- UnknownLet.__init__: 0 self, 1 name -/
abbrev s_UnknownLet_init : Stmt := inClass (top 3) 0
abbrev n_UnknownLet_init : List Str := ["self", "name"]
abbrev p_UnknownLet_init : List Str := ["self", "name"]
theorem sc_UnknownLet_init : FnScope n_UnknownLet_init p_UnknownLet_init (defScope s_UnknownLet_init) := ⟨rfl, rfl, rfl, by decide +kernel, rfl, by decide +kernel, by decide +kernel⟩
/-- MissingFact.__init__: 0 self, 1 name, 2 day -/
abbrev s_MissingFact_init : Stmt := inClass (top 4) 0
abbrev n_MissingFact_init : List Str := ["self", "name", "day"]
abbrev p_MissingFact_init : List Str := ["self", "name", "day"]
theorem sc_MissingFact_init : FnScope n_MissingFact_init p_MissingFact_init (defScope s_MissingFact_init) := ⟨rfl, rfl, rfl, by decide +kernel, rfl, by decide +kernel, by decide +kernel⟩
/-- MissingRate.__init__: 0 self, 1 name, 2 day -/
abbrev s_MissingRate_init : Stmt := inClass (top 5) 0
abbrev n_MissingRate_init : List Str := ["self", "name", "day"]
abbrev p_MissingRate_init : List Str := ["self", "name", "day"]
theorem sc_MissingRate_init : FnScope n_MissingRate_init p_MissingRate_init (defScope s_MissingRate_init) := ⟨rfl, rfl, rfl, by decide +kernel, rfl, by decide +kernel, by decide +kernel⟩
/-- fraction: 0 p, 1 q, 2 common -/
abbrev s_fraction : Stmt := top 9
abbrev n_fraction : List Str := ["p", "q", "common"]
abbrev p_fraction : List Str := ["p", "q"]
theorem sc_fraction : FnScope n_fraction p_fraction (defScope s_fraction) := ⟨rfl, rfl, rfl, by decide +kernel, rfl, by decide +kernel, by decide +kernel⟩
/-- plus: 0 a, 1 b -/
abbrev s_plus : Stmt := top 10
abbrev n_plus : List Str := ["a", "b"]
abbrev p_plus : List Str := ["a", "b"]
theorem sc_plus : FnScope n_plus p_plus (defScope s_plus) := ⟨rfl, rfl, rfl, by decide +kernel, rfl, by decide +kernel, by decide +kernel⟩
/-- opposite: 0 a -/
abbrev s_opposite : Stmt := top 11
abbrev n_opposite : List Str := ["a"]
abbrev p_opposite : List Str := ["a"]
theorem sc_opposite : FnScope n_opposite p_opposite (defScope s_opposite) := ⟨rfl, rfl, rfl, by decide +kernel, rfl, by decide +kernel, by decide +kernel⟩
/-- minus: 0 a, 1 b -/
abbrev s_minus : Stmt := top 12
abbrev n_minus : List Str := ["a", "b"]
abbrev p_minus : List Str := ["a", "b"]
theorem sc_minus : FnScope n_minus p_minus (defScope s_minus) := ⟨rfl, rfl, rfl, by decide +kernel, rfl, by decide +kernel, by decide +kernel⟩
/-- times: 0 a, 1 b -/
abbrev s_times : Stmt := top 13
abbrev n_times : List Str := ["a", "b"]
abbrev p_times : List Str := ["a", "b"]
theorem sc_times : FnScope n_times p_times (defScope s_times) := ⟨rfl, rfl, rfl, by decide +kernel, rfl, by decide +kernel, by decide +kernel⟩
/-- order: 0 a, 1 b, 2 left, 3 right -/
abbrev s_order : Stmt := top 14
abbrev n_order : List Str := ["a", "b", "left", "right"]
abbrev p_order : List Str := ["a", "b"]
theorem sc_order : FnScope n_order p_order (defScope s_order) := ⟨rfl, rfl, rfl, by decide +kernel, rfl, by decide +kernel, by decide +kernel⟩
/-- smaller: 0 a, 1 b -/
abbrev s_smaller : Stmt := top 15
abbrev n_smaller : List Str := ["a", "b"]
abbrev p_smaller : List Str := ["a", "b"]
theorem sc_smaller : FnScope n_smaller p_smaller (defScope s_smaller) := ⟨rfl, rfl, rfl, by decide +kernel, rfl, by decide +kernel, by decide +kernel⟩
/-- greater: 0 a, 1 b -/
abbrev s_greater : Stmt := top 16
abbrev n_greater : List Str := ["a", "b"]
abbrev p_greater : List Str := ["a", "b"]
theorem sc_greater : FnScope n_greater p_greater (defScope s_greater) := ⟨rfl, rfl, rfl, by decide +kernel, rfl, by decide +kernel, by decide +kernel⟩
/-- History.__init__: 0 self, 1 lets, 2 facts, 3 rates -/
abbrev s_History_init : Stmt := inClass (top 20) 0
abbrev n_History_init : List Str := ["self", "lets", "facts", "rates"]
abbrev p_History_init : List Str := ["self", "lets", "facts", "rates"]
theorem sc_History_init : FnScope n_History_init p_History_init (defScope s_History_init) := ⟨rfl, rfl, rfl, by decide +kernel, rfl, by decide +kernel, by decide +kernel⟩
/-- History.fact: 0 self, 1 name, 2 day -/
abbrev s_History_fact : Stmt := inClass (top 20) 1
abbrev n_History_fact : List Str := ["self", "name", "day"]
abbrev p_History_fact : List Str := ["self", "name", "day"]
theorem sc_History_fact : FnScope n_History_fact p_History_fact (defScope s_History_fact) := ⟨rfl, rfl, rfl, by decide +kernel, rfl, by decide +kernel, by decide +kernel⟩
/-- History.rate: 0 self, 1 name, 2 day -/
abbrev s_History_rate : Stmt := inClass (top 20) 2
abbrev n_History_rate : List Str := ["self", "name", "day"]
abbrev p_History_rate : List Str := ["self", "name", "day"]
theorem sc_History_rate : FnScope n_History_rate p_History_rate (defScope s_History_rate) := ⟨rfl, rfl, rfl, by decide +kernel, rfl, by decide +kernel, by decide +kernel⟩
/-- History.timed: 0 self, 1 expression, 2 day, 3 word, 4 days, 5 part, 6 past -/
abbrev s_History_timed : Stmt := inClass (top 20) 3
abbrev n_History_timed : List Str := ["self", "expression", "day", "word", "days", "part", "past"]
abbrev p_History_timed : List Str := ["self", "expression", "day"]
theorem sc_History_timed : FnScope n_History_timed p_History_timed (defScope s_History_timed) := ⟨rfl, rfl, rfl, by decide +kernel, rfl, by decide +kernel, by decide +kernel⟩
/-- Today.__init__: 0 self, 1 lets, 2 facts, 3 rates, 4 parts -/
abbrev s_Today_init : Stmt := inClass (top 21) 0
abbrev n_Today_init : List Str := ["self", "lets", "facts", "rates", "parts"]
abbrev p_Today_init : List Str := ["self", "lets", "facts", "rates", "parts"]
theorem sc_Today_init : FnScope n_Today_init p_Today_init (defScope s_Today_init) := ⟨rfl, rfl, rfl, by decide +kernel, rfl, by decide +kernel, by decide +kernel⟩
/-- Today.fact: 0 self, 1 name, 2 day -/
abbrev s_Today_fact : Stmt := inClass (top 21) 1
abbrev n_Today_fact : List Str := ["self", "name", "day"]
abbrev p_Today_fact : List Str := ["self", "name", "day"]
theorem sc_Today_fact : FnScope n_Today_fact p_Today_fact (defScope s_Today_fact) := ⟨rfl, rfl, rfl, by decide +kernel, rfl, by decide +kernel, by decide +kernel⟩
/-- Today.rate: 0 self, 1 name, 2 day -/
abbrev s_Today_rate : Stmt := inClass (top 21) 2
abbrev n_Today_rate : List Str := ["self", "name", "day"]
abbrev p_Today_rate : List Str := ["self", "name", "day"]
theorem sc_Today_rate : FnScope n_Today_rate p_Today_rate (defScope s_Today_rate) := ⟨rfl, rfl, rfl, by decide +kernel, rfl, by decide +kernel, by decide +kernel⟩
/-- Today.timed: 0 self, 1 expression, 2 _ -/
abbrev s_Today_timed : Stmt := inClass (top 21) 3
abbrev n_Today_timed : List Str := ["self", "expression", "_"]
abbrev p_Today_timed : List Str := ["self", "expression", "_"]
theorem sc_Today_timed : FnScope n_Today_timed p_Today_timed (defScope s_Today_timed) := ⟨rfl, rfl, rfl, by decide +kernel, rfl, by decide +kernel, by decide +kernel⟩
/-- let_of: 0 lets, 1 name -/
abbrev s_let_of : Stmt := top 22
abbrev n_let_of : List Str := ["lets", "name"]
abbrev p_let_of : List Str := ["lets", "name"]
theorem sc_let_of : FnScope n_let_of p_let_of (defScope s_let_of) := ⟨rfl, rfl, rfl, by decide +kernel, rfl, by decide +kernel, by decide +kernel⟩
/-- combined: 0 word, 1 first, 2 second -/
abbrev s_combined : Stmt := top 23
abbrev n_combined : List Str := ["word", "first", "second"]
abbrev p_combined : List Str := ["word", "first", "second"]
theorem sc_combined : FnScope n_combined p_combined (defScope s_combined) := ⟨rfl, rfl, rfl, by decide +kernel, rfl, by decide +kernel, by decide +kernel⟩
/-- let_value: 0 name, 1 world, 2 day -/
abbrev s_let_value : Stmt := top 24
abbrev n_let_value : List Str := ["name", "world", "day"]
abbrev p_let_value : List Str := ["name", "world", "day"]
theorem sc_let_value : FnScope n_let_value p_let_value (defScope s_let_value) := ⟨rfl, rfl, rfl, by decide +kernel, rfl, by decide +kernel, by decide +kernel⟩
/-- evaluated: 0 expression, 1 world, 2 day, 3 word, 4 first, 5 second -/
abbrev s_evaluated : Stmt := top 25
abbrev n_evaluated : List Str := ["expression", "world", "day", "word", "first", "second"]
abbrev p_evaluated : List Str := ["expression", "world", "day"]
theorem sc_evaluated : FnScope n_evaluated p_evaluated (defScope s_evaluated) := ⟨rfl, rfl, rfl, by decide +kernel, rfl, by decide +kernel, by decide +kernel⟩
/-- value: 0 expression, 1 lets, 2 day, 3 facts, 4 rates -/
abbrev s_value : Stmt := top 26
abbrev n_value : List Str := ["expression", "lets", "day", "facts", "rates"]
abbrev p_value : List Str := ["expression", "lets", "day", "facts", "rates"]
theorem sc_value : FnScope n_value p_value (defScope s_value) := ⟨rfl, rfl, rfl, by decide +kernel, rfl, by decide +kernel, by decide +kernel⟩
/-- parts_of: 0 expression*, 1 lets, 2 index -/
abbrev s_parts_of : Stmt := top 27
abbrev n_parts_of : List Str := ["expression", "lets", "index"]
abbrev p_parts_of : List Str := ["expression", "lets"]
theorem sc_parts_of : FnScope n_parts_of p_parts_of (defScope s_parts_of) := ⟨rfl, rfl, rfl, by decide +kernel, rfl, by decide +kernel, by decide +kernel⟩
/-- all_parts: 0 expression, 1 lets, 2 found, 3 part -/
abbrev s_all_parts : Stmt := top 28
abbrev n_all_parts : List Str := ["expression", "lets", "found", "part"]
abbrev p_all_parts : List Str := ["expression", "lets", "found"]
theorem sc_all_parts : FnScope n_all_parts p_all_parts (defScope s_all_parts) := ⟨rfl, rfl, rfl, by decide +kernel, rfl, by decide +kernel, by decide +kernel⟩
/-- Watch.__init__: 0 self, 1 expression, 2 lets, 3 found, 4 part, 5 _ -/
abbrev s_Watch_init : Stmt := inClass (top 29) 0
abbrev n_Watch_init : List Str := ["self", "expression", "lets", "found", "part", "_"]
abbrev p_Watch_init : List Str := ["self", "expression", "lets"]
theorem sc_Watch_init : FnScope n_Watch_init p_Watch_init (defScope s_Watch_init) := ⟨rfl, rfl, rfl, by decide +kernel, rfl, by decide +kernel, by decide +kernel⟩
/-- Watch.next_day: 0 self -/
abbrev s_Watch_next_day : Stmt := inClass (top 29) 1
abbrev n_Watch_next_day : List Str := ["self"]
abbrev p_Watch_next_day : List Str := ["self"]
theorem sc_Watch_next_day : FnScope n_Watch_next_day p_Watch_next_day (defScope s_Watch_next_day) := ⟨rfl, rfl, rfl, by decide +kernel, rfl, by decide +kernel, by decide +kernel⟩
/-- Watch.kept: 0 self, 1 truths -/
abbrev s_Watch_kept : Stmt := inClass (top 29) 2
abbrev n_Watch_kept : List Str := ["self", "truths"]
abbrev p_Watch_kept : List Str := ["self"]
theorem sc_Watch_kept : FnScope n_Watch_kept p_Watch_kept (defScope s_Watch_kept) := ⟨rfl, rfl, rfl, by decide +kernel, rfl, by decide +kernel, by decide +kernel⟩
/-- Watch.truth_of: 0 self, 1 part, 2 truths, 3 word, 4 days, 5 _ -/
abbrev s_Watch_truth_of : Stmt := inClass (top 29) 3
abbrev n_Watch_truth_of : List Str := ["self", "part", "truths", "word", "days", "_"]
abbrev p_Watch_truth_of : List Str := ["self", "part", "truths"]
theorem sc_Watch_truth_of : FnScope n_Watch_truth_of p_Watch_truth_of (defScope s_Watch_truth_of) := ⟨rfl, rfl, rfl, by decide +kernel, rfl, by decide +kernel, by decide +kernel⟩
/-- Watch.step: 0 self, 1 facts, 2 rates, 3 today, 4 following, 5 part, 6 past, 7 truths, 8 result -/
abbrev s_Watch_step : Stmt := inClass (top 29) 4
abbrev n_Watch_step : List Str := ["self", "facts", "rates", "today", "following", "part", "past", "truths", "result"]
abbrev p_Watch_step : List Str := ["self", "facts", "rates"]
theorem sc_Watch_step : FnScope n_Watch_step p_Watch_step (defScope s_Watch_step) := ⟨rfl, rfl, rfl, by decide +kernel, rfl, by decide +kernel, by decide +kernel⟩
/-- _law_draws: 0 _law_script, 1 _law_draws_here, 2 _law_cell, 3 _law_number, 4 _law_first, 5 _law_k, 6 _law_seed -/
abbrev s_law_draws : Stmt := top 31
abbrev n_law_draws : List Str := ["_law_script", "_law_draws_here", "_law_cell", "_law_number", "_law_first", "_law_k", "_law_seed"]
abbrev p_law_draws : List Str := ["_law_script"]
theorem sc_law_draws : FnScope n_law_draws p_law_draws (defScope s_law_draws) := ⟨rfl, rfl, rfl, by decide +kernel, rfl, by decide +kernel, by decide +kernel⟩
/-- _law_take: 0 _law_draws_here, 1 _law_bound -/
abbrev s_law_take : Stmt := top 32
abbrev n_law_take : List Str := ["_law_draws_here", "_law_bound"]
abbrev p_law_take : List Str := ["_law_draws_here", "_law_bound"]
theorem sc_law_take : FnScope n_law_take p_law_take (defScope s_law_take) := ⟨rfl, rfl, rfl, by decide +kernel, rfl, by decide +kernel, by decide +kernel⟩
/-- _law_keys: 0 _law_words -/
abbrev s_law_keys : Stmt := top 33
abbrev n_law_keys : List Str := ["_law_words"]
abbrev p_law_keys : List Str := []
theorem sc_law_keys : FnScope n_law_keys p_law_keys (defScope s_law_keys) := ⟨rfl, rfl, rfl, by decide +kernel, rfl, by decide +kernel, by decide +kernel⟩
/-- _law_names: 0 _law_draws_here, 1 _law_many, 2 _law_letters, 3 _law_names_here, 4 _law_k, 5 _law_name, 6 _law_j -/
abbrev s_law_names : Stmt := top 34
abbrev n_law_names : List Str := ["_law_draws_here", "_law_many", "_law_letters", "_law_names_here", "_law_k", "_law_name", "_law_j"]
abbrev p_law_names : List Str := ["_law_draws_here", "_law_many"]
theorem sc_law_names : FnScope n_law_names p_law_names (defScope s_law_names) := ⟨rfl, rfl, rfl, by decide +kernel, rfl, by decide +kernel, by decide +kernel⟩
/-- _law_make: 0 _law_p, 1 _law_q, 2 _law_a, 3 _law_b, 4 _law_k, 5 _law_rest -/
abbrev s_law_make : Stmt := top 35
abbrev n_law_make : List Str := ["_law_p", "_law_q", "_law_a", "_law_b", "_law_k", "_law_rest"]
abbrev p_law_make : List Str := ["_law_p", "_law_q"]
theorem sc_law_make : FnScope n_law_make p_law_make (defScope s_law_make) := ⟨rfl, rfl, rfl, by decide +kernel, rfl, by decide +kernel, by decide +kernel⟩
/-- _law_fraction: 0 _law_draws_here, 1 _law_least, 2 _law_kind, 3 _law_small -/
abbrev s_law_fraction : Stmt := top 36
abbrev n_law_fraction : List Str := ["_law_draws_here", "_law_least", "_law_kind", "_law_small"]
abbrev p_law_fraction : List Str := ["_law_draws_here", "_law_least"]
theorem sc_law_fraction : FnScope n_law_fraction p_law_fraction (defScope s_law_fraction) := ⟨rfl, rfl, rfl, by decide +kernel, rfl, by decide +kernel, by decide +kernel⟩
/-- _law_literal: 0 _law_draws_here, 1 _law_kind, 2 _law_number -/
abbrev s_law_literal : Stmt := top 37
abbrev n_law_literal : List Str := ["_law_draws_here", "_law_kind", "_law_number"]
abbrev p_law_literal : List Str := ["_law_draws_here", "_law_kind"]
theorem sc_law_literal : FnScope n_law_literal p_law_literal (defScope s_law_literal) := ⟨rfl, rfl, rfl, by decide +kernel, rfl, by decide +kernel, by decide +kernel⟩
/-- _law_leaf: 0 _law_draws_here, 1 _law_kind*, 2 _law_names_here, 3 _law_lets_here, 4 _law_which, 5 _law_fitting, 6 _law_row -/
abbrev s_law_leaf : Stmt := top 38
abbrev n_law_leaf : List Str := ["_law_draws_here", "_law_kind", "_law_names_here", "_law_lets_here", "_law_which", "_law_fitting", "_law_row"]
abbrev p_law_leaf : List Str := ["_law_draws_here", "_law_kind", "_law_names_here", "_law_lets_here"]
theorem sc_law_leaf : FnScope n_law_leaf p_law_leaf (defScope s_law_leaf) := ⟨rfl, rfl, rfl, by decide +kernel, rfl, by decide +kernel, by decide +kernel⟩
/-- _law_factors: 0 _law_draws_here, 1 _law_kind, 2 _law_other -/
abbrev s_law_factors : Stmt := top 39
abbrev n_law_factors : List Str := ["_law_draws_here", "_law_kind", "_law_other"]
abbrev p_law_factors : List Str := ["_law_draws_here", "_law_kind"]
theorem sc_law_factors : FnScope n_law_factors p_law_factors (defScope s_law_factors) := ⟨rfl, rfl, rfl, by decide +kernel, rfl, by decide +kernel, by decide +kernel⟩
/-- _law_truth: 0 _law_draws_here, 1 _law_names_here, 2 _law_lets_here, 3 _law_depth, 4 _law_which, 5 _law_kind, 6 _law_first, 7 _law_days -/
abbrev s_law_truth : Stmt := top 40
abbrev n_law_truth : List Str := ["_law_draws_here", "_law_names_here", "_law_lets_here", "_law_depth", "_law_which", "_law_kind", "_law_first", "_law_days"]
abbrev p_law_truth : List Str := ["_law_draws_here", "_law_names_here", "_law_lets_here", "_law_depth"]
theorem sc_law_truth : FnScope n_law_truth p_law_truth (defScope s_law_truth) := ⟨rfl, rfl, rfl, by decide +kernel, rfl, by decide +kernel, by decide +kernel⟩
/-- _law_built: 0 _law_draws_here, 1 _law_kind, 2 _law_names_here, 3 _law_lets_here, 4 _law_depth, 5 _law_which, 6 _law_condition, 7 _law_first, 8 _law_kinds -/
abbrev s_law_built : Stmt := top 41
abbrev n_law_built : List Str := ["_law_draws_here", "_law_kind", "_law_names_here", "_law_lets_here", "_law_depth", "_law_which", "_law_condition", "_law_first", "_law_kinds"]
abbrev p_law_built : List Str := ["_law_draws_here", "_law_kind", "_law_names_here", "_law_lets_here", "_law_depth"]
theorem sc_law_built : FnScope n_law_built p_law_built (defScope s_law_built) := ⟨rfl, rfl, rfl, by decide +kernel, rfl, by decide +kernel, by decide +kernel⟩
/-- _law_lets: 0 _law_draws_here, 1 _law_names_here, 2 _law_lets_here, 3 _law_kinds, 4 _law_name, 5 _law_kind -/
abbrev s_law_lets : Stmt := top 42
abbrev n_law_lets : List Str := ["_law_draws_here", "_law_names_here", "_law_lets_here", "_law_kinds", "_law_name", "_law_kind"]
abbrev p_law_lets : List Str := ["_law_draws_here", "_law_names_here"]
theorem sc_law_lets : FnScope n_law_lets p_law_lets (defScope s_law_lets) := ⟨rfl, rfl, rfl, by decide +kernel, rfl, by decide +kernel, by decide +kernel⟩
/-- _law_history: 0 _law_draws_here*, 1 _law_names_here, 2 _law_days, 3 _law_facts, 4 _law_rates, 5 _law_k, 6 _law_day_here -/
abbrev s_law_history : Stmt := top 43
abbrev n_law_history : List Str := ["_law_draws_here", "_law_names_here", "_law_days", "_law_facts", "_law_rates", "_law_k", "_law_day_here"]
abbrev p_law_history : List Str := ["_law_draws_here", "_law_names_here", "_law_days"]
theorem sc_law_history : FnScope n_law_history p_law_history (defScope s_law_history) := ⟨rfl, rfl, rfl, by decide +kernel, rfl, by decide +kernel, by decide +kernel⟩
/-- _law_near: 0 _law_draws_here, 1 _law_expression, 2 _law_history_here, 3 _law_parts, 4 _law_part -/
abbrev s_law_near : Stmt := top 44
abbrev n_law_near : List Str := ["_law_draws_here", "_law_expression", "_law_history_here", "_law_parts", "_law_part"]
abbrev p_law_near : List Str := ["_law_draws_here", "_law_expression", "_law_history_here"]
theorem sc_law_near : FnScope n_law_near p_law_near (defScope s_law_near) := ⟨rfl, rfl, rfl, by decide +kernel, rfl, by decide +kernel, by decide +kernel⟩
/-- _law_same: 0 _law_actual, 1 _law_due, 2 _law_k -/
abbrev s_law_same : Stmt := top 45
abbrev n_law_same : List Str := ["_law_actual", "_law_due", "_law_k"]
abbrev p_law_same : List Str := ["_law_actual", "_law_due"]
theorem sc_law_same : FnScope n_law_same p_law_same (defScope s_law_same) := ⟨rfl, rfl, rfl, by decide +kernel, rfl, by decide +kernel, by decide +kernel⟩
/-- _law_timed_parts: 0 _law_expression*, 1 _law_lets_here, 2 _law_found, 3 _law_part, 4 _law_row -/
abbrev s_law_timed_parts : Stmt := top 46
abbrev n_law_timed_parts : List Str := ["_law_expression", "_law_lets_here", "_law_found", "_law_part", "_law_row"]
abbrev p_law_timed_parts : List Str := ["_law_expression", "_law_lets_here", "_law_found"]
theorem sc_law_timed_parts : FnScope n_law_timed_parts p_law_timed_parts (defScope s_law_timed_parts) := ⟨rfl, rfl, rfl, by decide +kernel, rfl, by decide +kernel, by decide +kernel⟩
/-- _law_day: 0 _law_history_here, 1 _law_day_here, 2 _law_facts, 3 _law_rates, 4 _law_name -/
abbrev s_law_day : Stmt := top 47
abbrev n_law_day : List Str := ["_law_history_here", "_law_day_here", "_law_facts", "_law_rates", "_law_name"]
abbrev p_law_day : List Str := ["_law_history_here", "_law_day_here"]
theorem sc_law_day : FnScope n_law_day p_law_day (defScope s_law_day) := ⟨rfl, rfl, rfl, by decide +kernel, rfl, by decide +kernel, by decide +kernel⟩
/-- _law_lacking: 0 _law_draws_here, 1 _law_watch, 2 _law_given, 3 _law_names_here, 4 _law_day_here, 5 _law_facts, 6 _law_rates, 7 _law_which, 8 _law_count, 9 e -/
abbrev s_law_lacking : Stmt := top 48
abbrev n_law_lacking : List Str := ["_law_draws_here", "_law_watch", "_law_given", "_law_names_here", "_law_day_here", "_law_facts", "_law_rates", "_law_which", "_law_count", "e"]
abbrev p_law_lacking : List Str := ["_law_draws_here", "_law_watch", "_law_given", "_law_names_here", "_law_day_here"]
theorem sc_law_lacking : FnScope n_law_lacking p_law_lacking (defScope s_law_lacking) := ⟨rfl, rfl, rfl, by decide +kernel, rfl, by decide +kernel, by decide +kernel⟩
/-- law: 0 _law_script, 1 _law_draws_here, 2 _law_names_here, 3 _law_lets_here, 4 _law_days, 5 _law_history_here, 6 _law_truth_here, 7 _law_k, 8 _law_watch, 9 _law_second, 10 _law_timed, 11 _law_day_here*, 12 _law_given, 13 _law_kept, 14 _law_moved, 15 _law_due, 16 _law_part -/
abbrev s_law : Stmt := top 49
abbrev n_law : List Str := ["_law_script", "_law_draws_here", "_law_names_here", "_law_lets_here", "_law_days", "_law_history_here", "_law_truth_here", "_law_k", "_law_watch", "_law_second", "_law_timed", "_law_day_here", "_law_given", "_law_kept", "_law_moved", "_law_due", "_law_part"]
abbrev p_law : List Str := ["_law_script"]
theorem sc_law : FnScope n_law p_law (defScope s_law) := ⟨rfl, rfl, rfl, by decide +kernel, rfl, by decide +kernel, by decide +kernel⟩
end KW
set_option maxRecDepth 100000
set_option maxHeartbeats 4000000
/-! Heaps; expressions, numbers as they lie; the facts of the written part. -/
namespace KW
open PySem L2
/-! ### what stays -/
/-- kept: all but those in S; tuples stay everywhere; what is there stays there -/
structure Kp (S : List Addr) (H H' : Hp) : Prop where
  keep : ∀ b o, H b = some o → b ∉ S → H' b = some o
  tup : ∀ b xs, H b = some (.tup xs) → H' b = some (.tup xs)
  there : ∀ b o, H b = some o → ∃ o', H' b = some o'
theorem Kp.refl {S : List Addr} {H : Hp} : Kp S H H := ⟨fun _ _ h _ => h, fun _ _ h => h, fun _ o h => ⟨o, h⟩⟩
theorem Kp.trans {S : List Addr} {H H1 H2 : Hp} (a : Kp S H H1) (b : Kp S H1 H2) : Kp S H H2 :=
  ⟨fun c o h n => b.keep c o (a.keep c o h n) n, fun c xs h => b.tup c xs (a.tup c xs h), fun c o h => by
    obtain ⟨o1, h1⟩ := a.there c o h
    exact b.there c o1 h1⟩
theorem Kp.sub {S T : List Addr} {H H' : Hp} (a : Kp S H H') (h : ∀ b ∈ S, b ∈ T) : Kp T H H' := ⟨fun c o e n => a.keep c o e fun z => n (h c z), a.tup, a.there⟩
theorem Kp.nil {S : List Addr} {H H' : Hp} (a : Kp [] H H') : Kp S H H' := a.sub fun b z => absurd z (by simp)
theorem Kp.new {S : List Addr} {H : Hp} {p : Addr} {o : HO} (h : H p = none) : Kp S H (upd H p o) :=
  ⟨fun c u e _ => by rw [upd_ne (ne_of_none e h)]; exact e, fun c xs e => by rw [upd_ne (ne_of_none e h)]; exact e, fun c u e => ⟨u, by rw [upd_ne (ne_of_none e h)]; exact e⟩⟩
/-- an object in S is changed -/
theorem Kp.mut {S : List Addr} {H : Hp} {p : Addr} {o u : HO} (hs : p ∈ S) (h : H p = some u) (hu : ∀ xs, u ≠ .tup xs) : Kp S H (upd H p o) := by
  refine ⟨fun c v e n => ?_, fun c xs e => ?_, fun c v e => ?_⟩
  · have : c ≠ p := fun z => n (z ▸ hs)
    rw [upd_ne this]; exact e
  · have : c ≠ p := fun z => by
      rw [z, h] at e
      exact hu xs (Option.some.inj e)
    rw [upd_ne this]; exact e
  · by_cases hc : c = p
    · exact ⟨o, by rw [hc, upd_same]⟩
    · exact ⟨v, by rw [upd_ne hc]; exact e⟩
theorem Kp.free {S : List Addr} {H H' : Hp} (a : Kp S H H') {p : Addr} (h : H' p = none) : H p = none := by
  cases e : H p with
  | none => rfl
  | some o =>
    obtain ⟨o', e'⟩ := a.there p o e
    rw [h] at e'; cases e'
theorem Kp.same {S : List Addr} {H H' : Hp} (a : Same H H') : Kp S H H' := ⟨fun c o e _ => a c o e, fun c xs e => a c _ e, fun c o e => ⟨o, a c o e⟩⟩
theorem Kp.to {H H' : Hp} (a : Kp [] H H') : Same H H' := fun c o e => a.keep c o e (by simp)
/-- what was new there and is changed later -/
theorem Kp.later {S : List Addr} {H H1 H2 : Hp} {p : Addr} (a : Kp S H H1) (b : Kp (p :: S) H1 H2) (h : H p = none) : Kp S H H2 :=
  ⟨fun c o e n => b.keep c o (a.keep c o e n) (by
    intro z
    rcases List.mem_cons.mp z with q | q
    · rw [q, h] at e; cases e
    · exact n q), fun c xs e => b.tup c xs (a.tup c xs e), fun c o e => by
    obtain ⟨o1, h1⟩ := a.there c o e
    exact b.there c o1 h1⟩

/-! ### constants of the module -/
def KTup (K : PySem.W.Frag) (a : Addr) (xs : List V) : Prop :=
  ∃ (o : Obj) (its : Array Value) (n : Nat), K.lookup a = some o ∧ o.cls = .type "tuple" ∧ o.data = .seq its n ∧ its.size ≤ sizeLine ∧ Vals xs its.toList
theorem KTup.sq {K : PySem.W.Frag} {H : Hp} {a : Addr} {xs : List V} (h : KTup K a xs) : SqT K H a xs := .inr h
/-- what PARTS tells of a word -/
def partsOf (x : Str) : List Int :=
  if x = "add" ∨ x = "subtract" ∨ x = "multiply" ∨ x = "min" ∨ x = "max" ∨ x = "less" ∨ x = "atmost" ∨ x = "equal" ∨ x = "and" ∨ x = "or" then [1, 2]
  else if x = "not" then [1] else if x = "if" then [1, 2, 3] else if x = "ever" ∨ x = "always" ∨ x = "before" then [2] else []
def PartsAt (K : PySem.W.Frag) (x : Str) (r : Option Value) : Prop :=
  (r = none ∧ partsOf x = []) ∨ ∃ t, r = some (.ref t) ∧ KTup K t ((partsOf x).map V.int)

/-! ### numbers and expressions as they lie -/
/-- a fraction at t -/
def FrA (K : PySem.W.Frag) (H : Hp) (t : Addr) (f : Fr) : Prop := H t = some (.tup [.int f.1, .int f.2]) ∨ KTup K t [.int f.1, .int f.2]
theorem FrA.sq {K : PySem.W.Frag} {H : Hp} {t : Addr} {f : Fr} (h : FrA K H t f) : SqT K H t [.int f.1, .int f.2] := by
  rcases h with h | h
  · exact .inl (.inl h)
  · exact .inr h
theorem FrA.kp {K : PySem.W.Frag} {S : List Addr} {H H' : Hp} {t : Addr} {f : Fr} (h : FrA K H t f) (k : Kp S H H') : FrA K H' t f := by
  rcases h with h | h
  · exact .inl (k.tup _ _ h)
  · exact .inr h
/-- an expression at a -/
def At (H : Hp) : Ex → Addr → Prop
  | .lit w f, a => ∃ t, H a = some (.tup [.str w.s, .ref t]) ∧ H t = some (.tup [.int f.1, .int f.2])
  | .ref w n, a => H a = some (.tup [.str w.s, .str n])
  | .nam n _, a => H a = some (.tup [.str "name", .str n])
  | .tt b, a => H a = some (.tup [.str (tfs b)])
  | .un c, a => ∃ x, H a = some (.tup [.str "not", .ref x]) ∧ At H c x
  | .bin w e f, a => ∃ x y, H a = some (.tup [.str w.s, .ref x, .ref y]) ∧ At H e x ∧ At H f y
  | .ite c e f, a => ∃ x y z, H a = some (.tup [.str "if", .ref x, .ref y, .ref z]) ∧ At H c x ∧ At H e y ∧ At H f z
  | .timed w k c, a => ∃ x, H a = some (.tup [.str w.s, .int k, .ref x]) ∧ At H c x
theorem At.kp {S : List Addr} {H H' : Hp} (k : Kp S H H') : ∀ {e : Ex} {a : Addr}, At H e a → At H' e a
  | .lit w f, a, ⟨t, h1, h2⟩ => ⟨t, k.tup _ _ h1, k.tup _ _ h2⟩
  | .ref w n, a, h => k.tup _ _ h
  | .nam n _, a, h => k.tup _ _ h
  | .tt b, a, h => k.tup _ _ h
  | .un c, a, ⟨x, h1, h2⟩ => ⟨x, k.tup _ _ h1, At.kp k h2⟩
  | .bin w e f, a, ⟨x, y, h1, h2, h3⟩ => ⟨x, y, k.tup _ _ h1, At.kp k h2, At.kp k h3⟩
  | .ite c e f, a, ⟨x, y, z, h1, h2, h3, h4⟩ => ⟨x, y, z, k.tup _ _ h1, At.kp k h2, At.kp k h3, At.kp k h4⟩
  | .timed w n c, a, ⟨x, h1, h2⟩ => ⟨x, k.tup _ _ h1, At.kp k h2⟩
/-- its first word -/
def Ex.wd : Ex → Str
  | .lit w _ => w.s
  | .ref w _ => w.s
  | .nam _ _ => "name"
  | .tt b => tfs b
  | .un _ => "not"
  | .bin w _ _ => w.s
  | .ite _ _ _ => "if"
  | .timed w _ _ => w.s
theorem At.head {H : Hp} {e : Ex} {a : Addr} (h : At H e a) : ∃ r, H a = some (.tup (.str e.wd :: r)) := by
  cases e with
  | lit w f => obtain ⟨t, h1, _⟩ := h; exact ⟨_, h1⟩
  | ref w n => exact ⟨_, h⟩
  | nam n b => exact ⟨_, h⟩
  | tt b => exact ⟨_, h⟩
  | un c => obtain ⟨x, h1, _⟩ := h; exact ⟨_, h1⟩
  | bin w e f => obtain ⟨x, y, h1, _⟩ := h; exact ⟨_, h1⟩
  | ite c e f => obtain ⟨x, y, z, h1, _⟩ := h; exact ⟨_, h1⟩
  | timed w k c => obtain ⟨x, h1, _⟩ := h; exact ⟨_, h1⟩
/-- a value -/
def IsV (K : PySem.W.Frag) (H : Hp) (v : V) : Vl → Prop
  | .num f => ∃ t, v = .ref t ∧ FrA K H t f
  | .tru b => v = .bl b
theorem IsV.kp {K : PySem.W.Frag} {S : List Addr} {H H' : Hp} {v : V} (k : Kp S H H') : ∀ {x : Vl}, IsV K H v x → IsV K H' v x
  | .num f, ⟨t, e, h⟩ => ⟨t, e, h.kp k⟩
  | .tru b, h => h
/-! ### as the library's data -/
def frD (f : Fr) : PyData := .tuple [.int f.1, .int f.2]
def toD : Ex → PyData
  | .lit w f => .tuple [.str w.s, frD f]
  | .ref w n => .tuple [.str w.s, .str n]
  | .nam n _ => .tuple [.str "name", .str n]
  | .tt b => .tuple [.str (tfs b)]
  | .un c => .tuple [.str "not", toD c]
  | .bin w e f => .tuple [.str w.s, toD e, toD f]
  | .ite c e f => .tuple [.str "if", toD c, toD e, toD f]
  | .timed w k c => .tuple [.str w.s, .int k, toD c]
theorem FrA.dp {K : PySem.W.Frag} {H : Hp} {t : Addr} {f : Fr} (h : FrA K H t f) : Dp K H (.ref t) (frD f) := .tup h.sq (.cons (.int _) (.cons (.int _) .nil))
theorem At.dp {K : PySem.W.Frag} {H : Hp} : ∀ {e : Ex} {a : Addr}, At H e a → Dp K H (.ref a) (toD e)
  | .lit w f, a, ⟨t, h1, h2⟩ => .tup (SqT.of h1) (.cons (.str _) (.cons (FrA.dp (f := f) (.inl h2)) .nil))
  | .ref w n, a, h => .tup (SqT.of h) (.cons (.str _) (.cons (.str _) .nil))
  | .nam n _, a, h => .tup (SqT.of h) (.cons (.str _) (.cons (.str _) .nil))
  | .tt b, a, h => .tup (SqT.of h) (.cons (.str _) .nil)
  | .un c, a, ⟨x, h1, h2⟩ => .tup (SqT.of h1) (.cons (.str _) (.cons (At.dp h2) .nil))
  | .bin w e f, a, ⟨x, y, h1, h2, h3⟩ => .tup (SqT.of h1) (.cons (.str _) (.cons (At.dp h2) (.cons (At.dp h3) .nil)))
  | .ite c e f, a, ⟨x, y, z, h1, h2, h3, h4⟩ => .tup (SqT.of h1) (.cons (.str _) (.cons (At.dp h2) (.cons (At.dp h3) (.cons (At.dp h4) .nil))))
  | .timed w n c, a, ⟨x, h1, h2⟩ => .tup (SqT.of h1) (.cons (.str _) (.cons (.int _) (.cons (At.dp h2) .nil)))
/-- the names of lets bear the bodies that L tells -/
def Con (L : Str → Option Ex) : Ex → Prop
  | .lit _ _ => True
  | .ref _ n => PyData.strOk n = true
  | .nam n b => PyData.strOk n = true ∧ L n = some b ∧ Con L b
  | .tt _ => True
  | .un c => Con L c
  | .bin _ e f => Con L e ∧ Con L f
  | .ite c e f => Con L c ∧ Con L e ∧ Con L f
  | .timed _ _ c => Con L c
theorem frD_lay (f : Fr) : (frD f).canLay0 = true := by simp [frD, PyData.canLay0, PyData.canLayAll0]
theorem lws_ok (w : LW) : PyData.strOk w.s = true := by cases w <;> decide +kernel
theorem rws_ok (w : RW) : PyData.strOk w.s = true := by cases w <;> decide +kernel
theorem bws_ok (w : BW) : PyData.strOk w.s = true := by cases w <;> decide +kernel
theorem tws_ok (w : TW) : PyData.strOk w.s = true := by cases w <;> decide +kernel
theorem tfs_ok (b : Bool) : PyData.strOk (tfs b) = true := by cases b <;> decide +kernel
theorem name_ok : PyData.strOk (Str.ofString "name") = true := by decide +kernel
theorem not_ok : PyData.strOk (Str.ofString "not") = true := by decide +kernel
theorem if_ok : PyData.strOk (Str.ofString "if") = true := by decide +kernel
theorem toD_lay {L : Str → Option Ex} : ∀ e : Ex, Con L e → (toD e).canLay0 = true
  | .lit w f, _ => by simp [toD, PyData.canLay0, PyData.canLayAll0, frD_lay, lws_ok]
  | .ref w n, h => by simp [toD, PyData.canLay0, PyData.canLayAll0, rws_ok]; exact h
  | .nam n b, h => by simp [toD, PyData.canLay0, PyData.canLayAll0, name_ok]; exact h.1
  | .tt b, _ => by simp [toD, PyData.canLay0, PyData.canLayAll0, tfs_ok]
  | .un c, h => by simp [toD, PyData.canLay0, PyData.canLayAll0, toD_lay c h, not_ok]
  | .bin w e f, h => by simp [toD, PyData.canLay0, PyData.canLayAll0, toD_lay e h.1, toD_lay f h.2, bws_ok]
  | .ite c e f, h => by simp [toD, PyData.canLay0, PyData.canLayAll0, toD_lay c h.1, toD_lay e h.2.1, toD_lay f h.2.2, if_ok]
  | .timed w k c, h => by simp [toD, PyData.canLay0, PyData.canLayAll0, toD_lay c h, tws_ok]
theorem toD_depth : ∀ e : Ex, (toD e).depth ≤ dep e + 2
  | .lit w f => by simp [toD, frD, PyData.depth, PyData.depthAll, dep]
  | .ref w n => by simp [toD, PyData.depth, PyData.depthAll, dep]
  | .nam n b => by simp [toD, PyData.depth, PyData.depthAll, dep]
  | .tt b => by simp [toD, PyData.depth, PyData.depthAll, dep]
  | .un c => by
    have h := toD_depth c
    simp [toD, PyData.depth, PyData.depthAll, dep]; omega
  | .bin w e f => by
    have h := toD_depth e
    have h2 := toD_depth f
    simp [toD, PyData.depth, PyData.depthAll, dep]; omega
  | .ite c e f => by
    have h := toD_depth c
    have h2 := toD_depth e
    have h3 := toD_depth f
    simp [toD, PyData.depth, PyData.depthAll, dep]; omega
  | .timed w k c => by
    have h := toD_depth c
    simp [toD, PyData.depth, PyData.depthAll, dep]; omega
theorem toD_shaped {L : Str → Option Ex} {e : Ex} (c : Con L e) (h : dep e ≤ 60) : SeqAt.shaped (toD e) = true := by
  show ((toD e).canLay0 && decide ((toD e).depth ≤ 64)) = true
  have := toD_depth e
  rw [toD_lay e c, Bool.true_and]
  exact decide_eq_true (by omega)
theorem depthAll_le {n : Nat} : ∀ {es : List Ex}, (∀ e ∈ es, dep e ≤ n) → PyData.depthAll (es.map toD) ≤ n + 2
  | [], _ => by simp [PyData.depthAll]
  | e :: r, h => by
    have h1 := toD_depth e
    have h2 := h e (by simp)
    have h3 := depthAll_le (es := r) fun x hx => h x (by simp [hx])
    simp only [List.map_cons, PyData.depthAll]; omega
theorem layAll {L : Str → Option Ex} : ∀ es : List Ex, (∀ e ∈ es, Con L e) → PyData.canLayAll0 (es.map toD) = true
  | [], _ => by simp [PyData.canLayAll0]
  | e :: r, h => by simp [PyData.canLayAll0, toD_lay e (h e (by simp)), layAll r fun x hx => h x (by simp [hx])]
theorem toDs_shaped {L : Str → Option Ex} {es : List Ex} (c : ∀ e ∈ es, Con L e) (h : ∀ e ∈ es, dep e ≤ 60) : SeqAt.shaped (.list (es.map toD)) = true := by
  have h1 := depthAll_le h
  have h2 : PyData.depth (.list (es.map toD)) ≤ 64 := by
    simp only [PyData.depth]; omega
  show (PyData.canLay0 (.list (es.map toD)) && decide (PyData.depth (.list (es.map toD)) ≤ 64)) = true
  rw [Bool.and_eq_true]
  exact ⟨by simp only [PyData.canLay0]; exact layAll es c, decide_eq_true h2⟩
theorem frD_shaped (f : Fr) : SeqAt.shaped (frD f) = true := by
  show ((frD f).canLay0 && decide ((frD f).depth ≤ 64)) = true
  rw [frD_lay, Bool.true_and]
  exact decide_eq_true (by simp [frD, PyData.depth, PyData.depthAll])
theorem frD_eqv (f g : Fr) : PyData.eqv (frD f) (frD g) = (f.1 == g.1 && f.2 == g.2) := by
  simp [frD, PyData.eqv, PyData.eqvAll]
theorem Con.part {L : Str → Option Ex} {e p : Ex} (h : Con L e) (hp : p ∈ parts e) : Con L p := by
  cases e <;> simp [parts] at hp
  · subst hp; exact h.2.2
  · subst hp; exact h
  · rcases hp with rfl | rfl
    · exact h.1
    · exact h.2
  · rcases hp with rfl | rfl | rfl
    · exact h.1
    · exact h.2.1
    · exact h.2.2
  · subst hp; exact h
theorem con_sub {L : Str → Option Ex} : ∀ {e x : Ex}, Con L e → x ∈ subs e → Con L x := by
  intro e
  induction e with
  | lit w f => intro x h hx; simp [subs] at hx; subst hx; exact h
  | ref w n => intro x h hx; simp [subs] at hx; subst hx; exact h
  | tt b => intro x h hx; simp [subs] at hx; subst hx; exact h
  | nam n b ih => intro x h hx; rcases (by simpa [subs] using hx) with rfl | q; exact h; exact ih h.2.2 q
  | un c ih => intro x h hx; rcases (by simpa [subs] using hx) with rfl | q; exact h; exact ih h q
  | timed w k c ih => intro x h hx; rcases (by simpa [subs] using hx) with rfl | q; exact h; exact ih h q
  | bin w e f ihe ihf => intro x h hx; rcases (by simpa [subs] using hx) with rfl | q | q; exact h; exact ihe h.1 q; exact ihf h.2 q
  | ite c e f ihc ihe ihf => intro x h hx; rcases (by simpa [subs] using hx) with rfl | q | q | q; exact h; exact ihc h.1 q; exact ihe h.2.1 q; exact ihf h.2.2 q
theorem str_beq (a b : Str) : (a == b) = decide (a = b) := by
  by_cases h : a = b
  · subst h; simp
  · rw [decide_eq_false h]; exact beq_eq_false_iff_ne.mpr h
theorem lws_inj {a b : LW} (h : a.s = b.s) : a = b := by
  revert h; cases a <;> cases b <;> intro h <;> first | rfl | exact absurd h (by decide +kernel)
theorem rws_inj {a b : RW} (h : a.s = b.s) : a = b := by
  revert h; cases a <;> cases b <;> intro h <;> first | rfl | exact absurd h (by decide +kernel)
theorem bws_inj {a b : BW} (h : a.s = b.s) : a = b := by
  revert h; cases a <;> cases b <;> intro h <;> first | rfl | exact absurd h (by decide +kernel)
theorem tws_inj {a b : TW} (h : a.s = b.s) : a = b := by
  revert h; cases a <;> cases b <;> intro h <;> first | rfl | exact absurd h (by decide +kernel)
theorem tfs_inj {a b : Bool} (h : tfs a = tfs b) : a = b := by
  revert h; cases a <;> cases b <;> intro h <;> first | rfl | exact absurd h (by decide +kernel)
theorem eqv_frD {f g : Fr} (h : PyData.eqv (frD f) (frD g) = true) : f = g := by
  rw [frD_eqv] at h
  simp at h
  exact Prod.ext h.1 h.2
theorem eqv_refl : ∀ e : Ex, PyData.eqv (toD e) (toD e) = true
  | .lit w f => by simp [toD, PyData.eqv, PyData.eqvAll, frD_eqv]
  | .ref w n => by simp [toD, PyData.eqv, PyData.eqvAll]
  | .nam n b => by simp [toD, PyData.eqv, PyData.eqvAll]
  | .tt b => by simp [toD, PyData.eqv, PyData.eqvAll]
  | .un c => by simp [toD, PyData.eqv, PyData.eqvAll, eqv_refl c]
  | .bin w e f => by simp [toD, PyData.eqv, PyData.eqvAll, eqv_refl e, eqv_refl f]
  | .ite c e f => by simp [toD, PyData.eqv, PyData.eqvAll, eqv_refl c, eqv_refl e, eqv_refl f]
  | .timed w k c => by simp [toD, PyData.eqv, PyData.eqvAll, eqv_refl c]
theorem q_tup (xs ys : List PyData) : PyData.eqv (.tuple xs) (.tuple ys) = PyData.eqvAll xs ys := by rw [PyData.eqv]
theorem q_cons (x y : PyData) (xs ys : List PyData) : PyData.eqvAll (x :: xs) (y :: ys) = (PyData.eqv x y && PyData.eqvAll xs ys) := by rw [PyData.eqvAll]
theorem q_nil : PyData.eqvAll [] [] = true := by rw [PyData.eqvAll]
theorem q_l (x : PyData) (xs : List PyData) : PyData.eqvAll (x :: xs) [] = false := by rw [PyData.eqvAll]
theorem q_r (x : PyData) (xs : List PyData) : PyData.eqvAll [] (x :: xs) = false := by rw [PyData.eqvAll]
theorem q_str (x y : Str) : PyData.eqv (.str x) (.str y) = (x == y) := by rw [PyData.eqv]
theorem q_int (x y : Int) : PyData.eqv (.int x) (.int y) = (x == y) := by rw [PyData.eqv]
theorem q_st (x : Str) (e : Ex) : PyData.eqv (.str x) (toD e) = false := by cases e <;> (rw [toD, PyData.eqv])
theorem q_ts (x : Str) (e : Ex) : PyData.eqv (toD e) (.str x) = false := by cases e <;> (rw [toD, PyData.eqv])
theorem q_it (x : Int) (e : Ex) : PyData.eqv (.int x) (toD e) = false := by cases e <;> (rw [toD, PyData.eqv])
theorem q_ti (x : Int) (e : Ex) : PyData.eqv (toD e) (.int x) = false := by cases e <;> (rw [toD, PyData.eqv])
theorem q_sf (x : Str) (f : Fr) : PyData.eqv (.str x) (frD f) = false := by rw [frD, PyData.eqv]
theorem q_fs (x : Str) (f : Fr) : PyData.eqv (frD f) (.str x) = false := by rw [frD, PyData.eqv]
theorem eqv_inj {L : Str → Option Ex} : ∀ (e f : Ex), Con L e → Con L f → PyData.eqv (toD e) (toD f) = true → e = f := by
  intro e
  induction e with
  | lit w a =>
    intro f he hf h
    cases f <;> simp only [q_tup, q_cons, q_nil, q_l, q_r, q_str, q_int, q_st, q_ts, q_it, q_ti, q_sf, q_fs, Bool.and_true, Bool.and_false, Bool.false_and, Bool.and_eq_true, beq_iff_eq, Bool.false_eq_true, and_false, false_and, true_and, toD] at h
    · obtain ⟨h1, h2⟩ := h
      rw [lws_inj h1, eqv_frD h2]
    · exact absurd h.1 (by cases w <;> decide +kernel)
  | ref w n =>
    intro f he hf h
    cases f <;> simp only [q_tup, q_cons, q_nil, q_l, q_r, q_str, q_int, q_st, q_ts, q_it, q_ti, q_sf, q_fs, Bool.and_true, Bool.and_false, Bool.false_and, Bool.and_eq_true, beq_iff_eq, Bool.false_eq_true, and_false, false_and, true_and, toD] at h
    · obtain ⟨h1, h2⟩ := h
      rw [rws_inj h1, h2]
    · exact absurd h.1 (by cases w <;> decide +kernel)
  | nam n b =>
    intro f he hf h
    cases f <;> simp only [q_tup, q_cons, q_nil, q_l, q_r, q_str, q_int, q_st, q_ts, q_it, q_ti, q_sf, q_fs, Bool.and_true, Bool.and_false, Bool.false_and, Bool.and_eq_true, beq_iff_eq, Bool.false_eq_true, and_false, false_and, true_and, toD] at h
    · rename_i w _; exact absurd h.1 (by cases w <;> decide +kernel)
    · rename_i n' b'
      subst h
      have := he.2.1.symm.trans hf.2.1
      rw [Option.some.inj this]
  | tt b =>
    intro f he hf h
    cases f <;> simp only [q_tup, q_cons, q_nil, q_l, q_r, q_str, q_int, q_st, q_ts, q_it, q_ti, q_sf, q_fs, Bool.and_true, Bool.and_false, Bool.false_and, Bool.and_eq_true, beq_iff_eq, Bool.false_eq_true, and_false, false_and, true_and, toD] at h
    rw [tfs_inj h]
  | un c ih =>
    intro f he hf h
    cases f <;> simp only [q_tup, q_cons, q_nil, q_l, q_r, q_str, q_int, q_st, q_ts, q_it, q_ti, q_sf, q_fs, Bool.and_true, Bool.and_false, Bool.false_and, Bool.and_eq_true, beq_iff_eq, Bool.false_eq_true, and_false, false_and, true_and, toD] at h
    · rename_i w _; exact absurd h.1 (by cases w <;> decide +kernel)
    · rename_i c'
      rw [ih c' he hf h]
  | bin w e1 e2 ih1 ih2 =>
    intro f he hf h
    cases f <;> simp only [q_tup, q_cons, q_nil, q_l, q_r, q_str, q_int, q_st, q_ts, q_it, q_ti, q_sf, q_fs, Bool.and_true, Bool.and_false, Bool.false_and, Bool.and_eq_true, beq_iff_eq, Bool.false_eq_true, and_false, false_and, true_and, toD] at h
    · rename_i w' f1 f2
      obtain ⟨h1, h2, h3⟩ := h
      rw [bws_inj h1, ih1 f1 he.1 hf.1 h2, ih2 f2 he.2 hf.2 h3]
  | ite c e1 e2 ihc ih1 ih2 =>
    intro f he hf h
    cases f <;> simp only [q_tup, q_cons, q_nil, q_l, q_r, q_str, q_int, q_st, q_ts, q_it, q_ti, q_sf, q_fs, Bool.and_true, Bool.and_false, Bool.false_and, Bool.and_eq_true, beq_iff_eq, Bool.false_eq_true, and_false, false_and, true_and, toD] at h
    rename_i c' f1 f2
    obtain ⟨h1, h2, h3⟩ := h
    rw [ihc c' he.1 hf.1 h1, ih1 f1 he.2.1 hf.2.1 h2, ih2 f2 he.2.2 hf.2.2 h3]
  | timed w k c ih =>
    intro f he hf h
    cases f <;> simp only [q_tup, q_cons, q_nil, q_l, q_r, q_str, q_int, q_st, q_ts, q_it, q_ti, q_sf, q_fs, Bool.and_true, Bool.and_false, Bool.false_and, Bool.and_eq_true, beq_iff_eq, Bool.false_eq_true, and_false, false_and, true_and, toD] at h
    · rename_i w' k' c'
      obtain ⟨h1, h2, h3⟩ := h
      have h2' : k = k' := by omega
      rw [tws_inj h1, h2', ih c' he hf h3]
theorem eqv_dec {L : Str → Option Ex} {e f : Ex} (he : Con L e) (hf : Con L f) : PyData.eqv (toD e) (toD f) = decide (e = f) := by
  by_cases h : e = f
  · subst h; rw [eqv_refl]; simp
  · rw [decide_eq_false h]
    cases q : PyData.eqv (toD e) (toD f) with
    | false => rfl
    | true => exact absurd (eqv_inj e f he hf q) h
/-! ### the written part -/
/-- a def of the module -/
structure Md0 (K : PySem.W.Frag) (mg : Str → Option Value) (x : Str) (st : Stmt) (ps : List Str) where
  a : Addr
  d : FuncData
  F : Fun K x x st a d
  g : mg x = some (.ref a)
  b : Binds K d ps []
/-- a def of the module with one default, an int -/
structure Md1 (K : PySem.W.Frag) (mg : Str → Option Value) (x : Str) (st : Stmt) (ps : List Str) (i : Int) where
  a : Addr
  d : FuncData
  F : FunD K x x (defArgs st) (defBody st) (defScope st) [.int i] [] a d
  g : mg x = some (.ref a)
  b : Binds K d ps []
/-- a method; its __init__; a property -/
structure Mt0 (K : PySem.W.Frag) (C : Addr) (x qual : Str) (st : Stmt) (ps : List Str) where
  a : Addr
  d : FuncData
  F : Fun K x qual st a d
  b : Binds K d ps []
  m : Meth K C x a
structure Mti (K : PySem.W.Frag) (C : Addr) (qual : Str) (st : Stmt) (ps : List Str) where
  a : Addr
  d : FuncData
  F : Fun K "__init__" qual st a d
  b : Binds K d ps []
  m : Mk K C a
structure Mtp (K : PySem.W.Frag) (C : Addr) (x qual : Str) (st : Stmt) (ps : List Str) where
  a : Addr
  q : Addr
  d : FuncData
  F : Fun K x qual st a d
  b : Binds K d ps []
  m : PropOf K C x q a
/-- an own error class with its __init__ -/
structure Xc (K : PySem.W.Frag) (mg : Str → Option Value) (x qual : Str) (st : Stmt) (ps : List Str) where
  C : Addr
  g : mg x = some (.ref C)
  o : OexC K C
  n1 : PySem.W.findIn K (.ref C) "name" = some none
  n2 : PySem.W.findIn K (.ref C) "day" = some none
  ga : PySem.W.findIn K (.ref C) "__getattribute__" = some (some (.builtin "BaseException.__getattribute__"))
  gg : PySem.W.findIn K (.ref C) "__getattr__" = some none
  hd : PySem.W.hasDictIn K C = true
  x : PySem.W.exmOne K (.ref C) (.ref C) = some true
  a : Addr
  d : FuncData
  F : Fun K "__init__" qual st a d
  b : Binds K d ps []
  i : PySem.W.findIn K (.ref C) "__init__" = some (some (.ref a))
  t : PySem.W.typeIn K (.ref a) = some (.type "function")
structure CsHistory (K : PySem.W.Frag) (mg : Str → Option Value) where
  C : Addr
  cl : Cls K C
  g : mg "History" = some (.ref C)
  n_lets : NoAttr K C "lets"
  n_facts : NoAttr K C "facts"
  n_rates : NoAttr K C "rates"
  n_known : NoAttr K C "known"
  init : Mti K C "History.__init__" s_History_init p_History_init
  fact : Mt0 K C "fact" "History.fact" s_History_fact p_History_fact
  rate : Mt0 K C "rate" "History.rate" s_History_rate p_History_rate
  timed : Mt0 K C "timed" "History.timed" s_History_timed p_History_timed
structure CsToday (K : PySem.W.Frag) (mg : Str → Option Value) where
  C : Addr
  cl : Cls K C
  g : mg "Today" = some (.ref C)
  n_lets : NoAttr K C "lets"
  n_facts : NoAttr K C "facts"
  n_rates : NoAttr K C "rates"
  n_parts : NoAttr K C "parts"
  n_truths : NoAttr K C "truths"
  n_known : NoAttr K C "known"
  init : Mti K C "Today.__init__" s_Today_init p_Today_init
  fact : Mt0 K C "fact" "Today.fact" s_Today_fact p_Today_fact
  rate : Mt0 K C "rate" "Today.rate" s_Today_rate p_Today_rate
  timed : Mt0 K C "timed" "Today.timed" s_Today_timed p_Today_timed
structure CsWatch (K : PySem.W.Frag) (mg : Str → Option Value) where
  C : Addr
  cl : Cls K C
  g : mg "Watch" = some (.ref C)
  n_expression : NoAttr K C "expression"
  n_lets : NoAttr K C "lets"
  n_days : NoAttr K C "days"
  n_looking_back : NoAttr K C "looking_back"
  n_past : NoAttr K C "past"
  init : Mti K C "Watch.__init__" s_Watch_init p_Watch_init
  next_day : Mtp K C "next_day" "Watch.next_day" s_Watch_next_day p_Watch_next_day
  kept : Mt0 K C "kept" "Watch.kept" s_Watch_kept p_Watch_kept
  truth_of : Mt0 K C "truth_of" "Watch.truth_of" s_Watch_truth_of p_Watch_truth_of
  step : Mt0 K C "step" "Watch.step" s_Watch_step p_Watch_step
/-- what the walk asks of the written part: every def, class, constant and built-in name of the text -/
structure Tx (K : PySem.W.Frag) (mg : Str → Option Value) (w : World) where
  fraction : Md1 K mg "fraction" s_fraction p_fraction 1
  plus : Md0 K mg "plus" s_plus p_plus
  opposite : Md0 K mg "opposite" s_opposite p_opposite
  minus : Md0 K mg "minus" s_minus p_minus
  times : Md0 K mg "times" s_times p_times
  order : Md0 K mg "order" s_order p_order
  smaller : Md0 K mg "smaller" s_smaller p_smaller
  greater : Md0 K mg "greater" s_greater p_greater
  let_of : Md0 K mg "let_of" s_let_of p_let_of
  combined : Md0 K mg "combined" s_combined p_combined
  let_value : Md0 K mg "let_value" s_let_value p_let_value
  evaluated : Md0 K mg "evaluated" s_evaluated p_evaluated
  value : Md0 K mg "value" s_value p_value
  parts_of : Md0 K mg "parts_of" s_parts_of p_parts_of
  all_parts : Md0 K mg "all_parts" s_all_parts p_all_parts
  law_draws : Md0 K mg "_law_draws" s_law_draws p_law_draws
  law_take : Md0 K mg "_law_take" s_law_take p_law_take
  law_keys : Md0 K mg "_law_keys" s_law_keys p_law_keys
  law_names : Md0 K mg "_law_names" s_law_names p_law_names
  law_make : Md0 K mg "_law_make" s_law_make p_law_make
  law_fraction : Md0 K mg "_law_fraction" s_law_fraction p_law_fraction
  law_literal : Md0 K mg "_law_literal" s_law_literal p_law_literal
  law_leaf : Md0 K mg "_law_leaf" s_law_leaf p_law_leaf
  law_factors : Md0 K mg "_law_factors" s_law_factors p_law_factors
  law_truth : Md0 K mg "_law_truth" s_law_truth p_law_truth
  law_built : Md0 K mg "_law_built" s_law_built p_law_built
  law_lets : Md0 K mg "_law_lets" s_law_lets p_law_lets
  law_history : Md0 K mg "_law_history" s_law_history p_law_history
  law_near : Md0 K mg "_law_near" s_law_near p_law_near
  law_same : Md0 K mg "_law_same" s_law_same p_law_same
  law_timed_parts : Md0 K mg "_law_timed_parts" s_law_timed_parts p_law_timed_parts
  law_day : Md0 K mg "_law_day" s_law_day p_law_day
  law_lacking : Md0 K mg "_law_lacking" s_law_lacking p_law_lacking
  law : Md0 K mg "law" s_law p_law
  History : CsHistory K mg
  Today : CsToday K mg
  Watch : CsWatch K mg
  MissingFact : Xc K mg "MissingFact" "MissingFact.__init__" s_MissingFact_init p_MissingFact_init
  MissingRate : Xc K mg "MissingRate" "MissingRate.__init__" s_MissingRate_init p_MissingRate_init
  x_RF : PySem.W.exmOne K (.ref MissingRate.C) (.ref MissingFact.C) = some false
  PARTS : Addr
  pes : Array DictEntry
  pn : Nat
  g_PARTS : mg "PARTS" = some (.ref PARTS)
  k_PARTS : KDict K w PARTS pes pn
  v_PARTS : ∀ x : Str, ∃ r, PySem.W.nsIn K PARTS x = some r ∧ PartsAt K x r
  TIMED : Addr
  g_TIMED : mg "TIMED" = some (.ref TIMED)
  v_TIMED : KTup K TIMED [.str "ever", .str "always", .str "before"]
  HUND : Addr
  g_HUND : mg "HUNDREDTH" = some (.ref HUND)
  v_HUND : KTup K HUND [.int 1, .int 100]
  g_gcd : mg "gcd" = some (.builtin "math.gcd")
  z_len : mg "len" = none
  z_dict : mg "dict" = none
  z_range : mg "range" = none
  z_max : mg "max" = none
  z_min : mg "min" = none
  z_zip : mg "zip" = none
  z_any : mg "any" = none
  z_all : mg "all" = none
  z_sum : mg "sum" = none
  z_abs : mg "abs" = none
  z_int : mg "int" = none
  z_list : mg "list" = none
  z_reversed : mg "reversed" = none
  z_isinstance : mg "isinstance" = none
  z_tuple : mg "tuple" = none
  z_str : mg "str" = none
  z_bool : mg "bool" = none
  z_repr : mg "repr" = none
end KW
set_option maxRecDepth 100000
set_option maxHeartbeats 4000000
/-! fraction .. greater -/
namespace KW
open PySem L2
theorem ifT {c : Bool} {A B : Prop} (hc : c = true) (h : A) : if c = true then A else B := by rw [if_pos hc]; exact h
theorem ifF {c : Bool} {A B : Prop} (hc : c = false) (h : B) : if c = true then A else B := by rw [hc, if_neg Bool.false_ne_true]; exact h
theorem size2 : 2 ≤ sizeLine := by decide
def spFrac : Sp := fun vs H Q _ => ∃ p q : Int, vs = [.int p, .int q] ∧ 0 < q ∧ q.natAbs < 2 ^ 9000 ∧
  ∀ t H', Kp [] H H' → H' t = some (.tup [.int (frac p q).1, .int (frac p q).2]) → Q (.ref t) H'
section
variable {P : Program} {w : World} {K : PySem.W.Frag} {mg : Str → Option Value} {base : Heap}
theorem gcd_div {p q : Int} (h0 : 0 < q) (hq : q.natAbs < 2 ^ 9000) : 0 < ((Nat.gcd p.natAbs q.natAbs : Nat) : Int) ∧ ((Nat.gcd p.natAbs q.natAbs : Nat) : Int).natAbs < 2 ^ 9000 := by
  have h1 := nat_gcd_pos (p := p) h0
  have h2 : Nat.gcd p.natAbs q.natAbs ≤ q.natAbs := Nat.gcd_le_right _ (by omega)
  refine ⟨by omega, ?_⟩
  have : ((Nat.gcd p.natAbs q.natAbs : Nat) : Int).natAbs = Nat.gcd p.natAbs q.natAbs := rfl
  rw [this]
  exact Nat.lt_of_le_of_lt h2 hq
theorem ok_fraction (T : Tx K mg w) : FnOk P w K mg base CX0 1 T.fraction.a T.fraction.d p_fraction spFrac := by
  refine T.fraction.F.ok sc_fraction (fun vs H Q E h => ?_) (fun cdv A outer s H vs Q E hr h => ?_)
  · obtain ⟨p, q, rfl, _⟩ := h
    rfl
  · obtain ⟨p, q, rfl, h0, hq, k⟩ := h
    refine ⟨_, pss_cons (ps_if (pt_cmpR op_eq (pv 1) pe_int (nomark _)) (pss_one ps_never) pss_nil)
      (pss_cons (ps_set (i := 2) sc_fraction.nd rfl (Or.inl rfl) (pe_callBfun cr_gcd (by rfl) T.g_gcd (pa_cons (pv 0) (pa_cons (pv 1) pa_nil))))
      (pss_cons (ps_if (pt_cmpR op_gt (pv 1) pe_int (nomark _)) (pss_one (ps_ret (pe_tup (pa_cons (pe_op op_fdivW (pv 0) (pv 2)) (pa_cons (pe_op op_fdivW (pv 1) (pv 2)) pa_nil))))) pss_nil)
      (pss_one ps_never))), ?_⟩
    refine ⟨_, rfl, rfl, _, rfl, ?_⟩
    refine ifF (decide_eq_false (by intro z; cases z; omega)) ?_
    refine ⟨_, rfl, _, rfl, _, _, rfl, ?_⟩
    refine ⟨_, rfl, _, _, rfl, rfl, _, rfl, ?_⟩
    refine ifT (decide_eq_true h0) ?_
    obtain ⟨g1, g2⟩ := gcd_div (p := p) h0 hq
    have gd := wide_div (i := p) g1 g2 (by decide) (by decide)
    have gd2 := wide_div (i := q) g1 g2 (by decide) (by decide)
    refine ⟨_, rfl, _, rfl, _, _, rfl, rfl, gd, _, rfl, _, rfl, _, _, rfl, rfl, gd2, size2, fun t ht => ?_⟩
    exact k t _ (.new ht) upd_same
/-- two fractions in, one out -/
def spBin (g : Fr → Fr → Fr) (K : PySem.W.Frag) : Sp := fun vs H Q _ => ∃ (a b : Addr) (x y : Fr) (n m : Nat), vs = [.ref a, .ref b] ∧ FrA K H a x ∧ FrA K H b y ∧ Sz n x ∧ Sz m y ∧ n + m + 1 ≤ 9000 ∧
  ∀ t H', Kp [] H H' → FrA K H' t (g x y) → Q (.ref t) H'
theorem Sz.wide {n : Nat} {x : Fr} (h : Sz n x) (hn : n ≤ 9000) : x.1.natAbs < 2 ^ 9000 ∧ x.2.natAbs < 2 ^ 9000 := ⟨(h.mono hn).1, (h.mono hn).2.2⟩
theorem mulW {i j : Int} (hi : i.natAbs < 2 ^ 9000) (hj : j.natAbs < 2 ^ 9000) : CMulW i j := wide_mul hi hj (by decide) (by decide) (by decide)
theorem at0 {x : V} {r : List V} : atI (x :: r) 0 = some x := atI_nat (j := 0) rfl
theorem at1 {x y : V} {r : List V} : atI (x :: y :: r) 1 = some y := atI_nat (j := 1) rfl
theorem at2 {x y z : V} {r : List V} : atI (x :: y :: z :: r) 2 = some z := atI_nat (j := 2) rfl
theorem at3 {x y z u : V} {r : List V} : atI (x :: y :: z :: u :: r) 3 = some u := atI_nat (j := 3) rfl
theorem ok_plus (T : Tx K mg w) : FnOk P w K mg base CX0 2 T.plus.a T.plus.d p_plus (spBin plus K) := by
  have G : FnOk P w K mg base CX0 1 T.fraction.a T.fraction.d p_fraction spFrac := ok_fraction T
  refine T.plus.F.ok sc_plus (fun vs H Q E h => ?_) (fun cdv A outer s H vs Q E hr h => ?_)
  · obtain ⟨a, b, x, y, n, m, rfl, _⟩ := h
    rfl
  · obtain ⟨a, b, x, y, n, m, rfl, ha, hb, sx, sy, hnm, k⟩ := h
    refine ⟨_, pss_cons (ps_if (pt_cmpR op_eq (pe_ix ix_tup (pv 0) pe_int (fun _ _ => rfl)) (pe_ix ix_tup (pv 1) pe_int (fun _ _ => rfl)) (nomark _))
        (pss_one (ps_ret (pe_call G hr rfl T.fraction.g T.fraction.F.kp T.fraction.b .nil pass0 (pa_cons (pe_op op_add (pe_ix ix_tup (pv 0) pe_int (fun _ _ => rfl)) (pe_ix ix_tup (pv 1) pe_int (fun _ _ => rfl))) (pa_cons (pe_ix ix_tup (pv 0) pe_int (fun _ _ => rfl)) pa_nil))))) pss_nil)
      (pss_one (ps_ret (pe_call G hr rfl T.fraction.g T.fraction.F.kp T.fraction.b .nil pass0 (pa_cons (pe_op op_add (pe_op op_mulW (pe_ix ix_tup (pv 0) pe_int (fun _ _ => rfl)) (pe_ix ix_tup (pv 1) pe_int (fun _ _ => rfl))) (pe_op op_mulW (pe_ix ix_tup (pv 1) pe_int (fun _ _ => rfl)) (pe_ix ix_tup (pv 0) pe_int (fun _ _ => rfl))))
        (pa_cons (pe_op op_mulW (pe_ix ix_tup (pv 0) pe_int (fun _ _ => rfl)) (pe_ix ix_tup (pv 1) pe_int (fun _ _ => rfl))) pa_nil))))), ?_⟩
    have wx := sx.wide (by omega)
    have wy := sy.wide (by omega)
    refine ⟨_, rfl, a, _, _, _, rfl, rfl, ha.sq, at1, _, rfl, b, _, _, _, rfl, rfl, hb.sq, at1, rfl, _, rfl, ?_⟩
    refine ite2 (fun c => ?_) (fun c => ?_)
    · have c' : x.2 = y.2 := V.int.inj (of_decide_eq_true c)
      refine ⟨_, rfl, a, _, _, _, rfl, rfl, ha.sq, at0, _, rfl, b, _, _, _, rfl, rfl, hb.sq, at0, _, _, rfl, rfl, _, rfl, a, _, _, _, rfl, rfl, ha.sq, at1, _, _, rfl, sx.2.1, wx.2, fun t H' kp ht => ?_⟩
      refine k t H' kp (.inl ?_)
      rw [ht]; unfold plus; rw [if_pos c']
    · have c' : ¬ x.2 = y.2 := fun z => c (decide_eq_true (by rw [z]))
      refine ⟨_, rfl, a, _, _, _, rfl, rfl, ha.sq, at0, _, rfl, b, _, _, _, rfl, rfl, hb.sq, at1, _, _, rfl, rfl, mulW wx.1 wy.2, _, rfl, b, _, _, _, rfl, rfl, hb.sq, at0, _, rfl, a, _, _, _, rfl, rfl, ha.sq, at1, _, _, rfl, rfl, mulW wy.1 wx.2, _, _, rfl, rfl,
        _, rfl, a, _, _, _, rfl, rfl, ha.sq, at1, _, rfl, b, _, _, _, rfl, rfl, hb.sq, at1, _, _, rfl, rfl, mulW wx.2 wy.2, _, _, rfl, Int.mul_pos sx.2.1 sy.2.1, ?_, fun t H' kp ht => ?_⟩
      · exact Nat.lt_of_lt_of_le (mul_abs_lt sx.2.2 sy.2.2) (Nat.pow_le_pow_right (by decide) (by omega))
      · refine k t H' kp (.inl ?_)
        rw [ht]; unfold plus; rw [if_neg c']
/-- x[k], x a name, k written, a tuple -/
theorem pixT {X : Cx} (i : Nat) {x : Str} {k : Int} {p1 p2 p3 : Pos} {j : Nat} (hN : X.N[i]? = some x := by rfl) (hv : Vis X.env.scope x := by first | exact Or.inl rfl | exact Or.inr (Or.inl rfl) | exact Or.inr (Or.inr rfl))
    (hd : (x == ("__debug__" : Str)) = false := by decide) (hcd : (x == ("__classdict__" : Str)) = false := by decide) :
    PE X (.Subscript (.Name x p1) (.Constant (.int k) j p2) p3) (tOp (rIxT X.K) (tVar i) (tC (.int k))) := pe_ix ix_tup (pv i hN hv hd hcd) pe_int (fun _ _ => rfl)
theorem ok_opposite (T : Tx K mg w) : FnOk P w K mg base CX0 1 T.opposite.a T.opposite.d p_opposite (fun vs H Q _ => ∃ (a : Addr) (x : Fr), vs = [.ref a] ∧ FrA K H a x ∧ ∀ t H', Kp [] H H' → FrA K H' t (neg x) → Q (.ref t) H') := by
  refine T.opposite.F.ok sc_opposite (fun vs H Q E h => ?_) (fun cdv A outer s H vs Q E hr h => ?_)
  · obtain ⟨a, x, rfl, _⟩ := h
    rfl
  · obtain ⟨a, x, rfl, ha, k⟩ := h
    refine ⟨_, pss_one (ps_ret (pe_tup (pa_cons (pe_un un_neg (pixT 0)) (pa_cons (pixT 0) pa_nil)))), ?_⟩
    refine ⟨_, rfl, a, _, _, _, rfl, rfl, ha.sq, at0, _, rfl, _, rfl, a, _, _, _, rfl, rfl, ha.sq, at1, size2, fun t ht => ?_⟩
    exact k t _ (.new ht) (.inl upd_same)
theorem ok_minus (T : Tx K mg w) : FnOk P w K mg base CX0 3 T.minus.a T.minus.d p_minus (spBin minus K) := by
  have G1 : FnOk P w K mg base CX0 1 T.opposite.a T.opposite.d p_opposite _ := ok_opposite T
  have G : FnOk P w K mg base CX0 2 T.plus.a T.plus.d p_plus (spBin plus K) := ok_plus T
  refine T.minus.F.ok sc_minus (fun vs H Q E h => ?_) (fun cdv A outer s H vs Q E hr h => ?_)
  · obtain ⟨a, b, x, y, n, m, rfl, _⟩ := h
    rfl
  · obtain ⟨a, b, x, y, n, m, rfl, ha, hb, sx, sy, hnm, k⟩ := h
    refine ⟨_, pss_one (ps_ret (pe_call G hr rfl T.plus.g T.plus.F.kp T.plus.b .nil pass0 (pa_cons (pv 0) (pa_cons (pe_call G1 (hr.mono (by decide)) rfl T.opposite.g T.opposite.F.kp T.opposite.b .nil pass0 (pa_cons (pv 1) pa_nil)) pa_nil)))), ?_⟩
    refine ⟨_, rfl, _, rfl, b, y, rfl, hb, fun t H1 kp ht => ?_⟩
    exact ⟨a, t, x, neg y, n, m, rfl, ha.kp kp, ht, sx, neg_sz sy, hnm, fun t' H' kp' ht' => k t' H' (kp.trans kp') ht'⟩
theorem ok_times (T : Tx K mg w) : FnOk P w K mg base CX0 2 T.times.a T.times.d p_times (spBin times K) := by
  have G : FnOk P w K mg base CX0 1 T.fraction.a T.fraction.d p_fraction spFrac := ok_fraction T
  refine T.times.F.ok sc_times (fun vs H Q E h => ?_) (fun cdv A outer s H vs Q E hr h => ?_)
  · obtain ⟨a, b, x, y, n, m, rfl, _⟩ := h
    rfl
  · obtain ⟨a, b, x, y, n, m, rfl, ha, hb, sx, sy, hnm, k⟩ := h
    refine ⟨_, pss_one (ps_ret (pe_call G hr rfl T.fraction.g T.fraction.F.kp T.fraction.b .nil pass0 (pa_cons (pe_op op_mulW (pixT 0) (pixT 1)) (pa_cons (pe_op op_mulW (pixT 0) (pixT 1)) pa_nil)))), ?_⟩
    have wx := sx.wide (by omega)
    have wy := sy.wide (by omega)
    refine ⟨_, rfl, a, _, _, _, rfl, rfl, ha.sq, at0, _, rfl, b, _, _, _, rfl, rfl, hb.sq, at0, _, _, rfl, rfl, mulW wx.1 wy.1, _, rfl, a, _, _, _, rfl, rfl, ha.sq, at1, _, rfl, b, _, _, _, rfl, rfl, hb.sq, at1, _, _, rfl, rfl, mulW wx.2 wy.2, _, _, rfl, Int.mul_pos sx.2.1 sy.2.1, ?_, fun t H' kp ht => ?_⟩
    · exact Nat.lt_of_lt_of_le (mul_abs_lt sx.2.2 sy.2.2) (Nat.pow_le_pow_right (by decide) (by omega))
    · exact k t H' kp (.inl ht)
/-- two fractions in, an int out -/
def spOrd (K : PySem.W.Frag) : Sp := fun vs H Q _ => ∃ (a b : Addr) (x y : Fr) (n : Nat), vs = [.ref a, .ref b] ∧ FrA K H a x ∧ FrA K H b y ∧ Sz n x ∧ Sz n y ∧ n ≤ 9000 ∧ Q (.int (order x y)) H
theorem ok_order (T : Tx K mg w) : FnOk P w K mg base CX0 1 T.order.a T.order.d p_order (spOrd K) := by
  refine T.order.F.ok sc_order (fun vs H Q E h => ?_) (fun cdv A outer s H vs Q E hr h => ?_)
  · obtain ⟨a, b, x, y, n, rfl, _⟩ := h
    rfl
  · obtain ⟨a, b, x, y, n, rfl, ha, hb, sx, sy, hn, k⟩ := h
    refine ⟨_, pss_cons (ps_set (i := 2) sc_order.nd rfl (Or.inl rfl) (pe_op op_mulW (pixT 0) (pixT 1))) (pss_cons (ps_set (i := 3) sc_order.nd rfl (Or.inl rfl) (pe_op op_mulW (pixT 1) (pixT 0)))
      (pss_one (ps_ret (pe_op op_sub (pe_callTy call_int1 (by rfl) T.z_int (by decide +kernel) (pa_cons (pe_cmpR op_gt (pv 2) (pv 3) (nomark _)) pa_nil)) (pe_callTy call_int1 (by rfl) T.z_int (by decide +kernel) (pa_cons (pe_cmpR op_lt (pv 2) (pv 3) (nomark _)) pa_nil)))))), ?_⟩
    have wx := sx.wide hn
    have wy := sy.wide hn
    refine ⟨_, rfl, a, _, _, _, rfl, rfl, ha.sq, at0, _, rfl, b, _, _, _, rfl, rfl, hb.sq, at1, _, _, rfl, rfl, mulW wx.1 wy.2, _, rfl, b, _, _, _, rfl, rfl, hb.sq, at0, _, rfl, a, _, _, _, rfl, rfl, ha.sq, at1, _, _, rfl, rfl, mulW wy.1 wx.2, ?_⟩
    exact ⟨_, rfl, _, rfl, _, _, rfl, rfl, .inr ⟨_, rfl, _, rfl, _, rfl, _, _, rfl, rfl, .inr ⟨_, rfl, _, _, rfl, rfl, k⟩⟩⟩
theorem ok_smaller (T : Tx K mg w) : FnOk P w K mg base CX0 2 T.smaller.a T.smaller.d p_smaller (fun vs H Q _ => ∃ (a b : Addr) (x y : Fr) (n : Nat), vs = [.ref a, .ref b] ∧ FrA K H a x ∧ FrA K H b y ∧ Sz n x ∧ Sz n y ∧ n ≤ 9000 ∧ ∀ t, FrA K H t (smaller x y) → Q (.ref t) H) := by
  have G : FnOk P w K mg base CX0 1 T.order.a T.order.d p_order (spOrd K) := ok_order T
  refine T.smaller.F.ok sc_smaller (fun vs H Q E h => ?_) (fun cdv A outer s H vs Q E hr h => ?_)
  · obtain ⟨a, b, x, y, n, rfl, _⟩ := h
    rfl
  · obtain ⟨a, b, x, y, n, rfl, ha, hb, sx, sy, hn, k⟩ := h
    refine ⟨_, pss_cons (ps_if (pt_cmpR op_le (pe_call G hr rfl T.order.g T.order.F.kp T.order.b .nil pass0 (pa_cons (pv 0) (pa_cons (pv 1) pa_nil))) pe_int (nomark _)) (pss_one (ps_ret (pv 0))) pss_nil) (pss_one (ps_ret (pv 1))), ?_⟩
    refine ⟨_, rfl, _, rfl, a, b, x, y, n, rfl, ha, hb, sx, sy, hn, _, _, rfl, rfl, _, rfl, ?_⟩
    refine ite2 (fun c => ?_) (fun c => ?_)
    · exact ⟨_, rfl, k a (by unfold smaller; rw [if_pos (of_decide_eq_true c)]; exact ha)⟩
    · exact ⟨_, rfl, k b (by unfold smaller; rw [if_neg (fun z => c (decide_eq_true z))]; exact hb)⟩
theorem ok_greater (T : Tx K mg w) : FnOk P w K mg base CX0 2 T.greater.a T.greater.d p_greater (fun vs H Q _ => ∃ (a b : Addr) (x y : Fr) (n : Nat), vs = [.ref a, .ref b] ∧ FrA K H a x ∧ FrA K H b y ∧ Sz n x ∧ Sz n y ∧ n ≤ 9000 ∧ ∀ t, FrA K H t (greater x y) → Q (.ref t) H) := by
  have G : FnOk P w K mg base CX0 1 T.order.a T.order.d p_order (spOrd K) := ok_order T
  refine T.greater.F.ok sc_greater (fun vs H Q E h => ?_) (fun cdv A outer s H vs Q E hr h => ?_)
  · obtain ⟨a, b, x, y, n, rfl, _⟩ := h
    rfl
  · obtain ⟨a, b, x, y, n, rfl, ha, hb, sx, sy, hn, k⟩ := h
    refine ⟨_, pss_cons (ps_if (pt_cmpR op_ge (pe_call G hr rfl T.order.g T.order.F.kp T.order.b .nil pass0 (pa_cons (pv 0) (pa_cons (pv 1) pa_nil))) pe_int (nomark _)) (pss_one (ps_ret (pv 0))) pss_nil) (pss_one (ps_ret (pv 1))), ?_⟩
    refine ⟨_, rfl, _, rfl, a, b, x, y, n, rfl, ha, hb, sx, sy, hn, _, _, rfl, rfl, _, rfl, ?_⟩
    refine ite2 (fun c => ?_) (fun c => ?_)
    · exact ⟨_, rfl, k a (by unfold greater; rw [if_pos (of_decide_eq_true c)]; exact ha)⟩
    · exact ⟨_, rfl, k b (by unfold greater; rw [if_neg (fun z => c (decide_eq_true z))]; exact hb)⟩
end
end KW
set_option maxRecDepth 100000
set_option maxHeartbeats 4000000
/-! combined -/
namespace KW
open PySem L2
section
variable {P : Program} {w : World} {K : PySem.W.Frag} {mg : Str → Option Value} {base : Heap}
def spCmb (K : PySem.W.Frag) : Sp := fun vs H Q _ => ∃ (o : BW) (a b : Addr) (x y : Fr) (n m : Nat), vs = [.str o.s, .ref a, .ref b] ∧ o.log = false ∧ FrA K H a x ∧ FrA K H b y ∧ Sz n x ∧ Sz m y ∧ n + m + 1 ≤ 9000 ∧
  ∀ v H', Kp [] H H' → IsV K H' v (cmb o x y) → Q v H'
theorem ok_combined (T : Tx K mg w) : FnOk P w K mg base CX0 4 T.combined.a T.combined.d p_combined (spCmb K) := by
  have Gp : FnOk P w K mg base CX0 2 T.plus.a T.plus.d p_plus (spBin plus K) := ok_plus T
  have Gm : FnOk P w K mg base CX0 3 T.minus.a T.minus.d p_minus (spBin minus K) := ok_minus T
  have Gt : FnOk P w K mg base CX0 2 T.times.a T.times.d p_times (spBin times K) := ok_times T
  have Go : FnOk P w K mg base CX0 1 T.order.a T.order.d p_order (spOrd K) := ok_order T
  have Gs : FnOk P w K mg base CX0 2 T.smaller.a T.smaller.d p_smaller _ := ok_smaller T
  have Gg : FnOk P w K mg base CX0 2 T.greater.a T.greater.d p_greater _ := ok_greater T
  refine T.combined.F.ok sc_combined (fun vs H Q E h => ?_) (fun cdv A outer s H vs Q E hr h => ?_)
  · obtain ⟨o, a, b, x, y, n, m, rfl, _⟩ := h
    rfl
  · obtain ⟨o, a, b, x, y, n, m, rfl, hl, ha, hb, sx, sy, hnm, k⟩ := h
    have hr1 : Room 1 _ := hr.mono (by decide)
    have hr2 : Room 2 _ := hr.mono (by decide)
    refine ⟨_, pss_cons (ps_if (pt_cmpR op_eq (pv 0) pe_str (nomark _)) (pss_one (ps_ret (pe_call Gp hr2 rfl T.plus.g T.plus.F.kp T.plus.b .nil pass0 (pa_cons (pv 1) (pa_cons (pv 2) pa_nil))))) pss_nil)
      (pss_cons (ps_if (pt_cmpR op_eq (pv 0) pe_str (nomark _)) (pss_one (ps_ret (pe_call Gm hr rfl T.minus.g T.minus.F.kp T.minus.b .nil pass0 (pa_cons (pv 1) (pa_cons (pv 2) pa_nil))))) pss_nil)
      (pss_cons (ps_if (pt_cmpR op_eq (pv 0) pe_str (nomark _)) (pss_one (ps_ret (pe_call Gt hr2 rfl T.times.g T.times.F.kp T.times.b .nil pass0 (pa_cons (pv 1) (pa_cons (pv 2) pa_nil))))) pss_nil)
      (pss_cons (ps_if (pt_cmpR op_eq (pv 0) pe_str (nomark _)) (pss_one (ps_ret (pe_call Gs hr2 rfl T.smaller.g T.smaller.F.kp T.smaller.b .nil pass0 (pa_cons (pv 1) (pa_cons (pv 2) pa_nil))))) pss_nil)
      (pss_cons (ps_if (pt_cmpR op_eq (pv 0) pe_str (nomark _)) (pss_one (ps_ret (pe_call Gg hr2 rfl T.greater.g T.greater.F.kp T.greater.b .nil pass0 (pa_cons (pv 1) (pa_cons (pv 2) pa_nil))))) pss_nil)
      (pss_cons (ps_if (pt_cmpR op_eq (pv 0) pe_str (nomark _)) (pss_one (ps_ret (pe_cmpR op_lt (pe_call Go hr1 rfl T.order.g T.order.F.kp T.order.b .nil pass0 (pa_cons (pv 1) (pa_cons (pv 2) pa_nil))) pe_int (nomark _)))) pss_nil)
      (pss_cons (ps_if (pt_cmpR op_eq (pv 0) pe_str (nomark _)) (pss_one (ps_ret (pe_cmpR op_le (pe_call Go hr1 rfl T.order.g T.order.F.kp T.order.b .nil pass0 (pa_cons (pv 1) (pa_cons (pv 2) pa_nil))) pe_int (nomark _)))) pss_nil)
      (pss_one (ps_ret (pe_cmpR (op_eqD hr.units) (pv 1) (pv 2) (nomark _)))))))))), ?_⟩
    have sx' : Sz (n + m) x := sx.mono (by omega)
    have sy' : Sz (n + m) y := sy.mono (by omega)
    have l9 : n + m ≤ 9000 := by omega
    cases o
    case and => cases hl
    case or => cases hl
    case add =>
      refine ⟨_, rfl, rfl, _, rfl, ifT (by decide +kernel) ⟨_, rfl, _, rfl, a, b, x, y, n, m, rfl, ha, hb, sx, sy, hnm, fun t H' kp ht => k _ H' kp ⟨t, rfl, ht⟩⟩⟩
    case subtract =>
      refine ⟨_, rfl, rfl, _, rfl, ifF (by decide +kernel) ⟨_, rfl, rfl, _, rfl, ifT (by decide +kernel) ⟨_, rfl, _, rfl, a, b, x, y, n, m, rfl, ha, hb, sx, sy, hnm, fun t H' kp ht => k _ H' kp ⟨t, rfl, ht⟩⟩⟩⟩
    case multiply =>
      refine ⟨_, rfl, rfl, _, rfl, ifF (by decide +kernel) ⟨_, rfl, rfl, _, rfl, ifF (by decide +kernel) ⟨_, rfl, rfl, _, rfl, ifT (by decide +kernel) ⟨_, rfl, _, rfl, a, b, x, y, n, m, rfl, ha, hb, sx, sy, hnm, fun t H' kp ht => k _ H' kp ⟨t, rfl, ht⟩⟩⟩⟩⟩
    all_goals refine ⟨_, rfl, rfl, _, rfl, ifF (by decide +kernel) ⟨_, rfl, rfl, _, rfl, ifF (by decide +kernel) ⟨_, rfl, rfl, _, rfl, ifF (by decide +kernel) ?_⟩⟩⟩
    case min =>
      refine ⟨_, rfl, rfl, _, rfl, ifT (by decide +kernel) ⟨_, rfl, _, rfl, a, b, x, y, n + m, rfl, ha, hb, sx', sy', l9, fun t ht => k _ H .refl ⟨t, rfl, ht⟩⟩⟩
    case max =>
      refine ⟨_, rfl, rfl, _, rfl, ifF (by decide +kernel) ⟨_, rfl, rfl, _, rfl, ifT (by decide +kernel) ⟨_, rfl, _, rfl, a, b, x, y, n + m, rfl, ha, hb, sx', sy', l9, fun t ht => k _ H .refl ⟨t, rfl, ht⟩⟩⟩⟩
    all_goals refine ⟨_, rfl, rfl, _, rfl, ifF (by decide +kernel) ⟨_, rfl, rfl, _, rfl, ifF (by decide +kernel) ?_⟩⟩
    case less =>
      exact ⟨_, rfl, rfl, _, rfl, ifT (by decide +kernel) ⟨_, rfl, _, rfl, a, b, x, y, n + m, rfl, ha, hb, sx', sy', l9, _, _, rfl, rfl, k _ H .refl rfl⟩⟩
    case atmost =>
      exact ⟨_, rfl, rfl, _, rfl, ifF (by decide +kernel) ⟨_, rfl, rfl, _, rfl, ifT (by decide +kernel) ⟨_, rfl, _, rfl, a, b, x, y, n + m, rfl, ha, hb, sx', sy', l9, _, _, rfl, rfl, k _ H .refl rfl⟩⟩⟩
    case equal =>
      refine ⟨_, rfl, rfl, _, rfl, ifF (by decide +kernel) ⟨_, rfl, rfl, _, rfl, ifF (by decide +kernel) ⟨_, rfl, _, rfl, frD x, frD y, ha.dp, hb.dp, frD_shaped x, frD_shaped y, ?_⟩⟩⟩
      rw [frD_eqv]
      exact k _ H .refl rfl
end
end KW
set_option maxRecDepth 100000
set_option maxHeartbeats 4000000
/-! The errors MissingFact and MissingRate: made, raised with no context; defs that may let them out. -/
namespace KW
open PySem PySem.Spec PyProof.Rows L2
section
variable {P : Program} {w : World} {K : PySem.W.Frag} {mg : Str → Option Value} {base : Heap}
/-- a def that may raise: L2N's way -/
theorem okN {x qual : Str} {st : Stmt} {f : Addr} {fd : FuncData} {N ps : List Str} {k : Nat} {sp : Sp} (F : Fun K x qual st f fd) (S : FnScope N ps (defScope st)) (len : ∀ vs H Q E, sp vs H Q E → vs.length = ps.length)
    (hb : ∀ (cdv : Value) (A : Around) (outer : List Env) (s : Shared) (H : Hp) (vs : List V) (Q : VK) (E : XK), Room k (A.deeper (envOfC qual (defScope st) s.heap.objs.size f cdv)) → sp vs H Q E →
      ∃ t, PSs (cxOf (L2N.CX P w) P w K mg base N qual (defScope st) f cdv A outer s H E) (defBody st) t ∧ t { nx := fun _ H' => Q .non H', rt := Q } (start N vs) H) :
    FnOk P w K mg base (L2N.CX P w) (k + 1) f fd ps sp := by
  obtain ⟨_, _, _, _, _, _, _, _, _, rfl, lk, hc⟩ := F.ex
  exact fn_of lk hc S len fun A outer s H vs Q E => hb _ A outer s H vs Q E
theorem passL0 {X : Cx} : Passes (L2N.CX X.prog X.w) X E0 := fun _ _ _ _ _ _ _ ⟨_, _, _, _, _, _, _, _, _, _, _, _, z⟩ => z.elim
end
section
variable {X : Cx} {e : Expr} {es : List Expr} {p pos : Pos}
/-- C(e, ..): an own error with its __init__, made where nothing is handled: its context is None -/
theorem pmk_oexN {CX : CXT} {x : Str} {C fI : Addr} {k : Nat} {fd : FuncData} {ps : List Str} {sp : Sp} {ta : TA} (T : OexC X.K C) (hi : PySem.W.findIn X.K (.ref C) "__init__" = some (some (.ref fI))) (ht : PySem.W.typeIn X.K (.ref fI) = some (.type "function"))
    (G : FnOk X.prog X.w X.K X.mg X.base CX k fI fd ps sp) (room : Room (k + 1) X.A) (bd : Binds X.K fd ps []) (out : Passes CX X (fun _ _ _ => False)) (gx : Gl X x) (mx : X.mg x = some (.ref C)) (args : PA X (e :: es) ta)
    (n1 : (x == ("__debug__" : Str)) = false := by decide) (n2 : starEach (e :: es) X.env = (false, eval e X.env) :: starEach es X.env := by rfl) (n3 : (backTo pos (starEach es X.env)).any (·.1) = false := by rfl) :
    L2N.PMk X (.Call (.Name x p) (e :: es) [] pos) (tMkO C sp [] ta) := by
  intro pins s σ H Q inv wish
  obtain ⟨_, _, _, _, mro, _, _, _, _, _, _, _, _, _, _, clsAt, mroOk⟩ := T.cls
  refine wpAny_Call_Name_kw (ld_glob inv gx mx ?_ n1)
  refine PySem.W.callWith_K (h₀ := X.base) inv.ok.mod.kin T.kC (thn (args.run pos pins s σ H _ inv wish) ?_) n2 n3
  rintro us ⟨hp, gs, dr, tk, os⟩ ⟨vs, H1, inv1, rel, few, go⟩
  refine ⟨inv1.kIn, ?_⟩
  -- the args' tuple at N, the error itself at N + 1
  generalize hN : hp.objs.size = N at *
  have fresh : H1 (N + 1) = none := inv1.hok.fresh (by show hp.objs.size ≤ N + 1; omega)
  have want := go (N + 1) fresh
  have stay : ∀ b o, hp.get? b = some o → ((hp.push (PySem.W.kdv_tup us)).push (PySem.HandSPX.excO C N)).get? b = some o :=
    fun b o q => Heap.get?_push_of_some _ (Heap.get?_push_of_some _ q)
  have here : ((hp.push (PySem.W.kdv_tup us)).push (PySem.HandSPX.excO C N)).get? (N + 1) = some (PySem.HandSPX.excO C N) := by
    subst hN
    heap_get
  have inv2 : Inv X pins σ (upd H1 (N + 1) (exo (N + 1) C none)) ⟨(hp.push (PySem.W.kdv_tup us)).push (PySem.HandSPX.excO C N), gs, dr, tk, os⟩ :=
    Inv.laid (t' := tk) inv1 stay (by show hp.objs.size ≤ N + 1; omega) (exo_ok here)
  rw [List.append_nil] at want
  have rel2 : Vals (V.ref (N + 1) :: vs) (Value.ref (N + 1) :: us) := .cons rfl rel
  have lens : (Value.ref (N + 1) :: us).length = ps.length := (rel2.length.symm.trans (G.len _ _ _ _ want) : _)
  have bound := bd ⟨(hp.push (PySem.W.kdv_tup us)).push (PySem.HandSPX.excO C N), gs, dr, tk, os⟩ (Value.ref (N + 1) :: us) inv2.kIn (by rw [List.append_nil]; exact lens)
  rw [List.append_nil] at bound
  have fits : us.length ≤ sizeLine := by
    have z := rel.length
    rw [sizeLine_eq]; omega
  have run := G.run _ X.stack _ _ ⟨Value.ref (N + 1) :: us, []⟩ (Value.ref (N + 1) :: us) _ _ (fun _ _ _ => False) (room.make C us []) (inv2.env0.make C us []) bound rel2 want
  subst hN
  show wpAny _ _ (call (.ref C) us) _ _ _
  refine wpAny_call (PySem.HandSPX.call_own PySem.F.excBase_ValueError (fun Y => PySem.HandSPX.refsVE_contains Y mro mroOk) (inv1.kIn _ _ clsAt) (PySem.W.looks_findIn inv1.kIn hi) (fun self => PySem.W.bind_fn inv1.kIn self ht) fits (codeAny_mono run ?_))
  intro r s' back
  match r, back with
  | .error er, back => exact out pins σ _ _ er s' inv2 back
  | .ok (.ret u), ⟨v, H2, os2, bare2, un2, hok2, rv, ev, d, fs, ea, ed, hd1, q2⟩ =>
    subst ev
    obtain ⟨h2, g2, d2, t2, os'⟩ := s'
    obtain ⟨t0, G0, J, kG, ge, hoe, na⟩ := mk_end0 (d2 := d2) (t2 := t2) inv1 (Nat.le_succ _) stay un2 hok2 os2 bare2 ea ed hd1
    exact ⟨rv, ⟨_, _, _, ⟨G0, g2, d2, t2, os'⟩, _, .ref C, some d, rfl, J, kG, ge, hoe, ⟨rfl, rfl, fun ws z => by cases z; rfl⟩, rfl, rfl, na, rfl, bare2, raises_own T.exC T.tyC, q2⟩⟩
  | .ok .next, back => exact False.elim back
  | .ok .brk, back => exact False.elim back
  | .ok .cont, back => exact False.elim back
end
/-! ### __init__ of both -/
def spMiss (C : Addr) : Sp := fun vs H Q _ => ∃ (a : Addr) (n : Str) (d : Int), vs = [.ref a, .str n, .int d] ∧ H a = some (exo a C none) ∧
  ∀ dx, H dx = none → dx ≠ a → Q .non (upd (upd (upd H dx (exd dx [("name", .str n)])) a (exo a C (some dx))) dx (exd dx [("day", .int d), ("name", .str n)]))
section
variable {P : Program} {w : World} {K : PySem.W.Frag} {mg : Str → Option Value} {base : Heap}
theorem ok_mf (T : Tx K mg w) : FnOk P w K mg base CX0 1 T.MissingFact.a T.MissingFact.d p_MissingFact_init (spMiss T.MissingFact.C) := by
  refine T.MissingFact.F.ok sc_MissingFact_init (fun vs H Q E h => ?_) (fun cdv A outer s H vs Q E hr h => ?_)
  · obtain ⟨a, n, d, rfl, _⟩ := h
    rfl
  · obtain ⟨a, n, d, rfl, ha, k⟩ := h
    refine ⟨_, pss_cons (ps_ost (pv 0) (pv 1)) (pss_one (ps_ost (pv 0) (pv 2))), ?_⟩
    refine ⟨_, rfl, _, rfl, a, _, rfl, T.MissingFact.o, T.MissingFact.n1, .inl ⟨ha, fun dx h1 h2 => ?_⟩⟩
    exact ⟨_, rfl, _, rfl, a, _, rfl, T.MissingFact.o, T.MissingFact.n2, .inr ⟨dx, _, upd_same, by rw [upd_ne h2, upd_same], by show 1 ≤ 900; decide, k dx h1 h2⟩⟩
theorem ok_mr (T : Tx K mg w) : FnOk P w K mg base CX0 1 T.MissingRate.a T.MissingRate.d p_MissingRate_init (spMiss T.MissingRate.C) := by
  refine T.MissingRate.F.ok sc_MissingRate_init (fun vs H Q E h => ?_) (fun cdv A outer s H vs Q E hr h => ?_)
  · obtain ⟨a, n, d, rfl, _⟩ := h
    rfl
  · obtain ⟨a, n, d, rfl, ha, k⟩ := h
    refine ⟨_, pss_cons (ps_ost (pv 0) (pv 1)) (pss_one (ps_ost (pv 0) (pv 2))), ?_⟩
    refine ⟨_, rfl, _, rfl, a, _, rfl, T.MissingRate.o, T.MissingRate.n1, .inl ⟨ha, fun dx h1 h2 => ?_⟩⟩
    exact ⟨_, rfl, _, rfl, a, _, rfl, T.MissingRate.o, T.MissingRate.n2, .inr ⟨dx, _, upd_same, by rw [upd_ne h2, upd_same], by show 1 ≤ 900; decide, k dx h1 h2⟩⟩
end
/-- an error of the class at C that tells the name n and the day d, over what stood in H -/
def Miss (C : Addr) (n : Str) (d : Int) (H : Hp) : XK := fun c dd H' => c = .ref C ∧ Kp [] H H' ∧ ∃ dx, dd = some dx ∧ H' dx = some (.xd [("day", .int d), ("name", .str n)])
/-- behind C(n, d) -/
theorem miss_made {C : Addr} {n : Str} {d : Int} {H : Hp} {Q : XK} (k : ∀ c dd H', Miss C n d H c dd H' → Q c dd H') :
    ∀ a, H a = none → spMiss C (.ref a :: ([.str n, .int d] ++ [])) (upd H a (exo a C none)) (fun v H2 => v = .non ∧ ∃ (dx : Addr) (fs : List (Str × V)), H2 a = some (exo a C (some dx)) ∧ H2 dx = some (exd dx fs) ∧ H dx = none ∧ Q (.ref C) (some dx) (upd (del H2 a) dx (.xd fs))) (fun _ _ _ => False) := by
  intro a ha
  refine ⟨a, n, d, rfl, upd_same, fun dx h1 h2 => ⟨rfl, dx, _, by rw [upd_ne (Ne.symm h2), upd_same], upd_same, by rw [upd_ne h2] at h1; exact h1, ?_⟩⟩
  have hdx : H dx = none := by rw [upd_ne h2] at h1; exact h1
  have same : ∀ b o, H b = some o → (upd (del (upd (upd (upd (upd H a (exo a C none)) dx (exd dx [("name", .str n)])) a (exo a C (some dx))) dx (exd dx [("day", .int d), ("name", .str n)])) a) dx (.xd [("day", .int d), ("name", .str n)])) b = some o := fun b o q => by
    have n1 : b ≠ a := ne_of_none q ha
    have n2 : b ≠ dx := ne_of_none q hdx
    rw [upd_ne n2, del_ne n1, upd_ne n2, upd_ne n1, upd_ne n2, upd_ne n1]
    exact q
  exact k _ _ _ ⟨rfl, ⟨fun b o q _ => same b o q, fun b xs q => same b _ q, fun b o q => ⟨o, same b o q⟩⟩, dx, rfl, upd_same⟩
end KW
set_option maxRecDepth 100000
set_option maxHeartbeats 4000000
/-! Worlds (History, Today) by what they promise; let_of, let_value, evaluated, once for both. -/
namespace KW
open PySem L2
/-! ### lists of keys -/
theorem nodup_len {α : Type} [DecidableEq α] : ∀ {xs ys : List α}, xs.Nodup → (∀ x ∈ xs, x ∈ ys) → xs.length ≤ ys.length
  | [], _, _, _ => Nat.zero_le _
  | x :: r, ys, hn, h => by
    obtain ⟨h1, h2⟩ := List.nodup_cons.mp hn
    have hm : x ∈ ys := h x (by simp)
    have h3 := nodup_len (xs := r) (ys := ys.erase x) h2 fun z hz => by
      have hne : z ≠ x := fun q => h1 (q ▸ hz)
      exact (List.mem_erase_of_ne hne).mpr (h z (by simp [hz]))
    rw [List.length_erase_of_mem hm] at h3
    have : 0 < ys.length := List.length_pos_of_mem hm
    simp; omega
theorem put_keys {κ : Type} [DecidableEq κ] {kvs : List (κ × V)} {k : κ} {v : V} : (putK kvs k v).map (·.1) = if (valV kvs k).isSome = true then kvs.map (·.1) else kvs.map (·.1) ++ [k] := by
  unfold putK
  rw [valV_any]
  split
  · rw [List.map_map]
    refine List.map_congr_left fun p _ => ?_
    show (if p.1 = k then (p.1, v) else p).1 = p.1
    split <;> rfl
  · simp
theorem val_none_of {κ : Type} [DecidableEq κ] {kvs : List (κ × V)} {k : κ} (h : valV kvs k = none) : k ∉ kvs.map (·.1) := by
  intro hm
  obtain ⟨p, hp, e⟩ := List.mem_map.mp hm
  have : (kvs.any fun kv => decide (kv.1 = k)) = true := List.any_eq_true.mpr ⟨p, hp, decide_eq_true e⟩
  rw [valV_any, h] at this
  cases this
theorem put_nodup {κ : Type} [DecidableEq κ] {kvs : List (κ × V)} {k : κ} {v : V} (h : (kvs.map (·.1)).Nodup) : ((putK kvs k v).map (·.1)).Nodup := by
  rw [put_keys]
  split
  · exact h
  · rename_i q
    have e : valV kvs k = none := by
      cases z : valV kvs k with
      | none => rfl
      | some y => rw [z] at q; exact absurd rfl q
    refine List.nodup_append.mpr ⟨h, by simp, fun a ha b hb z => ?_⟩
    have : b = k := by simpa using hb
    subst this; subst z
    exact val_none_of e ha
theorem put_mem {κ : Type} [DecidableEq κ] {kvs : List (κ × V)} {k : κ} {v : V} {x : κ} (h : x ∈ (putK kvs k v).map (·.1)) : x ∈ kvs.map (·.1) ∨ x = k := by
  rw [put_keys] at h
  split at h
  · exact .inl h
  · rcases List.mem_append.mp h with q | q
    · exact .inl q
    · exact .inr (by simpa using q)
/-! ### readings in short -/
section
variable {σ : St} {H : Hp} {D : Ends} {K : PySem.W.Frag} {A B : TS} {i : Nat}
/-- if x in (a, b) -/
theorem in2 {x a b : Str} (h : σ[i]? = some (some (.str x))) (q : ∀ H1, (∀ S, Kp S H H1) → if inV (.str x) [.str a, .str b] = true then A D σ H1 else B D σ H1) :
    tIfS (tTest (tOp (rIn K false) (tVar i) (tTup (tCons (tC (.str a)) (tCons (tC (.str b)) tNil))))) A B D σ H :=
  ⟨_, h, size2, fun t ht => ⟨t, _, rfl, .inr (SqT.of upd_same), rfl, rfl, _, rfl, q _ fun S => .new ht⟩⟩
end
/-! ### lets -/
/-- a dict of lets at ld -/
def LetsAt (H : Hp) (ld : Addr) (L : Str → Option Ex) : Prop :=
  ∃ kvs : List (Key × V), H ld = some (.dK kvs) ∧ ∀ n b, L n = some b → ∃ a, valV kvs (Sum.inr n) = some (.ref a) ∧ At H b a
theorem LetsAt.kp {S : List Addr} {H H' : Hp} {ld : Addr} {L : Str → Option Ex} (h : LetsAt H ld L) (k : Kp S H H') (hs : ld ∉ S) : LetsAt H' ld L := by
  obtain ⟨kvs, h1, h2⟩ := h
  refine ⟨kvs, k.keep _ _ h1 hs, fun n b e => ?_⟩
  obtain ⟨a, h3, h4⟩ := h2 n b e
  exact ⟨a, h3, h4.kp k⟩
/-! ### worlds -/
/-- a kind of world -/
structure Fl where
  C : Addr
  G : Type
  wd : G → Addr
  kd : G → Addr
  ld : G → Addr
  L : G → Str → Option Ex
  M : G → Md
  keys : G → List (List Key)
  ok : G → Ex → Nat → Prop
  I : G → Hp → Prop
  R : G → Nat → Hp → XK
structure FlOk (F : Fl) : Prop where
  ins : ∀ {g H}, F.I g H → ∃ dx fs, H (F.wd g) = some (.ins F.C dx fs) ∧ fs.lookup ("lets" : Str) = some (.ref (F.ld g)) ∧ fs.lookup ("known" : Str) = some (.ref (F.kd g)) ∧ fs.lookup ("fact" : Str) = none ∧ fs.lookup ("rate" : Str) = none ∧ fs.lookup ("timed" : Str) = none
  lets : ∀ {g H}, F.I g H → LetsAt H (F.ld g) (F.L g)
  kp : ∀ {g H H'}, F.I g H → Kp [F.kd g] H H' → F.I g H'
  part : ∀ {g e d p}, F.ok g e d → p ∈ parts e → e.isT = false → F.ok g p d
  fsz : ∀ g n d, Sz 30 ((F.M g).fact n d)
  rsz : ∀ g n d, Sz 30 ((F.M g).rate n d)
  key : ∀ {g n b d}, F.L g n = some b → F.ok g b d → [Sum.inr n, Sum.inl (d : Int)] ∈ F.keys g
  few : ∀ g, (F.keys g).length ≤ 1000
  rtr : ∀ {g d H H1 c dd H'}, Kp [F.kd g] H H1 → F.R g d H1 c dd H' → F.R g d H c dd H'
/-- what is known already is right -/
structure Kn (K : PySem.W.Frag) (F : Fl) (g : F.G) (H : Hp) : Prop where
  ex : ∃ kvs : List (List Key × V), H (F.kd g) = some (.dT kvs) ∧ (kvs.map (·.1)).Nodup ∧ (∀ k ∈ kvs.map (·.1), k ∈ F.keys g) ∧
    ∀ k v, valV kvs k = some v → ∀ n b (d : Nat), k = [Sum.inr n, Sum.inl (d : Int)] → F.L g n = some b → IsV K H v (sem (F.M g) b d)
theorem Kn.new {K : PySem.W.Frag} {F : Fl} {g : F.G} {H : Hp} {p : Addr} {o : HO} (h : Kn K F g H) (hp : H p = none) : Kn K F g (upd H p o) := by
  obtain ⟨kvs, h1, h2, h3, h4⟩ := h.ex
  exact ⟨kvs, by rw [upd_ne (ne_of_none h1 hp)]; exact h1, h2, h3, fun k v e n b d ek el => (h4 k v e n b d ek el).kp (Kp.new (S := []) hp)⟩
/-- nothing of what is known moved -/
theorem Kn.kp {K : PySem.W.Frag} {F : Fl} {g : F.G} {H H' : Hp} (h : Kn K F g H) (k : Kp [] H H') : Kn K F g H' := by
  obtain ⟨kvs, h1, h2, h3, h4⟩ := h.ex
  exact ⟨kvs, k.to _ _ h1, h2, h3, fun y v e n b d ek el => (h4 y v e n b d ek el).kp k⟩
/-- well formed -/
structure Wf (L : Str → Option Ex) (e : Ex) (s : Bool) : Prop where
  wt : WT e s
  con : Con L e
  bits : bw e ≤ 8990
  dp : dep e ≤ 60
/-- the promises -/
def spEval (K : PySem.W.Frag) (F : Fl) (n : Nat) : Sp := fun vs H Q E => ∃ (g : F.G) (a : Addr) (e : Ex) (d : Nat) (s : Bool), vs = [.ref a, .ref (F.wd g), .int d] ∧ At H e a ∧ Wf (F.L g) e s ∧ F.ok g e d ∧ dep e < n ∧ F.I g H ∧ Kn K F g H ∧
  (∀ v H', Kp [F.kd g] H H' → Kn K F g H' → IsV K H' v (sem (F.M g) e d) → Q v H') ∧ ∀ c dd H', F.R g d H c dd H' → E c dd H'
def spTimed (K : PySem.W.Frag) (F : Fl) (n : Nat) : Sp := fun vs H Q E => ∃ (g : F.G) (a : Addr) (e : Ex) (d : Nat) (s : Bool), vs = [.ref (F.wd g), .ref a, .int d] ∧ e.isT = true ∧ At H e a ∧ Wf (F.L g) e s ∧ F.ok g e d ∧ dep e < n ∧ F.I g H ∧ Kn K F g H ∧
  (∀ v H', Kp [F.kd g] H H' → Kn K F g H' → IsV K H' v (sem (F.M g) e d) → Q v H') ∧ ∀ c dd H', F.R g d H c dd H' → E c dd H'
def spRef (K : PySem.W.Frag) (F : Fl) (r : RW) : Sp := fun vs H Q E => ∃ (g : F.G) (n : Str) (d : Nat), vs = [.ref (F.wd g), .str n, .int d] ∧ F.ok g (.ref r n) d ∧ F.I g H ∧
  (∀ v H', Kp [] H H' → IsV K H' v (sem (F.M g) (.ref r n) d) → Q v H') ∧ ∀ c dd H', F.R g d H c dd H' → E c dd H'
def spLet (K : PySem.W.Frag) (F : Fl) (n : Nat) : Sp := fun vs H Q E => ∃ (g : F.G) (x : Str) (b : Ex) (d : Nat), vs = [.str x, .ref (F.wd g), .int d] ∧ F.L g x = some b ∧ Wf (F.L g) b false ∧ F.ok g b d ∧ dep b < n ∧ F.I g H ∧ Kn K F g H ∧
  (∀ v H', Kp [F.kd g] H H' → Kn K F g H' → IsV K H' v (sem (F.M g) b d) → Q v H') ∧ ∀ c dd H', F.R g d H c dd H' → E c dd H'
/-- the methods of a world as they stand -/
structure FlT (K : PySem.W.Frag) (F : Fl) where
  cl : Cls K F.C
  nl : NoAttr K F.C "lets"
  nk : NoAttr K F.C "known"
  af : Addr
  df : FuncData
  pf : List Str
  bf : Binds K df pf []
  mf : Meth K F.C "fact" af
  ar : Addr
  dr : FuncData
  pr : List Str
  br : Binds K dr pr []
  mr : Meth K F.C "rate" ar
  at_ : Addr
  dt : FuncData
  pt : List Str
  bt : Binds K dt pt []
  mt : Meth K F.C "timed" at_
section
variable {P : Program} {w : World} {K : PySem.W.Frag} {mg : Str → Option Value} {base : Heap}
theorem ok_let_of (T : Tx K mg w) : FnOk P w K mg base CX0 1 T.let_of.a T.let_of.d p_let_of (fun vs H Q _ => ∃ (ld : Addr) (n : Str) (kvs : List (Key × V)) (v : V), vs = [.ref ld, .str n] ∧ H ld = some (.dK kvs) ∧ valV kvs (Sum.inr n) = some v ∧ Q v H) := by
  refine T.let_of.F.ok sc_let_of (fun vs H Q E h => ?_) (fun cdv A outer s H vs Q E hr h => ?_)
  · obtain ⟨ld, n, kvs, v, rfl, _⟩ := h
    rfl
  · obtain ⟨ld, n, kvs, v, rfl, hd, hv, k⟩ := h
    have hu := hu_of hr
    refine ⟨_, pss_cons (ps_if (pt_cmp (pc_dnotin hu (pv 1) (pv 0))) (pss_one ps_never) pss_nil) (pss_one (ps_ret (pe_dget hu (pv 0) (pv 1) (fun _ _ => rfl)))), ?_⟩
    refine ⟨_, rfl, _, rfl, ld, _, rfl, DGet.k (k := Sum.inr n) hd, _, rfl, ?_⟩
    refine ifF (by rw [hv]; rfl) ?_
    exact ⟨_, rfl, _, rfl, ld, v, rfl, by rw [← hv]; exact DGet.k (k := Sum.inr n) hd, k⟩
theorem ok_let_value (T : Tx K mg w) {F : Fl} (O : FlOk F) (W : FlT K F) {n j : Nat} (hj : 1 ≤ j) (Ge : FnOk P w K mg base (L2N.CX P w) j T.evaluated.a T.evaluated.d p_evaluated (spEval K F n)) :
    FnOk P w K mg base (L2N.CX P w) (j + 1) T.let_value.a T.let_value.d p_let_value (spLet K F n) := by
  have Gl : FnOk P w K mg base CX0 1 T.let_of.a T.let_of.d p_let_of _ := ok_let_of T
  refine okN T.let_value.F sc_let_value (fun vs H Q E h => ?_) (fun cdv A outer s H vs Q E hr h => ?_)
  · obtain ⟨g, x, b, d, rfl, _⟩ := h
    rfl
  · obtain ⟨g, x, b, d, rfl, hL, wf, ok, hn, hI, hK, k, kx⟩ := h
    have hu := hu_of hr
    refine ⟨_, pss_cons (ps_if (pt_cmp (pc_dnotin hu (pe_tup (pa_cons (pv 0) (pa_cons (pv 2) pa_nil))) (pe_fld (pv 1) rfl)))
        (pss_one (ps_dput hu (pe_fld (pv 1) rfl) (pe_tup (pa_cons (pv 0) (pa_cons (pv 2) pa_nil)))
          (pe_call Ge hr rfl T.evaluated.g T.evaluated.F.kp T.evaluated.b .nil (L2N.passes_call (L2N.takes_of rfl rfl rfl rfl) (fun _ _ _ _ h => h))
            (pa_cons (pe_call Gl (hr.mono hj) rfl T.let_of.g T.let_of.F.kp T.let_of.b .nil pass0 (pa_cons (pe_fld (pv 1) rfl) (pa_cons (pv 0) pa_nil))) (pa_cons (pv 1) (pa_cons (pv 2) pa_nil)))) rfl)) pss_nil)
      (pss_one (ps_ret (pe_dget hu (pe_fld (pv 1) rfl) (pe_tup (pa_cons (pv 0) (pa_cons (pv 2) pa_nil))) (fun _ _ => rfl)))), ?_⟩
    -- (name, day) not in world.known
    refine ⟨_, rfl, _, rfl, size2, fun t ht => ?_⟩
    have kp1 : Kp [] H (upd H t (.tup [.str x, .int d])) := .new ht
    have hI1 := O.kp hI (kp1.nil)
    have hK1 := hK.kp kp1
    generalize eH1 : upd H t (.tup [.str x, .int d]) = H1 at *
    have tH1 : H1 t = some (.tup ([Sum.inr x, Sum.inl (d : Int)].map kV)) := by rw [← eH1]; exact upd_same
    obtain ⟨dx, fs, hw, l1, l2, _⟩ := O.ins hI1
    obtain ⟨kvs, hk1, nd, sub, val⟩ := hK1.ex
    refine ⟨_, rfl, F.wd g, F.C, dx, fs, _, rfl, hw, W.cl, W.nk, l2, F.kd g, _, rfl, DGet.t hk1 tH1, _, rfl, ?_⟩
    -- the last row
    have last : ∀ (H2 : Hp) (v : V), Kp [F.kd g] H H2 → Kn K F g H2 → F.I g H2 → (∃ kvs2, H2 (F.kd g) = some (.dT kvs2) ∧ valV kvs2 [Sum.inr x, Sum.inl (d : Int)] = some v) →
        tRet (tDGet (tFld K (tVar 1) "known") (tTup (tCons (tVar 0) (tCons (tVar 2) tNil)))) { nx := fun _ H' => Q .non H', rt := Q } [some (.str x), some (.ref (F.wd g)), some (.int d)] H2 := by
      rintro H2 v kp2 hK2 hI2 ⟨kvs2, hk2, hv2⟩
      obtain ⟨dx2, fs2, hw2, _, l22, _⟩ := O.ins hI2
      refine ⟨_, rfl, F.wd g, F.C, dx2, fs2, _, rfl, hw2, W.cl, W.nk, l22, _, rfl, _, rfl, size2, fun t2 ht2 => ?_⟩
      have kp3 : Kp [] H2 (upd H2 t2 (.tup [.str x, .int d])) := .new ht2
      obtain ⟨kvs3, hk3, _, _, val3⟩ := (hK2.kp kp3).ex
      have e3 : kvs3 = kvs2 := by
        have z := kp3.to _ _ hk2
        rw [hk3] at z
        injection z with z
        injection z
      subst e3
      refine ⟨F.kd g, v, rfl, by rw [← hv2]; exact DGet.t hk3 (k := [Sum.inr x, Sum.inl (d : Int)]) upd_same, ?_⟩
      exact k v _ (kp2.trans kp3.nil) (hK2.kp kp3) (val3 _ _ hv2 x b d rfl hL)
    cases hv : valV kvs [Sum.inr x, Sum.inl (d : Int)] with
    | some v =>
      refine iteF ?_
      exact last H1 v kp1.nil hK1 hI1 ⟨kvs, hk1, hv⟩
    | none =>
      refine iteT ?_
      obtain ⟨lv, hl1, hl2⟩ := O.lets hI1
      obtain ⟨a, ha, hat⟩ := hl2 x b hL
      refine ⟨_, rfl, F.wd g, F.C, dx, fs, _, rfl, hw, W.cl, W.nl, l1, _, rfl, F.ld g, x, lv, _, rfl, hl1, ha, _, rfl, _, rfl, ?_⟩
      refine ⟨g, a, b, d, false, rfl, hat, wf, ok, hn, hI1, hK1, fun v H2 kp2 hK2 hv2 => ?_, fun c dd H' hR => kx c dd H' (O.rtr kp1.nil hR)⟩
      have hI2 := O.kp hI1 kp2
      obtain ⟨dx2, fs2, hw2, _, l22, _⟩ := O.ins hI2
      refine ⟨_, rfl, F.wd g, F.C, dx2, fs2, _, rfl, hw2, W.cl, W.nk, l22, _, rfl, _, rfl, size2, fun t2 ht2 => ?_⟩
      have kp3 : Kp [] H2 (upd H2 t2 (.tup [.str x, .int d])) := .new ht2
      have hK3 := hK2.kp kp3
      have hI3 := O.kp hI2 kp3.nil
      have hv3 := hv2.kp kp3
      obtain ⟨kvs3, hk3, nd3, sub3, val3⟩ := hK3.ex
      have tH3 : (upd H2 t2 (.tup [.str x, .int d])) t2 = some (.tup ([Sum.inr x, Sum.inl (d : Int)].map kV)) := upd_same
      generalize eH3 : upd H2 t2 (.tup [.str x, .int d]) = H3 at *
      have kin : [Sum.inr x, Sum.inl (d : Int)] ∈ F.keys g := O.key hL ok
      have len3 : kvs3.length < sizeLine := by
        have z := nodup_len nd3 sub3
        rw [List.length_map] at z
        exact small1000 (Nat.le_trans z (O.few g))
      refine ⟨F.kd g, _, rfl, DPut.t hk3 tH3 len3, ?_⟩
      have kp4 : Kp [F.kd g] H3 (upd H3 (F.kd g) (.dT (putK kvs3 [Sum.inr x, Sum.inl (d : Int)] v))) := .mut (by simp) hk3 (fun xs z => by cases z)
      have val4 : valV (putK kvs3 [Sum.inr x, Sum.inl (d : Int)] v) [Sum.inr x, Sum.inl (d : Int)] = some v := by rw [valV_put, if_pos rfl]
      refine last _ v (((kp1.nil.trans kp2).trans kp3.nil).trans kp4) ⟨_, upd_same, put_nodup nd3, fun y hy => ?_, fun y u e n' b' d' ey el => ?_⟩ (O.kp hI3 kp4) ⟨_, upd_same, val4⟩
      · rcases put_mem hy with q | q
        · exact sub3 y q
        · rw [q]; exact kin
      · rw [valV_put] at e
        by_cases q : y = [Sum.inr x, Sum.inl (d : Int)]
        · rw [if_pos q] at e
          have e' : v = u := Option.some.inj e
          subst e'
          rw [q] at ey
          injection ey with e1 e2
          injection e2 with e2 _
          have en : x = n' := by injection e1
          have ed : d = d' := by injection e2 with e2; omega
          subst en; subst ed
          have eb : b = b' := Option.some.inj (hL.symm.trans el)
          subst eb
          exact hv3.kp kp4
        · rw [if_neg q] at e
          exact (val3 y u e n' b' d' ey el).kp kp4
end
end KW
set_option maxRecDepth 100000
set_option maxHeartbeats 4000000
/-! evaluated -/
namespace KW
open PySem L2
/-- a word that none of the first seven tests takes -/
def plainW (x : Str) : Bool := !inV (.str x) [.str "number", .str "money"] && !decide (V.str x = V.str "percent") && !decide (V.str x = V.str "fact") && !decide (V.str x = V.str "rate") && !decide (V.str x = V.str "name") &&
  !inV (.str x) [.str "true", .str "false"] && !inV (.str x) [.str "ever", .str "always", .str "before"]
section
variable {σ : L2.St} {H : Hp} {D : Ends} {K : PySem.W.Frag} {A1 A2 A3 A4 A5 A6 A7 u : TS} {i : Nat}
/-- if x in TIMED -/
theorem inTm {x : Str} {tm : Addr} {A B : TS} (v : KTup K tm [.str "ever", .str "always", .str "before"]) (h : σ[i]? = some (some (.str x))) (q : if inV (.str x) [.str "ever", .str "always", .str "before"] = true then A D σ H else B D σ H) :
    tIfS (tTest (tOp (rIn K false) (tVar i) (tC (.ref tm)))) A B D σ H := ⟨_, h, tm, _, rfl, .inr v.sq, rfl, rfl, _, rfl, q⟩
/-- if x == y, both texts -/
theorem eqS {x y : Str} {A B : TS} (h : σ[i]? = some (some (.str x))) (q : if decide (V.str x = V.str y) = true then A D σ H else B D σ H) : tIfS (tTest (tOp rEq (tVar i) (tC (.str y)))) A B D σ H := ⟨_, h, rfl, _, rfl, q⟩
theorem pre_eval {x : Str} {tm : Addr} (v : KTup K tm [.str "ever", .str "always", .str "before"]) (h : σ[3]? = some (some (.str x))) (hx : plainW x = true) (q : ∀ H1, (∀ S, Kp S H H1) → u D σ H1) :
    tSeq (tIfS (tTest (tOp (rIn K false) (tVar 3) (tTup (tCons (tC (.str "number")) (tCons (tC (.str "money")) tNil))))) A1 tNext)
    (tSeq (tIfS (tTest (tOp rEq (tVar 3) (tC (.str "percent")))) A2 tNext) (tSeq (tIfS (tTest (tOp rEq (tVar 3) (tC (.str "fact")))) A3 tNext) (tSeq (tIfS (tTest (tOp rEq (tVar 3) (tC (.str "rate")))) A4 tNext) (tSeq (tIfS (tTest (tOp rEq (tVar 3) (tC (.str "name")))) A5 tNext)
    (tSeq (tIfS (tTest (tOp (rIn K false) (tVar 3) (tTup (tCons (tC (.str "true")) (tCons (tC (.str "false")) tNil))))) A6 tNext) (tSeq (tIfS (tTest (tOp (rIn K false) (tVar 3) (tC (.ref tm)))) A7 tNext) u)))))) D σ H := by
  simp only [plainW, Bool.and_eq_true, Bool.not_eq_true'] at hx
  obtain ⟨⟨⟨⟨⟨⟨h1, h2⟩, h3⟩, h4⟩, h5⟩, h6⟩, h7⟩ := hx
  refine in2 h fun H1 k1 => ifF h1 ?_
  refine eqS h (ifF h2 (eqS h (ifF h3 (eqS h (ifF h4 (eqS h (ifF h5 (in2 h fun H2 k2 => ifF h6 ?_))))))))
  exact inTm v h (ifF h7 (q H2 fun S => (k1 S).trans (k2 S)))
end
theorem bws_plain (o : BW) : plainW o.s = true := by cases o <;> decide +kernel
theorem not_plain : plainW "not" = true := by decide +kernel
theorem if_plain : plainW "if" = true := by decide +kernel
theorem bws_not (o : BW) : decide (V.str o.s = V.str "not") = false := by cases o <;> decide +kernel
theorem bws_if (o : BW) : decide (V.str o.s = V.str "if") = false := by cases o <;> decide +kernel
theorem bws_and (o : BW) : decide (V.str o.s = V.str "and") = decide (o = .and) := by cases o <;> decide +kernel
theorem bws_or (o : BW) : decide (V.str o.s = V.str "or") = decide (o = .or) := by cases o <;> decide +kernel
theorem bws_log (o : BW) : inV (.str o.s) [.str "and", .str "or"] = o.log := by cases o <;> decide +kernel
theorem tws_timed (o : TW) : inV (.str o.s) [.str "ever", .str "always", .str "before"] = true := by cases o <;> decide +kernel
theorem tws_pre (o : TW) : inV (.str o.s) [.str "number", .str "money"] = false ∧ decide (V.str o.s = V.str "percent") = false ∧ decide (V.str o.s = V.str "fact") = false ∧ decide (V.str o.s = V.str "rate") = false ∧ decide (V.str o.s = V.str "name") = false ∧ inV (.str o.s) [.str "true", .str "false"] = false := by
  cases o <;> decide +kernel
theorem tfs_pre (b : Bool) : inV (.str (tfs b)) [.str "number", .str "money"] = false ∧ decide (V.str (tfs b) = V.str "percent") = false ∧ decide (V.str (tfs b) = V.str "fact") = false ∧ decide (V.str (tfs b) = V.str "rate") = false ∧ decide (V.str (tfs b) = V.str "name") = false ∧ inV (.str (tfs b)) [.str "true", .str "false"] = true ∧ decide (V.str (tfs b) = V.str "true") = b := by
  cases b <;> decide +kernel
theorem Wf.part {L : Str → Option Ex} {e p : Ex} {s t : Bool} (h : Wf L e s) (hp : p ∈ parts e) (ht : WT p t) : Wf L p t :=
  ⟨ht, h.con.part hp, Nat.le_trans (parts_bw hp) h.bits, Nat.le_trans (Nat.le_of_lt (parts_dep hp)) h.dp⟩
section
variable {P : Program} {w : World} {K : PySem.W.Frag} {mg : Str → Option Value} {base : Heap}
theorem ok_evaluated (T : Tx K mg w) {F : Fl} (O : FlOk F) (W : FlT K F) {n j : Nat} (hj : 6 ≤ j) (Gf : FnOk P w K mg base (L2N.CX P w) j W.af W.df W.pf (spRef K F .fact)) (Gr : FnOk P w K mg base (L2N.CX P w) j W.ar W.dr W.pr (spRef K F .rate))
    (Gt : FnOk P w K mg base (L2N.CX P w) j W.at_ W.dt W.pt (spTimed K F (n + 1))) (Gl : FnOk P w K mg base (L2N.CX P w) j T.let_value.a T.let_value.d p_let_value (spLet K F n))
    (Ge : FnOk P w K mg base (L2N.CX P w) j T.evaluated.a T.evaluated.d p_evaluated (spEval K F n)) : FnOk P w K mg base (L2N.CX P w) (j + 1) T.evaluated.a T.evaluated.d p_evaluated (spEval K F (n + 1)) := by
  have Gx : FnOk P w K mg base CX0 2 T.times.a T.times.d p_times (spBin times K) := ok_times T
  have Gc : FnOk P w K mg base CX0 4 T.combined.a T.combined.d p_combined (spCmb K) := ok_combined T
  refine okN T.evaluated.F sc_evaluated (fun vs H Q E h => ?_) (fun cdv A outer s H vs Q E hr h => ?_)
  · obtain ⟨g, a, e, d, s, rfl, _⟩ := h
    rfl
  · obtain ⟨g, a, e, d, s, rfl, hat, wf, ok, hn, hI, hK, k, kx⟩ := h
    refine ⟨_, pss_cons (ps_set (i := 3) sc_evaluated.nd rfl (Or.inl rfl) (pixT 0))
      (pss_cons (ps_if (pt_cmpR op_in_seq (pv 3) (pe_tup (pa_cons pe_str (pa_cons pe_str pa_nil))) (by rfl)) (pss_one (ps_ret (pixT 0))) pss_nil)
      (pss_cons (ps_if (pt_cmpR op_eq (pv 3) pe_str (nomark _)) (pss_one (ps_ret (pe_call Gx (hr.mono (Nat.le_trans (by decide) hj)) rfl T.times.g T.times.F.kp T.times.b .nil pass0 (pa_cons (pixT 0) (pa_cons (pe_glob rfl T.g_HUND (v := .ref T.HUND) rfl) pa_nil))))) pss_nil)
      (pss_cons (ps_if (pt_cmpR op_eq (pv 3) pe_str (nomark _)) (pss_one (ps_ret (pe_meth (pv 1) W.cl W.mf Gf hr W.bf .nil (L2N.passes_call (L2N.takes_of rfl rfl rfl rfl) (fun _ _ _ _ h => h)) (pa_cons (pixT 0) (pa_cons (pv 2) pa_nil))))) pss_nil)
      (pss_cons (ps_if (pt_cmpR op_eq (pv 3) pe_str (nomark _)) (pss_one (ps_ret (pe_meth (pv 1) W.cl W.mr Gr hr W.br .nil (L2N.passes_call (L2N.takes_of rfl rfl rfl rfl) (fun _ _ _ _ h => h)) (pa_cons (pixT 0) (pa_cons (pv 2) pa_nil))))) pss_nil)
      (pss_cons (ps_if (pt_cmpR op_eq (pv 3) pe_str (nomark _)) (pss_one (ps_ret (pe_call Gl hr rfl T.let_value.g T.let_value.F.kp T.let_value.b .nil (L2N.passes_call (L2N.takes_of rfl rfl rfl rfl) (fun _ _ _ _ h => h)) (pa_cons (pixT 0) (pa_cons (pv 1) (pa_cons (pv 2) pa_nil)))))) pss_nil)
      (pss_cons (ps_if (pt_cmpR op_in_seq (pv 3) (pe_tup (pa_cons pe_str (pa_cons pe_str pa_nil))) (by rfl)) (pss_one (ps_ret (pe_cmpR op_eq (pv 3) pe_str (nomark _)))) pss_nil)
      (pss_cons (ps_if (pt_cmpR op_in_seq (pv 3) (pe_glob rfl T.g_TIMED (v := .ref T.TIMED) rfl) (by rfl)) (pss_one (ps_ret (pe_meth (pv 1) W.cl W.mt Gt hr W.bt .nil (L2N.passes_call (L2N.takes_of rfl rfl rfl rfl) (fun _ _ _ _ h => h)) (pa_cons (pv 0) (pa_cons (pv 2) pa_nil))))) pss_nil)
      (pss_cons (ps_set (i := 4) sc_evaluated.nd rfl (Or.inl rfl) (pe_call Ge hr rfl T.evaluated.g T.evaluated.F.kp T.evaluated.b .nil (L2N.passes_call (L2N.takes_of rfl rfl rfl rfl) (fun _ _ _ _ h => h)) (pa_cons (pixT 0) (pa_cons (pv 1) (pa_cons (pv 2) pa_nil)))))
      (pss_cons (ps_if (pt_cmpR op_eq (pv 3) pe_str (nomark _)) (pss_one (ps_ret (pe_not (pv 4)))) pss_nil)
      (pss_cons (ps_if (pt_cmpR op_eq (pv 3) pe_str (nomark _)) (pss_one (ps_ret (pe_call Ge hr rfl T.evaluated.g T.evaluated.F.kp T.evaluated.b .nil (L2N.passes_call (L2N.takes_of rfl rfl rfl rfl) (fun _ _ _ _ h => h)) (pa_cons (pe_ix ix_tup (pv 0) (pe_ifExp (pt_val (pv 4)) pe_int pe_int) (fun _ _ => rfl)) (pa_cons (pv 1) (pa_cons (pv 2) pa_nil)))))) pss_nil)
      (pss_cons (ps_if (PW.pt (pw_and (pt_cmpR op_eq (pv 3) pe_str (nomark _)) (pw_and1 (pt_not (pt_val (pv 4)))))) (pss_one (ps_ret pe_bl)) pss_nil)
      (pss_cons (ps_if (PW.pt (pw_and (pt_cmpR op_eq (pv 3) pe_str (nomark _)) (pw_and1 (pt_val (pv 4))))) (pss_one (ps_ret pe_bl)) pss_nil)
      (pss_cons (ps_set (i := 5) sc_evaluated.nd rfl (Or.inl rfl) (pe_call Ge hr rfl T.evaluated.g T.evaluated.F.kp T.evaluated.b .nil (L2N.passes_call (L2N.takes_of rfl rfl rfl rfl) (fun _ _ _ _ h => h)) (pa_cons (pixT 0) (pa_cons (pv 1) (pa_cons (pv 2) pa_nil)))))
      (pss_cons (ps_if (pt_cmpR op_in_seq (pv 3) (pe_tup (pa_cons pe_str (pa_cons pe_str pa_nil))) (by rfl)) (pss_one (ps_ret (pv 5))) pss_nil)
      (pss_one (ps_ret (pe_call Gc (hr.mono (Nat.le_trans (by decide) hj)) rfl T.combined.g T.combined.F.kp T.combined.b .nil pass0 (pa_cons (pv 3) (pa_cons (pv 4) (pa_cons (pv 5) pa_nil)))))))))))))))))))), ?_⟩
    cases e with
    | lit lw f =>
      obtain ⟨t, h1, h2⟩ := hat
      refine ⟨_, rfl, a, _, _, _, rfl, rfl, SqT.of h1, at0, ?_⟩
      refine in2 rfl fun H1 k1 => ?_
      have h1' := (k1 []).to _ _ h1
      have h2' := (k1 []).to _ _ h2
      cases lw with
      | number =>
        refine ifT (by decide +kernel) ?_
        exact ⟨_, rfl, a, _, _, _, rfl, rfl, SqT.of h1', at1, k _ H1 (k1 _) (hK.kp (k1 _)) ⟨t, rfl, .inl h2'⟩⟩
      | money =>
        refine ifT (by decide +kernel) ?_
        exact ⟨_, rfl, a, _, _, _, rfl, rfl, SqT.of h1', at1, k _ H1 (k1 _) (hK.kp (k1 _)) ⟨t, rfl, .inl h2'⟩⟩
      | percent =>
        refine ifF (by decide +kernel) (eqS rfl (ifT (by decide +kernel) ?_))
        obtain ⟨_, w1, w2, w3⟩ := wf.wt
        have z : Sz 30 f := ⟨w1, w2, Nat.lt_of_lt_of_le w3 (Nat.pow_le_pow_right (by decide) (by decide))⟩
        refine ⟨_, rfl, a, _, _, _, rfl, rfl, SqT.of h1', at1, t, T.HUND, f, (1, 100), 30, 7, rfl, .inl h2', .inr T.v_HUND, z, ⟨by decide, by decide, by decide⟩, by decide, fun t' H2 k2 ht' => ?_⟩
        have kk : Kp [] H H2 := (k1 _).trans k2
        exact k _ H2 kk.nil (hK.kp kk) ⟨t', rfl, ht'⟩
    | ref rw_ x =>
      refine ⟨_, rfl, a, _, _, _, rfl, rfl, SqT.of hat, at0, ?_⟩
      refine in2 rfl fun H1 k1 => ?_
      have h1' := (k1 []).to _ _ hat
      have hI1 := O.kp hI (k1 _)
      obtain ⟨dx, fs, hw, _, _, l3, l4, _⟩ := O.ins hI1
      cases rw_ with
      | fact =>
        refine ifF (by decide +kernel) (eqS rfl (ifF (by decide +kernel) (eqS rfl (ifT (by decide +kernel) ?_))))
        refine ⟨_, rfl, F.wd g, dx, fs, rfl, hw, l3, _, rfl, a, _, _, _, rfl, rfl, SqT.of h1', at1, _, rfl, g, x, d, rfl, ok, hI1, fun v H2 k2 hv => ?_, fun c dd H' hR => kx c dd H' (O.rtr (k1 _) hR)⟩
        have kk : Kp [] H H2 := (k1 _).trans k2
        exact k v H2 kk.nil (hK.kp kk) hv
      | rate =>
        refine ifF (by decide +kernel) (eqS rfl (ifF (by decide +kernel) (eqS rfl (ifF (by decide +kernel) (eqS rfl (ifT (by decide +kernel) ?_))))))
        refine ⟨_, rfl, F.wd g, dx, fs, rfl, hw, l4, _, rfl, a, _, _, _, rfl, rfl, SqT.of h1', at1, _, rfl, g, x, d, rfl, ok, hI1, fun v H2 k2 hv => ?_, fun c dd H' hR => kx c dd H' (O.rtr (k1 _) hR)⟩
        have kk : Kp [] H H2 := (k1 _).trans k2
        exact k v H2 kk.nil (hK.kp kk) hv
    | nam x b =>
      refine ⟨_, rfl, a, _, _, _, rfl, rfl, SqT.of hat, at0, ?_⟩
      refine in2 rfl fun H1 k1 => ?_
      have h1' := (k1 []).to _ _ hat
      have hI1 := O.kp hI (k1 _)
      refine ifF (by decide +kernel) (eqS rfl (ifF (by decide +kernel) (eqS rfl (ifF (by decide +kernel) (eqS rfl (ifF (by decide +kernel) (eqS rfl (ifT (by decide +kernel) ?_))))))))
      have hp : b ∈ parts (.nam x b) := by simp [parts]
      refine ⟨_, rfl, a, _, _, _, rfl, rfl, SqT.of h1', at1, _, rfl, _, rfl, g, x, b, d, rfl, wf.con.2.1, wf.part hp wf.wt.2, O.part ok hp rfl, by have := parts_dep hp; omega, hI1, hK.kp (k1 _), fun v H2 k2 hK2 hv => ?_, fun c dd H' hR => kx c dd H' (O.rtr (k1 _) hR)⟩
      exact k v H2 ((k1 _).trans k2) hK2 hv
    | tt b =>
      refine ⟨_, rfl, a, _, _, _, rfl, rfl, SqT.of hat, at0, ?_⟩
      obtain ⟨c1, c2, c3, c4, c5, c6, c7⟩ := tfs_pre b
      refine in2 rfl fun H1 k1 => ifF c1 (eqS rfl (ifF c2 (eqS rfl (ifF c3 (eqS rfl (ifF c4 (eqS rfl (ifF c5 (in2 rfl fun H2 k2 => ifT c6 ?_)))))))))
      have kk : Kp [] H H2 := (k1 _).trans (k2 _)
      refine ⟨_, rfl, rfl, ?_⟩
      rw [c7]
      exact k _ H2 kk.nil (hK.kp kk) rfl
    | timed tw m c =>
      obtain ⟨x, h1, h2⟩ := id hat
      refine ⟨_, rfl, a, _, _, _, rfl, rfl, SqT.of h1, at0, ?_⟩
      obtain ⟨c1, c2, c3, c4, c5, c6⟩ := tws_pre tw
      refine in2 rfl fun H1 k1 => ifF c1 (eqS rfl (ifF c2 (eqS rfl (ifF c3 (eqS rfl (ifF c4 (eqS rfl (ifF c5 (in2 rfl fun H2 k2 => ifF c6 (inTm T.v_TIMED rfl (ifT (tws_timed tw) ?_)))))))))))
      have kk : Kp [] H H2 := (k1 _).trans (k2 _)
      have hI2 := O.kp hI kk.nil
      obtain ⟨dx, fs, hw, _, _, _, _, l5⟩ := O.ins hI2
      refine ⟨_, rfl, F.wd g, dx, fs, rfl, hw, l5, _, rfl, _, rfl, g, a, _, d, s, rfl, rfl, hat.kp kk, wf, ok, hn, hI2, hK.kp kk, fun v H3 k3 hK3 hv => ?_, fun c dd H' hR => kx c dd H' (O.rtr kk.nil hR)⟩
      exact k v H3 (kk.nil.trans k3) hK3 hv
    | un c =>
      obtain ⟨x, h1, h2⟩ := hat
      obtain ⟨rfl, wc⟩ := wf.wt
      refine ⟨_, rfl, a, _, _, _, rfl, rfl, SqT.of h1, at0, ?_⟩
      refine pre_eval T.v_TIMED rfl not_plain fun H1 k1 => ?_
      have hp : c ∈ parts (.un c) := by simp [parts]
      refine ⟨_, rfl, a, _, _, _, rfl, rfl, SqT.of ((k1 []).to _ _ h1), at1, _, rfl, _, rfl, g, x, c, d, true, rfl, h2.kp (k1 []), wf.part hp wc, O.part ok hp rfl, by have := parts_dep hp; omega, O.kp hI (k1 _), hK.kp (k1 _), fun v H2 k2 hK2 hv => ?_, fun c dd H' hR => kx c dd H' (O.rtr (k1 _) hR)⟩
      rw [(sem_sort c d true wc).1 rfl] at hv
      cases hv
      refine eqS rfl (ifT (by decide +kernel) ?_)
      exact ⟨_, rfl, _, rfl, k _ H2 ((k1 _).trans k2) hK2 rfl⟩
    | ite c e f =>
      obtain ⟨x, y, z, h1, h2, h3, h4⟩ := hat
      obtain ⟨wc, we, wf'⟩ := wf.wt
      refine ⟨_, rfl, a, _, _, _, rfl, rfl, SqT.of h1, at0, ?_⟩
      refine pre_eval T.v_TIMED rfl if_plain fun H1 k1 => ?_
      have hp : c ∈ parts (.ite c e f) := by simp [parts]
      have hpe : e ∈ parts (.ite c e f) := by simp [parts]
      have hpf : f ∈ parts (.ite c e f) := by simp [parts]
      refine ⟨_, rfl, a, _, _, _, rfl, rfl, SqT.of ((k1 []).to _ _ h1), at1, _, rfl, _, rfl, g, x, c, d, true, rfl, h2.kp (k1 []), wf.part hp wc, O.part ok hp rfl, by have := parts_dep hp; omega, O.kp hI (k1 _), hK.kp (k1 _), fun v H2 k2 hK2 hv => ?_, fun c dd H' hR => kx c dd H' (O.rtr (k1 _) hR)⟩
      have hI2 := O.kp (O.kp hI (k1 _)) k2
      have kk : Kp [F.kd g] H H2 := (k1 _).trans k2
      rw [(sem_sort c d true wc).1 rfl] at hv
      cases hv
      refine eqS rfl (ifF (by decide +kernel) (eqS rfl (ifT (by decide +kernel) ?_)))
      have q : sem (F.M g) (.ite c e f) d = if (sem (F.M g) c d).t = true then sem (F.M g) e d else sem (F.M g) f d := rfl
      refine ⟨_, rfl, _, rfl, _, rfl, ?_⟩
      refine ite2 (fun b => ?_) (fun b => ?_)
      · refine ⟨a, _, _, _, rfl, rfl, SqT.of (kk.tup _ _ h1), at2, _, rfl, _, rfl, g, y, e, d, s, rfl, h3.kp kk, wf.part hpe we, O.part ok hpe rfl, by have := parts_dep hpe; omega, hI2, hK2, fun v H3 k3 hK3 hv => ?_, fun c dd H' hR => kx c dd H' (O.rtr kk hR)⟩
        exact k v H3 (kk.trans k3) hK3 (by rw [q, if_pos b]; exact hv)
      · refine ⟨a, _, _, _, rfl, rfl, SqT.of (kk.tup _ _ h1), at3, _, rfl, _, rfl, g, z, f, d, s, rfl, h4.kp kk, wf.part hpf wf', O.part ok hpf rfl, by have := parts_dep hpf; omega, hI2, hK2, fun v H3 k3 hK3 hv => ?_, fun c dd H' hR => kx c dd H' (O.rtr kk hR)⟩
        exact k v H3 (kk.trans k3) hK3 (by rw [q, if_neg b]; exact hv)
    | bin o e f =>
      obtain ⟨x, y, h1, h2, h3⟩ := hat
      have hp : e ∈ parts (.bin o e f) := by simp [parts]
      have hpf : f ∈ parts (.bin o e f) := by simp [parts]
      refine ⟨_, rfl, a, _, _, _, rfl, rfl, SqT.of h1, at0, ?_⟩
      refine pre_eval T.v_TIMED rfl (bws_plain o) fun H1 k1 => ?_
      obtain ⟨se, we, wf'⟩ : ∃ t, WT e t ∧ WT f t := by
        have z := wf.wt
        by_cases hl : o.log = true
        · rw [WT, if_pos hl] at z; exact ⟨true, z.2.1, z.2.2⟩
        · rw [WT, if_neg hl] at z; exact ⟨false, z.2.1, z.2.2⟩
      have sel : o.log = se ∨ True := .inr trivial
      refine ⟨_, rfl, a, _, _, _, rfl, rfl, SqT.of ((k1 []).to _ _ h1), at1, _, rfl, _, rfl, g, x, e, d, se, rfl, h2.kp (k1 []), wf.part hp we, O.part ok hp rfl, by have := parts_dep hp; omega, O.kp hI (k1 _), hK.kp (k1 _), fun v H2 k2 hK2 hv => ?_, fun c dd H' hR => kx c dd H' (O.rtr (k1 _) hR)⟩
      have hI2 := O.kp (O.kp hI (k1 _)) k2
      have kk : Kp [F.kd g] H H2 := (k1 _).trans k2
      refine eqS rfl (ifF (bws_not o) (eqS rfl (ifF (bws_if o) ?_)))
      by_cases hl : o.log = true
      · -- and, or
        have z := wf.wt
        rw [WT, if_pos hl] at z
        obtain ⟨rfl, w1, w2⟩ := z
        rw [(sem_sort e d true w1).1 rfl] at hv
        cases hv
        -- the second part and its return
        have second : ∀ q : (sem (F.M g) (.bin o e f) d) = .tru (sem (F.M g) f d).t, _ := fun q => (⟨_, rfl, a, _, _, _, rfl, rfl, SqT.of (kk.tup _ _ h1), at2, _, rfl, _, rfl, g, y, f, d, true, rfl, h3.kp kk, wf.part hpf w2, O.part ok hpf rfl, by have := parts_dep hpf; omega, hI2, hK2, fun v H3 k3 hK3 hv => by
            rw [(sem_sort f d true w2).1 rfl] at hv
            cases hv
            refine in2 rfl fun H4 k4 => ifT (by rw [bws_log]; exact hl) ?_
            exact ⟨_, rfl, k _ H4 ((kk.trans k3).trans (k4 _)) (hK3.kp (k4 _)) (by rw [q]; exact rfl)⟩, fun c dd H' hR => kx c dd H' (O.rtr kk hR)⟩ :
          tSeq (tAsg (tCall (spEval K F n) [] E (tCons (tOp (rIxT K) (tVar 0) (tC (.int 2))) (tCons (tVar 1) (tCons (tVar 2) tNil)))) (gName 5)) (tSeq (tIfS (tTest (tOp (rIn K false) (tVar 3) (tTup (tCons (tC (.str "and")) (tCons (tC (.str "or")) tNil))))) (tRet (tVar 5)) tNext)
            (tRet (tCall (spCmb K) [] E0 (tCons (tVar 3) (tCons (tVar 4) (tCons (tVar 5) tNil)))))) { nx := fun _ H' => Q .non H', rt := Q } [some (.ref a), some (.ref (F.wd g)), some (.int d), some (.str o.s), some (.bl (sem (F.M g) e d).t), none] H2)
        cases o
        case and =>
          refine ⟨_, rfl, rfl, _, rfl, ifT (by decide +kernel) ⟨_, rfl, _, rfl, ?_⟩⟩
          cases hb : (sem (F.M g) e d).t with
          | false =>
            refine ifT rfl (k _ H2 kk hK2 ?_)
            show V.bl false = .bl ((sem (F.M g) e d).t && (sem (F.M g) f d).t)
            rw [hb]; rfl
          | true =>
            refine ifF rfl ?_
            refine ⟨_, rfl, rfl, _, rfl, ifF (by decide +kernel) ?_⟩
            refine ifF rfl ?_
            rw [hb] at second
            refine second ?_
            show Vl.tru ((sem (F.M g) e d).t && (sem (F.M g) f d).t) = _
            rw [hb]; rfl
        case or =>
          refine ⟨_, rfl, rfl, _, rfl, ifF (by decide +kernel) (ifF rfl ?_)⟩
          refine ⟨_, rfl, rfl, _, rfl, ifT (by decide +kernel) ⟨_, rfl, _, rfl, ?_⟩⟩
          cases hb : (sem (F.M g) e d).t with
          | true =>
            refine ifT rfl (k _ H2 kk hK2 ?_)
            show V.bl true = .bl ((sem (F.M g) e d).t || (sem (F.M g) f d).t)
            rw [hb]; rfl
          | false =>
            refine ifF rfl ?_
            rw [hb] at second
            refine second ?_
            show Vl.tru ((sem (F.M g) e d).t || (sem (F.M g) f d).t) = _
            rw [hb]; rfl
        all_goals exact absurd hl (by decide)
      · -- numbers
        have hl' : o.log = false := by simpa using hl
        have z := wf.wt
        rw [WT, if_neg hl] at z
        obtain ⟨rfl, w1, w2⟩ := z
        have na : decide (V.str o.s = V.str "and") = false := by rw [bws_and]; exact decide_eq_false (by rintro rfl; exact hl rfl)
        have no : decide (V.str o.s = V.str "or") = false := by rw [bws_or]; exact decide_eq_false (by rintro rfl; exact hl rfl)
        rw [(sem_sort e d false w1).2 rfl] at hv
        obtain ⟨t1, rfl, ht1⟩ := hv
        refine ⟨_, rfl, rfl, _, rfl, ifF na (ifF rfl ?_)⟩
        refine ⟨_, rfl, rfl, _, rfl, ifF no (ifF rfl ?_)⟩
        refine ⟨_, rfl, a, _, _, _, rfl, rfl, SqT.of (kk.tup _ _ h1), at2, _, rfl, _, rfl, g, y, f, d, false, rfl, h3.kp kk, wf.part hpf w2, O.part ok hpf rfl, by have := parts_dep hpf; omega, hI2, hK2, fun v H3 k3 hK3 hv => ?_, fun c dd H' hR => kx c dd H' (O.rtr kk hR)⟩
        rw [(sem_sort f d false w2).2 rfl] at hv
        obtain ⟨t2, rfl, ht2⟩ := hv
        refine in2 rfl fun H4 k4 => ifF (by rw [bws_log]; exact hl') ?_
        have s1 := sem_sz (O.fsz g) (O.rsz g) e d w1
        have s2 := sem_sz (O.fsz g) (O.rsz g) f d w2
        have hb := wf.bits
        rw [bw, if_neg hl] at hb
        refine ⟨_, rfl, _, rfl, _, rfl, o, t1, t2, _, _, bw e, bw f, rfl, hl', (ht1.kp k3).kp (k4 []), ht2.kp (k4 []), s1, s2, by omega, fun v H5 k5 hv => ?_⟩
        have k6 : Kp [F.kd g] H H5 := ((kk.trans k3).trans (k4 _)).trans k5.nil
        refine k v H5 k6 ((hK3.kp (k4 _)).kp k5) ?_
        have q : sem (F.M g) (.bin o e f) d = cmb o (sem (F.M g) e d).n (sem (F.M g) f d).n := by
          cases o <;> first | rfl | exact absurd rfl hl
        rw [q]; exact hv
end
end KW
set_option maxRecDepth 100000
set_option maxHeartbeats 4000000
/-! History and value -/
namespace KW
open PySem L2
/-! ### dict(lets) -/
def lk (ls : List (Str × Ex)) (n : Str) : Option Ex := (ls.find? fun p => decide (p.1 = n)).map (·.2)
theorem lk_pos {p : Str × Ex} {r : List (Str × Ex)} {n : Str} (h : p.1 = n) : lk (p :: r) n = some p.2 := by simp [lk, List.find?, h]
theorem lk_neg {p : Str × Ex} {r : List (Str × Ex)} {n : Str} (h : ¬ p.1 = n) : lk (p :: r) n = lk r n := by simp [lk, List.find?, h]
theorem lk_mem : ∀ {ls : List (Str × Ex)} {n : Str} {b : Ex}, lk ls n = some b → (n, b) ∈ ls
  | [], _, _, h => by simp [lk] at h
  | p :: r, n, b, h => by
    by_cases e : p.1 = n
    · rw [lk_pos e] at h
      have : p = (n, b) := Prod.ext e (Option.some.inj h)
      rw [this]; simp
    · rw [lk_neg e] at h
      exact List.mem_cons_of_mem _ (lk_mem h)
theorem merge_val : ∀ (more acc : List (Key × V)) (k : Key), (more.map (·.1)).Nodup → valV (mergeK acc more) k = (valV more k).or (valV acc k)
  | [], acc, k, _ => by rw [valV_nil]; rfl
  | p :: r, acc, k, h => by
    obtain ⟨h1, h2⟩ := List.nodup_cons.mp h
    have e : mergeK acc (p :: r) = mergeK (putK acc p.1 p.2) r := rfl
    rw [e, merge_val r _ k h2, valV_put]
    by_cases q : p.1 = k
    · rw [valV_pos q]
      have n : valV r k = none := by
        cases z : valV r k with
        | none => rfl
        | some v =>
          have : (r.any fun kv => decide (kv.1 = k)) = true := by rw [valV_any, z]; rfl
          obtain ⟨x, hx, hd⟩ := List.any_eq_true.mp this
          have : x.1 = k := of_decide_eq_true hd
          exact absurd (List.mem_map.mpr ⟨x, hx, this.trans q.symm⟩) h1
      rw [n, if_pos q.symm]; rfl
    · rw [valV_neg q, if_neg (fun z => q z.symm)]
/-- a pair (name, expression) at p -/
def LetP (H : Hp) (p : Addr) (nb : Str × Ex) : Prop := ∃ a, H p = some (.tup [.str nb.1, .ref a]) ∧ At H nb.2 a
/-- a list of such pairs at la -/
def LetsL (H : Hp) (la : Addr) (ls : List (Str × Ex)) : Prop := ∃ ps : List Addr, H la = some (.lst (ps.map V.ref)) ∧ PySem.Paired (LetP H) ps ls
theorem paired_imp {α β : Type} {F G : α → β → Prop} (h : ∀ a b, F a b → G a b) : ∀ {xs : List α} {ys : List β}, PySem.Paired F xs ys → PySem.Paired G xs ys
  | _, _, .nil => .nil
  | _, _, .cons a r => .cons (h _ _ a) (paired_imp h r)
theorem LetsL.kp {S : List Addr} {H H' : Hp} {la : Addr} {ls : List (Str × Ex)} (h : LetsL H la ls) (k : Kp S H H') (hs : la ∉ S) : LetsL H' la ls := by
  obtain ⟨ps, h1, h2⟩ := h
  exact ⟨ps, k.keep _ _ h1 hs, paired_imp (fun p nb ⟨a, h3, h4⟩ => ⟨a, k.tup _ _ h3, h4.kp k⟩) h2⟩
theorem lets_kvs {K : PySem.W.Frag} {H : Hp} : ∀ {ps : List Addr} {ls : List (Str × Ex)}, PySem.Paired (LetP H) ps ls →
    ∃ kvs : List (Key × V), PySem.Paired (fun p (kv : Key × V) => SqT K H p [kV kv.1, kv.2]) ps kvs ∧ kvs.map (·.1) = ls.map (fun nb => (Sum.inr nb.1 : Key)) ∧ ∀ n b, lk ls n = some b → ∃ a, valV kvs (Sum.inr n) = some (.ref a) ∧ At H b a
  | _, _, .nil => ⟨[], .nil, rfl, fun n b h => by simp [lk] at h⟩
  | _, _, @PySem.Paired.cons _ _ _ p nb ps ls ⟨a, h1, h2⟩ r => by
    obtain ⟨kvs, q1, q2, q3⟩ := lets_kvs (K := K) r
    refine ⟨(Sum.inr nb.1, .ref a) :: kvs, .cons (SqT.of h1) q1, by simp [q2], fun n b h => ?_⟩
    by_cases e : nb.1 = n
    · rw [lk_pos e] at h
      have e2 : nb.2 = b := Option.some.inj h
      exact ⟨a, valV_pos (by show (Sum.inr nb.1 : Key) = Sum.inr n; rw [e]), e2 ▸ h2⟩
    · rw [lk_neg e] at h
      obtain ⟨a', h3, h4⟩ := q3 n b h
      exact ⟨a', by rw [valV_neg (fun z => e (Sum.inr.inj z))]; exact h3, h4⟩
theorem dict_lets {K : PySem.W.Frag} {H : Hp} {la : Addr} {ls : List (Str × Ex)} {Q : VK} (h : LetsL H la ls) (nd : (ls.map (·.1)).Nodup)
    (q : ∀ p H', H p = none → Kp [] H H' → LetsAt H' p (lk ls) → (∀ b, b ≠ p → H' b = H b) → Q (.ref p) H') :
    ∃ (a : Addr) (ps : List Addr) (kvs : List (Key × V)), [V.ref la] = [.ref a] ∧ SqL K H a (ps.map V.ref) ∧ PySem.Paired (fun p kv => SqT K H p [kV kv.1, kv.2]) ps kvs ∧ ∀ p, H p = none → Q (.ref p) (upd H p (.dK (mergeK [] kvs))) := by
  obtain ⟨ps, h1, h2⟩ := h
  obtain ⟨kvs, q1, q2, q3⟩ := lets_kvs (K := K) h2
  refine ⟨la, ps, kvs, rfl, SqL.of h1, q1, fun p hp => ?_⟩
  have k : Kp [] H (upd H p (.dK (mergeK [] kvs))) := .new hp
  refine q p _ hp k ⟨_, upd_same, fun n b e => ?_⟩ fun b hb => upd_ne hb
  obtain ⟨a, h3, h4⟩ := q3 n b e
  have nk : (kvs.map (·.1)).Nodup := by
    rw [q2]
    have : ls.map (fun nb => (Sum.inr nb.1 : Key)) = (ls.map (·.1)).map Sum.inr := by rw [List.map_map]; rfl
    rw [this]
    exact List.pairwise_map.mpr (nd.imp fun hne z => hne (Sum.inr.inj z))
  exact ⟨a, by rw [merge_val _ _ _ nk, h3]; rfl, h4.kp k⟩
/-! ### facts and rates of all days -/
def FrL (H : Hp) (la : Addr) (fs : List Fr) : Prop := ∃ ts : List Addr, H la = some (.lst (ts.map V.ref)) ∧ PySem.Paired (fun (t : Addr) (f : Fr) => H t = some (.tup [.int f.1, .int f.2])) ts fs
theorem FrL.kp {S : List Addr} {H H' : Hp} {la : Addr} {fs : List Fr} (h : FrL H la fs) (k : Kp S H H') (hs : la ∉ S) : FrL H' la fs := by
  obtain ⟨ts, h1, h2⟩ := h
  exact ⟨ts, k.keep _ _ h1 hs, paired_imp (fun t f e => k.tup _ _ e) h2⟩
theorem paired_get {α β : Type} {F : α → β → Prop} : ∀ {xs : List α} {ys : List β} {i : Nat} {y : β}, PySem.Paired F xs ys → ys[i]? = some y → ∃ x, xs[i]? = some x ∧ F x y
  | _, _, _, _, .nil, h => by simp at h
  | _, _, 0, _, .cons a r, h => by simp at h; subst h; exact ⟨_, rfl, a⟩
  | _, _, i + 1, y, .cons a r, h => by
    obtain ⟨x, h1, h2⟩ := paired_get (i := i) r (by simpa using h)
    exact ⟨x, by simpa using h1, h2⟩
theorem paired_len {α β : Type} {F : α → β → Prop} : ∀ {xs : List α} {ys : List β}, PySem.Paired F xs ys → xs.length = ys.length
  | _, _, .nil => rfl
  | _, _, .cons a r => by simp [paired_len r]
theorem FrL.at {K : PySem.W.Frag} {H : Hp} {la : Addr} {fs : List Fr} {d : Nat} (h : FrL H la fs) (hd : d < fs.length) : ∃ (xs : List V) (t : Addr), H la = some (.lst xs) ∧ xs.length = fs.length ∧ atI xs (d : Int) = some (.ref t) ∧ FrA K H t (fs.getD d (0, 1)) := by
  obtain ⟨ts, h1, h2⟩ := h
  have e : fs[d]? = some (fs.getD d (0, 1)) := by
    rw [List.getD_eq_getElem?_getD, List.getElem?_eq_getElem hd]; rfl
  obtain ⟨t, h3, h4⟩ := paired_get h2 e
  exact ⟨_, t, h1, by rw [List.length_map, paired_len h2], atI_nat (by rw [List.getElem?_map, h3]; rfl), .inl h4⟩
/-- the dict of all facts (or rates) at fd -/
def HistAt (kd : Addr) (H : Hp) (fd : Addr) (fct : Str → Option (List Fr)) : Prop :=
  fd ≠ kd ∧ ∃ kvs : List (Key × V), H fd = some (.dK kvs) ∧ ∀ n fs, fct n = some fs → ∃ la, valV kvs (Sum.inr n) = some (.ref la) ∧ la ≠ kd ∧ FrL H la fs
theorem HistAt.kp {kd : Addr} {H H' : Hp} {fd : Addr} {fct : Str → Option (List Fr)} (h : HistAt kd H fd fct) (k : Kp [kd] H H') : HistAt kd H' fd fct := by
  obtain ⟨h0, kvs, h1, h2⟩ := h
  refine ⟨h0, kvs, k.keep _ _ h1 (by simpa using h0), fun n fs e => ?_⟩
  obtain ⟨la, h3, h4, h5⟩ := h2 n fs e
  exact ⟨la, h3, h4, h5.kp k (by simpa using h4)⟩
/-- facts and rates that are named -/
def RefOk (A B : Str → Prop) : Ex → Prop
  | .lit _ _ => True
  | .ref .fact n => A n
  | .ref .rate n => B n
  | .nam _ b => RefOk A B b
  | .tt _ => True
  | .un c => RefOk A B c
  | .bin _ e f => RefOk A B e ∧ RefOk A B f
  | .ite c e f => RefOk A B c ∧ RefOk A B e ∧ RefOk A B f
  | .timed _ _ c => RefOk A B c
theorem RefOk.part {A B : Str → Prop} {e p : Ex} (h : RefOk A B e) (hp : p ∈ parts e) : RefOk A B p := by
  cases e <;> simp [parts] at hp
  · subst hp; exact h
  · subst hp; exact h
  · rcases hp with rfl | rfl
    · exact h.1
    · exact h.2
  · rcases hp with rfl | rfl | rfl
    · exact h.1
    · exact h.2.1
    · exact h.2.2
  · subst hp; exact h
def mdl (fct rat : Str → Option (List Fr)) : Md := ⟨fun n d => ((fct n).getD []).getD d (0, 1), fun n d => ((rat n).getD []).getD d (0, 1)⟩
theorem one_sz : Sz 30 ((0, 1) : Fr) := ⟨by decide, by decide, by decide⟩
theorem mdl_sz {fct : Str → Option (List Fr)} (h : ∀ n fs, fct n = some fs → ∀ f ∈ fs, Sz 30 f) (n : Str) (d : Nat) : Sz 30 (((fct n).getD []).getD d (0, 1)) := by
  cases e : fct n with
  | none => exact one_sz
  | some fs =>
    show Sz 30 (fs.getD d (0, 1))
    rw [List.getD_eq_getElem?_getD]
    cases q : fs[d]? with
    | none => exact one_sz
    | some f => exact h n fs e f (List.mem_of_getElem? q)
structure GH where
  wd : Addr
  kd : Addr
  ld : Addr
  fd : Addr
  rd : Addr
  ls : List (Str × Ex)
  fct : Str → Option (List Fr)
  rat : Str → Option (List Fr)
  D : Nat
  fsz : ∀ n fs, fct n = some fs → ∀ f ∈ fs, Sz 30 f
  rsz : ∀ n fs, rat n = some fs → ∀ f ∈ fs, Sz 30 f
  few : ls.length ≤ 10
  Dle : D ≤ 10
def allKeys (ls : List (Str × Ex)) (D : Nat) : List (List Key) := ls.flatMap fun nb => (List.range D).map fun d => [Sum.inr nb.1, Sum.inl ((d : Nat) : Int)]
theorem allKeys_mem {ls : List (Str × Ex)} {D : Nat} {n : Str} {b : Ex} {d : Nat} (h : lk ls n = some b) (hd : d < D) : [Sum.inr n, Sum.inl (d : Int)] ∈ allKeys ls D :=
  List.mem_flatMap.mpr ⟨_, lk_mem h, List.mem_map.mpr ⟨d, List.mem_range.mpr hd, rfl⟩⟩
theorem allKeys_len : ∀ (ls : List (Str × Ex)) (D : Nat), (allKeys ls D).length = ls.length * D
  | [], D => by simp [allKeys]
  | p :: r, D => by
    have h := allKeys_len r D
    unfold allKeys at h ⊢
    rw [List.flatMap_cons, List.length_append, h]
    simp [Nat.add_mul]; omega
/-- the kind of world History is -/
def flH {K : PySem.W.Frag} {mg : Str → Option Value} {w : World} (T : Tx K mg w) : Fl where
  C := T.History.C
  G := GH
  wd := GH.wd
  kd := GH.kd
  ld := GH.ld
  L := fun g => lk g.ls
  M := fun g => mdl g.fct g.rat
  keys := fun g => allKeys g.ls g.D
  ok := fun g e d => d < g.D ∧ RefOk (fun n => ∃ fs, g.fct n = some fs ∧ fs.length = g.D) (fun n => ∃ fs, g.rat n = some fs ∧ fs.length = g.D) e
  I := fun g H => (g.wd ≠ g.kd ∧ ∃ dx fs, H g.wd = some (.ins T.History.C dx fs) ∧ fs.lookup ("lets" : Str) = some (.ref g.ld) ∧ fs.lookup ("known" : Str) = some (.ref g.kd) ∧ fs.lookup ("fact" : Str) = none ∧ fs.lookup ("rate" : Str) = none ∧ fs.lookup ("timed" : Str) = none ∧
    fs.lookup ("facts" : Str) = some (.ref g.fd) ∧ fs.lookup ("rates" : Str) = some (.ref g.rd)) ∧ (g.ld ≠ g.kd ∧ LetsAt H g.ld (lk g.ls)) ∧ HistAt g.kd H g.fd g.fct ∧ HistAt g.kd H g.rd g.rat
  R := fun _ _ _ _ _ _ => False
theorem flH_ok {K : PySem.W.Frag} {mg : Str → Option Value} {w : World} (T : Tx K mg w) : FlOk (flH T) where
  ins := fun {g H} h => by
    obtain ⟨⟨_, dx, fs, h1, h2, h3, h4, h5, h6, _⟩, _⟩ := h
    exact ⟨dx, fs, h1, h2, h3, h4, h5, h6⟩
  lets := fun {g H} h => h.2.1.2
  kp := fun {g H H'} h k => by
    obtain ⟨⟨h0, dx, fs, h1, r⟩, ⟨h2, h3⟩, h4, h5⟩ := h
    exact ⟨⟨h0, dx, fs, k.keep _ _ h1 (fun z => h0 (List.mem_singleton.mp z)), r⟩, ⟨h2, h3.kp k (fun z => h2 (List.mem_singleton.mp z))⟩, h4.kp k, h5.kp k⟩
  part := fun {g e d p} h hp _ => ⟨h.1, h.2.part hp⟩
  fsz := fun g n d => mdl_sz g.fsz n d
  rsz := fun g n d => mdl_sz g.rsz n d
  key := fun {g n b d} h ok => allKeys_mem h ok.1
  few := fun g => by
    show (allKeys g.ls g.D).length ≤ 1000
    rw [allKeys_len]
    exact Nat.le_trans (Nat.mul_le_mul g.few g.Dle) (by decide)
  rtr := fun _ h => h.elim
def flH_T {K : PySem.W.Frag} {mg : Str → Option Value} {w : World} (T : Tx K mg w) : FlT K (flH T) where
  cl := T.History.cl
  nl := T.History.n_lets
  nk := T.History.n_known
  af := T.History.fact.a
  df := T.History.fact.d
  pf := p_History_fact
  bf := T.History.fact.b
  mf := T.History.fact.m
  ar := T.History.rate.a
  dr := T.History.rate.d
  pr := p_History_rate
  br := T.History.rate.b
  mr := T.History.rate.m
  at_ := T.History.timed.a
  dt := T.History.timed.d
  pt := p_History_timed
  bt := T.History.timed.b
  mt := T.History.timed.m
section
variable {P : Program} {w : World} {K : PySem.W.Frag} {mg : Str → Option Value} {base : Heap}
theorem ok_H_fact (T : Tx K mg w) : FnOk P w K mg base (L2N.CX P w) 2 T.History.fact.a T.History.fact.d p_History_fact (spRef K (flH T) .fact) := by
  refine okN T.History.fact.F sc_History_fact (fun vs H Q E h => ?_) (fun cdv A outer s H vs Q E hr h => ?_)
  · obtain ⟨g, n, d, rfl, _⟩ := h
    rfl
  · obtain ⟨g, n, d, rfl, ok, hI, k, kx⟩ := h
    have hu := hu_of hr
    refine ⟨_, pss_cons (ps_if (pt_cmpR op_ge (pv 2) (pe_callB call_len_seq (by rfl) T.z_len PySem.boot_len (pa_cons (pe_dget2 hu (pe_fld (pv 0) rfl) (pv 1) (pe_lst pa_nil) ⟨rfl, rfl, rfl, rfl⟩) pa_nil)) (nomark _)) (pss_one ps_never) pss_nil)
      (pss_one (ps_ret (pe_ix ix_list (pe_dget hu (pe_fld (pv 0) rfl) (pv 1) (fun _ _ => rfl)) (pv 2) (fun _ _ => rfl)))), ?_⟩
    obtain ⟨⟨_, dx, fs, hw, _, _, _, _, _, lf, _⟩, _, ⟨_, kvs, hf, hv⟩, _⟩ := id hI
    obtain ⟨hd, rows, hrow, hlen⟩ := ok
    obtain ⟨la, e1, _, e2⟩ := hv n rows hrow
    obtain ⟨xs, t, e3, e4, e5, e6⟩ := FrL.at (K := K) e2 (show d < rows.length by omega)
    refine ⟨_, rfl, _, rfl, g.wd, _, dx, fs, _, rfl, hw, T.History.cl, T.History.n_facts, lf, g.fd, rfl, .inl ⟨_, .inl hf⟩, _, rfl, Nat.zero_le _, fun p hp => ?_⟩
    have kp : Kp [] H (upd H p (.lst [])) := .new hp
    refine ⟨_, DGet.k (k := Sum.inr n) (kp.to _ _ hf), la, xs, by rw [e1]; rfl, .inl (SqL.of (kp.to _ _ e3)), _, _, rfl, rfl, _, rfl, ?_⟩
    refine ifF (decide_eq_false (by omega)) ?_
    refine ⟨_, rfl, g.wd, _, dx, fs, _, rfl, kp.to _ _ hw, T.History.cl, T.History.n_facts, lf, _, rfl, g.fd, .ref la, rfl, by rw [← e1]; exact DGet.k (k := Sum.inr n) (kp.to _ _ hf), _, rfl, la, xs, _, _, rfl, rfl, SqL.of (kp.to _ _ e3), e5, ?_⟩
    refine k _ _ kp ⟨t, rfl, ?_⟩
    have q : ((flH T).M g).fact n d = rows.getD d (0, 1) := by show ((g.fct n).getD []).getD d (0, 1) = _; rw [hrow]; rfl
    show FrA K _ t (((flH T).M g).fact n d)
    rw [q]; exact e6.kp kp
theorem ok_H_rate (T : Tx K mg w) : FnOk P w K mg base (L2N.CX P w) 2 T.History.rate.a T.History.rate.d p_History_rate (spRef K (flH T) .rate) := by
  refine okN T.History.rate.F sc_History_rate (fun vs H Q E h => ?_) (fun cdv A outer s H vs Q E hr h => ?_)
  · obtain ⟨g, n, d, rfl, _⟩ := h
    rfl
  · obtain ⟨g, n, d, rfl, ok, hI, k, kx⟩ := h
    have hu := hu_of hr
    refine ⟨_, pss_cons (ps_if (PW.pt (pw_or (pt_cmpR op_ge (pv 2) (pe_callB call_len_seq (by rfl) T.z_len PySem.boot_len (pa_cons (pe_dget2 hu (pe_fld (pv 0) rfl) (pv 1) (pe_lst pa_nil) ⟨rfl, rfl, rfl, rfl⟩) pa_nil)) (nomark _))
          (pw_or1 (pt_cmpR op_isN (pe_ix ix_list (pe_dget hu (pe_fld (pv 0) rfl) (pv 1) (fun _ _ => rfl)) (pv 2) (fun _ _ => rfl)) pe_non (nomark _))))) (pss_one ps_never) pss_nil)
      (pss_one (ps_ret (pe_ix ix_list (pe_dget hu (pe_fld (pv 0) rfl) (pv 1) (fun _ _ => rfl)) (pv 2) (fun _ _ => rfl)))), ?_⟩
    obtain ⟨⟨_, dx, fs, hw, _, _, _, _, _, _, lf⟩, _, _, ⟨_, kvs, hf, hv⟩⟩ := id hI
    obtain ⟨hd, rows, hrow, hlen⟩ := ok
    obtain ⟨la, e1, _, e2⟩ := hv n rows hrow
    obtain ⟨xs, t, e3, e4, e5, e6⟩ := FrL.at (K := K) e2 (show d < rows.length by omega)
    refine ⟨_, rfl, _, rfl, g.wd, _, dx, fs, _, rfl, hw, T.History.cl, T.History.n_rates, lf, g.rd, rfl, .inl ⟨_, .inl hf⟩, _, rfl, Nat.zero_le _, fun p hp => ?_⟩
    have kp : Kp [] H (upd H p (.lst [])) := .new hp
    refine ⟨_, DGet.k (k := Sum.inr n) (kp.to _ _ hf), la, xs, by rw [e1]; rfl, .inl (SqL.of (kp.to _ _ e3)), _, _, rfl, rfl, _, rfl, ?_⟩
    refine ifF (decide_eq_false (by omega)) ?_
    refine ⟨_, rfl, g.wd, _, dx, fs, _, rfl, kp.to _ _ hw, T.History.cl, T.History.n_rates, lf, _, rfl, g.rd, .ref la, rfl, by rw [← e1]; exact DGet.k (k := Sum.inr n) (kp.to _ _ hf), _, rfl, la, xs, _, _, rfl, rfl, SqL.of (kp.to _ _ e3), e5, rfl, _, rfl, ?_⟩
    refine ifF rfl ?_
    refine ⟨_, rfl, g.wd, _, dx, fs, _, rfl, kp.to _ _ hw, T.History.cl, T.History.n_rates, lf, _, rfl, g.rd, .ref la, rfl, by rw [← e1]; exact DGet.k (k := Sum.inr n) (kp.to _ _ hf), _, rfl, la, xs, _, _, rfl, rfl, SqL.of (kp.to _ _ e3), e5, ?_⟩
    refine k _ _ kp ⟨t, rfl, ?_⟩
    have q : ((flH T).M g).rate n d = rows.getD d (0, 1) := by show ((g.rat n).getD []).getD d (0, 1) = _; rw [hrow]; rfl
    show FrA K _ t (((flH T).M g).rate n d)
    rw [q]; exact e6.kp kp
end
end KW
set_option maxRecDepth 100000
set_option maxHeartbeats 4000000
/-! History.timed, __init__, value -/
namespace KW
open PySem L2
theorem win_any {p : Nat → Bool} {d k : Nat} : (win d k).any p = true ↔ ∃ i, i < d + 1 - (d + 1 - k) ∧ p (d + 1 - k + i) = true := by
  rw [List.any_eq_true]
  constructor
  · rintro ⟨x, hx, h⟩
    have := List.mem_range'_1.mp hx
    exact ⟨x - (d + 1 - k), by omega, by rw [show d + 1 - k + (x - (d + 1 - k)) = x by omega]; exact h⟩
  · rintro ⟨i, hi, h⟩
    exact ⟨_, List.mem_range'_1.mpr ⟨by omega, by omega⟩, h⟩
theorem win_all {p : Nat → Bool} {d k : Nat} : (win d k).all p = true ↔ ∀ i, i < d + 1 - (d + 1 - k) → p (d + 1 - k + i) = true := by
  rw [List.all_eq_true]
  constructor
  · intro h i hi
    exact h _ (List.mem_range'_1.mpr ⟨by omega, by omega⟩)
  · intro h x hx
    have := List.mem_range'_1.mp hx
    have := h (x - (d + 1 - k)) (by omega)
    rwa [show d + 1 - k + (x - (d + 1 - k)) = x by omega] at this
def TW.ev : TW → Bool
  | .ever => true
  | _ => false
theorem tws_before (w : TW) : decide (V.str w.s = V.str "before") = decide (w = .before) := by cases w <;> decide +kernel
theorem tws_ever (w : TW) : decide (V.str w.s = V.str "ever") = w.ev := by cases w <;> decide +kernel
theorem tws_always {w : TW} (h : w ≠ .before) : decide (V.str w.s = V.str "always") = !w.ev := by
  cases w
  · decide +kernel
  · decide +kernel
  · exact absurd rfl h
/-- what a look back finds -/
theorem sem_found {M : Md} {w : TW} {k d i : Nat} {c : Ex} (h : w ≠ .before) (hi : i < d + 1 - (d + 1 - k)) (e : (sem M c (d + 1 - k + i)).t = w.ev) : sem M (.timed w k c) d = .tru w.ev := by
  cases w
  · show Vl.tru _ = Vl.tru true
    congr 1
    exact win_any.mpr ⟨i, hi, e⟩
  · show Vl.tru _ = Vl.tru false
    congr 1
    cases z : (win d k).all fun j => (sem M c j).t with
    | false => rfl
    | true =>
      have := win_all.mp z i hi
      rw [e] at this; exact this.symm
  · exact absurd rfl h
theorem sem_none {M : Md} {w : TW} {k d : Nat} {c : Ex} (h : w ≠ .before) (e : ∀ i, i < d + 1 - (d + 1 - k) → (sem M c (d + 1 - k + i)).t = !w.ev) : sem M (.timed w k c) d = .tru (!w.ev) := by
  cases w
  · show Vl.tru _ = Vl.tru false
    congr 1
    cases z : (win d k).any fun j => (sem M c j).t with
    | false => rfl
    | true =>
      obtain ⟨i, hi, q⟩ := win_any.mp z
      rw [e i hi] at q; exact q.symm
  · show Vl.tru _ = Vl.tru true
    congr 1
    exact win_all.mpr fun i hi => e i hi
  · exact absurd rfl h
section
variable {P : Program} {w : World} {K : PySem.W.Frag} {mg : Str → Option Value} {base : Heap}
theorem ok_H_timed (T : Tx K mg w) {n j : Nat} (Ge : FnOk P w K mg base (L2N.CX P w) j T.evaluated.a T.evaluated.d p_evaluated (spEval K (flH T) n)) :
    FnOk P w K mg base (L2N.CX P w) (j + 1) T.History.timed.a T.History.timed.d p_History_timed (spTimed K (flH T) (n + 1)) := by
  refine okN T.History.timed.F sc_History_timed (fun vs H Q E h => ?_) (fun cdv A outer s H vs Q E hr h => ?_)
  · obtain ⟨g, a, e, d, s, rfl, _⟩ := h
    rfl
  · obtain ⟨g, a, e, d, s, rfl, hT, hat, wf, ok, hn, hI, hK, k, kx⟩ := h
    have O := flH_ok T
    refine ⟨_, pss_cons (ps_asg (pv 1) (pg_tup rfl (pgs_cons (pg_name (i := 3) sc_History_timed.nd rfl (Or.inl rfl)) (pgs_cons (pg_name (i := 4) sc_History_timed.nd rfl (Or.inl rfl)) (pgs_cons (pg_name (i := 5) sc_History_timed.nd rfl (Or.inl rfl)) pgs_nil)))))
      (pss_cons (ps_if (pt_cmpR op_eq (pv 3) pe_str (nomark _)) (pss_one (ps_ret (pe_and (pe_cmpR op_ge (pv 2) (pv 4) (nomark _)) (pe_one (pe_call Ge hr rfl T.evaluated.g T.evaluated.F.kp T.evaluated.b .nil (L2N.passes_call (L2N.takes_of rfl rfl rfl rfl) (fun _ _ _ _ h => h)) (pa_cons (pv 5) (pa_cons (pv 0) (pa_cons (pe_op op_sub (pv 2) (pv 4)) pa_nil)))))))) pss_nil)
      (pss_cons (ps_for (passes_of rfl) rfl (pi_range2 (by rfl) T.z_range (pa_cons (pe_callB (call_max2 rfl) (by rfl) T.z_max (by rfl) (pa_cons pe_int (pa_cons (pe_op op_add (pe_op op_sub (pv 2) (pv 4)) pe_int) pa_nil))) (pa_cons (pe_op op_add (pv 2) pe_int) pa_nil))) (pg_name (i := 6) sc_History_timed.nd rfl (Or.inl rfl))
          (pss_one (ps_if (pt_cmpR op_eq (pe_call Ge hr rfl T.evaluated.g T.evaluated.F.kp T.evaluated.b .nil (L2N.passes_call (L2N.takes_of rfl rfl rfl rfl) (fun _ _ _ _ h => h)) (pa_cons (pv 5) (pa_cons (pv 0) (pa_cons (pv 6) pa_nil)))) (pe_cmpR op_eq (pv 3) pe_str (nomark _)) (nomark _)) (pss_one (ps_ret (pe_cmpR op_eq (pv 3) pe_str (nomark _)))) pss_nil)))
      (pss_one (ps_ret (pe_cmpR op_eq (pv 3) pe_str (nomark _)))))), ?_⟩
    cases e with
    | timed o days c =>
      obtain ⟨x, h1, h2⟩ := hat
      obtain ⟨_, hk1, wc⟩ := id wf.wt
      have hc : c ∈ parts (.timed o days c) := by simp [parts]
      have okc : ∀ d', d' ≤ d → (flH T).ok g c d' := fun d' hd => ⟨Nat.lt_of_le_of_lt hd ok.1, ok.2.part hc⟩
      have hnc : dep c < n := by have := parts_dep hc; omega
      refine ⟨_, rfl, a, _, rfl, SqT.of h1, rfl, _, _, rfl, _, _, rfl, _, _, rfl, rfl, ?_⟩
      refine ⟨_, rfl, rfl, _, rfl, ?_⟩
      rw [tws_before]
      by_cases hb : o = .before
      · subst hb
        refine ifT rfl ?_
        refine ⟨_, rfl, _, rfl, _, _, rfl, rfl, _, rfl, ?_⟩
        by_cases hd : days ≤ d
        · refine ifT (decide_eq_true (by omega)) ?_
          refine ⟨_, rfl, _, rfl, _, rfl, _, rfl, _, _, rfl, rfl, g, x, c, d - days, true, ?_, h2, wf.part hc wc, okc _ (by omega), hnc, hI, hK, fun v H1 k1 hK1 hv => ?_, fun _ _ _ h => h.elim⟩
          · rw [show ((d - days : Nat) : Int) = (d : Int) - (days : Int) by omega]; rfl
          · refine k v H1 k1 hK1 ?_
            rw [(sem_sort c _ true wc).1 rfl] at hv
            have hv : v = .bl _ := hv
            subst hv
            show V.bl _ = V.bl (decide (days ≤ d) && _)
            rw [decide_eq_true hd, Bool.true_and]
        · refine ifF (decide_eq_false (by omega)) ?_
          refine k _ H .refl hK ?_
          show V.bl _ = V.bl (decide (days ≤ d) && _)
          rw [decide_eq_false hd, Bool.false_and]
      · refine ifF (decide_eq_false hb) ?_
        have dle : d < 10 := Nat.lt_of_lt_of_le ok.1 g.Dle
        refine ⟨_, rfl, _, rfl, _, _, rfl, rfl, _, _, rfl, rfl, _, _, rfl, _, rfl, _, _, rfl, rfl, _, _, rfl, ⟨?_, ?_, by omega, by omega⟩, ?_⟩
        · split <;> omega
        · split <;> omega
        have elo : (if (d : Int) - (days : Int) + 1 > 0 then (d : Int) - (days : Int) + 1 else 0) = ((d + 1 - days : Nat) : Int) := by split <;> omega
        rw [elo]
        have en : ((d : Int) + 1 - ((d + 1 - days : Nat) : Int)).toNat = d + 1 - (d + 1 - days) := by omega
        rw [en]
        refine for_range (Pv := fun i σ H' => (∃ y, σ = [some (.ref g.wd), some (.ref a), some (.int d), some (.str o.s), some (.int days), some (.ref x), y]) ∧ Kp [g.kd] H H' ∧ Kn K (flH T) g H' ∧ ∀ i', i' < i → (sem ((flH T).M g) c (d + 1 - days + i')).t = !o.ev) ⟨⟨_, rfl⟩, .refl, hK, fun i h => absurd h (by omega)⟩ ?_ ?_
        · rintro i σ H1 hi ⟨⟨y, rfl⟩, k1, hK1, hs⟩
          have hI1 := O.kp hI k1
          refine ⟨_, rfl, _, rfl, _, rfl, g, x, c, d + 1 - days + i, true, ?_, h2.kp k1, wf.part hc wc, okc _ (by omega), hnc, hI1, hK1, fun v H2 k2 hK2 hv => ?_, fun _ _ _ h => h.elim⟩
          · show _ = [V.ref x, V.ref g.wd, V.int _]
            rw [show ((d + 1 - days + i : Nat) : Int) = ((d + 1 - days : Nat) : Int) + (i : Int) by omega]; rfl
          rw [(sem_sort c _ true wc).1 rfl] at hv
          have hv : v = .bl _ := hv
          subst hv
          refine ⟨_, rfl, rfl, rfl, _, rfl, ?_⟩
          rw [tws_ever]
          refine ite2 (fun q => ?_) (fun q => ?_)
          · have q' : (sem ((flH T).M g) c (d + 1 - days + i)).t = o.ev := V.bl.inj (of_decide_eq_true q)
            refine ⟨_, rfl, rfl, ?_⟩
            rw [tws_ever]
            refine k _ _ (k1.trans k2) hK2 ?_
            rw [sem_found hb hi q']; rfl
          · refine ⟨⟨_, rfl⟩, k1.trans k2, hK2, fun i' hi' => ?_⟩
            by_cases z : i' = i
            · subst z
              cases hz : (sem ((flH T).M g) c (d + 1 - days + i')).t <;> cases ho : o.ev
              · exact absurd (decide_eq_true (by rw [hz, ho])) q
              · rfl
              · rfl
              · exact absurd (decide_eq_true (by rw [hz, ho])) q
            · exact hs i' (by omega)
        · rintro σ H1 ⟨⟨y, rfl⟩, k1, hK1, hs⟩
          refine ⟨_, rfl, rfl, ?_⟩
          rw [tws_always hb]
          refine k _ _ k1 hK1 ?_
          rw [sem_none hb hs]; rfl
    | _ => cases hT
end
end KW
set_option maxRecDepth 100000
set_option maxHeartbeats 4000000
/-! History.__init__, the induction, value -/
namespace KW
open PySem L2
/-- the dict of all facts at fd, whoever looks -/
def HistD (H : Hp) (fd : Addr) (fct : Str → Option (List Fr)) : Prop := ∃ kvs : List (Key × V), H fd = some (.dK kvs) ∧ ∀ n fs, fct n = some fs → ∃ la, valV kvs (Sum.inr n) = some (.ref la) ∧ FrL H la fs
theorem HistD.kp {H H' : Hp} {fd : Addr} {fct : Str → Option (List Fr)} (h : HistD H fd fct) (k : Kp [] H H') : HistD H' fd fct := by
  obtain ⟨kvs, h1, h2⟩ := h
  refine ⟨kvs, k.to _ _ h1, fun n fs e => ?_⟩
  obtain ⟨la, h3, h4⟩ := h2 n fs e
  exact ⟨la, h3, h4.kp k (by simp)⟩
theorem HistD.at {kd : Addr} {H : Hp} {fd : Addr} {fct : Str → Option (List Fr)} (h : HistD H fd fct) {S : List Addr} {H' : Hp} (hk : H kd = none) (k : Kp S H H') (hS : ∀ b o, H b = some o → b ∉ S) : HistAt kd H' fd fct := by
  obtain ⟨kvs, h1, h2⟩ := h
  refine ⟨ne_of_none h1 hk, kvs, k.keep _ _ h1 (hS _ _ h1), fun n fs e => ?_⟩
  obtain ⟨la, h3, h4⟩ := h2 n fs e
  obtain ⟨ts, h5, h6⟩ := h4
  exact ⟨la, h3, ne_of_none h5 hk, ts, k.keep _ _ h5 (hS _ _ h5), paired_imp (fun t f e => k.tup _ _ e) h6⟩
section
variable {P : Program} {w : World} {K : PySem.W.Frag} {mg : Str → Option Value} {base : Heap}
def spHInit (C : Addr) : Sp := fun vs H Q _ => ∃ (x la fd rd dx : Addr) (ls : List (Str × Ex)), vs = [.ref x, .ref la, .ref fd, .ref rd] ∧ H x = some (.ins C dx []) ∧ la ≠ x ∧ LetsL H la ls ∧ (ls.map (·.1)).Nodup ∧
  ∀ ld kd fs H', Kp [x] H H' → H ld = none → H kd = none → ld ≠ kd → H' x = some (.ins C dx fs) → fs.lookup ("lets" : Str) = some (.ref ld) → fs.lookup ("known" : Str) = some (.ref kd) → fs.lookup ("fact" : Str) = none → fs.lookup ("rate" : Str) = none → fs.lookup ("timed" : Str) = none →
    fs.lookup ("facts" : Str) = some (.ref fd) → fs.lookup ("rates" : Str) = some (.ref rd) → LetsAt H' ld (lk ls) → H' kd = some (.dT []) → Q .non H'
theorem ok_H_init (T : Tx K mg w) : FnOk P w K mg base CX0 1 T.History.init.a T.History.init.d p_History_init (spHInit T.History.C) := by
  refine T.History.init.F.ok sc_History_init (fun vs H Q E h => ?_) (fun cdv A outer s H vs Q E hr h => ?_)
  · obtain ⟨x, la, fd, rd, dx, ls, rfl, _⟩ := h
    rfl
  · obtain ⟨x, la, fd, rd, dx, ls, rfl, hx, hne, hl, nd, k⟩ := h
    refine ⟨_, pss_cons (ps_fld (pv 0) (pe_callTy (call_dictP rfl) (by rfl) T.z_dict (by decide +kernel) (pa_cons (pv 1) pa_nil)) rfl)
      (pss_cons (ps_fld (pv 0) (pv 2) rfl) (pss_cons (ps_fld (pv 0) (pv 3) rfl) (pss_one (ps_fld (pv 0) pe_dnewT rfl)))), ?_⟩
    obtain ⟨a, ps, kvs, e0, d1, d2, d3⟩ := dict_lets (K := K) (Q := fun v H' => ∀ p, v = .ref p → LetsAt H' p (lk ls)) hl nd fun p H' _ _ hL _ q e => by cases e; exact hL
    have e0 : la = a := by injection e0 with e0 _; injection e0
    subst e0
    refine ⟨_, rfl, la, ps, kvs, rfl, d1, d2, fun ld f1 => ?_⟩
    have hL := d3 ld f1 ld rfl
    have k1 : Kp [] H (upd H ld (.dK (mergeK [] kvs))) := .new f1
    generalize upd H ld (.dK (mergeK [] kvs)) = H1 at *
    have nx : x ≠ ld := ne_of_none hx f1
    refine ⟨_, rfl, x, _, dx, _, rfl, k1.to _ _ hx, T.History.cl, T.History.n_lets, by decide, ?_⟩
    refine ⟨_, rfl, _, rfl, x, _, dx, _, rfl, upd_same, T.History.cl, T.History.n_facts, by show 1 < 1000; decide, ?_⟩
    refine ⟨_, rfl, _, rfl, x, _, dx, _, rfl, upd_same, T.History.cl, T.History.n_rates, by show 2 < 1000; decide, ?_⟩
    intro kd hkd
    have nk : x ≠ kd := fun z => by rw [← z, upd_same] at hkd; cases hkd
    refine ⟨_, rfl, x, _, dx, _, rfl, by rw [upd_ne nk, upd_same], T.History.cl, T.History.n_known, by show 3 < 1000; decide, ?_⟩
    rw [upd_ne (Ne.symm nk), upd_ne (Ne.symm nk), upd_ne (Ne.symm nk)] at hkd
    have kl : ld ≠ kd := fun z => by
      obtain ⟨kvs, h, _⟩ := hL
      rw [z, hkd] at h; cases h
    have h1x : H1 x = some (.ins T.History.C dx []) := k1.to _ _ hx
    have kk : Kp [x] H1 (upd (upd (upd (upd (upd H1 x (.ins T.History.C dx (putF "lets" (.ref ld) []))) x (.ins T.History.C dx (putF "facts" (.ref fd) (putF "lets" (.ref ld) [])))) x (.ins T.History.C dx (putF "rates" (.ref rd) (putF "facts" (.ref fd) (putF "lets" (.ref ld) []))))) kd (.dT [])) x (.ins T.History.C dx (putF "known" (.ref kd) (putF "rates" (.ref rd) (putF "facts" (.ref fd) (putF "lets" (.ref ld) [])))))) := by
      rw [upd_upd, upd_upd]
      refine (Kp.mut (by simp) h1x (fun xs z => by cases z)).trans (Kp.trans (Kp.new ?_) (Kp.mut (by simp) (by rw [upd_ne nk, upd_same]) (fun xs z => by cases z)))
      rw [upd_ne (Ne.symm nk)]; exact hkd
    refine k ld kd _ _ (k1.nil.trans kk) f1 (k1.free hkd) kl upd_same rfl rfl rfl rfl rfl rfl rfl (hL.kp kk (fun z => nx (List.mem_singleton.mp z).symm)) ?_
    rw [upd_ne (Ne.symm nk), upd_same]
/-- nothing is promised -/
theorem none_eval {F : Fl} {a : Addr} {fd : FuncData} {k : Nat} (ps : List Str) : FnOk P w K mg base (L2N.CX P w) k a fd ps (spEval K F 0) :=
  ⟨fun vs H Q E h => by obtain ⟨_, _, _, _, _, _, _, _, _, h, _⟩ := h; exact absurd h (Nat.not_lt_zero _), fun A outer s H args us vs Q E _ _ _ _ h => by obtain ⟨_, _, _, _, _, _, _, _, _, h, _⟩ := h; exact absurd h (Nat.not_lt_zero _)⟩
theorem eval_H (T : Tx K mg w) : ∀ n : Nat, FnOk P w K mg base (L2N.CX P w) (6 + 2 * n) T.evaluated.a T.evaluated.d p_evaluated (spEval K (flH T) n)
  | 0 => none_eval _
  | n + 1 => by
    have Ge := eval_H T n
    have O := flH_ok T
    exact ok_evaluated (j := 6 + 2 * n + 1) T O (flH_T T) (by omega) ((ok_H_fact T).mono (by omega)) ((ok_H_rate T).mono (by omega)) (ok_H_timed T Ge) (ok_let_value T O (flH_T T) (by omega) Ge) (Ge.mono (by omega))
/-- what value promises -/
structure HistIn where
  ls : List (Str × Ex)
  fct : Str → Option (List Fr)
  rat : Str → Option (List Fr)
  D : Nat
  fsz : ∀ n fs, fct n = some fs → ∀ f ∈ fs, Sz 30 f
  rsz : ∀ n fs, rat n = some fs → ∀ f ∈ fs, Sz 30 f
  few : ls.length ≤ 10
  Dle : D ≤ 10
  nd : (ls.map (·.1)).Nodup
/-- all facts and rates of it that are named are there -/
abbrev HistIn.ok (g : HistIn) (e : Ex) : Prop := RefOk (fun n => ∃ fs, g.fct n = some fs ∧ fs.length = g.D) (fun n => ∃ fs, g.rat n = some fs ∧ fs.length = g.D) e
def spValue (K : PySem.W.Frag) : Sp := fun vs H Q _ => ∃ (g : HistIn) (a la fd rd : Addr) (e : Ex) (d : Nat) (s : Bool), vs = [.ref a, .ref la, .int d, .ref fd, .ref rd] ∧ At H e a ∧ LetsL H la g.ls ∧ HistD H fd g.fct ∧ HistD H rd g.rat ∧
  Wf (lk g.ls) e s ∧ d < g.D ∧ g.ok e ∧ dep e < 25 ∧ ∀ v H', Kp [] H H' → IsV K H' v (sem (mdl g.fct g.rat) e d) → Q v H'
theorem ok_value (T : Tx K mg w) : FnOk P w K mg base CX0 57 T.value.a T.value.d p_value (spValue K) := by
  have Ge : FnOk P w K mg base (L2N.CX P w) 56 T.evaluated.a T.evaluated.d p_evaluated (spEval K (flH T) 25) := eval_H T 25
  have Gi : FnOk P w K mg base CX0 1 T.History.init.a T.History.init.d p_History_init (spHInit T.History.C) := ok_H_init T
  refine T.value.F.ok sc_value (fun vs H Q E h => ?_) (fun cdv A outer s H vs Q E hr h => ?_)
  · obtain ⟨g, a, la, fd, rd, e, d, s, rfl, _⟩ := h
    rfl
  · obtain ⟨g, a, la, fd, rd, e, d, s, rfl, hat, hL, hF, hR, wf, hd, ok, hn, k⟩ := h
    refine ⟨_, pss_one (ps_ret (pe_call Ge hr rfl T.evaluated.g T.evaluated.F.kp T.evaluated.b .nil passL0 (pa_cons (pv 0) (pa_cons (pe_make T.History.init.m Gi (hr.mono (by decide)) rfl T.History.g T.History.init.b .nil pass0 (pa_cons (pv 1) (pa_cons (pv 3) (pa_cons (pv 4) pa_nil)))) (pa_cons (pv 2) pa_nil))))), ?_⟩
    refine ⟨_, rfl, _, rfl, _, rfl, _, rfl, fun x dx fx fdx ne => ?_⟩
    have k0 : Kp [] H (upd (upd H dx (.own x)) x (.ins T.History.C dx [])) := Kp.trans (.new fdx) (.new (by rw [upd_ne (Ne.symm ne)]; exact fx))
    have lax : la ≠ x := by
      obtain ⟨ps, h, _⟩ := hL
      exact ne_of_none h fx
    refine ⟨x, la, fd, rd, dx, g.ls, rfl, upd_same, lax, hL.kp k0 (by simp), g.nd, fun ld kd fs H1 k1 fl fk ne2 hx l1 l2 l3 l4 l5 l6 l7 hLA hkd => ⟨rfl, _, rfl, ?_⟩⟩
    have fk' : H kd = none := k0.free fk
    have xk : x ≠ kd := fun z => by rw [← z, upd_same] at fk; cases fk
    have ka : Kp [] H H1 := Kp.later (p := x) k0 k1 fx
    have noS : ∀ b o, H b = some o → b ∉ ([] : List Addr) := fun b o _ => by simp
    let gg : GH := ⟨x, kd, ld, fd, rd, g.ls, g.fct, g.rat, g.D, g.fsz, g.rsz, g.few, g.Dle⟩
    refine ⟨gg, a, e, d, s, rfl, hat.kp ka, wf, ⟨hd, ok⟩, hn, ⟨⟨xk, dx, fs, hx, l1, l2, l3, l4, l5, l6, l7⟩, ⟨ne2, hLA⟩, hF.at fk' ka noS, hR.at fk' ka noS⟩, ⟨⟨[], hkd, by simp, by simp, fun k v h => by rw [valV_nil] at h; cases h⟩⟩, fun v H2 k2 _ hv => ?_, fun _ _ _ h => h.elim⟩
    exact k v H2 (Kp.later (p := kd) ka k2 fk') hv
end
end KW
set_option maxRecDepth 100000
set_option maxHeartbeats 4000000
/-! Today -/
namespace KW
open PySem L2
/-- one day's facts (or rates); at most one name lacks -/
def DayAt (K : PySem.W.Frag) (H : Hp) (fd : Addr) (lack : Option Str) (A : Str → Prop) (f : Str → Fr) : Prop :=
  ∃ kvs : List (Key × V), H fd = some (.dK kvs) ∧ ∀ n, A n → (lack = some n → valV kvs (Sum.inr n) = none) ∧ (lack ≠ some n → ∃ t, valV kvs (Sum.inr n) = some (.ref t) ∧ FrA K H t (f n))
theorem DayAt.kp {K : PySem.W.Frag} {S : List Addr} {H H' : Hp} {fd : Addr} {l : Option Str} {A : Str → Prop} {f : Str → Fr} (h : DayAt K H fd l A f) (k : Kp S H H') (hs : fd ∉ S) : DayAt K H' fd l A f := by
  obtain ⟨kvs, h1, h2⟩ := h
  refine ⟨kvs, k.keep _ _ h1 hs, fun n a => ⟨(h2 n a).1, fun q => ?_⟩⟩
  obtain ⟨t, h3, h4⟩ := (h2 n a).2 q
  exact ⟨t, h3, h4.kp k⟩
/-- a list of expressions at pd -/
def PartsL (H : Hp) (pd : Addr) (xs : List Ex) : Prop := ∃ ps : List Addr, H pd = some (.lst (ps.map V.ref)) ∧ PySem.Paired (fun a x => At H x a) ps xs
theorem PartsL.kp {S : List Addr} {H H' : Hp} {pd : Addr} {xs : List Ex} (h : PartsL H pd xs) (k : Kp S H H') (hs : pd ∉ S) : PartsL H' pd xs := by
  obtain ⟨ps, h1, h2⟩ := h
  exact ⟨ps, k.keep _ _ h1 hs, paired_imp (fun a x e => e.kp k) h2⟩
theorem at_all {K : PySem.W.Frag} {H : Hp} : ∀ {ps : List Addr} {xs : List Ex}, PySem.Paired (fun a x => At H x a) ps xs → DpAll K H (ps.map V.ref) (xs.map toD)
  | _, _, .nil => .nil
  | _, _, .cons a r => .cons a.dp (at_all r)
theorem PartsL.dp {K : PySem.W.Frag} {H : Hp} {pd : Addr} {xs : List Ex} (h : PartsL H pd xs) : Dp K H (.ref pd) (.list (xs.map toD)) := by
  obtain ⟨ps, h1, h2⟩ := h
  exact .lst (SqL.of h1) (at_all h2)
structure GT where
  wd : Addr
  kd : Addr
  ld : Addr
  fd : Addr
  rd : Addr
  pd : Addr
  td : Addr
  g : HistIn
  day : Nat
  xs : List Ex
  m : Nat
  lackF : Option Str
  lackR : Option Str
abbrev GT.bl (g : GT) : List V := (g.xs.take g.m).map fun x => V.bl (sem (mdl g.g.fct g.g.rat) x g.day).t
/-- the kind of world Today is -/
def flD {K : PySem.W.Frag} {mg : Str → Option Value} {w : World} (T : Tx K mg w) : Fl where
  C := T.Today.C
  G := GT
  wd := GT.wd
  kd := GT.kd
  ld := GT.ld
  L := fun g => lk g.g.ls
  M := fun g => mdl g.g.fct g.g.rat
  keys := fun g => g.g.ls.map fun nb => [Sum.inr nb.1, Sum.inl ((g.day : Nat) : Int)]
  ok := fun g e d => d = g.day ∧ g.g.ok e ∧ ∀ x ∈ subs e, x.isT = true → ∃ j, j < g.m ∧ g.xs[j]? = some x
  I := fun g H => (g.wd ≠ g.kd ∧ ∃ dx fs, H g.wd = some (.ins T.Today.C dx fs) ∧ fs.lookup ("lets" : Str) = some (.ref g.ld) ∧ fs.lookup ("known" : Str) = some (.ref g.kd) ∧ fs.lookup ("fact" : Str) = none ∧ fs.lookup ("rate" : Str) = none ∧ fs.lookup ("timed" : Str) = none ∧
    fs.lookup ("facts" : Str) = some (.ref g.fd) ∧ fs.lookup ("rates" : Str) = some (.ref g.rd) ∧ fs.lookup ("parts" : Str) = some (.ref g.pd) ∧ fs.lookup ("truths" : Str) = some (.ref g.td)) ∧ (g.ld ≠ g.kd ∧ LetsAt H g.ld (lk g.g.ls)) ∧
    (g.fd ≠ g.kd ∧ DayAt K H g.fd g.lackF (fun n => ∃ fs, g.g.fct n = some fs ∧ fs.length = g.g.D) fun n => (mdl g.g.fct g.g.rat).fact n g.day) ∧ (g.rd ≠ g.kd ∧ DayAt K H g.rd g.lackR (fun n => ∃ fs, g.g.rat n = some fs ∧ fs.length = g.g.D) fun n => (mdl g.g.fct g.g.rat).rate n g.day) ∧
    (g.pd ≠ g.kd ∧ PartsL H g.pd g.xs ∧ g.xs.Nodup ∧ ∀ x ∈ g.xs, Con (lk g.g.ls) x ∧ dep x ≤ 60) ∧ g.td ≠ g.kd ∧ H g.td = some (.lst g.bl)
  R := fun g d H c dd H' => Kp [g.kd] H H' ∧ ∃ n dx, ((g.lackF = some n ∧ c = .ref T.MissingFact.C) ∨ (g.lackR = some n ∧ c = .ref T.MissingRate.C)) ∧ dd = some dx ∧ H' dx = some (.xd [("day", .int d), ("name", .str n)])
theorem not1 {a b : Addr} (h : a ≠ b) : a ∉ [b] := fun z => h (List.mem_singleton.mp z)
theorem flD_ok {K : PySem.W.Frag} {mg : Str → Option Value} {w : World} (T : Tx K mg w) : FlOk (flD T) where
  ins := fun {g H} h => by
    obtain ⟨⟨_, dx, fs, h1, h2, h3, h4, h5, h6, _⟩, _⟩ := h
    exact ⟨dx, fs, h1, h2, h3, h4, h5, h6⟩
  lets := fun {g H} h => h.2.1.2
  kp := fun {g H H'} h k => by
    obtain ⟨⟨h0, dx, fs, h1, r⟩, ⟨h2, h3⟩, ⟨h4, h5⟩, ⟨h6, h7⟩, ⟨h8, h9, h10⟩, h11, h12⟩ := h
    exact ⟨⟨h0, dx, fs, k.keep _ _ h1 (not1 h0), r⟩, ⟨h2, h3.kp k (not1 h2)⟩, ⟨h4, h5.kp k (not1 h4)⟩, ⟨h6, h7.kp k (not1 h6)⟩, ⟨h8, h9.kp k (not1 h8), h10⟩, h11, k.keep _ _ h12 (not1 h11)⟩
  part := fun {g e d p} h hp _ => ⟨h.1, h.2.1.part hp, fun x hx => h.2.2 x (parts_subs hp x hx)⟩
  fsz := fun g n d => mdl_sz g.g.fsz n d
  rsz := fun g n d => mdl_sz g.g.rsz n d
  key := fun {g n b d} h ok => by
    obtain ⟨rfl, _⟩ := ok
    exact List.mem_map.mpr ⟨_, lk_mem h, rfl⟩
  few := fun g => by
    show (g.g.ls.map _).length ≤ 1000
    rw [List.length_map]
    exact Nat.le_trans g.g.few (by decide)
  rtr := fun {g d H H1 c dd H'} k h => ⟨k.trans h.1, h.2⟩
def flD_T {K : PySem.W.Frag} {mg : Str → Option Value} {w : World} (T : Tx K mg w) : FlT K (flD T) where
  cl := T.Today.cl
  nl := T.Today.n_lets
  nk := T.Today.n_known
  af := T.Today.fact.a
  df := T.Today.fact.d
  pf := p_Today_fact
  bf := T.Today.fact.b
  mf := T.Today.fact.m
  ar := T.Today.rate.a
  dr := T.Today.rate.d
  pr := p_Today_rate
  br := T.Today.rate.b
  mr := T.Today.rate.m
  at_ := T.Today.timed.a
  dt := T.Today.timed.d
  pt := p_Today_timed
  bt := T.Today.timed.b
  mt := T.Today.timed.m
section
variable {P : Program} {w : World} {K : PySem.W.Frag} {mg : Str → Option Value} {base : Heap}
theorem ok_D_fact (T : Tx K mg w) : FnOk P w K mg base (L2N.CX P w) 3 T.Today.fact.a T.Today.fact.d p_Today_fact (spRef K (flD T) .fact) := by
  refine okN T.Today.fact.F sc_Today_fact (fun vs H Q E h => ?_) (fun cdv A outer s H vs Q E hr h => ?_)
  · obtain ⟨g, n, d, rfl, _⟩ := h
    rfl
  · obtain ⟨g, n, d, rfl, ok, hI, k, kx⟩ := h
    have hu := hu_of hr
    refine ⟨_, pss_cons (ps_if (pt_cmp (pc_dnotin hu (pv 1) (pe_fld (pv 0) rfl))) (pss_one (L2N.ps_raise rfl (L2N.takes_of rfl rfl rfl rfl) (pmk_oexN T.MissingFact.o T.MissingFact.i T.MissingFact.t (ok_mf T) hr T.MissingFact.b pass0 (by rfl) T.MissingFact.g (pa_cons (pv 1) (pa_cons (pv 2) pa_nil))))) pss_nil)
      (pss_one (ps_ret (pe_dget hu (pe_fld (pv 0) rfl) (pv 1) (fun _ _ => rfl)))), ?_⟩
    obtain ⟨⟨_, dx, fs, hw, _, _, _, _, _, lf, _⟩, _, ⟨_, kvs, hf, hv⟩, _⟩ := id hI
    obtain ⟨rfl, ⟨rows, hrow, hlen⟩, _⟩ := ok
    obtain ⟨v1, v2⟩ := hv n ⟨rows, hrow, hlen⟩
    refine ⟨_, rfl, _, rfl, g.wd, _, dx, fs, _, rfl, hw, T.Today.cl, T.Today.n_facts, lf, g.fd, _, rfl, DGet.k (k := Sum.inr n) hf, _, rfl, ?_⟩
    by_cases q : g.lackF = some n
    · refine ifT (by rw [v1 q]; rfl) ?_
      refine ⟨_, rfl, _, rfl, by show 2 ≤ 1000; decide, miss_made fun c dd H' hm => ?_⟩
      obtain ⟨e1, k1, dy, e2, e3⟩ := hm
      exact kx c dd H' ⟨k1.nil, n, dy, .inl ⟨q, e1⟩, e2, e3⟩
    · obtain ⟨t, e1, e2⟩ := v2 q
      refine ifF (by rw [e1]; rfl) ?_
      refine ⟨_, rfl, g.wd, _, dx, fs, _, rfl, hw, T.Today.cl, T.Today.n_facts, lf, _, rfl, g.fd, _, rfl, by rw [← e1]; exact DGet.k (k := Sum.inr n) hf, ?_⟩
      exact k _ _ .refl ⟨t, rfl, e2⟩
theorem ok_D_rate (T : Tx K mg w) : FnOk P w K mg base (L2N.CX P w) 3 T.Today.rate.a T.Today.rate.d p_Today_rate (spRef K (flD T) .rate) := by
  refine okN T.Today.rate.F sc_Today_rate (fun vs H Q E h => ?_) (fun cdv A outer s H vs Q E hr h => ?_)
  · obtain ⟨g, n, d, rfl, _⟩ := h
    rfl
  · obtain ⟨g, n, d, rfl, ok, hI, k, kx⟩ := h
    have hu := hu_of hr
    refine ⟨_, pss_cons (ps_if (pt_cmp (pc_dnotin hu (pv 1) (pe_fld (pv 0) rfl))) (pss_one (L2N.ps_raise rfl (L2N.takes_of rfl rfl rfl rfl) (pmk_oexN T.MissingRate.o T.MissingRate.i T.MissingRate.t (ok_mr T) hr T.MissingRate.b pass0 (by rfl) T.MissingRate.g (pa_cons (pv 1) (pa_cons (pv 2) pa_nil))))) pss_nil)
      (pss_one (ps_ret (pe_dget hu (pe_fld (pv 0) rfl) (pv 1) (fun _ _ => rfl)))), ?_⟩
    obtain ⟨⟨_, dx, fs, hw, _, _, _, _, _, _, lf, _⟩, _, _, ⟨_, kvs, hf, hv⟩, _⟩ := id hI
    obtain ⟨rfl, ⟨rows, hrow, hlen⟩, _⟩ := ok
    obtain ⟨v1, v2⟩ := hv n ⟨rows, hrow, hlen⟩
    refine ⟨_, rfl, _, rfl, g.wd, _, dx, fs, _, rfl, hw, T.Today.cl, T.Today.n_rates, lf, g.rd, _, rfl, DGet.k (k := Sum.inr n) hf, _, rfl, ?_⟩
    by_cases q : g.lackR = some n
    · refine ifT (by rw [v1 q]; rfl) ?_
      refine ⟨_, rfl, _, rfl, by show 2 ≤ 1000; decide, miss_made fun c dd H' hm => ?_⟩
      obtain ⟨e1, k1, dy, e2, e3⟩ := hm
      exact kx c dd H' ⟨k1.nil, n, dy, .inr ⟨q, e1⟩, e2, e3⟩
    · obtain ⟨t, e1, e2⟩ := v2 q
      refine ifF (by rw [e1]; rfl) ?_
      refine ⟨_, rfl, g.wd, _, dx, fs, _, rfl, hw, T.Today.cl, T.Today.n_rates, lf, _, rfl, g.rd, _, rfl, by rw [← e1]; exact DGet.k (k := Sum.inr n) hf, ?_⟩
      exact k _ _ .refl ⟨t, rfl, e2⟩
theorem ok_D_timed (T : Tx K mg w) {n : Nat} : FnOk P w K mg base (L2N.CX P w) 1 T.Today.timed.a T.Today.timed.d p_Today_timed (spTimed K (flD T) n) := by
  refine okN T.Today.timed.F sc_Today_timed (fun vs H Q E h => ?_) (fun cdv A outer s H vs Q E hr h => ?_)
  · obtain ⟨g, a, e, d, s, rfl, _⟩ := h
    rfl
  · obtain ⟨g, a, e, d, s, rfl, hT, hat, wf, ok, hn, hI, hK, k, kx⟩ := h
    refine ⟨_, pss_one (ps_ret (pe_ix ix_list (pe_fld (pv 0) rfl) (pe_bm PySem.F.plainAttrs_list PySem.F.slot_list_index PySem.F.type_list_index (mt_indexD (by have := hr.un; exact Nat.lt_of_le_of_lt (Nat.add_le_add_left (by decide) _) this)) (pe_fld (pv 0) rfl) (pa_cons (pv 1) pa_nil)) (fun _ _ => rfl))), ?_⟩
    obtain ⟨⟨_, dx, fs, hw, _, _, _, _, _, _, _, lp, lt⟩, _, _, _, ⟨_, hP, nd, hC⟩, _, hB⟩ := id hI
    obtain ⟨rfl, ok2, hx⟩ := ok
    obtain ⟨j, hj, ej⟩ := hx e (self_subs e) hT
    have hP2 := hP.dp (K := K)
    obtain ⟨ps, hp, _⟩ := hP
    refine ⟨_, rfl, g.wd, _, dx, fs, _, rfl, hw, T.Today.cl, T.Today.n_truths, lt, _, rfl, g.wd, _, dx, fs, _, rfl, hw, T.Today.cl, T.Today.n_parts, lp, .inl ⟨rfl, _, SqL.of hp⟩, _, rfl, g.pd, _, toD e, g.xs.map toD, j, toD e, rfl, rfl, hP2, hat.dp, toDs_shaped (L := lk g.g.ls) (fun x hx => (hC x hx).1) (fun x hx => (hC x hx).2), toD_shaped wf.con wf.dp, by rw [List.getElem?_map, ej]; rfl, eqv_refl e, ?_, ?_⟩
    · intro m z' hm hz
      rw [List.getElem?_map] at hz
      cases q : g.xs[m]? with
      | none => rw [q] at hz; cases hz
      | some x =>
        rw [q] at hz
        have hz : toD x = z' := Option.some.inj hz
        subst hz
        rw [eqv_dec (hC x (List.mem_of_getElem? q)).1 wf.con]
        refine decide_eq_false fun z => ?_
        subst z
        have := nd_ix nd q ej
        omega
    · refine ⟨g.td, g.bl, _, _, rfl, rfl, SqL.of hB, atI_nat (v := V.bl (sem (mdl g.g.fct g.g.rat) e g.day).t) ?_, ?_⟩
      · show (((g.xs.take g.m).map fun x => V.bl (sem (mdl g.g.fct g.g.rat) x g.day).t))[j]? = _
        rw [List.getElem?_map, List.getElem?_take_of_lt hj, ej]; rfl
      · refine k _ H .refl hK ?_
        have hs : s = true := by
          cases e with
          | timed o kk c => exact wf.wt.1
          | _ => cases hT
        subst hs
        show IsV K H _ (sem (mdl g.g.fct g.g.rat) e g.day)
        rw [(sem_sort e g.day true wf.wt).1 rfl]; rfl
theorem eval_D (T : Tx K mg w) : ∀ n : Nat, FnOk P w K mg base (L2N.CX P w) (6 + 2 * n) T.evaluated.a T.evaluated.d p_evaluated (spEval K (flD T) n)
  | 0 => none_eval _
  | n + 1 => by
    have Ge := eval_D T n
    have O := flD_ok T
    exact ok_evaluated (j := 6 + 2 * n + 1) T O (flD_T T) (by omega) ((ok_D_fact T).mono (by omega)) ((ok_D_rate T).mono (by omega)) ((ok_D_timed T).mono (by omega)) (ok_let_value T O (flD_T T) (by omega) Ge) (Ge.mono (by omega))
def spDInit (C : Addr) : Sp := fun vs H Q _ => ∃ (x ld fd rd pd dx : Addr), vs = [.ref x, .ref ld, .ref fd, .ref rd, .ref pd] ∧ H x = some (.ins C dx []) ∧
  ∀ td kd fs H', Kp [x] H H' → H td = none → H kd = none → td ≠ kd → H' x = some (.ins C dx fs) → fs.lookup ("lets" : Str) = some (.ref ld) → fs.lookup ("known" : Str) = some (.ref kd) → fs.lookup ("fact" : Str) = none → fs.lookup ("rate" : Str) = none → fs.lookup ("timed" : Str) = none →
    fs.lookup ("facts" : Str) = some (.ref fd) → fs.lookup ("rates" : Str) = some (.ref rd) → fs.lookup ("parts" : Str) = some (.ref pd) → fs.lookup ("truths" : Str) = some (.ref td) → H' td = some (.lst []) → H' kd = some (.dT []) → Q .non H'
theorem ok_D_init (T : Tx K mg w) : FnOk P w K mg base CX0 1 T.Today.init.a T.Today.init.d p_Today_init (spDInit T.Today.C) := by
  refine T.Today.init.F.ok sc_Today_init (fun vs H Q E h => ?_) (fun cdv A outer s H vs Q E hr h => ?_)
  · obtain ⟨x, ld, fd, rd, pd, dx, rfl, _⟩ := h
    rfl
  · obtain ⟨x, ld, fd, rd, pd, dx, rfl, hx, k⟩ := h
    refine ⟨_, pss_cons (ps_fld (pv 0) (pv 1) rfl) (pss_cons (ps_fld (pv 0) (pv 2) rfl) (pss_cons (ps_fld (pv 0) (pv 3) rfl) (pss_cons (ps_fld (pv 0) (pv 4) rfl) (pss_cons (ps_fld (pv 0) (pe_lst pa_nil) rfl) (pss_one (ps_fld (pv 0) pe_dnewT rfl)))))), ?_⟩
    refine ⟨_, rfl, _, rfl, x, _, dx, _, rfl, hx, T.Today.cl, T.Today.n_lets, by decide, ?_⟩
    refine ⟨_, rfl, _, rfl, x, _, dx, _, rfl, upd_same, T.Today.cl, T.Today.n_facts, by show 1 < 1000; decide, ?_⟩
    refine ⟨_, rfl, _, rfl, x, _, dx, _, rfl, upd_same, T.Today.cl, T.Today.n_rates, by show 2 < 1000; decide, ?_⟩
    refine ⟨_, rfl, _, rfl, x, _, dx, _, rfl, upd_same, T.Today.cl, T.Today.n_parts, by show 3 < 1000; decide, ?_⟩
    refine ⟨Nat.zero_le _, fun td htd => ?_⟩
    have nt : x ≠ td := fun z => by rw [← z, upd_same] at htd; cases htd
    refine ⟨_, rfl, x, _, dx, _, rfl, by rw [upd_ne nt, upd_same], T.Today.cl, T.Today.n_truths, by show 4 < 1000; decide, ?_⟩
    intro kd hkd
    have nk : x ≠ kd := fun z => by rw [← z, upd_same] at hkd; cases hkd
    have ntk : td ≠ kd := fun z => by rw [← z, upd_ne (Ne.symm nt), upd_same] at hkd; cases hkd
    refine ⟨_, rfl, x, _, dx, _, rfl, by rw [upd_ne nk, upd_same], T.Today.cl, T.Today.n_known, by show 5 < 1000; decide, ?_⟩
    rw [upd_upd, upd_upd, upd_upd] at htd hkd
    rw [upd_upd, upd_upd, upd_upd]
    rw [upd_ne (Ne.symm nt)] at htd
    rw [upd_ne (Ne.symm nk), upd_ne (Ne.symm ntk), upd_ne (Ne.symm nk)] at hkd
    refine k td kd _ _ ?_ htd hkd ntk upd_same rfl rfl rfl rfl rfl rfl rfl rfl rfl ?_ ?_
    · refine (Kp.mut (by simp) hx (fun xs z => by cases z)).trans (Kp.trans (Kp.new (by rw [upd_ne (Ne.symm nt)]; exact htd)) (Kp.trans (Kp.mut (by simp) (by rw [upd_ne nt, upd_same]) (fun xs z => by cases z)) (Kp.trans (Kp.new ?_) (Kp.mut (by simp) (by rw [upd_ne nk, upd_same]) (fun xs z => by cases z)))))
      rw [upd_ne (Ne.symm nk), upd_ne (Ne.symm ntk), upd_ne (Ne.symm nk)]; exact hkd
    · rw [upd_ne (Ne.symm nt), upd_ne ntk, upd_ne (Ne.symm nt), upd_same]
    · rw [upd_ne (Ne.symm nk), upd_same]
end
end KW
set_option maxRecDepth 100000
set_option maxHeartbeats 4000000
/-! parts_of, all_parts -/
namespace KW
open PySem L2
/-! ### d.get(x, y) of a written dict -/
def tKGet (K : PySem.W.Frag) (d : Addr) (ty tx : TE) : TE := fun σ H Q => ty σ H fun y H1 => tx σ H1 fun z H2 => ∃ (k : Str) (r : Option Value) (v : V), y = .str k ∧ PySem.W.nsIn K d k = some r ∧ ((r = none ∧ v = z) ∨ ∃ u, r = some u ∧ RelV v u) ∧ Q v H2
theorem pe_kget {X : Cx} {d : Addr} {es : Array DictEntry} {n : Nat} {o e f : Expr} {apos cpos : Pos} {ty tx : TE} (D : KDict X.K X.w d es n) (ho : PE X o (tC (.ref d))) (he : PE X e ty) (hf : PE X f tx) (m : M2 X o "get" apos e f cpos) :
    PE X (.Call (.Attribute o "get" apos) [e, f] [] cpos) (tKGet X.K d ty tx) := by
  refine ⟨fun pins s σ H Q I h => ?_⟩
  refine PySem.wpAny_Call_method m.base m.few m.line PySem.F.plainAttrs_dict PySem.F.slot_dict_get PySem.F.type_dict_get (thn (ho.run pins s σ H (fun v H' => v = .ref d ∧ H' = H) I ⟨rfl, rfl⟩) fun u s1 ⟨x, H1, I1, rx, ex, eH⟩ => ?_)
  subst ex; subst eH
  obtain rfl : u = Value.ref d := rx
  refine ⟨kd_type D I1, fun b eb => ?_, ?_⟩
  · cases eb
    exact ⟨_, I1.kIn _ _ D.at_, rfl⟩
  rw [m.trees]
  refine PySem.Calls.callWith_builtin rfl (PySem.Calls.evalArgs_plain (PySem.Calls.spliced_cons (thn (he.run pins s1 σ _ _ I1 h) fun iv s2 ⟨y, H2, I2, ry, q2⟩ =>
    PySem.Calls.spliced_cons (thn (hf.run pins s2 σ H2 _ I2 q2) fun fv s3 ⟨z, H3, I3, rz, k, r, v, ey, en, hr, q3⟩ => PySem.Calls.spliced_nil ?_))))
  subst ey
  obtain ⟨t, rfl⟩ := ry
  refine call_meetsIn PySem.F.slot_dict_get (kd_type D I3) PySem.F.entry_dict_get (PySem.F.args_dict_get_3 _ _ _) (meets_dict_get_default (strKind X.prog X.w) d (PySem.strKind_is X.prog X.w k t) D.low fv) ⟨_, PySem.W.mapOf_K (prog := X.prog) I3.kIn D.at_ D.lit, ?_⟩
  refine ⟨v, H3, I3.tok _, ?_, q3⟩
  show RelV v ((PySem.findBy Value.isStrOf es k).getD fv)
  rw [PySem.W.find_K D.at_ en]
  rcases hr with ⟨rfl, rfl⟩ | ⟨u, rfl, ru⟩
  · exact rz
  · exact ru
/-- the parts of what lies at a, by PARTS's places -/
theorem parts_at {H : Hp} {e : Ex} {a : Addr} (h : At H e a) (hn : e.wd ≠ "name") : ∃ (items : List V) (ps : List Addr), H a = some (.tup items) ∧ PySem.Paired (fun a x => At H x a) ps (parts e) ∧ (partsOf e.wd).length = ps.length ∧
    ∀ (i : Nat) (k : Int), (partsOf e.wd)[i]? = some k → ∃ p, ps[i]? = some p ∧ atI items k = some (.ref p) := by
  cases e with
  | lit w f =>
    obtain ⟨t, h1, _⟩ := h
    have : partsOf w.s = [] := by cases w <;> decide +kernel
    exact ⟨_, [], h1, .nil, by show (partsOf w.s).length = 0; rw [this]; rfl, fun i k q => by have q : (partsOf w.s)[i]? = some k := q; rw [this] at q; cases q⟩
  | ref w n =>
    have : partsOf w.s = [] := by cases w <;> decide +kernel
    exact ⟨_, [], h, .nil, by show (partsOf w.s).length = 0; rw [this]; rfl, fun i k q => by have q : (partsOf w.s)[i]? = some k := q; rw [this] at q; cases q⟩
  | nam n b => exact absurd rfl hn
  | tt b =>
    have : partsOf (tfs b) = [] := by cases b <;> decide +kernel
    exact ⟨_, [], h, .nil, by show (partsOf (tfs b)).length = 0; rw [this]; rfl, fun i k q => by have q : (partsOf (tfs b))[i]? = some k := q; rw [this] at q; cases q⟩
  | un c =>
    obtain ⟨x, h1, h2⟩ := h
    have : partsOf "not" = [1] := by decide +kernel
    refine ⟨_, [x], h1, .cons h2 .nil, by show (partsOf "not").length = 1; rw [this]; rfl, fun i k q => ?_⟩
    have q : (partsOf "not")[i]? = some k := q
    rw [this] at q
    match i, q with
    | 0, q => cases q; exact ⟨x, rfl, at1⟩
    | i + 1, q => simp at q
  | bin w e f =>
    obtain ⟨x, y, h1, h2, h3⟩ := h
    have : partsOf w.s = [1, 2] := by cases w <;> decide +kernel
    refine ⟨_, [x, y], h1, .cons h2 (.cons h3 .nil), by show (partsOf w.s).length = 2; rw [this]; rfl, fun i k q => ?_⟩
    have q : (partsOf w.s)[i]? = some k := q
    rw [this] at q
    match i, q with
    | 0, q => cases q; exact ⟨x, rfl, at1⟩
    | 1, q => cases q; exact ⟨y, rfl, at2⟩
    | i + 2, q => simp at q
  | ite c e f =>
    obtain ⟨x, y, z, h1, h2, h3, h4⟩ := h
    have : partsOf "if" = [1, 2, 3] := by decide +kernel
    refine ⟨_, [x, y, z], h1, .cons h2 (.cons h3 (.cons h4 .nil)), by show (partsOf "if").length = 3; rw [this]; rfl, fun i k q => ?_⟩
    have q : (partsOf "if")[i]? = some k := q
    rw [this] at q
    match i, q with
    | 0, q => cases q; exact ⟨x, rfl, at1⟩
    | 1, q => cases q; exact ⟨y, rfl, at2⟩
    | 2, q => cases q; exact ⟨z, rfl, at3⟩
    | i + 3, q => simp at q
  | timed w kk c =>
    obtain ⟨x, h1, h2⟩ := h
    have : partsOf w.s = [2] := by cases w <;> decide +kernel
    refine ⟨_, [x], h1, .cons h2 .nil, by show (partsOf w.s).length = 1; rw [this]; rfl, fun i k q => ?_⟩
    have q : (partsOf w.s)[i]? = some k := q
    rw [this] at q
    match i, q with
    | 0, q => cases q; exact ⟨x, rfl, at2⟩
    | i + 1, q => simp at q
theorem wd_name {e : Ex} (h : e.wd = "name") : ∃ n b, e = .nam n b := by
  cases e with
  | nam n b => exact ⟨n, b, rfl⟩
  | lit w f => exact absurd (show w.s = "name" from h) (by cases w <;> decide +kernel)
  | ref w n => exact absurd (show w.s = "name" from h) (by cases w <;> decide +kernel)
  | tt b => exact absurd (show tfs b = "name" from h) (by cases b <;> decide +kernel)
  | un c => exact absurd (show Str.ofString "not" = "name" from h) (by decide +kernel)
  | bin w e f => exact absurd (show w.s = "name" from h) (by cases w <;> decide +kernel)
  | ite c e f => exact absurd (show Str.ofString "if" = "name" from h) (by decide +kernel)
  | timed w k c => exact absurd (show w.s = "name" from h) (by cases w <;> decide +kernel)
theorem take_succ_of {α : Type} {l : List α} {i : Nat} {x : α} (h : l[i]? = some x) : l.take (i + 1) = l.take i ++ [x] := by
  rw [List.take_succ, h]; rfl
section
variable {P : Program} {w : World} {K : PySem.W.Frag} {mg : Str → Option Value} {base : Heap}
def spParts : Sp := fun vs H Q _ => ∃ (a ld : Addr) (e : Ex) (L : Str → Option Ex), vs = [.ref a, .ref ld] ∧ At H e a ∧ Con L e ∧ LetsAt H ld L ∧
  ∀ p ps H', Kp [] H H' → H p = none → H' p = some (.lst (ps.map V.ref)) → PySem.Paired (fun a x => At H' x a) ps (parts e) → Q (.ref p) H'
theorem ok_parts_of (T : Tx K mg w) : FnOk P w K mg base CX0 2 T.parts_of.a T.parts_of.d p_parts_of spParts := by
  have Gl : FnOk P w K mg base CX0 1 T.let_of.a T.let_of.d p_let_of _ := ok_let_of T
  refine T.parts_of.F.ok sc_parts_of (fun vs H Q E h => ?_) (fun cdv A outer s H vs Q E hr h => ?_)
  · obtain ⟨a, ld, e, L, rfl, _⟩ := h
    rfl
  · obtain ⟨a, ld, e, L, rfl, hat, hC, hL, k⟩ := h
    refine ⟨_, pss_cons (ps_if (pt_cmpR op_eq (pixT 0) pe_str (nomark _)) (pss_one (ps_ret (pe_lst (pa_cons (pe_call Gl hr rfl T.let_of.g T.let_of.F.kp T.let_of.b .nil pass0 (pa_cons (pv 1) (pa_cons (pixT 0) pa_nil))) pa_nil)))) pss_nil)
      (pss_one (ps_ret (pe_lc (own := [("index", 2)]) (g := gName 2) (tt := tYes) (te := tOp (rIxT K) (tVar 0) (tVar 2)) rfl sc_parts_of.nd (pi_tup (pe_kget T.k_PARTS (pe_glob (by rfl) T.g_PARTS (v := .ref T.PARTS) rfl) (pixT 0) (pe_tup pa_nil) ⟨rfl, rfl, rfl, rfl⟩)) (blkOk_by (N := n_parts_of) (sc := defScope s_parts_of) (by decide +kernel))
        (fun _ _ _ _ _ => pg_name (i := 2) sc_parts_of.nd rfl (Or.inl rfl)) (fun _ _ _ _ _ => pts_nil) (fun _ _ _ _ _ => pe_ix ix_tup (pv 0) (pv 2) (fun _ _ => rfl))))), ?_⟩
    obtain ⟨rr, h0⟩ := hat.head
    refine ⟨_, rfl, a, _, _, _, rfl, rfl, SqT.of h0, at0, rfl, _, rfl, ?_⟩
    by_cases hn : e.wd = "name"
    · refine ifT (decide_eq_true (by rw [hn])) ?_
      obtain ⟨n, b, rfl⟩ := wd_name hn
      obtain ⟨_, hb, _⟩ := hC
      obtain ⟨kvs, h1, h2⟩ := hL
      obtain ⟨pb, h3, h4⟩ := h2 n b hb
      have hat : H a = some (.tup [.str "name", .str n]) := hat
      refine ⟨_, rfl, _, rfl, a, _, _, _, rfl, rfl, SqT.of hat, at1, ld, n, kvs, _, rfl, h1, h3, by show 1 ≤ sizeLine; decide, fun p hp => ?_⟩
      have kp : Kp [] H (upd H p (.lst [V.ref pb])) := .new hp
      exact k p [pb] _ kp hp upd_same (.cons (h4.kp kp) .nil)
    · refine ifF (decide_eq_false fun z => hn (V.str.inj z)) ?_
      obtain ⟨items, ps, hi, hps, hlen, hix⟩ := parts_at hat hn
      refine ⟨_, rfl, a, _, _, _, rfl, rfl, SqT.of h0, at0, by show 0 ≤ sizeLine; decide, fun t0 ht0 => ?_⟩
      have k0 : Kp [] H (upd H t0 (.tup [])) := .new ht0
      obtain ⟨r, hr1, hr2⟩ := T.v_PARTS e.wd
      have : ∃ (tp : Addr), ((r = none ∧ V.ref tp = V.ref t0) ∨ ∃ u, r = some u ∧ RelV (V.ref tp) u) ∧ SqT K (upd H t0 (.tup [])) tp ((partsOf e.wd).map V.int) := by
        rcases hr2 with ⟨h1, h2⟩ | ⟨t, h1, h2⟩
        · exact ⟨t0, .inl ⟨h1, rfl⟩, by rw [h2]; exact SqT.of upd_same⟩
        · exact ⟨t, .inr ⟨_, h1, rfl⟩, .inr h2⟩
      obtain ⟨tp, hu, hsq⟩ := this
      refine ⟨_, r, _, rfl, hr1, hu, tp, rfl, ⟨_, hsq⟩, fun D hD => ?_⟩
      generalize hH1 : upd H t0 (.tup []) = H1 at *
      have hsqs : ∀ o, SqT K (upd H1 D o) tp ((partsOf e.wd).map V.int) := fun o => by
        rcases hsq with h | h
        · refine .inl ?_
          rcases h with h | ⟨q, h⟩
          · exact .inl (by rw [upd_ne (ne_of_none h hD)]; exact h)
          · exact .inr ⟨q, by rw [upd_ne (ne_of_none h hD)]; exact h⟩
        · exact .inr h
      refine lc_tup (xs := (partsOf e.wd).map V.int) (Pv := fun i H' => H' = upd H1 D (.lst ((ps.take i).map V.ref))) rfl (fun i H' _ e => e ▸ hsqs _) ?_ ?_
      · rintro i x _ hx rfl
        rw [List.getElem?_map] at hx
        cases q : (partsOf e.wd)[i]? with
        | none => rw [q] at hx; cases hx
        | some kk =>
          rw [q] at hx
          have hx : V.int kk = x := Option.some.inj hx
          subst hx
          obtain ⟨p, hp, hat2⟩ := hix i kk q
          have il : i < ps.length := by
            rcases Nat.lt_or_ge i ps.length with z | z
            · exact z
            · rw [List.getElem?_eq_none z] at hp; cases hp
          have hps3 : ps.length ≤ 3 := by
            rw [← hlen]; unfold partsOf; split
            · decide
            · split
              · decide
              · split
                · decide
                · split <;> decide
          have haD : a ≠ D := ne_of_none (k0.to _ _ h0) hD
          refine ⟨rfl, _, rfl, _, rfl, a, items, _, _, rfl, rfl, SqT.of ?_, hat2, _, upd_same, ?_, ?_⟩
          · rw [upd_ne haD]; exact k0.to _ _ hi
          · have h4 : ((ps.take i).map V.ref).length ≤ 3 := by rw [List.length_map, List.length_take]; omega
            exact Nat.lt_of_le_of_lt h4 (by decide)
          · rw [upd_upd, take_succ_of hp, List.map_append]; rfl
      · rintro H' rfl
        rw [List.length_map, hlen, List.take_of_length_le (Nat.le_refl _)]
        have kp : Kp [] H (upd H1 D (.lst (ps.map V.ref))) := k0.trans (.new hD)
        exact k D ps _ kp (k0.free hD) upd_same (paired_imp (fun a x h => h.kp kp) hps)
end
end KW
set_option maxRecDepth 100000
set_option maxHeartbeats 4000000
/-! all_parts -/
namespace KW
open PySem L2
theorem dep_sub : ∀ {e x : Ex}, x ∈ subs e → dep x ≤ dep e := by
  intro e
  induction e with
  | lit w f => intro x hx; simp [subs] at hx; subst hx; exact Nat.le_refl _
  | ref w n => intro x hx; simp [subs] at hx; subst hx; exact Nat.le_refl _
  | tt b => intro x hx; simp [subs] at hx; subst hx; exact Nat.le_refl _
  | nam n b ih => intro x hx; rcases (by simpa [subs] using hx) with rfl | q; exact Nat.le_refl _; exact Nat.le_trans (ih q) (Nat.le_succ _)
  | un c ih => intro x hx; rcases (by simpa [subs] using hx) with rfl | q; exact Nat.le_refl _; exact Nat.le_trans (ih q) (Nat.le_succ _)
  | timed w k c ih => intro x hx; rcases (by simpa [subs] using hx) with rfl | q; exact Nat.le_refl _; exact Nat.le_trans (ih q) (Nat.le_succ _)
  | bin w e f ihe ihf =>
    intro x hx
    rcases (by simpa [subs] using hx) with rfl | q | q
    · exact Nat.le_refl _
    · have := ihe q; show dep x ≤ max (dep e) (dep f) + 1; omega
    · have := ihf q; show dep x ≤ max (dep e) (dep f) + 1; omega
  | ite c e f ihc ihe ihf =>
    intro x hx
    rcases (by simpa [subs] using hx) with rfl | q | q | q
    · exact Nat.le_refl _
    · have := ihc q; show dep x ≤ max (dep c) (max (dep e) (dep f)) + 1; omega
    · have := ihe q; show dep x ≤ max (dep c) (max (dep e) (dep f)) + 1; omega
    · have := ihf q; show dep x ≤ max (dep c) (max (dep e) (dep f)) + 1; omega
theorem any_mem {L : Str → Option Ex} {gs : List Ex} {e : Ex} (h : ∀ x ∈ gs, Con L x) (he : Con L e) : ((gs.map toD).any fun z => PyData.eqv z (toD e)) = decide (e ∈ gs) := by
  rw [List.any_map]
  by_cases q : e ∈ gs
  · rw [decide_eq_true q]
    exact List.any_eq_true.mpr ⟨e, q, eqv_refl e⟩
  · rw [decide_eq_false q]
    refine List.any_eq_false.mpr fun x hx z => ?_
    have z : PyData.eqv (toD x) (toD e) = true := z
    rw [eqv_dec (h x hx) he] at z
    exact q (of_decide_eq_true z ▸ hx)
theorem sum_take_le {α : Type} (f : α → Nat) : ∀ {es : List α} {i : Nat} {e : α}, es[i]? = some e → ((es.take i).map f).sum + f e ≤ (es.map f).sum
  | [], _, _, h => by simp at h
  | x :: r, 0, e, h => by simp at h; subst h; simp
  | x :: r, i + 1, e, h => by
    have := sum_take_le f (es := r) (i := i) (e := e) (by simpa using h)
    rw [List.take_succ_cons, List.map_cons, List.map_cons, List.sum_cons, List.sum_cons]; omega
theorem paired_snoc {α β : Type} {F : α → β → Prop} {a : α} {b : β} (h : F a b) : ∀ {xs : List α} {ys : List β}, PySem.Paired F xs ys → PySem.Paired F (xs ++ [a]) (ys ++ [b])
  | _, _, .nil => .cons h .nil
  | _, _, .cons x r => .cons x (paired_snoc h r)
theorem paired_get_l {α β : Type} {F : α → β → Prop} : ∀ {xs : List α} {ys : List β} {i : Nat} {x : α}, PySem.Paired F xs ys → xs[i]? = some x → ∃ y, ys[i]? = some y ∧ F x y
  | _, _, _, _, .nil, h => by simp at h
  | _, _, 0, _, .cons a r, h => by simp at h; subst h; exact ⟨_, rfl, a⟩
  | _, _, i + 1, x, .cons a r, h => by
    obtain ⟨y, h1, h2⟩ := paired_get_l (i := i) r (by simpa using h)
    exact ⟨y, by simpa using h1, h2⟩
section
variable {P : Program} {w : World} {K : PySem.W.Frag} {mg : Str → Option Value} {base : Heap}
def spAll (n : Nat) : Sp := fun vs H Q _ => ∃ (a ld fa : Addr) (e : Ex) (L : Str → Option Ex) (gs : List Ex), vs = [.ref a, .ref ld, .ref fa] ∧ At H e a ∧ Con L e ∧ dep e < n ∧ dep e ≤ 60 ∧ LetsAt H ld L ∧ ld ≠ fa ∧ PartsL H fa gs ∧ (∀ x ∈ gs, Con L x ∧ dep x ≤ 60) ∧
  gs.length + (subs e).length ≤ 1000000 ∧ ∀ gs' H', Kp [fa] H H' → PartsL H' fa gs' → Ap e gs gs' → Q .non H'
theorem Aps.con {L : Str → Option Ex} {es gs gs' : List Ex} (a : Aps es gs gs') (hg : ∀ x ∈ gs, Con L x ∧ dep x ≤ 60) (he : ∀ x ∈ es, Con L x ∧ dep x ≤ 60) : ∀ x ∈ gs', Con L x ∧ dep x ≤ 60 := by
  obtain ⟨t, rfl, ht, _⟩ := a.ext
  intro x hx
  rcases List.mem_append.mp hx with h | h
  · exact hg x h
  · obtain ⟨e, h1, h2⟩ := ht x h
    exact ⟨con_sub (he e h1).1 h2, Nat.le_trans (dep_sub h2) (he e h1).2⟩
theorem ok_all_parts (T : Tx K mg w) : ∀ n : Nat, FnOk P w K mg base CX0 (2 + n) T.all_parts.a T.all_parts.d p_all_parts (spAll n)
  | 0 => ⟨fun vs H Q E h => by obtain ⟨_, _, _, _, _, _, _, _, _, h, _⟩ := h; exact absurd h (Nat.not_lt_zero _), fun A outer s H args us vs Q E _ _ _ _ h => by obtain ⟨_, _, _, _, _, _, _, _, _, h, _⟩ := h; exact absurd h (Nat.not_lt_zero _)⟩
  | n + 1 => by
    have Gp : FnOk P w K mg base CX0 2 T.parts_of.a T.parts_of.d p_parts_of spParts := ok_parts_of T
    have Ga : FnOk P w K mg base CX0 (2 + n) T.all_parts.a T.all_parts.d p_all_parts (spAll n) := ok_all_parts T n
    refine T.all_parts.F.ok sc_all_parts (k := 2 + n) (fun vs H Q E h => ?_) (fun cdv A outer s H vs Q E hr h => ?_)
    · obtain ⟨a, ld, fa, e, L, gs, rfl, _⟩ := h
      rfl
    · obtain ⟨a, ld, fa, e, L, gs, rfl, hat, hC, hn, hd, hL, hne, hP, hG, hz, k⟩ := h
      have hun : ∀ {A : Around}, A.units + 16 * (2 + n) + 200 < cLine → A.units + 65 < cLine := fun h => by omega
      refine ⟨_, pss_cons (ps_if (pt_cmpR (op_inD (hun hr.un)) (pv 0) (pv 2) (by rfl)) (pss_one ps_retN) pss_nil)
        (pss_cons (ps_for PySem.PassesOwn.never rfl (pi_list (pe_call Gp (hr.mono (by omega)) rfl T.parts_of.g T.parts_of.F.kp T.parts_of.b .nil pass0 (pa_cons (pv 0) (pa_cons (pv 1) pa_nil)))) (pg_name (i := 3) sc_all_parts.nd rfl (Or.inl rfl))
          (pss_one (ps_expr (pe_call Ga hr rfl T.all_parts.g T.all_parts.F.kp T.all_parts.b .nil pass0 (pa_cons (pv 3) (pa_cons (pv 1) (pa_cons (pv 2) pa_nil)))))))
        (pss_one (ps_if (pt_cmpR (op_notInD (hun hr.un)) (pv 0) (pv 2) (by rfl)) (pss_one (ps_expr (pe_bm PySem.F.plainAttrs_list PySem.F.slot_list_append PySem.F.type_list_append mt_append (pv 2) (pa_cons (pv 0) pa_nil)))) pss_nil))), ?_⟩
      refine ⟨_, rfl, _, rfl, toD e, gs.map toD, hat.dp, hP.dp, toD_shaped hC hd, toDs_shaped (L := L) (fun x hx => (hG x hx).1) (fun x hx => (hG x hx).2), _, rfl, ?_⟩
      rw [any_mem (fun x hx => (hG x hx).1) hC]
      refine ite2 (fun q => ?_) (fun q => ?_)
      · exact k gs H .refl hP (.done (of_decide_eq_true q))
      · have hne0 : e ∉ gs := fun z => q (decide_eq_true z)
        refine ⟨_, rfl, _, rfl, a, ld, e, L, rfl, hat, hC, hL, fun p ps H1 k1 fp hp hps => ?_⟩
        have pfa : p ≠ fa := by
          obtain ⟨qs, h, _⟩ := hP
          exact (ne_of_none h fp).symm
        refine ⟨p, rfl, ⟨_, SqL.of hp⟩, ?_⟩
        refine for_list (xs := ps.map V.ref) (Pv := fun i σ H' => (∃ y, σ = [some (.ref a), some (.ref ld), some (.ref fa), y]) ∧ Kp [fa] H1 H' ∧ ∃ gs', PartsL H' fa gs' ∧ Aps ((parts e).take i) gs gs') ⟨⟨_, rfl⟩, .refl, gs, hP.kp k1 (by simp), by rw [List.take_zero]; exact .nil⟩
          (fun i σ H' _ h => SqL.of (h.2.1.keep _ _ hp (not1 pfa))) ?_ ?_
        · rintro i x σ H2 hx ⟨⟨y, rfl⟩, k2, gs', hP', hA⟩
          rw [List.getElem?_map] at hx
          cases q : ps[i]? with
          | none => rw [q] at hx; cases hx
          | some pa =>
            rw [q] at hx
            have hx : V.ref pa = x := Option.some.inj hx
            subst hx
            obtain ⟨pe, he, hpe⟩ := paired_get_l hps q
            have hm : pe ∈ parts e := List.mem_of_getElem? he
            have hdp := parts_dep hm
            have hcon : ∀ x ∈ gs', Con L x ∧ dep x ≤ 60 := hA.con hG fun x hx => ⟨hC.part (List.mem_of_mem_take hx), Nat.le_trans (Nat.le_of_lt (parts_dep (List.mem_of_mem_take hx))) hd⟩
            refine ⟨_, rfl, _, rfl, _, rfl, pa, ld, fa, pe, L, gs', rfl, hpe.kp k2, hC.part hm, by omega, by omega, (hL.kp k1 (by simp)).kp k2 (not1 hne), hne, hP', hcon, ?_, fun gs2 H3 k3 hP3 hA3 => ?_⟩
            · obtain ⟨t, rfl, _, hl⟩ := hA.ext
              have h1 := sum_take_le (fun e => (subs e).length) he
              have h2 := subs_len e
              rw [List.length_append]; omega
            · refine ⟨⟨_, rfl⟩, k2.trans k3, gs2, hP3, ?_⟩
              rw [take_succ_of he]
              exact hA.snoc hA3
        · rintro σ H2 ⟨⟨y, rfl⟩, k2, gs', hP', hA⟩
          rw [List.length_map, paired_len hps, List.take_of_length_le (Nat.le_refl _)] at hA
          have hcon : ∀ x ∈ gs', Con L x ∧ dep x ≤ 60 := hA.con hG fun x hx => ⟨hC.part hx, Nat.le_trans (Nat.le_of_lt (parts_dep hx)) hd⟩
          have hat2 := (hat.kp k1).kp k2
          have kk : Kp [fa] H H2 := k1.nil.trans k2
          refine ⟨_, rfl, _, rfl, toD e, gs'.map toD, hat2.dp, hP'.dp, toD_shaped hC hd, toDs_shaped (L := L) (fun x hx => (hcon x hx).1) (fun x hx => (hcon x hx).2), _, rfl, ?_⟩
          rw [any_mem (fun x hx => (hcon x hx).1) hC]
          by_cases q : e ∈ gs'
          · rw [decide_eq_true q]
            refine ifF rfl ?_
            exact k gs' H2 kk hP' (.end hA q)
          · rw [decide_eq_false q]
            refine ifT rfl ?_
            obtain ⟨qs, h1, h2⟩ := hP'
            have hlen : qs.length ≤ 1000000 := by
              rw [paired_len h2]
              obtain ⟨t, rfl, _, hl⟩ := hA.ext
              have := subs_len e
              rw [List.length_append]; omega
            refine ⟨_, rfl, .inl ⟨rfl, _, SqL.of h1⟩, _, rfl, fa, _, _, rfl, rfl, h1, ?_, ?_⟩
            · rw [List.length_map]
              exact Nat.lt_of_le_of_lt hlen (by decide)
            · have k4 : Kp [fa] H2 (upd H2 fa (.lst (qs.map V.ref ++ [V.ref a]))) := .mut (by simp) h1 (fun xs z => by cases z)
              refine k (gs' ++ [e]) _ (kk.trans k4) ⟨qs ++ [a], by rw [upd_same, List.map_append]; rfl, ?_⟩ (.add hA q)
              exact paired_imp (fun a x (h : At H2 x a) => h.kp k4) (paired_snoc (F := fun a x => At H2 x a) hat2 h2)
end
end KW
set_option maxRecDepth 100000
set_option maxHeartbeats 4000000
/-! Watch: __init__, next_day, kept, truth_of -/
namespace KW
open PySem L2
/-- the truths of a timed one's part that are kept at day d -/
def past (M : Md) (d : Nat) : Ex → List Bool
  | .timed _ k c => (List.range' (d - min k d) (min k d)).map fun j => (sem M c j).t
  | _ => []
theorem past_zero (M : Md) (x : Ex) : past M 0 x = [] := by
  cases x <;> simp [past]
theorem past_len {M : Md} {d : Nat} {x : Ex} (h : x.isT = true) : (past M d x).length = min x.days d := by
  cases x with
  | timed w k c =>
    show ((List.range' _ _).map _).length = min k d
    rw [List.length_map, List.length_range']
  | _ => cases h
/-- a watch at wd -/
structure WA (C : Addr) (H : Hp) (wd : Addr) (ls : List (Str × Ex)) (e : Ex) (xs : List Ex) (M : Md) (d : Nat) (dx : Addr) (fs : List (Str × V)) (a ld lb pa : Addr) (qs : List Addr) : Prop where
  ins : H wd = some (.ins C dx fs)
  f_e : fs.lookup ("expression" : Str) = some (.ref a)
  f_l : fs.lookup ("lets" : Str) = some (.ref ld)
  f_d : fs.lookup ("days" : Str) = some (.int d)
  f_b : fs.lookup ("looking_back" : Str) = some (.ref lb)
  f_p : fs.lookup ("past" : Str) = some (.ref pa)
  f_k : fs.lookup ("kept" : Str) = none
  f_t : fs.lookup ("truth_of" : Str) = none
  f_s : fs.lookup ("step" : Str) = none
  few : fs.length ≤ 5 + 2 * d
  at_ : At H e a
  lets : LetsAt H ld (KW.lk ls)
  prts : PartsL H lb xs
  pasts : H pa = some (.lst (qs.map V.ref))
  each : PySem.Paired (fun q x => H q = some (.lst ((past M d x).map V.bl))) qs xs
def WatchAt (C : Addr) (H : Hp) (wd : Addr) (ls : List (Str × Ex)) (e : Ex) (xs : List Ex) (M : Md) (d : Nat) : Prop := ∃ dx fs a ld lb pa qs, WA C H wd ls e xs M d dx fs a ld lb pa qs
/-- another instance changes -/
theorem WA.kp {C : Addr} {H H' : Hp} {wd s : Addr} {ls : List (Str × Ex)} {e : Ex} {xs : List Ex} {M : Md} {d : Nat} {dx : Addr} {fs : List (Str × V)} {a ld lb pa : Addr} {qs : List Addr} (h : WA C H wd ls e xs M d dx fs a ld lb pa qs) {S : List Addr} (k : Kp S H H') (hw : wd ∉ S)
    (hs : ∀ s ∈ S, (∃ C dx fs, H s = some (.ins C dx fs)) ∨ H s = none) : WA C H' wd ls e xs M d dx fs a ld lb pa qs := by
  have nl : ∀ b xs, H b = some (.lst xs) → b ∉ S := fun b xs hb z => by
    rcases hs b z with ⟨_, _, _, q⟩ | q <;> rw [hb] at q <;> cases q
  have nd : ∀ b kvs, H b = some (.dK kvs) → b ∉ S := fun b xs hb z => by
    rcases hs b z with ⟨_, _, _, q⟩ | q <;> rw [hb] at q <;> cases q
  exact ⟨k.keep _ _ h.ins hw, h.f_e, h.f_l, h.f_d, h.f_b, h.f_p, h.f_k, h.f_t, h.f_s, h.few, h.at_.kp k, h.lets.kp k (by obtain ⟨kvs, q, _⟩ := h.lets; exact nd _ _ q), h.prts.kp k (by obtain ⟨ps, q, _⟩ := h.prts; exact nl _ _ q), k.keep _ _ h.pasts (nl _ _ h.pasts),
    paired_imp (fun q x e => k.keep _ _ e (nl _ _ e)) h.each⟩
theorem WatchAt.kp0 {C : Addr} {H H' : Hp} {wd : Addr} {ls : List (Str × Ex)} {e : Ex} {xs : List Ex} {M : Md} {d : Nat} (h : WatchAt C H wd ls e xs M d) (k : Kp [] H H') : WatchAt C H' wd ls e xs M d := by
  obtain ⟨dx, fs, a, ld, lb, pa, qs, h⟩ := h
  exact ⟨dx, fs, a, ld, lb, pa, qs, h.kp k (by simp) (by simp) (s := 0)⟩
theorem wd_timed (e : Ex) : inV (.str e.wd) [.str "ever", .str "always", .str "before"] = e.isT := by
  cases e with
  | lit w f => show inV (.str w.s) _ = false; cases w <;> decide +kernel
  | ref w n => show inV (.str w.s) _ = false; cases w <;> decide +kernel
  | nam n b => show inV (.str "name") _ = false; decide +kernel
  | tt b => show inV (.str (tfs b)) _ = false; cases b <;> decide +kernel
  | un c => show inV (.str "not") _ = false; decide +kernel
  | bin w e f => show inV (.str w.s) _ = false; cases w <;> decide +kernel
  | ite c e f => show inV (.str "if") _ = false; decide +kernel
  | timed w k c => show inV (.str w.s) _ = true; exact tws_timed w
section
variable {P : Program} {w : World} {K : PySem.W.Frag} {mg : Str → Option Value} {base : Heap}
def spWInit (C : Addr) : Sp := fun vs H Q _ => ∃ (x a la dx : Addr) (e : Ex) (ls : List (Str × Ex)), vs = [.ref x, .ref a, .ref la] ∧ H x = some (.ins C dx []) ∧ At H e a ∧ Con (lk ls) e ∧ dep e < 25 ∧ (subs e).length ≤ 1000000 ∧ la ≠ x ∧ LetsL H la ls ∧ (ls.map (·.1)).Nodup ∧
  ∀ gs H', Kp [x] H H' → Ap e [] gs → (∀ M, WatchAt C H' x ls e (tl gs) M 0) → Q .non H'
theorem ok_W_init (T : Tx K mg w) : FnOk P w K mg base CX0 28 T.Watch.init.a T.Watch.init.d p_Watch_init (spWInit T.Watch.C) := by
  have Ga : FnOk P w K mg base CX0 27 T.all_parts.a T.all_parts.d p_all_parts (spAll 25) := ok_all_parts T 25
  refine T.Watch.init.F.ok sc_Watch_init (fun vs H Q E h => ?_) (fun cdv A outer s H vs Q E hr h => ?_)
  · obtain ⟨x, a, la, dx, e, ls, rfl, _⟩ := h
    rfl
  · obtain ⟨x, a, la, dx, e, ls, rfl, hx, hat, hC, hd, hz, hne, hl, nd, k⟩ := h
    refine ⟨_, pss_cons (ps_fld (pv 0) (pv 1) rfl) (pss_cons (ps_fld (pv 0) (pe_callTy (call_dictP rfl) (by rfl) T.z_dict (by decide +kernel) (pa_cons (pv 2) pa_nil)) rfl) (pss_cons (ps_fld (pv 0) pe_int rfl)
      (pss_cons (ps_set (i := 3) sc_Watch_init.nd rfl (Or.inl rfl) (pe_lst pa_nil))
      (pss_cons (ps_expr (pe_call Ga hr rfl T.all_parts.g T.all_parts.F.kp T.all_parts.b .nil pass0 (pa_cons (pv 1) (pa_cons (pe_fld (pv 0) rfl) (pa_cons (pv 3) pa_nil)))))
      (pss_cons (ps_fld (pv 0) (pe_lc (own := [("part", 4)]) (g := gName 4) (tt := tTest (tOp (rIn K false) (tOp (rIxT K) (tVar 4) (tC (.int 0))) (tC (.ref T.TIMED)))) (te := tVar 4) rfl sc_Watch_init.nd (pi_list (pv 3)) (blkOk_by (N := n_Watch_init) (sc := defScope s_Watch_init) (by decide +kernel))
          (fun _ _ _ _ _ => pg_name (i := 4) sc_Watch_init.nd rfl (Or.inl rfl)) (fun _ _ _ _ _ => pts_one (pt_cmpR op_in_seq (pixT 4) (pe_glob (by rfl) T.g_TIMED (v := .ref T.TIMED) rfl) (by rfl))) (fun _ _ _ _ _ => pv 4)) rfl)
      (pss_one (ps_fld (pv 0) (pe_lc (own := [("_", 5)]) (g := gName 5) (tt := tYes) (te := tLst tNil) rfl sc_Watch_init.nd (pi_list (pe_fld (pv 0) rfl)) (blkOk_by (N := n_Watch_init) (sc := defScope s_Watch_init) (by decide +kernel))
          (fun _ _ _ _ _ => pg_name (i := 5) sc_Watch_init.nd rfl (Or.inl rfl)) (fun _ _ _ _ _ => pts_nil) (fun _ _ _ _ _ => pe_lst pa_nil)) rfl))))))), ?_⟩
    -- self.expression
    refine ⟨_, rfl, _, rfl, x, _, dx, _, rfl, hx, T.Watch.cl, T.Watch.n_expression, by decide, ?_⟩
    have k1 : Kp [x] H (upd H x (.ins T.Watch.C dx (putF "expression" (.ref a) []))) := .mut (by simp) hx (fun xs z => by cases z)
    have hx1 : (upd H x (.ins T.Watch.C dx (putF "expression" (.ref a) []))) x = some (.ins T.Watch.C dx [("expression", .ref a)]) := upd_same
    generalize upd H x (.ins T.Watch.C dx (putF "expression" (.ref a) [])) = H1 at *
    -- self.lets
    obtain ⟨a', ps, kvs, e0, d1, d2, d3⟩ := dict_lets (K := K) (Q := fun v H' => ∀ p, v = .ref p → LetsAt H' p (lk ls)) (hl.kp k1 (not1 hne)) nd fun p H' _ _ hL _ q e => by cases e; exact hL
    have e0 : la = a' := by injection e0 with e0 _; injection e0
    subst e0
    refine ⟨_, rfl, la, ps, kvs, rfl, d1, d2, fun ld f1 => ?_⟩
    have hL := d3 ld f1 ld rfl
    have k2 : Kp [] H1 (upd H1 ld (.dK (mergeK [] kvs))) := .new f1
    generalize upd H1 ld (.dK (mergeK [] kvs)) = H2 at *
    have nx : x ≠ ld := ne_of_none hx1 f1
    have hx2 := k2.to _ _ hx1
    refine ⟨_, rfl, x, _, dx, _, rfl, hx2, T.Watch.cl, T.Watch.n_lets, by show 1 < 1000; decide, ?_⟩
    have k3 : Kp [x] H2 (upd H2 x (.ins T.Watch.C dx (putF "lets" (.ref ld) [("expression", .ref a)]))) := .mut (by simp) hx2 (fun xs z => by cases z)
    have hx3 : (upd H2 x (.ins T.Watch.C dx (putF "lets" (.ref ld) [("expression", .ref a)]))) x = some (.ins T.Watch.C dx [("expression", .ref a), ("lets", .ref ld)]) := upd_same
    generalize upd H2 x (.ins T.Watch.C dx (putF "lets" (.ref ld) [("expression", .ref a)])) = H3 at *
    -- self.days
    refine ⟨_, rfl, x, _, dx, _, rfl, hx3, T.Watch.cl, T.Watch.n_days, by show 2 < 1000; decide, ?_⟩
    have k4 : Kp [x] H3 (upd H3 x (.ins T.Watch.C dx (putF "days" (.int 0) [("expression", .ref a), ("lets", .ref ld)]))) := .mut (by simp) hx3 (fun xs z => by cases z)
    have hx4 : (upd H3 x (.ins T.Watch.C dx (putF "days" (.int 0) [("expression", .ref a), ("lets", .ref ld)]))) x = some (.ins T.Watch.C dx [("expression", .ref a), ("lets", .ref ld), ("days", .int 0)]) := upd_same
    generalize upd H3 x (.ins T.Watch.C dx (putF "days" (.int 0) [("expression", .ref a), ("lets", .ref ld)])) = H4 at *
    have hL4 : LetsAt H4 ld (lk ls) := (hL.kp k3 (not1 nx.symm)).kp k4 (not1 nx.symm)
    have kx4 : Kp [x] H H4 := ((k1.trans k2.nil).trans k3).trans k4
    -- found
    refine ⟨Nat.zero_le _, fun fa ffa => ?_⟩
    have k5 : Kp [] H4 (upd H4 fa (.lst [])) := .new ffa
    have hfa5 : (upd H4 fa (.lst [])) fa = some (.lst []) := upd_same
    generalize upd H4 fa (.lst []) = H5 at *
    have hx5 := k5.to _ _ hx4
    have nfx : x ≠ fa := ne_of_none hx4 ffa
    have nlf : ld ≠ fa := by
      obtain ⟨_, h, _⟩ := hL4
      exact ne_of_none h ffa
    refine ⟨_, rfl, _, rfl, x, _, dx, _, _, rfl, hx5, T.Watch.cl, T.Watch.n_lets, rfl, _, rfl, a, ld, fa, e, lk ls, [], rfl, (hat.kp kx4).kp k5, hC, hd, by omega, hL4.kp k5 (by simp), nlf, ⟨[], hfa5, .nil⟩, by simp, by rw [List.length_nil, Nat.zero_add]; exact hz, fun gs H6 k6 hP hA => ?_⟩
    have hx6 := k6.keep _ _ hx5 (not1 nfx)
    have kx6 : Kp [x] H H6 := by
      refine kx4.trans ?_
      exact Kp.later (p := fa) (k5.nil) (k6.sub fun b hb => by rw [List.mem_singleton.mp hb]; simp) ffa
    obtain ⟨qs, hq1, hq2⟩ := hP
    have hlen : gs.length ≤ 1000000 := by
      obtain ⟨t, e1, _, hl⟩ := hA.ext
      rw [e1, List.nil_append]; omega
    -- self.looking_back
    refine ⟨_, rfl, fa, rfl, ⟨_, SqL.of hq1⟩, fun D hD => ?_⟩
    have nfD : fa ≠ D := ne_of_none hq1 hD
    refine lc_list (xs := qs.map V.ref) (Pv := fun i H' => ∃ ts : List Addr, H' = upd H6 D (.lst (ts.map V.ref)) ∧ PySem.Paired (fun a x => At H6 x a) ts (tl (gs.take i))) ⟨[], rfl, .nil⟩ (fun i H' _ h => by obtain ⟨ts, rfl, _⟩ := h; exact SqL.of (by rw [upd_ne nfD]; exact hq1)) ?_ ?_
    · rintro i y _ hy ⟨ts, rfl, hts⟩
      rw [List.getElem?_map] at hy
      cases q : qs[i]? with
      | none => rw [q] at hy; cases hy
      | some pa =>
        rw [q] at hy
        have hy : V.ref pa = y := Option.some.inj hy
        subst hy
        obtain ⟨pe, he, hpe⟩ := paired_get_l hq2 q
        obtain ⟨rr, h0⟩ := At.head hpe
        have nD : pa ≠ D := ne_of_none h0 hD
        refine ⟨rfl, _, rfl, pa, _, _, _, rfl, rfl, SqT.of (by rw [upd_ne nD]; exact h0), at0, T.TIMED, _, rfl, .inr T.v_TIMED.sq, rfl, rfl, _, rfl, ?_⟩
        have e2 : tl (gs.take (i + 1)) = tl (gs.take i) ++ tl [pe] := by rw [take_succ_of he]; exact List.filter_append ..
        have hw := wd_timed pe
        refine ite2 (fun z => ?_) (fun z => ?_)
        · have z : pe.isT = true := hw.symm.trans z
          refine ⟨_, rfl, _, upd_same, ?_, ts ++ [pa], by rw [upd_upd, List.map_append]; rfl, ?_⟩
          · have h1 := paired_len hts
            have h2 : (tl (gs.take i)).length ≤ gs.length := Nat.le_trans (List.length_filter_le _ _) (by rw [List.length_take]; exact Nat.min_le_right _ _)
            rw [List.length_map]
            exact Nat.lt_of_le_of_lt (show ts.length ≤ 1000000 by omega) (by decide)
          · rw [e2, show tl [pe] = [pe] from List.filter_cons_of_pos z]
            exact paired_snoc (F := fun a x => At H6 x a) hpe hts
        · have z : ¬ pe.isT = true := fun y => z (hw.trans y)
          refine ⟨ts, rfl, ?_⟩
          rw [e2, show tl [pe] = [] from List.filter_cons_of_neg z, List.append_nil]
          exact hts
    · rintro _ ⟨ts, rfl, hts⟩
      rw [List.length_map, paired_len hq2, List.take_of_length_le (Nat.le_refl _)] at hts
      have k7 : Kp [] H6 (upd H6 D (.lst (ts.map V.ref))) := .new hD
      have hD7 : (upd H6 D (.lst (ts.map V.ref))) D = some (.lst (ts.map V.ref)) := upd_same
      generalize upd H6 D (.lst (ts.map V.ref)) = H7 at *
      have hx7 := k7.to _ _ hx6
      have nDx : x ≠ D := ne_of_none hx6 hD
      refine ⟨_, rfl, x, _, dx, _, rfl, hx7, T.Watch.cl, T.Watch.n_looking_back, by show 3 < 1000; decide, ?_⟩
      have k8 : Kp [x] H7 (upd H7 x (.ins T.Watch.C dx (putF "looking_back" (.ref D) [("expression", .ref a), ("lets", .ref ld), ("days", .int 0)]))) := .mut (by simp) hx7 (fun xs z => by cases z)
      have hx8 : (upd H7 x (.ins T.Watch.C dx (putF "looking_back" (.ref D) [("expression", .ref a), ("lets", .ref ld), ("days", .int 0)]))) x = some (.ins T.Watch.C dx [("expression", .ref a), ("lets", .ref ld), ("days", .int 0), ("looking_back", .ref D)]) := upd_same
      generalize upd H7 x (.ins T.Watch.C dx (putF "looking_back" (.ref D) [("expression", .ref a), ("lets", .ref ld), ("days", .int 0)])) = H8 at *
      have hD8 := k8.keep _ _ hD7 (not1 nDx.symm)
      -- self.past
      refine ⟨_, rfl, x, _, dx, _, _, rfl, hx8, T.Watch.cl, T.Watch.n_looking_back, rfl, D, rfl, ⟨_, SqL.of hD8⟩, fun D2 hD2 => ?_⟩
      have n2 : D ≠ D2 := ne_of_none hD8 hD2
      have n2x : x ≠ D2 := ne_of_none hx8 hD2
      have k9 : Kp [D2] H8 (upd H8 D2 (.lst [])) := .new hD2
      refine lc_list (xs := ts.map V.ref) (Pv := fun i H' => ∃ us : List Addr, Kp [D2] H8 H' ∧ H' D2 = some (.lst (us.map V.ref)) ∧ us.length = i ∧ ∀ u ∈ us, H' u = some (.lst []) ∧ u ≠ D2) ⟨[], k9, upd_same, rfl, by simp⟩ (fun i H' _ h => by obtain ⟨us, h, _⟩ := h; exact SqL.of (h.keep _ _ hD8 (not1 n2))) ?_ ?_
      · rintro i y H9 hy ⟨us, kk, hD9, hl9, hu9⟩
        have il : i < ts.length := by
          rcases Nat.lt_or_ge i ts.length with z | z
          · exact z
          · rw [List.getElem?_eq_none (by rw [List.length_map]; exact z)] at hy; cases hy
        refine ⟨rfl, Nat.zero_le _, fun p hp => ?_⟩
        have np : D2 ≠ p := ne_of_none hD9 hp
        have k10 : Kp [D2] H9 (upd H9 p (.lst [])) := .new hp
        have h10 : (upd H9 p (.lst [])) D2 = some (.lst (us.map V.ref)) := by rw [upd_ne np]; exact hD9
        refine ⟨_, h10, ?_, us ++ [p], (kk.trans k10).trans (.mut (by simp) h10 (fun xs z => by cases z)), by rw [upd_same, List.map_append]; rfl, by rw [List.length_append, hl9]; rfl, fun u hu => ?_⟩
        · have h1 := paired_len hts
          have h2 : (tl gs).length ≤ gs.length := List.length_filter_le _ _
          rw [List.length_map]
          exact Nat.lt_of_le_of_lt (show us.length ≤ 1000000 by omega) (by decide)
        · rcases List.mem_append.mp hu with h | h
          · obtain ⟨h1, h2⟩ := hu9 u h
            exact ⟨by rw [upd_ne h2, upd_ne (ne_of_none h1 hp)]; exact h1, h2⟩
          · have : u = p := by simpa using h
            subst this
            exact ⟨by rw [upd_ne np.symm, upd_same], np.symm⟩
      · rintro H9 ⟨us, kk, hD9, hl9, hu9⟩
        rw [List.length_map] at hl9
        have k9' : Kp [] H8 H9 := by
          refine ⟨fun b o h _ => kk.keep b o h (not1 (ne_of_none h hD2)), kk.tup, kk.there⟩
        have hx9 := k9'.to _ _ hx8
        refine ⟨_, rfl, x, _, dx, _, rfl, hx9, T.Watch.cl, T.Watch.n_past, by show 4 < 1000; decide, ?_⟩
        have k10 : Kp [x] H9 (upd H9 x (.ins T.Watch.C dx (putF "past" (.ref D2) [("expression", .ref a), ("lets", .ref ld), ("days", .int 0), ("looking_back", .ref D)]))) := .mut (by simp) hx9 (fun xs z => by cases z)
        have hx10 : (upd H9 x (.ins T.Watch.C dx (putF "past" (.ref D2) [("expression", .ref a), ("lets", .ref ld), ("days", .int 0), ("looking_back", .ref D)]))) x = some (.ins T.Watch.C dx [("expression", .ref a), ("lets", .ref ld), ("days", .int 0), ("looking_back", .ref D), ("past", .ref D2)]) := upd_same
        generalize upd H9 x (.ins T.Watch.C dx (putF "past" (.ref D2) [("expression", .ref a), ("lets", .ref ld), ("days", .int 0), ("looking_back", .ref D)])) = H10 at *
        have k710 : Kp [x] H7 H10 := (k8.trans k9'.nil).trans k10
        have kF : Kp [x] H H10 := (kx6.trans k7.nil).trans k710
        refine k gs H10 kF hA fun M => ?_
        refine ⟨dx, _, a, ld, D, D2, us, hx10, rfl, rfl, rfl, rfl, rfl, rfl, rfl, rfl, by show 5 ≤ 5 + 2 * 0; decide, hat.kp kF, ?_, ⟨ts, k10.keep _ _ (k9'.to _ _ hD8) (not1 nDx.symm), paired_imp (fun a x (h : At H6 x a) => (h.kp k7).kp k710) hts⟩, k10.keep _ _ hD9 (not1 n2x.symm), ?_⟩
        · exact ((((hL4.kp k5 (by simp)).kp k6 (not1 nlf)).kp k7 (by simp)).kp k710 (not1 nx.symm))
        · have hl := paired_len hts
          have : ∀ {us : List Addr} {xs : List Ex}, us.length = xs.length → (∀ u ∈ us, H9 u = some (.lst []) ∧ u ≠ D2) → PySem.Paired (fun q x => H10 q = some (.lst ((past M 0 x).map V.bl))) us xs := by
            intro us
            induction us with
            | nil => intro xs h _; cases xs with
              | nil => exact .nil
              | cons => cases h
            | cons u r ih => intro xs h hu; cases xs with
              | nil => cases h
              | cons y ys =>
                obtain ⟨h1, _⟩ := hu u (by simp)
                refine .cons ?_ (ih (by simpa using h) fun v hv => hu v (by simp [hv]))
                rw [past_zero]
                exact k10.keep _ _ h1 (not1 fun z => by rw [z, hx9] at h1; cases h1)
          exact this (by rw [hl9, hl]) hu9
end
end KW
set_option maxRecDepth 100000
set_option maxHeartbeats 4000000
/-! Watch: next_day, kept, truth_of -/
namespace KW
open PySem L2
/-- the truths told so far, today's too -/
def told (M : Md) (d k : Nat) (c : Ex) : List Bool := (List.range' (d - min k d) (min k d + 1)).map fun j => (sem M c j).t
theorem told_len {M : Md} {d k : Nat} {c : Ex} : (told M d k c).length = min k d + 1 := by
  unfold told; rw [List.length_map, List.length_range']
theorem past_told {M : Md} {d k : Nat} {o : TW} {c : Ex} : past M d (.timed o k c) ++ [(sem M c d).t] = told M d k c := by
  show (List.range' (d - min k d) (min k d)).map _ ++ _ = (List.range' (d - min k d) (min k d + 1)).map _
  rw [List.range'_1_concat, List.map_append]
  have : d - min k d + min k d = d := by omega
  rw [this]; rfl
theorem drop_win (d k : Nat) : (List.range' (d - min k d) (min k d + 1)).drop (min k d + 1 - k) = win d k := by
  unfold win
  by_cases h : k ≤ d
  · have e1 : min k d = k := Nat.min_eq_left h
    have e2 : k + 1 - k = 1 := by omega
    have e3 : d + 1 - (d + 1 - k) = k := by omega
    have e4 : d - k + 1 = d + 1 - k := by omega
    rw [e1, e2, e3, List.range'_succ, e4]; rfl
  · have e1 : min k d = d := Nat.min_eq_right (by omega)
    have e2 : d + 1 - k = 0 := by omega
    rw [e1, e2, Nat.sub_self]; rfl
theorem told_drop {M : Md} {d k : Nat} {c : Ex} : (told M d k c).drop (min k d + 1 - k) = (win d k).map fun j => (sem M c j).t := by
  unfold told
  rw [← List.map_drop, drop_win]
theorem past_next {M : Md} {d k : Nat} {o : TW} {c : Ex} : (win d k).map (fun j => (sem M c j).t) = past M (d + 1) (.timed o k c) := by
  show (List.range' (d + 1 - k) (d + 1 - (d + 1 - k))).map _ = (List.range' (d + 1 - min k (d + 1)) (min k (d + 1))).map _
  have e1 : d + 1 - min k (d + 1) = d + 1 - k := by omega
  have e2 : min k (d + 1) = d + 1 - (d + 1 - k) := by omega
  rw [e1, e2]
/-- truths[-k:] -/
theorem cut_told {M : Md} {d k : Nat} {c : Ex} (hk : 1 ≤ k) : cutV ((told M d k c).map V.bl) (some (-(k : Int))) none = ((win d k).map fun j => (sem M c j).t).map V.bl := by
  have hl : ((told M d k c).map V.bl).length = min k d + 1 := by rw [List.length_map, told_len]
  unfold cutV
  rw [hl]
  have e1 : HT.sIx (min k d + 1) 0 (some (-(k : Int))) = min k d + 1 - k := by
    show (if -(k : Int) < 0 then (-(k : Int) + ((min k d + 1 : Nat) : Int)).toNat else _) = _
    rw [if_pos (by omega)]; omega
  rw [e1, HT.sIx_none, ← List.map_drop, told_drop, List.take_of_length_le]
  rw [List.length_map, List.length_map]
  unfold win
  rw [List.length_range']; omega
section
variable {P : Program} {w : World} {K : PySem.W.Frag} {mg : Str → Option Value} {base : Heap}
def spTruth (K : PySem.W.Frag) : Sp := fun vs H Q _ => ∃ (wd p q : Addr) (o : TW) (k d : Nat) (c : Ex) (M : Md), vs = [.ref wd, .ref p, .ref q] ∧ At H (.timed o k c) p ∧ 1 ≤ k ∧ H q = some (.lst ((told M d k c).map V.bl)) ∧
  ∀ H', Kp [] H H' → Q (.bl (sem M (.timed o k c) d).t) H'
theorem ok_W_truth_of (T : Tx K mg w) : FnOk P w K mg base CX0 1 T.Watch.truth_of.a T.Watch.truth_of.d p_Watch_truth_of (spTruth K) := by
  refine T.Watch.truth_of.F.ok sc_Watch_truth_of (fun vs H Q E h => ?_) (fun cdv A outer s H vs Q E hr h => ?_)
  · obtain ⟨wd, p, q, o, k, d, c, M, rfl, _⟩ := h
    rfl
  · obtain ⟨wd, p, q, o, k, d, c, M, rfl, hat, hk, hq, kk⟩ := h
    refine ⟨_, pss_cons (ps_asg (pv 1) (pg_tup rfl (pgs_cons (pg_name (i := 3) sc_Watch_truth_of.nd rfl (Or.inl rfl)) (pgs_cons (pg_name (i := 4) sc_Watch_truth_of.nd rfl (Or.inl rfl)) (pgs_cons (pg_name (i := 5) sc_Watch_truth_of.nd rfl (Or.inl rfl)) pgs_nil)))))
      (pss_cons (ps_if (pt_cmpR op_eq (pv 3) pe_str (nomark _)) (pss_one (ps_ret (pe_and (pe_cmpR op_gt (pe_callB call_len_seq (by rfl) T.z_len (by rfl) (pa_cons (pv 2) pa_nil)) (pv 4) (nomark _)) (pe_one (pe_ix ix_list (pv 2) (pe_op op_sub (pe_un un_neg pe_int) (pv 4)) (fun _ _ => rfl)))))) pss_nil)
      (pss_cons (ps_if (pt_cmpR op_eq (pv 3) pe_str (nomark _)) (pss_one (ps_ret (pe_callB (cr_any rfl) (by rfl) T.z_any (by rfl) (pa_cons (pe_slice sl_list (pv 2) (po_some (pe_un un_neg (pv 4))) po_none) pa_nil)))) pss_nil)
      (pss_one (ps_ret (pe_callB (cr_all rfl) (by rfl) T.z_all (by rfl) (pa_cons (pe_slice sl_list (pv 2) (po_some (pe_un un_neg (pv 4))) po_none) pa_nil)))))), ?_⟩
    obtain ⟨x, h1, h2⟩ := hat
    refine ⟨_, rfl, p, _, rfl, SqT.of h1, rfl, _, _, rfl, _, _, rfl, _, _, rfl, rfl, ?_⟩
    refine ⟨_, rfl, rfl, _, rfl, ?_⟩
    rw [tws_before]
    by_cases hb : o = .before
    · subst hb
      refine ifT rfl ?_
      refine ⟨_, rfl, q, _, rfl, .inl (SqL.of hq), _, rfl, _, _, rfl, rfl, _, rfl, ?_⟩
      rw [List.length_map, told_len]
      by_cases hd : k ≤ d
      · refine ifT (decide_eq_true (by omega)) ?_
        have e0 : (told M d k c)[0]? = some (sem M c (d - k)).t := by
          unfold told
          rw [List.getElem?_map, List.range'_succ, Nat.min_eq_left hd]; rfl
        refine ⟨_, rfl, _, rfl, _, rfl, _, _, rfl, rfl, q, _, _, V.bl (sem M c (d - k)).t, rfl, rfl, SqL.of hq, ?_, ?_⟩
        · have hl : ((told M d k c).map V.bl).length = k + 1 := by rw [List.length_map, told_len, Nat.min_eq_left hd]
          unfold atI ixN
          rw [hl, if_neg (by omega), if_pos (by omega)]
          show ((told M d k c).map V.bl)[(-1 - (k : Int) + ((k + 1 : Nat) : Int)).toNat]? = _
          have : (-1 - (k : Int) + ((k + 1 : Nat) : Int)).toNat = 0 := by omega
          rw [this, List.getElem?_map, e0]; rfl
        · have z := kk H .refl
          have e : (sem M (.timed .before k c) d).t = (sem M c (d - k)).t := by
            show (decide (k ≤ d) && _) = _
            rw [decide_eq_true hd, Bool.true_and]
          rwa [e] at z
      · refine ifF (decide_eq_false (by omega)) ?_
        have z := kk H .refl
        have e : (sem M (.timed .before k c) d).t = false := by
          show (decide (k ≤ d) && _) = _
          rw [decide_eq_false hd, Bool.false_and]
        rwa [e] at z
    · refine ifF (decide_eq_false hb) ?_
      refine ⟨_, rfl, rfl, _, rfl, ?_⟩
      rw [tws_ever]
      have wa : ∀ f : Nat → Bool, ((win d k).map f).any id = (win d k).any f := fun f => by rw [List.any_map]; rfl
      have wl : ∀ f : Nat → Bool, ((win d k).map f).all id = (win d k).all f := fun f => by rw [List.all_map]; rfl
      cases o with
      | before => exact absurd rfl hb
      | ever =>
        refine ifT rfl ?_
        refine ⟨_, rfl, _, rfl, _, rfl, _, rfl, q, _, rfl, SqL.of hq, fun p2 hp2 => ?_⟩
        rw [cut_told hk]
        refine ⟨p2, _, rfl, SqL.of upd_same, ?_⟩
        rw [wa]
        exact kk _ (.new hp2)
      | always =>
        refine ifF rfl ?_
        refine ⟨_, rfl, _, rfl, _, rfl, _, rfl, q, _, rfl, SqL.of hq, fun p2 hp2 => ?_⟩
        rw [cut_told hk]
        refine ⟨p2, _, rfl, SqL.of upd_same, ?_⟩
        rw [wl]
        exact kk _ (.new hp2)
def spDay (C : Addr) : Sp := fun vs H Q _ => ∃ (wd dx : Addr) (fs : List (Str × V)) (d : Int), vs = [.ref wd] ∧ H wd = some (.ins C dx fs) ∧ fs.lookup ("days" : Str) = some (.int d) ∧ Q (.int d) H
theorem ok_W_next_day (T : Tx K mg w) : FnOk P w K mg base CX0 1 T.Watch.next_day.a T.Watch.next_day.d p_Watch_next_day (spDay T.Watch.C) := by
  refine T.Watch.next_day.F.ok sc_Watch_next_day (fun vs H Q E h => ?_) (fun cdv A outer s H vs Q E hr h => ?_)
  · obtain ⟨wd, dx, fs, d, rfl, _⟩ := h
    rfl
  · obtain ⟨wd, dx, fs, d, rfl, hw, hl, k⟩ := h
    refine ⟨_, pss_one (ps_ret (pe_fld (pv 0) rfl)), ?_⟩
    exact ⟨_, rfl, wd, _, dx, fs, _, rfl, hw, T.Watch.cl, T.Watch.n_days, hl, k⟩
/-- what is kept, all together -/
def keptN (M : Md) (d : Nat) (xs : List Ex) : Int := (xs.map fun x => ((past M d x).length : Int)).sum
def spKept (C : Addr) : Sp := fun vs H Q _ => ∃ (wd dx pa : Addr) (fs : List (Str × V)) (qs : List Addr) (ls : List Int), vs = [.ref wd] ∧ H wd = some (.ins C dx fs) ∧ fs.lookup ("past" : Str) = some (.ref pa) ∧ H pa = some (.lst (qs.map V.ref)) ∧ qs.length ≤ 1000000 ∧
  PySem.Paired (fun q (n : Int) => ∃ bs : List V, H q = some (.lst bs) ∧ n = bs.length) qs ls ∧ ∀ H', Kp [] H H' → Q (.int ls.sum) H'
theorem ok_W_kept (T : Tx K mg w) : FnOk P w K mg base CX0 1 T.Watch.kept.a T.Watch.kept.d p_Watch_kept (spKept T.Watch.C) := by
  refine T.Watch.kept.F.ok sc_Watch_kept (fun vs H Q E h => ?_) (fun cdv A outer s H vs Q E hr h => ?_)
  · obtain ⟨wd, dx, pa, fs, qs, ls, rfl, _⟩ := h
    rfl
  · obtain ⟨wd, dx, pa, fs, qs, ls, rfl, hw, hl, hp, hz, hq, k⟩ := h
    refine ⟨_, pss_one (ps_ret (pe_callB (cr_sum rfl) (by rfl) T.z_sum (by rfl) (pa_cons (pe_lc (own := [("truths", 1)]) (g := gName 1) (tt := tYes) (te := tCB (fun xs H Q => ∃ p ys, xs = [.ref p] ∧ (SqL K H p ys ∨ SqT K H p ys) ∧ Q (.int ys.length) H) (tCons (tVar 1) tNil)) rfl sc_Watch_kept.nd (pi_list (pe_fld (pv 0) rfl)) (blkOk_by (N := n_Watch_kept) (sc := defScope s_Watch_kept) (by decide +kernel))
      (fun _ _ _ _ _ => pg_name (i := 1) sc_Watch_kept.nd rfl (Or.inl rfl)) (fun _ _ _ _ _ => pts_nil) (fun _ _ _ _ _ => pe_callB call_len_seq (by rfl) T.z_len (by rfl) (pa_cons (pv 1) pa_nil))) pa_nil))), ?_⟩
    refine ⟨_, rfl, wd, _, dx, fs, _, rfl, hw, T.Watch.cl, T.Watch.n_past, hl, pa, rfl, ⟨_, SqL.of hp⟩, fun D hD => ?_⟩
    have nD : pa ≠ D := ne_of_none hp hD
    refine lc_list (xs := qs.map V.ref) (Pv := fun i H' => H' = upd H D (.lst ((ls.take i).map V.int))) rfl (fun i H' _ h => by rw [h]; exact SqL.of (by rw [upd_ne nD]; exact hp)) ?_ ?_
    · rintro i y _ hy rfl
      rw [List.getElem?_map] at hy
      cases q : qs[i]? with
      | none => rw [q] at hy; cases hy
      | some u =>
        rw [q] at hy
        have hy : V.ref u = y := Option.some.inj hy
        subst hy
        obtain ⟨n, hn, bs, hb, rfl⟩ := paired_get_l hq q
        have nu : u ≠ D := ne_of_none hb hD
        refine ⟨rfl, _, rfl, u, bs, rfl, .inl (SqL.of (by rw [upd_ne nu]; exact hb)), _, upd_same, ?_, ?_⟩
        · have h1 := paired_len hq
          rw [List.length_map, List.length_take]
          exact Nat.lt_of_le_of_lt (show min i ls.length ≤ 1000000 by omega) (by decide)
        · rw [upd_upd, take_succ_of hn, List.map_append]; rfl
    · rintro _ rfl
      rw [List.length_map, paired_len hq, List.take_of_length_le (Nat.le_refl _)]
      exact ⟨D, ls, rfl, SqL.of upd_same, k _ (.new hD)⟩
end
end KW
set_option maxRecDepth 100000
set_option maxHeartbeats 4000000
/-! Watch.step -/
namespace KW
open PySem L2
theorem sub_ind {p : Ex → Prop} (hp : ∀ e q, p e → q ∈ parts e → p q) : ∀ {e x : Ex}, p e → x ∈ subs e → p x := by
  intro e
  induction e with
  | lit w f => intro x h hx; rcases subs_cases hx with rfl | ⟨q, hq, _⟩; exact h; simp [parts] at hq
  | ref w n => intro x h hx; rcases subs_cases hx with rfl | ⟨q, hq, _⟩; exact h; simp [parts] at hq
  | tt b => intro x h hx; rcases subs_cases hx with rfl | ⟨q, hq, _⟩; exact h; simp [parts] at hq
  | nam n b ih => intro x h hx; rcases subs_cases hx with rfl | ⟨q, hq, hs⟩; exact h; have e : q = b := (by simpa [parts] using hq); subst e; exact ih (hp _ _ h hq) hs
  | un c ih => intro x h hx; rcases subs_cases hx with rfl | ⟨q, hq, hs⟩; exact h; have e : q = c := (by simpa [parts] using hq); subst e; exact ih (hp _ _ h hq) hs
  | timed w k c ih => intro x h hx; rcases subs_cases hx with rfl | ⟨q, hq, hs⟩; exact h; have e : q = c := (by simpa [parts] using hq); subst e; exact ih (hp _ _ h hq) hs
  | bin w e f ihe ihf =>
    intro x h hx
    rcases subs_cases hx with rfl | ⟨q, hq, hs⟩
    · exact h
    · rcases (show q = e ∨ q = f by simpa [parts] using hq) with rfl | rfl
      · exact ihe (hp _ _ h hq) hs
      · exact ihf (hp _ _ h hq) hs
  | ite c e f ihc ihe ihf =>
    intro x h hx
    rcases subs_cases hx with rfl | ⟨q, hq, hs⟩
    · exact h
    · rcases (show q = c ∨ q = e ∨ q = f by simpa [parts] using hq) with rfl | rfl | rfl
      · exact ihc (hp _ _ h hq) hs
      · exact ihe (hp _ _ h hq) hs
      · exact ihf (hp _ _ h hq) hs
theorem wt_part {e q : Ex} : (∃ s, WT e s) → q ∈ parts e → ∃ s, WT q s := by
  rintro ⟨s, h⟩ hq
  cases e <;> simp [parts] at hq
  · subst hq; exact ⟨_, h.2⟩
  · subst hq; exact ⟨_, h.2⟩
  · rename_i w e f
    rw [WT] at h
    split at h
    · rcases hq with rfl | rfl
      · exact ⟨_, h.2.1⟩
      · exact ⟨_, h.2.2⟩
    · rcases hq with rfl | rfl
      · exact ⟨_, h.2.1⟩
      · exact ⟨_, h.2.2⟩
  · rcases hq with rfl | rfl | rfl
    · exact ⟨_, h.1⟩
    · exact ⟨_, h.2.1⟩
    · exact ⟨_, h.2.2⟩
  · subst hq; exact ⟨_, h.2.2⟩
theorem wf_sub {L : Str → Option Ex} {e x : Ex} {s : Bool} (h : Wf L e s) (hx : x ∈ subs e) : ∃ s', Wf L x s' := by
  refine sub_ind (p := fun x => ∃ s', Wf L x s') (fun e q ⟨s, h⟩ hq => ?_) ⟨s, h⟩ hx
  obtain ⟨s', h'⟩ := wt_part ⟨s, h.wt⟩ hq
  exact ⟨s', h.part hq h'⟩
theorem wt_timed {x : Ex} {s : Bool} (h : WT x s) (t : x.isT = true) : s = true := by
  cases x with
  | timed o k c => exact h.1
  | _ => cases t
/-- the timed ones of a watch, what is so for all time -/
structure Sx (g : HistIn) (e : Ex) (s : Bool) (xs : List Ex) : Prop where
  wf : Wf (lk g.ls) e s
  ok : g.ok e
  dp : dep e < 25
  nd : xs.Nodup
  each : ∀ x ∈ xs, x.isT = true ∧ Wf (lk g.ls) x true ∧ g.ok x ∧ dep x < 25
  before : ∀ (i : Nat) (x p : Ex), xs[i]? = some x → p ∈ parts x → ∀ y ∈ subs p, y.isT = true → ∃ j, j < i ∧ xs[j]? = some y
  all : ∀ y ∈ subs e, y.isT = true → ∃ j, j < xs.length ∧ xs[j]? = some y
  few : xs.length ≤ 1000000
theorem sx_of {g : HistIn} {e : Ex} {s : Bool} {gs : List Ex} (wf : Wf (lk g.ls) e s) (ok : g.ok e) (dp : dep e < 25) (few : (subs e).length ≤ 1000000) (a : Ap e [] gs) : Sx g e s (tl gs) := by
  have c : Cl gs := a.cl .nil
  obtain ⟨t, e1, ht, hl⟩ := a.ext
  have e1 : gs = t := by simpa using e1
  subst e1
  refine ⟨wf, ok, dp, (a.nd List.nodup_nil).filter _, fun x hx => ?_, fun i x p hi hp y hy ty => tl_before c hi hp hy ty, fun y hy ty => tl_all c a.mem hy ty, ?_⟩
  · obtain ⟨h1, h2⟩ := List.mem_filter.mp hx
    have hs := ht x h1
    obtain ⟨s', w'⟩ := wf_sub wf hs
    have := wt_timed w'.wt h2
    subst this
    exact ⟨h2, w', sub_ind (p := g.ok) (fun e q h hq => h.part hq) ok hs, Nat.lt_of_le_of_lt (dep_sub hs) dp⟩
  · exact Nat.le_trans (List.length_filter_le _ _) (by omega)
/-- what was new there is changed -/
theorem Kp.news {S : List Addr} {H H1 H2 : Hp} (a : Kp [] H H1) (b : Kp S H1 H2) (h : ∀ s ∈ S, H s = none) : Kp [] H H2 :=
  ⟨fun c o e _ => b.keep c o (a.to _ _ e) (fun z => by rw [h c z] at e; cases e), fun c xs e => b.tup c xs (a.tup c xs e), fun c o e => by
    obtain ⟨o1, h1⟩ := a.there c o e
    exact b.there c o1 h1⟩
theorem Kn.kps {K : PySem.W.Frag} {F : Fl} {g : F.G} {H H' : Hp} {S : List Addr} (h : Kn K F g H) (k : Kp S H H') (hs : F.kd g ∉ S) : Kn K F g H' := by
  obtain ⟨kvs, h1, h2, h3, h4⟩ := h.ex
  exact ⟨kvs, k.keep _ _ h1 hs, h2, h3, fun y v e n b d ek el => (h4 y v e n b d ek el).kp k⟩
/-- an error that tells what lacks -/
def Lacks {K : PySem.W.Frag} {mg : Str → Option Value} {w : World} (T : Tx K mg w) (lackF lackR : Option Str) (d : Nat) : XK := fun c dd H' => ∃ n dx, ((lackF = some n ∧ c = .ref T.MissingFact.C) ∨ (lackR = some n ∧ c = .ref T.MissingRate.C)) ∧ dd = some dx ∧ H' dx = some (.xd [("day", .int d), ("name", .str n)])
section
variable {P : Program} {w : World} {K : PySem.W.Frag} {mg : Str → Option Value} {base : Heap}
def spStep (K : PySem.W.Frag) {mg : Str → Option Value} {w : World} (T : Tx K mg w) : Sp := fun vs H Q E => ∃ (g : HistIn) (wd fd rd : Addr) (e : Ex) (s : Bool) (xs : List Ex) (d : Nat) (lackF lackR : Option Str), vs = [.ref wd, .ref fd, .ref rd] ∧ Sx g e s xs ∧ d ≤ 100 ∧
  WatchAt T.Watch.C H wd g.ls e xs (mdl g.fct g.rat) d ∧ DayAt K H fd lackF (fun n => ∃ fs, g.fct n = some fs ∧ fs.length = g.D) (fun n => (mdl g.fct g.rat).fact n d) ∧ DayAt K H rd lackR (fun n => ∃ fs, g.rat n = some fs ∧ fs.length = g.D) (fun n => (mdl g.fct g.rat).rate n d) ∧
  (∀ v H', Kp [wd] H H' → WatchAt T.Watch.C H' wd g.ls e xs (mdl g.fct g.rat) (d + 1) → IsV K H' v (sem (mdl g.fct g.rat) e d) → Q v H') ∧ ∀ c dd H', Kp [] H H' → Lacks T lackF lackR d c dd H' → E c dd H'
theorem DayAt.fd {H : Hp} {fd : Addr} {lack : Option Str} {A : Str → Prop} {f : Str → Fr} (h : DayAt K H fd lack A f) : ∃ kvs, H fd = some (.dK kvs) := by
  obtain ⟨kvs, h, _⟩ := h
  exact ⟨kvs, h⟩
theorem ok_W_step (T : Tx K mg w) : FnOk P w K mg base (L2N.CX P w) 57 T.Watch.step.a T.Watch.step.d p_Watch_step (spStep K T) := by
  have Ge : FnOk P w K mg base (L2N.CX P w) 56 T.evaluated.a T.evaluated.d p_evaluated (spEval K (flD T) 25) := eval_D T 25
  have Gi : FnOk P w K mg base CX0 1 T.Today.init.a T.Today.init.d p_Today_init (spDInit T.Today.C) := ok_D_init T
  have Gt : FnOk P w K mg base CX0 1 T.Watch.truth_of.a T.Watch.truth_of.d p_Watch_truth_of (spTruth K) := ok_W_truth_of T
  have O := flD_ok T
  refine okN T.Watch.step.F sc_Watch_step (fun vs H Q E h => ?_) (fun cdv A outer s H vs Q E hr h => ?_)
  · obtain ⟨g, wd, fd, rd, e, s, xs, d, lf, lr, rfl, _⟩ := h
    rfl
  · obtain ⟨g, wd, fd, rd, e, s, xs, d, lf, lr, rfl, hS, hd100, ⟨dx, fs, a, ld, lb, pa, qs, hW⟩, hF, hR, k, kx⟩ := h
    refine ⟨_, pss_cons (ps_set (i := 3) sc_Watch_step.nd rfl (Or.inl rfl) (pe_make T.Today.init.m Gi (hr.mono (by decide)) rfl T.Today.g T.Today.init.b .nil pass0 (pa_cons (pe_fld (pv 0) rfl) (pa_cons (pv 1) (pa_cons (pv 2) (pa_cons (pe_fld (pv 0) rfl) pa_nil))))))
      (pss_cons (ps_set (i := 4) sc_Watch_step.nd rfl (Or.inl rfl) (pe_lst pa_nil))
      (pss_cons (ps_for (passes_of rfl) rfl (RZ.pi_zipA (by rfl) T.z_zip (pa_cons (pe_fld (pv 0) rfl) (pa_cons (pe_fld (pv 0) rfl) pa_nil))) (pg_tup rfl (pgs_cons (pg_name (i := 5) sc_Watch_step.nd rfl (Or.inl rfl)) (pgs_cons (pg_name (i := 6) sc_Watch_step.nd rfl (Or.inl rfl)) pgs_nil)))
        (pss_cons (ps_set (i := 7) sc_Watch_step.nd rfl (Or.inl rfl) (pe_op op_cat (pv 6) (pe_lst (pa_cons (pe_call Ge hr rfl T.evaluated.g T.evaluated.F.kp T.evaluated.b .nil (L2N.passes_call (L2N.takes_of rfl rfl rfl rfl) (fun _ _ _ _ h => h)) (pa_cons (pixT 5) (pa_cons (pv 3) (pa_cons (pe_fld (pv 0) rfl) pa_nil)))) pa_nil))))
        (pss_cons (ps_expr (pe_bm PySem.F.plainAttrs_list PySem.F.slot_list_append PySem.F.type_list_append mt_append (pe_fld (pv 3) rfl) (pa_cons (pe_meth (pv 0) T.Watch.cl T.Watch.truth_of.m Gt (hr.mono (by decide)) T.Watch.truth_of.b .nil pass0 (pa_cons (pv 5) (pa_cons (pv 7) pa_nil))) pa_nil)))
        (pss_one (ps_expr (pe_bm PySem.F.plainAttrs_list PySem.F.slot_list_append PySem.F.type_list_append mt_append (pv 4) (pa_cons (pe_slice sl_list (pv 7) (po_some (pe_un un_neg (pixT 5))) po_none) pa_nil)))))))
      (pss_cons (ps_set (i := 8) sc_Watch_step.nd rfl (Or.inl rfl) (pe_call Ge hr rfl T.evaluated.g T.evaluated.F.kp T.evaluated.b .nil (L2N.passes_call (L2N.takes_of rfl rfl rfl rfl) (fun _ _ _ _ h => h)) (pa_cons (pe_fld (pv 0) rfl) (pa_cons (pv 3) (pa_cons (pe_fld (pv 0) rfl) pa_nil)))))
      (pss_cons (ps_fld (pv 0) (pv 4) rfl) (pss_cons (ps_fldaug (pv 0) pe_int in_add) (pss_one (ps_ret (pv 8)))))))), ?_⟩
    -- today
    refine ⟨_, rfl, wd, _, dx, fs, _, rfl, hW.ins, T.Watch.cl, T.Watch.n_lets, hW.f_l, _, rfl, _, rfl, _, rfl, wd, _, dx, fs, _, rfl, hW.ins, T.Watch.cl, T.Watch.n_looking_back, hW.f_b, fun x dx2 fx fdx ne => ?_⟩
    have k0 : Kp [] H (upd (upd H dx2 (.own x)) x (.ins T.Today.C dx2 [])) := Kp.trans (.new fdx) (.new (by rw [upd_ne (Ne.symm ne)]; exact fx))
    refine ⟨x, ld, fd, rd, lb, dx2, rfl, upd_same, fun td kd fs2 H1 k1 ftd fkd ntk hx l1 l2 l3 l4 l5 l6 l7 l8 l9 htd hkd => ⟨rfl, ?_⟩⟩
    have fkd0 : H kd = none := k0.free fkd
    have ftd0 : H td = none := k0.free ftd
    have ka : Kp [] H H1 := Kp.later (p := x) k0 k1 fx
    have xk : x ≠ kd := fun z => by rw [← z, upd_same] at fkd; cases fkd
    let gt : Nat → GT := fun m => ⟨x, kd, ld, fd, rd, lb, td, g, d, xs, m, lf, lr⟩
    have hLets := hW.lets
    have hPrt := hW.prts
    have nld : ld ≠ kd := by obtain ⟨_, h, _⟩ := hLets; exact ne_of_none h fkd0
    have nfd : fd ≠ kd := by obtain ⟨_, h⟩ := hF.fd; exact ne_of_none h fkd0
    have nrd : rd ≠ kd := by obtain ⟨_, h⟩ := hR.fd; exact ne_of_none h fkd0
    have nlb : lb ≠ kd := by obtain ⟨_, h, _⟩ := hPrt; exact ne_of_none h fkd0
    have hXs : ∀ x ∈ xs, Con (lk g.ls) x ∧ dep x ≤ 60 := fun x hx => ⟨(hS.each x hx).2.1.con, (hS.each x hx).2.1.dp⟩
    -- what of it stays whatever is written in the new objects
    have hI : ∀ (m : Nat) (H' : Hp), Kp [] H H' → H' x = some (.ins T.Today.C dx2 fs2) → H' td = some (.lst (gt m).bl) → (flD T).I (gt m) H' := fun m H' kk hx' ht' =>
      ⟨⟨xk, dx2, fs2, hx', l1, l2, l3, l4, l5, l6, l7, l8, l9⟩, ⟨nld, hLets.kp kk (by simp)⟩, ⟨nfd, hF.kp kk (by simp)⟩, ⟨nrd, hR.kp kk (by simp)⟩, ⟨nlb, hPrt.kp kk (by simp), hS.nd, hXs⟩, ntk, ht'⟩
    have hK1 : Kn K (flD T) (gt 0) H1 := ⟨⟨[], hkd, by simp, by simp, fun k v h => by rw [valV_nil] at h; cases h⟩⟩
    have hKm : ∀ (m m' : Nat) (H' : Hp), Kn K (flD T) (gt m) H' → Kn K (flD T) (gt m') H' := fun _ _ _ h => ⟨h.ex⟩
    -- following
    refine ⟨Nat.zero_le _, fun fo ffo => ?_⟩
    have k2 : Kp [] H1 (upd H1 fo (.lst [])) := .new ffo
    have hfo2 : (upd H1 fo (.lst [])) fo = some (.lst []) := upd_same
    have hx2 := k2.to _ _ hx
    have htd2 := k2.to _ _ htd
    have hK2 := hK1.kp k2
    have nfot : td ≠ fo := ne_of_none htd ffo
    have nfox : x ≠ fo := ne_of_none hx ffo
    obtain ⟨kvk, hkk, _⟩ := hK1.ex
    have nfok : fo ≠ kd := (ne_of_none hkk ffo).symm
    have ffo0 : H fo = none := ka.free ffo
    have ka2 := ka.trans k2
    generalize upd H1 fo (.lst []) = H2 at *
    obtain ⟨ps, hps1, hps2⟩ := id hPrt
    have hin2 := ka2.to _ _ hW.ins
    refine ⟨_, rfl, wd, _, dx, fs, _, rfl, hin2, T.Watch.cl, T.Watch.n_looking_back, hW.f_b, _, rfl, wd, _, dx, fs, _, rfl, hin2, T.Watch.cl, T.Watch.n_past, hW.f_p, lb, pa, _, _, rfl, .inl ⟨SqL.of (ka2.to _ _ hps1), SqL.of (ka2.to _ _ hW.pasts), ?_⟩⟩
    have l1 := paired_len hps2
    have l2 := paired_len hW.each
    refine RZ.for_zipL (by rw [List.length_map, List.length_map, l1, l2]) (Pv := fun i σ H' => (∃ y5 y6 y7, σ = [some (.ref wd), some (.ref fd), some (.ref rd), some (.ref x), some (.ref fo), y5, y6, y7, none]) ∧ Kp [] H H' ∧ H' x = some (.ins T.Today.C dx2 fs2) ∧ H' td = some (.lst (gt i).bl) ∧ Kn K (flD T) (gt i) H' ∧
      ∃ us : List Addr, H' fo = some (.lst (us.map V.ref)) ∧ PySem.Paired (fun u y => H' u = some (.lst ((past (mdl g.fct g.rat) (d + 1) y).map V.bl))) us (xs.take i) ∧ ∀ u ∈ us, u ≠ td ∧ u ≠ fo) ⟨⟨_, _, _, rfl⟩, ka2, hx2, htd2, hK2, [], hfo2, .nil, by simp⟩
      (fun i σ H' h => ⟨SqL.of (h.2.1.to _ _ hps1), SqL.of (h.2.1.to _ _ hW.pasts)⟩) ?_ ?_
    · rintro i y z Tp σ H3 hy hz ⟨⟨y5, y6, y7, rfl⟩, k3, hx3, ht3, hK3, us, hfo3, hus, hun⟩ hTp
      rw [List.getElem?_map] at hy hz
      cases q1 : ps[i]? with
      | none => rw [q1] at hy; cases hy
      | some pi =>
      cases q2 : qs[i]? with
      | none => rw [q2] at hz; cases hz
      | some qi =>
      rw [q1] at hy; rw [q2] at hz
      have hy : V.ref pi = y := Option.some.inj hy
      have hz : V.ref qi = z := Option.some.inj hz
      subst hy; subst hz
      obtain ⟨xi, hxi, hat0⟩ := paired_get_l hps2 q1
      obtain ⟨xi', hxi', hqi0⟩ := paired_get_l hW.each q2
      have : xi' = xi := Option.some.inj (hxi'.symm.trans hxi)
      subst this
      obtain ⟨hT, hwf, hok, hdp⟩ := hS.each _ (List.mem_of_getElem? hxi)
      cases xi' with
      | timed o kk c =>
        have hat3 := hat0.kp k3
        have hqi3 := k3.to _ _ hqi0
        have k4 : Kp [] H3 (upd H3 Tp (.tup [V.ref pi, V.ref qi])) := .new hTp
        have hT4 : (upd H3 Tp (.tup [V.ref pi, V.ref qi])) Tp = some (.tup [V.ref pi, V.ref qi]) := upd_same
        have nTp : ∀ {b o}, H3 b = some o → b ≠ Tp := fun h => ne_of_none h hTp
        generalize upd H3 Tp (.tup [V.ref pi, V.ref qi]) = H4 at *
        refine ⟨Tp, _, rfl, SqT.of hT4, rfl, _, _, rfl, _, _, rfl, rfl, ?_⟩
        obtain ⟨ca, h1, h2⟩ := hat3.kp k4
        have hcp : c ∈ parts (.timed o kk c) := by simp [parts]
        obtain ⟨_, hk1, wc⟩ := id hwf.wt
        have kH4 := k3.trans k4
        have hin4 := kH4.to _ _ hW.ins
        refine ⟨_, rfl, _, rfl, pi, _, _, _, rfl, rfl, SqT.of h1, at2, _, rfl, _, rfl, wd, _, dx, fs, _, rfl, hin4, T.Watch.cl, T.Watch.n_days, hW.f_d, ?_⟩
        have hI4 := hI i H4 kH4 (k4.to _ _ hx3) (k4.to _ _ ht3)
        refine ⟨gt i, ca, c, d, true, rfl, h2, hwf.part hcp wc, ⟨rfl, hok.part hcp, fun y hy ty => hS.before i _ c hxi hcp y hy ty⟩, by have := parts_dep hcp; omega, hI4, hK3.kp k4, fun v H5 k5 hK5 hv => ?_, fun cc dd H' hR' => ?_⟩
        rotate_left
        · obtain ⟨k5, n, dy, r1, r2, r3⟩ := hR'
          exact kx cc dd H' (Kp.later (p := kd) kH4 k5 fkd0) ⟨n, dy, r1, r2, r3⟩
        rw [(sem_sort c d true wc).1 rfl] at hv
        have hv : v = .bl (sem (mdl g.fct g.rat) c d).t := hv
        subst hv
        have kH5 : Kp [] H H5 := Kp.later (p := kd) kH4 k5 fkd0
        have nq : qi ≠ kd := ne_of_none hqi0 fkd0
        have hq5 : H5 qi = some (.lst ((past (mdl g.fct g.rat) d (.timed o kk c)).map V.bl)) := k5.keep _ _ (k4.to _ _ hqi3) (not1 nq)
        have hx5 := k5.keep _ _ (k4.to _ _ hx3) (not1 xk)
        have ht5 := k5.keep _ _ (k4.to _ _ ht3) (not1 ntk)
        have hf5 := k5.keep _ _ (k4.to _ _ hfo3) (not1 nfok)
        have nuk : ∀ u ∈ us, u ≠ kd := fun u hu z => by
          obtain ⟨y, _, hy⟩ := paired_get_l hus (List.getElem?_eq_getElem (List.idxOf_lt_length_of_mem hu))
          rw [List.getElem_idxOf] at hy
          obtain ⟨kvs, hkvs, _⟩ := hK3.ex
          rw [z] at hy
          have : H3 kd = some (.dT kvs) := hkvs
          rw [this] at hy; cases hy
        have hus5 : PySem.Paired (fun u y => H5 u = some (.lst ((past (mdl g.fct g.rat) (d + 1) y).map V.bl)) ∧ u ∈ us) us (xs.take i) := by
          have gen : ∀ {vs : List Addr} {ys : List Ex}, PySem.Paired (fun u y => H3 u = some (.lst ((past (mdl g.fct g.rat) (d + 1) y).map V.bl))) vs ys → (∀ u ∈ vs, u ∈ us) → PySem.Paired (fun u y => H5 u = some (.lst ((past (mdl g.fct g.rat) (d + 1) y).map V.bl)) ∧ u ∈ us) vs ys := by
            intro vs ys hp
            induction hp with
            | nil => intro _; exact .nil
            | cons h _ ih => intro hm; exact .cons ⟨k5.keep _ _ (k4.to _ _ h) (not1 (nuk _ (hm _ (by simp)))), hm _ (by simp)⟩ (ih fun u hu => hm u (by simp [hu]))
          exact gen hus fun u hu => hu
        -- [..], the sum
        refine ⟨by show 1 ≤ sizeLine; decide, fun p1 hp1 => ?_⟩
        have k6 : Kp [] H5 (upd H5 p1 (.lst [V.bl (sem (mdl g.fct g.rat) c d).t])) := .new hp1
        have hp6 : (upd H5 p1 (.lst [V.bl (sem (mdl g.fct g.rat) c d).t])) p1 = some (.lst [V.bl (sem (mdl g.fct g.rat) c d).t]) := upd_same
        generalize upd H5 p1 (.lst [V.bl (sem (mdl g.fct g.rat) c d).t]) = H6 at *
        refine ⟨qi, p1, _, _, rfl, rfl, k6.to _ _ hq5, hp6, ?_, fun p2 hp2 => ?_⟩
        · rw [List.length_map, past_len rfl]
          have : min (Ex.timed o kk c).days d + 1 ≤ 1000 := by omega
          exact Nat.le_trans this (by decide)
        rw [show (past (mdl g.fct g.rat) d (.timed o kk c)).map V.bl ++ [V.bl (sem (mdl g.fct g.rat) c d).t] = (told (mdl g.fct g.rat) d kk c).map V.bl by rw [← past_told (o := o), List.map_append]; rfl]
        have k7 : Kp [] H6 (upd H6 p2 (.lst ((told (mdl g.fct g.rat) d kk c).map V.bl))) := .new hp2
        have hp7 : (upd H6 p2 (.lst ((told (mdl g.fct g.rat) d kk c).map V.bl))) p2 = some (.lst ((told (mdl g.fct g.rat) d kk c).map V.bl)) := upd_same
        generalize upd H6 p2 (.lst ((told (mdl g.fct g.rat) d kk c).map V.bl)) = H7 at *
        have k67 := k6.trans k7
        have kH7 := kH5.trans k67
        -- the truth
        refine ⟨_, rfl, x, _, dx2, fs2, _, rfl, k67.to _ _ hx5, T.Today.cl, T.Today.n_truths, l9, .inl ⟨rfl, _, SqL.of (k67.to _ _ ht5)⟩, _, rfl, wd, dx, fs, rfl, kH7.to _ _ hW.ins, hW.f_t, _, rfl, _, rfl, wd, pi, p2, o, kk, d, c, mdl g.fct g.rat, rfl, hat0.kp kH7, hk1, hp7, fun H8 k8 => ?_⟩
        have k58 := k67.trans k8
        have ht8 := k58.to _ _ ht5
        have hbl : (gt (i + 1)).bl = (gt i).bl ++ [V.bl (sem (mdl g.fct g.rat) (.timed o kk c) d).t] := by
          show (xs.take (i + 1)).map _ = (xs.take i).map _ ++ _
          rw [take_succ_of hxi, List.map_append]; rfl
        have lenI : i < 1000001 := by
          have : i < xs.length := by
            rcases Nat.lt_or_ge i xs.length with z | z
            · exact z
            · rw [List.getElem?_eq_none z] at hxi; cases hxi
          have := hS.few
          omega
        refine ⟨td, _, _, rfl, rfl, ht8, ?_, ?_⟩
        · show ((xs.take i).map _).length < sizeLine
          rw [List.length_map, List.length_take]
          exact Nat.lt_of_le_of_lt (show min i xs.length ≤ 1000001 by omega) (by decide)
        rw [← hbl]
        have kH8 := kH5.trans k58
        have k9 : Kp [td] H8 (upd H8 td (.lst (gt (i + 1)).bl)) := .mut (by simp) ht8 (fun xs z => by cases z)
        have ht9 : (upd H8 td (.lst (gt (i + 1)).bl)) td = some (.lst (gt (i + 1)).bl) := upd_same
        generalize upd H8 td (.lst (gt (i + 1)).bl) = H9 at *
        have kH9 : Kp [] H H9 := kH8.news k9 (by simpa using ftd0)
        have hf9 := k9.keep _ _ (k58.to _ _ hf5) (not1 (Ne.symm nfot))
        have ntp2 : p2 ≠ td := fun z => by
          rw [z] at hp2
          have := k6.to _ _ ht5
          rw [hp2] at this; cases this
        have hp9 := k9.keep _ _ (k8.to _ _ hp7) (not1 ntp2)
        have hx9 := k9.keep _ _ (k58.to _ _ hx5) (not1 fun z => by rw [z, ht5] at hx5; cases hx5)
        -- what is kept for tomorrow
        obtain ⟨ca9, h19, _⟩ := hat0.kp kH9
        refine ⟨_, rfl, .inl ⟨rfl, _, SqL.of hf9⟩, _, rfl, _, rfl, pi, _, _, _, rfl, rfl, SqT.of h19, at1, _, rfl, _, rfl, p2, _, rfl, SqL.of hp9, fun p3 hp3 => ?_⟩
        rw [cut_told hk1, past_next (o := o)]
        have k10 : Kp [] H9 (upd H9 p3 (.lst ((past (mdl g.fct g.rat) (d + 1) (.timed o kk c)).map V.bl))) := .new hp3
        have hp10 : (upd H9 p3 (.lst ((past (mdl g.fct g.rat) (d + 1) (.timed o kk c)).map V.bl))) p3 = some (.lst ((past (mdl g.fct g.rat) (d + 1) (.timed o kk c)).map V.bl)) := upd_same
        generalize upd H9 p3 (.lst ((past (mdl g.fct g.rat) (d + 1) (.timed o kk c)).map V.bl)) = H10 at *
        have hf10 := k10.to _ _ hf9
        have n3f : p3 ≠ fo := (ne_of_none hf9 hp3).symm
        have n3t : p3 ≠ td := (ne_of_none ht9 hp3).symm
        refine ⟨fo, _, _, rfl, rfl, hf10, ?_, ?_⟩
        · have := paired_len hus
          rw [List.length_map, this, List.length_take]
          exact Nat.lt_of_le_of_lt (show min i xs.length ≤ 1000001 by omega) (by decide)
        have k11 : Kp [fo] H10 (upd H10 fo (.lst (us.map V.ref ++ [V.ref p3]))) := .mut (by simp) hf10 (fun xs z => by cases z)
        have hf11 : (upd H10 fo (.lst (us.map V.ref ++ [V.ref p3]))) fo = some (.lst ((us ++ [p3]).map V.ref)) := by rw [upd_same, List.map_append]; rfl
        generalize upd H10 fo (.lst (us.map V.ref ++ [V.ref p3])) = H11 at *
        have kH10 := kH9.trans k10
        refine ⟨⟨_, _, _, rfl⟩, kH10.news k11 (by simpa using ffo0), k11.keep _ _ (k10.to _ _ hx9) (not1 nfox), k11.keep _ _ (k10.to _ _ ht9) (not1 nfot), ?_, us ++ [p3], hf11, ?_, ?_⟩
        · refine hKm i (i + 1) _ ?_
          exact (((hK5.kp k58).kps k9 (not1 (Ne.symm ntk))).kp k10).kps k11 (not1 (Ne.symm nfok))
        · rw [take_succ_of hxi]
          refine paired_snoc (F := fun u y => H11 u = some (.lst ((past (mdl g.fct g.rat) (d + 1) y).map V.bl))) (k11.keep _ _ hp10 (not1 n3f)) ?_
          exact paired_imp (fun u y ⟨h, hm⟩ => k11.keep _ _ (k10.to _ _ (k9.keep _ _ (k58.to _ _ h) (not1 (hun u hm).1))) (not1 (hun u hm).2)) hus5
        · intro u hu
          rcases List.mem_append.mp hu with h | h
          · exact hun u h
          · have : u = p3 := by simpa using h
            subst this
            exact ⟨n3t, n3f⟩
      | _ => cases hT
    · rintro σ H3 ⟨⟨y5, y6, y7, rfl⟩, k3, hx3, ht3, hK3, us, hfo3, hus, hun⟩
      rw [List.length_map, l1] at ht3 hK3
      rw [List.length_map, l1, List.take_of_length_le (Nat.le_refl _)] at hus
      have hin3 := k3.to _ _ hW.ins
      have hI3 := hI xs.length H3 k3 hx3 ht3
      refine ⟨_, rfl, wd, _, dx, fs, _, rfl, hin3, T.Watch.cl, T.Watch.n_expression, hW.f_e, _, rfl, _, rfl, wd, _, dx, fs, _, rfl, hin3, T.Watch.cl, T.Watch.n_days, hW.f_d, gt xs.length, a, e, d, s, rfl, hW.at_.kp k3, hS.wf, ⟨rfl, hS.ok, hS.all⟩, hS.dp, hI3, hK3, fun v H5 k5 hK5 hv => ?_, fun cc dd H' hR' => ?_⟩
      rotate_left
      · obtain ⟨k5, n, dy, r1, r2, r3⟩ := hR'
        exact kx cc dd H' (Kp.later (p := kd) k3 k5 fkd0) ⟨n, dy, r1, r2, r3⟩
      have kH5 : Kp [] H H5 := Kp.later (p := kd) k3 k5 fkd0
      have hin5 := kH5.to _ _ hW.ins
      have hfo5 := k5.keep _ _ hfo3 (not1 nfok)
      have nuk : ∀ u y, H3 u = some (.lst y) → u ≠ kd := fun u y hy z => by
        obtain ⟨kvs, hkvs, _⟩ := hK3.ex
        rw [z] at hy
        have : H3 kd = some (.dT kvs) := hkvs
        rw [this] at hy; cases hy
      have hus5 : PySem.Paired (fun u y => H5 u = some (.lst ((past (mdl g.fct g.rat) (d + 1) y).map V.bl))) us xs := paired_imp (fun u y h => k5.keep _ _ h (not1 (nuk _ _ h))) hus
      have hfew := hW.few
      refine ⟨_, rfl, _, rfl, wd, _, dx, fs, rfl, hin5, T.Watch.cl, T.Watch.n_past, by omega, ?_⟩
      refine ⟨_, rfl, wd, _, dx, _, _, rfl, upd_same, T.Watch.cl, T.Watch.n_days, by rw [lookup_putF, if_neg (by decide)]; exact hW.f_d, _, _, rfl, rfl, dx, _, upd_same, ?_, ?_⟩
      · have := length_putF "past" (.ref fo) fs
        omega
      rw [upd_upd]
      have k6 : Kp [wd] H5 (upd H5 wd (.ins T.Watch.C dx (putF "days" (.int ((d : Int) + 1)) (putF "past" (.ref fo) fs)))) := .mut (by simp) hin5 (fun xs z => by cases z)
      have h6 : (upd H5 wd (.ins T.Watch.C dx (putF "days" (.int ((d : Int) + 1)) (putF "past" (.ref fo) fs)))) wd = some (.ins T.Watch.C dx (putF "days" (.int ((d : Int) + 1)) (putF "past" (.ref fo) fs))) := upd_same
      generalize upd H5 wd (.ins T.Watch.C dx (putF "days" (.int ((d : Int) + 1)) (putF "past" (.ref fo) fs))) = H6 at *
      have nw : ∀ b y, H5 b = some (.lst y) → b ≠ wd := fun b y hb z => by rw [z, hin5] at hb; cases hb
      refine ⟨_, rfl, k v H6 (kH5.nil.trans k6) ⟨dx, _, a, ld, lb, fo, us, h6, ?_, ?_, ?_, ?_, ?_, ?_, ?_, ?_, ?_, (hW.at_.kp kH5).kp k6, (hLets.kp kH5 (by simp)).kp k6 (not1 ?_), (hPrt.kp kH5 (by simp)).kp k6 (not1 ?_), k6.keep _ _ hfo5 (not1 (nw _ _ hfo5)), paired_imp (fun u y h => k6.keep _ _ h (not1 (nw _ _ h))) hus5⟩ (hv.kp k6)⟩
      · rw [lookup_putF, if_neg (by decide), lookup_putF, if_neg (by decide)]; exact hW.f_e
      · rw [lookup_putF, if_neg (by decide), lookup_putF, if_neg (by decide)]; exact hW.f_l
      · rw [lookup_putF, if_pos rfl]; rfl
      · rw [lookup_putF, if_neg (by decide), lookup_putF, if_neg (by decide)]; exact hW.f_b
      · rw [lookup_putF, if_neg (by decide), lookup_putF, if_pos rfl]
      · rw [lookup_putF, if_neg (by decide), lookup_putF, if_neg (by decide)]; exact hW.f_k
      · rw [lookup_putF, if_neg (by decide), lookup_putF, if_neg (by decide)]; exact hW.f_t
      · rw [lookup_putF, if_neg (by decide), lookup_putF, if_neg (by decide)]; exact hW.f_s
      · have h1 := length_putF "past" (.ref fo) fs
        have h2 := length_putF "days" (.int ((d : Int) + 1)) (putF "past" (.ref fo) fs)
        omega
      · obtain ⟨kvs, h, _⟩ := hLets
        intro z
        rw [z, hW.ins] at h; cases h
      · intro z
        rw [z, hW.ins] at hps1; cases hps1
end
end KW
set_option maxRecDepth 100000
set_option maxHeartbeats 4000000
/-! list(reversed(a list)) -/
namespace KR
open PySem PySem.Spec PyProof.Rows L2 RT
section
variable {prog : Program} {w : World} {A : Around} {E : Value → Shared → Prop} {s : Shared}
theorem ext_rev {R : Result → Shared → Prop} {it l S : Addr} {items : Array Value} (hh : A.handled = none) (st : s.heap.IsRevIter it l ((items.size : Int) - 1)) (hl : s.heap.IsList l items) (hne : l ≠ it) (hn : items.size ≤ sizeLine) (c0 : Nat)
    (hS : s.heap.get? S = some { cls := .type "list", data := .seq #[] c0 }) (n1 : S ≠ it) (n2 : S ≠ l)
    (hR : ∀ h' tk acc' c', (∀ b o, b ≠ S → b ≠ it → s.heap.get? b = some o → h'.get? b = some o) → h'.get? S = some { cls := .type "list", dict := none, data := .seq acc' c', slots := #[] } →
      ItemsOf (fun i v => items[items.size - 1 - i]? = some v) acc' items.size → R (.ok (.ret .none)) { s with heap := h', toks := tk }) :
    wpAny (model prog w) A.in1 (Builtin.List.listExtendWith (.ref S) (.ref it) .none)
      (fun fin s2 => match fin with | .done f => R (.ok f) s2 | .again c2 => c2.quiet = true ∧ codeAny (model prog w) A c2 R s2) (fun e s2 => R (.error e) s2) s := by
  have W := (Walks.listRev (prog := prog) (w := w) (A := A.in1) hh it l hne items).toS
  have nS : S ∉ [it, l] := by simp only [List.mem_cons, List.not_mem_nil, or_false, not_or]; exact ⟨n1, n2⟩
  have hT := st.typeIs (s := s)
  have h1 : Builtin.List.listSameRef (.ref S) (.ref it) = false := by simp [Builtin.List.listSameRef, n1]
  unfold Builtin.List.listExtendWith
  refine wpAny_bind (wpAny_typeOf hT ?_); rw [if_neg (by rw [h1]; decide)]
  refine wpAny_bind (wpAny_pyIter_revIter st (wpAny_bind (wpAny_holding ?_)))
  unfold Builtin.List.listLengthHint; refine wpAny_bind (wpAny_specialOf hT nolen_lri ?_)
  show wpAny _ A.in1 (specialOf (Value.ref it) (Str.ofString "__length_hint__") >>= _) _ _ s
  refine wpAny_bind (wpAny_specialOf hT hint_lri ?_); generalize hid : ("list_reverseiterator.__length_hint__" : String) = id0
  wp_delta
  rw [show splitId id0 = some ("list_reverseiterator", "__length_hint__") from by rw [← hid]; decide +kernel]
  subst hid; refine wpAny_bind (wpAny_isInstance (b := true) hT (by rw [isSubtype_type]; kernel_rfl) ?_)
  refine wpAny_pure ?_; rw [if_neg (by decide)]
  have e0 : ((items.size : Nat) : Int) - 1 - ((0 : Nat) : Int) = (items.size : Int) - 1 := by rw [Int.natCast_zero, Int.sub_zero]
  refine wpAny_pure ⟨plainId_quiet F.plain_extend_loop _, codeAny_extend_loopS W hn _ nS _ items.size 0 _ _ _ rfl (Nat.zero_le _) ⟨Nat.zero_le _, by rw [e0]; exact st, hl⟩ hS (ItemsOf.nil _) fun s2 acc2 c2 hm hS2 hacc => ?_⟩
  rw [Moved.eq_with hm]
  refine hR s2.heap s2.toks acc2 c2 (fun b o hb hb2 e => hm.heap b o (fun hmem => ?_) e) hS2 hacc
  rcases List.mem_cons.mp hmem with q | q
  · exact hb q
  · exact hb2 (List.mem_singleton.mp q)
theorem list_of_rev {it l : Addr} {items : Array Value} {Q : Value → Shared → Prop} (hh : A.handled = none) (st : s.heap.IsRevIter it l ((items.size : Int) - 1)) (hl : s.heap.IsList l items) (hne : l ≠ it) (hn : items.size ≤ sizeLine)
    (hQ : ∀ h' tk acc' c', (∀ b o, b ≠ it → s.heap.get? b = some o → h'.get? b = some o) → h'.get? s.heap.objs.size = some { cls := .type "list", dict := none, data := .seq acc' c', slots := #[] } →
      ItemsOf (fun i v => items[items.size - 1 - i]? = some v) acc' items.size → Q (.ref s.heap.objs.size) { s with heap := h', toks := tk }) : wpAny (model prog w) A (call (.type "list") [.ref it]) Q E s := by
  refine callType_codes (Q₁ := fun o1 s1 => o1 = .ref s.heap.objs.size ∧ s1 = { s with heap := s.heap.push { cls := .type "list", data := .seq #[] } }) F.called_list (F.typeCall_list_1 _) F.entry_list_init (code_list_new _ ⟨rfl, rfl⟩) fun o1 s1 h1 => ?_
  obtain ⟨rfl, rfl⟩ := h1
  have hS : (s.heap.push { cls := .type "list", data := .seq #[] }).get? s.heap.objs.size = some { cls := .type "list", data := .seq #[] } := Heap.get?_push_size _ rfl
  refine ⟨⟨_, hS, rfl⟩, F.args_list_init_2 _ _, ?_⟩
  obtain ⟨oi, hoi, _⟩ := id st
  obtain ⟨ol, hol, _⟩ := id hl
  have n1 : s.heap.objs.size ≠ it := Nat.ne_of_gt (Heap.lt_size hoi)
  have n2 : s.heap.objs.size ≠ l := Nat.ne_of_gt (Heap.lt_size hol)
  show wpAny _ A.in1.in1 (do let old ← Builtin.List.listItems (.ref s.heap.objs.size); Builtin.List.listUpdate (.ref s.heap.objs.size) (fun _ => #[]); letGo old.toList.reverse; Builtin.List.listExtendWith (.ref s.heap.objs.size) (.ref it) .none) _ _ _
  refine wpAny_bind ?_; unfold Builtin.List.listItems
  refine wpAny_bind (wpAny_seqItems hS rfl (wpAny_pure ?_))
  show wpAny _ A.in1.in1 (updateSeq s.heap.objs.size (fun _ => #[]) >>= fun _ => letGo (#[] : Array Value).toList.reverse >>= fun _ => Builtin.List.listExtendWith (.ref s.heap.objs.size) (.ref it) .none) _ _ _
  refine wpAny_bind (wpAny_updateSeq hS rfl ?_)
  have hS2 := Heap.get?_update_self (Obj.mapSeq (fun _ => (#[] : Array Value))) hS rfl
  have oth : ∀ b o, b ≠ s.heap.objs.size → s.heap.get? b = some o → ((s.heap.push { cls := .type "list", data := .seq #[] }).update s.heap.objs.size (Obj.mapSeq (fun _ => (#[] : Array Value)))).get? b = some o :=
    fun b o hb e => (Heap.get?_update_other _ _ (Ne.symm hb)).trans (Heap.get?_push_of_some _ e)
  refine wpAny_bind (wpAny_letGo (ext_rev (A := A.in1) hh (st.at fun o e => oth it o (Ne.symm n1) e) (hl.at fun o e => oth l o (Ne.symm n2) e) hne hn _ hS2 n1 n2 fun h' tk acc2 c2 hk hS3 hacc => ?_))
  exact ⟨rfl, hQ h' tk acc2 c2 (fun b o hb e => hk b o (Nat.ne_of_lt (Heap.lt_size e)) hb (oth b o (Nat.ne_of_lt (Heap.lt_size e)) e)) hS3 hacc⟩
end
/-- list(reversed(x)), x a list: a new list -/
def tListRev (K : PySem.W.Frag) (te : TE) : TE := fun σ H Q => te σ H fun v H1 => ∃ (a : Addr) (xs : List V), v = .ref a ∧ SqL K H1 a xs ∧ ∀ q, H1 q = none → Q (.ref q) (upd H1 q (.lst xs.reverse))
theorem pe_listRev {X : Cx} {e : Expr} {te : TE} {p p2 pos pos2 : Pos} (hc : X.calm = true) (hg : Gl X "list") (hm : X.mg "list" = none) (hg2 : Gl X "reversed") (hm2 : X.mg "reversed" = none) (he : PE X e te)
    (hs : starEach [e] X.env = (false, eval e X.env) :: starEach [] X.env := by rfl)
    (hs2 : starEach [.Call (.Name "reversed" p2) [e] [] pos2] X.env = (false, eval (.Call (.Name "reversed" p2) [e] [] pos2) X.env) :: starEach [] X.env := by rfl) :
    PE X (.Call (.Name "list" p) [.Call (.Name "reversed" p2) [e] [] pos2] [] pos) (tListRev X.K te) := by
  refine ⟨fun pins s σ H Q I h => ?_⟩
  refine Call_ (ld_blt I hg hm boot_list (PyProof.Rows.callWith_type1 (args_cons (Call_ (ld_blt I hg2 hm2 PyProof.Rows.boot_reversed (PyProof.Rows.callWith_type1 (args_cons (thn (he.run pins s σ H _ I h) fun u s1 ⟨v, H1, I1, r1, q1⟩ => args_nil ?_) hs) hs rfl))) hs2) hs2 rfl))
  obtain ⟨a, xs, ev, hq, q⟩ := q1
  subst ev; obtain rfl : u = Value.ref a := r1
  obtain ⟨its, rv, p', hz⟩ := I1.list hq
  refine call_reversed_list p'.isList (args_nil ?_)
  have k0 : ∀ b o, s1.heap.get? b = some o → (s1.heap.push (revObj a ((its.toArray.size : Int) - 1))).get? b = some o := fun b o e => Heap.get?_push_of_some _ e
  have I2 : Inv X pins σ H1 { s1 with heap := s1.heap.push (revObj a ((its.toArray.size : Int) - 1)) } := I1.kept (t' := s1.toks) k0
  obtain ⟨f0, f1, f2, f3, f4, f5⟩ := I1.fpOk (H' := H1) (b := s1.heap.objs.size) (Nat.le_refl _) (I1.hok.fresh (Nat.le_refl _))
  have hl := p'.isList
  obtain ⟨ol, hol, _⟩ := id hl
  have hne : a ≠ s1.heap.objs.size := Nat.ne_of_lt (Heap.lt_size hol)
  have hn : its.toArray.size ≤ sizeLine := by rw [List.size_toArray, ← rv.length]; exact hz
  refine list_of_rev (s := { s1 with heap := s1.heap.push (revObj a ((its.toArray.size : Int) - 1)) }) (I1.ok.hd hc) ⟨_, Heap.get?_push_size _ rfl, rfl, rfl⟩ (hl.push _) hne hn fun h' tk acc c' hk hS hi => ?_
  have I3 : Inv X pins σ H1 { s1 with heap := h', toks := tk } := I2.turned (t' := tk) (fun b o hb e => hk b o hb e) f0 f1 f3 f4 f5
  generalize hN : (s1.heap.push (revObj a ((its.toArray.size : Int) - 1))).objs.size = N at *
  have hfree : H1 N = none := I2.hok.fresh (Nat.le_of_eq hN)
  have low : ∀ b o, (s1.heap.push (revObj a ((its.toArray.size : Int) - 1))).get? b = some o → b ≠ N := fun b o e z => by have q := Heap.lt_size e; rw [z, hN] at q; exact Nat.lt_irrefl _ q
  have nt : ∀ b, H1 b ≠ none → b ≠ N := fun b hb z => hb (z ▸ hfree)
  have un : Un (frs X.stack) [s1.heap.objs.size] H1 (upd H1 N (.lst xs.reverse)) (s1.heap.push (revObj a ((its.toArray.size : Int) - 1))) h' :=
    ⟨fun b o e _ _ hx => hk b o (by simpa using hx) e, fun b o e _ _ hx => ⟨o.slots, hk b o (by simpa using hx) e⟩, fun b o e hb _ => by rw [upd_ne (low b o e)]; exact hb, fun b o e hx => ⟨o, hk b o (by simpa using hx) e⟩,
      fun b ys e => by rw [upd_ne (nt b (by rw [e]; simp))]; exact e, fun b o u e => by rw [upd_ne (nt b (by rw [e]; simp))]; exact e, fun b ps e => ⟨#[], by rw [upd_ne (nt b (by rw [e]; simp))]; simpa using e⟩⟩
  have ok4 : HOk X.prog X.w (upd H1 N (.lst xs.reverse)) h' := fun b o e => by
    by_cases hb : b = N
    · subst hb; rw [upd_same] at e; cases e
      exact ⟨by rw [List.length_reverse]; exact hz, acc.toList, c', vals_rev rv hi, by rw [Array.toArray_toList]; exact hS⟩
    · rw [upd_ne hb] at e
      exact (I3.hok b o e).stay (fun _ _ _ e => e) (fun c e => by rw [upd_ne (nt c (by rw [e]; simp))]; exact e) (fun c ys e => by rw [upd_ne (nt c (by rw [e]; simp))]; exact e)
  have I4 : Inv X pins σ (upd H1 N (.lst xs.reverse)) { s1 with heap := h', toks := tk } := I2.call (t' := tk) (g' := s1.gens) (d' := s1.drawn) un ok4 I2.bare fun b hb => by
    rw [List.mem_singleton.mp hb]; exact ⟨f3, f1, f4, f5⟩
  exact ⟨.ref N, _, I4, rfl, q _ hfree⟩
end KR
set_option maxRecDepth 100000
set_option maxHeartbeats 4000000
/-! the law's draws -/
namespace KW
open PySem L2
/-- a list of ints -/
def Dr (H : Hp) (dl : Addr) : Prop := ∃ ds : List Int, H dl = some (.lst (ds.map V.int))
theorem Dr.kp {S : List Addr} {H H' : Hp} {dl : Addr} (h : Dr H dl) (k : Kp S H H') (hs : dl ∉ S) : Dr H' dl := by
  obtain ⟨ds, h⟩ := h
  exact ⟨ds, k.keep _ _ h hs⟩
def DrN (H : Hp) (dl : Addr) (n : Nat) : Prop := ∃ ds : List Int, H dl = some (.lst (ds.map V.int)) ∧ ds.length ≤ n
theorem DrN.push {H : Hp} {p : Addr} {n : Nat} (h : DrN H p n) (hn : n < 1000000) : ∃ xs, H p = some (.lst xs) ∧ xs.length < sizeLine ∧ ∀ z : Int, DrN (upd H p (.lst (xs ++ [V.int z]))) p (n + 1) ∧ Kp [p] H (upd H p (.lst (xs ++ [V.int z]))) := by
  obtain ⟨ds, h1, h2⟩ := h
  refine ⟨_, h1, ?_, fun z => ⟨⟨ds ++ [z], by rw [upd_same, List.map_append]; rfl, by rw [List.length_append]; exact Nat.succ_le_succ h2⟩, .mut (by simp) h1 (fun xs z => by cases z)⟩⟩
  rw [List.length_map]
  exact Nat.lt_of_le_of_lt (show ds.length ≤ 1000000 by omega) (by decide)
theorem sqL_kp {K : PySem.W.Frag} {S : List Addr} {H H' : Hp} {a : Addr} {xs : List V} (h : SqL K H a xs) (k : Kp S H H') (hs : a ∉ S) : SqL K H' a xs := by
  rcases h with (h | ⟨o, h⟩) | h
  · exact .inl (.inl (k.keep _ _ h hs))
  · exact .inl (.inr ⟨o, k.keep _ _ h hs⟩)
  · exact .inr h
theorem pos_lit {z : Int} (h : (0 : Int) < z) : 0 < z := h
section
variable {P : Program} {w : World} {K : PySem.W.Frag} {mg : Str → Option Value} {base : Heap}
def spTake : Sp := fun vs H Q _ => ∃ (dl : Addr) (b : Int), vs = [.ref dl, .int b] ∧ 0 < b ∧ Dr H dl ∧ ∀ r H', 0 ≤ r → r < b → Kp [dl] H H' → Dr H' dl → Q (.int r) H'
theorem ok_take (T : Tx K mg w) : FnOk P w K mg base CX0 1 T.law_take.a T.law_take.d p_law_take spTake := by
  refine T.law_take.F.ok sc_law_take (fun vs H Q E h => ?_) (fun cdv A outer s H vs Q E hr h => ?_)
  · obtain ⟨dl, b, rfl, _⟩ := h
    rfl
  · obtain ⟨dl, b, rfl, hb, ⟨ds, hD⟩, k⟩ := h
    refine ⟨_, pss_cons (ps_if (pt_cmpR op_eq (pe_callB call_len_seq (by rfl) T.z_len (by rfl) (pa_cons (pv 0) pa_nil)) pe_int (nomark _)) (pss_one (ps_ret pe_int)) pss_nil)
      (pss_one (ps_ret (pe_op op_mod (pe_callTy call_int1 (by rfl) T.z_int (by decide +kernel) (pa_cons (pe_bm0 PySem.F.plainAttrs_list PySem.F.slot_list_pop PySem.F.type_list_pop mt_pop (pv 0)) pa_nil)) (pv 1)))), ?_⟩
    refine ⟨_, rfl, dl, _, rfl, .inl (SqL.of hD), rfl, _, rfl, ?_⟩
    rw [List.length_map]
    by_cases hn : ds = []
    · subst hn
      refine ifT (by rfl) ?_
      exact k 0 H (Int.le_refl _) hb .refl ⟨_, hD⟩
    · have hl : 0 < ds.length := List.length_pos_iff.mpr hn
      refine ifF (decide_eq_false fun z => by injection z with z; omega) ?_
      have e : (ds.map V.int)[(ds.map V.int).length - 1]? = some (V.int (ds.getLast hn)) := by
        rw [List.length_map, List.getElem?_map, List.getElem?_eq_getElem (show ds.length - 1 < ds.length by omega), List.getLast_eq_getElem]; rfl
      refine ⟨_, rfl, .inl ⟨rfl, _, SqL.of hD⟩, dl, _, _, rfl, rfl, hD, e, .inl ⟨_, rfl, _, rfl, _, _, rfl, rfl, hb, ?_⟩⟩
      refine k _ _ (Int.emod_nonneg _ (by omega)) (Int.emod_lt_of_pos _ hb) (.mut (by simp) hD (fun xs z => by cases z)) ⟨ds.dropLast, ?_⟩
      rw [upd_same, List.map_dropLast]
/-- the script is a list of ints that lies in H -/
def spDraws (K : PySem.W.Frag) : Sp := fun vs H Q _ => ∃ (a : Addr) (ns : List Int), vs = [.ref a] ∧ SqL K H a (ns.map V.int) ∧ ns.length ≤ 1000 ∧ ∀ p H', Kp [] H H' → H p = none → Dr H' p → Q (.ref p) H'
theorem ok_draws (T : Tx K mg w) : FnOk P w K mg base CX0 1 T.law_draws.a T.law_draws.d p_law_draws (spDraws K) := by
  refine T.law_draws.F.ok sc_law_draws (fun vs H Q E h => ?_) (fun cdv A outer s H vs Q E hr h => ?_)
  · obtain ⟨a, ns, rfl, _⟩ := h
    rfl
  · obtain ⟨a, ns, rfl, hs, hl, k⟩ := h
    refine ⟨_, pss_cons (ps_set (i := 1) sc_law_draws.nd rfl (Or.inl rfl) (pe_lst pa_nil))
      (pss_cons (ps_for PySem.PassesOwn.never rfl (pi_list (pv 0)) (pg_name (i := 2) sc_law_draws.nd rfl (Or.inl rfl))
        (pss_cons (ps_set (i := 3) sc_law_draws.nd rfl (Or.inl rfl) (pe_callB call_abs (by rfl) T.z_abs (by rfl) (pa_cons (pv 2) pa_nil)))
        (pss_cons (ps_if (pt_cmpR op_lt (pv 3) (pe_op op_pow pe_int pe_int) (nomark _))
          (pss_cons (ps_set (i := 4) sc_law_draws.nd rfl (Or.inl rfl) (pe_op op_mod (pe_callTy call_int1 (by rfl) T.z_int (by decide +kernel) (pa_cons (pe_op op_add (pe_op op_mul (pv 3) pe_int) pe_int) pa_nil)) pe_int))
          (pss_cons (ps_expr (pe_bm PySem.F.plainAttrs_list PySem.F.slot_list_append PySem.F.type_list_append mt_append (pv 1) (pa_cons (pe_op op_mod (pe_callTy call_int1 (by rfl) T.z_int (by decide +kernel) (pa_cons (pe_op op_add (pe_op op_mul (pv 4) pe_int) (pv 3)) pa_nil)) pe_int) pa_nil)))
          (pss_cons (ps_expr (pe_bm PySem.F.plainAttrs_list PySem.F.slot_list_append PySem.F.type_list_append mt_append (pv 1) (pa_cons (pe_op op_mod (pe_callTy call_int1 (by rfl) T.z_int (by decide +kernel) (pa_cons (pe_op op_add (pv 4) (pe_op op_fdiv (pv 3) pe_int)) pa_nil)) pe_int) pa_nil)))
          (pss_one (ps_set (i := 3) sc_law_draws.nd rfl (Or.inl rfl) pe_int))))) pss_nil)
        (pss_one (ps_for PySem.PassesOwn.never rfl (pi_range1 (by rfl) T.z_range (pa_cons pe_int pa_nil)) (pg_name (i := 5) sc_law_draws.nd rfl (Or.inl rfl))
          (pss_one (ps_if (pt_cmpR op_gt (pv 3) pe_int (nomark _))
            (pss_cons (ps_expr (pe_bm PySem.F.plainAttrs_list PySem.F.slot_list_append PySem.F.type_list_append mt_append (pv 1) (pa_cons (pe_op op_mod (pe_callTy call_int1 (by rfl) T.z_int (by decide +kernel) (pa_cons (pv 3) pa_nil)) pe_int) pa_nil)))
            (pss_one (ps_set (i := 3) sc_law_draws.nd rfl (Or.inl rfl) (pe_op op_fdiv (pv 3) pe_int)))) pss_nil)))))))
      (pss_cons (ps_set (i := 6) sc_law_draws.nd rfl (Or.inl rfl) pe_int)
      (pss_cons (ps_if (pt_cmpR op_gt (pe_callB call_len_seq (by rfl) T.z_len (by rfl) (pa_cons (pv 0) pa_nil)) pe_int (nomark _))
        (pss_one (ps_set (i := 6) sc_law_draws.nd rfl (Or.inl rfl) (pe_op op_add pe_int (pe_callB call_abs (by rfl) T.z_abs (by rfl) (pa_cons (pe_ix ix_list (pv 0) pe_int (fun _ _ => rfl)) pa_nil))))) pss_nil)
      (pss_cons (ps_for PySem.PassesOwn.never rfl (pi_range1 (by rfl) T.z_range (pa_cons pe_int pa_nil)) (pg_name (i := 5) sc_law_draws.nd rfl (Or.inl rfl))
        (pss_cons (ps_set (i := 6) sc_law_draws.nd rfl (Or.inl rfl) (pe_op op_mod (pe_callTy call_int1 (by rfl) T.z_int (by decide +kernel) (pa_cons (pe_op op_add (pe_op op_mul (pv 6) pe_int) pe_int) pa_nil)) pe_int))
        (pss_one (ps_expr (pe_bm PySem.F.plainAttrs_list PySem.F.slot_list_append PySem.F.type_list_append mt_append (pv 1) (pa_cons (pe_op op_fdiv (pv 6) pe_int) pa_nil))))))
      (pss_one (ps_ret (KR.pe_listRev rfl (by rfl) T.z_list (by rfl) T.z_reversed (pv 1)))))))), ?_⟩
    refine ⟨Nat.zero_le _, fun p hp => ?_⟩
    have k0 : Kp [] H (upd H p (.lst [])) := .new hp
    have hd0 : DrN (upd H p (.lst [])) p 0 := ⟨[], upd_same, Nat.le_refl _⟩
    generalize upd H p (.lst []) = H0 at *
    have nS : ∀ s ∈ [p], H s = none := fun s h => by rw [List.mem_singleton.mp h]; exact hp
    have lst : ∀ {H' n}, DrN H' p n → ∃ xs, H' p = some (.lst xs) := fun ⟨ds, h, _⟩ => ⟨_, h⟩
    refine ⟨_, rfl, a, rfl, ⟨_, sqL_kp hs k0 (by simp)⟩, ?_⟩
    refine for_list (xs := ns.map V.int) (Pv := fun i σ H' => (∃ y2 y3 y4 y5, σ = [some (.ref a), some (.ref p), y2, y3, y4, y5, none]) ∧ Kp [] H H' ∧ DrN H' p (62 * i)) ⟨⟨_, _, _, _, rfl⟩, k0, hd0⟩ (fun i σ H' _ h => sqL_kp hs h.2.1 (by simp)) ?_ ?_
    · rintro i x σ H1 hx ⟨⟨y2, y3, y4, y5, rfl⟩, k1, hd1⟩
      rw [List.getElem?_map] at hx
      have il : i < ns.length := by
        rcases Nat.lt_or_ge i ns.length with z | z
        · exact z
        · rw [List.getElem?_eq_none z] at hx; cases hx
      rw [List.getElem?_eq_getElem il] at hx
      have hx : V.int ns[i] = x := Option.some.inj hx
      subst hx
      refine ⟨_, rfl, _, rfl, ?_⟩
      generalize (if ns[i] < 0 then -ns[i] else ns[i]) = z
      -- the inner loop
      have inner : ∀ (z : Int) (y4 y5 : Option V) (H2 : Hp), Kp [] H H2 → DrN H2 p (62 * i + 2) → tFor (iRng1 (tCons (tC (.int 60)) tNil)) (gName 5) (tIfS (tTest (tOp (rI0 fun i j => .bl (decide (j < i))) (tVar 3) (tC (.int 0)))) (tSeq (tDrop (tBM K "list" rAppend (tVar 1) (tCons (tOp (rI (fun _ j => 0 < j) fun i j => .int (i % j)) (tCB (fun xs H Q => (∃ i, xs = [.int i] ∧ Q (.int i) H) ∨ ∃ k, xs = [.bl k] ∧ Q (.int (if k then 1 else 0)) H) (tCons (tVar 3) tNil)) (tC (.int 997))) tNil))) (tAsg (tOp (rI CDiv fun i j => .int (i / j)) (tVar 3) (tC (.int 997))) (gName 3))) tNext)
          { nx := fun σ H' => (∃ y2 y3 y4 y5, σ = [some (.ref a), some (.ref p), y2, y3, y4, y5, none]) ∧ Kp [] H H' ∧ DrN H' p (62 * (i + 1)), rt := Q } [some (.ref a), some (.ref p), some (.int ns[i]), some (.int z), y4, y5, none] H2 := by
        intro z y4 y5 H2 k2 hd2
        refine ⟨60, rfl, by decide, by decide, ?_⟩
        refine for_range (Pv := fun j σ H' => (∃ n y4 y5, σ = [some (.ref a), some (.ref p), some (.int ns[i]), some (.int n), y4, y5, none]) ∧ Kp [] H H' ∧ DrN H' p (62 * i + 2 + j)) ⟨⟨_, _, _, rfl⟩, k2, hd2⟩ ?_ ?_
        · rintro j σ H3 hj ⟨⟨n, y4, y5, rfl⟩, k3, hd3⟩
          refine ⟨_, rfl, _, _, rfl, rfl, _, rfl, ?_⟩
          have hj : j < 60 := hj
          refine ite2 (fun _ => ?_) (fun _ => ?_)
          · obtain ⟨xs, e1, e2, e3⟩ := hd3.push (by omega)
            obtain ⟨e4, e5⟩ := e3 (n % 997)
            refine ⟨_, rfl, .inl ⟨rfl, _, SqL.of e1⟩, _, rfl, .inl ⟨_, rfl, _, _, rfl, rfl, pos_lit (by decide), p, xs, _, rfl, rfl, e1, e2, ?_⟩⟩
            exact ⟨_, rfl, _, _, rfl, rfl, ⟨by decide, by decide⟩, ⟨_, _, _, rfl⟩, k3.news e5 nS, e4⟩
          · exact ⟨⟨_, _, _, rfl⟩, k3, by obtain ⟨ds, h1, h2⟩ := hd3; exact ⟨ds, h1, by omega⟩⟩
        · rintro σ H3 ⟨⟨n, y4, y5, rfl⟩, k3, ds, h1, h2⟩
          have h2 : ds.length ≤ 62 * i + 2 + 60 := h2
          exact ⟨⟨_, _, _, _, rfl⟩, k3, ds, h1, by omega⟩
      refine ⟨_, rfl, _, _, rfl, rfl, ⟨by decide, by decide, by decide⟩, _, _, rfl, rfl, _, rfl, ?_⟩
      refine ite2 (fun _ => ?_) (fun _ => ?_)
      · refine ⟨_, rfl, _, _, rfl, rfl, .inr ⟨by decide, by decide⟩, _, _, rfl, rfl, .inl ⟨_, rfl, _, _, rfl, rfl, pos_lit (by decide), ?_⟩⟩
        obtain ⟨xs, e1, e2, e3⟩ := hd1.push (by omega)
        refine ⟨_, rfl, .inl ⟨rfl, _, SqL.of e1⟩, _, rfl, _, _, rfl, rfl, .inr ⟨by decide, by decide⟩, _, rfl, _, _, rfl, rfl, .inl ⟨_, rfl, _, _, rfl, rfl, pos_lit (by decide), p, xs, _, rfl, rfl, e1, e2, ?_⟩⟩
        obtain ⟨e4, e5⟩ := e3 (((z * 48271 + 11) % 2147483647 * 69621 + z) % 2147483629)
        generalize upd H1 p (.lst (xs ++ [V.int (((z * 48271 + 11) % 2147483647 * 69621 + z) % 2147483629)])) = H2 at *
        obtain ⟨xs2, g1, g2, g3⟩ := e4.push (by omega)
        refine ⟨_, rfl, .inl ⟨rfl, _, SqL.of g1⟩, _, rfl, _, rfl, _, _, rfl, rfl, ⟨by decide, by decide⟩, _, _, rfl, rfl, .inl ⟨_, rfl, _, _, rfl, rfl, pos_lit (by decide), p, xs2, _, rfl, rfl, g1, g2, ?_⟩⟩
        obtain ⟨g4, g5⟩ := g3 (((z * 48271 + 11) % 2147483647 + z / 7) % 1000003)
        exact inner _ _ _ _ ((k1.news e5 nS).news g5 nS) g4
      · obtain ⟨ds, h1, h2⟩ := hd1
        exact inner _ _ _ _ k1 ⟨ds, h1, by omega⟩
    · rintro σ H1 ⟨⟨y2, y3, y4, y5, rfl⟩, k1, hd1⟩
      rw [List.length_map] at hd1
      -- the numbers behind
      have last : ∀ (z : Int) (H2 : Hp), Kp [] H H2 → DrN H2 p (62 * ns.length) → tSeq (tFor (iRng1 (tCons (tC (.int 60)) tNil)) (gName 5) (tSeq (tAsg (tOp (rI (fun _ j => 0 < j) fun i j => .int (i % j)) (tCB (fun xs H Q => (∃ i, xs = [.int i] ∧ Q (.int i) H) ∨ ∃ k, xs = [.bl k] ∧ Q (.int (if k then 1 else 0)) H) (tCons (tOp (rI0 fun i j => .int (i + j)) (tOp (rI CMul fun i j => .int (i * j)) (tVar 6) (tC (.int 48271))) (tC (.int 69621))) tNil)) (tC (.int 2147483647))) (gName 6))
          (tDrop (tBM K "list" rAppend (tVar 1) (tCons (tOp (rI CDiv fun i j => .int (i / j)) (tVar 6) (tC (.int 5))) tNil))))) (tRet (KR.tListRev K (tVar 1))) { nx := fun _ H' => Q .non H', rt := Q } [some (.ref a), some (.ref p), y2, y3, y4, y5, some (.int z)] H2 := by
        intro z H2 k2 hd2
        refine ⟨60, rfl, by decide, by decide, ?_⟩
        refine for_range (Pv := fun j σ H' => (∃ n y5, σ = [some (.ref a), some (.ref p), y2, y3, y4, y5, some (.int n)]) ∧ Kp [] H H' ∧ DrN H' p (62 * ns.length + j)) ⟨⟨_, _, rfl⟩, k2, hd2⟩ ?_ ?_
        · rintro j σ H3 hj ⟨⟨n, y5, rfl⟩, k3, hd3⟩
          have hj : j < 60 := hj
          obtain ⟨xs, e1, e2, e3⟩ := hd3.push (by omega)
          refine ⟨_, rfl, _, _, rfl, rfl, .inr ⟨by decide, by decide⟩, _, _, rfl, rfl, .inl ⟨_, rfl, _, _, rfl, rfl, pos_lit (by decide), ?_⟩⟩
          refine ⟨_, rfl, .inl ⟨rfl, _, SqL.of e1⟩, _, rfl, _, _, rfl, rfl, ⟨by decide, by decide⟩, p, xs, _, rfl, rfl, e1, e2, ?_⟩
          obtain ⟨e4, e5⟩ := e3 ((n * 48271 + 69621) % 2147483647 / 5)
          exact ⟨⟨_, _, rfl⟩, k3.news e5 nS, e4⟩
        · rintro σ H3 ⟨⟨n, y5, rfl⟩, k3, ds, h1, h2⟩
          refine ⟨_, rfl, p, _, rfl, SqL.of h1, fun q hq => ?_⟩
          exact k q _ (k3.trans (.new hq)) (k3.free hq) ⟨ds.reverse, by rw [upd_same, List.map_reverse]⟩
      refine ⟨_, rfl, a, _, rfl, .inl (sqL_kp hs k1 (by simp)), _, _, rfl, rfl, _, rfl, ?_⟩
      refine ite2 (fun q => ?_) (fun q => ?_)
      · have q : (0 : Int) < ((ns.map V.int).length : Int) := of_decide_eq_true q
        rw [List.length_map] at q
        have e : atI (ns.map V.int) 0 = some (V.int (ns[0]'(by omega))) := atI_nat (j := 0) (by rw [List.getElem?_map, List.getElem?_eq_getElem (by omega)]; rfl)
        refine ⟨_, rfl, a, _, _, _, rfl, rfl, sqL_kp hs k1 (by simp), e, _, rfl, _, _, rfl, rfl, ?_⟩
        exact last _ H1 k1 hd1
      · exact last _ H1 k1 hd1
end
end KW
set_option maxRecDepth 100000
set_option maxHeartbeats 4000000
/-! keys, names -/
namespace KW
open PySem L2
def keyW1 : Str := "bond by units face from to every months count adjust record rank let coupon promise must grace cross call"
def keyW2 : Str := " at percent if then else or and not true false fact rate min max ever always before"
def keyL : List Str := PySem.Txt.split (keyW1 ++ keyW2) " "
theorem keys_noB : (keyL.all fun y => y.cps.toList.getLast? != some 98) = true := by decide +kernel
def letters : Str := "abcdefghijklmnopqrstuvwxyz"
theorem letters_len : letters.cps.toList.length = 26 := by decide +kernel
theorem letters_small : (letters.cps.toList.all fun c => decide (c < 1114112)) = true := by decide +kernel
theorem letters_b : letters.cps.toList[1]? = some 98 := by decide +kernel
/-- a name -/
def NameOk (x : Str) : Prop := x.cps.toList.length ≤ 20 ∧ ∀ c ∈ x.cps.toList, c < 1114112
theorem NameOk.ok {x : Str} (h : NameOk x) : PyData.strOk x = true := by
  unfold PyData.strOk
  rw [← Array.all_toList, List.all_eq_true]
  intro c hc
  exact decide_eq_true (h.2 c hc)
theorem str_ext {a b : Str} (h : a.cps.toList = b.cps.toList) : a = b := by
  cases a; cases b
  congr 1
  exact Array.toList_inj.mp h
theorem app_cps (a : Str) (c : Nat) : (a ++ (⟨#[c]⟩ : Str)).cps.toList = a.cps.toList ++ [c] := by
  show (a.cps ++ #[c]).toList = _
  simp
theorem str_len (a : Str) : a.length = a.cps.toList.length := by
  show a.cps.size = _
  simp
theorem inV_str {x : Str} {xs : List Str} : inV (.str x) (xs.map V.str) = true ↔ x ∈ xs := by
  unfold inV
  rw [List.any_map, List.any_eq_true]
  constructor
  · rintro ⟨y, hy, h⟩
    have h : (y == x) = true := h
    rw [str_beq] at h
    exact of_decide_eq_true h ▸ hy
  · intro h
    refine ⟨x, h, ?_⟩
    show (x == x) = true
    rw [str_beq]; simp
theorem flat_strs (xs : List Str) : (xs.map V.str).all flatV = true := by
  rw [List.all_map, List.all_eq_true]
  intro x _; rfl
section
variable {P : Program} {w : World} {K : PySem.W.Frag} {mg : Str → Option Value} {base : Heap}
theorem ok_keys (T : Tx K mg w) : FnOk P w K mg base CX0 1 T.law_keys.a T.law_keys.d p_law_keys (fun vs H Q _ => vs = [] ∧ ∀ p, H p = none → Q (.ref p) (upd H p (.lst (keyL.map V.str)))) := by
  refine T.law_keys.F.ok sc_law_keys (fun vs H Q E h => ?_) (fun cdv A outer s H vs Q E hr h => ?_)
  · obtain ⟨rfl, _⟩ := h
    rfl
  · obtain ⟨rfl, k⟩ := h
    refine ⟨_, pss_cons (ps_set (i := 0) sc_law_keys.nd rfl (Or.inl rfl) pe_str) (pss_one (ps_ret (pe_split (pe_op op_add_str (pv 0) pe_str) pe_str))), ?_⟩
    refine ⟨_, rfl, _, _, rfl, rfl, by decide +kernel, ⟨_, rfl⟩, _, _, rfl, rfl, by decide +kernel, by decide +kernel, ?_⟩
    exact k
theorem Kp.on {S U : List Addr} {H H1 H2 : Hp} (a : Kp S H H1) (b : Kp U H1 H2) (h : ∀ u ∈ U, u ∈ S ∨ H u = none) : Kp S H H2 :=
  ⟨fun c o e n => b.keep c o (a.keep c o e n) (fun z => by
    rcases h c z with q | q
    · exact n q
    · rw [q] at e; cases e), fun c xs e => b.tup c xs (a.tup c xs e), fun c o e => by
    obtain ⟨o1, h1⟩ := a.there c o e
    exact b.there c o1 h1⟩
theorem letter_at {i : Int} (h0 : 0 ≤ i) (h1 : i < 26) : ∃ c, atI letters.cps.toList i = some c ∧ c < 1114112 := by
  obtain ⟨n, rfl⟩ := Int.eq_ofNat_of_zero_le h0
  have hl : n < letters.cps.toList.length := by rw [letters_len]; omega
  exact ⟨letters.cps.toList[n], atI_nat (List.getElem?_eq_getElem hl), of_decide_eq_true (List.all_eq_true.mp letters_small _ (List.getElem_mem hl))⟩
/-- what names are told -/
def spNames : Sp := fun vs H Q _ => ∃ (dl : Addr) (many : Nat), vs = [.ref dl, .int many] ∧ many ≤ 7 ∧ Dr H dl ∧
  ∀ p ns H', Kp [dl] H H' → Dr H' dl → H p = none → H' p = some (.lst (ns.map V.str)) → ns.length = many → (∀ x ∈ ns, NameOk x) → (∀ a b, ns = [a, b] → a ≠ b) → Q (.ref p) H'
theorem ok_names (T : Tx K mg w) : FnOk P w K mg base CX0 2 T.law_names.a T.law_names.d p_law_names spNames := by
  have Gt : FnOk P w K mg base CX0 1 T.law_take.a T.law_take.d p_law_take spTake := ok_take T
  have Gk : FnOk P w K mg base CX0 1 T.law_keys.a T.law_keys.d p_law_keys _ := ok_keys T
  refine T.law_names.F.ok sc_law_names (fun vs H Q E h => ?_) (fun cdv A outer s H vs Q E hr h => ?_)
  · obtain ⟨dl, many, rfl, _⟩ := h
    rfl
  · obtain ⟨dl, many, rfl, hm, hD, k⟩ := h
    refine ⟨_, pss_cons (ps_set (i := 2) sc_law_names.nd rfl (Or.inl rfl) pe_str) (pss_cons (ps_set (i := 3) sc_law_names.nd rfl (Or.inl rfl) (pe_lst pa_nil))
      (pss_cons (ps_for PySem.PassesOwn.never rfl (pi_range1 (by rfl) T.z_range (pa_cons (pv 1) pa_nil)) (pg_name (i := 4) sc_law_names.nd rfl (Or.inl rfl))
        (pss_cons (ps_set (i := 5) sc_law_names.nd rfl (Or.inl rfl) (pe_ix ix_str (pv 2) (pe_call Gt hr rfl T.law_take.g T.law_take.F.kp T.law_take.b .nil pass0 (pa_cons (pv 0) (pa_cons pe_int pa_nil))) (fun _ _ => rfl)))
        (pss_cons (ps_for PySem.PassesOwn.never rfl (pi_range1 (by rfl) T.z_range (pa_cons (pe_call Gt hr rfl T.law_take.g T.law_take.F.kp T.law_take.b .nil pass0 (pa_cons (pv 0) (pa_cons pe_int pa_nil))) pa_nil)) (pg_name (i := 6) sc_law_names.nd rfl (Or.inl rfl))
          (pss_one (ps_set (i := 5) sc_law_names.nd rfl (Or.inl rfl) (pe_op op_add_str (pv 5) (pe_ix ix_str (pv 2) (pe_call Gt hr rfl T.law_take.g T.law_take.F.kp T.law_take.b .nil pass0 (pa_cons (pv 0) (pa_cons pe_int pa_nil))) (fun _ _ => rfl))))))
        (pss_cons (ps_for PySem.PassesOwn.never rfl (pi_range1 (by rfl) T.z_range (pa_cons pe_int pa_nil)) (pg_name (i := 6) sc_law_names.nd rfl (Or.inl rfl))
          (pss_one (ps_if (PW.pt (pw_or (pt_cmpR op_in_seq (pv 5) (pv 3) (by rfl)) (pw_or1 (pt_cmpR op_in_seq (pv 5) (pe_call0 Gk hr rfl T.law_keys.g T.law_keys.F.kp T.law_keys.b .nil pass0) (by rfl)))))
            (pss_one (ps_set (i := 5) sc_law_names.nd rfl (Or.inl rfl) (pe_op op_add_str (pv 5) (pe_ix ix_str (pv 2) (pv 4) (fun _ _ => rfl))))) pss_nil)))
        (pss_one (ps_expr (pe_bm PySem.F.plainAttrs_list PySem.F.slot_list_append PySem.F.type_list_append mt_append (pv 3) (pa_cons (pv 5) pa_nil))))))))
      (pss_one (ps_ret (pv 3))))), ?_⟩
    refine ⟨Nat.zero_le _, fun p hp => ?_⟩
    have k0 : Kp [dl] H (upd H p (.lst [])) := .new hp
    have hp0 : (upd H p (.lst [])) p = some (.lst []) := upd_same
    have hD0 := hD
    obtain ⟨ds0, hds0⟩ := hD0
    have npd : p ≠ dl := (ne_of_none hds0 hp).symm
    have hD0 : Dr (upd H p (.lst [])) dl := ⟨ds0, by rw [upd_ne (Ne.symm npd)]; exact hds0⟩
    generalize upd H p (.lst []) = H0 at *
    refine ⟨_, rfl, (many : Int), rfl, by omega, by omega, ?_⟩
    have e1 : (many : Int).toNat = many := by omega
    rw [e1]
    have lz : letters.length ≤ sizeLine := by decide +kernel
    refine for_range (Pv := fun i σ H' => (∃ y4 y5 y6, σ = [some (.ref dl), some (.int many), some (.str letters), some (.ref p), y4, y5, y6]) ∧ Kp [dl] H H' ∧ Dr H' dl ∧ ∃ acc : List Str, H' p = some (.lst (acc.map V.str)) ∧ acc.length = i ∧ (∀ x ∈ acc, NameOk x) ∧ ∀ a b, acc = [a, b] → a ≠ b)
      ⟨⟨_, _, _, rfl⟩, k0, hD0, [], hp0, rfl, by simp, by simp⟩ ?_ ?_
    · rintro i σ H1 hi ⟨⟨y4, y5, y6, rfl⟩, k1, hD1, acc, hacc, hl, hok, hdif⟩
      have i7 : i < 7 := by omega
      refine ⟨_, rfl, _, rfl, dl, 26, rfl, by decide, hD1, fun r H2 r0 r1 k2 hD2 => ?_⟩
      obtain ⟨c0, hc0, hc0s⟩ := letter_at r0 r1
      refine ⟨letters, r, c0, rfl, rfl, lz, hc0, ?_⟩
      have hacc2 := k2.keep _ _ hacc (not1 npd)
      refine ⟨_, rfl, dl, 5, rfl, by decide, hD2, fun r5 H3 r50 r51 k3 hD3 => ⟨r5, rfl, by omega, by omega, ?_⟩⟩
      have hacc3 := k3.keep _ _ hacc2 (not1 npd)
      have kk3 := (k1.trans k2).trans k3
      refine for_range (Pv := fun j σ H' => (∃ (x : Str) (y6 : Option V), σ = [some (.ref dl), some (.int many), some (.str letters), some (.ref p), some (.int (0 + i)), some (.str x), y6] ∧ x.cps.toList.length = j + 1 ∧ ∀ c ∈ x.cps.toList, c < 1114112) ∧ Kp [dl] H H' ∧ Dr H' dl ∧ H' p = some (.lst (acc.map V.str)))
        ⟨⟨⟨#[c0]⟩, _, rfl, rfl, fun c hc => (show c = c0 by simpa using hc) ▸ hc0s⟩, kk3, hD3, hacc3⟩ ?_ ?_
      · rintro j σ H4 hj ⟨⟨x, y6, rfl, hx1, hx2⟩, k4, hD4, hacc4⟩
        refine ⟨_, rfl, _, rfl, _, rfl, dl, 26, rfl, by decide, hD4, fun r H5 r0 r1 k5 hD5 => ?_⟩
        obtain ⟨c1, hc1, hc1s⟩ := letter_at r0 r1
        refine ⟨letters, r, c1, rfl, rfl, lz, hc1, x, _, rfl, rfl, ?_, ?_⟩
        · rw [str_len, hx1]
          exact Nat.le_trans (show j + 1 + 1 ≤ 1000 by omega) (by decide)
        · refine ⟨⟨_, _, rfl, by rw [app_cps, List.length_append, hx1]; rfl, fun c hc => ?_⟩, k4.trans k5, hD5, k5.keep _ _ hacc4 (not1 npd)⟩
          rw [app_cps] at hc
          rcases List.mem_append.mp hc with q | q
          · exact hx2 c q
          · have : c = c1 := by simpa using q
            rw [this]; exact hc1s
      · rintro σ H4 ⟨⟨x, y6, rfl, hx1, hx2⟩, k4, hD4, hacc4⟩
        have hx1 : x.cps.toList.length ≤ 6 := by omega
        refine ⟨7, rfl, by decide, by decide, ?_⟩
        obtain ⟨ci, hci, hcis⟩ := letter_at (i := (0 : Int) + (i : Int)) (by omega) (by omega)
        refine for_range (Pv := fun j σ H' => (∃ (y : Str) (y6 : Option V) (m : Nat), σ = [some (.ref dl), some (.int many), some (.str letters), some (.ref p), some (.int (0 + i)), some (.str y), y6] ∧ m ≤ j ∧ y.cps.toList = x.cps.toList ++ List.replicate m ci ∧ (m < j → y ∉ acc ∧ y ∉ keyL) ∧ (2 ≤ m → ∃ z, (z ∈ acc ∨ z ∈ keyL) ∧ z.cps.toList = x.cps.toList ++ [ci])) ∧ Kp [dl] H H' ∧ Dr H' dl ∧ H' p = some (.lst (acc.map V.str)))
          ⟨⟨x, _, 0, rfl, Nat.le_refl _, by simp, fun h => absurd h (Nat.lt_irrefl _), fun h => absurd h (by decide)⟩, k4, hD4, hacc4⟩ ?_ ?_
        · rintro j σ H5 hj ⟨⟨y, y6, m, rfl, hm1, hm2, hm3, hm4⟩, k5, hD5, hacc5⟩
          have hj : j < 7 := hj
          have grow : ∀ (H6 : Hp), Kp [dl] H H6 → Dr H6 dl → H6 p = some (.lst (acc.map V.str)) → (y ∈ acc ∨ y ∈ keyL) → (m = j) → ∃ i1 j1, V.str y = .str i1 ∧ V.str ⟨#[ci]⟩ = .str j1 ∧ i1.length + j1.length ≤ sizeLine ∧ ((∃ (y2 : Str) (y6 : Option V) (m2 : Nat), ([some (.ref dl), some (.int many), some (.str letters), some (.ref p), some (.int (0 + i)), some (.str (i1 ++ j1)), some (.int (0 + j))] : L2.St) = [some (.ref dl), some (.int many), some (.str letters), some (.ref p), some (.int (0 + i)), some (.str y2), y6] ∧ m2 ≤ j + 1 ∧ y2.cps.toList = x.cps.toList ++ List.replicate m2 ci ∧ (m2 < j + 1 → y2 ∉ acc ∧ y2 ∉ keyL) ∧ (2 ≤ m2 → ∃ z, (z ∈ acc ∨ z ∈ keyL) ∧ z.cps.toList = x.cps.toList ++ [ci])) ∧ Kp [dl] H H6 ∧ Dr H6 dl ∧ H6 p = some (.lst (acc.map V.str))) := by
            intro H6 k6 hD6 hacc6 hin hmj
            refine ⟨y, _, rfl, rfl, ?_, ⟨_, _, m + 1, rfl, by omega, ?_, fun h => absurd h (by omega), fun h2 => ?_⟩, k6, hD6, hacc6⟩
            · rw [str_len, hm2, List.length_append, List.length_replicate]
              exact Nat.le_trans (show x.cps.toList.length + m + 1 ≤ 1000 by omega) (by decide)
            · rw [app_cps, hm2, List.append_assoc, ← List.replicate_succ']
            · by_cases h3 : 2 ≤ m
              · exact hm4 h3
              · have : m = 1 := by omega
                subst this
                exact ⟨y, hin, by rw [hm2]; rfl⟩
          have keep : ∀ (H6 : Hp), Kp [dl] H H6 → Dr H6 dl → H6 p = some (.lst (acc.map V.str)) → (y ∉ acc ∧ y ∉ keyL) → ((∃ (y2 : Str) (y6 : Option V) (m2 : Nat), ([some (.ref dl), some (.int many), some (.str letters), some (.ref p), some (.int (0 + i)), some (.str y), some (.int (0 + j))] : L2.St) = [some (.ref dl), some (.int many), some (.str letters), some (.ref p), some (.int (0 + i)), some (.str y2), y6] ∧ m2 ≤ j + 1 ∧ y2.cps.toList = x.cps.toList ++ List.replicate m2 ci ∧ (m2 < j + 1 → y2 ∉ acc ∧ y2 ∉ keyL) ∧ (2 ≤ m2 → ∃ z, (z ∈ acc ∨ z ∈ keyL) ∧ z.cps.toList = x.cps.toList ++ [ci])) ∧ Kp [dl] H H6 ∧ Dr H6 dl ∧ H6 p = some (.lst (acc.map V.str))) :=
            fun H6 k6 hD6 hacc6 hno => ⟨⟨y, _, m, rfl, by omega, hm2, fun _ => hno, hm4⟩, k6, hD6, hacc6⟩
          refine ⟨_, rfl, _, rfl, p, _, rfl, .inl (SqL.of hacc5), rfl, flat_strs acc, _, rfl, ?_⟩
          refine ite2 (fun q => ?_) (fun q => ?_)
          · have hin : y ∈ acc := inV_str.mp q
            refine ifT rfl ⟨_, rfl, _, rfl, _, rfl, letters, _, ci, rfl, rfl, lz, hci, grow H5 k5 hD5 hacc5 (.inl hin) ?_⟩
            rcases Nat.lt_or_ge m j with z | z
            · exact absurd hin (hm3 z).1
            · omega
          · have hno : y ∉ acc := fun z => q (inV_str.mpr z)
            refine ⟨_, rfl, rfl, fun u hu => ⟨u, _, rfl, .inl (SqL.of upd_same), rfl, flat_strs _, _, rfl, ?_⟩⟩
            have k6 : Kp [dl] H5 (upd H5 u (.lst (keyL.map V.str))) := .new hu
            have hD6 : Dr (upd H5 u (.lst (keyL.map V.str))) dl := by
              obtain ⟨ds, h⟩ := hD5
              exact ⟨ds, by rw [upd_ne (ne_of_none h hu)]; exact h⟩
            have hacc6 := k6.keep _ _ hacc5 (not1 npd)
            refine ite2 (fun q2 => ?_) (fun q2 => ?_)
            · have hin : y ∈ keyL := inV_str.mp q2
              refine ⟨_, rfl, _, rfl, _, rfl, letters, _, ci, rfl, rfl, lz, hci, grow _ (k5.trans k6) hD6 hacc6 (.inr hin) ?_⟩
              rcases Nat.lt_or_ge m j with z | z
              · exact absurd hin (hm3 z).2
              · omega
            · exact keep _ (k5.trans k6) hD6 hacc6 ⟨hno, fun z => q2 (inV_str.mpr z)⟩
        · rintro σ H5 ⟨⟨y, y6, m, rfl, hm1, hm2, hm3, hm4⟩, k5, hD5, hacc5⟩
          refine ⟨_, rfl, .inl ⟨rfl, _, SqL.of hacc5⟩, _, rfl, p, _, _, rfl, rfl, hacc5, ?_, ?_⟩
          · rw [List.length_map]
            exact Nat.lt_of_le_of_lt (show acc.length ≤ 1000 by omega) (by decide)
          · have k6 : Kp [p] H5 (upd H5 p (.lst (acc.map V.str ++ [V.str y]))) := .mut (by simp) hacc5 (fun xs z => by cases z)
            refine ⟨⟨_, _, _, rfl⟩, k5.on k6 (fun u hu => .inr (by rw [List.mem_singleton.mp hu]; exact hp)), hD5.kp k6 (not1 (Ne.symm npd)), acc ++ [y], by rw [upd_same, List.map_append]; rfl, by rw [List.length_append, hl]; rfl, fun z hz => ?_, fun a b hab => ?_⟩
            · rcases List.mem_append.mp hz with q | q
              · exact hok z q
              · have : z = y := by simpa using q
                subst this
                refine ⟨by rw [hm2, List.length_append, List.length_replicate]; omega, fun c hc => ?_⟩
                rw [hm2] at hc
                rcases List.mem_append.mp hc with q | q
                · exact hx2 c q
                · rw [(List.mem_replicate.mp q).2]; exact hcis
            · have h1 : acc.length = 1 := by
                have := congrArg List.length hab
                rw [List.length_append] at this
                simpa using this
              obtain ⟨a', rfl⟩ := List.length_eq_one_iff.mp h1
              have h2 : a' = a ∧ y = b := by simpa using hab
              obtain ⟨rfl, rfl⟩ := h2
              rintro rfl
              have hi1 : i = 1 := by rw [← hl]; rfl
              subst hi1
              rcases Nat.lt_or_ge m 7 with z | z
              · exact (hm3 z).1 (by simp)
              · have hm7 : m = 7 := by omega
                subst hm7
                obtain ⟨u, hu, hu2⟩ := hm4 (by decide)
                rcases hu with hu | hu
                · have : u = a' := by simpa using hu
                  rw [this, hm2] at hu2
                  have := congrArg List.length hu2
                  simp at this
                · have hb : u.cps.toList.getLast? = some ci := by rw [hu2]; simp
                  have hc : ci = 98 := by
                    have e2 : atI letters.cps.toList ((0 : Int) + ((1 : Nat) : Int)) = some 98 := atI_nat (j := 1) letters_b
                    rw [hci] at e2
                    exact Option.some.inj e2
                  have := List.all_eq_true.mp keys_noB u hu
                  rw [hb, hc] at this
                  exact absurd this (by decide)
    · rintro σ H1 ⟨⟨y4, y5, y6, rfl⟩, k1, hD1, acc, hacc, hl, hok, hdif⟩
      exact ⟨_, rfl, k p acc H1 k1 hD1 hp hacc hl hok hdif⟩
end
end KW
set_option maxRecDepth 100000
set_option maxHeartbeats 4000000
/-! make, fraction, literal -/
namespace KW
open PySem L2
/-- a number of the law's -/
def FrOk (f : Fr) : Prop := f.1.natAbs < 2 ^ 30 ∧ 0 < f.2 ∧ f.2.natAbs < 2 ^ 20
theorem FrOk.sz {f : Fr} (h : FrOk f) : Sz 30 f := ⟨h.1, h.2.1, Nat.lt_trans h.2.2 (by decide)⟩
section
variable {P : Program} {w : World} {K : PySem.W.Frag} {mg : Str → Option Value} {base : Heap}
def spMake : Sp := fun vs H Q _ => ∃ (p q : Int), vs = [.int p, .int q] ∧ p.natAbs < 2 ^ 30 ∧ 0 < q ∧ q ≤ 1000000 ∧
  ∀ t f H', Kp [] H H' → H t = none → FrOk f → H' t = some (.tup [.int f.1, .int f.2]) → Q (.ref t) H'
theorem ok_make (T : Tx K mg w) : FnOk P w K mg base CX0 1 T.law_make.a T.law_make.d p_law_make spMake := by
  refine T.law_make.F.ok sc_law_make (fun vs H Q E h => ?_) (fun cdv A outer s H vs Q E hr h => ?_)
  · obtain ⟨p, q, rfl, _⟩ := h
    rfl
  · obtain ⟨p, q, rfl, hp, q0, q1, k⟩ := h
    refine ⟨_, pss_cons (ps_set (i := 2) sc_law_make.nd rfl (Or.inl rfl) (pe_callB call_abs (by rfl) T.z_abs (by rfl) (pa_cons (pv 0) pa_nil)))
      (pss_cons (ps_set (i := 3) sc_law_make.nd rfl (Or.inl rfl) (pv 1))
      (pss_cons (ps_for PySem.PassesOwn.never rfl (pi_range1 (by rfl) T.z_range (pa_cons pe_int pa_nil)) (pg_name (i := 4) sc_law_make.nd rfl (Or.inl rfl))
        (pss_cons (ps_if (pt_cmpR op_eq (pv 3) pe_int (nomark _)) (pss_one ps_break) pss_nil)
        (pss_cons (ps_set (i := 5) sc_law_make.nd rfl (Or.inl rfl) (pe_op op_mod (pe_callTy call_int1 (by rfl) T.z_int (by decide +kernel) (pa_cons (pv 2) pa_nil)) (pv 3)))
        (pss_cons (ps_set (i := 2) sc_law_make.nd rfl (Or.inl rfl) (pv 3)) (pss_one (ps_set (i := 3) sc_law_make.nd rfl (Or.inl rfl) (pv 5)))))))
      (pss_one (ps_ret (pe_tup (pa_cons (pe_op op_fdiv (pv 0) (pv 2)) (pa_cons (pe_op op_fdiv (pv 1) (pv 2)) pa_nil))))))), ?_⟩
    refine ⟨_, rfl, _, rfl, _, rfl, 5000, rfl, by decide, by decide, ?_⟩
    -- the end
    have fin : ∀ (a : Int) (y3 y4 y5 : Option V), 0 < a → a ≤ q → tRet (tTup (tCons (tOp (rI CDiv fun i j => .int (i / j)) (tVar 0) (tVar 2)) (tCons (tOp (rI CDiv fun i j => .int (i / j)) (tVar 1) (tVar 2)) tNil))) { nx := fun _ H' => Q .non H', rt := Q } [some (.int p), some (.int q), some (.int a), y3, y4, y5] H := by
      intro a y3 y4 y5 a0 a1
      refine ⟨_, rfl, _, rfl, _, _, rfl, rfl, ⟨a0, by omega⟩, _, rfl, _, rfl, _, _, rfl, rfl, ⟨a0, by omega⟩, size2, fun t ht => ?_⟩
      have h1 : (p / a).natAbs ≤ p.natAbs := Int.natAbs_ediv_le_natAbs p a
      have h2 : 1 ≤ q / a := (Int.le_ediv_iff_mul_le a0).mpr (by omega)
      have h3 : (q / a).natAbs ≤ q.natAbs := Int.natAbs_ediv_le_natAbs q a
      exact k t (p / a, q / a) _ (.new ht) ht ⟨Nat.lt_of_le_of_lt h1 hp, h2, Nat.lt_of_le_of_lt h3 (by show q.natAbs < 1048576; omega)⟩ upd_same
    refine for_range (Pv := fun i σ H' => H' = H ∧ ∃ (a b : Int) (y4 y5 : Option V), σ = [some (.int p), some (.int q), some (.int a), some (.int b), y4, y5] ∧ 0 ≤ b ∧ b ≤ q ∧ (i = 0 → b = q) ∧ (0 < i → 0 < a ∧ a ≤ q)) ⟨rfl, _, q, _, _, rfl, by omega, Int.le_refl _, fun _ => rfl, fun h => absurd h (Nat.lt_irrefl _)⟩ ?_ ?_
    · rintro i σ H1 hi ⟨rfl, a, b, y4, y5, rfl, b0, b1, h0, h1⟩
      refine ⟨_, rfl, rfl, _, rfl, ?_⟩
      refine ite2 (fun z => ?_) (fun z => ?_)
      · have z : b = 0 := V.int.inj (of_decide_eq_true z)
        have : 0 < i := by
          rcases Nat.eq_zero_or_pos i with e | e
          · have := h0 e; omega
          · exact e
        obtain ⟨a0, a1⟩ := h1 this
        exact fin a _ _ _ a0 a1
      · have z : b ≠ 0 := fun e => z (decide_eq_true (by rw [e]))
        have bp : 0 < b := by omega
        refine ⟨_, rfl, .inl ⟨_, rfl, _, rfl, _, _, rfl, rfl, bp, _, rfl, _, rfl, rfl, _, _, _, _, rfl, Int.emod_nonneg _ z, ?_, fun h => absurd h (Nat.succ_ne_zero _), fun _ => ⟨bp, b1⟩⟩⟩
        have := Int.emod_lt_of_pos a bp
        omega
    · rintro σ H1 ⟨rfl, a, b, y4, y5, rfl, b0, b1, h0, h1⟩
      obtain ⟨a0, a1⟩ := h1 (by decide)
      exact fin a _ _ _ a0 a1
def spFraction : Sp := fun vs H Q _ => ∃ (dl : Addr) (least : Int), vs = [.ref dl, .int least] ∧ -10 ≤ least ∧ least ≤ 10 ∧ Dr H dl ∧
  ∀ t f H', Kp [dl] H H' → Dr H' dl → H t = none → FrOk f → H' t = some (.tup [.int f.1, .int f.2]) → Q (.ref t) H'
theorem ok_lfraction (T : Tx K mg w) : FnOk P w K mg base CX0 2 T.law_fraction.a T.law_fraction.d p_law_fraction spFraction := by
  have Gt : FnOk P w K mg base CX0 1 T.law_take.a T.law_take.d p_law_take spTake := ok_take T
  have Gm : FnOk P w K mg base CX0 1 T.law_make.a T.law_make.d p_law_make spMake := ok_make T
  refine T.law_fraction.F.ok sc_law_fraction (fun vs H Q E h => ?_) (fun cdv A outer s H vs Q E hr h => ?_)
  · obtain ⟨dl, least, rfl, _⟩ := h
    rfl
  · obtain ⟨dl, least, rfl, l0, l1, hD, k⟩ := h
    refine ⟨_, pss_cons (ps_set (i := 2) sc_law_fraction.nd rfl (Or.inl rfl) (pe_call Gt hr rfl T.law_take.g T.law_take.F.kp T.law_take.b .nil pass0 (pa_cons (pv 0) (pa_cons pe_int pa_nil))))
      (pss_cons (ps_if (pt_cmpR op_eq (pv 2) pe_int (nomark _)) (pss_one (ps_ret (pe_tup (pa_cons pe_int (pa_cons pe_int pa_nil))))) pss_nil)
      (pss_cons (ps_if (pt_cmpR op_eq (pv 2) pe_int (nomark _)) (pss_one (ps_ret (pe_call Gm hr rfl T.law_make.g T.law_make.F.kp T.law_make.b .nil pass0
          (pa_cons (pe_call Gt hr rfl T.law_take.g T.law_take.F.kp T.law_take.b .nil pass0 (pa_cons (pv 0) (pa_cons (pe_op op_pow pe_int pe_int) pa_nil))) (pa_cons (pe_op op_add pe_int (pe_call Gt hr rfl T.law_take.g T.law_take.F.kp T.law_take.b .nil pass0 (pa_cons (pv 0) (pa_cons (pe_op op_pow pe_int pe_int) pa_nil)))) pa_nil))))) pss_nil)
      (pss_cons (ps_set (i := 3) sc_law_fraction.nd rfl (Or.inl rfl) (pe_call Gm hr rfl T.law_make.g T.law_make.F.kp T.law_make.b .nil pass0
          (pa_cons (pe_op op_add (pe_call Gt hr rfl T.law_take.g T.law_take.F.kp T.law_take.b .nil pass0 (pa_cons (pv 0) (pa_cons pe_int pa_nil))) (pv 1)) (pa_cons (pe_op op_add pe_int (pe_call Gt hr rfl T.law_take.g T.law_take.F.kp T.law_take.b .nil pass0 (pa_cons (pv 0) (pa_cons pe_int pa_nil)))) pa_nil))))
      (pss_one (ps_ret (pv 3)))))), ?_⟩
    refine ⟨_, rfl, dl, 8, rfl, by decide, hD, fun r H1 r0 r1 k1 hD1 => ?_⟩
    refine ⟨_, rfl, rfl, _, rfl, ?_⟩
    refine ite2 (fun _ => ?_) (fun _ => ?_)
    · refine ⟨size2, fun t ht => ?_⟩
      refine k t (0, 1) _ (k1.trans (.new ht)) ?_ (k1.free ht) ⟨by decide, by decide, by decide⟩ upd_same
      obtain ⟨ds, h⟩ := hD1
      exact ⟨ds, by rw [upd_ne (ne_of_none h ht)]; exact h⟩
    · refine ⟨_, rfl, rfl, _, rfl, ?_⟩
      have fin : ∀ (p q : Int) (H2 : Hp), Kp [dl] H H2 → Dr H2 dl → p.natAbs < 2 ^ 30 → 0 < q → q ≤ 1000000 → ∀ (R : VK), (∀ t H', Q (.ref t) H' → R (.ref t) H') → spMake ([.int p, .int q] ++ []) H2 R E0 := by
        intro p q H2 k2 hD2 hp q0 q1 R hR
        exact ⟨p, q, rfl, hp, q0, q1, fun t f H3 k3 ht hf h3 => hR _ _ (k t f H3 (k2.trans k3.nil) (hD2.kp k3 (by simp)) (k2.free ht) hf h3)⟩
      refine ite2 (fun _ => ?_) (fun _ => ?_)
      · refine ⟨_, rfl, _, _, rfl, rfl, ⟨by decide, by decide, by decide⟩, dl, _, rfl, by decide, hD1, fun x H2 x0 x1 k2 hD2 => ?_⟩
        refine ⟨_, rfl, _, _, rfl, rfl, ⟨by decide, by decide, by decide⟩, dl, _, rfl, by decide, hD2, fun y H3 y0 y1 k3 hD3 => ?_⟩
        have x1 : x < 1000000000 := x1
        have y1 : y < 1000000 := y1
        exact ⟨_, _, rfl, rfl, fin _ _ H3 ((k1.trans k2).trans k3) hD3 (by show x.natAbs < 1073741824; omega) (by omega) (by omega) _ fun _ _ h => h⟩
      · refine ⟨_, rfl, dl, 13, rfl, by decide, hD1, fun x H2 x0 x1 k2 hD2 => ⟨_, rfl, _, _, rfl, rfl, _, rfl, dl, 3, rfl, by decide, hD2, fun y H3 y0 y1 k3 hD3 => ⟨_, _, rfl, rfl, ?_⟩⟩⟩
        have kk := (k1.trans k2).trans k3
        refine ⟨_, _, rfl, ?_, ?_, ?_, fun t f H4 k4 ht hf h4 => ⟨_, rfl, k t f H4 (kk.trans k4.nil) (hD3.kp k4 (by simp)) (kk.free ht) hf h4⟩⟩
        · show (x + least).natAbs < 1073741824; omega
        · show 0 < 1 + y; omega
        · show 1 + y ≤ 1000000; omega
def spLiteral : Sp := fun vs H Q _ => ∃ (dl : Addr) (kind : Str), vs = [.ref dl, .str kind] ∧ Dr H dl ∧
  ∀ a lw f H', Kp [dl] H H' → Dr H' dl → FrOk f → At H' (.lit lw f) a → Q (.ref a) H'
theorem ok_literal (T : Tx K mg w) : FnOk P w K mg base CX0 3 T.law_literal.a T.law_literal.d p_law_literal spLiteral := by
  have Gf : FnOk P w K mg base CX0 2 T.law_fraction.a T.law_fraction.d p_law_fraction spFraction := ok_lfraction T
  refine T.law_literal.F.ok sc_law_literal (fun vs H Q E h => ?_) (fun cdv A outer s H vs Q E hr h => ?_)
  · obtain ⟨dl, kind, rfl, _⟩ := h
    rfl
  · obtain ⟨dl, kind, rfl, hD, k⟩ := h
    refine ⟨_, pss_cons (ps_set (i := 2) sc_law_literal.nd rfl (Or.inl rfl) (pe_call Gf hr rfl T.law_fraction.g T.law_fraction.F.kp T.law_fraction.b .nil pass0 (pa_cons (pv 0) (pa_cons pe_int pa_nil))))
      (pss_cons (ps_if (pt_cmpR op_eq (pv 1) pe_str (nomark _)) (pss_one (ps_ret (pe_tup (pa_cons pe_str (pa_cons (pv 2) pa_nil))))) pss_nil)
      (pss_cons (ps_if (pt_cmpR op_eq (pv 1) pe_str (nomark _)) (pss_one (ps_ret (pe_tup (pa_cons pe_str (pa_cons (pv 2) pa_nil))))) pss_nil)
      (pss_one (ps_ret (pe_tup (pa_cons pe_str (pa_cons (pv 2) pa_nil))))))), ?_⟩
    refine ⟨_, rfl, dl, 0, rfl, by decide, by decide, hD, fun t f H1 k1 hD1 ht hf h1 => ?_⟩
    have fin : ∀ (lw : LW), tRet (tTup (tCons (tC (.str lw.s)) (tCons (tVar 2) tNil))) { nx := fun _ H' => Q .non H', rt := Q } [some (.ref dl), some (.str kind), some (.ref t)] H1 := by
      intro lw
      refine ⟨_, rfl, size2, fun a ha => ?_⟩
      have k2 : Kp [dl] H1 (upd H1 a (.tup [.str lw.s, .ref t])) := .new ha
      refine k a lw f _ (k1.trans k2) ?_ hf ⟨t, upd_same, k2.tup _ _ h1⟩
      obtain ⟨ds, h⟩ := hD1
      exact ⟨ds, by rw [upd_ne (ne_of_none h ha)]; exact h⟩
    refine ⟨_, rfl, rfl, _, rfl, ?_⟩
    refine ite2 (fun _ => fin .percent) (fun _ => ?_)
    refine ⟨_, rfl, rfl, _, rfl, ?_⟩
    exact ite2 (fun _ => fin .money) (fun _ => fin .number)
end
end KW
set_option maxRecDepth 100000
set_option maxHeartbeats 4000000
/-! leaf, factors, truth, built -/
namespace KW
open PySem L2
/-- where expressions are drawn: the lets, the names of facts and rates, the bounds of leaves -/
structure GC where
  L : Str → Option Ex
  A : Str → Prop
  B : Str → Prop
  b0 : Nat
  s0 : Nat
  p0 : Nat
  hb : 31 ≤ b0
  hs : 1 ≤ s0
/-- a good expression of depth d -/
structure Gd (c : GC) (s : Bool) (d : Nat) (e : Ex) : Prop where
  wt : WT e s
  con : Con c.L e
  ref : RefOk c.A c.B e
  bits : bw e + 1 ≤ 2 ^ d * c.b0
  sz : (subs e).length ≤ 4 ^ d * c.s0
  dp : dep e ≤ d + c.p0
theorem two_s (d b : Nat) : 2 ^ (d + 1) * b = 2 * (2 ^ d * b) := by rw [Nat.pow_succ, Nat.mul_comm (2 ^ d) 2, Nat.mul_assoc]
theorem four_s (d b : Nat) : 4 ^ (d + 1) * b = 4 * (4 ^ d * b) := by rw [Nat.pow_succ, Nat.mul_comm (4 ^ d) 4, Nat.mul_assoc]
theorem Gd.succ {c : GC} {s : Bool} {d : Nat} {e : Ex} (h : Gd c s d e) : Gd c s (d + 1) e := by
  refine ⟨h.wt, h.con, h.ref, ?_, ?_, Nat.le_trans h.dp (by omega)⟩
  · have := h.bits; rw [two_s]; omega
  · have := h.sz; rw [four_s]; omega
theorem Gd.mono {c : GC} {s : Bool} {e : Ex} : ∀ {d d' : Nat}, Gd c s d e → d ≤ d' → Gd c s d' e := by
  intro d d' h hd
  induction hd with
  | refl => exact h
  | step _ ih => exact ih.succ
theorem pow_pos' (c : GC) (d : Nat) : 1 ≤ 4 ^ d * c.s0 := Nat.mul_pos (Nat.pow_pos (by decide)) c.hs
theorem gd_un {c : GC} {d : Nat} {e : Ex} (h : Gd c true d e) : Gd c true (d + 1) (.un e) := by
  refine ⟨⟨rfl, h.wt⟩, h.con, h.ref, h.succ.bits, ?_, by have := h.dp; show dep e + 1 ≤ d + 1 + c.p0; omega⟩
  have := h.sz
  have := pow_pos' c d
  show (subs e).length + 1 ≤ _
  rw [four_s]; omega
theorem gd_timed {c : GC} {d k : Nat} {o : TW} {e : Ex} (hk : 1 ≤ k) (h : Gd c true d e) : Gd c true (d + 1) (.timed o k e) := by
  refine ⟨⟨rfl, hk, h.wt⟩, h.con, h.ref, h.succ.bits, ?_, by have := h.dp; show dep e + 1 ≤ d + 1 + c.p0; omega⟩
  have := h.sz
  have := pow_pos' c d
  show (subs e).length + 1 ≤ _
  rw [four_s]; omega
theorem gd_ite {c : GC} {s : Bool} {d : Nat} {x e f : Ex} (hx : Gd c true d x) (he : Gd c s d e) (hf : Gd c s d f) : Gd c s (d + 1) (.ite x e f) := by
  refine ⟨⟨hx.wt, he.wt, hf.wt⟩, ⟨hx.con, he.con, hf.con⟩, ⟨hx.ref, he.ref, hf.ref⟩, ?_, ?_, ?_⟩
  · have := hx.bits; have := he.bits; have := hf.bits
    show max (bw x) (max (bw e) (bw f)) + 1 ≤ _
    rw [two_s]; omega
  · have := hx.sz; have := he.sz; have := hf.sz; have := pow_pos' c d
    show (_ :: (subs x ++ (subs e ++ subs f))).length ≤ _
    rw [List.length_cons, List.length_append, List.length_append, four_s]; omega
  · have := hx.dp; have := he.dp; have := hf.dp
    show max (dep x) (max (dep e) (dep f)) + 1 ≤ _
    omega
theorem gd_bin {c : GC} {d : Nat} {o : BW} {e f : Ex} (he : Gd c o.log d e) (hf : Gd c o.log d f) : Gd c (o.log || o.cmp) (d + 1) (.bin o e f) := by
  refine ⟨?_, ⟨he.con, hf.con⟩, ⟨he.ref, hf.ref⟩, ?_, ?_, ?_⟩
  · rw [WT]
    cases ho : o.log with
    | true => rw [if_pos rfl]; have h1 := he.wt; have h2 := hf.wt; rw [ho] at h1 h2; exact ⟨rfl, h1, h2⟩
    | false => rw [if_neg (by decide)]; have h1 := he.wt; have h2 := hf.wt; rw [ho] at h1 h2; exact ⟨by rw [Bool.false_or], h1, h2⟩
  · have := he.bits; have := hf.bits
    rw [bw, two_s]
    split <;> omega
  · have := he.sz; have := hf.sz; have := pow_pos' c d
    show (_ :: (subs e ++ subs f)).length ≤ _
    rw [List.length_cons, List.length_append, four_s]; omega
  · have := he.dp; have := hf.dp
    show max (dep e) (dep f) + 1 ≤ _
    omega
theorem gd_lit {c : GC} {w : LW} {f : Fr} (h : FrOk f) : Gd c false 0 (.lit w f) := by
  have := c.hb; have := c.hs
  exact ⟨⟨rfl, h.1, h.2.1, h.2.2⟩, trivial, trivial, by show 30 + 1 ≤ _; omega, by show 1 ≤ _; omega, Nat.zero_le _⟩
theorem gd_tt {c : GC} {b : Bool} : Gd c true 0 (.tt b) := by
  have := c.hb; have := c.hs
  exact ⟨rfl, trivial, trivial, by show 0 + 1 ≤ _; omega, by show 1 ≤ _; omega, Nat.zero_le _⟩
theorem gd_ref {c : GC} {w : RW} {n : Str} (hn : NameOk n) (h : (w = .fact → c.A n) ∧ (w = .rate → c.B n)) : Gd c false 0 (.ref w n) := by
  have := c.hb; have := c.hs
  refine ⟨rfl, hn.ok, ?_, by show 30 + 1 ≤ _; omega, by show 1 ≤ _; omega, Nat.zero_le _⟩
  cases w
  · exact h.1 rfl
  · exact h.2 rfl
/-- a let that may be named -/
structure LetOk (c : GC) (n : Str) (b : Ex) : Prop where
  nm : NameOk n
  at_ : c.L n = some b
  con : Con c.L b
  wt : WT b false
  ref : RefOk c.A c.B b
  bits : bw b + 1 ≤ c.b0
  sz : (subs b).length + 1 ≤ c.s0
  dp : dep b + 1 ≤ c.p0
theorem gd_nam {c : GC} {n : Str} {b : Ex} (h : LetOk c n b) : Gd c false 0 (.nam n b) := by
  have h1 := h.bits; have h2 := h.sz; have h3 := h.dp
  exact ⟨⟨rfl, h.wt⟩, ⟨h.nm.ok, h.at_, h.con⟩, h.ref, by show bw b + 1 ≤ _; omega, by show (subs b).length + 1 ≤ _; omega, by show dep b + 1 ≤ _; omega⟩
/-- what the drawing defs read: draws, names, kinds of lets -/
structure Env4 (c : GC) (H : Hp) (dl na kl : Addr) : Prop where
  dr : Dr H dl
  n1 : na ≠ dl
  n2 : kl ≠ dl
  nm : ∃ ns : List Str, H na = some (.lst (ns.map V.str)) ∧ ns.length = 7 ∧ (∀ x ∈ ns, NameOk x) ∧ (∀ (i : Nat) n, i < 3 → ns[i]? = some n → c.A n) ∧ ∀ (i : Nat) n, 3 ≤ i → i < 5 → ns[i]? = some n → c.B n
  kd : ∃ (rs : List Addr) (ks : List (Str × Str)), H kl = some (.lst (rs.map V.ref)) ∧ PySem.Paired (fun t (nk : Str × Str) => H t = some (.tup [.str nk.1, .str nk.2])) rs ks ∧ ks.length ≤ 10 ∧ ∀ nk ∈ ks, ∃ b, LetOk c nk.1 b
theorem Env4.kp {c : GC} {H H' : Hp} {dl na kl : Addr} (h : Env4 c H dl na kl) (k : Kp [dl] H H') (d : Dr H' dl) : Env4 c H' dl na kl := by
  obtain ⟨ns, a1, a2⟩ := h.nm
  obtain ⟨rs, ks, b1, b2, b3⟩ := h.kd
  exact ⟨d, h.n1, h.n2, ⟨ns, k.keep _ _ a1 (not1 h.n1), a2⟩, ⟨rs, ks, k.keep _ _ b1 (not1 h.n2), paired_imp (fun t nk e => k.tup _ _ e) b2, b3⟩⟩
theorem Env4.new {c : GC} {H : Hp} {dl na kl p : Addr} {o : HO} (h : Env4 c H dl na kl) (hp : H p = none) : Env4 c (upd H p o) dl na kl := by
  refine h.kp (.new hp) ?_
  obtain ⟨ds, e⟩ := h.dr
  exact ⟨ds, by rw [upd_ne (ne_of_none e hp)]; exact e⟩
/-- kinds of values -/
def KindS (s : Bool) (k : Str) : Prop := (s = true ∧ k = "truth") ∨ (s = false ∧ (k = "count" ∨ k = "money" ∨ k = "rate"))
def spGen (c : GC) (s : Bool) (d : Nat) (dl na kl : Addr) (H : Hp) (Q : VK) : Prop := ∀ a e H', Kp [dl] H H' → Env4 c H' dl na kl → At H' e a → Gd c s d e → Q (.ref a) H'
def spLeaf (c : GC) : Sp := fun vs H Q _ => ∃ (dl na kl : Addr) (kind : Str) (s : Bool), vs = [.ref dl, .str kind, .ref na, .ref kl] ∧ KindS s kind ∧ Env4 c H dl na kl ∧ spGen c s 0 dl na kl H Q
section
variable {P : Program} {w : World} {K : PySem.W.Frag} {mg : Str → Option Value} {base : Heap}
theorem ok_leaf (T : Tx K mg w) (c : GC) : FnOk P w K mg base CX0 4 T.law_leaf.a T.law_leaf.d p_law_leaf (spLeaf c) := by
  have Gt : FnOk P w K mg base CX0 1 T.law_take.a T.law_take.d p_law_take spTake := ok_take T
  have Gl : FnOk P w K mg base CX0 3 T.law_literal.a T.law_literal.d p_law_literal spLiteral := ok_literal T
  refine T.law_leaf.F.ok sc_law_leaf (fun vs H Q E h => ?_) (fun cdv A outer s H vs Q E hr h => ?_)
  · obtain ⟨dl, na, kl, kind, s, rfl, _⟩ := h
    rfl
  · obtain ⟨dl, na, kl, kind, s, rfl, hk, hE, k⟩ := h
    have hr1 : Room 1 _ := hr.mono (by decide)
    refine ⟨_, pss_cons (ps_set (i := 4) sc_law_leaf.nd rfl (Or.inl rfl) (pe_call Gt hr1 rfl T.law_take.g T.law_take.F.kp T.law_take.b .nil pass0 (pa_cons (pv 0) (pa_cons pe_int pa_nil))))
      (pss_cons (ps_if (pt_cmpR op_eq (pv 1) pe_str (nomark _)) (pss_one (ps_ret (pe_tup (pa_cons (pe_ix ix_list (pe_lst (pa_cons pe_str (pa_cons pe_str pa_nil))) (pe_op op_mod (pe_callTy call_int1 (by rfl) T.z_int (by decide +kernel) (pa_cons (pv 4) pa_nil)) pe_int) (fun _ _ => rfl)) pa_nil)))) pss_nil)
      (pss_cons (ps_if (pt_cmpR op_eq (pv 4) pe_int (nomark _)) (pss_one (ps_ret (pe_tup (pa_cons pe_str (pa_cons (pe_ix ix_list (pv 2) (pe_bm PySem.F.plainAttrs_list PySem.F.slot_list_index PySem.F.type_list_index mt_index (pe_lst (pa_cons pe_str (pa_cons pe_str (pa_cons pe_str pa_nil)))) (pa_cons (pv 1) pa_nil)) (fun _ _ => rfl)) pa_nil))))) pss_nil)
      (pss_cons (ps_if (PW.pt (pw_and (pt_cmpR op_eq (pv 4) pe_int (nomark _)) (pw_and1 (pt_cmpR op_eq (pv 1) pe_str (nomark _))))) (pss_one (ps_ret (pe_tup (pa_cons pe_str (pa_cons (pe_ix ix_list (pv 2) (pe_op op_add pe_int (pe_call Gt hr1 rfl T.law_take.g T.law_take.F.kp T.law_take.b .nil pass0 (pa_cons (pv 0) (pa_cons pe_int pa_nil)))) (fun _ _ => rfl)) pa_nil))))) pss_nil)
      (pss_cons (ps_setLc (i := 5) (own := [("_law_row", 6)]) (g := gName 6) (tt := tTest (tOp rEq (tOp (rIxT K) (tVar 6) (tC (.int 1))) (tVar 1))) (te := tOp (rIxT K) (tVar 6) (tC (.int 0))) rfl sc_law_leaf.nd rfl rfl (sw_true rfl rfl rfl (by decide +kernel)) (pi_list (pv 3)) (blkOk_by (N := n_law_leaf) (sc := defScope s_law_leaf) (by decide +kernel))
        (fun _ _ _ _ _ => pg_name (i := 6) sc_law_leaf.nd rfl (Or.inl rfl)) (fun _ _ _ _ _ => pts_one (pt_cmpR op_eq (pixT 6) (pv 1) (nomark _))) (fun _ _ _ _ _ => pixT 6))
      (pss_cons (ps_if (PW.pt (pw_and (pt_cmpR op_eq (pv 4) pe_int (nomark _)) (pw_and1 (pt_cmpR op_gt (pe_callB call_len_seq (by rfl) T.z_len (by rfl) (pa_cons (pv 5) pa_nil)) pe_int (nomark _))))) (pss_one (ps_ret (pe_tup (pa_cons pe_str (pa_cons (pe_ix ix_list (pv 5) (pe_call Gt hr1 rfl T.law_take.g T.law_take.F.kp T.law_take.b .nil pass0 (pa_cons (pv 0) (pa_cons (pe_callB call_len_seq (by rfl) T.z_len (by rfl) (pa_cons (pv 5) pa_nil)) pa_nil))) (fun _ _ => rfl)) pa_nil))))) pss_nil)
      (pss_one (ps_ret (pe_call Gl hr rfl T.law_literal.g T.law_literal.F.kp T.law_literal.b .nil pass0 (pa_cons (pv 0) (pa_cons (pv 1) pa_nil)))))))))), ?_⟩
    refine ⟨_, rfl, dl, 4, rfl, by decide, hE.dr, fun r H1 r0 r1 k1 hD1 => ?_⟩
    have h1 := hE.kp k1 hD1
    refine ⟨_, rfl, rfl, _, rfl, ?_⟩
    rcases hk with ⟨rfl, rfl⟩ | ⟨rfl, hkn⟩
    · refine ifT (by decide +kernel) ?_
      refine ⟨by show 2 ≤ sizeLine; decide, fun p hp => ?_⟩
      have h2 := h1.new (o := .lst [V.str "true", V.str "false"]) hp
      have hm0 : 0 ≤ r % 2 := Int.emod_nonneg _ (by decide)
      have hm1 : r % 2 < 2 := Int.emod_lt_of_pos _ (by decide)
      have : ∃ b : Bool, atI [V.str "true", V.str "false"] (r % 2) = some (.str (tfs b)) := by
        have : r % 2 = 0 ∨ r % 2 = 1 := by omega
        rcases this with e | e <;> rw [e]
        · exact ⟨true, at0⟩
        · exact ⟨false, at1⟩
      obtain ⟨b, hb⟩ := this
      refine ⟨_, rfl, .inl ⟨_, rfl, _, _, rfl, rfl, pos_lit (by decide), p, _, _, _, rfl, rfl, SqL.of upd_same, hb, by show 1 ≤ sizeLine; decide, fun a ha => ?_⟩⟩
      exact k a (.tt b) _ ((k1.trans (.new hp)).trans (.new ha)) (h2.new ha) upd_same gd_tt
    · have nt : decide (V.str kind = V.str "truth") = false := by rcases hkn with rfl | rfl | rfl <;> decide +kernel
      refine ifF nt ?_
      obtain ⟨ns, n1, n2, n3, n4, n5⟩ := h1.nm
      refine ⟨_, rfl, rfl, _, rfl, ?_⟩
      refine ite2 (fun _ => ?_) (fun _ => ?_)
      · -- a fact
        have : ∃ j : Nat, j < 3 ∧ ([V.str "count", V.str "money", V.str "rate"] : List V)[j]? = some (.str kind) ∧ ∀ (m : Nat) (z' : V), m < j → ([V.str "count", V.str "money", V.str "rate"] : List V)[m]? = some z' → eqV z' (.str kind) = false := by
          rcases hkn with rfl | rfl | rfl
          · exact ⟨0, by decide, rfl, fun m z' h => absurd h (Nat.not_lt_zero _)⟩
          · refine ⟨1, by decide, rfl, fun m z' h e => ?_⟩
            have : m = 0 := by omega
            subst this; cases e; decide +kernel
          · refine ⟨2, by decide, rfl, fun m z' h e => ?_⟩
            have : m = 0 ∨ m = 1 := by omega
            rcases this with rfl | rfl <;> cases e <;> decide +kernel
        obtain ⟨j, hj, ej, hmin⟩ := this
        refine ⟨_, rfl, by show 3 ≤ sizeLine; decide, fun p hp => ⟨.inl ⟨rfl, _, SqL.of upd_same⟩, _, rfl, p, _, _, j, _, rfl, rfl, SqL.of upd_same, rfl, rfl, ej, by show (kind == kind) = true; rw [str_beq]; simp, hmin, ?_⟩⟩
        have jl : j < ns.length := by omega
        have en : ns[j]? = some ns[j] := List.getElem?_eq_getElem jl
        have nn : na ≠ p := ne_of_none n1 hp
        refine ⟨na, _, _, V.str ns[j], rfl, rfl, SqL.of (by rw [upd_ne nn]; exact n1), atI_nat (by rw [List.getElem?_map, en]; rfl), size2, fun a ha => ?_⟩
        exact k a (.ref .fact ns[j]) _ ((k1.trans (.new hp)).trans (.new ha)) ((h1.new hp).new ha) upd_same (gd_ref (n3 _ (List.getElem_mem jl)) ⟨fun _ => n4 j _ hj en, fun z => by cases z⟩)
      · refine ⟨_, rfl, rfl, _, rfl, ?_⟩
        have later : ∀ (H2 : Hp), H2 = H1 → tSeq (tAsg (tLc (iList K (tVar 3)) (gName 6) (tTest (tOp rEq (tOp (rIxT K) (tVar 6) (tC (.int 1))) (tVar 1))) (tOp (rIxT K) (tVar 6) (tC (.int 0))) [6]) (gName 5))
            (tSeq (tIfS (tAnd (tTest (tOp rEq (tVar 4) (tC (.int 2)))) (tTest (tOp (rI0 fun i j => .bl (decide (j < i))) (tCB (fun xs H Q => ∃ p ys, xs = [.ref p] ∧ (SqL K H p ys ∨ SqT K H p ys) ∧ Q (.int ys.length) H) (tCons (tVar 5) tNil)) (tC (.int 0)))))
              (tRet (tTup (tCons (tC (.str "name")) (tCons (tOp (rIxL K) (tVar 5) (tCall spTake [] E0 (tCons (tVar 0) (tCons (tCB (fun xs H Q => ∃ p ys, xs = [.ref p] ∧ (SqL K H p ys ∨ SqT K H p ys) ∧ Q (.int ys.length) H) (tCons (tVar 5) tNil)) tNil)))) tNil)))) tNext)
            (tRet (tCall spLiteral [] E0 (tCons (tVar 0) (tCons (tVar 1) tNil))))) { nx := fun _ H' => Q .non H', rt := Q } [some (.ref dl), some (.str kind), some (.ref na), some (.ref kl), some (.int r), none, none] H2 := by
          rintro H2 rfl
          obtain ⟨rs, ks, c1, c2, c3, c4⟩ := h1.kd
          refine ⟨_, rfl, kl, rfl, ⟨_, SqL.of c1⟩, fun D hD => ?_⟩
          have nD : kl ≠ D := ne_of_none c1 hD
          refine lc_list (xs := rs.map V.ref) (Pv := fun i H' => ∃ fs : List Str, H' = upd H2 D (.lst (fs.map V.str)) ∧ fs.length ≤ i ∧ ∀ n ∈ fs, ∃ b, LetOk c n b) ⟨[], rfl, Nat.le_refl _, by simp⟩ (fun i H' _ h => by obtain ⟨fs, rfl, _⟩ := h; exact SqL.of (by rw [upd_ne nD]; exact c1)) ?_ ?_
          · rintro i y _ hy ⟨fs, rfl, hl, hf⟩
            rw [List.getElem?_map] at hy
            cases q : rs[i]? with
            | none => rw [q] at hy; cases hy
            | some t =>
              rw [q] at hy
              have hy : V.ref t = y := Option.some.inj hy
              subst hy
              obtain ⟨nk, e1, e2⟩ := paired_get_l c2 q
              have nt : t ≠ D := ne_of_none e2 hD
              have il : i < ks.length := by
                rcases Nat.lt_or_ge i ks.length with z | z
                · exact z
                · rw [List.getElem?_eq_none z] at e1; cases e1
              refine ⟨rfl, _, rfl, t, _, _, _, rfl, rfl, SqT.of (by rw [upd_ne nt]; exact e2), at1, _, rfl, rfl, _, rfl, ?_⟩
              refine ite2 (fun _ => ?_) (fun _ => ?_)
              · refine ⟨_, rfl, t, _, _, _, rfl, rfl, SqT.of (by rw [upd_ne nt]; exact e2), at0, _, upd_same, ?_, fs ++ [nk.1], by rw [upd_upd, List.map_append]; rfl, by rw [List.length_append]; exact Nat.succ_le_succ hl, fun n hn => ?_⟩
                · rw [List.length_map]
                  exact Nat.lt_of_le_of_lt (show fs.length ≤ 1000 by omega) (by decide)
                · rcases List.mem_append.mp hn with z | z
                  · exact hf n z
                  · have : n = nk.1 := by simpa using z
                    rw [this]; exact c4 nk (List.mem_of_getElem? e1)
              · exact ⟨fs, rfl, by omega, hf⟩
          · rintro _ ⟨fs, rfl, hl, hf⟩
            have h2 := h1.new (o := .lst (fs.map V.str)) hD
            have k2 : Kp [dl] H2 (upd H2 D (.lst (fs.map V.str))) := .new hD
            have hD2 : (upd H2 D (.lst (fs.map V.str))) D = some (.lst (fs.map V.str)) := upd_same
            have nDd : D ≠ dl := by
              obtain ⟨ds, e⟩ := h1.dr
              exact (ne_of_none e hD).symm
            generalize upd H2 D (.lst (fs.map V.str)) = H3 at *
            have lit : tRet (tCall spLiteral [] E0 (tCons (tVar 0) (tCons (tVar 1) tNil))) { nx := fun _ H' => Q .non H', rt := Q } [some (.ref dl), some (.str kind), some (.ref na), some (.ref kl), some (.int r), some (.ref D), none] H3 :=
              ⟨_, rfl, _, rfl, dl, kind, rfl, h2.dr, fun a lw f H4 k4 hD4 hf h4 => k a _ H4 ((k1.trans k2).trans k4) (h2.kp k4 hD4) h4 (gd_lit hf)⟩
            refine ⟨_, rfl, rfl, _, rfl, ?_⟩
            refine ite2 (fun _ => ?_) (fun _ => ?_)
            · refine ⟨_, rfl, D, _, rfl, .inl (SqL.of hD2), _, _, rfl, rfl, _, rfl, ?_⟩
              refine ite2 (fun z => ?_) (fun _ => ?_)
              · have z : (0 : Int) < ((fs.map V.str).length : Int) := of_decide_eq_true z
                refine ⟨_, rfl, _, rfl, _, rfl, D, _, rfl, .inl (SqL.of hD2), dl, _, rfl, z, h2.dr, fun x H4 x0 x1 k4 hD4 => ?_⟩
                rw [List.length_map] at x1
                obtain ⟨j, rfl⟩ := Int.eq_ofNat_of_zero_le x0
                have jl : j < fs.length := by omega
                have en : fs[j]? = some fs[j] := List.getElem?_eq_getElem jl
                obtain ⟨b, hb⟩ := hf _ (List.getElem_mem jl)
                refine ⟨D, _, _, V.str fs[j], rfl, rfl, SqL.of (k4.keep _ _ hD2 (not1 nDd)), atI_nat (by rw [List.getElem?_map, en]; rfl), size2, fun a ha => ?_⟩
                exact k a (.nam fs[j] b) _ (((k1.trans k2).trans k4).trans (.new ha)) ((h2.kp k4 hD4).new ha) upd_same (gd_nam hb)
              · exact lit
            · exact lit
        refine ite2 (fun _ => ?_) (fun _ => ?_)
        · refine ⟨_, rfl, rfl, _, rfl, ?_⟩
          refine ite2 (fun _ => ?_) (fun _ => ?_)
          · -- a rate
            refine ⟨_, rfl, _, rfl, dl, 2, rfl, by decide, h1.dr, fun x H2 x0 x1 k2 hD2 => ⟨_, _, rfl, rfl, ?_⟩⟩
            obtain ⟨j, rfl⟩ := Int.eq_ofNat_of_zero_le x0
            have jl : 3 + j < ns.length := by omega
            have en : ns[3 + j]? = some ns[3 + j] := List.getElem?_eq_getElem jl
            have e3 : (3 : Int) + (j : Int) = ((3 + j : Nat) : Int) := by omega
            refine ⟨na, _, _, V.str ns[3 + j], rfl, rfl, SqL.of (k2.keep _ _ n1 (not1 h1.n1)), by rw [e3]; exact atI_nat (by rw [List.getElem?_map, en]; rfl), size2, fun a ha => ?_⟩
            exact k a (.ref .rate ns[3 + j]) _ ((k1.trans k2).trans (.new ha)) ((h1.kp k2 hD2).new ha) upd_same (gd_ref (n3 _ (List.getElem_mem jl)) ⟨(fun z => by cases z), fun _ => n5 (3 + j) _ (by omega) (by omega) en⟩)
          · exact later H1 rfl
        · exact later H1 rfl
def spFactors : Sp := fun vs H Q _ => ∃ (dl : Addr) (kind : Str), vs = [.ref dl, .str kind] ∧ KindS false kind ∧ Dr H dl ∧
  ∀ p k1 k2 H', Kp [dl] H H' → Dr H' dl → H p = none → H' p = some (.lst [.str k1, .str k2]) → KindS false k1 → KindS false k2 → Q (.ref p) H'
theorem ok_factors (T : Tx K mg w) : FnOk P w K mg base CX0 2 T.law_factors.a T.law_factors.d p_law_factors spFactors := by
  have Gt : FnOk P w K mg base CX0 1 T.law_take.a T.law_take.d p_law_take spTake := ok_take T
  refine T.law_factors.F.ok sc_law_factors (fun vs H Q E h => ?_) (fun cdv A outer s H vs Q E hr h => ?_)
  · obtain ⟨dl, kind, rfl, _⟩ := h
    rfl
  · obtain ⟨dl, kind, rfl, hk, hD, k⟩ := h
    refine ⟨_, pss_cons (ps_if (pt_cmpR op_eq (pv 1) pe_str (nomark _)) (pss_one (ps_ret (pe_lst (pa_cons pe_str (pa_cons pe_str pa_nil))))) pss_nil)
      (pss_cons (ps_set (i := 2) sc_law_factors.nd rfl (Or.inl rfl) (pe_ix ix_list (pe_lst (pa_cons pe_str (pa_cons pe_str pa_nil))) (pe_call Gt hr rfl T.law_take.g T.law_take.F.kp T.law_take.b .nil pass0 (pa_cons (pv 0) (pa_cons pe_int pa_nil))) (fun _ _ => rfl)))
      (pss_cons (ps_if (pt_cmpR op_eq (pe_call Gt hr rfl T.law_take.g T.law_take.F.kp T.law_take.b .nil pass0 (pa_cons (pv 0) (pa_cons pe_int pa_nil))) pe_int (nomark _)) (pss_one (ps_ret (pe_lst (pa_cons (pv 2) (pa_cons (pv 1) pa_nil))))) pss_nil)
      (pss_one (ps_ret (pe_lst (pa_cons (pv 1) (pa_cons (pv 2) pa_nil))))))), ?_⟩
    have drn : ∀ {H' : Hp} {p : Addr} {o : HO}, Dr H' dl → H' p = none → Dr (upd H' p o) dl := fun ⟨ds, e⟩ hp => ⟨ds, by rw [upd_ne (ne_of_none e hp)]; exact e⟩
    have kc : KindS false "count" := .inr ⟨rfl, .inl rfl⟩
    have kr : KindS false "rate" := .inr ⟨rfl, .inr (.inr rfl)⟩
    refine ⟨_, rfl, rfl, _, rfl, ?_⟩
    refine ite2 (fun _ => ?_) (fun _ => ?_)
    · exact ⟨size2, fun p hp => k p _ _ _ (.new hp) (drn hD hp) hp upd_same kc kc⟩
    · refine ⟨size2, fun q hq => ?_⟩
      have k0 : Kp [dl] H (upd H q (.lst [V.str "count", V.str "rate"])) := .new hq
      have hq0 : (upd H q (.lst [V.str "count", V.str "rate"])) q = some (.lst [V.str "count", V.str "rate"]) := upd_same
      have hD0 := drn (o := .lst [V.str "count", V.str "rate"]) hD hq
      have nq : q ≠ dl := by
        obtain ⟨ds, e⟩ := hD
        exact (ne_of_none e hq).symm
      generalize upd H q (.lst [V.str "count", V.str "rate"]) = H0 at *
      refine ⟨_, rfl, dl, 2, rfl, by decide, hD0, fun r H1 r0 r1 k1 hD1 => ?_⟩
      have : ∃ o : Str, atI [V.str "count", V.str "rate"] r = some (.str o) ∧ KindS false o := by
        have : r = 0 ∨ r = 1 := by omega
        rcases this with e | e <;> rw [e]
        · exact ⟨_, at0, kc⟩
        · exact ⟨_, at1, kr⟩
      obtain ⟨o, ho, hko⟩ := this
      refine ⟨q, _, _, _, rfl, rfl, SqL.of (k1.keep _ _ hq0 (not1 nq)), ho, ?_⟩
      refine ⟨_, rfl, dl, 2, rfl, by decide, hD1, fun r H2 r0 r1 k2 hD2 => ⟨rfl, _, rfl, ?_⟩⟩
      have kk := (k0.trans k1).trans k2
      refine ite2 (fun _ => ?_) (fun _ => ?_)
      · exact ⟨_, rfl, _, rfl, size2, fun p hp => k p _ _ _ (kk.trans (.new hp)) (drn hD2 hp) (kk.free hp) upd_same hko hk⟩
      · exact ⟨_, rfl, _, rfl, size2, fun p hp => k p _ _ _ (kk.trans (.new hp)) (drn hD2 hp) (kk.free hp) upd_same hk hko⟩
end
end KW
set_option maxRecDepth 100000
set_option maxHeartbeats 4000000
/-! truth, built -/
namespace KW
open PySem L2
def spBuilt (c : GC) (n : Nat) : Sp := fun vs H Q _ => ∃ (dl na kl : Addr) (kind : Str) (d : Nat) (s : Bool), vs = [.ref dl, .str kind, .ref na, .ref kl, .int d] ∧ KindS s kind ∧ d < n ∧ Env4 c H dl na kl ∧ spGen c s d dl na kl H Q
def spTr (c : GC) (n : Nat) : Sp := fun vs H Q _ => ∃ (dl na kl : Addr) (d : Nat), vs = [.ref dl, .ref na, .ref kl, .int ((d : Int) + 1)] ∧ d < n ∧ Env4 c H dl na kl ∧ spGen c true (d + 1) dl na kl H Q
theorem args5 {a b c d : V} {x y : Int} (h : x = y) : [a, b, c, d, V.int x] ++ [] = [a, b, c, d, V.int y] := by rw [h]; rfl
theorem args4 {a b c : V} {x y : Int} (h : x = y) : [a, b, c, V.int x] ++ [] = [a, b, c, V.int y] := by rw [h]; rfl
theorem three {r : Int} (h0 : 0 ≤ r) (h1 : r < 3) : r = 0 ∨ r = 1 ∨ r = 2 := by omega
theorem kS3 {r : Int} (h0 : 0 ≤ r) (h1 : r < 3) : ∃ k : Str, atI [V.str "count", V.str "money", V.str "rate"] r = some (.str k) ∧ KindS false k := by
  rcases three h0 h1 with rfl | rfl | rfl
  · exact ⟨_, at0, .inr ⟨rfl, .inl rfl⟩⟩
  · exact ⟨_, at1, .inr ⟨rfl, .inr (.inl rfl)⟩⟩
  · exact ⟨_, at2, .inr ⟨rfl, .inr (.inr rfl)⟩⟩
theorem cmp3 {r : Int} (h0 : 0 ≤ r) (h1 : r < 3) : ∃ o : BW, atI [V.str "less", V.str "atmost", V.str "equal"] r = some (.str o.s) ∧ o.log = false ∧ o.cmp = true := by
  rcases three h0 h1 with rfl | rfl | rfl
  · exact ⟨.less, at0, rfl, rfl⟩
  · exact ⟨.atmost, at1, rfl, rfl⟩
  · exact ⟨.equal, at2, rfl, rfl⟩
theorem log2 {r : Int} (h0 : 0 ≤ r) (h1 : r < 2) : ∃ o : BW, atI [V.str "and", V.str "or"] r = some (.str o.s) ∧ o.log = true := by
  have : r = 0 ∨ r = 1 := by omega
  rcases this with rfl | rfl
  · exact ⟨.and, at0, rfl⟩
  · exact ⟨.or, at1, rfl⟩
theorem tim3 {r : Int} (h0 : 0 ≤ r) (h1 : r < 3) : ∃ o : TW, atI [V.str "ever", V.str "always", V.str "before"] r = some (.str o.s) := by
  rcases three h0 h1 with rfl | rfl | rfl
  · exact ⟨.ever, at0⟩
  · exact ⟨.always, at1⟩
  · exact ⟨.before, at2⟩
theorem num4 {r : Int} (h0 : 0 ≤ r) (h1 : r < 4) : ∃ o : BW, atI [V.str "add", V.str "subtract", V.str "min", V.str "max"] r = some (.str o.s) ∧ o.log = false ∧ o.cmp = false := by
  have : r = 0 ∨ r = 1 ∨ r = 2 ∨ r = 3 := by omega
  rcases this with rfl | rfl | rfl | rfl
  · exact ⟨.add, at0, rfl, rfl⟩
  · exact ⟨.subtract, at1, rfl, rfl⟩
  · exact ⟨.min, at2, rfl, rfl⟩
  · exact ⟨.max, at3, rfl, rfl⟩
theorem kTruth : KindS true "truth" := .inl ⟨rfl, rfl⟩
section
variable {P : Program} {w : World} {K : PySem.W.Frag} {mg : Str → Option Value} {base : Heap}
theorem ok_ltruth (T : Tx K mg w) (c : GC) {n j : Nat} (hj : 1 ≤ j) (Gb : FnOk P w K mg base CX0 j T.law_built.a T.law_built.d p_law_built (spBuilt c n)) :
    FnOk P w K mg base CX0 (j + 1) T.law_truth.a T.law_truth.d p_law_truth (spTr c n) := by
  have Gt : FnOk P w K mg base CX0 1 T.law_take.a T.law_take.d p_law_take spTake := ok_take T
  refine T.law_truth.F.ok sc_law_truth (fun vs H Q E h => ?_) (fun cdv A outer s H vs Q E hr h => ?_)
  · obtain ⟨dl, na, kl, d, rfl, _⟩ := h
    rfl
  · obtain ⟨dl, na, kl, d, rfl, hn, hE, k⟩ := h
    have hr1 : Room 1 _ := hr.mono hj
    refine ⟨_, pss_cons (ps_set (i := 4) sc_law_truth.nd rfl (Or.inl rfl) (pe_call Gt hr1 rfl T.law_take.g T.law_take.F.kp T.law_take.b .nil pass0 (pa_cons (pv 0) (pa_cons pe_int pa_nil))))
      (pss_cons (ps_if (pt_cmpR op_lt (pv 4) pe_int (nomark _))
        (pss_cons (ps_set (i := 5) sc_law_truth.nd rfl (Or.inl rfl) (pe_ix ix_list (pe_lst (pa_cons pe_str (pa_cons pe_str (pa_cons pe_str pa_nil)))) (pe_call Gt hr1 rfl T.law_take.g T.law_take.F.kp T.law_take.b .nil pass0 (pa_cons (pv 0) (pa_cons pe_int pa_nil))) (fun _ _ => rfl)))
        (pss_cons (ps_set (i := 6) sc_law_truth.nd rfl (Or.inl rfl) (pe_call Gb hr rfl T.law_built.g T.law_built.F.kp T.law_built.b .nil pass0 (pa_cons (pv 0) (pa_cons (pv 5) (pa_cons (pv 1) (pa_cons (pv 2) (pa_cons (pe_op op_sub (pv 3) pe_int) pa_nil)))))))
        (pss_one (ps_ret (pe_tup (pa_cons (pe_ix ix_list (pe_lst (pa_cons pe_str (pa_cons pe_str (pa_cons pe_str pa_nil)))) (pv 4) (fun _ _ => rfl)) (pa_cons (pv 6) (pa_cons (pe_call Gb hr rfl T.law_built.g T.law_built.F.kp T.law_built.b .nil pass0 (pa_cons (pv 0) (pa_cons (pv 5) (pa_cons (pv 1) (pa_cons (pv 2) (pa_cons (pe_op op_sub (pv 3) pe_int) pa_nil)))))) pa_nil)))))))) pss_nil)
      (pss_cons (ps_if (pt_cmpR op_eq (pv 4) pe_int (nomark _))
        (pss_one (ps_ret (pe_tup (pa_cons pe_str (pa_cons (pe_call Gb hr rfl T.law_built.g T.law_built.F.kp T.law_built.b .nil pass0 (pa_cons (pv 0) (pa_cons pe_str (pa_cons (pv 1) (pa_cons (pv 2) (pa_cons (pe_op op_sub (pv 3) pe_int) pa_nil)))))) pa_nil))))) pss_nil)
      (pss_cons (ps_if (pt_cmpR op_lt (pv 4) pe_int (nomark _))
        (pss_cons (ps_set (i := 6) sc_law_truth.nd rfl (Or.inl rfl) (pe_call Gb hr rfl T.law_built.g T.law_built.F.kp T.law_built.b .nil pass0 (pa_cons (pv 0) (pa_cons pe_str (pa_cons (pv 1) (pa_cons (pv 2) (pa_cons (pe_op op_sub (pv 3) pe_int) pa_nil)))))))
        (pss_one (ps_ret (pe_tup (pa_cons (pe_ix ix_list (pe_lst (pa_cons pe_str (pa_cons pe_str pa_nil))) (pe_op op_sub (pv 4) pe_int) (fun _ _ => rfl)) (pa_cons (pv 6) (pa_cons (pe_call Gb hr rfl T.law_built.g T.law_built.F.kp T.law_built.b .nil pass0 (pa_cons (pv 0) (pa_cons pe_str (pa_cons (pv 1) (pa_cons (pv 2) (pa_cons (pe_op op_sub (pv 3) pe_int) pa_nil)))))) pa_nil))))))) pss_nil)
      (pss_cons (ps_set (i := 7) sc_law_truth.nd rfl (Or.inl rfl) (pe_op op_add pe_int (pe_call Gt hr1 rfl T.law_take.g T.law_take.F.kp T.law_take.b .nil pass0 (pa_cons (pv 0) (pa_cons pe_int pa_nil)))))
      (pss_one (ps_ret (pe_tup (pa_cons (pe_ix ix_list (pe_lst (pa_cons pe_str (pa_cons pe_str (pa_cons pe_str pa_nil)))) (pe_op op_sub (pv 4) pe_int) (fun _ _ => rfl)) (pa_cons (pv 7) (pa_cons (pe_call Gb hr rfl T.law_built.g T.law_built.F.kp T.law_built.b .nil pass0 (pa_cons (pv 0) (pa_cons pe_str (pa_cons (pv 1) (pa_cons (pv 2) (pa_cons (pe_op op_sub (pv 3) pe_int) pa_nil)))))) pa_nil)))))))))), ?_⟩
    have ed : (d : Int) + 1 - 1 = (d : Int) := by omega
    refine ⟨_, rfl, dl, 9, rfl, by decide, hE.dr, fun r H1 r0 r1 k1 hD1 => ?_⟩
    have h1 := hE.kp k1 hD1
    refine ⟨_, rfl, _, _, rfl, rfl, _, rfl, ?_⟩
    refine ite2 (fun q => ?_) (fun q => ?_)
    · -- two numbers compared
      have q : r < 3 := of_decide_eq_true q
      refine ⟨by show 3 ≤ sizeLine; decide, fun p hp => ?_⟩
      have hp1 : (upd H1 p (.lst [V.str "count", V.str "money", V.str "rate"])) p = some (.lst [V.str "count", V.str "money", V.str "rate"]) := upd_same
      have k2 : Kp [dl] H1 (upd H1 p (.lst [V.str "count", V.str "money", V.str "rate"])) := .new hp
      have h2 := h1.new (o := .lst [V.str "count", V.str "money", V.str "rate"]) hp
      have npd : p ≠ dl := by
        obtain ⟨ds, e⟩ := h1.dr
        exact (ne_of_none e hp).symm
      generalize upd H1 p (.lst [V.str "count", V.str "money", V.str "rate"]) = H2 at *
      refine ⟨_, rfl, dl, 3, rfl, by decide, h2.dr, fun r3 H3 r30 r31 k3 hD3 => ?_⟩
      obtain ⟨kd, hkd, hks⟩ := kS3 r30 r31
      have h3 := h2.kp k3 hD3
      refine ⟨p, _, _, _, rfl, rfl, SqL.of (k3.keep _ _ hp1 (not1 npd)), hkd, ?_⟩
      refine ⟨_, rfl, _, rfl, _, rfl, _, rfl, _, rfl, _, _, rfl, rfl, dl, na, kl, kd, d, false, args5 ed, hks, hn, h3, fun a e H4 k4 h4 ha hg => ?_⟩
      refine ⟨by show 3 ≤ sizeLine; decide, fun p2 hp2 => ?_⟩
      have hp3 : (upd H4 p2 (.lst [V.str "less", V.str "atmost", V.str "equal"])) p2 = some (.lst [V.str "less", V.str "atmost", V.str "equal"]) := upd_same
      have k5 : Kp [dl] H4 (upd H4 p2 (.lst [V.str "less", V.str "atmost", V.str "equal"])) := .new hp2
      have h5 := h4.new (o := .lst [V.str "less", V.str "atmost", V.str "equal"]) hp2
      generalize upd H4 p2 (.lst [V.str "less", V.str "atmost", V.str "equal"]) = H5 at *
      obtain ⟨o, ho, hl, hc⟩ := cmp3 r0 q
      refine ⟨_, rfl, p2, _, _, _, rfl, rfl, SqL.of hp3, ho, _, rfl, _, rfl, _, rfl, _, rfl, _, rfl, _, rfl, _, _, rfl, rfl, dl, na, kl, kd, d, false, args5 ed, hks, hn, h5, fun b f H6 k6 h6 hb hf => ?_⟩
      refine ⟨by show 3 ≤ sizeLine; decide, fun t ht => ?_⟩
      have k7 : Kp [dl] H6 (upd H6 t (.tup [.str o.s, .ref a, .ref b])) := .new ht
      refine k t (.bin o e f) _ ((((((k1.trans k2).trans k3).trans k4).trans k5).trans k6).trans k7) (h6.new ht) ⟨a, b, upd_same, ((ha.kp k5).kp k6).kp k7, hb.kp k7⟩ ?_
      have := gd_bin (o := o) (hl ▸ hg) (hl ▸ hf)
      rw [hl, hc] at this; exact this
    · have q : 3 ≤ r := Int.not_lt.mp fun z => q (decide_eq_true z)
      refine ⟨_, rfl, rfl, _, rfl, ?_⟩
      refine ite2 (fun _ => ?_) (fun q2 => ?_)
      · -- not
        refine ⟨_, rfl, _, rfl, _, rfl, _, rfl, _, _, rfl, rfl, dl, na, kl, "truth", d, true, args5 ed, kTruth, hn, h1, fun a e H4 k4 h4 ha hg => ?_⟩
        refine ⟨size2, fun t ht => ?_⟩
        have k7 : Kp [dl] H4 (upd H4 t (.tup [.str "not", .ref a])) := .new ht
        exact k t (.un e) _ ((k1.trans k4).trans k7) (h4.new ht) ⟨a, upd_same, ha.kp k7⟩ (gd_un hg)
      · have q2 : r ≠ 3 := fun z => q2 (decide_eq_true (by rw [z]))
        refine ⟨_, rfl, _, _, rfl, rfl, _, rfl, ?_⟩
        refine ite2 (fun q3 => ?_) (fun q3 => ?_)
        · -- and, or
          have q3 : r < 6 := of_decide_eq_true q3
          refine ⟨_, rfl, _, rfl, _, rfl, _, rfl, _, _, rfl, rfl, dl, na, kl, "truth", d, true, args5 ed, kTruth, hn, h1, fun a e H4 k4 h4 ha hg => ?_⟩
          refine ⟨by show 2 ≤ sizeLine; decide, fun p2 hp2 => ?_⟩
          have hp3 : (upd H4 p2 (.lst [V.str "and", V.str "or"])) p2 = some (.lst [V.str "and", V.str "or"]) := upd_same
          have k5 : Kp [dl] H4 (upd H4 p2 (.lst [V.str "and", V.str "or"])) := .new hp2
          have h5 := h4.new (o := .lst [V.str "and", V.str "or"]) hp2
          generalize upd H4 p2 (.lst [V.str "and", V.str "or"]) = H5 at *
          obtain ⟨o, ho, hl⟩ := log2 (r := r - 4) (by omega) (by omega)
          refine ⟨_, rfl, _, _, rfl, rfl, p2, _, _, _, rfl, rfl, SqL.of hp3, ho, _, rfl, _, rfl, _, rfl, _, rfl, _, rfl, _, _, rfl, rfl, dl, na, kl, "truth", d, true, args5 ed, kTruth, hn, h5, fun b f H6 k6 h6 hb hf => ?_⟩
          refine ⟨by show 3 ≤ sizeLine; decide, fun t ht => ?_⟩
          have k7 : Kp [dl] H6 (upd H6 t (.tup [.str o.s, .ref a, .ref b])) := .new ht
          refine k t (.bin o e f) _ ((((k1.trans k4).trans k5).trans k6).trans k7) (h6.new ht) ⟨a, b, upd_same, ((ha.kp k5).kp k6).kp k7, hb.kp k7⟩ ?_
          have := gd_bin (o := o) (hl ▸ hg) (hl ▸ hf)
          rw [hl, Bool.true_or] at this; exact this
        · -- timed
          have q3 : 6 ≤ r := Int.not_lt.mp fun z => q3 (decide_eq_true z)
          refine ⟨_, rfl, dl, 4, rfl, by decide, h1.dr, fun r4 H4 r40 r41 k4 hD4 => ⟨_, _, rfl, rfl, ?_⟩⟩
          have h4 := h1.kp k4 hD4
          refine ⟨by show 3 ≤ sizeLine; decide, fun p2 hp2 => ?_⟩
          have hp3 : (upd H4 p2 (.lst [V.str "ever", V.str "always", V.str "before"])) p2 = some (.lst [V.str "ever", V.str "always", V.str "before"]) := upd_same
          have k5 : Kp [dl] H4 (upd H4 p2 (.lst [V.str "ever", V.str "always", V.str "before"])) := .new hp2
          have h5 := h4.new (o := .lst [V.str "ever", V.str "always", V.str "before"]) hp2
          generalize upd H4 p2 (.lst [V.str "ever", V.str "always", V.str "before"]) = H5 at *
          obtain ⟨o, ho⟩ := tim3 (r := r - 6) (by omega) (by omega)
          obtain ⟨m, rfl⟩ := Int.eq_ofNat_of_zero_le r40
          refine ⟨_, rfl, _, _, rfl, rfl, p2, _, _, _, rfl, rfl, SqL.of hp3, ho, _, rfl, _, rfl, _, rfl, _, rfl, _, rfl, _, _, rfl, rfl, dl, na, kl, "truth", d, true, args5 ed, kTruth, hn, h5, fun b f H6 k6 h6 hb hf => ?_⟩
          refine ⟨by show 3 ≤ sizeLine; decide, fun t ht => ?_⟩
          have em : (1 : Int) + (m : Int) = ((1 + m : Nat) : Int) := by omega
          have k7 : Kp [dl] H6 (upd H6 t (.tup [.str o.s, .int (1 + (m : Int)), .ref b])) := .new ht
          exact k t (.timed o (1 + m) f) _ ((((k1.trans k4).trans k5).trans k6).trans k7) (h6.new ht) ⟨b, by rw [← em]; exact upd_same, hb.kp k7⟩ (gd_timed (by omega) hf)
theorem ok_built (T : Tx K mg w) (c : GC) : ∀ n : Nat, FnOk P w K mg base CX0 (5 + 2 * n) T.law_built.a T.law_built.d p_law_built (spBuilt c n)
  | 0 => ⟨fun vs H Q E h => by obtain ⟨_, _, _, _, _, _, _, _, h, _⟩ := h; exact absurd h (Nat.not_lt_zero _), fun A outer s H args us vs Q E _ _ _ _ h => by obtain ⟨_, _, _, _, _, _, _, _, h, _⟩ := h; exact absurd h (Nat.not_lt_zero _)⟩
  | n + 1 => by
    have Gb : FnOk P w K mg base CX0 (5 + 2 * n) T.law_built.a T.law_built.d p_law_built (spBuilt c n) := ok_built T c n
    have Gr : FnOk P w K mg base CX0 (5 + 2 * n + 1) T.law_truth.a T.law_truth.d p_law_truth (spTr c n) := ok_ltruth T c (by omega) Gb
    have Gl : FnOk P w K mg base CX0 4 T.law_leaf.a T.law_leaf.d p_law_leaf (spLeaf c) := ok_leaf T c
    have Gt : FnOk P w K mg base CX0 1 T.law_take.a T.law_take.d p_law_take spTake := ok_take T
    have Gf : FnOk P w K mg base CX0 2 T.law_factors.a T.law_factors.d p_law_factors spFactors := ok_factors T
    refine T.law_built.F.ok sc_law_built (k := 5 + 2 * n + 1) (fun vs H Q E h => ?_) (fun cdv A outer s H vs Q E hr h => ?_)
    · obtain ⟨dl, na, kl, kind, d, s, rfl, _⟩ := h
      rfl
    · obtain ⟨dl, na, kl, kind, d, s, rfl, hk, hn, hE, k⟩ := h
      have hr1 : Room 1 _ := hr.mono (by omega)
      have hrb : Room (5 + 2 * n) _ := hr.mono (by omega)
      refine ⟨_, pss_cons (ps_set (i := 5) sc_law_built.nd rfl (Or.inl rfl) (pe_call Gt hr1 rfl T.law_take.g T.law_take.F.kp T.law_take.b .nil pass0 (pa_cons (pv 0) (pa_cons pe_int pa_nil))))
        (pss_cons (ps_if (PW.pt (pw_or (pt_cmpR op_lt (pv 4) pe_int (nomark _)) (pw_or1 (pt_cmpR op_eq (pv 5) pe_int (nomark _))))) (pss_one (ps_ret (pe_call Gl (hr.mono (by omega)) rfl T.law_leaf.g T.law_leaf.F.kp T.law_leaf.b .nil pass0 (pa_cons (pv 0) (pa_cons (pv 1) (pa_cons (pv 2) (pa_cons (pv 3) pa_nil))))))) pss_nil)
        (pss_cons (ps_if (pt_cmpR op_eq (pv 5) pe_int (nomark _))
          (pss_cons (ps_set (i := 6) sc_law_built.nd rfl (Or.inl rfl) (pe_call Gb hrb rfl T.law_built.g T.law_built.F.kp T.law_built.b .nil pass0 (pa_cons (pv 0) (pa_cons pe_str (pa_cons (pv 2) (pa_cons (pv 3) (pa_cons (pe_op op_sub (pv 4) pe_int) pa_nil)))))))
          (pss_cons (ps_set (i := 7) sc_law_built.nd rfl (Or.inl rfl) (pe_call Gb hrb rfl T.law_built.g T.law_built.F.kp T.law_built.b .nil pass0 (pa_cons (pv 0) (pa_cons (pv 1) (pa_cons (pv 2) (pa_cons (pv 3) (pa_cons (pe_op op_sub (pv 4) pe_int) pa_nil)))))))
          (pss_one (ps_ret (pe_tup (pa_cons pe_str (pa_cons (pv 6) (pa_cons (pv 7) (pa_cons (pe_call Gb hrb rfl T.law_built.g T.law_built.F.kp T.law_built.b .nil pass0 (pa_cons (pv 0) (pa_cons (pv 1) (pa_cons (pv 2) (pa_cons (pv 3) (pa_cons (pe_op op_sub (pv 4) pe_int) pa_nil)))))) pa_nil))))))))) pss_nil)
        (pss_cons (ps_if (pt_cmpR op_eq (pv 1) pe_str (nomark _)) (pss_one (ps_ret (pe_call Gr hr rfl T.law_truth.g T.law_truth.F.kp T.law_truth.b .nil pass0 (pa_cons (pv 0) (pa_cons (pv 2) (pa_cons (pv 3) (pa_cons (pv 4) pa_nil))))))) pss_nil)
        (pss_cons (ps_if (pt_cmpR op_lt (pv 5) pe_int (nomark _))
          (pss_cons (ps_set (i := 8) sc_law_built.nd rfl (Or.inl rfl) (pe_call Gf (hr.mono (by omega)) rfl T.law_factors.g T.law_factors.F.kp T.law_factors.b .nil pass0 (pa_cons (pv 0) (pa_cons (pv 1) pa_nil))))
          (pss_cons (ps_set (i := 7) sc_law_built.nd rfl (Or.inl rfl) (pe_call Gb hrb rfl T.law_built.g T.law_built.F.kp T.law_built.b .nil pass0 (pa_cons (pv 0) (pa_cons (pe_ix ix_list (pv 8) pe_int (fun _ _ => rfl)) (pa_cons (pv 2) (pa_cons (pv 3) (pa_cons (pe_op op_sub (pv 4) pe_int) pa_nil)))))))
          (pss_one (ps_ret (pe_tup (pa_cons pe_str (pa_cons (pv 7) (pa_cons (pe_call Gb hrb rfl T.law_built.g T.law_built.F.kp T.law_built.b .nil pass0 (pa_cons (pv 0) (pa_cons (pe_ix ix_list (pv 8) pe_int (fun _ _ => rfl)) (pa_cons (pv 2) (pa_cons (pv 3) (pa_cons (pe_op op_sub (pv 4) pe_int) pa_nil)))))) pa_nil)))))))) pss_nil)
        (pss_cons (ps_set (i := 7) sc_law_built.nd rfl (Or.inl rfl) (pe_call Gb hrb rfl T.law_built.g T.law_built.F.kp T.law_built.b .nil pass0 (pa_cons (pv 0) (pa_cons (pv 1) (pa_cons (pv 2) (pa_cons (pv 3) (pa_cons (pe_op op_sub (pv 4) pe_int) pa_nil)))))))
        (pss_one (ps_ret (pe_tup (pa_cons (pe_ix ix_list (pe_lst (pa_cons pe_str (pa_cons pe_str (pa_cons pe_str (pa_cons pe_str pa_nil))))) (pe_op op_sub (pv 5) pe_int) (fun _ _ => rfl)) (pa_cons (pv 7) (pa_cons (pe_call Gb hrb rfl T.law_built.g T.law_built.F.kp T.law_built.b .nil pass0 (pa_cons (pv 0) (pa_cons (pv 1) (pa_cons (pv 2) (pa_cons (pv 3) (pa_cons (pe_op op_sub (pv 4) pe_int) pa_nil)))))) pa_nil))))))))))), ?_⟩
      refine ⟨_, rfl, dl, 8, rfl, by decide, hE.dr, fun r H1 r0 r1 k1 hD1 => ?_⟩
      have h1 := hE.kp k1 hD1
      have leaf : tRet (tCall (spLeaf c) [] E0 (tCons (tVar 0) (tCons (tVar 1) (tCons (tVar 2) (tCons (tVar 3) tNil))))) { nx := fun _ H' => Q .non H', rt := Q } [some (.ref dl), some (.str kind), some (.ref na), some (.ref kl), some (.int d), some (.int r), none, none, none] H1 :=
        ⟨_, rfl, _, rfl, _, rfl, _, rfl, dl, na, kl, kind, s, rfl, hk, h1, fun a e H2 k2 h2 ha hg => k a e H2 (k1.trans k2) h2 ha (hg.mono (Nat.zero_le _))⟩
      refine ⟨_, rfl, _, _, rfl, rfl, _, rfl, ?_⟩
      refine ite2 (fun _ => ifT rfl leaf) (fun hd => ?_)
      have hd : 1 ≤ d := by
        have : ¬ ((d : Int) < 1) := fun z => hd (decide_eq_true z)
        omega
      obtain ⟨d, rfl⟩ : ∃ m, d = m + 1 := ⟨d - 1, by omega⟩
      have ed : ((d + 1 : Nat) : Int) - 1 = (d : Int) := by omega
      have hn' : d < n := by omega
      refine ⟨_, rfl, rfl, _, rfl, ?_⟩
      refine ite2 (fun _ => leaf) (fun q0 => ?_)
      have q0 : r ≠ 0 := fun z => q0 (decide_eq_true (by rw [z]))
      refine ⟨_, rfl, rfl, _, rfl, ?_⟩
      refine ite2 (fun _ => ?_) (fun q1 => ?_)
      · -- if
        refine ⟨_, rfl, _, rfl, _, rfl, _, rfl, _, _, rfl, rfl, dl, na, kl, "truth", d, true, args5 ed, kTruth, hn', h1, fun a e H2 k2 h2 ha hg => ?_⟩
        refine ⟨_, rfl, _, rfl, _, rfl, _, rfl, _, rfl, _, _, rfl, rfl, dl, na, kl, kind, d, s, args5 ed, hk, hn', h2, fun b f H3 k3 h3 hb hf => ?_⟩
        refine ⟨_, rfl, _, rfl, _, rfl, _, rfl, _, rfl, _, rfl, _, rfl, _, _, rfl, rfl, dl, na, kl, kind, d, s, args5 ed, hk, hn', h3, fun x g H4 k4 h4 hx hg2 => ?_⟩
        refine ⟨by show 4 ≤ sizeLine; decide, fun t ht => ?_⟩
        have k5 : Kp [dl] H4 (upd H4 t (.tup [.str "if", .ref a, .ref b, .ref x])) := .new ht
        exact k t (.ite e f g) _ ((((k1.trans k2).trans k3).trans k4).trans k5) (h4.new ht) ⟨a, b, x, upd_same, ((ha.kp k3).kp k4).kp k5, (hb.kp k4).kp k5, hx.kp k5⟩ (gd_ite hg hf hg2)
      · refine ⟨_, rfl, rfl, _, rfl, ?_⟩
        rcases hk with ⟨rfl, rfl⟩ | ⟨rfl, hkn⟩
        · refine ifT (by decide +kernel) ?_
          refine ⟨_, rfl, _, rfl, _, rfl, _, rfl, dl, na, kl, d, args4 (show ((d + 1 : Nat) : Int) = (d : Int) + 1 by omega), hn', h1, fun a e H2 k2 h2 ha hg => k a e H2 (k1.trans k2) h2 ha hg⟩
        · have nt : decide (V.str kind = V.str "truth") = false := by rcases hkn with rfl | rfl | rfl <;> decide +kernel
          have hk : KindS false kind := .inr ⟨rfl, hkn⟩
          refine ifF nt ?_
          refine ⟨_, rfl, _, _, rfl, rfl, _, rfl, ?_⟩
          refine ite2 (fun _ => ?_) (fun q4 => ?_)
          · -- multiply
            refine ⟨_, rfl, _, rfl, dl, kind, rfl, hk, h1.dr, fun p c1 c2 H2 k2 hD2 hp hp2 hc1 hc2 => ?_⟩
            have h2 := h1.kp k2 hD2
            have npd : p ≠ dl := by
              obtain ⟨ds, e⟩ := h1.dr
              exact (ne_of_none e hp).symm
            refine ⟨_, rfl, _, rfl, p, _, _, _, rfl, rfl, SqL.of hp2, at0, _, rfl, _, rfl, _, rfl, _, _, rfl, rfl, dl, na, kl, c1, d, false, args5 ed, hc1, hn', h2, fun a e H3 k3 h3 ha hg => ?_⟩
            refine ⟨_, rfl, _, rfl, _, rfl, p, _, _, _, rfl, rfl, SqL.of (k3.keep _ _ hp2 (not1 npd)), at1, _, rfl, _, rfl, _, rfl, _, _, rfl, rfl, dl, na, kl, c2, d, false, args5 ed, hc2, hn', h3, fun b f H4 k4 h4 hb hf => ?_⟩
            refine ⟨by show 3 ≤ sizeLine; decide, fun t ht => ?_⟩
            have k5 : Kp [dl] H4 (upd H4 t (.tup [.str "multiply", .ref a, .ref b])) := .new ht
            exact k t (.bin .multiply e f) _ ((((k1.trans k2).trans k3).trans k4).trans k5) (h4.new ht) ⟨a, b, upd_same, (ha.kp k4).kp k5, hb.kp k5⟩ (gd_bin (o := .multiply) hg hf)
          · have q4 : 4 ≤ r := Int.not_lt.mp fun z => q4 (decide_eq_true z)
            refine ⟨_, rfl, _, rfl, _, rfl, _, rfl, _, rfl, _, _, rfl, rfl, dl, na, kl, kind, d, false, args5 ed, hk, hn', h1, fun a e H4 k4 h4 ha hg => ?_⟩
            refine ⟨by show 4 ≤ sizeLine; decide, fun p2 hp2 => ?_⟩
            have hp3 : (upd H4 p2 (.lst [V.str "add", V.str "subtract", V.str "min", V.str "max"])) p2 = some (.lst [V.str "add", V.str "subtract", V.str "min", V.str "max"]) := upd_same
            have k5 : Kp [dl] H4 (upd H4 p2 (.lst [V.str "add", V.str "subtract", V.str "min", V.str "max"])) := .new hp2
            have h5 := h4.new (o := .lst [V.str "add", V.str "subtract", V.str "min", V.str "max"]) hp2
            generalize upd H4 p2 (.lst [V.str "add", V.str "subtract", V.str "min", V.str "max"]) = H5 at *
            obtain ⟨o, ho, hl, hc⟩ := num4 (r := r - 4) (by omega) (by omega)
            refine ⟨_, rfl, _, _, rfl, rfl, p2, _, _, _, rfl, rfl, SqL.of hp3, ho, _, rfl, _, rfl, _, rfl, _, rfl, _, rfl, _, rfl, _, _, rfl, rfl, dl, na, kl, kind, d, false, args5 ed, hk, hn', h5, fun b f H6 k6 h6 hb hf => ?_⟩
            refine ⟨by show 3 ≤ sizeLine; decide, fun t ht => ?_⟩
            have k7 : Kp [dl] H6 (upd H6 t (.tup [.str o.s, .ref a, .ref b])) := .new ht
            refine k t (.bin o e f) _ ((((k1.trans k4).trans k5).trans k6).trans k7) (h6.new ht) ⟨a, b, upd_same, ((ha.kp k5).kp k6).kp k7, hb.kp k7⟩ ?_
            have := gd_bin (o := o) (hl ▸ hg) (hl ▸ hf)
            rw [hl, hc] at this; exact this
end
end KW
set_option maxRecDepth 100000
set_option maxHeartbeats 4000000
/-! lets -/
namespace KW
open PySem L2
def bb (i : Nat) : Nat := 31 * 4 ^ i
def ss : Nat → Nat
  | 0 => 1
  | i + 1 => 1 + 16 * ss i
theorem bb_pos (i : Nat) : 31 ≤ bb i := Nat.le_mul_of_pos_right 31 (Nat.pow_pos (by decide))
theorem ss_pos : ∀ i : Nat, 1 ≤ ss i
  | 0 => Nat.le_refl _
  | i + 1 => by show 1 ≤ 1 + 16 * ss i; omega
theorem bb_s (i : Nat) : bb (i + 1) = 4 * bb i := by unfold bb; rw [Nat.pow_succ]; omega
theorem ss_s (i : Nat) : ss (i + 1) = 1 + 16 * ss i := rfl
def gc (A B : Str → Prop) (ls : List (Str × Ex)) (i : Nat) : GC := ⟨lk ls, A, B, bb i, ss i, 3 * i, bb_pos i, ss_pos i⟩
theorem Con.mono {L L' : Str → Option Ex} (h : ∀ n b, L n = some b → L' n = some b) : ∀ {e : Ex}, Con L e → Con L' e
  | .lit _ _, _ => trivial
  | .ref _ n, c => c
  | .nam n b, ⟨c1, c2, c3⟩ => ⟨c1, h _ _ c2, Con.mono h c3⟩
  | .tt _, _ => trivial
  | .un c, h1 => Con.mono (e := c) h h1
  | .bin _ e f, ⟨h1, h2⟩ => ⟨Con.mono h h1, Con.mono h h2⟩
  | .ite c e f, ⟨h1, h2, h3⟩ => ⟨Con.mono h h1, Con.mono h h2, Con.mono h h3⟩
  | .timed _ _ c, h1 => Con.mono (e := c) h h1
theorem lk_app {ls : List (Str × Ex)} {n m : Str} {b x : Ex} (h : lk ls m = some x) : lk (ls ++ [(n, b)]) m = some x := by
  induction ls with
  | nil => simp [lk] at h
  | cons p r ih =>
    rw [List.cons_append]
    by_cases e : p.1 = m
    · rw [lk_pos e] at h ⊢; exact h
    · rw [lk_neg e] at h ⊢; exact ih h
theorem lk_new {ls : List (Str × Ex)} {n : Str} {b : Ex} (h : n ∉ ls.map (·.1)) : lk (ls ++ [(n, b)]) n = some b := by
  induction ls with
  | nil => exact lk_pos rfl
  | cons p r ih =>
    rw [List.cons_append, lk_neg (fun z => h (by rw [← z]; simp))]
    exact ih fun z => h (by simp at z ⊢; exact .inr z)
theorem LetOk.up {A B : Str → Prop} {ls ls' : List (Str × Ex)} {i i' : Nat} {n : Str} {b : Ex} (h : LetOk (gc A B ls i) n b) (hl : ∀ n b, lk ls n = some b → lk ls' n = some b) (hi : i ≤ i') : LetOk (gc A B ls' i') n b := by
  have h1 : ∀ {i j : Nat}, i ≤ j → bb i ≤ bb j ∧ ss i ≤ ss j := fun hij => by
    induction hij with
    | refl => exact ⟨Nat.le_refl _, Nat.le_refl _⟩
    | step _ ih => exact ⟨Nat.le_trans ih.1 (by rw [bb_s]; omega), Nat.le_trans ih.2 (by rw [ss_s]; omega)⟩
  obtain ⟨h2, h3⟩ := h1 hi
  exact ⟨h.nm, hl _ _ h.at_, h.con.mono hl, h.wt, h.ref, Nat.le_trans h.bits h2, Nat.le_trans h.sz h3, Nat.le_trans h.dp (by show 3 * i ≤ 3 * i'; omega)⟩
/-- seven names at na -/
def Nm7 (A B : Str → Prop) (H : Hp) (na : Addr) : Prop := ∃ ns : List Str, H na = some (.lst (ns.map V.str)) ∧ ns.length = 7 ∧ (∀ x ∈ ns, NameOk x) ∧ (∀ (i : Nat) n, i < 3 → ns[i]? = some n → A n) ∧ ∀ (i : Nat) n, 3 ≤ i → i < 5 → ns[i]? = some n → B n
section
variable {P : Program} {w : World} {K : PySem.W.Frag} {mg : Str → Option Value} {base : Heap}
def spLets (A B : Str → Prop) : Sp := fun vs H Q _ => ∃ (dl na : Addr), vs = [.ref dl, .ref na] ∧ Dr H dl ∧ na ≠ dl ∧ Nm7 A B H na ∧
  ∀ r la kl ls H', Kp [dl] H H' → H r = none → H la = none → H kl = none → H' r = some (.lst [.ref la, .ref kl]) → LetsL H' la ls → Env4 (gc A B ls 2) H' dl na kl → (ls.map (·.1)).Nodup → ls.length ≤ 2 → (∀ nb ∈ ls, LetOk (gc A B ls 2) nb.1 nb.2) → Q (.ref r) H'
theorem ok_lets (T : Tx K mg w) (A B : Str → Prop) : FnOk P w K mg base CX0 12 T.law_lets.a T.law_lets.d p_law_lets (spLets A B) := by
  have Gt : FnOk P w K mg base CX0 1 T.law_take.a T.law_take.d p_law_take spTake := ok_take T
  have Gn : FnOk P w K mg base CX0 2 T.law_names.a T.law_names.d p_law_names spNames := ok_names T
  have Gb : ∀ c : GC, FnOk P w K mg base CX0 11 T.law_built.a T.law_built.d p_law_built (spBuilt c 3) := fun c => ok_built T c 3
  -- whatever the lets: one promise for all
  have Gb' : FnOk P w K mg base CX0 11 T.law_built.a T.law_built.d p_law_built (fun vs H Q E => ∃ c : GC, spBuilt c 3 vs H Q E) :=
    ⟨fun vs H Q E ⟨c, h⟩ => (Gb c).len vs H Q E h, fun A outer s H args us vs Q E a b c d ⟨c', h⟩ => (Gb c').run A outer s H args us vs Q E a b c d h⟩
  refine T.law_lets.F.ok sc_law_lets (fun vs H Q E h => ?_) (fun cdv A' outer s H vs Q E hr h => ?_)
  · obtain ⟨dl, na, rfl, _⟩ := h
    rfl
  · obtain ⟨dl, na, rfl, hD, n1, hN, k⟩ := h
    have hr1 : Room 1 _ := hr.mono (by decide)
    refine ⟨_, pss_cons (ps_set (i := 2) sc_law_lets.nd rfl (Or.inl rfl) (pe_lst pa_nil)) (pss_cons (ps_set (i := 3) sc_law_lets.nd rfl (Or.inl rfl) (pe_lst pa_nil))
      (pss_cons (ps_for PySem.PassesOwn.never rfl (pi_list (pe_call Gn (hr.mono (by decide)) rfl T.law_names.g T.law_names.F.kp T.law_names.b .nil pass0 (pa_cons (pv 0) (pa_cons (pe_call Gt hr1 rfl T.law_take.g T.law_take.F.kp T.law_take.b .nil pass0 (pa_cons (pv 0) (pa_cons pe_int pa_nil))) pa_nil)))) (pg_name (i := 4) sc_law_lets.nd rfl (Or.inl rfl))
        (pss_cons (ps_set (i := 5) sc_law_lets.nd rfl (Or.inl rfl) (pe_ix ix_list (pe_lst (pa_cons pe_str (pa_cons pe_str (pa_cons pe_str pa_nil)))) (pe_call Gt hr1 rfl T.law_take.g T.law_take.F.kp T.law_take.b .nil pass0 (pa_cons (pv 0) (pa_cons pe_int pa_nil))) (fun _ _ => rfl)))
        (pss_cons (ps_expr (pe_bm PySem.F.plainAttrs_list PySem.F.slot_list_append PySem.F.type_list_append mt_append (pv 2) (pa_cons (pe_tup (pa_cons (pv 4) (pa_cons (pe_call Gb' hr rfl T.law_built.g T.law_built.F.kp T.law_built.b .nil pass0 (pa_cons (pv 0) (pa_cons (pv 5) (pa_cons (pv 1) (pa_cons (pv 3) (pa_cons pe_int pa_nil)))))) pa_nil))) pa_nil)))
        (pss_one (ps_set (i := 3) sc_law_lets.nd rfl (Or.inl rfl) (pe_op op_cat (pv 3) (pe_lst (pa_cons (pe_tup (pa_cons (pv 4) (pa_cons (pv 5) pa_nil))) pa_nil))))))))
      (pss_one (ps_ret (pe_lst (pa_cons (pv 2) (pa_cons (pv 3) pa_nil))))))), ?_⟩
    obtain ⟨ds0, hds⟩ := hD
    refine ⟨Nat.zero_le _, fun la hla => ⟨Nat.zero_le _, fun kl0 hkl0 => ?_⟩⟩
    have nla : la ≠ dl := (ne_of_none hds hla).symm
    have k0 : Kp [dl] H (upd H la (.lst [])) := .new hla
    have k0' : Kp [dl] (upd H la (.lst [])) (upd (upd H la (.lst [])) kl0 (.lst [])) := .new hkl0
    have nlk : la ≠ kl0 := ne_of_none upd_same hkl0
    have hla0 : (upd (upd H la (.lst [])) kl0 (.lst [])) la = some (.lst []) := by rw [upd_ne nlk, upd_same]
    have hkl1 : (upd (upd H la (.lst [])) kl0 (.lst [])) kl0 = some (.lst []) := upd_same
    have fkl0 : H kl0 = none := k0.free hkl0
    have nkl : kl0 ≠ dl := (ne_of_none hds fkl0).symm
    have hds0 : (upd (upd H la (.lst [])) kl0 (.lst [])) dl = some (.lst (ds0.map V.int)) := by rw [upd_ne nkl.symm, upd_ne nla.symm]; exact hds
    have kk0 := k0.trans k0'
    generalize upd (upd H la (.lst [])) kl0 (.lst []) = H0 at *
    refine ⟨_, rfl, _, rfl, dl, 3, rfl, by decide, ⟨ds0, hds0⟩, fun m H1 m0 m1 k1 hD1 => ?_⟩
    obtain ⟨m, rfl⟩ := Int.eq_ofNat_of_zero_le m0
    refine ⟨dl, m, rfl, by omega, hD1, fun p ns H2 k2 hD2 hp hp2 hnl hns hdif => ?_⟩
    have npd : p ≠ dl := by
      obtain ⟨ds, e⟩ := hD1
      exact (ne_of_none e hp).symm
    have hm2 : ns.length ≤ 2 := by omega
    have nnd : ns.Nodup := by
      match ns, hm2, hdif with
      | [], _, _ => exact List.nodup_nil
      | [a], _, _ => simp
      | [a, b], _, h => simp [h a b rfl]
    have hla2 := k2.keep _ _ (k1.keep _ _ hla0 (not1 nla)) (not1 nla)
    have hkl2 := k2.keep _ _ (k1.keep _ _ hkl1 (not1 nkl)) (not1 nkl)
    have npl : p ≠ la := fun z => by rw [z] at hp; rw [k1.keep _ _ hla0 (not1 nla)] at hp; cases hp
    have kk2 := (kk0.trans k1).trans k2
    obtain ⟨n7, g1, g2⟩ := hN
    have N2 : Nm7 A B H2 na := ⟨n7, kk2.keep _ _ g1 (not1 n1), g2⟩
    refine ⟨p, rfl, ⟨_, SqL.of hp2⟩, ?_⟩
    refine for_list (xs := ns.map V.str) (Pv := fun i σ H' => ∃ (kl : Addr) (y4 y5 : Option V) (ls : List (Str × Ex)), σ = [some (.ref dl), some (.ref na), some (.ref la), some (.ref kl), y4, y5] ∧ Kp [dl] H H' ∧ H' p = some (.lst (ns.map V.str)) ∧ H kl = none ∧ kl ≠ la ∧ LetsL H' la ls ∧ (∃ rs : List Addr, H' kl = some (.lst (rs.map V.ref)) ∧ rs.length ≤ i) ∧ Env4 (gc A B ls i) H' dl na kl ∧ ls.map (·.1) = ns.take i ∧ ∀ nb ∈ ls, LetOk (gc A B ls i) nb.1 nb.2)
      ⟨kl0, _, _, [], rfl, kk2, hp2, fkl0, Ne.symm nlk, ⟨[], hla2, .nil⟩, ⟨[], hkl2, Nat.le_refl _⟩, ⟨hD2, n1, nkl, N2, ⟨[], [], hkl2, .nil, by simp, by simp⟩⟩, by rw [List.take_zero]; rfl, by simp⟩ (fun i σ H' _ ⟨_, _, _, _, _, _, h, _⟩ => SqL.of h) ?_ ?_
    · rintro i x σ H3 hx ⟨kl, y4, y5, ls, rfl, k3, hp3, fkl, nkla, hL, ⟨rs0, hrs0, hrs1⟩, hE, hls, hok⟩
      rw [List.getElem?_map] at hx
      have il : i < ns.length := by
        rcases Nat.lt_or_ge i ns.length with z | z
        · exact z
        · rw [List.getElem?_eq_none z] at hx; cases hx
      rw [List.getElem?_eq_getElem il] at hx
      have hx : V.str ns[i] = x := Option.some.inj hx
      subst hx
      -- the kind
      refine ⟨by show 3 ≤ sizeLine; decide, fun q hq => ?_⟩
      have hq1 : (upd H3 q (.lst [V.str "count", V.str "money", V.str "rate"])) q = some (.lst [V.str "count", V.str "money", V.str "rate"]) := upd_same
      have k4 : Kp [dl] H3 (upd H3 q (.lst [V.str "count", V.str "money", V.str "rate"])) := .new hq
      have h4 := hE.new (o := .lst [V.str "count", V.str "money", V.str "rate"]) hq
      have nqd : q ≠ dl := by
        obtain ⟨ds, e⟩ := hE.dr
        exact (ne_of_none e hq).symm
      generalize upd H3 q (.lst [V.str "count", V.str "money", V.str "rate"]) = H4 at *
      refine ⟨_, rfl, dl, 3, rfl, by decide, h4.dr, fun r3 H5 r30 r31 k5 hD5 => ?_⟩
      obtain ⟨kd, hkd, hks⟩ := kS3 r30 r31
      have h5 := h4.kp k5 hD5
      refine ⟨q, _, _, _, rfl, rfl, SqL.of (k5.keep _ _ hq1 (not1 nqd)), hkd, ?_⟩
      -- the body
      have k35 := k4.trans k5
      have hL5 := hL.kp k35 (not1 nla)
      refine ⟨_, rfl, .inl ⟨rfl, by obtain ⟨ps, e, _⟩ := hL5; exact ⟨_, SqL.of e⟩⟩, _, rfl, _, rfl, _, rfl, _, rfl, _, rfl, gc A B ls i, dl, na, kl, kd, 2, false, rfl, hks, by decide, h5, fun a b H6 k6 h6 ha hg => ?_⟩
      have hL6 := hL5.kp k6 (not1 nla)
      obtain ⟨ps, hps1, hps2⟩ := hL6
      refine ⟨size2, fun t ht => ?_⟩
      have k7 : Kp [dl] H6 (upd H6 t (.tup [V.str ns[i], V.ref a])) := .new ht
      have ht7 : (upd H6 t (.tup [V.str ns[i], V.ref a])) t = some (.tup [V.str ns[i], V.ref a]) := upd_same
      have h7 := h6.new (o := .tup [V.str ns[i], V.ref a]) ht
      have hps7 := k7.keep _ _ hps1 (not1 nla)
      generalize upd H6 t (.tup [V.str ns[i], V.ref a]) = H7 at *
      have hlen : ps.length ≤ 10 := by
        have h1 := paired_len hps2
        have h2 := congrArg List.length hls
        rw [List.length_map, List.length_take] at h2
        omega
      refine ⟨la, _, _, rfl, rfl, hps7, ?_, ?_⟩
      · rw [List.length_map]
        exact Nat.lt_of_le_of_lt hlen (by decide)
      have k8 : Kp [la] H7 (upd H7 la (.lst (ps.map V.ref ++ [V.ref t]))) := .mut (by simp) hps7 (fun xs z => by cases z)
      have hla8 : (upd H7 la (.lst (ps.map V.ref ++ [V.ref t]))) la = some (.lst ((ps ++ [t]).map V.ref)) := by rw [upd_same, List.map_append]; rfl
      generalize upd H7 la (.lst (ps.map V.ref ++ [V.ref t])) = H8 at *
      have hD8 : Dr H8 dl := h7.dr.kp k8 (not1 (Ne.symm nla))
      have hna8 : na ≠ la := fun z => by
        obtain ⟨n7', g, g'⟩ := h7.nm
        rw [z] at g
        rw [hps7] at g
        have g := Option.some.inj g
        injection g with g
        have hl7 := congrArg List.length g
        rw [List.length_map, List.length_map, g'.1] at hl7
        have h7' := g'.1
        match ps, n7', hl7, h7' with
        | p0 :: _, n0 :: _, _, _ => simp at g
      -- the kinds
      obtain ⟨rs, ks, c1, c2, c3, c4⟩ := h7.kd
      have hkl8 := k8.keep _ _ c1 (not1 nkla)
      refine ⟨_, rfl, _, rfl, _, rfl, size2, fun t2 ht2 => ?_⟩
      have k9 : Kp [dl] H8 (upd H8 t2 (.tup [V.str ns[i], V.str kd])) := .new ht2
      have ht29 : (upd H8 t2 (.tup [V.str ns[i], V.str kd])) t2 = some (.tup [V.str ns[i], V.str kd]) := upd_same
      have hkl9 := k9.keep _ _ hkl8 (not1 hE.n2)
      have hla9 := k9.keep _ _ hla8 (not1 nla)
      have hD9 : Dr (upd H8 t2 (.tup [V.str ns[i], V.str kd])) dl := by
        obtain ⟨ds, e⟩ := hD8
        exact ⟨ds, by rw [upd_ne (ne_of_none e ht2)]; exact e⟩
      generalize upd H8 t2 (.tup [V.str ns[i], V.str kd]) = H9 at *
      refine ⟨by show 1 ≤ sizeLine; decide, fun u hu => ?_⟩
      have k10 : Kp [dl] H9 (upd H9 u (.lst [V.ref t2])) := .new hu
      have hu10 : (upd H9 u (.lst [V.ref t2])) u = some (.lst [V.ref t2]) := upd_same
      have hkl10 := k10.keep _ _ hkl9 (not1 hE.n2)
      have hla10 := k10.keep _ _ hla9 (not1 nla)
      have hD10 : Dr (upd H9 u (.lst [V.ref t2])) dl := by
        obtain ⟨ds, e⟩ := hD9
        exact ⟨ds, by rw [upd_ne (ne_of_none e hu)]; exact e⟩
      generalize upd H9 u (.lst [V.ref t2]) = H10 at *
      have hrl := paired_len c2
      refine ⟨kl, u, _, _, rfl, rfl, hkl10, hu10, ?_, fun kl2 hkl2 => ?_⟩
      · rw [List.length_map]
        exact Nat.le_trans (show rs.length + 1 ≤ 1000 by omega) (by decide)
      have k11 : Kp [dl] H10 (upd H10 kl2 (.lst (rs.map V.ref ++ [V.ref t2]))) := .new hkl2
      have hkl11 : (upd H10 kl2 (.lst (rs.map V.ref ++ [V.ref t2]))) kl2 = some (.lst ((rs ++ [t2]).map V.ref)) := by rw [upd_same, List.map_append]; rfl
      have nk2 : kl2 ≠ dl := by
        obtain ⟨ds, e⟩ := hD10
        exact (ne_of_none e hkl2).symm
      have nk2la : kl2 ≠ la := (ne_of_none hla10 hkl2).symm
      have hD11 : Dr (upd H10 kl2 (.lst (rs.map V.ref ++ [V.ref t2]))) dl := by
        obtain ⟨ds, e⟩ := hD10
        exact ⟨ds, by rw [upd_ne (Ne.symm nk2)]; exact e⟩
      generalize upd H10 kl2 (.lst (rs.map V.ref ++ [V.ref t2])) = H11 at *
      have k37 : Kp [dl] H3 H7 := (k35.trans k6).trans k7
      have k811 : Kp [dl] H8 H11 := (k9.trans k10).trans k11
      have kH8 : Kp [dl] H H8 := (k3.trans k37).on k8 fun s hs => .inr (by rw [List.mem_singleton.mp hs]; exact hla)
      have kH11 := kH8.trans k811
      have fk2 : H kl2 = none := ((kH8.trans k9).trans k10).free hkl2
      have hnew : ns[i] ∉ ls.map (·.1) := by
        rw [hls]
        intro z
        obtain ⟨j, hj, e⟩ := List.mem_iff_getElem.mp z
        have hj' : j < i := by rw [List.length_take] at hj; omega
        rw [List.getElem_take] at e
        have e1 : ns[j]? = some ns[i] := by rw [List.getElem?_eq_getElem (by omega), e]
        have := nd_ix nnd e1 (List.getElem?_eq_getElem il)
        omega
      have hlk : ∀ n x, lk ls n = some x → lk (ls ++ [(ns[i], b)]) n = some x := fun n x h => lk_app h
      have hlb : LetOk (gc A B (ls ++ [(ns[i], b)]) (i + 1)) ns[i] b := by
        refine ⟨hns _ (List.getElem_mem il), lk_new hnew, hg.con.mono hlk, hg.wt, hg.ref, ?_, ?_, ?_⟩
        · have := hg.bits; show bw b + 1 ≤ bb (i + 1); rw [bb_s]; exact this
        · have h := hg.sz
          have h : (subs b).length ≤ 16 * ss i := h
          show (subs b).length + 1 ≤ ss (i + 1); rw [ss_s]; omega
        · have h := hg.dp
          have h : dep b ≤ 2 + 3 * i := h
          show dep b + 1 ≤ 3 * (i + 1); omega
      have etake : ns.take (i + 1) = ns.take i ++ [ns[i]] := take_succ_of (List.getElem?_eq_getElem il)
      refine ⟨kl2, _, _, ls ++ [(ns[i], b)], rfl, kH11, ?_, fk2, nk2la, ⟨ps ++ [t], ?_, ?_⟩, ⟨rs ++ [t2], hkl11, ?_⟩, ⟨hD11, hE.n1, nk2, ?_, ⟨rs ++ [t2], ks ++ [(ns[i], kd)], hkl11, ?_, ?_, ?_⟩⟩, by rw [List.map_append, hls, etake]; rfl, ?_⟩
      · exact k811.keep _ _ (k8.keep _ _ (k37.keep _ _ hp3 (not1 npd)) (not1 npl)) (not1 npd)
      · exact k811.keep _ _ hla8 (not1 nla)
      · refine paired_snoc (F := LetP H11) ⟨a, k811.tup _ _ (k8.tup _ _ ht7), ((ha.kp k7).kp k8).kp k811⟩ ?_
        exact paired_imp (fun p nb ⟨x, e1, e2⟩ => ⟨x, k811.tup _ _ (k8.tup _ _ (k7.tup _ _ e1)), ((e2.kp k7).kp k8).kp k811⟩) hps2
      · have e := k37.keep _ _ hrs0 (not1 hE.n2)
        rw [c1] at e
        have e := Option.some.inj e
        injection e with e
        have := congrArg List.length e
        rw [List.length_map, List.length_map] at this
        rw [List.length_append]; show rs.length + 1 ≤ i + 1; omega
      · obtain ⟨n7', e1, e2⟩ := h7.nm
        exact ⟨n7', k811.keep _ _ (k8.keep _ _ e1 (not1 hna8)) (not1 hE.n1), e2⟩
      · refine paired_snoc (F := fun t (nk : Str × Str) => H11 t = some (.tup [.str nk.1, .str nk.2])) ((k10.trans k11).tup _ _ ht29) ?_
        exact paired_imp (fun t nk e => k811.tup _ _ (k8.tup _ _ e)) c2
      · have h2 : ks.length ≤ 3 := by
          have e := k37.keep _ _ hrs0 (not1 hE.n2)
          rw [c1] at e
          have e := Option.some.inj e
          injection e with e
          have := congrArg List.length e
          rw [List.length_map, List.length_map] at this
          omega
        rw [List.length_append]; show ks.length + 1 ≤ 10; omega
      · intro nk hnk
        rcases List.mem_append.mp hnk with z | z
        · obtain ⟨x, hx⟩ := c4 nk z
          exact ⟨x, hx.up hlk (Nat.le_succ _)⟩
        · have : nk = (ns[i], kd) := by simpa using z
          subst this
          exact ⟨b, hlb⟩
      · intro nb hnb
        rcases List.mem_append.mp hnb with z | z
        · exact (hok nb z).up hlk (Nat.le_succ _)
        · have : nb = (ns[i], b) := by simpa using z
          subst this
          exact hlb
    · rintro σ H3 ⟨kl, y4, y5, ls, rfl, k3, hp3, fkl, nkla, hL, ⟨rs0, hrs0, hrs1⟩, hE, hls, hok⟩
      rw [List.length_map] at hE hls hok
      rw [List.take_of_length_le (Nat.le_refl _)] at hls
      refine ⟨_, rfl, _, rfl, size2, fun r hr => ?_⟩
      have k4 : Kp [dl] H3 (upd H3 r (.lst [V.ref la, V.ref kl])) := .new hr
      have hlen : ls.length ≤ 2 := by
        have := congrArg List.length hls
        rw [List.length_map] at this; omega
      have up2 : ∀ n x, LetOk (gc A B ls ns.length) n x → LetOk (gc A B ls 2) n x := fun n x h => h.up (fun _ _ h => h) hm2
      have hE4 := hE.new (o := .lst [V.ref la, V.ref kl]) hr
      refine k r la kl ls _ (k3.trans k4) (k3.free hr) hla fkl upd_same (hL.kp k4 (not1 nla)) ⟨hE4.dr, hE4.n1, hE4.n2, hE4.nm, ?_⟩ (by rw [hls]; exact nnd) hlen fun nb h => up2 _ _ (hok nb h)
      obtain ⟨rs, ks, c1, c2, c3, c4⟩ := hE4.kd
      refine ⟨rs, ks, c1, c2, c3, fun nk h => ?_⟩
      obtain ⟨x, hx⟩ := c4 nk h
      exact ⟨x, up2 _ _ hx⟩
end
end KW
set_option maxRecDepth 100000
set_option maxHeartbeats 4000000
/-! history, day -/
namespace KW
open PySem L2
/-- facts (or rates) of all days at fd: rows of names and lists -/
structure HX (H : Hp) (fd : Addr) (D : Nat) (kvs : List (Key × V)) : Prop where
  at_ : H fd = some (.dK kvs)
  nd : (kvs.map (·.1)).Nodup
  few : kvs.length ≤ 3
  row : ∀ p ∈ kvs, ∃ n la fs, p = (Sum.inr n, .ref la) ∧ FrL H la fs ∧ fs.length = D ∧ ∀ f ∈ fs, FrOk f
  nm : ∀ p ∈ kvs, ∃ n, p.1 = Sum.inr n ∧ NameOk n
theorem put_row {κ : Type} [DecidableEq κ] {kvs : List (κ × V)} {k : κ} {v : V} {p : κ × V} (h : p ∈ putK kvs k v) : p ∈ kvs ∨ p = (k, v) := by
  unfold putK at h
  split at h
  · obtain ⟨q, hq, e⟩ := List.mem_map.mp h
    split at e
    · rename_i hk
      exact .inr (by rw [← e, hk])
    · exact .inl (e ▸ hq)
  · rcases List.mem_append.mp h with h | h
    · exact .inl h
    · exact .inr (by simpa using h)
theorem val_mem {κ : Type} [DecidableEq κ] {kvs : List (κ × V)} {k : κ} {v : V} (h : valV kvs k = some v) : (k, v) ∈ kvs := by
  unfold valV at h
  cases e : kvs.find? fun kv => decide (kv.1 = k) with
  | none => rw [e] at h; cases h
  | some p =>
    rw [e] at h
    have h : p.2 = v := Option.some.inj h
    have h1 := List.mem_of_find?_eq_some e
    have h2 : p.1 = k := of_decide_eq_true (List.find?_some (p := fun kv : κ × V => decide (kv.1 = k)) e)
    have : p = (k, v) := Prod.ext h2 h
    rw [← this]; exact h1
theorem val_of {κ : Type} [DecidableEq κ] {kvs : List (κ × V)} {k : κ} (h : k ∈ kvs.map (·.1)) : ∃ v, valV kvs k = some v := by
  cases e : valV kvs k with
  | some v => exact ⟨v, rfl⟩
  | none => exact absurd h (val_none_of e)
theorem HX.kp {S : List Addr} {H H' : Hp} {fd : Addr} {D : Nat} {kvs : List (Key × V)} (h : HX H fd D kvs) (k : Kp S H H') (h1 : fd ∉ S) (h2 : ∀ s ∈ S, ∀ xs, H s = some (.lst xs) → ∃ ds : List Int, xs = ds.map V.int) (hD : 0 < D) : HX H' fd D kvs := by
  refine ⟨k.keep _ _ h.at_ h1, h.nd, h.few, fun p hp => ?_, h.nm⟩
  obtain ⟨n, la, fs, e1, e2, e3, e4⟩ := h.row p hp
  refine ⟨n, la, fs, e1, e2.kp k (fun z => ?_), e3, e4⟩
  obtain ⟨ts, e5, e6⟩ := e2
  obtain ⟨ds, e7⟩ := h2 la z _ e5
  have hl := paired_len e6
  match ts, ds with
  | [], _ => rw [← e3, ← hl] at hD; exact absurd hD (Nat.lt_irrefl _)
  | t :: _, [] => simp at e7
  | t :: _, d :: _ => simp at e7
theorem Dr.ints {H : Hp} {dl : Addr} (h : Dr H dl) : ∀ s ∈ [dl], ∀ xs, H s = some (.lst xs) → ∃ ds : List Int, xs = ds.map V.int := fun s hs xs e => by
  rw [List.mem_singleton.mp hs] at e
  obtain ⟨ds, q⟩ := h
  rw [q] at e
  have e := Option.some.inj e
  injection e with e
  exact ⟨ds, e.symm⟩
theorem HX.put {H : Hp} {fd : Addr} {D : Nat} {kvs : List (Key × V)} {n : Str} {la : Addr} {fs : List Fr} (h : HX H fd D kvs) (hl : kvs.length ≤ 2) (hn : NameOk n) (hf : FrL H la fs) (h1 : fs.length = D) (h2 : ∀ f ∈ fs, FrOk f) :
    HX (upd H fd (.dK (putK kvs (Sum.inr n) (.ref la)))) fd D (putK kvs (Sum.inr n) (.ref la)) ∧ Kp [fd] H (upd H fd (.dK (putK kvs (Sum.inr n) (.ref la)))) := by
  have k : Kp [fd] H (upd H fd (.dK (putK kvs (Sum.inr n) (.ref la)))) := .mut (by simp) h.at_ (fun xs z => by cases z)
  have fk : ∀ {lb gs}, FrL H lb gs → FrL (upd H fd (.dK (putK kvs (Sum.inr n) (.ref la)))) lb gs := fun {lb gs} hf => hf.kp k (not1 fun z => by
    obtain ⟨ts, e, _⟩ := hf
    rw [z, h.at_] at e; cases e)
  refine ⟨⟨upd_same, put_nodup h.nd, Nat.le_trans (length_putK _ _ _) (by omega), fun p hp => ?_, fun p hp => (put_row hp).elim (h.nm p) (fun z => ⟨n, congrArg (·.1) z, hn⟩)⟩, k⟩
  rcases put_row hp with z | z
  · obtain ⟨n', la', fs', e1, e2, e3⟩ := h.row p z
    refine ⟨n', la', fs', e1, ?_, e3⟩
    exact e2.kp k (not1 fun z => by
      obtain ⟨ts, e, _⟩ := e2
      rw [z, h.at_] at e; cases e)
  · exact ⟨n, la, fs, z, fk hf, h1, h2⟩
theorem put_has {κ : Type} [DecidableEq κ] {kvs : List (κ × V)} {k j : κ} {v : V} (h : j ∈ kvs.map (·.1) ∨ j = k) : j ∈ (putK kvs k v).map (·.1) := by
  have : (valV (putK kvs k v) j).isSome = true := by
    rw [valV_put]
    split
    · rfl
    · rename_i q
      rcases h with h | h
      · obtain ⟨v', e⟩ := val_of h
        rw [e]; rfl
      · exact absurd h q
  cases e : valV (putK kvs k v) j with
  | none => rw [e] at this; cases this
  | some u => exact List.mem_map.mpr ⟨_, val_mem e, rfl⟩
/-- the function that such a dict is -/
theorem HX.fun_ {H : Hp} {fd : Addr} {D : Nat} {kvs : List (Key × V)} (h : HX H fd D kvs) : ∃ fct : Str → Option (List Fr), HistD H fd fct ∧ (∀ n fs, fct n = some fs → fs.length = D ∧ ∀ f ∈ fs, FrOk f) ∧ ∀ n, (fct n).isSome = (valV kvs (Sum.inr n)).isSome := by
  have : ∀ n : Str, ∃ o : Option (List Fr), o.isSome = (valV kvs (Sum.inr n)).isSome ∧ ∀ fs, o = some fs → (∃ la, valV kvs (Sum.inr n) = some (.ref la) ∧ FrL H la fs) ∧ fs.length = D ∧ ∀ f ∈ fs, FrOk f := by
    intro n
    cases e : valV kvs (Sum.inr n) with
    | none => exact ⟨none, rfl, fun fs h => by cases h⟩
    | some v =>
      obtain ⟨m, la, fs, e1, e2, e3, e4⟩ := h.row _ (val_mem e)
      have : v = .ref la := by injection e1
      subst this
      exact ⟨some fs, rfl, fun fs' h' => by cases h'; exact ⟨⟨la, rfl, e2⟩, e3, e4⟩⟩
  obtain ⟨fct, hf⟩ := Classical.skolem.1 this
  exact ⟨fct, ⟨kvs, h.at_, fun n fs e => ((hf n).2 fs e).1⟩, fun n fs e => ((hf n).2 fs e).2, fun n => (hf n).1⟩
section
variable {P : Program} {w : World} {K : PySem.W.Frag} {mg : Str → Option Value} {base : Heap}
def spHistory (A B : Str → Prop) : Sp := fun vs H Q _ => ∃ (dl na : Addr) (D : Nat) (ns : List Str), vs = [.ref dl, .ref na, .int D] ∧ 1 ≤ D ∧ D ≤ 10 ∧ Dr H dl ∧ na ≠ dl ∧ H na = some (.lst (ns.map V.str)) ∧ ns.length = 7 ∧ (∀ n ∈ ns, NameOk n) ∧
  ∀ r fd rd kf kr H', Kp [dl] H H' → Dr H' dl → H r = none → H fd = none → H rd = none → fd ≠ rd → H' r = some (.lst [.ref fd, .ref rd]) → HX H' fd D kf → HX H' rd D kr → (∀ (i : Nat) n, i < 3 → ns[i]? = some n → Sum.inr n ∈ kf.map (·.1)) → (∀ (i : Nat) n, 3 ≤ i → i < 5 → ns[i]? = some n → Sum.inr n ∈ kr.map (·.1)) → Q (.ref r) H'
/-- [fraction(draws, least) for _ in range(days)] -/
theorem list_fr {dl : Addr} {D : Nat} {σ : L2.St} {H : Hp} {m : Int} {Qd : V → Hp → Prop} (s0 : (wipe σ [6])[0]? = some (some (.ref dl))) (s2 : σ[2]? = some (some (.int D))) (hz : 6 < σ.length) (hl0 : 0 ≤ m) (hl1 : m ≤ 10) (h10 : D ≤ 10) (hD : Dr H dl)
    (q : ∀ la fs H', Kp [dl] H H' → Dr H' dl → H la = none → FrL H' la fs → fs.length = D → (∀ f ∈ fs, FrOk f) → Qd (.ref la) H') :
    tLc (iRng1 (tCons (tVar 2) tNil)) (gName 6) tYes (tCall spFraction [] E0 (tCons (tVar 0) (tCons (tUn (rU fun i => V.int (-i)) (tC (.int m))) tNil))) [6] σ H Qd := by
  refine ⟨_, s2, (D : Int), rfl, by omega, by omega, fun la hla => ?_⟩
  have e1 : (D : Int).toNat = D := by omega
  rw [e1]
  have nla : la ≠ dl := by
    obtain ⟨ds, e⟩ := hD
    exact (ne_of_none e hla).symm
  refine lc_range (Pv := fun i H' => Kp [dl] H H' ∧ Dr H' dl ∧ ∃ fs : List Fr, FrL H' la fs ∧ fs.length = i ∧ ∀ f ∈ fs, FrOk f) ⟨.new hla, ?_, [], ⟨[], upd_same, .nil⟩, rfl, by simp⟩ ?_ ?_
  · obtain ⟨ds, e⟩ := hD
    exact ⟨ds, by rw [upd_ne (Ne.symm nla)]; exact e⟩
  · rintro i H1 hi ⟨k1, hD1, fs, ⟨ts, h1, h2⟩, hl, hok⟩
    have s0' : ((wipe σ [6]).set 6 (some (.int (0 + i))))[0]? = some (some (.ref dl)) := by rw [List.getElem?_set_ne (by decide)]; exact s0
    refine ⟨by show ((σ.set 6 none).set 6 _).set 6 none = σ.set 6 none; rw [List.set_set, List.set_set], _, s0', _, rfl, dl, -m, rfl, by omega, by omega, hD1, fun t f H2 k2 hD2 ht hf h3 => ?_⟩
    have h1' := k2.keep _ _ h1 (not1 nla)
    have hlen := paired_len h2
    refine ⟨_, h1', ?_, ?_⟩
    · rw [List.length_map]
      exact Nat.lt_of_le_of_lt (show ts.length ≤ 1000 by omega) (by decide)
    · have k3 : Kp [la] H2 (upd H2 la (.lst (ts.map V.ref ++ [V.ref t]))) := .mut (by simp) h1' (fun xs z => by cases z)
      refine ⟨(k1.trans k2).on k3 (fun s hs => .inr (by rw [List.mem_singleton.mp hs]; exact hla)), hD2.kp k3 (not1 (Ne.symm nla)), fs ++ [f], ⟨ts ++ [t], by rw [upd_same, List.map_append]; rfl, ?_⟩, by rw [List.length_append, hl]; rfl, fun g hg => ?_⟩
      · refine paired_snoc (F := fun (u : Addr) (g : Fr) => (upd H2 la (.lst (ts.map V.ref ++ [V.ref t]))) u = some (.tup [.int g.1, .int g.2])) (k3.tup _ _ h3) ?_
        exact paired_imp (fun u g e => k3.tup _ _ (k2.tup _ _ e)) h2
      · rcases List.mem_append.mp hg with z | z
        · exact hok g z
        · have : g = f := by simpa using z
          rw [this]; exact hf
  · rintro H1 ⟨k1, hD1, fs, h1, hl, hok⟩
    exact q la fs H1 k1 hD1 hla h1 hl hok
theorem ok_history (T : Tx K mg w) (A B : Str → Prop) : FnOk P w K mg base CX0 3 T.law_history.a T.law_history.d p_law_history (spHistory A B) := by
  have Gf : FnOk P w K mg base CX0 2 T.law_fraction.a T.law_fraction.d p_law_fraction spFraction := ok_lfraction T
  refine T.law_history.F.ok sc_law_history (fun vs H Q E h => ?_) (fun cdv A' outer s H vs Q E hr h => ?_)
  · obtain ⟨dl, na, D, ns, rfl, _⟩ := h
    rfl
  · obtain ⟨dl, na, D, ns, rfl, hD1, hD10, hD, hnd, hna, hnl, hno, k⟩ := h
    have hu := hu_of hr
    refine ⟨_, pss_cons (ps_set (i := 3) sc_law_history.nd rfl (Or.inl rfl) pe_dnewK) (pss_cons (ps_set (i := 4) sc_law_history.nd rfl (Or.inl rfl) pe_dnewK)
      (pss_cons (ps_for PySem.PassesOwn.never rfl (pi_range1 (by rfl) T.z_range (pa_cons pe_int pa_nil)) (pg_name (i := 5) sc_law_history.nd rfl (Or.inl rfl))
        (pss_one (ps_dput hu (pv 3) (pe_ix ix_list (pv 1) (pv 5) (fun _ _ => rfl)) (pe_lc (own := [("_law_day_here", 6)]) (g := gName 6) (tt := tYes) (te := tCall spFraction [] E0 (tCons (tVar 0) (tCons (tUn (rU fun i => .int (-i)) (tC (.int 3))) tNil))) rfl sc_law_history.nd (pi_range1 (by rfl) T.z_range (pa_cons (pv 2) pa_nil)) (blkOk_by (N := n_law_history) (sc := defScope s_law_history) (by decide +kernel))
          (fun _ _ _ _ _ => pg_name (i := 6) sc_law_history.nd rfl (Or.inl rfl)) (fun _ _ _ _ _ => pts_nil) (fun _ _ _ _ _ => pe_call Gf hr rfl T.law_fraction.g T.law_fraction.F.kp T.law_fraction.b .nil pass0 (pa_cons (pv 0) (pa_cons (pe_un un_neg pe_int) pa_nil)))) rfl)))
      (pss_cons (ps_for PySem.PassesOwn.never rfl (pi_range1 (by rfl) T.z_range (pa_cons pe_int pa_nil)) (pg_name (i := 5) sc_law_history.nd rfl (Or.inl rfl))
        (pss_one (ps_dput hu (pv 4) (pe_ix ix_list (pv 1) (pe_op op_add pe_int (pv 5)) (fun _ _ => rfl)) (pe_lc (own := [("_law_day_here", 6)]) (g := gName 6) (tt := tYes) (te := tCall spFraction [] E0 (tCons (tVar 0) (tCons (tUn (rU fun i => .int (-i)) (tC (.int 1))) tNil))) rfl sc_law_history.nd (pi_range1 (by rfl) T.z_range (pa_cons (pv 2) pa_nil)) (blkOk_by (N := n_law_history) (sc := defScope s_law_history) (by decide +kernel))
          (fun _ _ _ _ _ => pg_name (i := 6) sc_law_history.nd rfl (Or.inl rfl)) (fun _ _ _ _ _ => pts_nil) (fun _ _ _ _ _ => pe_call Gf hr rfl T.law_fraction.g T.law_fraction.F.kp T.law_fraction.b .nil pass0 (pa_cons (pv 0) (pa_cons (pe_un un_neg pe_int) pa_nil)))) rfl)))
      (pss_one (ps_ret (pe_lst (pa_cons (pv 3) (pa_cons (pv 4) pa_nil)))))))), ?_⟩
    obtain ⟨ds0, hds⟩ := hD
    intro fd hfd rd hrd
    have nfd : fd ≠ dl := (ne_of_none hds hfd).symm
    have nfr : fd ≠ rd := ne_of_none upd_same hrd
    have k0 : Kp [dl] H (upd H fd (.dK [])) := .new hfd
    have frd : H rd = none := k0.free hrd
    have nrd : rd ≠ dl := (ne_of_none hds frd).symm
    have k1 : Kp [dl] (upd H fd (.dK [])) (upd (upd H fd (.dK [])) rd (.dK [])) := .new hrd
    have hf0 : HX (upd (upd H fd (.dK [])) rd (.dK [])) fd D [] := ⟨by rw [upd_ne nfr, upd_same], by simp, by simp, by simp, by simp⟩
    have hr0 : HX (upd (upd H fd (.dK [])) rd (.dK [])) rd D [] := ⟨upd_same, by simp, by simp, by simp, by simp⟩
    have hD0 : Dr (upd (upd H fd (.dK [])) rd (.dK [])) dl := ⟨ds0, by rw [upd_ne nrd.symm, upd_ne nfd.symm]; exact hds⟩
    have kk := k0.trans k1
    generalize upd (upd H fd (.dK [])) rd (.dK []) = H0 at *
    have dnl : ∀ {H' : Hp} {d : Addr} {kvs : List (Key × V)}, H' d = some (.dK kvs) → ∀ s ∈ [d], ∀ xs, H' s = some (.lst xs) → ∃ ds : List Int, xs = ds.map V.int := fun h s hs xs e => by
      rw [List.mem_singleton.mp hs, h] at e; cases e
    have fnew : ∀ s ∈ [fd], s ∈ [dl] ∨ H s = none := fun s hs => .inr (by rw [List.mem_singleton.mp hs]; exact hfd)
    have rnew : ∀ s ∈ [rd], s ∈ [dl] ∨ H s = none := fun s hs => .inr (by rw [List.mem_singleton.mp hs]; exact frd)
    refine ⟨3, rfl, by decide, by decide, ?_⟩
    refine for_range (Pv := fun i σ H' => ∃ (y5 y6 : Option V) (kf : List (Key × V)), σ = [some (.ref dl), some (.ref na), some (.int D), some (.ref fd), some (.ref rd), y5, y6] ∧ Kp [dl] H H' ∧ Dr H' dl ∧ HX H' fd D kf ∧ HX H' rd D [] ∧ kf.length ≤ i ∧ ∀ (j : Nat) n, j < i → ns[j]? = some n → Sum.inr n ∈ kf.map (·.1))
      ⟨_, _, [], rfl, kk, hD0, hf0, hr0, Nat.le_refl _, fun j n h => absurd h (Nat.not_lt_zero _)⟩ ?_ ?_
    · rintro i σ H1 hi ⟨y5, y6, kf, rfl, k1, hD1', hf1, hr1, hl1, hk1⟩
      have hi : i < 3 := hi
      unfold gName sDPut
      refine list_fr (m := 3) (σ := [some (.ref dl), some (.ref na), some (.int D), some (.ref fd), some (.ref rd), some (.int (0 + i)), y6]) rfl rfl (show 6 < 7 by decide) (by decide) (by decide) hD10 hD1' fun la fs H2 k2 hD2 hla hfr hfl hfo => ?_
      have en : ns[i]? = some (ns[i]'(by omega)) := List.getElem?_eq_getElem (by omega)
      have hf2 := hf1.kp k2 (not1 nfd) hD1'.ints hD1
      have hr2 := hr1.kp k2 (not1 nrd) hD1'.ints hD1
      have ei : (0 : Int) + (i : Int) = ((i : Nat) : Int) := by omega
      obtain ⟨p1, p2⟩ := hf2.put (n := ns[i]'(by omega)) (by omega) (hno _ (List.getElem_mem _)) hfr hfl hfo
      refine ⟨_, rfl, _, rfl, _, rfl, na, _, _, V.str (ns[i]'(by omega)), rfl, rfl, SqL.of ((k1.trans k2).keep _ _ hna (not1 hnd)), by rw [ei]; exact atI_nat (by rw [List.getElem?_map, en]; rfl), fd, _, rfl, DPut.k (k := Sum.inr (ns[i]'(by omega))) hf2.at_ (Nat.lt_of_le_of_lt hf2.few (by decide)), ?_⟩
      refine ⟨_, _, _, rfl, (k1.trans k2).on p2 fnew, hD2.kp p2 (not1 nfd.symm), p1, hr2.kp p2 (not1 nfr.symm) (dnl hf2.at_) hD1, Nat.le_trans (length_putK _ _ _) (by omega), fun j n hj hn => put_has ?_⟩
      rcases Nat.lt_or_ge j i with z | z
      · exact .inl (hk1 j n z hn)
      · have : j = i := by omega
        subst this
        rw [en] at hn
        exact .inr (by rw [Option.some.inj hn])
    · rintro σ H1 ⟨y5, y6, kf, rfl, k1, hD1', hf1, hr1, hl1, hk1⟩
      refine ⟨2, rfl, by decide, by decide, ?_⟩
      refine for_range (Pv := fun i σ H' => ∃ (y5 y6 : Option V) (kr : List (Key × V)), σ = [some (.ref dl), some (.ref na), some (.int D), some (.ref fd), some (.ref rd), y5, y6] ∧ Kp [dl] H H' ∧ Dr H' dl ∧ HX H' fd D kf ∧ HX H' rd D kr ∧ kr.length ≤ i ∧ ∀ (j : Nat) n, 3 ≤ j → j < 3 + i → ns[j]? = some n → Sum.inr n ∈ kr.map (·.1))
        ⟨_, _, [], rfl, k1, hD1', hf1, hr1, Nat.le_refl _, fun j n h h2 => absurd h2 (by omega)⟩ ?_ ?_
      · rintro i σ H2 hi ⟨y5, y6, kr, rfl, k2, hD2, hf2, hr2, hl2, hk2⟩
        have hi : i < 2 := hi
        unfold gName sDPut
        refine list_fr (m := 1) (σ := [some (.ref dl), some (.ref na), some (.int D), some (.ref fd), some (.ref rd), some (.int (0 + i)), y6]) rfl rfl (show 6 < 7 by decide) (by decide) (by decide) hD10 hD2 fun la fs H3 k3 hD3 hla hfr hfl hfo => ?_
        have en : ns[3 + i]? = some (ns[3 + i]'(by omega)) := List.getElem?_eq_getElem (by omega)
        have hf3 := hf2.kp k3 (not1 nfd) hD2.ints hD1
        have hr3 := hr2.kp k3 (not1 nrd) hD2.ints hD1
        have ei : (3 : Int) + ((0 : Int) + (i : Int)) = ((3 + i : Nat) : Int) := by omega
        obtain ⟨p1, p2⟩ := hr3.put (n := ns[3 + i]'(by omega)) (by omega) (hno _ (List.getElem_mem _)) hfr hfl hfo
        refine ⟨_, rfl, _, rfl, _, rfl, _, _, rfl, rfl, na, _, _, V.str (ns[3 + i]'(by omega)), rfl, rfl, SqL.of ((k2.trans k3).keep _ _ hna (not1 hnd)), by rw [ei]; exact atI_nat (by rw [List.getElem?_map, en]; rfl), rd, _, rfl, DPut.k (k := Sum.inr (ns[3 + i]'(by omega))) hr3.at_ (Nat.lt_of_le_of_lt hr3.few (by decide)), ?_⟩
        refine ⟨_, _, _, rfl, (k2.trans k3).on p2 rnew, hD3.kp p2 (not1 nrd.symm), hf3.kp p2 (not1 nfr) (dnl hr3.at_) hD1, p1, Nat.le_trans (length_putK _ _ _) (by omega), fun j n hj hj2 hn => put_has ?_⟩
        rcases Nat.lt_or_ge j (3 + i) with z | z
        · exact .inl (hk2 j n hj z hn)
        · have : j = 3 + i := by omega
          subst this
          rw [en] at hn
          exact .inr (by rw [Option.some.inj hn])
      · rintro σ H2 ⟨y5, y6, kr, rfl, k2, hD2, hf2, hr2, hl2, hk2⟩
        refine ⟨_, rfl, _, rfl, size2, fun r hr => ?_⟩
        have k3 : Kp [dl] H2 (upd H2 r (.lst [V.ref fd, V.ref rd])) := .new hr
        have hD3 : Dr (upd H2 r (.lst [V.ref fd, V.ref rd])) dl := by
          obtain ⟨ds, e⟩ := hD2
          exact ⟨ds, by rw [upd_ne (ne_of_none e hr)]; exact e⟩
        exact k r fd rd kf kr _ (k2.trans k3) hD3 (k2.free hr) hfd frd nfr upd_same (hf2.kp k3 (not1 nfd) hD2.ints hD1) (hr2.kp k3 (not1 nrd) hD2.ints hD1) (fun i n h e => hk1 i n h e) fun i n h h2 e => hk2 i n h h2 e
end
end KW
set_option maxRecDepth 100000
set_option maxHeartbeats 4000000
/-! day, same -/
namespace KY
open PySem PySem.Spec PyProof.Rows L2
/-- [e, ..]: the new list is not the one of all modules -/
def tLstS (t : TA) : TE := fun σ H Q => t σ H fun xs H1 => xs.length ≤ sizeLine ∧ ∀ p, H1 p = none → p ≠ sysModules → Q (.ref p) (upd H1 p (.lst xs))
theorem pe_lstS {X : Cx} {es : List Expr} {t : TA} {pos : Pos} (h : PA X es t) : PE X (.List es pos) (tLstS t) := ⟨fun pins s σ H Q I hq => wpAny_List_spliced (thn (h.run pos pins s σ H _ I hq) fun us s1 ⟨xs, H1, I1, r, z, q⟩ => ⟨by rw [← r.length]; exact z,
    ⟨.ref s1.heap.objs.size, upd H1 s1.heap.objs.size (.lst xs), I1.laid (t' := s1.toks) (fun _ _ e => Heap.get?_push_of_some _ e) (Nat.le_refl _) ⟨z, us, 0, r, Heap.get?_push_size _ rfl⟩, rfl, q _ (I1.hok.fresh (Nat.le_refl _)) (Nat.ne_of_gt I1.big)⟩⟩)⟩
end KY
namespace KW
open PySem L2
/-- what the dict of all days is, as a function -/
structure FX (H : Hp) (fd : Addr) (D : Nat) (kvs : List (Key × V)) (fct : Str → Option (List Fr)) : Prop where
  hx : HX H fd D kvs
  fn : ∀ n fs, fct n = some fs → (∃ la, valV kvs (Sum.inr n) = some (.ref la) ∧ FrL H la fs) ∧ fs.length = D ∧ ∀ f ∈ fs, FrOk f
  is : ∀ n, (fct n).isSome = (valV kvs (Sum.inr n)).isSome
theorem HX.fx {H : Hp} {fd : Addr} {D : Nat} {kvs : List (Key × V)} (h : HX H fd D kvs) : ∃ fct, FX H fd D kvs fct := by
  obtain ⟨fct, ⟨kvs', h1, h2⟩, h3, h4⟩ := h.fun_
  have : kvs' = kvs := by
    have e := h1.symm.trans h.at_
    have e := Option.some.inj e
    injection e
  subst this
  exact ⟨fct, h, fun n fs e => ⟨h2 n fs e, h3 n fs e⟩, h4⟩
theorem FX.hist {H : Hp} {fd : Addr} {D : Nat} {kvs : List (Key × V)} {fct : Str → Option (List Fr)} (h : FX H fd D kvs fct) : HistD H fd fct := ⟨kvs, h.hx.at_, fun n fs e => (h.fn n fs e).1⟩
theorem FX.kp {S : List Addr} {H H' : Hp} {fd : Addr} {D : Nat} {kvs : List (Key × V)} {fct : Str → Option (List Fr)} (h : FX H fd D kvs fct) (k : Kp S H H') (h1 : fd ∉ S) (h2 : ∀ la, (∃ fs, FrL H la fs) → (∃ fs, FrL H la fs ∧ 0 < fs.length) → la ∉ S) (hD : 0 < D) : FX H' fd D kvs fct := by
  refine ⟨⟨k.keep _ _ h.hx.at_ h1, h.hx.nd, h.hx.few, fun p hp => ?_, h.hx.nm⟩, fun n fs e => ?_, h.is⟩
  · obtain ⟨n, la, fs, e1, e2, e3, e4⟩ := h.hx.row p hp
    exact ⟨n, la, fs, e1, e2.kp k (h2 la ⟨fs, e2⟩ ⟨fs, e2, by omega⟩), e3, e4⟩
  · obtain ⟨⟨la, e1, e2⟩, e3, e4⟩ := h.fn n fs e
    exact ⟨⟨la, e1, e2.kp k (h2 la ⟨fs, e2⟩ ⟨fs, e2, by omega⟩)⟩, e3, e4⟩
theorem FX.kp0 {H H' : Hp} {fd : Addr} {D : Nat} {kvs : List (Key × V)} {fct : Str → Option (List Fr)} (h : FX H fd D kvs fct) (k : Kp [] H H') (hD : 0 < D) : FX H' fd D kvs fct := h.kp k (by simp) (fun _ _ _ => by simp) hD
/-- the draws' list changes -/
theorem FX.kpd {H H' : Hp} {fd dl : Addr} {D : Nat} {kvs : List (Key × V)} {fct : Str → Option (List Fr)} (h : FX H fd D kvs fct) (k : Kp [dl] H H') (hd : Dr H dl) (hD : 0 < D) : FX H' fd D kvs fct := by
  refine h.kp k (not1 fun z => ?_) (fun la _ ⟨fs, ⟨ts, e1, e2⟩, e3⟩ => not1 fun z => ?_) hD
  · obtain ⟨ds, e⟩ := hd
    rw [← z, h.hx.at_] at e; cases e
  · obtain ⟨ds, e⟩ := hd
    rw [← z, e1] at e
    have e := Option.some.inj e
    injection e with e
    have hl := paired_len e2
    match ts, ds with
    | [], _ => rw [← hl] at e3; exact absurd e3 (Nat.lt_irrefl _)
    | t :: _, [] => simp at e
    | t :: _, d :: _ => simp at e
/-- an instance changes -/
theorem FX.kpi {H H' : Hp} {fd wd C dx : Addr} {D : Nat} {kvs : List (Key × V)} {fct : Str → Option (List Fr)} {fs0 : List (Str × V)} (h : FX H fd D kvs fct) (k : Kp [wd] H H') (hw : H wd = some (.ins C dx fs0)) (hD : 0 < D) : FX H' fd D kvs fct := by
  refine h.kp k (not1 fun z => ?_) (fun la _ ⟨fs, ⟨ts, e1, e2⟩, e3⟩ => not1 fun z => ?_) hD
  · rw [← z, h.hx.at_] at hw; cases hw
  · rw [← z, e1] at hw; cases hw
/-- one day's dict, all of it -/
structure DX (H : Hp) (f2 : Addr) (ks : List Key) (kv2 : List (Key × V)) (fct : Str → Option (List Fr)) (d : Nat) : Prop where
  at_ : H f2 = some (.dK kv2)
  keys : kv2.map (·.1) = ks
  row : ∀ p ∈ kv2, ∃ n fs t, p = (Sum.inr n, .ref t) ∧ fct n = some fs ∧ H t = some (.tup [.int (fs.getD d (0, 1)).1, .int (fs.getD d (0, 1)).2])
theorem DX.kp {S : List Addr} {H H' : Hp} {f2 : Addr} {ks : List Key} {kv2 : List (Key × V)} {fct : Str → Option (List Fr)} {d : Nat} (h : DX H f2 ks kv2 fct d) (k : Kp S H H') (hs : f2 ∉ S) : DX H' f2 ks kv2 fct d :=
  ⟨k.keep _ _ h.at_ hs, h.keys, fun p hp => by
    obtain ⟨n, fs, t, e1, e2, e3⟩ := h.row p hp
    exact ⟨n, fs, t, e1, e2, k.tup _ _ e3⟩⟩
section
variable {P : Program} {w : World} {K : PySem.W.Frag} {mg : Str → Option Value} {base : Heap}
def spLDay : Sp := fun vs H Q _ => ∃ (h fd rd : Addr) (D d : Nat) (kf kr : List (Key × V)) (fct rat : Str → Option (List Fr)), vs = [.ref h, .int d] ∧ H h = some (.lst [.ref fd, .ref rd]) ∧ FX H fd D kf fct ∧ FX H rd D kr rat ∧ d < D ∧
  ∀ r f2 r2 kf2 kr2 H', r ≠ PySem.sysModules → Kp [] H H' → H r = none → H f2 = none → H r2 = none → f2 ≠ r2 → H' r = some (.lst [.ref f2, .ref r2]) → DX H' f2 (kf.map (·.1)) kf2 fct d → DX H' r2 (kr.map (·.1)) kr2 rat d → Q (.ref r) H'
theorem ok_lday (T : Tx K mg w) : FnOk P w K mg base CX0 1 T.law_day.a T.law_day.d p_law_day spLDay := by
  refine T.law_day.F.ok sc_law_day (fun vs H Q E h => ?_) (fun cdv A' outer s H vs Q E hr h => ?_)
  · obtain ⟨h, fd, rd, D, d, kf, kr, fct, rat, rfl, _⟩ := h
    rfl
  · obtain ⟨h, fd, rd, D, d, kf, kr, fct, rat, rfl, hh, hF, hR, hd, k⟩ := h
    have hu := hu_of hr
    refine ⟨_, pss_cons (ps_set (i := 2) sc_law_day.nd rfl (Or.inl rfl) pe_dnewK) (pss_cons (ps_set (i := 3) sc_law_day.nd rfl (Or.inl rfl) pe_dnewK)
      (pss_cons (ps_for PySem.PassesOwn.never rfl (pi_list (pe_callTy (call_listD rfl) (by rfl) T.z_list (by decide +kernel) (pa_cons (pe_ix ix_list (pv 0) pe_int (fun _ _ => rfl)) pa_nil))) (pg_name (i := 4) sc_law_day.nd rfl (Or.inl rfl))
        (pss_one (ps_dput hu (pv 2) (pv 4) (pe_ix ix_list (pe_dget hu (pe_ix ix_list (pv 0) pe_int (fun _ _ => rfl)) (pv 4) (fun _ _ => rfl)) (pv 1) (fun _ _ => rfl)) rfl)))
      (pss_cons (ps_for PySem.PassesOwn.never rfl (pi_list (pe_callTy (call_listD rfl) (by rfl) T.z_list (by decide +kernel) (pa_cons (pe_ix ix_list (pv 0) pe_int (fun _ _ => rfl)) pa_nil))) (pg_name (i := 4) sc_law_day.nd rfl (Or.inl rfl))
        (pss_one (ps_dput hu (pv 3) (pv 4) (pe_ix ix_list (pe_dget hu (pe_ix ix_list (pv 0) pe_int (fun _ _ => rfl)) (pv 4) (fun _ _ => rfl)) (pv 1) (fun _ _ => rfl)) rfl)))
      (pss_one (ps_ret (KY.pe_lstS (pa_cons (pv 2) (pa_cons (pv 3) pa_nil)))))))), ?_⟩
    have D0 : 0 < D := by omega
    intro f2 hf2 r2 hr2
    have nfr : f2 ≠ r2 := ne_of_none upd_same hr2
    have k0 : Kp [] H (upd H f2 (.dK [])) := .new hf2
    have k1 : Kp [] (upd H f2 (.dK [])) (upd (upd H f2 (.dK [])) r2 (.dK [])) := .new hr2
    have hf20 : (upd (upd H f2 (.dK [])) r2 (.dK [])) f2 = some (.dK []) := by rw [upd_ne nfr, upd_same]
    have hr20 : (upd (upd H f2 (.dK [])) r2 (.dK [])) r2 = some (.dK []) := upd_same
    have fr2 : H r2 = none := k0.free hr2
    have kk := k0.trans k1
    generalize upd (upd H f2 (.dK [])) r2 (.dK []) = H0 at *
    have n1 : ∀ s ∈ [f2], H s = none := fun s hs => by rw [List.mem_singleton.mp hs]; exact hf2
    have n2 : ∀ s ∈ [r2], H s = none := fun s hs => by rw [List.mem_singleton.mp hs]; exact fr2
    -- one row
    have row : ∀ {fd : Addr} {kf : List (Key × V)} {fct : Str → Option (List Fr)} {i : Nat} {x : Key}, FX H fd D kf fct → (kf.map (·.1))[i]? = some x → ∃ n la fs xs t, x = Sum.inr n ∧ valV kf (Sum.inr n) = some (.ref la) ∧ fct n = some fs ∧ H la = some (.lst xs) ∧ atI xs (d : Int) = some (.ref t) ∧ H t = some (.tup [.int (fs.getD d (0, 1)).1, .int (fs.getD d (0, 1)).2]) := by
      intro fd kf fct i x hF hx
      have hm : x ∈ kf.map (·.1) := List.mem_of_getElem? hx
      obtain ⟨v, hv⟩ := val_of hm
      obtain ⟨n, la', _, e1, _⟩ := hF.hx.row _ (val_mem hv)
      have ex : x = Sum.inr n := congrArg (·.1) e1
      subst ex
      have hs := hF.is n
      rw [hv] at hs
      cases ef : fct n with
      | none => rw [ef] at hs; cases hs
      | some fs =>
        obtain ⟨⟨la, e2, ts, e3, e4⟩, e5, _⟩ := hF.fn n fs ef
        have eg : fs[d]? = some (fs.getD d (0, 1)) := by
          rw [List.getD_eq_getElem?_getD, List.getElem?_eq_getElem (by omega)]; rfl
        obtain ⟨t, e6, e7⟩ := paired_get e4 eg
        exact ⟨n, la, fs, _, t, rfl, e2, ef, e3, atI_nat (by rw [List.getElem?_map, e6]; rfl), e7⟩
    have hin : ∀ {H' : Hp}, Kp [] H H' → SqL K H' h [.ref fd, .ref rd] := fun k => SqL.of (k.to _ _ hh)
    refine ⟨_, rfl, h, _, _, _, rfl, rfl, hin kk, at0, fd, kf, rfl, .inl (kk.to _ _ hF.hx.at_), fun p hp => ⟨p, rfl, ⟨_, SqL.of upd_same⟩, ?_⟩⟩
    have k2 : Kp [] H0 (upd H0 p (.lst (kf.map fun kv => kV kv.1))) := .new hp
    have hp2 : (upd H0 p (.lst (kf.map fun kv => kV kv.1))) p = some (.lst (kf.map fun kv => kV kv.1)) := upd_same
    have npf : p ≠ f2 := (ne_of_none hf20 hp).symm
    have hf21 := k2.to _ _ hf20
    have hr21 := k2.to _ _ hr20
    have kk2 := kk.trans k2
    generalize upd H0 p (.lst (kf.map fun kv => kV kv.1)) = H1 at *
    refine for_list (xs := kf.map fun kv => kV kv.1) (Pv := fun i σ H' => ∃ (y4 : Option V) (kv2 : List (Key × V)), σ = [some (.ref h), some (.int d), some (.ref f2), some (.ref r2), y4] ∧ Kp [] H H' ∧ H' p = some (.lst (kf.map fun kv => kV kv.1)) ∧ DX H' f2 ((kf.map (·.1)).take i) kv2 fct d ∧ H' r2 = some (.dK []))
      ⟨_, [], rfl, kk2, hp2, ⟨hf21, by rw [List.take_zero]; rfl, by simp⟩, hr21⟩ (fun i σ H' _ ⟨_, _, _, _, e, _⟩ => SqL.of e) ?_ ?_
    · rintro i x σ H2 hx ⟨y4, kv2, rfl, k3, hp3, hX, hr22⟩
      rw [List.getElem?_map] at hx
      cases q : kf[i]? with
      | none => rw [q] at hx; cases hx
      | some kv =>
        rw [q] at hx
        have hx : kV kv.1 = x := Option.some.inj hx
        subst hx
        have hki : (kf.map (·.1))[i]? = some kv.1 := by rw [List.getElem?_map, q]; rfl
        obtain ⟨n, la, fs, xs, t, e1, e2, e3, e4, e5, e6⟩ := row hF hki
        rw [e1] at hki ⊢
        refine ⟨_, rfl, h, _, _, _, rfl, rfl, hin k3, at0, _, rfl, fd, .ref la, rfl, by rw [← e2]; exact DGet.k (k := Sum.inr n) (k3.to _ _ hF.hx.at_), _, rfl, la, xs, _, _, rfl, rfl, SqL.of (k3.to _ _ e4), e5, _, rfl, _, rfl, f2, _, rfl, DPut.k (k := Sum.inr n) hX.at_ ?_, ?_⟩
        · have := congrArg List.length hX.keys
          rw [List.length_map, List.length_take, List.length_map] at this
          have := hF.hx.few
          exact Nat.lt_of_le_of_lt (show kv2.length ≤ 1000 by omega) (by decide)
        have hno : valV kv2 (Sum.inr n) = none := by
          cases z : valV kv2 (Sum.inr n) with
          | none => rfl
          | some v =>
            have hm : (Sum.inr n : Key) ∈ kv2.map (·.1) := List.mem_map.mpr ⟨_, val_mem z, rfl⟩
            rw [hX.keys] at hm
            obtain ⟨j, hj, e⟩ := List.mem_iff_getElem.mp hm
            rw [List.getElem_take] at e
            have hj2 : j < i := by rw [List.length_take] at hj; omega
            have e8 : (kf.map (·.1))[j]? = some (Sum.inr n) := by rw [List.getElem?_eq_getElem (by rw [List.length_take] at hj; omega), e]
            have := nd_ix hF.hx.nd e8 hki
            omega
        rw [putK_new _ hno]
        have k4 : Kp [f2] H2 (upd H2 f2 (.dK (kv2 ++ [(Sum.inr n, .ref t)]))) := .mut (by simp) hX.at_ (fun xs z => by cases z)
        refine ⟨_, kv2 ++ [(Sum.inr n, .ref t)], rfl, k3.news k4 n1, k4.keep _ _ hp3 (not1 npf), ⟨upd_same, ?_, fun pr hpr => ?_⟩, k4.keep _ _ hr22 (not1 nfr.symm)⟩
        · rw [List.map_append, hX.keys, take_succ_of hki]; rfl
        · rcases List.mem_append.mp hpr with z | z
          · obtain ⟨n', fs', t', g1, g2, g3⟩ := hX.row pr z
            exact ⟨n', fs', t', g1, g2, k4.tup _ _ g3⟩
          · have : pr = (Sum.inr n, .ref t) := by simpa using z
            exact ⟨n, fs, t, this, e3, k4.tup _ _ (k3.tup _ _ e6)⟩
    · rintro σ H2 ⟨y4, kf2, rfl, k3, hp3, hX, hr22⟩
      rw [List.length_map, List.take_of_length_le (by rw [List.length_map]; exact Nat.le_refl _)] at hX
      refine ⟨_, rfl, h, _, _, _, rfl, rfl, hin k3, at1, rd, kr, rfl, .inl (k3.to _ _ hR.hx.at_), fun p2 hp2 => ⟨p2, rfl, ⟨_, SqL.of upd_same⟩, ?_⟩⟩
      have k4 : Kp [] H2 (upd H2 p2 (.lst (kr.map fun kv => kV kv.1))) := .new hp2
      have hp4 : (upd H2 p2 (.lst (kr.map fun kv => kV kv.1))) p2 = some (.lst (kr.map fun kv => kV kv.1)) := upd_same
      have npr : p2 ≠ r2 := (ne_of_none hr22 hp2).symm
      have hr23 := k4.to _ _ hr22
      have hX4 := hX.kp k4 (by simp)
      have kk4 := k3.trans k4
      generalize upd H2 p2 (.lst (kr.map fun kv => kV kv.1)) = H3 at *
      refine for_list (xs := kr.map fun kv => kV kv.1) (Pv := fun i σ H' => ∃ (y4 : Option V) (kv2 : List (Key × V)), σ = [some (.ref h), some (.int d), some (.ref f2), some (.ref r2), y4] ∧ Kp [] H H' ∧ H' p2 = some (.lst (kr.map fun kv => kV kv.1)) ∧ DX H' r2 ((kr.map (·.1)).take i) kv2 rat d ∧ DX H' f2 (kf.map (·.1)) kf2 fct d)
        ⟨_, [], rfl, kk4, hp4, ⟨hr23, by rw [List.take_zero]; rfl, by simp⟩, hX4⟩ (fun i σ H' _ ⟨_, _, _, _, e, _⟩ => SqL.of e) ?_ ?_
      · rintro i x σ H4 hx ⟨y4, kv2, rfl, k5, hp5, hY, hX5⟩
        rw [List.getElem?_map] at hx
        cases q : kr[i]? with
        | none => rw [q] at hx; cases hx
        | some kv =>
          rw [q] at hx
          have hx : kV kv.1 = x := Option.some.inj hx
          subst hx
          have hki : (kr.map (·.1))[i]? = some kv.1 := by rw [List.getElem?_map, q]; rfl
          obtain ⟨n, la, fs, xs, t, e1, e2, e3, e4, e5, e6⟩ := row hR hki
          rw [e1] at hki ⊢
          refine ⟨_, rfl, h, _, _, _, rfl, rfl, hin k5, at1, _, rfl, rd, .ref la, rfl, by rw [← e2]; exact DGet.k (k := Sum.inr n) (k5.to _ _ hR.hx.at_), _, rfl, la, xs, _, _, rfl, rfl, SqL.of (k5.to _ _ e4), e5, _, rfl, _, rfl, r2, _, rfl, DPut.k (k := Sum.inr n) hY.at_ ?_, ?_⟩
          · have := congrArg List.length hY.keys
            rw [List.length_map, List.length_take, List.length_map] at this
            have := hR.hx.few
            exact Nat.lt_of_le_of_lt (show kv2.length ≤ 1000 by omega) (by decide)
          have hno : valV kv2 (Sum.inr n) = none := by
            cases z : valV kv2 (Sum.inr n) with
            | none => rfl
            | some v =>
              have hm : (Sum.inr n : Key) ∈ kv2.map (·.1) := List.mem_map.mpr ⟨_, val_mem z, rfl⟩
              rw [hY.keys] at hm
              obtain ⟨j, hj, e⟩ := List.mem_iff_getElem.mp hm
              rw [List.getElem_take] at e
              have hj2 : j < i := by rw [List.length_take] at hj; omega
              have e8 : (kr.map (·.1))[j]? = some (Sum.inr n) := by rw [List.getElem?_eq_getElem (by rw [List.length_take] at hj; omega), e]
              have := nd_ix hR.hx.nd e8 hki
              omega
          rw [putK_new _ hno]
          have k6 : Kp [r2] H4 (upd H4 r2 (.dK (kv2 ++ [(Sum.inr n, .ref t)]))) := .mut (by simp) hY.at_ (fun xs z => by cases z)
          refine ⟨_, kv2 ++ [(Sum.inr n, .ref t)], rfl, k5.news k6 n2, k6.keep _ _ hp5 (not1 npr), ⟨upd_same, ?_, fun pr hpr => ?_⟩, hX5.kp k6 (not1 nfr)⟩
          · rw [List.map_append, hY.keys, take_succ_of hki]; rfl
          · rcases List.mem_append.mp hpr with z | z
            · obtain ⟨n', fs', t', g1, g2, g3⟩ := hY.row pr z
              exact ⟨n', fs', t', g1, g2, k6.tup _ _ g3⟩
            · have : pr = (Sum.inr n, .ref t) := by simpa using z
              exact ⟨n, fs, t, this, e3, k6.tup _ _ (k5.tup _ _ e6)⟩
      · rintro σ H4 ⟨y4, kr2, rfl, k5, hp5, hY, hX5⟩
        rw [List.length_map, List.take_of_length_le (by rw [List.length_map]; exact Nat.le_refl _)] at hY
        refine ⟨_, rfl, _, rfl, size2, fun r hr hs1 => ?_⟩
        have k6 : Kp [] H4 (upd H4 r (.lst [V.ref f2, V.ref r2])) := .new hr
        exact k r f2 r2 kf2 kr2 _ hs1 (k5.trans k6) (k5.free hr) hf2 fr2 nfr upd_same (hX5.kp k6 (by simp)) (hY.kp k6 (by simp))
/-- two ints, two truths -/
def spSame : Sp := fun vs H Q _ => (∃ i j : Int, vs = [.int i, .int j] ∧ Q (.bl (decide (i = j))) H) ∨ ∃ a b : Bool, vs = [.bl a, .bl b] ∧ Q (.bl (decide (a = b))) H
end
end KW
set_option maxRecDepth 100000
set_option maxHeartbeats 4000000
/-! same, near -/
namespace KW
open PySem L2
/-- the same but for written numbers -/
inductive Nr : Ex → Ex → Prop where
  | refl (e : Ex) : Nr e e
  | lit (w : LW) (f g : Fr) : FrOk g → Nr (.lit w f) (.lit w g)
  | un {c c' : Ex} : Nr c c' → Nr (.un c) (.un c')
  | bin (w : BW) {e f e' f' : Ex} : Nr e e' → Nr f f' → Nr (.bin w e f) (.bin w e' f')
  | ite {c e f c' e' f' : Ex} : Nr c c' → Nr e e' → Nr f f' → Nr (.ite c e f) (.ite c' e' f')
  | timed (w : TW) (k : Nat) {c c' : Ex} : Nr c c' → Nr (.timed w k c) (.timed w k c')
theorem Nr.all {e e' : Ex} (h : Nr e e') : (∀ s, WT e s → WT e' s) ∧ (∀ L, Con L e → Con L e') ∧ (∀ A B, RefOk A B e → RefOk A B e') ∧ bw e' = bw e ∧ (subs e').length = (subs e).length ∧ dep e' = dep e := by
  induction h with
  | refl e => exact ⟨fun _ h => h, fun _ h => h, fun _ _ h => h, rfl, rfl, rfl⟩
  | lit w f g hg => exact ⟨fun s h => ⟨h.1, hg.1, hg.2.1, hg.2.2⟩, fun _ _ => trivial, fun _ _ _ => trivial, rfl, rfl, rfl⟩
  | un _ ih =>
    obtain ⟨h1, h2, h3, h4, h5, h6⟩ := ih
    exact ⟨fun s h => ⟨h.1, h1 _ h.2⟩, fun L h => h2 L h, fun A B h => h3 A B h, h4, by simp [subs, h5], by simp [dep, h6]⟩
  | timed w k _ ih =>
    obtain ⟨h1, h2, h3, h4, h5, h6⟩ := ih
    exact ⟨fun s h => ⟨h.1, h.2.1, h1 _ h.2.2⟩, fun L h => h2 L h, fun A B h => h3 A B h, h4, by simp [subs, h5], by simp [dep, h6]⟩
  | bin w _ _ ih jh =>
    obtain ⟨h1, h2, h3, h4, h5, h6⟩ := ih
    obtain ⟨g1, g2, g3, g4, g5, g6⟩ := jh
    refine ⟨fun s h => ?_, fun L h => ⟨h2 L h.1, g2 L h.2⟩, fun A B h => ⟨h3 A B h.1, g3 A B h.2⟩, by simp [bw, h4, g4], by simp [subs, h5, g5], by simp [dep, h6, g6]⟩
    rw [WT] at h ⊢
    split
    · rename_i q; rw [if_pos q] at h; exact ⟨h.1, h1 _ h.2.1, g1 _ h.2.2⟩
    · rename_i q; rw [if_neg q] at h; exact ⟨h.1, h1 _ h.2.1, g1 _ h.2.2⟩
  | ite _ _ _ ih jh kh =>
    obtain ⟨h1, h2, h3, h4, h5, h6⟩ := ih
    obtain ⟨g1, g2, g3, g4, g5, g6⟩ := jh
    obtain ⟨f1, f2, f3, f4, f5, f6⟩ := kh
    exact ⟨fun s h => ⟨h1 _ h.1, g1 _ h.2.1, f1 _ h.2.2⟩, fun L h => ⟨h2 L h.1, g2 L h.2.1, f2 L h.2.2⟩, fun A B h => ⟨h3 A B h.1, g3 A B h.2.1, f3 A B h.2.2⟩, by simp [bw, h4, g4, f4], by simp [subs, h5, g5, f5], by simp [dep, h6, g6, f6]⟩
theorem Gd.near {c : GC} {s : Bool} {d : Nat} {e e' : Ex} (h : Gd c s d e) (n : Nr e e') : Gd c s d e' := by
  obtain ⟨h1, h2, h3, h4, h5, h6⟩ := n.all
  exact ⟨h1 _ h.wt, h2 _ h.con, h3 _ _ h.ref, by rw [h4]; exact h.bits, by rw [h5]; exact h.sz, by rw [h6]; exact h.dp⟩
/-- what stands in its tuple: parts or not -/
def kinds : Ex → List (Option Ex)
  | .lit _ _ => [none, none]
  | .ref _ _ => [none, none]
  | .nam _ _ => [none, none]
  | .tt _ => [none]
  | .un c => [none, some c]
  | .bin _ e f => [none, some e, some f]
  | .ite c e f => [none, some c, some e, some f]
  | .timed _ _ c => [none, none, some c]
inductive It0 (H : Hp) : V → Option Ex → Prop where
  | str (x : Str) : It0 H (.str x) none
  | int (i : Int) : It0 H (.int i) none
  | fr {t : Addr} {f : Fr} : H t = some (.tup [.int f.1, .int f.2]) → It0 H (.ref t) none
  | sub {a : Addr} {e : Ex} : At H e a → It0 H (.ref a) (some e)
theorem It0.kp {S : List Addr} {H H' : Hp} (k : Kp S H H') {x : V} {o : Option Ex} (h : It0 H x o) : It0 H' x o := by
  cases h with
  | str x => exact .str x
  | int i => exact .int i
  | fr h => exact .fr (k.tup _ _ h)
  | sub h => exact .sub (h.kp k)
theorem items_of {H : Hp} {e : Ex} {a : Addr} (h : At H e a) : ∃ items, H a = some (.tup items) ∧ PySem.Paired (It0 H) items (kinds e) := by
  cases e with
  | lit w f => obtain ⟨t, h1, h2⟩ := h; exact ⟨_, h1, .cons (.str _) (.cons (.fr h2) .nil)⟩
  | ref w n => exact ⟨_, h, .cons (.str _) (.cons (.str _) .nil)⟩
  | nam n b => exact ⟨_, h, .cons (.str _) (.cons (.str _) .nil)⟩
  | tt b => exact ⟨_, h, .cons (.str _) .nil⟩
  | un c => obtain ⟨x, h1, h2⟩ := h; exact ⟨_, h1, .cons (.str _) (.cons (.sub h2) .nil)⟩
  | bin w e f => obtain ⟨x, y, h1, h2, h3⟩ := h; exact ⟨_, h1, .cons (.str _) (.cons (.sub h2) (.cons (.sub h3) .nil))⟩
  | ite c e f => obtain ⟨x, y, z, h1, h2, h3, h4⟩ := h; exact ⟨_, h1, .cons (.str _) (.cons (.sub h2) (.cons (.sub h3) (.cons (.sub h4) .nil)))⟩
  | timed w k c => obtain ⟨x, h1, h2⟩ := h; exact ⟨_, h1, .cons (.str _) (.cons (.int _) (.cons (.sub h2) .nil))⟩
def NrI (H : Hp) (x y : V) : Option Ex → Prop
  | none => y = x
  | some e => ∃ p e', y = .ref p ∧ At H e' p ∧ Nr e e'
inductive T3 (H : Hp) : List V → List V → List (Option Ex) → Prop where
  | nil : T3 H [] [] []
  | cons {x y : V} {o : Option Ex} {xs ys : List V} {os : List (Option Ex)} : NrI H x y o → T3 H xs ys os → T3 H (x :: xs) (y :: ys) (o :: os)
theorem NrI.kp {S : List Addr} {H H' : Hp} (k : Kp S H H') {x y : V} {o : Option Ex} (h : NrI H x y o) : NrI H' x y o := by
  cases o with
  | none => exact h
  | some e => obtain ⟨p, e', h1, h2, h3⟩ := h; exact ⟨p, e', h1, h2.kp k, h3⟩
theorem T3.kp {S : List Addr} {H H' : Hp} (k : Kp S H H') : ∀ {xs ys : List V} {os : List (Option Ex)}, T3 H xs ys os → T3 H' xs ys os
  | _, _, _, .nil => .nil
  | _, _, _, .cons a r => .cons (a.kp k) (T3.kp k r)
theorem T3.snoc {H : Hp} {x y : V} {o : Option Ex} (h : NrI H x y o) : ∀ {xs ys : List V} {os : List (Option Ex)}, T3 H xs ys os → T3 H (xs ++ [x]) (ys ++ [y]) (os ++ [o])
  | _, _, _, .nil => .cons h .nil
  | _, _, _, .cons a r => .cons a (T3.snoc h r)
theorem T3.len {H : Hp} : ∀ {xs ys : List V} {os : List (Option Ex)}, T3 H xs ys os → ys.length = xs.length
  | _, _, _, .nil => rfl
  | _, _, _, .cons _ r => congrArg (· + 1) r.len
theorem T3.uncons {H : Hp} {x : V} {o : Option Ex} {xs zs : List V} {os : List (Option Ex)} (h : T3 H (x :: xs) zs (o :: os)) : ∃ y ys, zs = y :: ys ∧ NrI H x y o ∧ T3 H xs ys os := by
  cases h with
  | cons a r => exact ⟨_, _, rfl, a, r⟩
theorem T3.unnil {H : Hp} {zs : List V} (h : T3 H [] zs []) : zs = [] := by
  cases h; rfl
theorem rebuild {H H' : Hp} {S : List Addr} {e : Ex} {a a' : Addr} {items ys : List V} (h : At H e a) (hi : H a = some (.tup items)) (k : Kp S H H') (t : T3 H' items ys (kinds e)) (h' : H' a' = some (.tup ys)) : ∃ e', Nr e e' ∧ At H' e' a' := by
  have same : ∀ {xs}, H a = some (.tup xs) → items = xs := fun e => by
    rw [hi] at e
    have e := Option.some.inj e
    injection e
  cases e with
  | lit w f =>
    obtain ⟨x, h1, h2⟩ := h
    have := same h1; subst this
    obtain ⟨y1, r1, rfl, e1, t⟩ := t.uncons
    obtain ⟨y2, r2, rfl, e2, t⟩ := t.uncons
    have := t.unnil; subst this
    cases e1; cases e2
    exact ⟨_, .refl _, x, h', k.tup _ _ h2⟩
  | ref w n =>
    have h1 : H a = some (.tup [.str w.s, .str n]) := h
    have := same h1; subst this
    obtain ⟨y1, r1, rfl, e1, t⟩ := t.uncons
    obtain ⟨y2, r2, rfl, e2, t⟩ := t.uncons
    have := t.unnil; subst this
    cases e1; cases e2
    exact ⟨_, .refl _, h'⟩
  | nam n b =>
    have h1 : H a = some (.tup [.str "name", .str n]) := h
    have := same h1; subst this
    obtain ⟨y1, r1, rfl, e1, t⟩ := t.uncons
    obtain ⟨y2, r2, rfl, e2, t⟩ := t.uncons
    have := t.unnil; subst this
    cases e1; cases e2
    exact ⟨_, .refl _, h'⟩
  | tt b =>
    have h1 : H a = some (.tup [.str (tfs b)]) := h
    have := same h1; subst this
    obtain ⟨y1, r1, rfl, e1, t⟩ := t.uncons
    have := t.unnil; subst this
    cases e1
    exact ⟨_, .refl _, h'⟩
  | un c =>
    obtain ⟨x, h1, h2⟩ := h
    have := same h1; subst this
    obtain ⟨y1, r1, rfl, e1, t⟩ := t.uncons
    obtain ⟨y2, r2, rfl, e2, t⟩ := t.uncons
    have := t.unnil; subst this
    cases e1
    obtain ⟨p, c', rfl, g1, g2⟩ := e2
    exact ⟨_, .un g2, p, h', g1⟩
  | bin w e f =>
    obtain ⟨x, y, h1, h2, h3⟩ := h
    have := same h1; subst this
    obtain ⟨y1, r1, rfl, e1, t⟩ := t.uncons
    obtain ⟨y2, r2, rfl, e2, t⟩ := t.uncons
    obtain ⟨y3, r3, rfl, e3, t⟩ := t.uncons
    have := t.unnil; subst this
    cases e1
    obtain ⟨p, c', rfl, g1, g2⟩ := e2
    obtain ⟨q, d', rfl, g3, g4⟩ := e3
    exact ⟨_, .bin w g2 g4, p, q, h', g1, g3⟩
  | ite c e f =>
    obtain ⟨x, y, z, h1, h2, h3, h4⟩ := h
    have := same h1; subst this
    obtain ⟨y1, r1, rfl, e1, t⟩ := t.uncons
    obtain ⟨y2, r2, rfl, e2, t⟩ := t.uncons
    obtain ⟨y3, r3, rfl, e3, t⟩ := t.uncons
    obtain ⟨y4, r4, rfl, e4, t⟩ := t.uncons
    have := t.unnil; subst this
    cases e1
    obtain ⟨p, c', rfl, g1, g2⟩ := e2
    obtain ⟨q, d', rfl, g3, g4⟩ := e3
    obtain ⟨r, f', rfl, g5, g6⟩ := e4
    exact ⟨_, .ite g2 g4 g6, p, q, r, h', g1, g3, g5⟩
  | timed w n c =>
    obtain ⟨x, h1, h2⟩ := h
    have := same h1; subst this
    obtain ⟨y1, r1, rfl, e1, t⟩ := t.uncons
    obtain ⟨y2, r2, rfl, e2, t⟩ := t.uncons
    obtain ⟨y3, r3, rfl, e3, t⟩ := t.uncons
    have := t.unnil; subst this
    cases e1; cases e2
    obtain ⟨p, c', rfl, g1, g2⟩ := e3
    exact ⟨_, .timed w n g2, p, h', g1⟩
theorem kind_dep {e p : Ex} (h : some p ∈ kinds e) : dep p < dep e := by
  cases e <;> simp [kinds] at h <;> simp [dep]
  · subst h; omega
  · rcases h with rfl | rfl <;> omega
  · rcases h with rfl | rfl | rfl <;> omega
  · subst h; omega
theorem lit_wd (e : Ex) : inV (.str e.wd) [.str "number", .str "money", .str "percent"] = true → ∃ w f, e = .lit w f := by
  cases e with
  | lit w f => exact fun _ => ⟨w, f, rfl⟩
  | ref w n => intro h; exact absurd (show inV (.str w.s) _ = true from h) (by cases w <;> decide +kernel)
  | nam n b => intro h; exact absurd (show inV (.str "name") _ = true from h) (by decide +kernel)
  | tt b => intro h; exact absurd (show inV (.str (tfs b)) _ = true from h) (by cases b <;> decide +kernel)
  | un c => intro h; exact absurd (show inV (.str "not") _ = true from h) (by decide +kernel)
  | bin w e f => intro h; exact absurd (show inV (.str w.s) _ = true from h) (by cases w <;> decide +kernel)
  | ite c e f => intro h; exact absurd (show inV (.str "if") _ = true from h) (by decide +kernel)
  | timed w k c => intro h; exact absurd (show inV (.str w.s) _ = true from h) (by cases w <;> decide +kernel)
theorem kindsLen (e : Ex) : (kinds e).length ≤ 4 := by cases e <;> simp [kinds]
section
variable {X : Cx}
/-- isinstance(e, T), T a built-in type that stands under its name -/
theorem pe_isi {e : Expr} {te : TE} {n : Str} {ty : String} {p p2 pos : Pos} (he : PE X e te) (h1 : Gl X "isinstance") (h2 : X.mg "isinstance" = none) (h3 : Gl X n) (h4 : X.mg n = none) (h5 : bootBuiltins n = some (.type ty)) (h6 : n ≠ "__name__" := by decide) (h7 : (n == ("__debug__" : Str)) = false := by decide)
    (s1 : starEach (e :: [.Name n p2]) X.env = (false, eval e X.env) :: starEach [.Name n p2] X.env := by rfl) (s2 : starEach [.Name n p2] X.env = (false, eval (.Name n p2) X.env) :: starEach [] X.env := by rfl) (s3 : (backTo pos (starEach [.Name n p2] X.env)).any (·.1) = false := by rfl) :
    PE X (.Call (.Name "isinstance" p) [e, .Name n p2] [] pos) (tCB (rIsi X.K) (tCons te (tCons (tC (.ty ty)) tNil))) :=
  pe_callB call_isi h1 h2 (by rfl) (pa_cons he (pa_cons (pe_bltn h3 h4 h5 rfl h6 h7) pa_nil s2) s1) (by decide) (by decide) s1 s3
end
section
variable {P : Program} {w : World} {K : PySem.W.Frag} {mg : Str → Option Value} {base : Heap}
theorem ok_same (T : Tx K mg w) : FnOk P w K mg base CX0 1 T.law_same.a T.law_same.d p_law_same spSame := by
  refine T.law_same.F.ok sc_law_same (fun vs H Q E h => ?_) (fun cdv A' outer s H vs Q E hr h => ?_)
  · rcases h with ⟨i, j, rfl, _⟩ | ⟨a, b, rfl, _⟩ <;> rfl
  · refine ⟨_, pss_cons (ps_if (PW.pt (pw_or (pt_val (pe_isi (ty := "tuple") (pv 1) (by rfl) T.z_isinstance (by rfl) T.z_tuple (by decide +kernel))) (pw_or1 (pt_val (pe_isi (ty := "list") (pv 1) (by rfl) T.z_isinstance (by rfl) T.z_list (by decide +kernel)))))) pss_never pss_nil)
      (pss_cons (ps_if (pt_cmpR op_ne (pe_isi (ty := "bool") (pv 1) (by rfl) T.z_isinstance (by rfl) T.z_bool (by decide +kernel)) (pe_isi (ty := "bool") (pv 0) (by rfl) T.z_isinstance (by rfl) T.z_bool (by decide +kernel)) (nomark _)) (pss_one (ps_ret pe_bl)) pss_nil)
      (pss_cons (ps_if (PW.pt (pw_or (pt_cmpR op_ne (pe_isi (ty := "int") (pv 1) (by rfl) T.z_isinstance (by rfl) T.z_int (by decide +kernel)) (pe_isi (ty := "int") (pv 0) (by rfl) T.z_isinstance (by rfl) T.z_int (by decide +kernel)) (nomark _)) (pw_or1 (pt_cmpR op_ne (pe_isi (ty := "str") (pv 1) (by rfl) T.z_isinstance (by rfl) T.z_str (by decide +kernel)) (pe_isi (ty := "str") (pv 0) (by rfl) T.z_isinstance (by rfl) T.z_str (by decide +kernel)) (nomark _))))) (pss_one (ps_ret pe_bl)) pss_nil)
      (pss_one (ps_ret (pe_cmpR op_eq (pv 0) (pv 1) (nomark _)))))), ?_⟩
    rcases h with ⟨i, j, rfl, k⟩ | ⟨a, b, rfl, k⟩
    · skip
      refine ⟨_, rfl, _, _, _, _, false, rfl, .ty _, .base (.int j), kit_ty (by decide +kernel), _, rfl, ifF rfl ⟨_, rfl, _, _, _, _, false, rfl, .ty _, .base (.int j), kit_ty (by decide +kernel), _, rfl, ifF rfl ?_⟩⟩
      refine ⟨_, rfl, _, _, _, _, false, rfl, .ty _, .base (.int j), kit_ty (by decide +kernel), _, rfl, _, _, _, _, false, rfl, .ty _, .base (.int i), kit_ty (by decide +kernel), rfl, _, rfl, ifF rfl ?_⟩
      refine ⟨_, rfl, _, _, _, _, true, rfl, .ty _, .base (.int j), kit_ty (by decide +kernel), _, rfl, _, _, _, _, true, rfl, .ty _, .base (.int i), kit_ty (by decide +kernel), rfl, _, rfl, ifF rfl ?_⟩
      refine ⟨_, rfl, _, _, _, _, false, rfl, .ty _, .base (.int j), kit_ty (by decide +kernel), _, rfl, _, _, _, _, false, rfl, .ty _, .base (.int i), kit_ty (by decide +kernel), rfl, _, rfl, ifF rfl ?_⟩
      refine ⟨_, rfl, _, rfl, rfl, ?_⟩
      have e : decide (V.int i = V.int j) = decide (i = j) := by rw [decide_eq_decide, V.int.injEq]
      rw [e]; exact k
    · skip
      refine ⟨_, rfl, _, _, _, _, false, rfl, .ty _, .base (.bl b), kit_ty (by decide +kernel), _, rfl, ifF rfl ⟨_, rfl, _, _, _, _, false, rfl, .ty _, .base (.bl b), kit_ty (by decide +kernel), _, rfl, ifF rfl ?_⟩⟩
      refine ⟨_, rfl, _, _, _, _, true, rfl, .ty _, .base (.bl b), kit_ty (by decide +kernel), _, rfl, _, _, _, _, true, rfl, .ty _, .base (.bl a), kit_ty (by decide +kernel), rfl, _, rfl, ifF rfl ?_⟩
      refine ⟨_, rfl, _, _, _, _, true, rfl, .ty _, .base (.bl b), kit_ty (by decide +kernel), _, rfl, _, _, _, _, true, rfl, .ty _, .base (.bl a), kit_ty (by decide +kernel), rfl, _, rfl, ifF rfl ?_⟩
      refine ⟨_, rfl, _, _, _, _, false, rfl, .ty _, .base (.bl b), kit_ty (by decide +kernel), _, rfl, _, _, _, _, false, rfl, .ty _, .base (.bl a), kit_ty (by decide +kernel), rfl, _, rfl, ifF rfl ?_⟩
      refine ⟨_, rfl, _, rfl, rfl, ?_⟩
      have e : decide (V.bl a = V.bl b) = decide (a = b) := by rw [decide_eq_decide, V.bl.injEq]
      rw [e]; exact k
end
end KW
set_option maxRecDepth 100000
set_option maxHeartbeats 4000000
/-! near, timed_parts -/
namespace KW
open PySem L2
section
variable {P : Program} {w : World} {K : PySem.W.Frag} {mg : Str → Option Value} {base : Heap}
def spNear (n : Nat) : Sp := fun vs H Q _ => ∃ (dl a : Addr) (hv : V) (e : Ex), vs = [.ref dl, .ref a, hv] ∧ At H e a ∧ dep e < n ∧ Dr H dl ∧
  ∀ a' e' H', Kp [dl] H H' → Dr H' dl → At H' e' a' → Nr e e' → Q (.ref a') H'
theorem Dr.new {H : Hp} {dl p : Addr} {o : HO} (h : Dr H dl) (hp : H p = none) : Dr (upd H p o) dl := by
  obtain ⟨ds, e⟩ := h
  exact ⟨ds, by rw [upd_ne (ne_of_none e hp)]; exact e⟩
theorem Dr.ne {H : Hp} {dl p : Addr} (h : Dr H dl) (hp : H p = none) : p ≠ dl := by
  obtain ⟨ds, e⟩ := h
  exact (ne_of_none e hp).symm
theorem ok_near (T : Tx K mg w) : ∀ n : Nat, FnOk P w K mg base CX0 (2 + n) T.law_near.a T.law_near.d p_law_near (spNear n)
  | 0 => ⟨fun vs H Q E h => by obtain ⟨_, _, _, _, _, _, h, _⟩ := h; exact absurd h (Nat.not_lt_zero _), fun A outer s H args us vs Q E _ _ _ _ h => by obtain ⟨_, _, _, _, _, _, h, _⟩ := h; exact absurd h (Nat.not_lt_zero _)⟩
  | n + 1 => by
    have Gt : FnOk P w K mg base CX0 1 T.law_take.a T.law_take.d p_law_take spTake := ok_take T
    have Gm : FnOk P w K mg base CX0 1 T.law_make.a T.law_make.d p_law_make spMake := ok_make T
    have Gn : FnOk P w K mg base CX0 (2 + n) T.law_near.a T.law_near.d p_law_near (spNear n) := ok_near T n
    refine T.law_near.F.ok sc_law_near (k := 2 + n) (fun vs H Q E h => ?_) (fun cdv A' outer s H vs Q E hr h => ?_)
    · obtain ⟨dl, a, hv, e, rfl, _⟩ := h
      rfl
    · obtain ⟨dl, a, hv, e, rfl, hat, hn, hD, k⟩ := h
      have hr1 : Room 1 _ := hr.mono (by omega)
      refine ⟨_, pss_cons (ps_if (PW.pt (pw_and (pt_cmpR op_in_seq (pixT 1) (pe_lst (pa_cons pe_str (pa_cons pe_str (pa_cons pe_str pa_nil)))) (by rfl)) (pw_and1 (pt_cmpR op_eq (pe_call Gt hr1 rfl T.law_take.g T.law_take.F.kp T.law_take.b .nil pass0 (pa_cons (pv 0) (pa_cons pe_int pa_nil))) pe_int (nomark _)))))
          (pss_one (ps_ret (pe_tup (pa_cons (pixT 1) (pa_cons (pe_call Gm hr1 rfl T.law_make.g T.law_make.F.kp T.law_make.b .nil pass0 (pa_cons (pe_call Gt hr1 rfl T.law_take.g T.law_take.F.kp T.law_take.b .nil pass0 (pa_cons (pv 0) (pa_cons pe_int pa_nil))) (pa_cons pe_int pa_nil))) pa_nil))))) pss_nil)
        (pss_cons (ps_set (i := 3) sc_law_near.nd rfl (Or.inl rfl) (pe_lst pa_nil))
        (pss_cons (ps_for PySem.PassesOwn.never rfl (pi_tup (pv 1)) (pg_name (i := 4) sc_law_near.nd rfl (Or.inl rfl))
          (pss_one (ps_if (PW.pt (pw_and (pt_val (pe_isi (ty := "tuple") (pv 4) (by rfl) T.z_isinstance (by rfl) T.z_tuple (by decide +kernel))) (pw_and (pt_cmpR op_gt (pe_callB call_len_seq (by rfl) T.z_len (by rfl) (pa_cons (pv 4) pa_nil)) pe_int (nomark _)) (pw_and1 (pt_val (pe_isi (ty := "str") (pixT 4) (by rfl) T.z_isinstance (by rfl) T.z_str (by decide +kernel)))))))
            (pss_one (ps_expr (pe_bm PySem.F.plainAttrs_list PySem.F.slot_list_append PySem.F.type_list_append mt_append (pv 3) (pa_cons (pe_call Gn hr rfl T.law_near.g T.law_near.F.kp T.law_near.b .nil pass0 (pa_cons (pv 0) (pa_cons (pv 4) (pa_cons (pv 2) pa_nil)))) pa_nil))))
            (pss_one (ps_expr (pe_bm PySem.F.plainAttrs_list PySem.F.slot_list_append PySem.F.type_list_append mt_append (pv 3) (pa_cons (pv 4) pa_nil)))))))
        (pss_one (ps_ret (pe_callTy call_tuple_of (by rfl) T.z_tuple (by decide +kernel) (pa_cons (pv 3) pa_nil)))))), ?_⟩
      obtain ⟨rr, h0⟩ := hat.head
      -- the parts, one by one
      have body : ∀ (H1 : Hp), Kp [dl] H H1 → Dr H1 dl → tSeq (tAsg (tLst tNil) (gName 3)) (tSeq (tFor (iTup K (tVar 1)) (gName 4) (tIfS (tAnd (tB (tCB (rIsi K) (tCons (tVar 4) (tCons (tC (.ty "tuple")) tNil)))) (tAnd (tTest (tOp (rI0 fun i j => .bl (decide (j < i))) (tCB (fun xs H Q => ∃ p ys, xs = [.ref p] ∧ (SqL K H p ys ∨ SqT K H p ys) ∧ Q (.int ys.length) H) (tCons (tVar 4) tNil)) (tC (.int 0)))) (tB (tCB (rIsi K) (tCons (tOp (rIxT K) (tVar 4) (tC (.int 0))) (tCons (tC (.ty "str")) tNil))))))
            (tDrop (tBM K "list" rAppend (tVar 3) (tCons (tCall (spNear n) [] E0 (tCons (tVar 0) (tCons (tVar 4) (tCons (tVar 2) tNil)))) tNil))) (tDrop (tBM K "list" rAppend (tVar 3) (tCons (tVar 4) tNil)))))
          (tRet (tCB (fun xs H Q => ∃ p ys, xs = [.ref p] ∧ ((SqL K H p ys ∧ ∀ l, H l = none → Q (.ref l) (upd H l (.tup ys))) ∨ (SqT K H p ys ∧ Q (.ref p) H))) (tCons (tVar 3) tNil)))) { nx := fun _ H' => Q .non H', rt := Q } [some (.ref dl), some (.ref a), some hv, none, none] H1 := by
        intro H1 k1 hD1
        refine ⟨Nat.zero_le _, fun p hp => ?_⟩
        have npd := hD1.ne hp
        have k2 : Kp [dl] H1 (upd H1 p (.lst [])) := .new hp
        have hp2 : (upd H1 p (.lst [])) p = some (.lst []) := upd_same
        have hD2 := hD1.new (o := .lst []) hp
        have kk := k1.trans k2
        have fp : H p = none := k1.free hp
        generalize upd H1 p (.lst []) = H2 at *
        obtain ⟨items, hi, hks⟩ := items_of hat
        have hlk := paired_len hks
        have hl4 := kindsLen e
        refine ⟨_, rfl, a, rfl, ⟨_, SqT.of (kk.tup _ _ hi)⟩, ?_⟩
        refine for_tup (xs := items) (Pv := fun i σ H' => ∃ (y4 : Option V) (ys : List V), σ = [some (.ref dl), some (.ref a), some hv, some (.ref p), y4] ∧ Kp [dl] H H' ∧ Dr H' dl ∧ H' p = some (.lst ys) ∧ T3 H' (items.take i) ys ((kinds e).take i)) ⟨_, [], rfl, kk, hD2, hp2, .nil⟩ (fun i σ H' _ ⟨_, _, _, h, _⟩ => SqT.of (h.tup _ _ hi)) ?_ ?_
        · rintro i x σ H3 hx ⟨y4, ys, rfl, k3, hD3, hp3, ht⟩
          obtain ⟨o, ho, hio⟩ := paired_get_l hks hx
          have hio := hio.kp k3
          have il : i < items.length := by
            rcases Nat.lt_or_ge i items.length with z | z
            · exact z
            · rw [List.getElem?_eq_none z] at hx; cases hx
          have hlen : ys.length < sizeLine := by
            have := ht.len
            rw [List.length_take] at this
            exact Nat.lt_of_le_of_lt (show ys.length ≤ 10 by omega) (by decide)
          -- kept as it is
          have plain : NrI H3 x x o → tDrop (tBM K "list" rAppend (tVar 3) (tCons (tVar 4) tNil)) { nx := fun σ H' => ∃ (y4 : Option V) (ys : List V), σ = [some (.ref dl), some (.ref a), some hv, some (.ref p), y4] ∧ Kp [dl] H H' ∧ Dr H' dl ∧ H' p = some (.lst ys) ∧ T3 H' (items.take (i + 1)) ys ((kinds e).take (i + 1)), ct := fun σ H' => ∃ (y4 : Option V) (ys : List V), σ = [some (.ref dl), some (.ref a), some hv, some (.ref p), y4] ∧ Kp [dl] H H' ∧ Dr H' dl ∧ H' p = some (.lst ys) ∧ T3 H' (items.take (i + 1)) ys ((kinds e).take (i + 1)), bk := fun σ H' => tRet (tCB (fun xs H Q => ∃ p ys, xs = [.ref p] ∧ ((SqL K H p ys ∧ ∀ l, H l = none → Q (.ref l) (upd H l (.tup ys))) ∨ (SqT K H p ys ∧ Q (.ref p) H))) (tCons (tVar 3) tNil)) { nx := fun _ H' => Q .non H', rt := Q } σ H', rt := Q } [some (.ref dl), some (.ref a), some hv, some (.ref p), some x] H3 := by
            intro hxx
            have k4 : Kp [p] H3 (upd H3 p (.lst (ys ++ [x]))) := .mut (by simp) hp3 (fun xs z => by cases z)
            refine ⟨_, rfl, .inl ⟨rfl, _, SqL.of hp3⟩, _, rfl, p, ys, _, rfl, rfl, hp3, hlen, _, ys ++ [x], rfl, k3.on k4 (fun s hs => .inr (by rw [List.mem_singleton.mp hs]; exact fp)), hD3.kp k4 (not1 npd.symm), upd_same, ?_⟩
            rw [take_succ_of hx, take_succ_of ho]
            exact T3.snoc (hxx.kp k4) (ht.kp k4)
          cases hio with
          | str z => exact ⟨_, rfl, _, _, _, _, false, rfl, .ty _, .base (.str z), kit_ty (by decide +kernel), _, rfl, ifF rfl (ifF rfl (plain rfl))⟩
          | int z => exact ⟨_, rfl, _, _, _, _, false, rfl, .ty _, .base (.int z), kit_ty (by decide +kernel), _, rfl, ifF rfl (ifF rfl (plain rfl))⟩
          | @fr t f hf =>
            refine ⟨_, rfl, _, _, _, _, true, rfl, .ty _, .base (.tup hf), kit_ty (by decide +kernel), _, rfl, ifT rfl ?_⟩
            refine ⟨_, rfl, t, _, rfl, .inr (SqT.of hf), _, _, rfl, rfl, _, rfl, ifT rfl ?_⟩
            exact ⟨_, rfl, t, _, _, _, rfl, rfl, SqT.of hf, at0, _, _, _, _, false, rfl, .ty _, .base (.int _), kit_ty (by decide +kernel), _, rfl, ifF rfl (plain rfl)⟩
          | @sub q e1 hq =>
            obtain ⟨rq, hq0⟩ := hq.head
            refine ⟨_, rfl, _, _, _, _, true, rfl, .ty _, .base (.tup hq0), kit_ty (by decide +kernel), _, rfl, ifT rfl ?_⟩
            refine ⟨_, rfl, q, _, rfl, .inr (SqT.of hq0), _, _, rfl, rfl, _, rfl, ifT (decide_eq_true (by rw [List.length_cons]; omega)) ?_⟩
            refine ⟨_, rfl, q, _, _, _, rfl, rfl, SqT.of hq0, at0, _, _, _, _, true, rfl, .ty _, .base (.str _), kit_ty (by decide +kernel), _, rfl, ifT rfl ?_⟩
            have hde := kind_dep (List.mem_of_getElem? ho)
            refine ⟨_, rfl, .inl ⟨rfl, _, SqL.of hp3⟩, _, rfl, _, rfl, _, rfl, dl, q, hv, e1, rfl, hq, by omega, hD3, fun b e2 H4 k4 hD4 hb hnr => ?_⟩
            have hp4 := k4.keep _ _ hp3 (not1 npd)
            have k5 : Kp [p] H4 (upd H4 p (.lst (ys ++ [V.ref b]))) := .mut (by simp) hp4 (fun xs z => by cases z)
            refine ⟨p, ys, _, rfl, rfl, hp4, hlen, _, ys ++ [V.ref b], rfl, (k3.trans k4).on k5 (fun s hs => .inr (by rw [List.mem_singleton.mp hs]; exact fp)), hD4.kp k5 (not1 npd.symm), upd_same, ?_⟩
            rw [take_succ_of hx, take_succ_of ho]
            exact T3.snoc (x := .ref q) (o := some e1) (y := .ref b) ⟨b, e2, rfl, hb.kp k5, hnr⟩ ((ht.kp k4).kp k5)
        · rintro σ H3 ⟨y4, ys, rfl, k3, hD3, hp3, ht⟩
          rw [List.take_of_length_le (Nat.le_refl _), List.take_of_length_le (by omega)] at ht
          refine ⟨_, rfl, p, ys, rfl, .inl ⟨SqL.of hp3, fun a' ha' => ?_⟩⟩
          have k4 : Kp [dl] H3 (upd H3 a' (.tup ys)) := .new ha'
          obtain ⟨e', hnr, hat'⟩ := rebuild hat hi (k3.trans k4) (ht.kp k4) upd_same
          exact k a' e' _ (k3.trans k4) (hD3.new ha') hat' hnr
      refine ⟨_, rfl, a, _, _, _, rfl, rfl, SqT.of h0, at0, by show 3 ≤ sizeLine; decide, fun p hp => ⟨p, _, rfl, .inl (SqL.of upd_same), rfl, rfl, _, rfl, ?_⟩⟩
      have k1 : Kp [dl] H (upd H p (.lst [V.str "number", V.str "money", V.str "percent"])) := .new hp
      have hD1 := hD.new (o := .lst [V.str "number", V.str "money", V.str "percent"]) hp
      generalize upd H p (.lst [V.str "number", V.str "money", V.str "percent"]) = H1 at *
      refine ite2 (fun q => ?_) (fun _ => ifF rfl (body H1 k1 hD1))
      obtain ⟨lw, f, rfl⟩ := lit_wd e q
      refine ⟨_, rfl, dl, 2, rfl, by decide, hD1, fun r H2 r0 r1 k2 hD2 => ⟨rfl, _, rfl, ?_⟩⟩
      have kk2 := k1.trans k2
      refine ite2 (fun _ => ?_) (fun _ => body H2 kk2 hD2)
      refine ⟨_, rfl, a, _, _, _, rfl, rfl, SqT.of (kk2.tup _ _ h0), at0, _, rfl, dl, 7, rfl, by decide, hD2, fun x H3 x0 x1 k3 hD3 => ⟨x, 2, rfl, by show x.natAbs < 1073741824; omega, by decide, by decide, fun t g H4 k4 ht hg h4 => ⟨size2, fun b hb => ?_⟩⟩⟩
      have k5 : Kp [dl] H4 (upd H4 b (.tup [V.str (Ex.lit lw f).wd, V.ref t])) := .new hb
      exact k b (.lit lw g) _ (((kk2.trans k3).trans k4.nil).trans k5) ((hD3.kp k4 (by simp)).new hb) ⟨t, upd_same, k5.tup _ _ h4⟩ (.lit lw f g hg)
end
end KW
set_option maxRecDepth 100000
set_option maxHeartbeats 4000000
/-! timed_parts -/
namespace KW
open PySem L2
def somes (os : List (Option Ex)) : List Ex := os.filterMap id
theorem somes_snoc_none (os : List (Option Ex)) : somes (os ++ [none]) = somes os := by simp [somes, List.filterMap_append]
theorem somes_snoc_some (os : List (Option Ex)) (e : Ex) : somes (os ++ [some e]) = somes os ++ [e] := by simp [somes, List.filterMap_append]
theorem kinds_parts {e : Ex} (h : e.wd ≠ "name") : somes ((kinds e).drop 1) = parts e := by
  cases e <;> first | rfl | exact absurd rfl h
theorem kind_part {e p : Ex} (h : some p ∈ kinds e) : p ∈ parts e := by
  cases e <;> simp [kinds] at h <;> simp [parts]
  · exact h
  · exact h
  · exact h
  · exact h
theorem nam_uniq {ls : List (Str × Ex)} {n : Str} {b b' : Ex} (nd : (ls.map (·.1)).Nodup) (h : lk ls n = some b) (h' : (n, b') ∈ ls) : b' = b := by
  obtain ⟨i, hi, e1⟩ := List.mem_iff_getElem.mp (lk_mem h)
  obtain ⟨j, hj, e2⟩ := List.mem_iff_getElem.mp h'
  have g1 : (ls.map (·.1))[i]? = some n := by rw [List.getElem?_map, List.getElem?_eq_getElem hi, e1]; rfl
  have g2 : (ls.map (·.1))[j]? = some n := by rw [List.getElem?_map, List.getElem?_eq_getElem hj, e2]; rfl
  have : i = j := nd_ix nd g1 g2
  subst this
  rw [e1] at e2
  injection e2 with _ e2
  exact e2.symm
theorem Tps.con {L : Str → Option Ex} {es gs gs' : List Ex} (a : Tps es gs gs') (hg : ∀ x ∈ gs, Con L x ∧ dep x ≤ 60) (he : ∀ x ∈ es, Con L x ∧ dep x ≤ 60) : ∀ x ∈ gs', Con L x ∧ dep x ≤ 60 := by
  intro x hx
  rcases (a.mem x).mp hx with h | ⟨_, e, h1, h2⟩
  · exact hg x h
  · exact ⟨con_sub (he e h1).1 h2, Nat.le_trans (dep_sub h2) (he e h1).2⟩
section
variable {P : Program} {w : World} {K : PySem.W.Frag} {mg : Str → Option Value} {base : Heap}
def spTP (n : Nat) : Sp := fun vs H Q _ => ∃ (a la fa : Addr) (e : Ex) (ls : List (Str × Ex)) (gs : List Ex), vs = [.ref a, .ref la, .ref fa] ∧ At H e a ∧ Con (lk ls) e ∧ dep e < n ∧ dep e ≤ 60 ∧ LetsL H la ls ∧ (ls.map (·.1)).Nodup ∧ ls.length ≤ 10 ∧ PartsL H fa gs ∧ (∀ x ∈ gs, Con (lk ls) x ∧ dep x ≤ 60) ∧
  gs.length + (subs e).length ≤ 1000000 ∧ ∀ fa' gs' H', Kp [] H H' → PartsL H' fa' gs' → Tp e gs gs' → Q (.ref fa') H'
theorem ok_tparts (T : Tx K mg w) : ∀ n : Nat, FnOk P w K mg base CX0 n T.law_timed_parts.a T.law_timed_parts.d p_law_timed_parts (spTP n)
  | 0 => ⟨fun vs H Q E h => by obtain ⟨_, _, _, _, _, _, _, _, _, h, _⟩ := h; exact absurd h (Nat.not_lt_zero _), fun A outer s H args us vs Q E _ _ _ _ h => by obtain ⟨_, _, _, _, _, _, _, _, _, h, _⟩ := h; exact absurd h (Nat.not_lt_zero _)⟩
  | n + 1 => by
    have Gp : FnOk P w K mg base CX0 n T.law_timed_parts.a T.law_timed_parts.d p_law_timed_parts (spTP n) := ok_tparts T n
    refine T.law_timed_parts.F.ok sc_law_timed_parts (k := n) (fun vs H Q E h => ?_) (fun cdv A' outer s H vs Q E hr h => ?_)
    · obtain ⟨a, la, fa, e, ls, gs, rfl, _⟩ := h
      rfl
    · obtain ⟨a, la, fa, e, ls, gs, rfl, hat, hC, hn, hd, hL, nd, hl10, hP, hG, hz, k⟩ := h
      have hun : ∀ {A : Around}, A.units + 16 * n + 200 < cLine → A.units + 65 < cLine := fun h => by omega
      refine ⟨_, pss_cons (ps_if (pt_cmpR op_eq (pixT 0) pe_str (nomark _)) (pss_one (ps_ret (pe_call Gp hr rfl T.law_timed_parts.g T.law_timed_parts.F.kp T.law_timed_parts.b .nil pass0
            (pa_cons (pe_ix ix_list (pe_lc (own := [("_law_row", 4)]) (g := gName 4) (tt := tTest (tOp rEq (tOp (rIxT K) (tVar 4) (tC (.int 0))) (tOp (rIxT K) (tVar 0) (tC (.int 1))))) (te := tOp (rIxT K) (tVar 4) (tC (.int 1))) rfl sc_law_timed_parts.nd (pi_list (pv 1)) (blkOk_by (N := n_law_timed_parts) (sc := defScope s_law_timed_parts) (by decide +kernel))
              (fun _ _ _ _ _ => pg_name (i := 4) sc_law_timed_parts.nd rfl (Or.inl rfl)) (fun _ _ _ _ _ => pts_one (pt_cmpR op_eq (pixT 4) (pixT 0) (nomark _))) (fun _ _ _ _ _ => pixT 4)) pe_int (fun _ _ => rfl)) (pa_cons (pv 1) (pa_cons (pv 2) pa_nil)))))) pss_nil)
        (pss_cons (ps_for PySem.PassesOwn.never rfl (pi_tup (pe_slice sl_tupA (pv 0) (po_some pe_int) po_none)) (pg_name (i := 3) sc_law_timed_parts.nd rfl (Or.inl rfl))
          (pss_one (ps_if (PW.pt (pw_and (pt_val (pe_isi (ty := "tuple") (pv 3) (by rfl) T.z_isinstance (by rfl) T.z_tuple (by decide +kernel))) (pw_and1 (pt_val (pe_isi (ty := "str") (pixT 3) (by rfl) T.z_isinstance (by rfl) T.z_str (by decide +kernel))))))
            (pss_one (ps_set (i := 2) sc_law_timed_parts.nd rfl (Or.inl rfl) (pe_call Gp hr rfl T.law_timed_parts.g T.law_timed_parts.F.kp T.law_timed_parts.b .nil pass0 (pa_cons (pv 3) (pa_cons (pv 1) (pa_cons (pv 2) pa_nil)))))) pss_nil)))
        (pss_cons (ps_if (PW.pt (pw_and (pt_cmpR op_in_seq (pixT 0) (pe_lst (pa_cons pe_str (pa_cons pe_str (pa_cons pe_str pa_nil)))) (by rfl)) (pw_and1 (pt_cmpR (op_notInD (hun hr.un)) (pv 0) (pv 2) (by rfl)))))
          (pss_one (ps_set (i := 2) sc_law_timed_parts.nd rfl (Or.inl rfl) (pe_op op_cat (pv 2) (pe_lst (pa_cons (pv 0) pa_nil))))) pss_nil)
        (pss_one (ps_ret (pv 2))))), ?_⟩
      obtain ⟨rr, h0⟩ := hat.head
      refine ⟨_, rfl, a, _, _, _, rfl, rfl, SqT.of h0, at0, rfl, _, rfl, ?_⟩
      by_cases hnm : e.wd = "name"
      · refine ifT (decide_eq_true (by rw [hnm])) ?_
        obtain ⟨nn, b, rfl⟩ := wd_name hnm
        obtain ⟨_, hb, hCb⟩ := hC
        have hat0 : H a = some (.tup [.str "name", .str nn]) := hat
        obtain ⟨ps, hp1, hp2⟩ := id hL
        refine ⟨_, rfl, la, rfl, ⟨_, SqL.of hp1⟩, fun D hD => ?_⟩
        have nlD : la ≠ D := ne_of_none hp1 hD
        have naD : a ≠ D := ne_of_none hat0 hD
        refine lc_list (xs := ps.map V.ref) (Pv := fun i H' => ∃ us : List Addr, H' = upd H D (.lst (us.map V.ref)) ∧ us.length ≤ i ∧ (∀ u ∈ us, At H b u) ∧ (us = [] → ∀ j nb, j < i → ls[j]? = some nb → nb.1 ≠ nn)) ⟨[], rfl, Nat.le_refl _, by simp, fun _ j nb h => absurd h (Nat.not_lt_zero _)⟩
          (fun i H' _ h => by obtain ⟨us, rfl, _⟩ := h; exact SqL.of (by rw [upd_ne nlD]; exact hp1)) ?_ ?_
        · rintro i y _ hy ⟨us, rfl, hl, hu, hno⟩
          rw [List.getElem?_map] at hy
          cases q : ps[i]? with
          | none => rw [q] at hy; cases hy
          | some t =>
            rw [q] at hy
            have hy : V.ref t = y := Option.some.inj hy
            subst hy
            obtain ⟨nb, hnb, x, e1, e2⟩ := paired_get_l hp2 q
            have nt : t ≠ D := ne_of_none e1 hD
            have il : i < ls.length := by
              rcases Nat.lt_or_ge i ls.length with z | z
              · exact z
              · rw [List.getElem?_eq_none z] at hnb; cases hnb
            refine ⟨rfl, _, rfl, t, _, _, _, rfl, rfl, SqT.of (by rw [upd_ne nt]; exact e1), at0, _, rfl, a, _, _, _, rfl, rfl, SqT.of (by rw [upd_ne naD]; exact hat0), at1, rfl, _, rfl, ?_⟩
            refine ite2 (fun z => ?_) (fun z => ?_)
            · have z : nb.1 = nn := V.str.inj (of_decide_eq_true z)
              have eb : nb.2 = b := nam_uniq nd hb (by rw [← z]; exact List.mem_of_getElem? hnb)
              refine ⟨_, rfl, t, _, _, _, rfl, rfl, SqT.of (by rw [upd_ne nt]; exact e1), at1, _, upd_same, ?_, us ++ [x], by rw [upd_upd, List.map_append]; rfl, by rw [List.length_append]; exact Nat.succ_le_succ hl, fun u hu2 => ?_, fun h => by simp at h⟩
              · rw [List.length_map]
                exact Nat.lt_of_le_of_lt (show us.length ≤ 10 by omega) (by decide)
              · rcases List.mem_append.mp hu2 with g | g
                · exact hu u g
                · have : u = x := by simpa using g
                  rw [this, ← eb]; exact e2
            · refine ⟨us, rfl, by omega, hu, fun h j nb' hj e => ?_⟩
              rcases Nat.lt_or_ge j i with g | g
              · exact hno h j nb' g e
              · have : j = i := by omega
                subst this
                rw [hnb] at e
                rw [← Option.some.inj e]
                exact fun g => z (decide_eq_true (by rw [g]))
        · rintro _ ⟨us, rfl, hl, hu, hno⟩
          rw [List.length_map, paired_len hp2] at hl hno
          have k1 : Kp [] H (upd H D (.lst (us.map V.ref))) := .new hD
          match us, hu, hno, k1 with
          | [], _, hno, _ =>
            obtain ⟨j, hj, e⟩ := List.mem_iff_getElem.mp (lk_mem hb)
            exact absurd rfl (hno rfl j (nn, b) hj (by rw [List.getElem?_eq_getElem hj, e]))
          | u :: us, hu, _, k1 =>
            have hdb : dep b < dep (Ex.nam nn b) := parts_dep (by simp [parts])
            refine ⟨D, _, _, V.ref u, rfl, rfl, SqL.of upd_same, at0, _, rfl, _, rfl, u, la, fa, b, ls, gs, rfl, (hu u (by simp)).kp k1, hCb, by omega, by omega, hL.kp k1 (by simp), nd, hl10, hP.kp k1 (by simp), hG, ?_, fun fa' gs' H2 k2 hP2 hT => ?_⟩
            · have : (subs (Ex.nam nn b)).length = (subs b).length + 1 := rfl
              omega
            · exact k fa' gs' H2 (k1.trans k2) hP2 (Tp.end (Tps.snoc .nil hT) (fun h => by cases h))
      · refine ifF (decide_eq_false fun z => hnm (V.str.inj z)) ?_
        obtain ⟨items, hi, hks⟩ := items_of hat
        have hkp := kinds_parts hnm
        have hil : 1 ≤ items.length := by
          rw [hi] at h0
          have h0 := Option.some.inj h0
          injection h0 with h0
          rw [h0]; exact Nat.succ_le_succ (Nat.zero_le _)
        have hlk := paired_len hks
        have hl4 := kindsLen e
        refine ⟨_, rfl, _, rfl, a, items, rfl, SqT.of hi, fun h => ?_, fun _ sl hsl => ?_⟩
        · have h := h.1
          rw [show HT.sIx items.length 0 (some 1) = min 1 items.length from HT.sIx_nat items.length 0 1] at h
          omega
        have ecut : cutV items (some 1) none = items.drop 1 := by
          unfold cutV
          rw [show HT.sIx items.length 0 (some 1) = min 1 items.length from HT.sIx_nat items.length 0 1, HT.sIx_none, Nat.min_eq_left hil, List.take_of_length_le (by rw [List.length_drop]; exact Nat.le_refl _)]
        rw [ecut]
        have k0 : Kp [] H (upd H sl (.tup (items.drop 1))) := .new hsl
        have hsl0 : (upd H sl (.tup (items.drop 1))) sl = some (.tup (items.drop 1)) := upd_same
        have hP0 := hP.kp k0 (by simp)
        generalize upd H sl (.tup (items.drop 1)) = H0 at *
        refine ⟨sl, rfl, ⟨_, SqT.of hsl0⟩, ?_⟩
        have hparts : ∀ {i : Nat}, ∀ x ∈ somes (((kinds e).drop 1).take i), Con (lk ls) x ∧ dep x ≤ 60 := fun {i} x hx => by
          obtain ⟨o, ho, hox⟩ := List.mem_filterMap.mp hx
          have hox : o = some x := hox
          subst hox
          have hm : some x ∈ kinds e := List.mem_of_mem_drop (List.mem_of_mem_take ho)
          exact ⟨hC.part (kind_part hm), Nat.le_trans (Nat.le_of_lt (kind_dep hm)) hd⟩
        refine for_tup (xs := items.drop 1) (Pv := fun i σ H' => ∃ (y3 : Option V) (f' : Addr) (gs' : List Ex), σ = [some (.ref a), some (.ref la), some (.ref f'), y3, none] ∧ Kp [] H H' ∧ H' sl = some (.tup (items.drop 1)) ∧ PartsL H' f' gs' ∧ Tps (somes (((kinds e).drop 1).take i)) gs gs') ⟨_, fa, gs, rfl, k0, hsl0, hP0, .nil⟩ (fun i σ H' _ ⟨_, _, _, _, _, h, _⟩ => SqT.of h) ?_ ?_
        · rintro i x σ H1 hx ⟨y3, f', gs', rfl, k1, hs1, hP1, hT1⟩
          rw [List.getElem?_drop] at hx
          obtain ⟨o, ho, hio⟩ := paired_get_l hks hx
          have ho' : ((kinds e).drop 1)[i]? = some o := by rw [List.getElem?_drop]; exact ho
          have hio := hio.kp k1
          have skip : o = none → ∃ (y3 : Option V) (f2 : Addr) (gs2 : List Ex), ([some (.ref a), some (.ref la), some (.ref f'), some x, none] : L2.St) = [some (.ref a), some (.ref la), some (.ref f2), y3, none] ∧ Kp [] H H1 ∧ H1 sl = some (.tup (items.drop 1)) ∧ PartsL H1 f2 gs2 ∧ Tps (somes (((kinds e).drop 1).take (i + 1))) gs gs2 := by
            rintro rfl
            refine ⟨_, f', gs', rfl, k1, hs1, hP1, ?_⟩
            rw [take_succ_of ho', somes_snoc_none]; exact hT1
          cases hio with
          | str z => exact ⟨_, rfl, _, _, _, _, false, rfl, .ty _, .base (.str z), kit_ty (by decide +kernel), _, rfl, ifF rfl (ifF rfl (skip rfl))⟩
          | int z => exact ⟨_, rfl, _, _, _, _, false, rfl, .ty _, .base (.int z), kit_ty (by decide +kernel), _, rfl, ifF rfl (ifF rfl (skip rfl))⟩
          | @fr t f hf =>
            refine ⟨_, rfl, _, _, _, _, true, rfl, .ty _, .base (.tup hf), kit_ty (by decide +kernel), _, rfl, ifT rfl ?_⟩
            exact ⟨_, rfl, t, _, _, _, rfl, rfl, SqT.of hf, at0, _, _, _, _, false, rfl, .ty _, .base (.int _), kit_ty (by decide +kernel), _, rfl, ifF rfl (skip rfl)⟩
          | @sub q e1 hq =>
            obtain ⟨rq, hq0⟩ := hq.head
            have hm : some e1 ∈ kinds e := List.mem_of_getElem? ho
            have hde := kind_dep hm
            refine ⟨_, rfl, _, _, _, _, true, rfl, .ty _, .base (.tup hq0), kit_ty (by decide +kernel), _, rfl, ifT rfl ?_⟩
            refine ⟨_, rfl, q, _, _, _, rfl, rfl, SqT.of hq0, at0, _, _, _, _, true, rfl, .ty _, .base (.str _), kit_ty (by decide +kernel), _, rfl, ifT rfl ?_⟩
            refine ⟨_, rfl, _, rfl, _, rfl, q, la, f', e1, ls, gs', rfl, hq, hC.part (kind_part hm), by omega, by omega, hL.kp k1 (by simp), nd, hl10, hP1, hT1.con hG hparts, ?_, fun f2 gs2 H2 k2 hP2 hT2 => ?_⟩
            · have h1 := hT1.len
              have h2 : (somes (((kinds e).drop 1).take i) ++ [e1]) = somes (((kinds e).drop 1).take (i + 1)) := by rw [take_succ_of ho', somes_snoc_some]
              have h3 : ((somes (((kinds e).drop 1).take (i + 1))).map fun e => (subs e).length).sum ≤ ((parts e).map fun e => (subs e).length).sum := by
                rw [← hkp]
                have e5 : ((kinds e).drop 1) = ((kinds e).drop 1).take (i + 1) ++ ((kinds e).drop 1).drop (i + 1) := (List.take_append_drop _ _).symm
                conv => rhs; rw [e5]
                unfold somes
                rw [List.filterMap_append, List.map_append, List.sum_append]
                exact Nat.le_add_right _ _
              have h4 := subs_len e
              have h5 : ((somes (((kinds e).drop 1).take i) ++ [e1]).map fun e => (subs e).length).sum = ((somes (((kinds e).drop 1).take i)).map fun e => (subs e).length).sum + (subs e1).length := by simp
              rw [h2] at h5
              omega
            · refine ⟨_, f2, gs2, rfl, k1.trans k2, k2.to _ _ hs1, hP2, ?_⟩
              rw [take_succ_of ho', somes_snoc_some]
              exact hT1.snoc hT2
        · rintro σ H1 ⟨y3, f', gs', rfl, k1, hs1, hP1, hT1⟩
          have e6 : ((kinds e).drop 1).take (items.drop 1).length = (kinds e).drop 1 := List.take_of_length_le (by rw [List.length_drop, List.length_drop, hlk]; exact Nat.le_refl _)
          rw [e6, hkp] at hT1
          have hcon : ∀ x ∈ gs', Con (lk ls) x ∧ dep x ≤ 60 := hT1.con hG fun x hx => ⟨hC.part hx, Nat.le_trans (Nat.le_of_lt (parts_dep hx)) hd⟩
          refine ⟨_, rfl, a, _, _, _, rfl, rfl, SqT.of (k1.tup _ _ h0), at0, by show 3 ≤ sizeLine; decide, fun q hq => ⟨q, _, rfl, .inl (SqL.of upd_same), rfl, rfl, _, rfl, ?_⟩⟩
          have k2 : Kp [] H1 (upd H1 q (.lst [V.str "ever", V.str "always", V.str "before"])) := .new hq
          have hP2 := hP1.kp k2 (by simp)
          have kk := k1.trans k2
          generalize upd H1 q (.lst [V.str "ever", V.str "always", V.str "before"]) = H2 at *
          have ew : (if false = true then !inV (V.str e.wd) [V.str "ever", V.str "always", V.str "before"] else inV (V.str e.wd) [V.str "ever", V.str "always", V.str "before"]) = e.isT := wd_timed e
          rw [ew]
          cases hTt : e.isT with
          | false =>
            refine ifF rfl (ifF rfl ⟨_, rfl, ?_⟩)
            exact k f' gs' H2 kk hP2 (.end hT1 fun h => by rw [hTt] at h; cases h)
          | true =>
            refine ifT rfl ?_
            refine ⟨_, rfl, _, rfl, toD e, gs'.map toD, (hat.kp kk).dp, hP2.dp, toD_shaped hC hd, toDs_shaped (L := lk ls) (fun x hx => (hcon x hx).1) (fun x hx => (hcon x hx).2), _, rfl, ?_⟩
            rw [any_mem (fun x hx => (hcon x hx).1) hC]
            by_cases g : e ∈ gs'
            · rw [decide_eq_true g]
              refine ifF rfl ⟨_, rfl, ?_⟩
              exact k f' gs' H2 kk hP2 (.end hT1 fun _ => g)
            · rw [decide_eq_false g]
              refine ifT rfl ?_
              obtain ⟨us, h1, h2⟩ := hP2
              refine ⟨_, rfl, _, rfl, by show 1 ≤ sizeLine; decide, fun p1 hp1 => ?_⟩
              have k3 : Kp [] H2 (upd H2 p1 (.lst [V.ref a])) := .new hp1
              have hlen : us.length + 1 ≤ sizeLine := by
                rw [paired_len h2]
                have q1 := hT1.len
                have q2 := subs_len e
                exact Nat.le_trans (show gs'.length + 1 ≤ 1000001 by omega) (by decide)
              refine ⟨f', p1, _, _, rfl, rfl, k3.to _ _ h1, upd_same, by rw [List.length_map]; exact hlen, fun p2 hp2 => ⟨_, rfl, ?_⟩⟩
              have k4 : Kp [] (upd H2 p1 (.lst [V.ref a])) (upd (upd H2 p1 (.lst [V.ref a])) p2 (.lst (us.map V.ref ++ [V.ref a]))) := .new hp2
              have k34 := k3.trans k4
              refine k p2 (gs' ++ [e]) _ (kk.trans k34) ⟨us ++ [a], by rw [upd_same, List.map_append]; rfl, ?_⟩ (.add hT1 hTt g)
              exact paired_imp (fun a x (h : At H2 x a) => h.kp k34) (paired_snoc (F := fun a x => At H2 x a) (hat.kp kk) h2)
end
end KW
set_option maxRecDepth 100000
set_option maxHeartbeats 4000000
/-! try with several clauses, each with a name; the context of what is caught is None -/
namespace KY
open PySem PySem.Spec PyProof.Rows L2 L2N
/-- what the clauses wish, one behind the other; slot i is the name's -/
def wList (K : PySem.W.Frag) (i : Nat) (Wout : WX) (D : Ends) : List (Value × (Addr → Value → Option Addr → TS)) → WX
  | [] => Wout
  | p :: r => wAs K p.1 i p.2 (wList K i Wout D r) D
/-- clauses «except x as n», all of one name -/
inductive Hds (X : Cx) (n : Str) : List ExceptHandler → List (Value × (Addr → Value → Option Addr → TS)) → Prop
  | nil : Hds X n [] []
  | cons {x : Str} {c : Value} {ts : Addr → Value → Option Addr → TS} {b0 : Stmt} {suite : List Stmt} {np p2 : Pos} {hds : List ExceptHandler} {l : List (Value × (Addr → Value → Option Addr → TS))} (hc : Names X x c)
      (hsu : ∀ (a : Addr) (oe : Obj) (cls : Value) (d : Option Addr) (pn : List (Addr × Obj)), Zn cls d oe → (∃ vs, oe.data = .fields vs) → PSs (X.suite a ((a, oe) :: pn)) (b0 :: suite) (ts a cls d)) (r : Hds X n hds l) : Hds X n (.ExceptHandler (some (.Name x np)) (some n) (b0 :: suite) p2 :: hds) ((c, ts) :: l)
section
variable {X : Cx} {n : Str} {i : Nat} {body : List Stmt} {h0 : ExceptHandler} {hds : List ExceptHandler} {l : List (Value × (Addr → Value → Option Addr → TS))} {pos : Pos} {tb : WX → TS} {Wout : WX}
theorem ends_in {D : Ends} {f : Flow} {pins : List (Addr × Obj)} {s1 : Shared} {pn : List (Addr × Obj)} {xe : Value → Shared → Prop} (ok : X.Ok) (h : SP (X.tr pn xe) [] D f s1) (J : ∀ {σ : L2.St} {H : Hp} {s : Shared}, Inv (X.tr pn xe) [] σ H s → Inv X pins σ H s) : SP X pins D f s1 := by
  cases f with
  | ret u => obtain ⟨v, σ1, H1, J1, r, q⟩ := h; exact ⟨v, σ1, H1, J J1, r, q⟩
  | _ => obtain ⟨σ1, H1, J1, q⟩ := h; exact ⟨σ1, H1, J J1, q⟩
/-- the clauses, tried one after the other at an exception that has landed -/
theorem clauses (hs : X.stack = X.env :: X.outer) (hf : X.env.frame = some X.env.locals) (hN : X.N.Nodup) (hi : X.N[i]? = some n) (hln : X.env.kindOf n = some .local) (tk : L2N.Takes X Wout) {D : Ends} {a : Addr} {B : Heap} {sI s2 : Shared} {pins : List (Addr × Obj)} {σ1 : L2.St} {H1 : Hp} {cls : Value} {d : Option Addr} {h3 : Heap}
    (ok : X.Ok) (J : Inv X pins σ1 H1 sI) (nb : ∀ b o, sI.heap.get? b = some o → b ∉ frs X.stack → B.get? b = some o) (up : sI.heap.UpToSlots h3) (na : H1 a = none) (os : s2.os = sI.os) (ag : AllBare s2.gens) (fl3 : HandSPX.FlyingZ B (X.env :: X.outer) a (Zn cls d) h3) :
    ∀ {hs2 : List ExceptHandler} {l2 : List (Value × (Addr → Value → Option Addr → TS))}, Hds X n hs2 l2 → wList X.K i Wout D l2 cls d σ1 H1 → wpAny (model X.prog X.w) X.A (handleBy (.ref a) X.env hs2) (SP X pins D) X.xe { s2 with heap := h3 } := by
  have J3 : Inv X pins σ1 H1 { s2 with heap := h3 } := J.landed nb fl3.1 up os ag
  obtain ⟨oe3, vs3, he3, hz3, hd3⟩ := fl3.there
  have apart : a ∉ frs (X.env :: X.outer) := fun hm => by
    obtain ⟨_, o1, e1, hnf⟩ := fl3.2.2.1.mem hm
    rw [he3] at e1; cases e1; exact hnf _ hd3
  have nL : a ≠ X.env.locals := fun z => apart (List.mem_filterMap.mpr ⟨X.env, List.mem_cons_self, by rw [hf, z]⟩)
  have nF : a ∉ X.fs := fun hm => by
    obtain ⟨e, he, q⟩ := List.mem_filterMap.mp hm
    exact apart (List.mem_filterMap.mpr ⟨e, List.mem_cons_of_mem _ he, q⟩)
  have S3 := J3.suite he3 hd3 na nL nF
  intro hs2 l2 hk
  induction hk with
  | nil =>
    intro wn
    refine wpAny_handleBy_nil ?_; obtain ⟨k1, k2, k3, oe, vs, T, oT, tsx, he, hz, hd, h1, hr⟩ := id fl3
    unfold PySem.passOn; refine wpAny_bind (wpAny_field he hd h1 ?_); rw [if_neg (show ¬ ((Value.ref T == Value.none) = true) by simp)]
    have fin : wpAny (model X.prog X.w) X.A (setFlight (.ref a) X.env.frame) (fun _ s4 => wpAny (model X.prog X.w) X.A (throw (.ref a) : Sem Flow) (SP X pins D) X.xe s4) X.xe { s2 with heap := h3 } := by
      rw [hf]; refine HandSPX.setFlight_upZ fl3 fun h4 hh4 up4 => wpAny_throw (tk _ _ ⟨a, B, sI, pins, σ1, H1, cls, d, rfl, J, nb, up.trans up4, .inr (.inr (by rw [hs]; exact hh4)), na, os, ag, wn⟩)
    first | exact wpAny_bind (wpAny_pure (wpAny_bind fin)) | exact wpAny_bind fin
  | @cons x c ts b0 suite np p2 hds2 l3 hc hsu r ih =>
    rintro ⟨b, hb1, hyes, hno⟩
    refine wpAny_handleBy_cons (codeAny_handlers_test ?_) (fun q => by cases q)
    have LT : PySem.W.Looks (model X.prog X.w) h3 (typeOf (.ref a)) cls := fun _ Q E s k q => wpAny_typeOf_ref (k _ _ he3) (hz3.1.symm ▸ q)
    have LM := PySem.W.exm_one (M := model X.prog X.w) J3.kIn LT hb1
    have test : ∀ {Q E : Value → Shared → Prop}, Q c { s2 with heap := h3 } → wpAny (model X.prog X.w) (X.A.mark (some (.ref a))) (eval (.Name x np) X.env) Q E { s2 with heap := h3 } := fun {Q E} q => by
      rcases hc with ⟨hg, g1, hm | ⟨hm, hv, hnn⟩⟩
      · exact ld_glob (X := X.suite a ((a, oe3) :: (X.pn ++ pins))) S3 hg hm q g1
      · exact ld_blt (X := X.suite a ((a, oe3) :: (X.pn ++ pins))) S3 hg hm hv q hnn g1
    refine test (LM.here ?_)
    cases b with
    | false => exact (show wpAny _ X.A (handleBy (.ref a) X.env hds2) _ _ _ from ih (hno rfl))
    | true =>
      refine codeAny_handlers_suite_as (HandSPX.lands_againZ fl3 fun h4 fl4 up4 => ?_)
      have J4 : Inv X pins σ1 H1 { s2 with heap := h4 } := J.landed nb fl4.1 (up.trans up4) os ag
      obtain ⟨oe4, vs4, he4, hz4, hd4⟩ := fl4.there
      refine store_ok (X := X.suite a ((a, oe4) :: (X.pn ++ pins))) (v := .ref a) (J4.suite he4 hd4 na nL nF) hN hi (.inl hln) rfl (fun s5 S5 => ?_) (.inr hln)
      refine wpAny_mono ((hsu a oe4 cls d (X.pn ++ pins) hz4 ⟨_, hd4⟩).run [] s5 _ H1 _ S5 (hyes rfl a na)) (fun f s6 hsp => ?_) (fun _ _ z => z.elim)
      have off : ∀ {σ6 : L2.St} {H6 : Hp} {Q : Shared → Prop}, Inv (X.suite a ((a, oe4) :: (X.pn ++ pins))) [] σ6 H6 s6 → (∀ s7, Inv X pins (σ6.set i none) H6 s7 → Q s7) → wpAny (model X.prog X.w) X.A (do bindName X.env n .none; unbindBehindTheSuite X.env n p2) (fun _ s7 => Q s7) X.xe s6 :=
        fun S6 hq => gone_ok (S6.unsuite ok) hN hi hln hq
      cases f with
      | ret u => obtain ⟨v6, σ6, H6, S6, r6, q6⟩ := hsp; exact off S6 fun s7 J7 => ⟨_, _, _, J7, r6, q6⟩
      | _ => obtain ⟨σ6, H6, S6, q6⟩ := hsp; exact off S6 fun s7 J7 => ⟨_, _, J7, q6⟩
/-- THE RULE -/
theorem ps_try_names (hs : X.stack = X.env :: X.outer) (hf : X.env.frame = some X.env.locals) (hN : X.N.Nodup) (hi : X.N[i]? = some n) (hln : X.env.kindOf n = some .local) (tk : L2N.Takes X Wout)
    (hb : ∀ (W : WX) (pn : List (Addr × Obj)) (xe : Value → Shared → Prop), L2N.Takes (X.tr pn xe) W → PassesOwn (model X.prog X.w) X.A X.env xe → PSs (X.tr pn xe) body (tb W)) (hh : Hds X n (h0 :: hds) l) :
    PS X (.Try body (h0 :: hds) [] [] pos) (fun D σ H => tb (wList X.K i Wout D l) D σ H) := by
  refine ⟨fun pins s σ H D I h => ?_⟩
  have ok := I.ok; have hfr : X.A.frames = some (X.env :: X.outer) := hs ▸ ok.frames
  refine wpAny_Try_except (wpAny_mono ((hb (wList X.K i Wout D l) (X.pn ++ pins) (fun e s1 => wpAny (model X.prog X.w) X.A (noteFrame e X.env) (fun _ s2 => wpAny (model X.prog X.w) X.A (setFlight e none) (fun _ s3 =>
    wpAny (model X.prog X.w) X.A (handleBy e X.env (h0 :: hds)) (SP X pins D) X.xe s3) X.xe s2) X.xe s1) (fun u s1 xx => ?_) PassesOwn.looking).run [] s σ H D (I.toTry _) h) (fun f s1 hsp => ?_) (fun e s1 he => he))
  · obtain ⟨a, B, sI, pins2, σ1, H1, cls, d, rfl, J1, nb, up, sky, na, os, ag, wl⟩ := xx
    have sky2 : Sky B (X.env :: X.outer) a (Zn cls d) X.env.locals s1.heap := hs ▸ sky
    exact (show wpAny (model X.prog X.w) X.A (noteFrame (.ref a) X.env) _ _ _ from L2N.Sky.land Zn.steady hfr hf sky2 fun h3 fl3 up3 => clauses hs hf hN hi hln tk ok (J1.ofTry ok) nb (up.trans up3) na os ag fl3 hh wl)
  · have z := ends_in (X := X) (pins := pins) ok hsp fun J => J.ofTry ok
    cases f with
    | next => exact wpAny_execs_nil z
    | _ => exact z
end
end KY
set_option maxRecDepth 100000
set_option maxHeartbeats 4000000
/-! where an exception is handled: a list walked to its end, sum([len(x) for x in xs]), a property -/
namespace KY
open PySem PySem.Spec PyProof.Rows L2 HotX
section
variable {prog : Program} {w : World} {A : Around} {E : Value → Shared → Prop} {s : Shared}
theorem list_end_hot {it l x1 : Addr} {i : Nat} {items : Array Value} {Q : Option Value → Shared → Prop} (hot : HotAt A x1 s.heap) (hit : s.heap.IsListIter it l i) (hl : s.heap.IsList l items) (hx : items[i]? = none)
    (hQ : ∀ h', (∀ b o, b ≠ it → s.heap.get? b = some o → h'.get? b = some o) → Q none { s with heap := h' }) : wpAny (model prog w) A (pyNext (.ref it)) Q E s := by
  obtain ⟨o, ho, hc, hd⟩ := id hit
  obtain ⟨ol, hol, _, nl, hdl⟩ := hl
  obtain ⟨hh, o1, vs1, g1, d1, c1⟩ := hot
  have nx : x1 ≠ it := fun z => by
    rw [z, ho] at g1; cases g1; rw [hd] at d1; cases d1; simp at c1
  unfold pyNext; refine wpAny_bind (wpAny_attempt (wpAny_callSpecial?_slot (name := Str.ofString "__next__") hit.typeIs slot_listiter_next (wpAny_call_entry slot_listiter_next hit.typeIs entry_listiter_next ?_ (args_listiter_next _))))
  show wpAny _ _ (field (.ref it) 0 >>= _) _ _ s; refine wpAny_bind (wpAny_field ho hd (x := .ref l) rfl ?_)
  show wpAny _ _ (if (Value.ref l == Value.none) = true then _ else _) _ _ s; rw [if_neg (show ¬ ((Value.ref l == Value.none) = true) from Bool.false_ne_true)]
  show wpAny _ _ (field (.ref it) 1 >>= _) _ _ s; refine wpAny_bind (wpAny_field ho hd (x := .int i 0) rfl ?_)
  show wpAny _ _ (seqItems? (.ref l) >>= _) _ _ s; refine wpAny_bind (wpAny_seqItems hol hdl ?_); simp only [Int.toNat_natCast, hx]
  refine wpAny_bind (wpAny_rule (wpAny_bind (wpAny_setField ho hd (by simp) ?_))); show wpAny _ _ (newExc (.type "StopIteration") [] >>= _) _ _ _
  refine wpAny_bind ?_; simp only [newExc, newTuple]; refine wpAny_bind (wpAny_newObj_type ?_ (by size_fits))
  refine wpAny_bind (m := firstArgMember _ _) (wpAny_of_eq (a := Value.none) (by first | rfl | (simp only [firstArgMember]; rfl)) ?_); refine wpAny_newObj_type ?_ (by size_fits)
  have hx1 : (s.heap.update it (Obj.mapFields (·.setIfInBounds 0 .none))).get? x1 = some o1 := (Heap.get?_update_other _ _ (Ne.symm nx)).trans g1
  refine raiseNew_hot (x1 := x1) ⟨hh, o1, vs1, Heap.get?_push_of_some _ (Heap.get?_push_of_some _ hx1), d1, c1⟩ (Nat.ne_of_lt (Heap.lt_size (Heap.get?_push_of_some _ hx1))) (Heap.get?_push_size _ rfl) rfl (by first | (simp; done) | (simp; omega) | (simp only [Array.size_append]; simp; omega)) ?_
  refine wpAny_bind (wpAny_isInstance (T := "StopIteration") (b := true) ⟨_, Heap.get?_update_self _ (Heap.get?_push_size _ rfl) rfl, rfl⟩ isSubtype_stop (wpAny_pure (hQ _ fun b ob hb e => ?_)))
  have e2 : (s.heap.update it (Obj.mapFields (·.setIfInBounds 0 .none))).get? b = some ob := (Heap.get?_update_other _ _ (Ne.symm hb)).trans e
  rw [Heap.get?_update_other _ _ (Nat.ne_of_gt (Heap.lt_size (Heap.get?_push_of_some _ e2)))]; exact Heap.get?_push_of_some _ (Heap.get?_push_of_some _ e2)
/-- the walk of a list -/
theorem walks_hot {x1 : Addr} {oe : Obj} {vs : Array Value} (hh : A.handled = some (.ref x1)) (he : oe.data = .fields vs) (hv : vs[2]? = some .none) (I ax : Addr) (hne : ax ≠ I) (hx : x1 ≠ I) (items : Array Value) :
    Walks prog w A I [I, ax, x1] [I] items.size (fun i v => items[i]? = some v) (fun i h => h.IsListIter I ax i ∧ h.IsList ax items ∧ h.get? x1 = some oe) where
  sub := fun b hb => by rw [List.mem_singleton.mp hb]; exact List.mem_cons_self
  frame := fun _ _ _ st hk => ⟨st.1.at fun o e => hk I List.mem_cons_self o e, st.2.1.at fun o e => hk ax (by simp) o e, hk x1 (by simp) _ st.2.2⟩
  item := fun i s Q E hi st hQ => wpAny_pyNext_list_item st.1 st.2.1 (x := items[i]) (by simp [hi]) fun h' hit' hs' =>
    hQ _ h' s.toks (by simp [hi]) ⟨hit', st.2.1.extBut hs'.extBut hne, hs'.extBut _ _ hx st.2.2⟩ fun b o hb e => hs'.extBut b o (fun h => hb (by simp [h])) e
  done := fun s Q E st hQ => list_end_hot ⟨hh, oe, vs, st.2.2, he, hv⟩ st.1 st.2.1 (by simp) fun h' hk => hQ h' s.toks fun b o hb e => hk b o (fun z => hb (by simp [z])) e
  self := fun _ _ _ _ st hQ => wpAny_pyIter_listiter st.1 hQ
end
end KY
set_option maxRecDepth 100000
set_option maxHeartbeats 4000000
/-! where an exception is handled: sum, [len(x) for x in xs], a property, a method without arguments -/
namespace KY
open PySem PySem.Spec PyProof.Rows L2 L2H HotX
/-- what is tracked is there -/
theorem objok_there {P : Program} {w : World} {H : Hp} {h : Heap} {a : Addr} {o : HO} (x : ObjOk P w H h a o) : ∃ ob, h.get? a = some ob := by
  cases o with
  | lst xs => obtain ⟨_, its, n, r, e⟩ := x; exact ⟨_, e⟩
  | tup xs => obtain ⟨_, its, r, ob, e, c⟩ := x; exact ⟨_, e⟩
  | dK kvs => obtain ⟨_, _, vs, r, ob, es, ep, e, c⟩ := x; exact ⟨_, e⟩
  | dT kvs => obtain ⟨_, _, zs, r, ob, es, ep, e, c⟩ := x; exact ⟨_, e⟩
  | set S n => obtain ⟨ob, es, ep, t, e, c⟩ := x; exact ⟨_, e⟩
  | ins C dx fs => obtain ⟨_, _, _, e, _⟩ := x; exact ⟨_, e⟩
  | own y => exact x
  | xd fs => obtain ⟨_, ⟨ob, _, _, e, _⟩, _⟩ := x; exact ⟨_, e⟩
  | rng lo hi => obtain ⟨_, _, _, e⟩ := x; exact ⟨_, e⟩
  | frz ob u => exact ⟨_, x.1⟩
  | tbl ps => exact ⟨_, x⟩
  | met f y => exact ⟨_, x⟩
  | ext φ => exact x.2.1
section
variable {X : Cx}
/-- a new list at D, wherever that is -/
theorem Inv.newAt {pins : List (Addr × Obj)} {σ : L2.St} {H : Hp} {s : Shared} {h' : Heap} {D : Addr} {zs : List V} {its : List Value} {n tk : Nat} (I : Inv X pins σ H s) (k : ∀ b o, s.heap.get? b = some o → h'.get? b = some o) (hD : s.heap.get? D = none)
    (hl : h'.get? D = some { cls := .type "list", data := .seq its.toArray n }) (r : Vals zs its) (hz : zs.length ≤ sizeLine) : H D = none ∧ Inv X pins σ (upd H D (.lst zs)) { s with heap := h', toks := tk } := by
  have free : H D = none := by
    cases e : H D with
    | none => rfl
    | some o =>
      obtain ⟨ob, q⟩ := objok_there (I.hok D o e)
      rw [hD] at q; cases q
  have ne : ∀ b, H b ≠ none → b ≠ D := fun b hb z => hb (z ▸ free)
  have nh : ∀ b o, s.heap.get? b = some o → b ≠ D := fun b o e z => by rw [z, hD] at e; cases e
  have un : Un (frs X.stack) [] H (upd H D (.lst zs)) s.heap h' := ⟨fun b o e _ _ _ => k b o e, fun b o e _ _ _ => ⟨o.slots, k b o e⟩, fun b o e hb _ => by rw [upd_ne (nh b o e)]; exact hb, fun b o e _ => ⟨o, k b o e⟩,
    fun b ys e => by rw [upd_ne (ne b (by rw [e]; simp))]; exact e, fun b o u e => by rw [upd_ne (ne b (by rw [e]; simp))]; exact e, fun b ps e => ⟨#[], by rw [upd_ne (ne b (by rw [e]; simp))]; simpa using e⟩⟩
  have ok4 : HOk X.prog X.w (upd H D (.lst zs)) h' := fun b o e => by
    by_cases hb : b = D
    · subst hb; rw [upd_same] at e; cases e; exact ⟨hz, its, n, r, hl⟩
    · rw [upd_ne hb] at e
      exact (I.hok b o e).stay (fun c u _ e => k c u e) (fun c e => by rw [upd_ne (ne c (by rw [e]; simp))]; exact e) (fun c ys e => by rw [upd_ne (ne c (by rw [e]; simp))]; exact e)
  exact ⟨free, I.call (t' := tk) (g' := s.gens) (d' := s.drawn) un ok4 I.bare fun b hb => by simp at hb⟩
theorem hotPin {pins : List (Addr × Obj)} {σ : L2.St} {H : Hp} {s : Shared} (c : HotC X) (I : Inv X pins σ H s) : ∃ (x1 : Addr) (oe : Obj) (vs : Array Value), X.A.handled = some (.ref x1) ∧ oe.data = .fields vs ∧ vs[2]? = some .none ∧ s.heap.get? x1 = some oe := by
  obtain ⟨p, ⟨hh, vs, e1, c1⟩, hp⟩ := c
  exact ⟨p.1, p.2, vs, hh, e1, c1, (I.pin p (List.mem_append_left _ hp)).1⟩
/-- sum(xs) of ints -/
theorem cr_sumH (hc : HotC X) : CallR X (.builtin "sum") (rSum X.K) := by
  intro pins s σ H vs us Q I r h
  obtain ⟨a, ns, rfl, hq, q⟩ := h
  obtain rfl := Vals.ref1 r
  obtain ⟨its, rv, pl, hz⟩ := I.list hq
  obtain ⟨x1, oe, ws, hh, he, hv, hx⟩ := hotPin hc I
  have hi := rv.ints
  have hl := pl.isList
  obtain ⟨xs, e⟩ := hi.allInts.items
  have hn : numsOf (intItems xs).toList = ns := by rw [← e]; exact hi.numsOf
  rw [nums_intItems] at hn; rw [e] at hl
  refine call_sum_walkG (iter_intList hl fun s2 e2 st hfp hlI => ?_)
  subst e2
  have hx2 : (s.heap.push { cls := .type "list_iterator", data := .fields #[.ref a, .int 0 0] }).get? x1 = some oe := Heap.get?_push_of_some _ hx
  refine ⟨_, _, _, _, _, _, numAt xs, rfl, walks_hot (A := X.A.in1) hh he hv _ a hlI (Nat.ne_of_lt (Heap.lt_size hx)) (intItems xs), ⟨st.1, st.2, hx2⟩, fun b hb => ?_, (fun _ _ => intItems_at), fun h2 tk t2 hk => ?_⟩
  · rcases List.mem_cons.mp hb with z | hb
    · exact hfp b (by rw [z]; simp)
    · rcases List.mem_cons.mp hb with z | hb
      · exact hfp b (by rw [z]; simp)
      · rw [List.mem_singleton.mp hb]; exact Heap.lt_size hx2
  · have I2 : Inv X pins σ H { s with heap := h2, toks := tk } := I.kept (old_kept hk)
    have e3 : preSum (numAt xs) (intItems xs).size = ns.sum := by
      rw [show (intItems xs).size = xs.size by simp [intItems], preSum_eq, List.take_of_length_le (by simp), hn]
    exact ⟨.int ns.sum, H, I2, ⟨t2, by rw [e3]⟩, q⟩
/-- [len(x) for x in xs] -/
def tLens (K : PySem.W.Frag) (te : TE) : TE := fun σ H Q => te σ H fun v H1 => ∃ (a : Addr) (qs : List Addr) (ns : List Int), v = .ref a ∧ SqL K H1 a (qs.map V.ref) ∧ Paired (fun q (n : Int) => ∃ bs, SqL K H1 q bs ∧ n = bs.length) qs ns ∧ ∀ p, H1 p = none → Q (.ref p) (upd H1 p (.lst (ns.map V.int)))
theorem vals_lens {K : PySem.W.Frag} {H : Hp} {F : Value → Value → Prop} (hF : ∀ q bs y, SqL K H q bs → F (.ref q) y → RelV (.int (bs.length : Nat)) y) : ∀ {qs : List Addr} {ns : List Int} {ys : List Value}, Paired (fun q (n : Int) => ∃ bs, SqL K H q bs ∧ n = bs.length) qs ns → Paired F (qs.map Value.ref) ys → Vals (ns.map V.int) ys
  | _, _, _, .nil, .nil => .nil
  | _, _, _, .cons ⟨bs, h1, h2⟩ r, .cons f g => .cons (by rw [h2]; exact hF _ _ _ h1 f) (vals_lens hF r g)
theorem pe_lensH {iter : Expr} {te : TE} {x : Str} {px p1 p2 p3 pos : Pos} {scope : Scope} (hc : HotC X) (he : PE X iter te) (hm : X.mg "len" = none) (hlen : scope.names.lookup ("len" : Str) = some .globalImplicit) (hx : scope.names.lookup x = some .local)
    (hfree : ∀ y ∈ scope.names, y.2 ≠ .free) (hcell : ∀ y ∈ scope.names, y.2 ≠ .cell) (hkind : scope.kind = .function) (hnames : ∀ y ∈ scope.names, y.2 = .local → scope.names.lookup y.1 = some .local) (hd : (x == ("__debug__" : Str)) = false)
    (hst : ∀ env : Env, starEach [.Name x p2] env = (false, eval (.Name x p2) env) :: starEach [] env) (hs : ∀ v, foldedSetIterable iter X.env v = pure v := by intro _; rfl) :
    PE X (.ListComp (.Call (.Name "len" p1) [.Name x p2] [] p3) [⟨.Name x px, iter, [], 0⟩] scope pos) (tLens X.K te) := by
  refine ⟨fun pins s σ H Q I h => ?_⟩
  refine wpAny_ListComp hfree hkind hnames (thn (he.run pins s σ H _ I h) fun v s1 ⟨xv, H1, I1, rx, a, qs, ns, ex, hl, hq, q⟩ => ?_) hs
  subst ex; obtain rfl : v = Value.ref a := rx
  obtain ⟨its, rv, pl, hz⟩ := I1.list hl
  obtain rfl := refs_at rv
  obtain ⟨x1, oe, ws, hh, he1, hv1, hx1⟩ := hotPin hc I1
  refine iter_any pl.isList fun s2 e2 st hne => ?_
  subst e2
  have hx2 : (s1.heap.push { cls := .type "list_iterator", data := .fields #[.ref a, .int 0 0] }).get? x1 = some oe := Heap.get?_push_of_some _ hx1
  have W := walks_hot (prog := X.prog) (w := X.w) (A := X.A) hh he1 hv1 s1.heap.objs.size a hne (Nat.ne_of_lt (Heap.lt_size hx1)) (qs.map Value.ref).toArray
  have hsz : (qs.map Value.ref).toArray.size ≤ sizeLine := by
    rw [List.size_toArray, List.length_map]; rw [List.length_map] at hz; exact hz
  have old : ∀ {b o}, s1.heap.get? b = some o → b ∉ [s1.heap.objs.size] := fun e z => by
    rw [List.mem_singleton.mp z] at e; exact absurd (Heap.lt_size e) (Nat.lt_irrefl _)
  refine comp_block_walk (RR := fun acc cenv r s' => ∃ m, s'.heap.Ns cenv.locals m ∧ ∀ h', Heap.SameBut cenv.locals s'.heap h' → match r with | .ok _ => EP X pins σ Q acc { s' with heap := h' } | .error z => wpAny (model X.prog X.w) X.A (passOn "comprehension.variables-let-go" z cenv) (EP X pins σ Q) X.xe { s' with heap := h' })
    W hsz (fun _ => true) (fun v y => ∃ (q : Addr) (bs : List V) (t : Tok), v = .ref q ∧ y = .int (bs.length : Nat) t ∧ SqL X.K H1 q bs) hcell hkind hx ⟨st.1, st.2, hx2⟩ (fun b hb => ?_) ⟨fun C i v s3 m3 E2 _ _ _ _ _ => ?_, fun C i v s3 m3 E2 hP _ hn3 hm3 hk3 _ => ?_⟩ fun D C h2 tk m2 ys vs2 hD hC hDC hnC hlD hplD hlen2 hP hF hk => ⟨m2, hnC, fun h3 hs3 => ?_⟩
  · rcases List.mem_cons.mp hb with z | hb
    · rw [z, Heap.size_push]; exact Nat.lt_succ_self _
    · rcases List.mem_cons.mp hb with z | hb
      · obtain ⟨_, e, _⟩ := st.2
        rw [z]; exact Heap.lt_size e
      · rw [List.mem_singleton.mp hb]; exact Heap.lt_size hx2
  · exact wpAny_pure ⟨rfl, _, _, rfl, fun _ _ e => e⟩
  · -- len(x)
    have hP : (qs.map Value.ref).toArray[i]? = some v := hP
    have hP : (qs.map Value.ref)[i]? = some v := by simpa using hP
    rw [List.getElem?_map] at hP
    cases eq : qs[i]? with
    | none => rw [eq] at hP; cases hP
    | some q1 =>
      rw [eq] at hP
      have hP : Value.ref q1 = v := Option.some.inj hP
      subst hP
      obtain ⟨n1, hn1, bs, hb1, hb2⟩ : ∃ n, ns[i]? = some n ∧ ∃ bs, SqL X.K H1 q1 bs ∧ n = (bs.length : Int) := by
        have gen : ∀ {qs : List Addr} {ns : List Int} {i : Nat}, Paired (fun q (n : Int) => ∃ bs, SqL X.K H1 q bs ∧ n = bs.length) qs ns → qs[i]? = some q1 → ∃ n, ns[i]? = some n ∧ ∃ bs, SqL X.K H1 q1 bs ∧ n = (bs.length : Int) := by
          intro qs ns i hp
          induction hp generalizing i with
          | nil => intro h; simp at h
          | cons hh _ ih => intro h; cases i with
            | zero => simp at h; subst h; exact ⟨_, rfl, hh⟩
            | succ i => obtain ⟨n, e1, e2⟩ := ih (by simpa using h); exact ⟨n, by simpa using e1, e2⟩
        exact gen hq eq
      obtain ⟨jts, rj, pj, zj⟩ := I1.list hb1
      have keep : ∀ b o, s1.heap.get? b = some o → s3.heap.get? b = some o := fun b o e => hk3 b o (old e) (Heap.get?_push_of_some _ e)
      have lj : s3.heap.IsList q1 jts.toArray := pj.isList.at fun o e => keep _ o e
      obtain ⟨mb, g1, g2⟩ := I1.mod.blt
      refine wpAny_Call_Name_kw (Calls.Name_function_global (env := compEnv scope C X.env) hkind hlen (Calls.loadGlobal_builtin (mg := X.mg) (mb := mb) (by show s3.heap.Ns X.env.globals X.mg; rw [I1.ok.glob]; exact I1.mod.glob.keeps fun b o e => keep b o (I1.bk b o e)) hm (by show s3.heap.Ns X.env.builtins mb; rw [I1.ok.blt]; exact g1.keeps fun b o e => keep b o (I1.bk b o e)) ((g2 "len" (by decide)).trans (by rfl)) ?_) (by decide))
      refine PyProof.Rows.callWith_builtin1 (args_cons (wpAny_Name (wpAny_loadName_local hkind hx hn3 hm3 (args_nil ?_)) hd) (hst _)) (hst _) rfl
      have hfit : ((jts.toArray.size : Nat) : Int) < 2 ^ 63 := by
        have := rj.length; have := line63
        simp only [List.size_toArray]; omega
      exact Calls.call_len_list lj hfit ⟨⟨q1, bs, _, rfl, by rw [List.size_toArray, rj.length], hb1⟩, _, _, rfl, fun _ _ e => e⟩
  · have hD1 : s1.heap.get? D = none := by
      cases e : s1.heap.get? D with
      | none => rfl
      | some o => rw [show (s1.heap.push _).get? D = some o from Heap.get?_push_of_some _ e] at hD; cases hD
    have hvs : vs2 = qs.map Value.ref := by
      apply List.ext_getElem?
      intro j
      by_cases hj : j < vs2.length
      · have e1 : vs2[j]? = some vs2[j] := List.getElem?_eq_getElem hj
        have e2 : (qs.map Value.ref).toArray[j]? = some vs2[j] := hP j _ e1
        rw [e1]; simpa using e2.symm
      · rw [List.getElem?_eq_none (by omega), List.getElem?_eq_none (by rw [hlen2, List.size_toArray] at hj; omega)]
    have hfl : vs2.filter (fun _ => true) = qs.map Value.ref := by rw [hvs]; exact List.filter_eq_self.mpr fun _ _ => rfl
    rw [hfl] at hF
    have hvals : Vals (ns.map V.int) ys.toList := vals_lens (F := fun v y => ∃ (q : Addr) (bs : List V) (t : Tok), v = .ref q ∧ y = .int (bs.length : Nat) t ∧ SqL X.K H1 q bs) (fun q1 bs y hb ⟨q2, bs2, t, e1, e2, e3⟩ => by
      cases e1; rw [I1.list_inj hb e3]; exact ⟨t, e2⟩) hq hF
    have keep3 : ∀ b o, s1.heap.get? b = some o → h3.get? b = some o := fun b o e => by
      have nC : b ≠ C := fun z => by
        rw [← z, show (s1.heap.push _).get? b = some o from Heap.get?_push_of_some _ e] at hC; cases hC
      exact (hs3.2 b nC).trans (hk b o (old e) (Heap.get?_push_of_some _ e))
    obtain ⟨n0, hpl⟩ := hplD
    have hl3 : h3.get? D = some { cls := .type "list", data := .seq ys.toList.toArray n0 } := by
      rw [Array.toArray_toList]; exact (hs3.2 D hDC).trans hpl
    have hzz : (ns.map V.int).length ≤ sizeLine := by
      rw [hvals.length]
      have e1 := hF.length
      rw [List.length_map] at e1 hz
      omega
    obtain ⟨g1, g2⟩ := Inv.newAt (tk := tk) I1 keep3 hD1 hl3 hvals hzz
    exact ⟨.ref D, _, g2, rfl, q D g1⟩
end
end KY
set_option maxRecDepth 100000
set_option maxHeartbeats 4000000
/-! next_day and kept where an exception is handled -/
namespace KY
open PySem PySem.Spec PyProof.Rows L2 L2H HotX
section
variable {X : Cx} {k : Nat} {f C p g : Addr} {fd : FuncData} {ps : List Str} {sp : Sp} {m fl : Str} {pos apos : Pos} {e o : Expr} {ta : TE}
theorem call_hot {pins : List (Addr × Obj)} {σ : L2.St} {H : Hp} {s : Shared} {Q : VK} {us : List Value} {vs : List V} (F : FnH X.prog X.w X.K X.mg X.base CX0 k f fd ps sp) (hr : RoomH k X.A) (hc : HotC X) (hb : Binds X.K fd ps []) (I : Inv X pins σ H s) (r : Vals vs us) (h : sp vs H Q E0) : wpAny (model X.prog X.w) X.A (call (.ref f) us) (EP X pins σ Q) X.xe s :=
  run_fnH (E := fun _ => E0) F hr hc hb (fun _ _ _ _ _ _ z => z.elim) I r h
/-- o.m(), where an exception is handled -/
theorem pe_methH0 {pl : Sem Bool} (he : PE X o ta) (c : Cls X.K C) (hm : Meth X.K C m f) (F : FnH X.prog X.w X.K X.mg X.base CX0 k f fd ps sp) (hr : RoomH k X.A) (hc : HotC X) (hb : Binds X.K fd ps [])
    (ht : eval (.Call (.Attribute o m apos) [] [] pos) X.env = (do let ov ← eval o X.env; standAt apos.atName; let (f, first) ← holding [ov] (getMethod ov m pl); callWith pos f first (backTo pos (starEach [] X.env)) (backToKw pos (keywordEach [] X.env))) := by rfl) :
    PE X (.Call (.Attribute o m apos) [] [] pos) (tMeth C m sp [] E0 ta tNil) := by
  refine ⟨fun pins s σ H Q I h => PySem.W.methodCall_KW (pl := pl) (thn (he.run pins s σ H _ I h) fun u s1 ⟨x, H1, I1, rx, a, dx, fs, ex, ea, l, q⟩ => ?_) ht⟩
  subst ex; obtain rfl : u = Value.ref a := rx
  exact getmeth_ok I1 ea c hm l (PySem.W.callWith_K0 (first := [.ref a]) I1.kIn hm.kp (call_hot (us := [.ref a]) (vs := [.ref a]) F hr hc hb I1 (.cons rfl .nil) q))
/-- e.f, a property, where an exception is handled -/
theorem pe_propH (he : PE X e ta) (c : Cls X.K C) (hp : PropOf X.K C fl p g) (F : FnH X.prog X.w X.K X.mg X.base CX0 k g fd ps sp) (hr : RoomH (k + 1) X.A) (hc : HotC X) (hb : Binds X.K fd ps []) (hab : attributeBase e fl X.env (eval e X.env) = eval e X.env := by rfl) :
    PE X (.Attribute e fl pos) (tProp C sp [] E0 ta) := by
  refine ⟨fun pins s σ H Q I h => attr_of hab (thn (he.run pins s σ H _ I h) fun u s1 ⟨x, H1, I1, rx, a, dx, fs, ex, ea, q⟩ => ?_)⟩
  subst ex; obtain rfl : u = Value.ref a := rx
  obtain ⟨mA, O, _⟩ := ins_get I1.hok ea
  obtain ⟨od, J, _⟩ := O.look
  obtain ⟨rest, hrec⟩ := hp.rec_
  obtain ⟨pp, hot, hpm⟩ := hc
  have I2 := I1.tok (s1.toks + 1)
  have P1 := I2.pin pp (List.mem_append_left _ hpm)
  have hpin : PinOk X.stack H1 { s1 with toks := s1.toks + 1 } pp := ⟨P1.1, P1.2.1, fun hm => (List.mem_cons.mp (I2.stkSub pp.1 hm)).elim P1.2.2.1 P1.2.2.2.1, P1.2.2.2.2⟩
  have hl : ([Value.ref a] ++ []).length = ps.length := by rw [← F.len _ _ _ _ q]; rfl
  have hcs : (PySem.W.clsIn X.K C).isSome = true := by obtain ⟨cd, hcd, _⟩ := PySem.W.any_some c.hd; rw [hcd]; rfl
  have hr1 : RoomH k X.A.in1 := ⟨by have := hr.dp; show X.A.depth + 3 * k + 5 < _; omega, by have := hr.un; show X.A.units + 1 + 16 * k + 200 < _; omega⟩
  refine PySem.W.get_bind I1.kIn J (PySem.W.plainGet_of (c.get fl)).1 (PySem.W.findObj_data hcs hp.at_ hp.get hp.tak) (PySem.W.plainGet_of (c.get fl)).2 (wpAny_call (PySem.W.prop_get (s := { s1 with toks := s1.toks + 1 }) I1.kIn hrec ?_))
  refine codeAny_mono (F.run X.A.in1 X.stack { s1 with toks := s1.toks + 1 } H1 ⟨[.ref a], []⟩ [.ref a] [.ref a] Q E0 pp hr1 hot hpin I2.env0.in1 (hb _ [.ref a] I2.kIn hl) (.cons rfl .nil) q) fun r s2 hq => ?_
  cases r with
  | error er => exact False.elim hq
  | ok ff =>
    cases ff with
    | ret u =>
      obtain ⟨v, H3, I3, rv, q3⟩ := I2.after hq
      show wpAny _ _ (handedOut u) (EP X pins σ Q) _ _; rw [PySem.W.handedOut_of (handed_of rv)]
      exact wpAny_pure ⟨v, H3, I3, rv, q3⟩
    | _ => exact False.elim hq
end
end KY
namespace KW
open PySem L2 L2H KY
section
variable {P : Program} {w : World} {K : PySem.W.Frag} {mg : Str → Option Value} {base : Heap}
/-- a def where an exception is handled -/
theorem okH {x qual : Str} {st : Stmt} {f : Addr} {fd : FuncData} {N ps : List Str} {k : Nat} {sp : Sp} (F : Fun K x qual st f fd) (S : FnScope N ps (defScope st)) (len : ∀ vs H Q E, sp vs H Q E → vs.length = ps.length)
    (hb : ∀ (cdv : Value) (A : Around) (outer : List Env) (s : Shared) (H : Hp) (vs : List V) (Q : VK) (E : XK) (p : Addr × Obj), Hot1 A p → RoomH k (A.deeper (PyProof.Rows.envOfC qual (defScope st) s.heap.objs.size f cdv)) → sp vs H Q E →
      ∃ t, PSs (cxH CX0 P w K mg base N qual (defScope st) f cdv A outer s H E p) (defBody st) t ∧ t { nx := fun _ H' => Q .non H', rt := Q } (L2.start N vs) H) :
    FnH P w K mg base CX0 (k + 1) f fd ps sp := by
  obtain ⟨_, _, _, _, _, _, _, _, _, rfl, lk, hc⟩ := F.ex
  exact fn_ofH lk hc S len fun A outer s H vs Q E p => hb _ A outer s H vs Q E p
theorem h_next_day (T : Tx K mg w) : FnH P w K mg base CX0 1 T.Watch.next_day.a T.Watch.next_day.d p_Watch_next_day (spDay T.Watch.C) := by
  refine okH T.Watch.next_day.F sc_Watch_next_day (fun vs H Q E h => ?_) (fun cdv A outer s H vs Q E p hot hr h => ?_)
  · obtain ⟨wd, dx, fs, d, rfl, _⟩ := h
    rfl
  · obtain ⟨wd, dx, fs, d, rfl, hw, hl, k⟩ := h
    refine ⟨_, pss_one (ps_ret (pe_fld (pv 0) rfl)), ?_⟩
    exact ⟨_, rfl, wd, _, dx, fs, _, rfl, hw, T.Watch.cl, T.Watch.n_days, hl, k⟩
theorem h_kept (T : Tx K mg w) : FnH P w K mg base CX0 1 T.Watch.kept.a T.Watch.kept.d p_Watch_kept (spKept T.Watch.C) := by
  refine okH T.Watch.kept.F sc_Watch_kept (fun vs H Q E h => ?_) (fun cdv A outer s H vs Q E p hot hr h => ?_)
  · obtain ⟨wd, dx, pa, fs, qs, ls, rfl, _⟩ := h
    rfl
  · obtain ⟨wd, dx, pa, fs, qs, ls, rfl, hw, hl, hp, hz, hq, k⟩ := h
    have hc : HotC (cxH CX0 P w K mg base n_Watch_kept "Watch.kept" (defScope s_Watch_kept) T.Watch.kept.a cdv A outer s H E p) := ⟨p, hot, List.mem_cons_self⟩
    refine ⟨_, pss_one (ps_ret (pe_callB (cr_sumH hc) (by rfl) T.z_sum (by rfl) (pa_cons (pe_lensH hc (pe_fld (pv 0) rfl) T.z_len (by rfl) (by rfl) (by decide +kernel) (by decide +kernel) rfl (by decide +kernel) (by decide +kernel) (fun _ => rfl)) pa_nil))), ?_⟩
    refine ⟨_, rfl, wd, _, dx, fs, _, rfl, hw, T.Watch.cl, T.Watch.n_past, hl, pa, qs, ls, rfl, SqL.of hp, paired_imp (fun q n ⟨bs, e1, e2⟩ => ⟨bs, SqL.of e1, e2⟩) hq, fun D hD => ?_⟩
    exact ⟨D, ls, rfl, SqL.of upd_same, k _ (.new hD)⟩
end
end KW
set_option maxRecDepth 100000
set_option maxHeartbeats 4000000
/-! take, told more closely: where there is nothing to draw nothing changes -/
namespace KW
open PySem L2
structure KpD (dl : Addr) (H H' : Hp) : Prop where
  kp : Kp [dl] H H'
  or_ : Kp [] H H' ∨ ∃ i xs, H dl = some (.lst (.int i :: xs))
/-- a list with no int at its head stays -/
theorem KpD.lst {dl : Addr} {H H' : Hp} (k : KpD dl H H') {b : Addr} {xs : List V} (h : H b = some (.lst xs)) (hx : ∀ i ys, xs ≠ .int i :: ys) : H' b = some (.lst xs) := by
  rcases k.or_ with z | ⟨i, ys, z⟩
  · exact z.to _ _ h
  · refine k.kp.keep _ _ h (not1 fun e => ?_)
    rw [e, z] at h
    injection h with h
    injection h with h
    exact hx _ _ h.symm
theorem refs_head {qs : List Addr} : ∀ i ys, qs.map V.ref ≠ .int i :: ys := by
  intro i ys h
  cases qs with
  | nil => cases h
  | cons q r => rw [List.map_cons] at h; injection h with h; cases h
theorem bls_head {bs : List Bool} : ∀ i ys, bs.map V.bl ≠ .int i :: ys := by
  intro i ys h
  cases bs with
  | nil => cases h
  | cons q r => rw [List.map_cons] at h; injection h with h; cases h
theorem KpD.oth {dl : Addr} {H H' : Hp} (k : KpD dl H H') {b : Addr} {o : HO} (h : H b = some o) (hx : ∀ xs, o ≠ .lst xs) : H' b = some o := by
  rcases k.or_ with z | ⟨i, ys, z⟩
  · exact z.to _ _ h
  · refine k.kp.keep _ _ h (not1 fun e => ?_)
    rw [e, z] at h
    injection h with h
    exact hx _ h.symm
theorem KpD.then {dl : Addr} {H H1 H2 : Hp} (k : KpD dl H H1) (j : Kp [] H1 H2) : KpD dl H H2 :=
  ⟨k.kp.trans (j.sub (by simp)), k.or_.imp (fun z => z.trans j) id⟩
theorem KpD.ahead {dl : Addr} {H H1 H2 : Hp} (j : Kp [] H H1) (hd : Dr H dl) (k : KpD dl H1 H2) : KpD dl H H2 := by
  refine ⟨(j.sub (by simp)).trans k.kp, k.or_.imp (fun z => j.trans z) (fun ⟨i, xs, e⟩ => ?_)⟩
  obtain ⟨ds, h⟩ := hd
  have := j.to _ _ h
  rw [e] at this
  exact ⟨i, xs, by rw [h, ← this]⟩
theorem WatchAt.kpD {C : Addr} {H H' : Hp} {wd dl : Addr} {ls : List (Str × Ex)} {e : Ex} {xs : List Ex} {M : Md} {d : Nat} (h : WatchAt C H wd ls e xs M d) (k : KpD dl H H') : WatchAt C H' wd ls e xs M d := by
  obtain ⟨dx, fs, a, ld, lb, pa, qs, h⟩ := h
  refine ⟨dx, fs, a, ld, lb, pa, qs, ⟨k.oth h.ins (fun _ z => by cases z), h.f_e, h.f_l, h.f_d, h.f_b, h.f_p, h.f_k, h.f_t, h.f_s, h.few, h.at_.kp k.kp, ?_, ?_, k.lst h.pasts refs_head, paired_imp (fun q x e => k.lst e bls_head) h.each⟩⟩
  · obtain ⟨kvs, q, q2⟩ := h.lets
    refine ⟨kvs, k.oth q (fun _ z => by cases z), fun n b e => ?_⟩
    obtain ⟨a, h3, h4⟩ := q2 n b e
    exact ⟨a, h3, h4.kp k.kp⟩
  · obtain ⟨ps, q, q2⟩ := h.prts
    exact ⟨ps, k.lst q refs_head, paired_imp (fun a x e => e.kp k.kp) q2⟩
section
variable {P : Program} {w : World} {K : PySem.W.Frag} {mg : Str → Option Value} {base : Heap}
def spTakeD : Sp := fun vs H Q _ => ∃ (dl : Addr) (b : Int), vs = [.ref dl, .int b] ∧ 0 < b ∧ Dr H dl ∧ ∀ r H', 0 ≤ r → r < b → KpD dl H H' → Dr H' dl → Q (.int r) H'
theorem ok_takeD (T : Tx K mg w) : FnOk P w K mg base CX0 1 T.law_take.a T.law_take.d p_law_take spTakeD := by
  refine T.law_take.F.ok sc_law_take (fun vs H Q E h => ?_) (fun cdv A outer s H vs Q E hr h => ?_)
  · obtain ⟨dl, b, rfl, _⟩ := h
    rfl
  · obtain ⟨dl, b, rfl, hb, ⟨ds, hD⟩, k⟩ := h
    refine ⟨_, pss_cons (ps_if (pt_cmpR op_eq (pe_callB call_len_seq (by rfl) T.z_len (by rfl) (pa_cons (pv 0) pa_nil)) pe_int (nomark _)) (pss_one (ps_ret pe_int)) pss_nil)
      (pss_one (ps_ret (pe_op op_mod (pe_callTy call_int1 (by rfl) T.z_int (by decide +kernel) (pa_cons (pe_bm0 PySem.F.plainAttrs_list PySem.F.slot_list_pop PySem.F.type_list_pop mt_pop (pv 0)) pa_nil)) (pv 1)))), ?_⟩
    refine ⟨_, rfl, dl, _, rfl, .inl (SqL.of hD), rfl, _, rfl, ?_⟩
    rw [List.length_map]
    by_cases hn : ds = []
    · subst hn
      refine ifT (by rfl) ?_
      exact k 0 H (Int.le_refl _) hb ⟨.refl, .inl .refl⟩ ⟨_, hD⟩
    · have hl : 0 < ds.length := List.length_pos_iff.mpr hn
      refine ifF (decide_eq_false fun z => by injection z with z; omega) ?_
      have e : (ds.map V.int)[(ds.map V.int).length - 1]? = some (V.int (ds.getLast hn)) := by
        rw [List.length_map, List.getElem?_map, List.getElem?_eq_getElem (show ds.length - 1 < ds.length by omega), List.getLast_eq_getElem]; rfl
      refine ⟨_, rfl, .inl ⟨rfl, _, SqL.of hD⟩, dl, _, _, rfl, rfl, hD, e, .inl ⟨_, rfl, _, rfl, _, _, rfl, rfl, hb, ?_⟩⟩
      refine k _ _ (Int.emod_nonneg _ (by omega)) (Int.emod_lt_of_pos _ hb) ⟨.mut (by simp) hD (fun xs z => by cases z), .inr ?_⟩ ⟨ds.dropLast, ?_⟩
      · cases ds with
        | nil => exact absurd rfl hn
        | cons d r => exact ⟨d, _, hD⟩
      · rw [upd_same, List.map_dropLast]
end
end KW
set_option maxRecDepth 100000
set_option maxHeartbeats 4000000
/-! lacking -/
namespace KY
open PySem PySem.Spec PyProof.Rows L2 L2H
/-- o.m(e, ..) that may let out what is wanted at these slots -/
theorem pe_methE {X : Cx} {CX : CXT} {k : Nat} {f C : Addr} {fd : FuncData} {ps : List Str} {sp : Sp} {E : L2.St → XK} {m : Str} {pos apos : Pos} {e o : Expr} {es : List Expr} {ta : TE} {t : TA} {pl : Sem Bool} (he : PE X o ta) (c : Cls X.K C) (hm : Meth X.K C m f) (F : FnOk X.prog X.w X.K X.mg X.base CX k f fd ps sp) (hr : Room k X.A) (hb : Binds X.K fd ps [])
    (hx : ∀ σ, PassesAt CX X σ (E σ)) (ha : PA X (e :: es) t) (hst : starEach (e :: es) X.env = (false, eval e X.env) :: starEach es X.env := by rfl) (hpl : (backTo pos (starEach es X.env)).any (·.1) = false := by rfl)
    (ht : eval (.Call (.Attribute o m apos) (e :: es) [] pos) X.env = (do let ov ← eval o X.env; standAt apos.atName; let (f, first) ← holding [ov] (getMethod ov m pl); callWith pos f first (backTo pos (starEach (e :: es) X.env)) (backToKw pos (keywordEach [] X.env))) := by rfl) :
    PE X (.Call (.Attribute o m apos) (e :: es) [] pos) (tMethH C m sp E ta t) := by
  refine ⟨fun pins s σ H Q I h => PySem.W.methodCall_KW (pl := pl) (thn (he.run pins s σ H _ I h) fun u s1 ⟨x, H1, I1, rx, a, dx, fs, ex, ea, l, q⟩ => ?_) ht⟩
  subst ex; obtain rfl : u = Value.ref a := rx
  exact getmeth_ok I1 ea c hm l (PySem.W.callWith_K (first := [.ref a]) (h₀ := X.base) I.ok.mod.kin hm.kp (thn (ha.run pos pins s1 σ H1 _ I1 q) fun us s2 ⟨vs, H2, I2, r, q2⟩ => ⟨I2.kIn, run_fnS (us := .ref a :: us) (vs := .ref a :: vs) F hr hb (hx σ) I2 (.cons rfl r) q2⟩) hst hpl)
end KY
namespace KW
open PySem L2 L2H KY
theorem val_drop {κ : Type} [DecidableEq κ] (k j : κ) : ∀ kvs : List (κ × V), valV (dropK kvs k) j = if j = k then none else valV kvs j
  | [] => by
    show valV [] j = _
    rw [valV_nil]; split <;> rfl
  | p :: r => by
    by_cases e : p.1 = k
    · rw [dropK_pos e, val_drop k j r]
      by_cases q : j = k
      · rw [if_pos q, if_pos q]
      · rw [if_neg q, if_neg q, valV_neg (fun z => q (z.symm.trans e))]
    · rw [dropK_neg e]
      by_cases q : p.1 = j
      · rw [valV_pos q, valV_pos q, if_neg (fun z => e (q.trans z))]
      · rw [valV_neg q, valV_neg q, val_drop k j r]
/-- one day's numbers, named -/
theorem DX.get {H H0 : Hp} {f2 fd : Addr} {D d : Nat} {kf kf2 : List (Key × V)} {fct : Str → Option (List Fr)} (K : PySem.W.Frag) (h : DX H f2 (kf.map (·.1)) kf2 fct d) (hf : FX H0 fd D kf fct) {n : Str} (hn : ∃ fs, fct n = some fs ∧ fs.length = D) :
    ∃ t, valV kf2 (Sum.inr n) = some (.ref t) ∧ FrA K H t (((fct n).getD []).getD d (0, 1)) := by
  obtain ⟨fs, e1, _⟩ := hn
  have hs := hf.is n
  rw [e1] at hs
  cases e : valV kf (Sum.inr n) with
  | none => rw [e] at hs; cases hs
  | some v =>
    have hm : (Sum.inr n : Key) ∈ kf2.map (·.1) := by rw [h.keys]; exact List.mem_map.mpr ⟨_, val_mem e, rfl⟩
    obtain ⟨v2, hv2⟩ := val_of hm
    obtain ⟨n', fs', t, g1, g2, g3⟩ := h.row _ (val_mem hv2)
    injection g1 with g1 g4
    have : n = n' := Sum.inr.inj g1
    subst this
    have : fs' = fs := Option.some.inj (g2.symm.trans e1)
    subst this
    subst g4
    exact ⟨t, hv2, .inl (by rw [e1]; exact g3)⟩
theorem DX.all {H H0 : Hp} {f2 fd : Addr} {D d : Nat} {kf kf2 : List (Key × V)} {fct : Str → Option (List Fr)} (K : PySem.W.Frag) (h : DX H f2 (kf.map (·.1)) kf2 fct d) (hf : FX H0 fd D kf fct) :
    DayAt K H f2 none (fun n => ∃ fs, fct n = some fs ∧ fs.length = D) fun n => ((fct n).getD []).getD d (0, 1) :=
  ⟨kf2, h.at_, fun n hn => ⟨(fun z => by cases z), fun _ => h.get K hf hn⟩⟩
theorem DX.but {H H1 H0 : Hp} {S : List Addr} {f2 f3 fd : Addr} {D d : Nat} {kf kf2 : List (Key × V)} {fct : Str → Option (List Fr)} (K : PySem.W.Frag) (h : DX H f2 (kf.map (·.1)) kf2 fct d) (hf : FX H0 fd D kf fct) (k : Kp S H H1) (m : Str) (h3 : H1 f3 = some (.dK (dropK kf2 (Sum.inr m)))) :
    DayAt K H1 f3 (some m) (fun n => ∃ fs, fct n = some fs ∧ fs.length = D) fun n => ((fct n).getD []).getD d (0, 1) := by
  refine ⟨_, h3, fun n hn => ⟨fun e => ?_, fun e => ?_⟩⟩
  · have e : m = n := Option.some.inj e
    rw [val_drop, if_pos (by rw [e])]
  · obtain ⟨t, e1, e2⟩ := h.get K hf hn
    exact ⟨t, by rw [val_drop, if_neg (fun z => e (by rw [Sum.inr.inj z]))]; exact e1, e2.kp k⟩
section
variable {P : Program} {w : World} {K : PySem.W.Frag} {mg : Str → Option Value} {base : Heap}
theorem WA.lens {C : Addr} {H : Hp} {wd : Addr} {ls : List (Str × Ex)} {e : Ex} {xs : List Ex} {M : Md} {d : Nat} {dx : Addr} {fs : List (Str × V)} {a ld lb pa : Addr} {qs : List Addr} (h : WA C H wd ls e xs M d dx fs a ld lb pa qs) :
    PySem.Paired (fun q (n : Int) => ∃ bs : List V, H q = some (.lst bs) ∧ n = bs.length) qs (xs.map fun x => ((past M d x).length : Int)) := by
  have gen : ∀ {qs : List Addr} {xs : List Ex}, PySem.Paired (fun q x => H q = some (.lst ((past M d x).map V.bl))) qs xs → PySem.Paired (fun q (n : Int) => ∃ bs : List V, H q = some (.lst bs) ∧ n = bs.length) qs (xs.map fun x => ((past M d x).length : Int)) := by
    intro qs xs hp
    induction hp with
    | nil => exact .nil
    | cons hh _ ih => exact .cons ⟨_, hh, by rw [List.length_map]⟩ ih
  exact gen h.each
def spLack (K : PySem.W.Frag) {mg : Str → Option Value} {w : World} (T : Tx K mg w) : Sp := fun vs H Q _ => ∃ (g : HistIn) (dl wd gd na f2 r2 : Addr) (e : Ex) (s : Bool) (xs : List Ex) (d : Nat) (ns : List Str) (kf kr kf2 kr2 : List (Key × V)) (H0 : Hp) (fd rd : Addr), vs = [.ref dl, .ref wd, .ref gd, .ref na, .int d] ∧ Dr H dl ∧ Sx g e s xs ∧ d ≤ 100 ∧
  WatchAt T.Watch.C H wd g.ls e xs (mdl g.fct g.rat) d ∧ na ≠ dl ∧ gd ≠ dl ∧ H na = some (.lst (ns.map V.str)) ∧ ns.length = 7 ∧ H gd = some (.lst [.ref f2, .ref r2]) ∧ FX H0 fd g.D kf g.fct ∧ FX H0 rd g.D kr g.rat ∧ DX H f2 (kf.map (·.1)) kf2 g.fct d ∧ DX H r2 (kr.map (·.1)) kr2 g.rat d ∧
  (∀ (i : Nat) n, i < 3 → ns[i]? = some n → Sum.inr n ∈ kf.map (·.1)) ∧ (∀ (i : Nat) n, 3 ≤ i → i < 5 → ns[i]? = some n → Sum.inr n ∈ kr.map (·.1)) ∧
  (∀ H1 H', KpD dl H H1 → Dr H1 dl → Kp [wd] H1 H' → WatchAt T.Watch.C H' wd g.ls e xs (mdl g.fct g.rat) (d + 1) → Q .non H') ∧ ∀ H', KpD dl H H' → Dr H' dl → WatchAt T.Watch.C H' wd g.ls e xs (mdl g.fct g.rat) d → Q (.bl true) H'
theorem KpD.on {dl : Addr} {H H1 H2 : Hp} {U : List Addr} (k : KpD dl H H1) (j : Kp U H1 H2) (h : ∀ u ∈ U, H u = none) : KpD dl H H2 :=
  ⟨k.kp.on j fun u hu => .inr (h u hu), k.or_.imp (fun z => z.news j h) id⟩
/-- what an except suite of it does -/
def tSuite (K : PySem.W.Frag) {mg : Str → Option Value} {w : World} (T : Tx K mg w) (C : Addr) (a : Addr) (cls : Value) (d : Option Addr) : TS :=
  tRet (tAndV (tOp rEq (tXf a cls d C "name" (tVar 9)) (tOp (rIxL K) (tVar 3) (tVar 7))) (tAndV (tOp rEq (tXf a cls d C "day" (tVar 9)) (tVar 4)) (tAndV (tOp rEq (tProp T.Watch.C (spDay T.Watch.C) [] E0 (tVar 1)) (tVar 4)) (tOp rEq (tMeth T.Watch.C "kept" (spKept T.Watch.C) [] E0 (tVar 1) tNil) (tVar 8)))))
theorem ok_lack (T : Tx K mg w) : FnOk P w K mg base CX0 58 T.law_lacking.a T.law_lacking.d p_law_lacking (spLack K T) := by
  have Gt : FnOk P w K mg base CX0 1 T.law_take.a T.law_take.d p_law_take spTakeD := ok_takeD T
  have Gk : FnOk P w K mg base CX0 1 T.Watch.kept.a T.Watch.kept.d p_Watch_kept (spKept T.Watch.C) := ok_W_kept T
  have Gs : FnOk P w K mg base (L2N.CX P w) 57 T.Watch.step.a T.Watch.step.d p_Watch_step (spStep K T) := ok_W_step T
  have Hk : FnH P w K mg base CX0 1 T.Watch.kept.a T.Watch.kept.d p_Watch_kept (spKept T.Watch.C) := h_kept T
  have Hn : FnH P w K mg base CX0 1 T.Watch.next_day.a T.Watch.next_day.d p_Watch_next_day (spDay T.Watch.C) := h_next_day T
  refine T.law_lacking.F.ok sc_law_lacking (fun vs H Q E h => ?_) (fun cdv A outer s H vs Q E hr h => ?_)
  · obtain ⟨g, dl, wd, gd, na, f2, r2, e, s, xs, d, ns, kf, kr, kf2, kr2, H0, fd, rd, rfl, _⟩ := h
    rfl
  · obtain ⟨g, dl, wd, gd, na, f2, r2, e, sb, xs, d, ns, kf, kr, kf2, kr2, H0, fd, rd, rfl, hD, hS, hd, hW, n1, n2, hna, hnl, hg, hF, hR, hXf, hXr, hkf, hkr, kM, kE⟩ := h
    have hr1 : Room 1 _ := hr.mono (by decide)
    have hr2 : Room 2 _ := hr.mono (by decide)
    have hxfF : XfC K T.MissingFact.C := ⟨T.MissingFact.ga, T.MissingFact.gg, T.MissingFact.o.exC, T.MissingFact.hd⟩
    have hxfR : XfC K T.MissingRate.C := ⟨T.MissingRate.ga, T.MissingRate.gg, T.MissingRate.o.exC, T.MissingRate.hd⟩
    refine ⟨_, pss_cons (ps_set (i := 5) sc_law_lacking.nd rfl (Or.inl rfl) (pe_callTy call_dictD (by rfl) T.z_dict (by decide +kernel) (pa_cons (pe_ix ix_list (pv 2) pe_int (fun _ _ => rfl)) pa_nil)))
      (pss_cons (ps_set (i := 6) sc_law_lacking.nd rfl (Or.inl rfl) (pe_callTy call_dictD (by rfl) T.z_dict (by decide +kernel) (pa_cons (pe_ix ix_list (pv 2) pe_int (fun _ _ => rfl)) pa_nil)))
      (pss_cons (ps_set (i := 7) sc_law_lacking.nd rfl (Or.inl rfl) (pe_call Gt hr1 rfl T.law_take.g T.law_take.F.kp T.law_take.b .nil pass0 (pa_cons (pv 0) (pa_cons pe_int pa_nil))))
      (pss_cons (ps_if (pt_cmpR op_lt (pv 7) pe_int (nomark _)) (pss_one (ps_expr (pe_dpop1 (pv 5) (pe_ix ix_list (pv 3) (pv 7) (fun _ _ => rfl)) ⟨rfl, rfl, rfl, rfl⟩))) (pss_one (ps_expr (pe_dpop1 (pv 6) (pe_ix ix_list (pv 3) (pv 7) (fun _ _ => rfl)) ⟨rfl, rfl, rfl, rfl⟩))))
      (pss_cons (ps_set (i := 8) sc_law_lacking.nd rfl (Or.inl rfl) (pe_meth0 (pv 1) T.Watch.cl T.Watch.kept.m Gk hr1 T.Watch.kept.b .nil pass0))
      (pss_cons (KY.ps_try_names (i := 9) (n := "e") (Wout := fun _ _ _ _ => False) (l := [(.ref T.MissingFact.C, tSuite K T T.MissingFact.C), (.ref T.MissingRate.C, tSuite K T T.MissingRate.C)]) (tb := fun W => tDrop (tMethH T.Watch.C "step" (spStep K T) (WE W) (tVar 1) (tCons (tVar 5) (tCons (tVar 6) tNil))))
          rfl rfl sc_law_lacking.nd rfl rfl (fun u s2 ⟨_, _, _, _, _, _, _, _, _, _, _, _, _, _, _, _, z⟩ => z.elim)
          (fun W pn xe tk po => pss_one (ps_expr (KY.pe_methE (pv 1) T.Watch.cl T.Watch.step.m Gs hr T.Watch.step.b (fun σ => L2N.passAt tk σ) (pa_cons (pv 5) (pa_cons (pv 6) pa_nil)))))
          (.cons ⟨by rfl, by decide, .inl T.MissingFact.g⟩ (fun a oe cls dd pn hz hf => pss_one (ps_ret ?_)) (.cons ⟨by rfl, by decide, .inl T.MissingRate.g⟩ (fun a oe cls dd pn hz hf => pss_one (ps_ret ?_)) .nil)))
      (pss_one (ps_ret pe_non))))))), ?_⟩
    · have hcE : HotC (Cx.suite (cxOf CX0 P w K mg base n_law_lacking "_law_lacking" (defScope s_law_lacking) T.law_lacking.a cdv A outer s H E) a ((a, oe) :: pn)) := by
        obtain ⟨ws, hws⟩ := hf
        exact ⟨(a, oe), ⟨rfl, ws, hws, hz.2.2 ws hws⟩, List.mem_cons_self⟩
      exact pe_and (pe_cmpR op_eq (pe_xf hxfF T.MissingFact.n1 hz.zc hf (pv 9)) (pe_ix ix_list (pv 3) (pv 7) (fun _ _ => rfl)) (nomark _)) (pe_and (pe_cmpR op_eq (pe_xf hxfF T.MissingFact.n2 hz.zc hf (pv 9)) (pv 4) (nomark _))
        (pe_and (pe_cmpR op_eq (KY.pe_propH (pv 1) T.Watch.cl T.Watch.next_day.m Hn ⟨hr2.dp, hr2.un⟩ hcE T.Watch.next_day.b) (pv 4) (nomark _))
          (pe_one (pe_cmpR op_eq (KY.pe_methH0 (pv 1) T.Watch.cl T.Watch.kept.m Hk ⟨hr1.dp, hr1.un⟩ hcE T.Watch.kept.b) (pv 8) (nomark _)))))
    · have hcE : HotC (Cx.suite (cxOf CX0 P w K mg base n_law_lacking "_law_lacking" (defScope s_law_lacking) T.law_lacking.a cdv A outer s H E) a ((a, oe) :: pn)) := by
        obtain ⟨ws, hws⟩ := hf
        exact ⟨(a, oe), ⟨rfl, ws, hws, hz.2.2 ws hws⟩, List.mem_cons_self⟩
      exact pe_and (pe_cmpR op_eq (pe_xf hxfR T.MissingRate.n1 hz.zc hf (pv 9)) (pe_ix ix_list (pv 3) (pv 7) (fun _ _ => rfl)) (nomark _)) (pe_and (pe_cmpR op_eq (pe_xf hxfR T.MissingRate.n2 hz.zc hf (pv 9)) (pv 4) (nomark _))
        (pe_and (pe_cmpR op_eq (KY.pe_propH (pv 1) T.Watch.cl T.Watch.next_day.m Hn ⟨hr2.dp, hr2.un⟩ hcE T.Watch.next_day.b) (pv 4) (nomark _))
          (pe_one (pe_cmpR op_eq (KY.pe_methH0 (pv 1) T.Watch.cl T.Watch.kept.m Hk ⟨hr1.dp, hr1.un⟩ hcE T.Watch.kept.b) (pv 8) (nomark _)))))
    refine ⟨_, rfl, gd, _, _, _, rfl, rfl, SqL.of hg, at0, f2, kf2, rfl, .inl hXf.at_, fun p5 hp5 => ?_⟩
    have k1 : Kp [] H (upd H p5 (.dK kf2)) := .new hp5
    have h51 : (upd H p5 (.dK kf2)) p5 = some (.dK kf2) := upd_same
    generalize upd H p5 (.dK kf2) = H1 at *
    refine ⟨_, rfl, gd, _, _, _, rfl, rfl, SqL.of (k1.to _ _ hg), at1, r2, kr2, rfl, .inl (k1.to _ _ hXr.at_), fun p6 hp6 => ?_⟩
    have k2 : Kp [] H1 (upd H1 p6 (.dK kr2)) := .new hp6
    have h62 : (upd H1 p6 (.dK kr2)) p6 = some (.dK kr2) := upd_same
    have h52 := k2.to _ _ h51
    have n56 : p5 ≠ p6 := ne_of_none h51 hp6
    have hp60 : H p6 = none := k1.free hp6
    have k02 := k1.trans k2
    generalize upd H1 p6 (.dK kr2) = H2 at *
    refine ⟨_, rfl, dl, 5, rfl, pos_lit (by decide), hD.kp k02 (by simp), fun r H3 r0 r5 k3 hD3 => ?_⟩
    have kD := k3.ahead k02 hD
    have h53 := k3.oth h52 (fun _ z => by cases z)
    have h63 := k3.oth h62 (fun _ z => by cases z)
    have hna3 : H3 na = some (.lst (ns.map V.str)) := kD.kp.keep _ _ hna (not1 n1)
    obtain ⟨i, rfl⟩ : ∃ i : Nat, r = i := ⟨r.toNat, by omega⟩
    have hi : i < ns.length := by omega
    obtain ⟨n, hn⟩ : ∃ n, ns[i]? = some n := ⟨_, List.getElem?_eq_getElem hi⟩
    have hnv : atI (ns.map V.str) (i : Int) = some (.str n) := atI_nat (by rw [List.getElem?_map, hn]; rfl)
    have hXf3 := hXf.kp kD.kp (not1 fun z => by obtain ⟨_, q⟩ := hD; rw [← z, hXf.at_] at q; cases q)
    have hXr3 := hXr.kp kD.kp (not1 fun z => by obtain ⟨_, q⟩ := hD; rw [← z, hXr.at_] at q; cases q)
    have hW3 := hW.kpD kD
    have fr5 : ∀ u ∈ [p5], H u = none := fun u hu => by rw [List.mem_singleton.mp hu]; exact hp5
    have fr6 : ∀ u ∈ [p6], H u = none := fun u hu => by rw [List.mem_singleton.mp hu]; exact hp60
    have nd5 : dl ≠ p5 := fun z => by obtain ⟨_, q⟩ := hD; rw [z, hp5] at q; cases q
    have nd6 : dl ≠ p6 := fun z => by obtain ⟨_, q⟩ := hD; rw [z, hp60] at q; cases q
    have na5 : na ≠ p5 := ne_of_none hna hp5
    have na6 : na ≠ p6 := ne_of_none hna hp60
    refine ⟨_, rfl, _, _, rfl, rfl, _, rfl, ?_⟩
    by_cases hlt : (i : Int) < 3
    case' pos => (
      refine ifT (decide_eq_true hlt) ?_
      obtain ⟨t, ht⟩ := val_of (show Sum.inr n ∈ kf2.map (·.1) by rw [hXf.keys]; exact hkf i n (by omega) hn)
      refine ⟨_, rfl, p5, rfl, .inl ⟨_, .of h53⟩, _, rfl, _, rfl, na, _, _, _, rfl, rfl, SqL.of hna3, hnv, kf2, Sum.inr n, _, h53, rfl, ht, ?_⟩
      have k4 : Kp [p5] H3 (upd H3 p5 (.dK (dropK kf2 (Sum.inr n)))) := .mut (by simp) h53 (fun xs z => by cases z)
      have h54 : (upd H3 p5 (.dK (dropK kf2 (Sum.inr n)))) p5 = some (.dK (dropK kf2 (Sum.inr n))) := upd_same
      have h64 := k4.keep _ _ h63 (not1 (Ne.symm n56))
      have kD4 := kD.on k4 fr5
      have hD4 := hD3.kp k4 (not1 nd5)
      have hna4 := k4.keep _ _ hna3 (not1 na5)
      obtain ⟨lf, lr, hl, hF4, hR4⟩ : ∃ lf lr, (lf = some n ∧ lr = none ∨ lf = none ∧ lr = some n) ∧ DayAt K (upd H3 p5 (.dK (dropK kf2 (Sum.inr n)))) p5 lf (fun n => ∃ fs, g.fct n = some fs ∧ fs.length = g.D) (fun n => (mdl g.fct g.rat).fact n d) ∧ DayAt K (upd H3 p5 (.dK (dropK kf2 (Sum.inr n)))) p6 lr (fun n => ∃ fs, g.rat n = some fs ∧ fs.length = g.D) (fun n => (mdl g.fct g.rat).rate n d) :=
        ⟨some n, none, .inl ⟨rfl, rfl⟩, hXf3.but K hF k4 n h54, (DX.all (f2 := p6) K ⟨h64, hXr.keys, fun p hp => by
          obtain ⟨n', fs, t, e1, e2, e3⟩ := hXr3.row p hp
          exact ⟨n', fs, t, e1, e2, k4.tup _ _ e3⟩⟩ hR)⟩
      generalize upd H3 p5 (.dK (dropK kf2 (Sum.inr n))) = H4 at *)
    case' neg => (
      refine ifF (decide_eq_false hlt) ?_
      obtain ⟨t, ht⟩ := val_of (show Sum.inr n ∈ kr2.map (·.1) by rw [hXr.keys]; exact hkr i n (by omega) (by omega) hn)
      refine ⟨_, rfl, p6, rfl, .inl ⟨_, .of h63⟩, _, rfl, _, rfl, na, _, _, _, rfl, rfl, SqL.of hna3, hnv, kr2, Sum.inr n, _, h63, rfl, ht, ?_⟩
      have k4 : Kp [p6] H3 (upd H3 p6 (.dK (dropK kr2 (Sum.inr n)))) := .mut (by simp) h63 (fun xs z => by cases z)
      have h64 : (upd H3 p6 (.dK (dropK kr2 (Sum.inr n)))) p6 = some (.dK (dropK kr2 (Sum.inr n))) := upd_same
      have h54 := k4.keep _ _ h53 (not1 n56)
      have kD4 := kD.on k4 fr6
      have hD4 := hD3.kp k4 (not1 nd6)
      have hna4 := k4.keep _ _ hna3 (not1 na6)
      obtain ⟨lf, lr, hl, hF4, hR4⟩ : ∃ lf lr, (lf = some n ∧ lr = none ∨ lf = none ∧ lr = some n) ∧ DayAt K (upd H3 p6 (.dK (dropK kr2 (Sum.inr n)))) p5 lf (fun n => ∃ fs, g.fct n = some fs ∧ fs.length = g.D) (fun n => (mdl g.fct g.rat).fact n d) ∧ DayAt K (upd H3 p6 (.dK (dropK kr2 (Sum.inr n)))) p6 lr (fun n => ∃ fs, g.rat n = some fs ∧ fs.length = g.D) (fun n => (mdl g.fct g.rat).rate n d) :=
        ⟨none, some n, .inr ⟨rfl, rfl⟩, (DX.all (f2 := p5) K ⟨h54, hXf.keys, fun p hp => by
          obtain ⟨n', fs, t, e1, e2, e3⟩ := hXf3.row p hp
          exact ⟨n', fs, t, e1, e2, k4.tup _ _ e3⟩⟩ hF), hXr3.but K hR k4 n h64⟩
      generalize upd H3 p6 (.dK (dropK kr2 (Sum.inr n))) = H4 at *)
    all_goals (
      obtain ⟨dx, fs, a0, ld, lb, pa, qs, hW4⟩ := hW.kpD kD4
      have hq : qs.length ≤ 1000000 := by rw [paired_len hW4.each]; exact hS.few
      refine ⟨_, rfl, wd, dx, fs, rfl, hW4.ins, hW4.f_k, wd, dx, pa, fs, qs, _, rfl, hW4.ins, hW4.f_p, hW4.pasts, hq, hW4.lens, fun H5 k5 => ?_⟩
      have hW5 := hW4.kp k5 (by simp) (by simp) (s := 0)
      have kD5 := kD4.then k5
      refine ⟨_, rfl, wd, dx, fs, rfl, hW5.ins, hW5.f_s, _, rfl, _, rfl, g, wd, p5, p6, e, sb, xs, d, lf, lr, rfl, hS, hd, ⟨dx, fs, a0, ld, lb, pa, qs, hW5⟩, hF4.kp k5 (by simp), hR4.kp k5 (by simp), fun v H6 k6 hW6 hv => ?_, fun c dd H6 k6 hl2 => ?_⟩
      · exact kM H5 H6 kD5 (hD4.kp k5 (by simp)) k6 hW6
      · have hW6 := hW5.kp k6 (by simp) (by simp) (s := 0)
        have hna6 := SqL.of (K := K) (k6.to _ _ (k5.to _ _ hna4))
        have hD6 := (hD4.kp k5 (by simp)).kp k6 (by simp)
        have fin : ∀ H7, Kp [] H6 H7 → Q (.bl true) H7 := fun H7 k7 => kE H7 ((kD5.then k6).then k7) (hD6.kp k7 (by simp)) ⟨dx, fs, a0, ld, lb, pa, qs, hW6.kp k7 (by simp) (by simp) (s := 0)⟩
        obtain ⟨n', dx2, hc, rfl, hdx⟩ := hl2
        have en : n' = n := by
          rcases hl with ⟨h1, h2⟩ | ⟨h1, h2⟩ <;> rcases hc with ⟨h3, _⟩ | ⟨h3, _⟩
          · rw [h1] at h3; exact (Option.some.inj h3).symm
          · rw [h2] at h3; cases h3
          · rw [h1] at h3; cases h3
          · rw [h2] at h3; exact (Option.some.inj h3).symm
        subst en
        rcases hc with ⟨_, rfl⟩ | ⟨_, rfl⟩
        · refine ⟨true, T.MissingFact.x, fun _ a ha => ?_, fun z => by cases z⟩
          refine ⟨_, rfl, rfl, rfl, dx2, _, .str n', rfl, hdx, rfl, _, rfl, _, rfl, na, _, _, _, rfl, rfl, hna6, hnv, rfl, _, rfl, ifT (decide_eq_true rfl) ?_⟩
          refine ⟨_, rfl, rfl, rfl, dx2, _, .int d, rfl, hdx, rfl, _, rfl, rfl, _, rfl, ifT (decide_eq_true rfl) ?_⟩
          refine ⟨_, rfl, wd, dx, fs, rfl, hW6.ins, wd, dx, fs, _, rfl, hW6.ins, hW6.f_d, _, rfl, rfl, _, rfl, ifT (decide_eq_true rfl) ?_⟩
          refine ⟨_, rfl, wd, dx, fs, rfl, hW6.ins, hW6.f_k, wd, dx, pa, fs, qs, _, rfl, hW6.ins, hW6.f_p, hW6.pasts, hq, hW6.lens, fun H7 k7 => ⟨_, rfl, rfl, ?_⟩⟩
          rw [decide_eq_true rfl]
          exact fin H7 k7
        · refine ⟨false, T.x_RF, fun z => (by cases z), fun _ => ⟨true, T.MissingRate.x, fun _ a ha => ?_, fun z => by cases z⟩⟩
          refine ⟨_, rfl, rfl, rfl, dx2, _, .str n', rfl, hdx, rfl, _, rfl, _, rfl, na, _, _, _, rfl, rfl, hna6, hnv, rfl, _, rfl, ifT (decide_eq_true rfl) ?_⟩
          refine ⟨_, rfl, rfl, rfl, dx2, _, .int d, rfl, hdx, rfl, _, rfl, rfl, _, rfl, ifT (decide_eq_true rfl) ?_⟩
          refine ⟨_, rfl, wd, dx, fs, rfl, hW6.ins, wd, dx, fs, _, rfl, hW6.ins, hW6.f_d, _, rfl, rfl, _, rfl, ifT (decide_eq_true rfl) ?_⟩
          refine ⟨_, rfl, wd, dx, fs, rfl, hW6.ins, hW6.f_k, wd, dx, pa, fs, qs, _, rfl, hW6.ins, hW6.f_p, hW6.pasts, hq, hW6.lens, fun H7 k7 => ⟨_, rfl, rfl, ?_⟩⟩
          rw [decide_eq_true rfl]
          exact fin H7 k7)
end
end KW
set_option maxRecDepth 100000
set_option maxHeartbeats 4000000
/-! repr of one day's dicts -/
namespace KW
open PySem L2
/-- the rows of such a dict -/
def GRow (H : Hp) (kvs : List (Key × V)) (rows : List (Str × Fr)) : Prop := PySem.Paired (fun (p : Key × V) (x : Str × Fr) => p.1 = Sum.inr x.1 ∧ ∃ t, p.2 = .ref t ∧ H t = some (.tup [.int x.2.1, .int x.2.2])) kvs rows
def RowOk (x : Str × Fr) : Prop := NameOk x.1 ∧ FrOk x.2
def rowsD (rows : List (Str × Fr)) : List (PyData × PyData) := rows.map fun x => (.str x.1, .tuple [.int x.2.1, .int x.2.2])
def datG (rf rr : List (Str × Fr)) : PyData := .list [.dict (rowsD rf), .dict (rowsD rr)]
structure GivenAt (H : Hp) (g : Addr) (rf rr : List (Str × Fr)) : Prop where
  low : g ≠ PySem.sysModules
  ex : ∃ f2 r2 kf kr, H g = some (.lst [.ref f2, .ref r2]) ∧ H f2 = some (.dK kf) ∧ GRow H kf rf ∧ H r2 = some (.dK kr) ∧ GRow H kr rr
  okf : ∀ x ∈ rf, RowOk x
  okr : ∀ x ∈ rr, RowOk x
  fewf : rf.length ≤ 3
  fewr : rr.length ≤ 3
theorem int_text_short {i : Int} (h : i.natAbs < 2 ^ 30) : (PyData.shown (.int i)).length ≤ 40 := by
  show (Str.ofString (toString i)).length ≤ 40
  rw [ofString_length]
  have := int_text_length_le10 (a := i) (k := 30) (by decide) (Nat.lt_trans h (by decide))
  omega
theorem int_weight {i : Int} (h : i.natAbs < 2 ^ 30) : PyData.weight (.int i) ≤ 31 := by
  unfold PyData.weight
  split
  · omega
  · have : i.natAbs.log2 < 30 := by
      by_cases z : i.natAbs = 0
      · rw [z]; decide
      · exact (Nat.log2_lt z).mpr h
    omega
theorem int_showable {i : Int} (h : i.natAbs < 2 ^ 30) : PyData.showable (.int i) = true := by
  unfold PyData.showable
  refine decide_eq_true ?_
  by_cases z : i.natAbs = 0
  · rw [z]; decide
  · exact Nat.lt_trans ((Nat.log2_lt z).mpr h) (by decide)
theorem rows_short : ∀ {rows : List (Str × Fr)}, (∀ x ∈ rows, RowOk x) → PyData.leavesShortKv 40 (rowsD rows) = true ∧ PyData.showableKv (rowsD rows) = true ∧ PyData.weightKv (rowsD rows) ≤ 90 * rows.length ∧ PyData.depthKv (rowsD rows) ≤ 1
  | [], _ => ⟨rfl, rfl, Nat.le_refl _, Nat.zero_le _⟩
  | x :: r, h => by
    obtain ⟨i1, i2, i3, i4⟩ := rows_short (rows := r) fun y hy => h y (List.mem_cons_of_mem _ hy)
    obtain ⟨⟨hn1, hn2⟩, hf1, hf2, hf3⟩ := h x List.mem_cons_self
    have hf3 : x.2.2.natAbs < 2 ^ 30 := Nat.lt_trans hf3 (by decide)
    have e : rowsD (x :: r) = (.str x.1, .tuple [.int x.2.1, .int x.2.2]) :: rowsD r := rfl
    rw [e]
    have w1 := int_weight hf1
    have w2 := int_weight hf3
    have s1 := int_text_short hf1
    have s2 := int_text_short hf3
    have p1 := int_showable hf1
    have p2 := int_showable hf3
    refine ⟨?_, ?_, ?_, ?_⟩
    · simp only [PyData.leavesShortKv, PyData.leavesShort, PyData.leavesShortAll, Bool.and_eq_true, decide_eq_true_eq, List.all_eq_true]
      exact ⟨⟨fun c hc => Nat.lt_trans (hn2 c hc) (by decide), s1, s2, trivial⟩, i1⟩
    · simp only [PyData.showableKv, PyData.showableAll, Bool.and_eq_true]
      refine ⟨⟨?_, ?_⟩, i2⟩
      · simp only [PyData.showable]
      · unfold PyData.showable
        simp only [PyData.showableAll, Bool.and_eq_true]
        exact ⟨p1, p2, trivial⟩
    · have ws : PyData.weight (.str x.1) ≤ 20 := by
        unfold PyData.weight
        exact hn1
      have wt : PyData.weight (.tuple [.int x.2.1, .int x.2.2]) = PyData.weight (.int x.2.1) + 1 + (PyData.weight (.int x.2.2) + 1 + 0) := by
        rw [PyData.weight, PyData.weightAll, PyData.weightAll, PyData.weightAll]
      rw [PyData.weightKv, wt, List.length_cons]
      omega
    · rw [PyData.depthKv]
      have d1 : PyData.depth (.str x.1) = 0 := by rw [PyData.depth]
      have d2 : PyData.depth (.tuple [.int x.2.1, .int x.2.2]) = 1 := by rw [PyData.depth, PyData.depthAll, PyData.depthAll, PyData.depthAll, PyData.depth, PyData.depth]; rfl
      rw [d1, d2]
      omega
theorem dat_ok {rf rr : List (Str × Fr)} (h1 : ∀ x ∈ rf, RowOk x) (h2 : ∀ x ∈ rr, RowOk x) (n1 : rf.length ≤ 3) (n2 : rr.length ≤ 3) : (datG rf rr).showable = true ∧ (datG rf rr).depth ≤ 3 ∧ (datG rf rr).shown.length ≤ sizeLine := by
  obtain ⟨a1, a2, a3, a4⟩ := rows_short h1
  obtain ⟨b1, b2, b3, b4⟩ := rows_short h2
  refine ⟨?_, ?_, ?_⟩
  · unfold datG PyData.showable
    simp only [PyData.showableAll, Bool.and_eq_true]
    unfold PyData.showable
    exact ⟨a2, b2, trivial⟩
  · unfold datG
    rw [PyData.depth, PyData.depthAll, PyData.depthAll, PyData.depthAll, PyData.depth, PyData.depth]
    omega
  · have e := PyData.shown_le 40 (by decide) (datG rf rr) (by
      unfold datG PyData.leavesShort
      simp only [PyData.leavesShortAll, Bool.and_eq_true]
      unfold PyData.leavesShort
      exact ⟨a1, b1, trivial⟩)
    have wt : (datG rf rr).weight = PyData.weightKv (rowsD rf) + 1 + (PyData.weightKv (rowsD rr) + 1 + 0) := by
      unfold datG
      rw [PyData.weight, PyData.weightAll, PyData.weightAll, PyData.weightAll, PyData.weight, PyData.weight]
    rw [wt] at e
    rw [sizeLine_eq]
    omega
theorem GRow.kp {S : List Addr} {H H' : Hp} (k : Kp S H H') {kvs : List (Key × V)} {rows : List (Str × Fr)} (h : GRow H kvs rows) : GRow H' kvs rows :=
  paired_imp (fun p x ⟨e1, t, e2, e3⟩ => ⟨e1, t, e2, k.tup _ _ e3⟩) h
theorem GivenAt.kpD {dl : Addr} {H H' : Hp} {g : Addr} {rf rr : List (Str × Fr)} (h : GivenAt H g rf rr) (k : KpD dl H H') : GivenAt H' g rf rr := by
  obtain ⟨lo, ⟨f2, r2, kf, kr, e1, e2, e3, e4, e5⟩, o1, o2, o3, o4⟩ := h
  exact ⟨lo, ⟨f2, r2, kf, kr, k.lst e1 (refs_head (qs := [f2, r2])), k.oth e2 (fun _ z => by cases z), e3.kp k.kp, k.oth e4 (fun _ z => by cases z), e5.kp k.kp⟩, o1, o2, o3, o4⟩
theorem GivenAt.kpi {s C dx : Addr} {fs : List (Str × V)} {H H' : Hp} {g : Addr} {rf rr : List (Str × Fr)} (h : GivenAt H g rf rr) (k : Kp [s] H H') (hs : H s = some (.ins C dx fs)) : GivenAt H' g rf rr := by
  obtain ⟨lo, ⟨f2, r2, kf, kr, e1, e2, e3, e4, e5⟩, o1, o2, o3, o4⟩ := h
  exact ⟨lo, ⟨f2, r2, kf, kr, k.keep _ _ e1 (not1 fun z => by rw [z, hs] at e1; cases e1), k.keep _ _ e2 (not1 fun z => by rw [z, hs] at e2; cases e2), e3.kp k, k.keep _ _ e4 (not1 fun z => by rw [z, hs] at e4; cases e4), e5.kp k⟩, o1, o2, o3, o4⟩
theorem GivenAt.kp0 {H H' : Hp} {g : Addr} {rf rr : List (Str × Fr)} (h : GivenAt H g rf rr) (k : Kp [] H H') : GivenAt H' g rf rr := by
  obtain ⟨lo, ⟨f2, r2, kf, kr, e1, e2, e3, e4, e5⟩, o1, o2, o3, o4⟩ := h
  exact ⟨lo, ⟨f2, r2, kf, kr, k.to _ _ e1, k.to _ _ e2, e3.kp k, k.to _ _ e4, e5.kp k⟩, o1, o2, o3, o4⟩
theorem rows_of {H : Hp} : ∀ {l : List (Key × V)}, (∀ p ∈ l, ∃ n f t, p = (Sum.inr n, .ref t) ∧ RowOk (n, f) ∧ H t = some (.tup [.int f.1, .int f.2])) → ∃ rows, GRow H l rows ∧ (∀ x ∈ rows, RowOk x) ∧ rows.length = l.length
  | [], _ => ⟨[], .nil, by simp, rfl⟩
  | p :: r, h => by
    obtain ⟨rows, h1, h2, h3⟩ := rows_of (l := r) fun q hq => h q (List.mem_cons_of_mem _ hq)
    obtain ⟨n, f, t, rfl, ho, ht⟩ := h p List.mem_cons_self
    refine ⟨(n, f) :: rows, .cons ⟨rfl, t, rfl, ht⟩ h1, fun x hx => ?_, by rw [List.length_cons, List.length_cons, h3]⟩
    rcases List.mem_cons.mp hx with z | z
    · rw [z]; exact ho
    · exact h2 x z
theorem DX.rows {H H0 : Hp} {f2 fd : Addr} {D d : Nat} {kf kf2 : List (Key × V)} {fct : Str → Option (List Fr)} (h : DX H f2 (kf.map (·.1)) kf2 fct d) (hf : FX H0 fd D kf fct) (hd : d < D) : ∃ rows, GRow H kf2 rows ∧ (∀ x ∈ rows, RowOk x) ∧ rows.length ≤ 3 := by
  obtain ⟨rows, h1, h2, h3⟩ := rows_of (H := H) (l := kf2) fun p hp => by
    obtain ⟨n, fs, t, e1, e2, e3⟩ := h.row p hp
    refine ⟨n, fs.getD d (0, 1), t, e1, ⟨?_, ?_⟩, e3⟩
    · have hm : p.1 ∈ kf.map (·.1) := by rw [← h.keys]; exact List.mem_map.mpr ⟨p, hp, rfl⟩
      obtain ⟨q, hq, eq⟩ := List.mem_map.mp hm
      obtain ⟨m, em, hm2⟩ := hf.hx.nm q hq
      have : n = m := by
        have z : p.1 = Sum.inr n := congrArg (·.1) e1
        exact Sum.inr.inj (z.symm.trans (eq.symm.trans em))
      rw [this]; exact hm2
    · obtain ⟨_, hl, ho⟩ := hf.fn n fs e2
      rw [List.getD_eq_getElem?_getD, List.getElem?_eq_getElem (by omega)]
      exact ho _ (List.getElem_mem _)
  refine ⟨rows, h1, h2, ?_⟩
  rw [h3]
  have := congrArg List.length h.keys
  rw [List.length_map, List.length_map] at this
  have := hf.hx.few
  omega
/-! ### what repr reads -/
section
variable {P : Program} {w : World} {H : Hp} {h : Heap}
theorem reads_tup (ok : HOk P w H h) {t : Addr} {f : Fr} (e : H t = some (.tup [.int f.1, .int f.2])) : PySem.Reads h (.ref t) (.tuple [.int f.1, .int f.2]) [] := by
  obtain ⟨_, its, r, o, e1, e2, n, e3⟩ := ok t _ e
  cases r with
  | cons a r =>
    cases r with
    | cons b r =>
      cases r
      obtain ⟨u1, rfl⟩ := a
      obtain ⟨u2, rfl⟩ := b
      exact .tuple e1 e2 e3 (.cons (as := []) (bs := []) (.int _ _) (.cons (as := []) (bs := []) (.int _ _) .nil))
theorem reads_rows (ok : HOk P w H h) : ∀ {es : List DictEntry} {vs : List (Key × Value)} {kvs : List (Key × V)} {rows : List (Str × Fr)}, GRow H kvs rows → KV kvs vs → PySem.Pairs (mixKind P w) es vs →
    PySem.ReadsAll h (es.map (·.key)) ((rowsD rows).map (·.1)) [] ∧ PySem.ReadsAll h (es.map (·.val)) ((rowsD rows).map (·.2)) []
  | _, _, _, _, .nil, .nil, .nil => ⟨.nil, .nil⟩
  | _, _, _, _, .cons (b := x0) ⟨e1, t, e2, e3⟩ g, .cons ⟨k1, k2⟩ kv, .cons (e := en) p1 p2 ps => by
    obtain ⟨i1, i2⟩ := reads_rows ok g kv ps
    rw [e2] at k2
    rw [← k1, e1] at p1
    have q1 : L2.keyIs (Sum.inr x0.1) en.key = true := p1
    rcases keyIs_shape q1 with ⟨i, u, z, hx⟩ | ⟨x, u, z, hx⟩
    · cases z
    · have z := Sum.inr.inj z
      refine ⟨?_, ?_⟩
      · refine PySem.ReadsAll.cons (as := []) (bs := []) ?_ i1
        show PySem.Reads h en.key (.str x0.1) []
        rw [hx, z]
        exact .str _ _
      · refine PySem.ReadsAll.cons (as := []) (bs := []) ?_ i2
        show PySem.Reads h en.val (.tuple [.int x0.2.1, .int x0.2.2]) []
        rw [p2, show _ = Value.ref t from k2]
        exact reads_tup ok e3
theorem reads_dict (ok : HOk P w H h) {f2 : Addr} {kf : List (Key × V)} {rows : List (Str × Fr)} (e : H f2 = some (.dK kf)) (g : GRow H kf rows) : f2 ≠ PySem.sysModules ∧ PySem.Reads h (.ref f2) (.dict (rowsD rows)) [f2] := by
  obtain ⟨_, lo, vs, hk, o, es, ep, h1, ⟨h2, _⟩, h3, _, h5, _⟩ := ok f2 _ e
  obtain ⟨r1, r2⟩ := reads_rows ok g hk h5
  exact ⟨beq_eq_false_iff_ne.mp lo, .dict (as := []) (bs := []) h1 h2 h3 r1 r2⟩
theorem reads_given (ok : HOk P w H h) {g : Addr} {rf rr : List (Str × Fr)} (G : GivenAt H g rf rr) : ∃ as, PySem.Reads h (.ref g) (datG rf rr) as ∧ PySem.sysModules ∉ as := by
  obtain ⟨lo, ⟨f2, r2, kf, kr, e1, e2, e3, e4, e5⟩, _⟩ := G
  obtain ⟨n1, d1⟩ := reads_dict ok e2 e3
  obtain ⟨n2, d2⟩ := reads_dict ok e4 e5
  obtain ⟨_, its, n, r, h1⟩ := ok g _ e1
  cases r with
  | cons a r =>
    cases r with
    | cons b r =>
      cases r
      obtain rfl := (show _ = Value.ref f2 from a)
      obtain rfl := (show _ = Value.ref r2 from b)
      refine ⟨_, .list h1 rfl rfl (.cons d1 (.cons d2 .nil)), fun z => ?_⟩
      rcases List.mem_cons.mp z with z | z
      · exact lo z.symm
      · rcases List.mem_append.mp z with z | z
        · exact n1 (List.mem_singleton.mp z).symm
        · rcases List.mem_append.mp z with z | z
          · exact n2 (List.mem_singleton.mp z).symm
          · cases z
end
theorem call_repr_given {X : Cx} (hg : X.A.guards = some []) (hu : X.A.units + 8 < cLine) : CallR X (.builtin "repr") (fun xs H Q => ∃ a rf rr, xs = [.ref a] ∧ GivenAt H a rf rr ∧ Q (.str (datG rf rr).shown) H) := by
  intro pins s σ H xs us Q I r h
  obtain ⟨a, rf, rr, rfl, G, q⟩ := h
  obtain rfl := Vals.ref1 r
  obtain ⟨as, R, hs⟩ := reads_given I.hok G
  obtain ⟨o1, o2, o3⟩ := dat_ok G.okf G.okr G.fewf G.fewr
  exact PySem.repr_of_reads' R o1 (fun _ => hs) hg (by omega) (fun _ _ e => e) (fun h' u tk hk => ⟨.str _, H, I.kept hk, ⟨_, rfl⟩, q⟩) o3
end KW
set_option maxRecDepth 100000
set_option maxHeartbeats 4000000
/-! what is so at each day of the law -/
namespace KY
open PySem PySem.Spec PyProof.Rows L2
/-- x is b, where x is a bool or None -/
def rIsF : R2 := fun x y H Q => ∃ b : Bool, y = .bl b ∧ ((∃ a : Bool, x = .bl a ∧ Q (.bl (decide (a = b))) H) ∨ (x = .non ∧ Q (.bl false) H))
theorem op_isF {X : Cx} : OpR X (compareOp .Is) rIsF := by
  intro pins s σ H x y v u Q I rx ry ⟨b, ey, h⟩
  rcases h with ⟨a, ex, q⟩ | ⟨ex, q⟩
  · exact op_isBl pins s σ H x y v u Q I rx ry ⟨a, b, ex, ey, q⟩
  · subst ex; subst ey
    cases (show v = Value.none from rx)
    cases (show u = Value.bool b from ry)
    exact wpAny_is_other rfl (fun z => by cases z) ⟨.bl false, H, I, rfl, q⟩
end KY
namespace KW
open PySem L2
/-- the addresses and the plain things of a run -/
structure LC where
  dl : Addr
  na : Addr
  r0 : Addr
  la : Addr
  kl : Addr
  h0 : Addr
  fd : Addr
  rd : Addr
  a0 : Addr
  wd : Addr
  sd : Addr
  ta : Addr
  g : HistIn
  ns : List Str
  kf : List (Key × V)
  kr : List (Key × V)
  e : Ex
  xs : List Ex
  ys : List Ex
  gt : List Ex
abbrev LC.M (c : LC) : Md := mdl c.g.fct c.g.rat
structure LS (c : LC) : Prop where
  nl : c.ns.length = 7
  n1 : c.na ≠ c.dl
  kf : ∀ (i : Nat) n, i < 3 → c.ns[i]? = some n → Sum.inr n ∈ c.kf.map (·.1)
  kr : ∀ (i : Nat) n, 3 ≤ i → i < 5 → c.ns[i]? = some n → Sum.inr n ∈ c.kr.map (·.1)
  s1 : Sx c.g c.e true c.xs
  s2 : Sx c.g (.un c.e) true c.ys
  D1 : 1 ≤ c.g.D
  ws : c.wd ≠ c.sd
  kept : ∀ d : Nat, keptN c.M d c.xs = (c.gt.map fun x => ((min x.days d : Nat) : Int)).sum
  tms : ∀ x ∈ c.gt, x.isT = true
  tfew : c.gt.length ≤ 1000000
structure LI (K : PySem.W.Frag) {mg : Str → Option Value} {w : World} (T : Tx K mg w) (c : LC) (i j : Nat) (H : Hp) : Prop where
  dr : Dr H c.dl
  nam : H c.na = some (.lst (c.ns.map V.str))
  r0 : H c.r0 = some (.lst [.ref c.la, .ref c.kl])
  lets : LetsL H c.la c.g.ls
  h0 : H c.h0 = some (.lst [.ref c.fd, .ref c.rd])
  fx : FX H c.fd c.g.D c.kf c.g.fct
  rx : FX H c.rd c.g.D c.kr c.g.rat
  at_ : At H c.e c.a0
  w1 : WatchAt T.Watch.C H c.wd c.g.ls c.e c.xs c.M i
  w2 : WatchAt T.Watch.C H c.sd c.g.ls (.un c.e) c.ys c.M j
  tim : PartsL H c.ta c.gt
section
variable {K : PySem.W.Frag} {mg : Str → Option Value} {w : World} {T : Tx K mg w} {c : LC} {i j : Nat} {H H' : Hp}
theorem LI.kp0 (h : LI K T c i j H) (k : Kp [] H H') (hD : 1 ≤ c.g.D) : LI K T c i j H' :=
  ⟨h.dr.kp k (by simp), k.to _ _ h.nam, k.to _ _ h.r0, h.lets.kp k (by simp), k.to _ _ h.h0, h.fx.kp0 k hD, h.rx.kp0 k hD, h.at_.kp k, h.w1.kp0 k, h.w2.kp0 k, h.tim.kp k (by simp)⟩
theorem strs_head {qs : List Str} : ∀ i ys, qs.map V.str ≠ .int i :: ys := by
  intro i ys h
  cases qs with
  | nil => cases h
  | cons q r => rw [List.map_cons] at h; injection h with h; cases h
theorem LI.kpD (h : LI K T c i j H) (k : KpD c.dl H H') (d : Dr H' c.dl) (hD : 1 ≤ c.g.D) : LI K T c i j H' := by
  refine ⟨d, k.lst h.nam strs_head, k.lst h.r0 (refs_head (qs := [c.la, c.kl])), ?_, k.lst h.h0 (refs_head (qs := [c.fd, c.rd])), h.fx.kpd k.kp h.dr hD, h.rx.kpd k.kp h.dr hD, h.at_.kp k.kp, h.w1.kpD k, h.w2.kpD k, ?_⟩
  · obtain ⟨ps, e1, e2⟩ := id h.lets
    by_cases z : c.la = c.dl
    · rcases k.or_ with y | ⟨n, ys, y⟩
      · exact h.lets.kp y (by simp)
      · rw [z, y] at e1
        injection e1 with e1
        injection e1 with e1
        exact absurd e1.symm (refs_head _ _)
    · exact h.lets.kp k.kp (not1 z)
  · obtain ⟨ps, e1, e2⟩ := h.tim
    exact ⟨ps, k.lst e1 refs_head, paired_imp (fun a x e => e.kp k.kp) e2⟩
/-- an instance changes -/
theorem LI.kpi {s C dx : Addr} {fs : List (Str × V)} (h : LI K T c i j H) (k : Kp [s] H H') (hs : H s = some (.ins C dx fs)) (hD : 1 ≤ c.g.D) {i' j' : Nat} (v1 : WatchAt T.Watch.C H' c.wd c.g.ls c.e c.xs c.M i') (v2 : WatchAt T.Watch.C H' c.sd c.g.ls (.un c.e) c.ys c.M j') : LI K T c i' j' H' := by
  have nl : ∀ {b xs}, H b = some (.lst xs) → b ∉ [s] := fun e => not1 fun z => by rw [z, hs] at e; cases e
  refine ⟨?_, k.keep _ _ h.nam (nl h.nam), k.keep _ _ h.r0 (nl h.r0), ?_, k.keep _ _ h.h0 (nl h.h0), h.fx.kpi k hs hD, h.rx.kpi k hs hD, h.at_.kp k, v1, v2, ?_⟩
  · obtain ⟨ds, e⟩ := id h.dr
    exact h.dr.kp k (nl e)
  · obtain ⟨ps, e, _⟩ := id h.lets
    exact h.lets.kp k (nl e)
  · obtain ⟨ps, e, _⟩ := id h.tim
    exact h.tim.kp k (nl e)
theorem WatchAt.at_ {C : Addr} {H : Hp} {wd : Addr} {ls : List (Str × Ex)} {e : Ex} {xs : List Ex} {M : Md} {d : Nat} (h : WatchAt C H wd ls e xs M d) : ∃ dx fs, H wd = some (.ins C dx fs) ∧ fs.lookup ("days" : Str) = some (.int d) ∧ fs.lookup ("step" : Str) = none ∧ fs.lookup ("kept" : Str) = none := by
  obtain ⟨dx, fs, a, ld, lb, pa, qs, h⟩ := h
  exact ⟨dx, fs, h.ins, h.f_d, h.f_s, h.f_k⟩
theorem WatchAt.other {C s : Addr} {H H' : Hp} {wd : Addr} {ls : List (Str × Ex)} {e : Ex} {xs : List Ex} {M : Md} {d : Nat} {dx : Addr} {fs : List (Str × V)} (h : WatchAt C H wd ls e xs M d) (k : Kp [s] H H') (hs : H s = some (.ins C dx fs)) (n : wd ≠ s) : WatchAt C H' wd ls e xs M d := by
  obtain ⟨dx', fs', a, ld, lb, pa, qs, h⟩ := h
  exact ⟨dx', fs', a, ld, lb, pa, qs, h.kp k (not1 n) (fun t ht => .inl ⟨C, dx, fs, by rw [List.mem_singleton.mp ht]; exact hs⟩) (s := 0)⟩
/-- the first watch steps -/
theorem LI.step1 (S : LS c) (h : LI K T c i j H) (k : Kp [c.wd] H H') (v : WatchAt T.Watch.C H' c.wd c.g.ls c.e c.xs c.M (i + 1)) : LI K T c (i + 1) j H' := by
  obtain ⟨dx, fs, h1, _⟩ := h.w1.at_
  exact h.kpi k h1 S.D1 v (h.w2.other k h1 S.ws.symm)
theorem LI.step2 (S : LS c) (h : LI K T c i j H) (k : Kp [c.sd] H H') (v : WatchAt T.Watch.C H' c.sd c.g.ls (.un c.e) c.ys c.M (j + 1)) : LI K T c i (j + 1) H' := by
  obtain ⟨dx, fs, h1, _⟩ := h.w2.at_
  exact h.kpi k h1 S.D1 (h.w1.other k h1 S.ws) v
/-- the day's dicts -/
structure DG (c : LC) (d : Nat) (H : Hp) (g f2 r2 : Addr) (kf2 kr2 : List (Key × V)) (rf rr : List (Str × Fr)) : Prop where
  at_ : H g = some (.lst [.ref f2, .ref r2])
  x : DX H f2 (c.kf.map (·.1)) kf2 c.g.fct d
  y : DX H r2 (c.kr.map (·.1)) kr2 c.g.rat d
  gv : GivenAt H g rf rr
variable {d : Nat} {g f2 r2 : Addr} {kf2 kr2 : List (Key × V)} {rf rr : List (Str × Fr)}
theorem DG.kp0 (h : DG c d H g f2 r2 kf2 kr2 rf rr) (k : Kp [] H H') : DG c d H' g f2 r2 kf2 kr2 rf rr := ⟨k.to _ _ h.at_, h.x.kp k (by simp), h.y.kp k (by simp), h.gv.kp0 k⟩
theorem DG.kpD {dl : Addr} (h : DG c d H g f2 r2 kf2 kr2 rf rr) (hd : Dr H dl) (k : KpD dl H H') : DG c d H' g f2 r2 kf2 kr2 rf rr := by
  obtain ⟨ds, e⟩ := hd
  exact ⟨k.lst h.at_ (refs_head (qs := [f2, r2])), h.x.kp k.kp (not1 fun z => by rw [← z, h.x.at_] at e; cases e), h.y.kp k.kp (not1 fun z => by rw [← z, h.y.at_] at e; cases e), h.gv.kpD k⟩
theorem DG.kpi {s C dx : Addr} {fs : List (Str × V)} (h : DG c d H g f2 r2 kf2 kr2 rf rr) (k : Kp [s] H H') (hs : H s = some (.ins C dx fs)) : DG c d H' g f2 r2 kf2 kr2 rf rr :=
  ⟨k.keep _ _ h.at_ (not1 fun z => by have e := h.at_; rw [z, hs] at e; cases e), h.x.kp k (not1 fun z => by have e := h.x.at_; rw [z, hs] at e; cases e), h.y.kp k (not1 fun z => by have e := h.y.at_; rw [z, hs] at e; cases e), h.gv.kpi k hs⟩
end
end KW
set_option maxRecDepth 100000
set_option maxHeartbeats 4000000
/-! the law's days -/
namespace KW
open PySem L2
/-- the context of the law's body -/
abbrev XL (P : Program) (w : World) (K : PySem.W.Frag) (mg : Str → Option Value) (base : Heap) (f : Addr) (cdv : Value) (s : Shared) (H : Hp) (E : XK) : Cx := (cxOf CX0 P w K mg base n_law "law" (defScope s_law) f cdv callerA [] s H E).nox
theorem min_int {k d : Nat} : (if (d : Int) < (k : Int) then (d : Int) else (k : Int)) = ((min k d : Nat) : Int) := by
  split <;> omega
/-- the locals of the law at a day: y7, y11 .. y16 whatever -/
def sg (c : LC) (scr : Addr) (y7 y11 y12 y13 y14 y15 y16 : Option V) : L2.St :=
  [some (.ref scr), some (.ref c.dl), some (.ref c.na), some (.ref c.r0), some (.int c.g.D), some (.ref c.h0), some (.ref c.a0), y7, some (.ref c.wd), some (.ref c.sd), some (.ref c.ta), y11, y12, y13, y14, y15, y16]
section
variable {P : Program} {w : World} {K : PySem.W.Frag} {mg : Str → Option Value} {base : Heap}
theorem loop_ok (T : Tx K mg w) (cdv : Value) (s : Shared) (H0 : Hp) (E : XK) (hr : Room 58 (XL P w K mg base T.law.a cdv s H0 E).A) :
    ∃ t, PS (XL P w K mg base T.law.a cdv s H0 E) ((defBody s_law).getD 10 (.Pass default)) t ∧ ∀ (c : LC) (scr : Addr) (Dn : Ends) (y7 y11 y12 y13 y14 y15 y16 : Option V) (H : Hp), LS c → LI K T c 0 0 H →
      (∀ H' z11 z12 z13 z14 z15 z16, LI K T c c.g.D c.g.D H' → Dn.nx (sg c scr y7 z11 z12 z13 z14 z15 z16) H') → t Dn (sg c scr y7 y11 y12 y13 y14 y15 y16) H := by
  have Gsm : FnOk P w K mg base CX0 1 T.law_same.a T.law_same.d p_law_same spSame := ok_same T
  have Gnd : FnOk P w K mg base CX0 1 T.Watch.next_day.a T.Watch.next_day.d p_Watch_next_day (spDay T.Watch.C) := ok_W_next_day T
  have Gkp : FnOk P w K mg base CX0 1 T.Watch.kept.a T.Watch.kept.d p_Watch_kept (spKept T.Watch.C) := ok_W_kept T
  have Gdy : FnOk P w K mg base CX0 1 T.law_day.a T.law_day.d p_law_day spLDay := ok_lday T
  have Gtk : FnOk P w K mg base CX0 1 T.law_take.a T.law_take.d p_law_take spTakeD := ok_takeD T
  have Glk : FnOk P w K mg base CX0 58 T.law_lacking.a T.law_lacking.d p_law_lacking (spLack K T) := ok_lack T
  have Gvl : FnOk P w K mg base CX0 57 T.value.a T.value.d p_value (spValue K) := ok_value T
  have Gst : FnOk P w K mg base (L2N.CX P w) 57 T.Watch.step.a T.Watch.step.d p_Watch_step (spStep K T) := ok_W_step T
  have hr1 : Room 1 (XL P w K mg base T.law.a cdv s H0 E).A := hr.mono (by decide)
  have hr2 : Room 2 (XL P w K mg base T.law.a cdv s H0 E).A := hr.mono (by decide)
  have hr57 : Room 57 (XL P w K mg base T.law.a cdv s H0 E).A := hr.mono (by decide)
  have hg : (XL P w K mg base T.law.a cdv s H0 E).A.guards = some [] := rfl
  have hu : (XL P w K mg base T.law.a cdv s H0 E).A.units + 8 < cLine := by have := hr.un; omega
  refine ⟨_, ps_for PySem.PassesOwn.never rfl (pi_range1 (by rfl) T.z_range (pa_cons (pv 4) pa_nil)) (pg_name (i := 11) sc_law.nd rfl (Or.inr rfl))
    (pss_cons (ps_if (pt_not (pt_val (pe_call Gsm hr1 rfl T.law_same.g T.law_same.F.kp T.law_same.b .nil pass0 (pa_cons (pe_prop (pv 8) T.Watch.cl T.Watch.next_day.m Gnd hr2 T.Watch.next_day.b .nil pass0 rfl) (pa_cons (pv 11) pa_nil))))) (pss_one (ps_ret pe_bl)) pss_nil)
    (pss_cons (ps_if (pt_not (pt_val (pe_call Gsm hr1 rfl T.law_same.g T.law_same.F.kp T.law_same.b .nil pass0 (pa_cons (pe_meth0 (pv 8) T.Watch.cl T.Watch.kept.m Gkp hr1 T.Watch.kept.b .nil pass0)
        (pa_cons (pe_callB (cr_sum rfl) (by rfl) T.z_sum (by rfl) (pa_cons (pe_lc (own := [("_law_part", 16)]) (g := gName 16) (tt := tYes) (te := tCB (fun xs H Q => ∃ i j, xs = [.int i, .int j] ∧ Q (.int (if j < i then j else i)) H) (tCons (tOp (rIxT K) (tVar 16) (tC (.int 1))) (tCons (tVar 11) tNil))) rfl sc_law.nd (pi_list (pv 10)) (blkOk_by (N := n_law) (sc := defScope s_law) (by decide +kernel))
          (fun _ _ _ _ _ => pg_name (i := 16) sc_law.nd rfl (Or.inl rfl)) (fun _ _ _ _ _ => pts_nil) (fun _ _ _ _ _ => pe_callB (call_min2 rfl) (by rfl) T.z_min (by rfl) (pa_cons (pixT 16) (pa_cons (pv 11) pa_nil)))) pa_nil)) pa_nil))))) (pss_one (ps_ret pe_bl)) pss_nil)
    (pss_cons (ps_set (i := 12) sc_law.nd rfl (Or.inl rfl) (pe_call Gdy hr1 rfl T.law_day.g T.law_day.F.kp T.law_day.b .nil pass0 (pa_cons (pv 5) (pa_cons (pv 11) pa_nil))))
    (pss_cons (ps_set (i := 13) sc_law.nd rfl (Or.inl rfl) (pe_callB (call_repr_given hg hu) (by rfl) T.z_repr (by rfl) (pa_cons (pv 12) pa_nil)))
    (pss_cons (ps_set (i := 14) sc_law.nd rfl (Or.inl rfl) pe_non)
    (pss_cons (ps_if (pt_cmpR op_eq (pe_call Gtk hr1 rfl T.law_take.g T.law_take.F.kp T.law_take.b .nil pass0 (pa_cons (pv 1) (pa_cons pe_int pa_nil))) pe_int (nomark _))
      (pss_cons (ps_set (i := 14) sc_law.nd rfl (Or.inl rfl) (pe_call Glk hr rfl T.law_lacking.g T.law_lacking.F.kp T.law_lacking.b .nil pass0 (pa_cons (pv 1) (pa_cons (pv 8) (pa_cons (pv 12) (pa_cons (pv 2) (pa_cons (pv 11) pa_nil)))))))
        (pss_one (ps_if (pt_cmpR KY.op_isF (pv 14) pe_bl (nomark _)) (pss_one (ps_ret pe_bl)) pss_nil))) pss_nil)
    (pss_cons (ps_set (i := 15) sc_law.nd rfl (Or.inl rfl) (pe_call Gvl hr57 rfl T.value.g T.value.F.kp T.value.b .nil pass0 (pa_cons (pv 6) (pa_cons (pe_ix ix_list (pv 3) pe_int (fun _ _ => rfl)) (pa_cons (pv 11) (pa_cons (pe_ix ix_list (pv 5) pe_int (fun _ _ => rfl)) (pa_cons (pe_ix ix_list (pv 5) pe_int (fun _ _ => rfl)) pa_nil)))))))
    (pss_cons (ps_if (PW.pt (pw_and (pt_cmpR op_isN (pv 14) pe_non (nomark _)) (pw_and1 (pt_cmpR op_eq (pe_prop (pv 8) T.Watch.cl T.Watch.next_day.m Gnd hr2 T.Watch.next_day.b .nil pass0 rfl) (pe_op op_add (pv 11) pe_int) (nomark _)))))
      (pss_one (ps_set (i := 14) sc_law.nd rfl (Or.inl rfl) pe_bl))
      (pss_one (ps_if (pt_not (pt_val (pe_call Gsm hr1 rfl T.law_same.g T.law_same.F.kp T.law_same.b .nil pass0 (pa_cons (pe_meth (pv 8) T.Watch.cl T.Watch.step.m Gst hr57 T.Watch.step.b .nil passL0 (pa_cons (pe_ix ix_list (pv 12) pe_int (fun _ _ => rfl)) (pa_cons (pe_ix ix_list (pv 12) pe_int (fun _ _ => rfl)) pa_nil))) (pa_cons (pv 15) pa_nil))))) (pss_one (ps_ret pe_bl)) pss_nil)))
    (pss_one (ps_if (PW.pt (pw_or (pt_not (pt_val (pe_call Gsm hr1 rfl T.law_same.g T.law_same.F.kp T.law_same.b .nil pass0 (pa_cons (pe_meth (pv 9) T.Watch.cl T.Watch.step.m Gst hr57 T.Watch.step.b .nil passL0 (pa_cons (pe_ix ix_list (pv 12) pe_int (fun _ _ => rfl)) (pa_cons (pe_ix ix_list (pv 12) pe_int (fun _ _ => rfl)) pa_nil))) (pa_cons (pe_not (pv 15)) pa_nil)))))
      (pw_or1 (pt_cmpR op_ne (pe_callB (call_repr_given hg hu) (by rfl) T.z_repr (by rfl) (pa_cons (pv 12) pa_nil)) (pv 13) (nomark _))))) (pss_one (ps_ret pe_bl)) pss_nil)))))))))), fun c scr Dn y7 y11 y12 y13 y14 y15 y16 H S h k => ?_⟩
  have D1 := S.D1
  have D10 := c.g.Dle
  refine ⟨_, rfl, (c.g.D : Int), rfl, by omega, by omega, ?_⟩
  have e1 : (c.g.D : Int).toNat = c.g.D := by omega
  refine for_range (Pv := fun i σ H' => ∃ z11 z12 z13 z14 z15 z16 : Option V, σ = sg c scr y7 z11 z12 z13 z14 z15 z16 ∧ LI K T c i i H') ⟨_, _, _, _, _, _, rfl, h⟩ ?_ ?_
  · rintro i σ H1 hi ⟨z11, z12, z13, z14, z15, z16, rfl, h1⟩
    rw [e1] at hi
    obtain ⟨dx, fs, a', ld, lb, pa, qs, hW⟩ := id h1.w1
    have ei : (0 : Int) + (i : Int) = ((i : Nat) : Int) := by omega
    rw [ei]
    -- next_day
    refine ⟨_, rfl, c.wd, dx, fs, rfl, hW.ins, c.wd, dx, fs, _, rfl, hW.ins, hW.f_d, _, rfl, .inl ⟨_, _, rfl, ?_⟩⟩
    refine ⟨_, rfl, ifF (by rw [decide_eq_true rfl]; rfl) ?_⟩
    -- kept
    have hq : qs.length ≤ 1000000 := by rw [paired_len hW.each]; exact S.s1.few
    refine ⟨_, rfl, c.wd, dx, fs, rfl, hW.ins, hW.f_k, c.wd, dx, pa, fs, qs, _, rfl, hW.ins, hW.f_p, hW.pasts, hq, hW.lens, fun H2 k2 => ?_⟩
    have h2 := h1.kp0 k2 D1
    obtain ⟨ps, hta, hps⟩ := id h2.tim
    refine ⟨_, rfl, c.ta, rfl, ⟨_, SqL.of hta⟩, fun D hD => ?_⟩
    have nD : c.ta ≠ D := ne_of_none hta hD
    refine lc_list (xs := ps.map V.ref) (Pv := fun m H' => H' = upd H2 D (.lst (((c.gt.take m).map fun x => ((min x.days i : Nat) : Int)).map V.int))) rfl (fun m H' _ h => by rw [h]; exact SqL.of (by rw [upd_ne nD]; exact hta)) ?_ ?_
    · rintro m y _ hy rfl
      rw [List.getElem?_map] at hy
      cases q : ps[m]? with
      | none => rw [q] at hy; cases hy
      | some u =>
        rw [q] at hy
        have hy : V.ref u = y := Option.some.inj hy
        subst hy
        obtain ⟨x, hx, hat⟩ := paired_get_l hps q
        have hxt := S.tms x (List.mem_of_getElem? hx)
        cases x with
        | timed o kk ch =>
          obtain ⟨z, hz, _⟩ := hat
          have nu : u ≠ D := ne_of_none hz hD
          refine ⟨rfl, _, rfl, u, _, _, _, rfl, rfl, SqT.of (by rw [upd_ne nu]; exact hz), at1, _, rfl, _, _, rfl, _, upd_same, ?_, ?_⟩
          · have h1 := S.tfew
            rw [List.length_map, List.length_map, List.length_take]
            exact Nat.lt_of_le_of_lt (show min m c.gt.length ≤ 1000000 by omega) (by decide)
          · rw [upd_upd, take_succ_of hx, List.map_append, List.map_append, min_int]; rfl
        | _ => cases hxt
    rintro _ rfl
    rw [List.length_map, paired_len hps, List.take_of_length_le (Nat.le_refl _)]
    refine ⟨D, _, rfl, SqL.of upd_same, .inl ⟨_, _, rfl, _, rfl, ifF ?_ ?_⟩⟩
    · have hk := S.kept i
      unfold keptN at hk
      rw [decide_eq_true hk]; rfl
    have h3 := h2.kp0 (.new hD) D1 (H' := upd H2 D (.lst ((c.gt.map fun x => ((min x.days i : Nat) : Int)).map V.int)))
    generalize upd H2 D (.lst ((c.gt.map fun x => ((min x.days i : Nat) : Int)).map V.int)) = H3 at *
    -- the day
    refine ⟨_, rfl, _, rfl, c.h0, c.fd, c.rd, c.g.D, i, c.kf, c.kr, c.g.fct, c.g.rat, rfl, h3.h0, h3.fx, h3.rx, hi, fun g f2 r2 kf2 kr2 H4 glow k4 fg ff2 fr2 nfr hg4 hX4 hY4 => ?_⟩
    obtain ⟨rf, gf, of_, lf⟩ := hX4.rows h3.fx hi
    obtain ⟨rr, gr, or_, lr⟩ := hY4.rows h3.rx hi
    have h4 := h3.kp0 k4 D1
    have ngd : g ≠ c.dl := h3.dr.ne fg
    have g4 : DG c i H4 g f2 r2 kf2 kr2 rf rr := ⟨hg4, hX4, hY4, glow, ⟨f2, r2, kf2, kr2, hg4, hX4.at_, gf, hY4.at_, gr⟩, of_, or_, lf, lr⟩
    refine ⟨_, rfl, g, rf, rr, rfl, g4.gv, ?_⟩
    -- the draw
    refine ⟨_, rfl, c.dl, 4, rfl, pos_lit (by decide), h4.dr, fun r H5 r0 r4 k5 d5 => ?_⟩
    have h5 := h4.kpD k5 d5 D1
    have g5 := g4.kpD h4.dr k5
    refine ⟨rfl, _, rfl, ?_⟩
    have step_ex : ∀ {c' : Value} {dd : Option Addr} {H' : Hp}, Lacks T none none i c' dd H' → False := fun hl => by
      obtain ⟨n, dx, z, _⟩ := hl
      rcases z with ⟨z, _⟩ | ⟨z, _⟩ <;> cases z
    obtain ⟨b, hb⟩ : ∃ b, sem c.M c.e i = .tru b := ⟨_, (sem_sort c.e i true S.s1.wf.wt).1 rfl⟩
    have hb2 : sem c.M (.un c.e) i = .tru (!b) := by
      show Vl.tru (!(sem c.M c.e i).t) = _
      rw [hb]; rfl
    by_cases hr0 : r = 0
    case' pos => (
      refine ifT (decide_eq_true (by rw [hr0])) ?_
      refine ⟨_, rfl, _, rfl, _, rfl, _, rfl, _, rfl, c.g, c.dl, c.wd, g, c.na, f2, r2, c.e, true, c.xs, i, c.ns, c.kf, c.kr, kf2, kr2, H5, c.fd, c.rd, rfl, h5.dr, S.s1, by omega, h5.w1, S.n1, ngd, h5.nam, S.nl, g5.at_, h5.fx, h5.rx, g5.x, g5.y, S.kf, S.kr, fun H6 H7 k6 d6 k7 w7 => ?nn, fun H6 k6 d6 w6 => ?tt⟩)
    case' nn => (
      have h6 := h5.kpD k6 d6 D1
      have h7 := h6.step1 S k7 w7
      have g6 := g5.kpD h5.dr k6
      obtain ⟨dx7, fs7, e7, _⟩ := h6.w1.at_
      have g7 := g6.kpi k7 e7
      refine ⟨_, rfl, false, rfl, .inr ⟨rfl, _, rfl, ifF rfl ?_⟩⟩)
    case' tt => (
      have h7 := h5.kpD k6 d6 D1
      have g7 := g5.kpD h5.dr k6
      refine ⟨_, rfl, false, rfl, .inl ⟨true, rfl, _, rfl, ifF rfl ?_⟩⟩)
    case' neg => (
      refine ifF (decide_eq_false fun z => hr0 (by injection z)) ?_
      have h7 := h5
      have g7 := g5)
    all_goals (
      refine ⟨_, rfl, _, rfl, c.r0, _, _, _, rfl, rfl, SqL.of h7.r0, at0, _, rfl, _, rfl, c.h0, _, _, _, rfl, rfl, SqL.of h7.h0, at0, _, rfl, c.h0, _, _, _, rfl, rfl, SqL.of h7.h0, at1,
        c.g, c.a0, c.la, c.fd, c.rd, c.e, i, true, rfl, h7.at_, h7.lets, h7.fx.hist, h7.rx.hist, S.s1.wf, hi, S.s1.ok, S.s1.dp, fun v H8 k8 hv => ?_⟩
      rw [hb] at hv
      obtain rfl : v = .bl b := hv
      have h8 := h7.kp0 k8 D1
      have g8 := g7.kp0 k8
      obtain ⟨dx8, fs8, e8, n8, st8, _⟩ := h8.w1.at_
      refine ⟨_, rfl, rfl, _, rfl, ?_⟩)
    case' nn => (
      refine ifT (decide_eq_true rfl) ⟨_, rfl, c.wd, dx8, fs8, rfl, e8, c.wd, dx8, fs8, _, rfl, e8, n8, _, rfl, _, _, rfl, rfl, rfl, _, rfl, ifT (decide_eq_true (congrArg V.int (by omega))) ?_⟩
      have h9 := h8
      have g9 := g8)
    case' tt => (
      refine ifF (decide_eq_false (fun z => by cases z)) (ifF rfl ?_)
      refine ⟨_, rfl, c.wd, dx8, fs8, rfl, e8, st8, _, rfl, g, _, _, _, rfl, rfl, SqL.of g8.at_, at0, _, rfl, g, _, _, _, rfl, rfl, SqL.of g8.at_, at1, c.g, c.wd, f2, r2, c.e, true, c.xs, i, none, none, rfl, S.s1, by omega, h8.w1, DX.all K g8.x h8.fx, DX.all K g8.y h8.rx, fun v9 H9 k9 w9 hv9 => ?_, fun c' dd H9 _ hl => step_ex hl⟩
      rw [hb] at hv9
      obtain rfl : v9 = .bl b := hv9
      have h9 := h8.step1 S k9 w9
      have g9 := g8.kpi k9 e8
      refine ⟨_, rfl, .inr ⟨b, b, rfl, _, rfl, ifF (by rw [decide_eq_true rfl]; rfl) ?_⟩⟩)
    case' neg => (
      refine ifT (decide_eq_true rfl) ⟨_, rfl, c.wd, dx8, fs8, rfl, e8, c.wd, dx8, fs8, _, rfl, e8, n8, _, rfl, _, _, rfl, rfl, rfl, _, rfl, ifF (decide_eq_false (fun z => by (injection z with z; omega))) ?_⟩
      refine ⟨_, rfl, c.wd, dx8, fs8, rfl, e8, st8, _, rfl, g, _, _, _, rfl, rfl, SqL.of g8.at_, at0, _, rfl, g, _, _, _, rfl, rfl, SqL.of g8.at_, at1, c.g, c.wd, f2, r2, c.e, true, c.xs, i, none, none, rfl, S.s1, by omega, h8.w1, DX.all K g8.x h8.fx, DX.all K g8.y h8.rx, fun v9 H9 k9 w9 hv9 => ?_, fun c' dd H9 _ hl => step_ex hl⟩
      rw [hb] at hv9
      obtain rfl : v9 = .bl b := hv9
      have h9 := h8.step1 S k9 w9
      have g9 := g8.kpi k9 e8
      refine ⟨_, rfl, .inr ⟨b, b, rfl, _, rfl, ifF (by rw [decide_eq_true rfl]; rfl) ?_⟩⟩)
    all_goals (
      obtain ⟨dxs, fss, es, ns, ss, _⟩ := h9.w2.at_
      refine ⟨_, rfl, c.sd, dxs, fss, rfl, es, ss, _, rfl, g, _, _, _, rfl, rfl, SqL.of g9.at_, at0, _, rfl, g, _, _, _, rfl, rfl, SqL.of g9.at_, at1, c.g, c.sd, f2, r2, .un c.e, true, c.ys, i, none, none, rfl, S.s2, by omega, h9.w2, DX.all K g9.x h9.fx, DX.all K g9.y h9.rx, fun va Ha ka wa hva => ?_, fun c' dd H9 _ hl => step_ex hl⟩
      rw [hb2] at hva
      obtain rfl : va = .bl (!b) := hva
      have ha := h9.step2 S ka wa
      have ga := g9.kpi ka es
      refine ⟨_, rfl, b, rfl, .inr ⟨!b, !b, rfl, _, rfl, ifF (by rw [decide_eq_true rfl]; rfl) ?_⟩⟩
      refine ⟨_, rfl, g, rf, rr, rfl, ga.gv, _, rfl, rfl, _, rfl, ifF (by rw [decide_eq_true rfl]; rfl) ?_⟩
      exact ⟨_, _, _, _, _, _, rfl, ha⟩)
  · rintro σ H1 ⟨z11, z12, z13, z14, z15, z16, rfl, h1⟩
    rw [e1] at h1
    exact k _ _ _ _ _ _ _ h1
end
end KW
set_option maxRecDepth 100000
set_option maxHeartbeats 4000000
/-! law: the truth that it makes, plain -/
namespace KW
open PySem L2
/-- a truth after i wraps -/
structure TI (c : GC) (i : Nat) (e : Ex) : Prop where
  wt : WT e true
  con : Con c.L e
  ref : RefOk c.A c.B e
  bits : bw e ≤ 7935
  sz : (subs e).length ≤ 70000 + 5000 * i
  dp : dep e ≤ 10 + 2 * i
theorem TI.of {A B : Str → Prop} {ls : List (Str × Ex)} {d : Nat} {e : Ex} (h : Gd (gc A B ls 2) true d e) (hd : d ≤ 4) : TI (gc A B ls 2) 0 e := by
  have hb := h.bits
  have hs := h.sz
  have hp := h.dp
  have h1 : 2 ^ d ≤ 2 ^ 4 := Nat.pow_le_pow_right (by decide) hd
  have h2 : 4 ^ d ≤ 4 ^ 4 := Nat.pow_le_pow_right (by decide) hd
  have b1 : (gc A B ls 2).b0 = 496 := rfl
  have b2 : (gc A B ls 2).s0 = 273 := rfl
  have b3 : (gc A B ls 2).p0 = 6 := rfl
  rw [b1] at hb; rw [b2] at hs; rw [b3] at hp
  have h3 : 2 ^ d * 496 ≤ 2 ^ 4 * 496 := Nat.mul_le_mul_right _ h1
  have h4 : 4 ^ d * 273 ≤ 4 ^ 4 * 273 := Nat.mul_le_mul_right _ h2
  have e1 : (2 : Nat) ^ 4 * 496 = 7936 := by decide
  have e2 : (4 : Nat) ^ 4 * 273 = 69888 := by decide
  exact ⟨h.wt, h.con, h.ref, by omega, by omega, by omega⟩
theorem TI.timed {c : GC} {i : Nat} {e : Ex} (h : TI c i e) (o : TW) {k : Nat} (h1 : 1 ≤ k) (h2 : k ≤ 10) : TI c (i + 1) (.timed o k e) := by
  have := h.bits; have := h.sz; have := h.dp
  have e1 : bw (.timed o k e) = bw e := rfl
  have e2 : (subs (.timed o k e)).length = (subs e).length + 1 := rfl
  have e3 : dep (.timed o k e) = dep e + 1 := rfl
  exact ⟨⟨rfl, by omega, h.wt⟩, h.con, h.ref, by omega, by omega, by omega⟩
theorem TI.both {A B : Str → Prop} {ls : List (Str × Ex)} {i k : Nat} {e f : Ex} (h : TI (gc A B ls 2) i e) (o : TW) (h1 : 1 ≤ k) (h2 : k ≤ 10) (g : Gd (gc A B ls 2) true 2 f) : TI (gc A B ls 2) (i + 1) (.bin .or (.timed o k e) f) := by
  have := h.bits; have := h.sz; have := h.dp
  have hb := g.bits
  have hs := g.sz
  have hp := g.dp
  have b1 : (gc A B ls 2).b0 = 496 := rfl
  have b2 : (gc A B ls 2).s0 = 273 := rfl
  have b3 : (gc A B ls 2).p0 = 6 := rfl
  rw [b1] at hb; rw [b2] at hs; rw [b3] at hp
  have e1 : bw (.bin .or (.timed o k e) f) = max (bw e) (bw f) := rfl
  have e2 : (subs (.bin .or (.timed o k e) f)).length = (subs e).length + 1 + (subs f).length + 1 := by
    show ((.bin .or (.timed o k e) f) :: (subs (.timed o k e) ++ subs f)).length = _
    rw [List.length_cons, List.length_append]; rfl
  have e3 : dep (.bin .or (.timed o k e) f) = max (dep e + 1) (dep f) + 1 := rfl
  refine ⟨?_, ⟨h.con, g.con⟩, ⟨h.ref, g.ref⟩, by omega, by omega, by omega⟩
  have : WT (.timed o k e) true := ⟨rfl, by omega, h.wt⟩
  rw [WT]
  exact ⟨rfl, this, g.wt⟩
end KW
set_option maxRecDepth 100000
set_option maxHeartbeats 4000000
/-! law -/
namespace KW
open PySem L2
theorem tw3 {r : Int} (h0 : 0 ≤ r) (h1 : r < 3) : ∃ o : TW, atI [V.str "ever", V.str "always", V.str "before"] r = some (.str o.s) := by
  rcases three h0 h1 with rfl | rfl | rfl
  · exact ⟨.ever, at0⟩
  · exact ⟨.always, at1⟩
  · exact ⟨.before, at2⟩
theorem RefOk.mono {A B A' B' : Str → Prop} (ha : ∀ n, A n → A' n) (hb : ∀ n, B n → B' n) : ∀ {e : Ex}, RefOk A B e → RefOk A' B' e
  | .lit _ _, _ => trivial
  | .ref .fact n, h => ha n h
  | .ref .rate n, h => hb n h
  | .nam _ b, h => RefOk.mono (e := b) ha hb h
  | .tt _, _ => trivial
  | .un c, h => RefOk.mono (e := c) ha hb h
  | .bin _ e f, ⟨h1, h2⟩ => ⟨RefOk.mono ha hb h1, RefOk.mono ha hb h2⟩
  | .ite c e f, ⟨h1, h2, h3⟩ => ⟨RefOk.mono ha hb h1, RefOk.mono ha hb h2, RefOk.mono ha hb h3⟩
  | .timed _ _ c, h => RefOk.mono (e := c) ha hb h
theorem kept_eq {M : Md} {e : Ex} {gs gt : List Ex} (a : Ap e [] gs) (t : Tp e [] gt) (d : Nat) : keptN M d (tl gs) = (gt.map fun x => ((min x.days d : Nat) : Int)).sum := by
  have c : Cl gs := a.cl .nil
  obtain ⟨ts, e1, ht, _⟩ := a.ext
  have e1 : gs = ts := by simpa using e1
  subst e1
  have m : ∀ x, x ∈ tl gs ↔ x ∈ gt := fun x => by
    rw [t.mem]
    constructor
    · intro h
      obtain ⟨h1, h2⟩ := List.mem_filter.mp h
      exact .inr ⟨h2, ht x h1⟩
    · rintro (h | ⟨h1, h2⟩)
      · cases h
      · obtain ⟨j, _, e⟩ := tl_all c a.mem h2 h1
        exact List.mem_of_getElem? e
  have e2 : keptN M d (tl gs) = ((tl gs).map fun x => ((min x.days d : Nat) : Int)).sum := by
    unfold keptN
    refine congrArg List.sum (List.map_congr_left fun x hx => ?_)
    rw [past_len (List.mem_filter.mp hx).2]
  rw [e2]
  exact sum_same _ ((a.nd List.nodup_nil).filter _) (t.nd List.nodup_nil) m
def spLaw (K : PySem.W.Frag) : Sp := fun vs H Q _ => ∃ (a : Addr) (ns : List Int), vs = [.ref a] ∧ SqL K H a (ns.map V.int) ∧ ns.length ≤ 1000 ∧ ∀ H', Q (.bl true) H'
section
variable {P : Program} {w : World} {K : PySem.W.Frag} {mg : Str → Option Value} {base : Heap}
theorem law_ok (T : Tx K mg w) (cdv : Value) (s : Shared) (H : Hp) (vs : List V) (Q : VK) (E : XK) (hr : Room 58 (XL P w K mg base T.law.a cdv s H E).A) (h : spLaw K vs H Q E) :
    ∃ t, PSs (XL P w K mg base T.law.a cdv s H E) (defBody s_law) t ∧ t { nx := fun _ H' => Q .non H', rt := Q } (L2.start n_law vs) H := by
  have Gsm : FnOk P w K mg base CX0 1 T.law_same.a T.law_same.d p_law_same spSame := ok_same T
  have Gnd : FnOk P w K mg base CX0 1 T.Watch.next_day.a T.Watch.next_day.d p_Watch_next_day (spDay T.Watch.C) := ok_W_next_day T
  have Gtk : FnOk P w K mg base CX0 1 T.law_take.a T.law_take.d p_law_take spTake := ok_take T
  have Gdr : FnOk P w K mg base CX0 1 T.law_draws.a T.law_draws.d p_law_draws (spDraws K) := ok_draws T
  have Gnm : FnOk P w K mg base CX0 2 T.law_names.a T.law_names.d p_law_names spNames := ok_names T
  have Gle0 : ∀ A B, FnOk P w K mg base CX0 12 T.law_lets.a T.law_lets.d p_law_lets (spLets A B) := fun A B => ok_lets T A B
  have Gbu0 : ∀ c, FnOk P w K mg base CX0 15 T.law_built.a T.law_built.d p_law_built (spBuilt c 5) := fun c => ok_built T c 5
  have Gle : FnOk P w K mg base CX0 12 T.law_lets.a T.law_lets.d p_law_lets (fun vs H Q E => ∃ A B, spLets A B vs H Q E) :=
    ⟨fun vs H Q E ⟨A, B, h⟩ => (Gle0 A B).len vs H Q E h, fun A outer s H args us vs Q E a b c d ⟨A', B', h⟩ => (Gle0 A' B').run A outer s H args us vs Q E a b c d h⟩
  have Gbu : FnOk P w K mg base CX0 15 T.law_built.a T.law_built.d p_law_built (fun vs H Q E => ∃ c : GC, spBuilt c 5 vs H Q E) :=
    ⟨fun vs H Q E ⟨c, h⟩ => (Gbu0 c).len vs H Q E h, fun A outer s H args us vs Q E a b c d ⟨c', h⟩ => (Gbu0 c').run A outer s H args us vs Q E a b c d h⟩
  have Ghi : FnOk P w K mg base CX0 3 T.law_history.a T.law_history.d p_law_history (spHistory (fun _ => True) fun _ => True) := ok_history T _ _
  have Gne : FnOk P w K mg base CX0 22 T.law_near.a T.law_near.d p_law_near (spNear 20) := ok_near T 20
  have Gin : FnOk P w K mg base CX0 28 T.Watch.init.a T.Watch.init.d p_Watch_init (spWInit T.Watch.C) := ok_W_init T
  have Gtp : FnOk P w K mg base CX0 20 T.law_timed_parts.a T.law_timed_parts.d p_law_timed_parts (spTP 20) := ok_tparts T 20
  have hr1 : Room 1 (XL P w K mg base T.law.a cdv s H E).A := hr.mono (by decide)
  have hr2 : Room 2 (XL P w K mg base T.law.a cdv s H E).A := hr.mono (by decide)
  have hr3 : Room 3 (XL P w K mg base T.law.a cdv s H E).A := hr.mono (by decide)
  have hr12 : Room 12 (XL P w K mg base T.law.a cdv s H E).A := hr.mono (by decide)
  have hr15 : Room 15 (XL P w K mg base T.law.a cdv s H E).A := hr.mono (by decide)
  have hr20 : Room 20 (XL P w K mg base T.law.a cdv s H E).A := hr.mono (by decide)
  have hr22 : Room 22 (XL P w K mg base T.law.a cdv s H E).A := hr.mono (by decide)
  have hr28 : Room 28 (XL P w K mg base T.law.a cdv s H E).A := hr.mono (by decide)
  have hr29 : Room 29 (XL P w K mg base T.law.a cdv s H E).A := hr.mono (by decide)
  obtain ⟨tL, hL, hLoop⟩ := loop_ok T cdv s H E hr
  obtain ⟨scr, zs, rfl, hs, hzl, k⟩ := h
  refine ⟨_, pss_cons (ps_set (i := 1) sc_law.nd rfl (Or.inl rfl) (pe_call Gdr hr1 rfl T.law_draws.g T.law_draws.F.kp T.law_draws.b .nil pass0 (pa_cons (pv 0) pa_nil)))
    (pss_cons (ps_set (i := 2) sc_law.nd rfl (Or.inl rfl) (pe_call Gnm hr2 rfl T.law_names.g T.law_names.F.kp T.law_names.b .nil pass0 (pa_cons (pv 1) (pa_cons pe_int pa_nil))))
    (pss_cons (ps_set (i := 3) sc_law.nd rfl (Or.inl rfl) (pe_call Gle hr12 rfl T.law_lets.g T.law_lets.F.kp T.law_lets.b .nil pass0 (pa_cons (pv 1) (pa_cons (pv 2) pa_nil))))
    (pss_cons (ps_set (i := 4) sc_law.nd rfl (Or.inl rfl) (pe_op op_add pe_int (pe_call Gtk hr1 rfl T.law_take.g T.law_take.F.kp T.law_take.b .nil pass0 (pa_cons (pv 1) (pa_cons pe_int pa_nil)))))
    (pss_cons (ps_set (i := 5) sc_law.nd rfl (Or.inl rfl) (pe_call Ghi hr3 rfl T.law_history.g T.law_history.F.kp T.law_history.b .nil pass0 (pa_cons (pv 1) (pa_cons (pv 2) (pa_cons (pv 4) pa_nil)))))
    (pss_cons (ps_set (i := 6) sc_law.nd rfl (Or.inl rfl) (pe_call Gne hr22 rfl T.law_near.g T.law_near.F.kp T.law_near.b .nil pass0 (pa_cons (pv 1) (pa_cons (pe_call Gbu hr15 rfl T.law_built.g T.law_built.F.kp T.law_built.b .nil pass0 (pa_cons (pv 1) (pa_cons pe_str (pa_cons (pv 2) (pa_cons (pe_ix ix_list (pv 3) pe_int (fun _ _ => rfl)) (pa_cons (pe_op op_add pe_int (pe_call Gtk hr1 rfl T.law_take.g T.law_take.F.kp T.law_take.b .nil pass0 (pa_cons (pv 1) (pa_cons pe_int pa_nil)))) pa_nil)))))) (pa_cons (pv 5) pa_nil)))))
    (pss_cons (ps_for PySem.PassesOwn.never rfl (pi_range1 (by rfl) T.z_range (pa_cons (pe_call Gtk hr1 rfl T.law_take.g T.law_take.F.kp T.law_take.b .nil pass0 (pa_cons (pv 1) (pa_cons pe_int pa_nil))) pa_nil)) (pg_name (i := 7) sc_law.nd rfl (Or.inl rfl))
      (pss_cons (ps_set (i := 6) sc_law.nd rfl (Or.inl rfl) (pe_tup (pa_cons (pe_ix ix_list (pe_lst (pa_cons pe_str (pa_cons pe_str (pa_cons pe_str pa_nil)))) (pe_call Gtk hr1 rfl T.law_take.g T.law_take.F.kp T.law_take.b .nil pass0 (pa_cons (pv 1) (pa_cons pe_int pa_nil))) (fun _ _ => rfl)) (pa_cons (pe_op op_add pe_int (pe_call Gtk hr1 rfl T.law_take.g T.law_take.F.kp T.law_take.b .nil pass0 (pa_cons (pv 1) (pa_cons pe_int pa_nil)))) (pa_cons (pv 6) pa_nil)))))
      (pss_one (ps_if (pt_cmpR op_eq (pe_call Gtk hr1 rfl T.law_take.g T.law_take.F.kp T.law_take.b .nil pass0 (pa_cons (pv 1) (pa_cons pe_int pa_nil))) pe_int (nomark _))
        (pss_one (ps_set (i := 6) sc_law.nd rfl (Or.inl rfl) (pe_tup (pa_cons pe_str (pa_cons (pv 6) (pa_cons (pe_call Gne hr22 rfl T.law_near.g T.law_near.F.kp T.law_near.b .nil pass0 (pa_cons (pv 1) (pa_cons (pe_call Gbu hr15 rfl T.law_built.g T.law_built.F.kp T.law_built.b .nil pass0 (pa_cons (pv 1) (pa_cons pe_str (pa_cons (pv 2) (pa_cons (pe_ix ix_list (pv 3) pe_int (fun _ _ => rfl)) (pa_cons pe_int pa_nil)))))) (pa_cons (pv 5) pa_nil)))) pa_nil)))))) pss_nil))))
    (pss_cons (ps_set (i := 8) sc_law.nd rfl (Or.inl rfl) (pe_make T.Watch.init.m Gin hr29 rfl T.Watch.g T.Watch.init.b .nil pass0 (pa_cons (pv 6) (pa_cons (pe_callTy call_list_of (by rfl) T.z_list (by decide +kernel) (pa_cons (pe_ix ix_list (pv 3) pe_int (fun _ _ => rfl)) pa_nil)) pa_nil))))
    (pss_cons (ps_set (i := 9) sc_law.nd rfl (Or.inl rfl) (pe_make T.Watch.init.m Gin hr29 rfl T.Watch.g T.Watch.init.b .nil pass0 (pa_cons (pe_tup (pa_cons pe_str (pa_cons (pv 6) pa_nil))) (pa_cons (pe_callTy call_list_of (by rfl) T.z_list (by decide +kernel) (pa_cons (pe_ix ix_list (pv 3) pe_int (fun _ _ => rfl)) pa_nil)) pa_nil))))
    (pss_cons (ps_set (i := 10) sc_law.nd rfl (Or.inl rfl) (pe_call Gtp hr20 rfl T.law_timed_parts.g T.law_timed_parts.F.kp T.law_timed_parts.b .nil pass0 (pa_cons (pv 6) (pa_cons (pe_ix ix_list (pv 3) pe_int (fun _ _ => rfl)) (pa_cons (pe_lst pa_nil) pa_nil)))))
    (pss_cons hL (pss_one (ps_ret (pe_call Gsm hr1 rfl T.law_same.g T.law_same.F.kp T.law_same.b .nil pass0 (pa_cons (pe_prop (pv 8) T.Watch.cl T.Watch.next_day.m Gnd hr2 T.Watch.next_day.b .nil pass0 rfl) (pa_cons (pv 4) pa_nil))))))))))))))), ?_⟩
  refine ⟨_, rfl, scr, zs, rfl, hs, hzl, fun dl H1 k1 f1 d1 => ?_⟩
  refine ⟨_, rfl, dl, 7, rfl, by decide, d1, fun na ns H2 k2 d2 f2 hna2 nl2 nok2 _ => ?_⟩
  have nad : na ≠ dl := d1.ne f2
  let A : Str → Prop := fun n => ∃ i : Nat, i < 3 ∧ ns[i]? = some n
  let B : Str → Prop := fun n => ∃ i : Nat, 3 ≤ i ∧ i < 5 ∧ ns[i]? = some n
  refine ⟨_, rfl, _, rfl, A, B, dl, na, rfl, d2, nad, ⟨ns, hna2, nl2, nok2, fun i n h e => ⟨i, h, e⟩, fun i n h1 h2 e => ⟨i, h1, h2, e⟩⟩, fun r0 la kl ls H3 k3 fr0 fla fkl hr03 hl3 ev3 nd3 l23 lok3 => ?_⟩
  have hna3 := k3.keep _ _ hna2 (not1 nad)
  have nrd0 : r0 ≠ dl := d2.ne fr0
  have nlad : la ≠ dl := d2.ne fla
  have d3 := ev3.dr
  refine ⟨_, rfl, dl, 6, rfl, pos_lit (by decide), d3, fun r H4 q0 q1 k4 d4 => ⟨_, _, rfl, rfl, ?_⟩⟩
  obtain ⟨D, hD⟩ : ∃ D : Nat, (1 : Int) + r = D := ⟨(1 + r).toNat, by omega⟩
  show gName 4 (V.int ((1 : Int) + r)) _ _ _
  rw [hD]
  have D1 : 1 ≤ D := by omega
  have D10 : D ≤ 10 := by omega
  have hna4 := k4.keep _ _ hna3 (not1 nad)
  refine ⟨_, rfl, _, rfl, _, rfl, dl, na, D, ns, rfl, D1, D10, d4, nad, hna4, nl2, nok2, fun h0 fd rd kf kr H5 k5 d5 fh ffd frd nfr hh5 hf5 hr5 hkf hkr => ?_⟩
  obtain ⟨fct, F5⟩ := hf5.fx
  obtain ⟨rat, R5⟩ := hr5.fx
  have nhd : h0 ≠ dl := d4.ne fh
  have hna5 := k5.keep _ _ hna4 (not1 nad)
  have hr05 := k5.keep _ _ (k4.keep _ _ hr03 (not1 nrd0)) (not1 nrd0)
  have hl5 := (hl3.kp k4 (not1 nlad)).kp k5 (not1 nlad)
  have ev5 := (ev3.kp k4 d4).kp k5 d5
  -- the truth
  refine ⟨_, rfl, _, rfl, _, rfl, _, rfl, r0, _, _, _, rfl, rfl, SqL.of hr05, at1, _, rfl, dl, 4, rfl, pos_lit (by decide), d5, fun r2 H6 q20 q21 k6 d6 => ⟨_, _, rfl, rfl, ?_⟩⟩
  obtain ⟨dp, hdp⟩ : ∃ d : Nat, (1 : Int) + r2 = d := ⟨(1 + r2).toNat, by omega⟩
  have ev6 := ev5.kp k6 d6
  refine ⟨gc A B ls 2, dl, na, kl, "truth", dp, true, args5 hdp, .inl ⟨rfl, rfl⟩, by omega, ev6, fun a1 e1 H7 k7 ev7 hat7 gd7 => ?_⟩
  have t7 := TI.of gd7 (by omega)
  refine ⟨_, rfl, dl, a1, _, e1, rfl, hat7, by have := t7.dp; omega, ev7.dr, fun a2 e2 H8 k8 d8 hat8 nr8 => ?_⟩
  have t8 := TI.of (gd7.near nr8) (by omega)
  have k58 := (k6.trans k7).trans k8
  have ev8 := ev7.kp k8 d8
  have hna8 := k58.keep _ _ hna5 (not1 nad)
  have hr08 := k58.keep _ _ hr05 (not1 nrd0)
  have hh8 := k58.keep _ _ hh5 (not1 nhd)
  have hl8 := hl5.kp k58 (not1 nlad)
  have F8 := F5.kpd k58 d5 D1
  have R8 := R5.kpd k58 d5 D1
  -- wrapped
  refine ⟨_, rfl, dl, 3, rfl, pos_lit (by decide), d8, fun r3 H9 q30 q31 k9 d9 => ⟨r3, rfl, by omega, by omega, ?_⟩⟩
  refine for_range (Pv := fun i σ H' => ∃ (y7 : Option V) (a : Addr) (e : Ex), σ = [some (.ref scr), some (.ref dl), some (.ref na), some (.ref r0), some (.int D), some (.ref h0), some (.ref a), y7, none, none, none, none, none, none, none, none, none] ∧ Kp [dl] H8 H' ∧ Dr H' dl ∧ At H' e a ∧ TI (gc A B ls 2) i e)
    ⟨_, a2, e2, rfl, k9, d9, hat8.kp k9, t8⟩ ?_ ?_
  · rintro i σ H10 hi ⟨y7, a, e, rfl, k10, d10, hat10, t10⟩
    refine ⟨by show 3 ≤ sizeLine; decide, fun p hp => ⟨_, rfl, dl, 3, rfl, pos_lit (by decide), d10.new hp, fun q H11 qa qb k11 d11 => ?_⟩⟩
    obtain ⟨o, ho⟩ := tw3 qa qb
    refine ⟨p, _, _, _, rfl, rfl, SqL.of (k11.keep _ _ upd_same (not1 (d10.ne hp))), ho, ?_⟩
    refine ⟨_, rfl, dl, 3, rfl, pos_lit (by decide), d11, fun rr H12 ra rb k12 d12 => ⟨_, _, rfl, rfl, _, rfl, by show 3 ≤ sizeLine; decide, fun t ht => ?_⟩⟩
    obtain ⟨kk, hkk⟩ : ∃ n : Nat, (1 : Int) + rr = n := ⟨(1 + rr).toNat, by omega⟩
    have e13 : (upd H12 t (.tup [.str o.s, .int ((1 : Int) + rr), .ref a])) t = some (.tup [.str o.s, .int kk, .ref a]) := by rw [upd_same, hkk]
    have k13 : Kp [dl] H12 (upd H12 t (.tup [.str o.s, .int ((1 : Int) + rr), .ref a])) := .new ht
    have d13 : Dr (upd H12 t (.tup [.str o.s, .int ((1 : Int) + rr), .ref a])) dl := d12.new ht
    show gName 6 (V.ref t) _ (upd H12 t (.tup [.str o.s, .int ((1 : Int) + rr), .ref a])) _
    have kp0 : Kp [dl] H10 (upd H10 p (.lst [V.str "ever", V.str "always", V.str "before"])) := .new hp
    have kA : Kp [dl] H10 (upd H12 t (.tup [.str o.s, .int ((1 : Int) + rr), .ref a])) := ((kp0.trans k11).trans k12).trans k13
    generalize upd H12 t (.tup [.str o.s, .int ((1 : Int) + rr), .ref a]) = H13 at *
    have hatA : At H13 (.timed o kk e) t := ⟨a, e13, hat10.kp kA⟩
    refine ⟨_, rfl, dl, 2, rfl, pos_lit (by decide), d13, fun r5 H14 ra5 rb5 k14 d14 => ⟨rfl, _, rfl, ?_⟩⟩
    have k8e := (k10.trans kA).trans k14
    by_cases h5 : r5 = 0
    · refine ifT (decide_eq_true (by rw [h5])) ?_
      refine ⟨_, rfl, _, rfl, _, rfl, _, rfl, _, rfl, r0, _, _, _, rfl, rfl, SqL.of (k8e.keep _ _ hr08 (not1 nrd0)), at1, gc A B ls 2, dl, na, kl, "truth", 2, true, rfl, .inl ⟨rfl, rfl⟩, by omega, ev8.kp k8e d14, fun a3 e3 H15 k15 ev15 hat15 gd15 => ?_⟩
      refine ⟨_, rfl, dl, a3, _, e3, rfl, hat15, by (have := gd15.dp; have b3 : (gc A B ls 2).p0 = 6 := rfl; omega), ev15.dr, fun a4 e4 H16 k16 d16 hat16 nr16 => ⟨by show 3 ≤ sizeLine; decide, fun u hu => ?_⟩⟩
      have k17 : Kp [dl] H16 (upd H16 u (.tup [.str "or", .ref t, .ref a4])) := .new hu
      have kB := (k15.trans k16).trans k17
      exact ⟨_, u, .bin .or (.timed o kk e) e4, rfl, k8e.trans kB, d16.new hu, ⟨t, a4, upd_same, hatA.kp (k14.trans kB), hat16.kp k17⟩, t10.both o (by omega) (by omega) (gd15.near nr16)⟩
    · refine ifF (decide_eq_false fun z => h5 (by injection z)) ?_
      exact ⟨_, t, .timed o kk e, rfl, k8e, d14, hatA.kp k14, t10.timed o (by omega) (by omega)⟩
  · rintro σ H10 ⟨y7, a, e, rfl, k10, d10, hat10, t10⟩
    have hi2 : r3.toNat ≤ 2 := by omega
    have b10 := t10.bits
    have z10 := t10.sz
    have p10 := t10.dp
    have hr010 := k10.keep _ _ hr08 (not1 nrd0)
    have hh10 := k10.keep _ _ hh8 (not1 nhd)
    have hna10 := k10.keep _ _ hna8 (not1 nad)
    have hl10 := hl8.kp k10 (not1 nlad)
    have F10 := F8.kpd k10 d8 D1
    have R10 := R8.kpd k10 d8 D1
    obtain ⟨pls, hla, hpls⟩ := id hl10
    -- the first watch
    refine ⟨_, rfl, _, rfl, r0, _, _, _, rfl, rfl, SqL.of hr010, at0, la, _, rfl, .inl (SqL.of hla), fun l hl => fun x dx fx fdx ne => ?_⟩
    have kl1 : Kp [] H10 (upd H10 l (.lst (pls.map V.ref))) := .new hl
    have hl1 : (upd H10 l (.lst (pls.map V.ref))) l = some (.lst (pls.map V.ref)) := upd_same
    generalize upd H10 l (.lst (pls.map V.ref)) = Hl at *
    have hll : LetsL Hl l ls := ⟨pls, hl1, paired_imp (fun p nb ⟨a, h3, h4⟩ => ⟨a, kl1.tup _ _ h3, h4.kp kl1⟩) hpls⟩
    have kx : Kp [] Hl (upd (upd Hl dx (.own x)) x (.ins T.Watch.C dx [])) := Kp.trans (.new fdx) (.new (by rw [upd_ne (Ne.symm ne)]; exact fx))
    refine ⟨x, a, l, dx, e, ls, rfl, upd_same, hat10.kp (kl1.trans kx), t10.con, by omega, by omega, ne_of_none hl1 fx, hll.kp kx (by simp), nd3, fun gs H11 k11 ap wa => ⟨rfl, ?_⟩⟩
    have kA := kl1.trans (Kp.later (p := x) kx k11 fx)
    -- the second
    refine ⟨_, rfl, size2, fun t ht => ⟨_, rfl, r0, _, _, _, rfl, rfl, SqL.of ((kA.trans (.new ht)).to _ _ hr010), at0, la, _, rfl, .inl (SqL.of ((kA.trans (.new ht)).to _ _ hla)), fun l2 hl2 => fun x2 dx2 fx2 fdx2 ne2 => ?_⟩⟩
    have kt : Kp [] H11 (upd H11 t (.tup [.str "not", .ref a])) := .new ht
    have ht1 : (upd H11 t (.tup [.str "not", .ref a])) t = some (.tup [.str "not", .ref a]) := upd_same
    have ht1 : (upd H11 t (.tup [.str "not", .ref a])) t = some (.tup [.str "not", .ref a]) := upd_same
    generalize upd H11 t (.tup [.str "not", .ref a]) = Ht at *
    have kAt := kA.trans kt
    have kl2 : Kp [] Ht (upd Ht l2 (.lst (pls.map V.ref))) := .new hl2
    have hl21 : (upd Ht l2 (.lst (pls.map V.ref))) l2 = some (.lst (pls.map V.ref)) := upd_same
    generalize upd Ht l2 (.lst (pls.map V.ref)) = Hm at *
    have kAm := kAt.trans kl2
    have hlm : LetsL Hm l2 ls := ⟨pls, hl21, paired_imp (fun p nb ⟨a, h3, h4⟩ => ⟨a, kAm.tup _ _ h3, h4.kp kAm⟩) hpls⟩
    have kx2 : Kp [] Hm (upd (upd Hm dx2 (.own x2)) x2 (.ins T.Watch.C dx2 [])) := Kp.trans (.new fdx2) (.new (by rw [upd_ne (Ne.symm ne2)]; exact fx2))
    have hatm : At Hm (.un e) t := ⟨a, kl2.tup _ _ ht1, hat10.kp kAm⟩
    refine ⟨x2, t, l2, dx2, .un e, ls, rfl, upd_same, hatm.kp kx2, t10.con, by show dep e + 1 < 25; omega, by show (subs e).length + 1 ≤ 1000000; omega, ne_of_none hl21 fx2, hlm.kp kx2 (by simp), nd3, fun gs2 H12 k12 ap2 wa2 => ⟨rfl, ?_⟩⟩
    have kB := (kt.trans kl2).trans (Kp.later (p := x2) kx2 k12 fx2)
    have kAB := kA.trans kB
    have nxx : x ≠ x2 := by
      obtain ⟨dxa, fsa, e1, _⟩ := (wa ⟨fun _ _ => (0, 1), fun _ _ => (0, 1)⟩).at_
      exact ne_of_none ((kt.trans kl2).to _ _ e1) fx2
    -- the timed ones
    refine ⟨_, rfl, _, rfl, r0, _, _, _, rfl, rfl, SqL.of (kAB.to _ _ hr010), at0, Nat.zero_le _, fun fa hfa => ?_⟩
    have kf0 : Kp [] H12 (upd H12 fa (.lst [])) := .new hfa
    refine ⟨a, la, fa, e, ls, [], rfl, hat10.kp (kAB.trans kf0), t10.con, by omega, by omega, hl10.kp (kAB.trans kf0) (by simp), nd3, by omega, ⟨[], upd_same, .nil⟩, by simp, by simp; omega, fun ta gt H13 k13 pt tp => ?_⟩
    have kC := kf0.trans k13
    have kAC := kAB.trans kC
    let g : HistIn := ⟨ls, fct, rat, D, fun n fs h f hf => ((F10.fn n fs h).2.2 f hf).sz, fun n fs h f hf => ((R10.fn n fs h).2.2 f hf).sz, by omega, D10, nd3⟩
    let c : LC := ⟨dl, na, r0, la, kl, h0, fd, rd, a, x, x2, ta, g, ns, kf, kr, e, tl gs, tl gs2, gt⟩
    have wfe : Wf (lk ls) e true := ⟨t10.wt, t10.con, by omega, by omega⟩
    have wfn : Wf (lk ls) (.un e) true := ⟨⟨rfl, t10.wt⟩, t10.con, by show bw e ≤ 8990; omega, by show dep e + 1 ≤ 60; omega⟩
    have okA : ∀ n, A n → ∃ fs, fct n = some fs ∧ fs.length = D := fun n ⟨i, hi, hn⟩ => by
      obtain ⟨v, hv⟩ := val_of (hkf i n hi hn)
      have q := F10.is n
      rw [hv] at q
      cases z : fct n with
      | none => rw [z] at q; cases q
      | some fs => exact ⟨fs, rfl, (F10.fn n fs z).2.1⟩
    have okB : ∀ n, B n → ∃ fs, rat n = some fs ∧ fs.length = D := fun n ⟨i, hi, hi2, hn⟩ => by
      obtain ⟨v, hv⟩ := val_of (hkr i n hi hi2 hn)
      have q := R10.is n
      rw [hv] at q
      cases z : rat n with
      | none => rw [z] at q; cases q
      | some fs => exact ⟨fs, rfl, (R10.fn n fs z).2.1⟩
    have oke : g.ok e := RefOk.mono okA okB t10.ref
    have lsc : LS c := ⟨nl2, nad, hkf, hkr, sx_of wfe oke (show dep e < 25 by omega) (show (subs e).length ≤ 1000000 by omega) ap, sx_of wfn oke (by show dep e + 1 < 25; omega) (by show (subs e).length + 1 ≤ 1000000; omega) ap2, D1, nxx, fun d => kept_eq ap tp d, fun y hy => by
      rcases (tp.mem y).mp hy with z | z
      · cases z
      · exact z.1, by have := tp.len; simp at this; show gt.length ≤ 1000000; omega⟩
    have lic : LI K T c 0 0 H13 := ⟨d10.kp kAC (by simp), kAC.to _ _ hna10, kAC.to _ _ hr010, hl10.kp kAC (by simp), kAC.to _ _ hh10, F10.kp0 kAC D1, R10.kp0 kAC D1, hat10.kp kAC, (wa _).kp0 (kB.trans kC), (wa2 _).kp0 kC, pt⟩
    refine hLoop c scr _ y7 none none none none none none H13 lsc lic fun H14 z11 z12 z13 z14 z15 z16 h14 => ?_
    obtain ⟨dxe, fse, e14, n14, _⟩ := h14.w1.at_
    exact ⟨_, rfl, x, dxe, fse, rfl, e14, x, dxe, fse, _, rfl, e14, n14, _, rfl, .inl ⟨_, _, rfl, by rw [decide_eq_true rfl]; exact k H14⟩⟩
end
end KW
set_option maxRecDepth 100000
set_option maxHeartbeats 4000000
/-! the law's def, called by the claim's caller alone -/
namespace KY
open PySem PySem.Spec PyProof.Rows L2
/-- what a def promises where the claim's caller calls it -/
def FnC (P : Program) (w : World) (K : PySem.W.Frag) (mg : Str → Option Value) (base : Heap) (f : Addr) (fd : FuncData) (ps : List Str) (sp : Sp) : Prop :=
  ∀ (s : Shared) (H : Hp) (args : Args) (us : List Value) (vs : List V) (Q : VK), Env0 P w K mg base callerA [] s H → BindsTo s fd args (ps.zip us) → Vals vs us → sp vs H Q E0 → codeAny (model P w) callerA (.call (.ref f) args) (CR CX0 [] P w H s Q E0) s
theorem fn_c {P : Program} {w : World} {K : PySem.W.Frag} {mg : Str → Option Value} {base : Heap} {k : Nat} {f : Addr} {x qual : Str} {st : Stmt} {fd : FuncData} {N ps : List Str} {sp : Sp} (F : Fun K x qual st f fd) (S : FnScope N ps (defScope st)) (hr : Room (k + 1) callerA)
    (len : ∀ vs H Q E, sp vs H Q E → vs.length = ps.length)
    (hb : ∀ (cdv : Value) (s : Shared) (H : Hp) (vs : List V) (Q : VK), Room k (cxOf CX0 P w K mg base N qual (defScope st) f cdv callerA [] s H E0).nox.A → sp vs H Q E0 →
      ∃ t, PSs (cxOf CX0 P w K mg base N qual (defScope st) f cdv callerA [] s H E0).nox (defBody st) t ∧ t { nx := fun _ H' => Q .non H', rt := Q } (start N vs) H) : FnC P w K mg base f fd ps sp := by
  obtain ⟨_, _, _, _, _, _, cdv, _, _, rfl, lk, hc⟩ := F.ex
  intro s H args us vs Q e0 bd r q
  have grow : ∀ b o, base.get? b = some o → s.heap.get? b = some o := fun b o e => (e0.bs b o e).1
  refine codeAny_call_function hr.depth (e0.mod.kin.keeps grow _ _ lk) rfl S.co S.gen rfl (PySem.W.codeRec_of (e0.mod.kin.keeps grow) hc) (bd _ _ _ _ (wpAny_newFunctionEnv_cells S.kind (fun ⟨n, v⟩ hy => (S.par n (List.of_mem_zip hy).1).imp id fun z => ⟨z, PySem.W.cellsFrom_some _ _ _ (.inl z)⟩) fun env he s1 x => ?_))
  subst he
  obtain ⟨t, ht, hq⟩ := hb cdv s H vs Q (hr.deeper _) q
  refine ⟨(e0.mod.nolimit.keeps grow).keeps x.toInCall.keep, codeAny_func (wpAny_mono (ht.nox.run [] s1 (start N vs) H _ (inv_start S hr.hd e0 (len _ _ _ _ q) r x) hq) (fun fl s' hs => ?_) fun _ _ z => z)⟩
  cases fl with
  | ret u => obtain ⟨v, _, H', J, rv, q⟩ := hs; exact ⟨v, H', J.os, J.bare, J.base, J.hok, rv, q⟩
  | next => obtain ⟨_, H', J, q⟩ := hs; exact ⟨.non, H', J.os, J.bare, J.base, J.hok, rfl, q⟩
  | brk => obtain ⟨_, _, _, z⟩ := hs; exact z.elim
  | cont => obtain ⟨_, _, _, z⟩ := hs; exact z.elim
end KY
namespace KW
open PySem L2
section
variable {P : Program} {w : World} {K : PySem.W.Frag} {mg : Str → Option Value} {base : Heap}
theorem law_c (T : Tx K mg w) : KY.FnC P w K mg base T.law.a T.law.d p_law (spLaw K) := by
  refine KY.fn_c (k := 58) T.law.F sc_law ⟨rfl, by decide, by decide⟩ (fun vs H Q E h => ?_) fun cdv s H vs Q hr h => law_ok T cdv s H vs Q _ hr h
  obtain ⟨a, ns, rfl, _⟩ := h
  rfl
end
end KW
set_option maxRecDepth 100000
set_option maxHeartbeats 4000000
/-! from the law's promise to the goal that the head leaves -/
namespace KY
open PySem PySem.Spec PyProof.Rows L2
/-- the law's def, called on a script that lies in the heap -/
theorem call_c {P : Program} {w : World} {K : PySem.W.Frag} {mg mb : Str → Option Value} {fa a : Addr} {fd : FuncData} {x : Str} {sp : Sp} {s1 : Shared} {vs : List Value} {ns : List Int}
    (KX : K.In s1.heap) (hns : s1.heap.Ns mainGlobals mg) (hb : s1.heap.Ns builtinsNs mb) (hbb : ∀ x : Str, x ≠ "__name__" → mb x = bootBuiltins x) (hlim : s1.heap.NoLimit) (hg : s1.gens = #[])
    (ha : s1.heap.get? a = some { cls := .type "list", data := .seq vs.toArray }) (hi : IntsAre vs ns) (hl : ns.length ≤ sizeLine)
    (F : ∀ base : Heap, K.In base → base.Ns mainGlobals mg → FnC P w K mg base fa fd [x] sp) (bd : ∀ (s : Shared) (u : Value), BindsTo s fd ⟨[u], []⟩ [(x, u)])
    (hsp : ∀ H : Hp, SqL K H a (ns.map V.int) → sp [.ref a] H (fun v _ => v = .bl true) E0) :
    codeAny (model P w) callerA (.call (.ref fa) ⟨[.ref a], []⟩) (fun r s' => r = .ok (.ret (.bool true)) ∧ OldK s1.heap s'.heap ∧ s'.os = s1.os ∧ AllBare s'.gens) s1 := by
  -- at an abstract heap that tracks the script at most
  have core : ∀ H : Hp, (∀ b, H b = none ∨ ∃ o xs, H b = some (.frz o (.lst xs))) → SqL K H a (ns.map V.int) → HOk P w H s1.heap → (∀ b, H b ≠ none → b = a ∧ K.lookup a = none) →
      codeAny (model P w) callerA (.call (.ref fa) ⟨[.ref a], []⟩) (fun r s' => r = .ok (.ret (.bool true)) ∧ OldK s1.heap s'.heap ∧ s'.os = s1.os ∧ AllBare s'.gens) s1 := by
    intro H hO hS hok hA
    have noA : ∀ {b : Addr} {o : Obj}, s1.heap.get? b = some o → (b = a → K.lookup a = none → False) → (hidT s1.heap H).get? b = some o := fun {b o} e n => hidT_get e (Classical.byContradiction fun z => n (hA b z).1 (hA b z).2)
    have nsK : ∀ {b : Addr} {m : Str → Option Value}, s1.heap.Ns b m → (hidT s1.heap H).Ns b m := fun {b m} ⟨o, es, ep, e, d, r⟩ => ⟨o, es, ep, noA e (fun z _ => by
      rw [z, ha] at e
      cases e
      exact nomatch d), d, r⟩
    have hKb : K.In (hidT s1.heap H) := fun b o e => noA (KX b o e) fun z n => by rw [z, n] at e; cases e
    have hM : Mod K mg (hidT s1.heap H) := ⟨hKb, nsK hns, ⟨mb, nsK hb, hbb⟩, by obtain ⟨mc, h1, h2⟩ := hlim; exact ⟨mc, nsK h1, h2⟩⟩
    refine codeAny_mono (F _ hKb (nsK hns) s1 H ⟨[.ref a], []⟩ [.ref a] [.ref a] _ ⟨rfl, hM, fun b o e => of_hidT e, Nat.le_of_eq (hidT_size _ _), trivial, fun b hb => (nomatch (show b ∈ ([] : List Addr) from hb)), hok, .of_eq hg⟩ (bd s1 (.ref a)) (.cons rfl .nil) (hsp H hS)) fun r s' h => ?_
    match r, h with
    | .error _, h => exact False.elim h
    | .ok .next, h => exact False.elim h
    | .ok .brk, h => exact False.elim h
    | .ok .cont, h => exact False.elim h
    | .ok (.ret u), ⟨v, H', os, bare, un, hok', rv, q⟩ =>
      obtain rfl : v = V.bl true := q
      obtain rfl : u = Value.bool true := rv
      refine ⟨rfl, OldK.of_keep fun b o e => ?_, os, bare⟩
      rcases hO b with z | ⟨ob, xs, z⟩
      · exact un.keep b o e z (by intro y; exact nomatch (show b ∈ ([] : List Addr) from y)) (by simp)
      · obtain ⟨g1, _⟩ := hok b _ z
        obtain ⟨g2, _⟩ := hok' b _ (un.frzs b ob _ z)
        rw [e] at g1
        cases g1
        exact g2
  have rv := vals_ints hi
  cases hk : K.lookup a with
  | some o =>
    have e := KX a o hk
    rw [ha] at e
    cases e
    exact core (fun _ => none) (fun _ => .inl rfl) (.inr ⟨_, vs.toArray, _, hk, rfl, rfl, rfl, by rw [List.size_toArray, hi.length]; exact hl, by simpa using rv⟩) (fun b u z => by cases (show (none : Option HO) = some u from z)) fun b z => absurd rfl z
  | none =>
    have at_ : ∀ b u, (if b = a then some (HO.frz { cls := .type "list", data := .seq vs.toArray } (.lst (ns.map V.int))) else none) = some u → b = a ∧ u = HO.frz { cls := .type "list", data := .seq vs.toArray } (.lst (ns.map V.int)) := fun b u z => by
      split at z
      · rename_i h; exact ⟨h, (Option.some.inj z).symm⟩
      · cases z
    refine core (fun b => if b = a then some (.frz { cls := .type "list", data := .seq vs.toArray } (.lst (ns.map V.int))) else none) (fun b => ?_) (.inl (.inr ⟨{ cls := .type "list", data := .seq vs.toArray }, if_pos rfl⟩)) (fun b u z => ?_) fun b z => ⟨Classical.byContradiction fun h => z (if_neg h), hk⟩
    · by_cases h : b = a
      · exact .inr ⟨_, _, if_pos h⟩
      · exact .inl (if_neg h)
    · obtain ⟨rfl, rfl⟩ := at_ b u z
      exact ⟨ha, by rw [List.length_map]; exact hl, vs, _, rv, ha⟩
theorem walk_c {l : PySem.W.OpenLaw} {n : Nat} {q : Program} {loose : List Str} {XP : (Str → Option Value) → Heap → Prop} {YP : World → Heap → Prop} {d : DefRec} {K : Params → PySem.W.Frag} {sp : PySem.W.Frag → Sp} {x : Str}
    (hn : l.most = some n) (hn2 : n ≤ sizeLine) (hdf : d.params.defaults = []) (hY : ∀ (w : World) (h : Heap), YP w h → (K w.params).In h)
    (F : ∀ (w : World) (mg : Str → Option Value) (fa : Addr) (h : Heap), (K w.params).In h → h.Ns mainGlobals mg → mg d.name = some (.ref fa) →
      ∃ fd : FuncData, (∀ (s : Shared) (u : Value), BindsTo s fd ⟨[u], []⟩ [(x, u)]) ∧ ∀ base : Heap, (K w.params).In base → base.Ns mainGlobals mg → FnC l.prog w (K w.params) mg base fa fd [x] (sp (K w.params)))
    (hsp : ∀ (K : PySem.W.Frag) (H : Hp) (a : Addr) (ns : List Int), ns.length ≤ n → SqL K H a (ns.map V.int) → sp K [.ref a] H (fun v _ => v = .bl true) E0) :
    PySem.W.WalkO q loose XP YP l.row.toRowW d [] (fun f vs => PySem.call f vs) := by
  refine Att.attach_call hn hdf fun w s0 s1 mg mb fa o pm cd doc a vs ns G Y ho hd hcd hmg hobj hints hlen hg => ?_
  obtain ⟨fd, hb, hF⟩ := F w mg fa _ (hY w _ Y) G.T.g hmg
  exact call_c (hY w _ Y) G.T.g G.T.b G.T.builtins G.T.nolimit hg hobj hints (Nat.le_trans hlen hn2) hF hb fun H hS => hsp _ H a ns hlen hS
end KY
set_option maxRecDepth 100000
set_option maxHeartbeats 4000000
/-! what the text has written: makers of the parts of Tx -/
namespace KW
open PySem L2 PyProof.Rows
section
variable {K : PySem.W.Frag} {h : Heap} {mg : Str → Option Value} {P : Params} {w : World} {x qual : Str} {st : Stmt} {ps : List Str} {f C p T1 : Addr} {oc kV doc pm cdv ct : Value} {od an : Option Addr} {sl : Array (Option Value)}
/-- how bindArgs takes as many as there are -/
abbrev BindH (x qual : Str) (st : Stmt) (ps : List Str) : Prop := ∀ (kV doc pm : Value) (an : Option Addr) (cdv ct : Value) (us : List Value), us.length = ps.length → bindArgs (PySem.W.fnOf x qual (defArgs st) (defBody st) (defScope st) .none kV doc pm an cdv ct) ⟨us, []⟩ = pure (ps.zip us)
def md0 (X : K.In h) (G : h.Ns mainGlobals mg) (hb : BindH x x st ps) (a : PySem.W.nsIn K mainGlobals x = some (some (.ref f)))
    (l : K.lookup f = some ⟨oc, od, .func (PySem.W.fnOf x x (defArgs st) (defBody st) (defScope st) .none kV doc pm an cdv ct), sl⟩) (c : PySem.W.codeIn K cdv x = true) (k : PySem.W.keepIn K (.ref f) = true) : Md0 K mg x st ps :=
  ⟨f, _, fun_mk l c k, PySem.W.mg_of X G a, (fun_mk (st := st) l c k).binds hb⟩
def md1 {i : Int} {to : Value} {td : Option Addr} {tn : Nat} {tsl : Array (Option Value)} {tk : Tok} (X : K.In h) (G : h.Ns mainGlobals mg)
    (hb : ∀ (T : Addr) (kV doc pm : Value) (an : Option Addr) (cdv ct : Value) (us its : List Value), us.length = ps.length → its.length = 1 → ∃ k, bindArgs (PySem.W.fnOf x x (defArgs st) (defBody st) (defScope st) (.ref T) kV doc pm an cdv ct) ⟨us, []⟩ = seqItems? (.ref T) >>= k ∧ k (some its.toArray) = pure (ps.zip (us ++ its.drop 1)))
    (a : PySem.W.nsIn K mainGlobals x = some (some (.ref f))) (l : K.lookup f = some ⟨oc, od, .func (PySem.W.fnOf x x (defArgs st) (defBody st) (defScope st) (.ref T1) kV doc pm an cdv ct), sl⟩) (lt : K.lookup T1 = some ⟨to, td, .seq #[.int i tk] tn, tsl⟩)
    (c : PySem.W.codeIn K cdv x = true) (k : PySem.W.keepIn K (.ref f) = true) : Md1 K mg x st ps i := by
  have F : FunD K x x (defArgs st) (defBody st) (defScope st) [.int i] [] f (PySem.W.fnOf x x (defArgs st) (defBody st) (defScope st) (.ref T1) kV doc pm an cdv ct) :=
    ⟨⟨oc, od, .ref T1, kV, doc, pm, an, cdv, ct, sl, rfl, l, c, .inr ⟨by simp, T1, _, [.int i tk], tn, rfl, lt, rfl, .cons ⟨tk, rfl⟩ .nil⟩, .inl rfl⟩, k⟩
  refine ⟨f, _, F, PySem.W.mg_of X G a, ?_⟩
  obtain ⟨ds, h1, h2⟩ := F.binds1 (ps := ps) ps.length 1 (by simp) (by simp) hb
  cases h1
  exact h2
def mt0 (hb : BindH x qual st ps) (a : PySem.W.findIn K (.ref C) x = some (some (.ref f))) (i : PySem.W.isFn K (.ref f) = true)
    (l : K.lookup f = some ⟨oc, od, .func (PySem.W.fnOf x qual (defArgs st) (defBody st) (defScope st) .none kV doc pm an cdv ct), sl⟩) (c : PySem.W.codeIn K cdv qual = true) (k : PySem.W.keepIn K (.ref f) = true) : Mt0 K C x qual st ps :=
  ⟨f, _, fun_mk l c k, (fun_mk (st := st) l c k).binds hb, ⟨a, i, k⟩⟩
def mti (hb : BindH "__init__" qual st ps) (a : PySem.W.findIn K (.ref C) "__init__" = some (some (.ref f))) (i : PySem.W.isFn K (.ref f) = true)
    (l : K.lookup f = some ⟨oc, od, .func (PySem.W.fnOf "__init__" qual (defArgs st) (defBody st) (defScope st) .none kV doc pm an cdv ct), sl⟩) (c : PySem.W.codeIn K cdv qual = true) (k : PySem.W.keepIn K (.ref f) = true) (m : PySem.W.makesIn K C = true) (kc : PySem.W.keepIn K (.ref C) = true) : Mti K C qual st ps :=
  ⟨f, _, fun_mk l c k, (fun_mk (st := st) l c k).binds hb, ⟨m, a, i, kc⟩⟩
def mtp {rest : List Value} (hb : BindH x qual st ps) (a : PySem.W.findIn K (.ref C) x = some (some (.ref p))) (g : PySem.W.specialIn K (.ref p) "__get__" = some (some (.builtin "property.__get__"))) (t : PySem.W.takesIn K (.ref p) = some true) (r : PySem.W.recIn K p "property" = some (.ref f :: rest))
    (l : K.lookup f = some ⟨oc, od, .func (PySem.W.fnOf x qual (defArgs st) (defBody st) (defScope st) .none kV doc pm an cdv ct), sl⟩) (c : PySem.W.codeIn K cdv qual = true) (k : PySem.W.keepIn K (.ref f) = true) : Mtp K C x qual st ps :=
  ⟨f, p, _, fun_mk l c k, (fun_mk (st := st) l c k).binds hb, ⟨a, g, t, ⟨rest, r⟩⟩⟩
theorem exm_is {A B : Addr} {b : Bool} (h1 : PySem.W.subIn K (.ref B) (.type "BaseException") = some true) (h2 : PySem.W.isClsIn K B = true) (h3 : PySem.W.typeIn K (.ref B) = some (.type "type")) (h4 : PySem.W.subIn K (.ref A) (.ref B) = some b) : PySem.W.exmOne K (.ref A) (.ref B) = some b := by
  have h2 : (PySem.W.clsIn K B).isSome = true := h2
  simp [PySem.W.exmOne, PySem.W.kitCls, h1, h2, h3, h4]
def xc {nm q : Str} {N : Addr} {bs bm sub : List Value} {sn : List Str} {ab : Bool} {col : Option Bool} {dd : Option Addr} {m0 m1 m2 m3 m5 : Option Value} (X : K.In h) (G : h.Ns mainGlobals mg) (hb : BindH "__init__" qual st ps)
    (a : PySem.W.nsIn K mainGlobals x = some (some (.ref C))) (xl : K.lookup C = some (excClassObj nm q C N bs bm true sn sub ab col dd m0 m1 m2 m3 m5 "ValueError.__new__")) (mro : PySem.HandSPX.refsVE bm = true)
    (sa : PySem.W.findIn K (.ref C) "__setattr__" = some (some (.builtin "object.__setattr__"))) (ex : PySem.W.subIn K (.ref C) (.type "BaseException") = some true) (ty : PySem.W.typeIn K (.ref C) = some (.type "type")) (kc : PySem.W.keepIn K (.ref C) = true)
    (n1 : PySem.W.findIn K (.ref C) "name" = some none) (n2 : PySem.W.findIn K (.ref C) "day" = some none) (ga : PySem.W.findIn K (.ref C) "__getattribute__" = some (some (.builtin "BaseException.__getattribute__"))) (gg : PySem.W.findIn K (.ref C) "__getattr__" = some none) (hd : PySem.W.hasDictIn K C = true)
    (ic : PySem.W.isClsIn K C = true) (sc : PySem.W.subIn K (.ref C) (.ref C) = some true)
    (i : PySem.W.findIn K (.ref C) "__init__" = some (some (.ref f))) (t : PySem.W.typeIn K (.ref f) = some (.type "function"))
    (l : K.lookup f = some ⟨oc, od, .func (PySem.W.fnOf "__init__" qual (defArgs st) (defBody st) (defScope st) .none kV doc pm an cdv ct), sl⟩) (c : PySem.W.codeIn K cdv qual = true) (k : PySem.W.keepIn K (.ref f) = true) : Xc K mg x qual st ps :=
  ⟨C, PySem.W.mg_of X G a, ⟨⟨nm, q, N, bs, bm, sn, sub, ab, col, dd, m0, m1, m2, m3, m5, xl, mro⟩, sa, ex, ty, kc⟩, n1, n2, ga, gg, hd, exm_is ex ic ty sc, f, _, fun_mk l c k, (fun_mk (st := st) l c k).binds hb, i, t⟩
/-- a tuple of ints of the text -/
theorem ktup_of {a : Addr} {o : Option Addr} {n : Nat} {s : Array (Option Value)} {its : List Value} {xs : List V} (l : K.lookup a = some ⟨.type "tuple", o, .seq its.toArray n, s⟩) (hz : its.length ≤ 10) (r : Vals xs its) : KTup K a xs :=
  ⟨_, its.toArray, n, l, rfl, rfl, by rw [List.size_toArray]; exact Nat.le_trans hz (by decide), r⟩
theorem tu12 {a : Addr} {o : Option Addr} {n : Nat} {s : Array (Option Value)} {k0 k1 : Tok} (l : K.lookup a = some ⟨.type "tuple", o, .seq #[.int 1 k0, .int 2 k1] n, s⟩) : KTup K a [.int 1, .int 2] :=
  ktup_of (its := [.int 1 k0, .int 2 k1]) l (by simp) (.cons ⟨k0, rfl⟩ (.cons ⟨k1, rfl⟩ (.nil)))
theorem tu1 {a : Addr} {o : Option Addr} {n : Nat} {s : Array (Option Value)} {k0 : Tok} (l : K.lookup a = some ⟨.type "tuple", o, .seq #[.int 1 k0] n, s⟩) : KTup K a [.int 1] :=
  ktup_of (its := [.int 1 k0]) l (by simp) (.cons ⟨k0, rfl⟩ (.nil))
theorem tu2 {a : Addr} {o : Option Addr} {n : Nat} {s : Array (Option Value)} {k0 : Tok} (l : K.lookup a = some ⟨.type "tuple", o, .seq #[.int 2 k0] n, s⟩) : KTup K a [.int 2] :=
  ktup_of (its := [.int 2 k0]) l (by simp) (.cons ⟨k0, rfl⟩ (.nil))
theorem tu123 {a : Addr} {o : Option Addr} {n : Nat} {s : Array (Option Value)} {k0 k1 k2 : Tok} (l : K.lookup a = some ⟨.type "tuple", o, .seq #[.int 1 k0, .int 2 k1, .int 3 k2] n, s⟩) : KTup K a [.int 1, .int 2, .int 3] :=
  ktup_of (its := [.int 1 k0, .int 2 k1, .int 3 k2]) l (by simp) (.cons ⟨k0, rfl⟩ (.cons ⟨k1, rfl⟩ (.cons ⟨k2, rfl⟩ (.nil))))
theorem tuT {a : Addr} {o : Option Addr} {n : Nat} {s : Array (Option Value)} {k0 k1 k2 : Tok} (l : K.lookup a = some ⟨.type "tuple", o, .seq #[.str "ever" k0, .str "always" k1, .str "before" k2] n, s⟩) : KTup K a [.str "ever", .str "always", .str "before"] :=
  ktup_of (its := [.str "ever" k0, .str "always" k1, .str "before" k2]) l (by simp) (.cons ⟨k0, rfl⟩ (.cons ⟨k1, rfl⟩ (.cons ⟨k2, rfl⟩ (.nil))))
theorem tuH {a : Addr} {o : Option Addr} {n : Nat} {s : Array (Option Value)} {k0 k1 : Tok} (l : K.lookup a = some ⟨.type "tuple", o, .seq #[.int 1 k0, .int 100 k1] n, s⟩) : KTup K a [.int 1, .int 100] :=
  ktup_of (its := [.int 1 k0, .int 100 k1]) l (by simp) (.cons ⟨k0, rfl⟩ (.cons ⟨k1, rfl⟩ (.nil)))
theorem isStr_str {a b : Str} {u : Tok} : (Value.str a u).isStr b = decide (a = b) := by
  by_cases q : a = b
  · rw [decide_eq_true q, q]; simp [Value.isStr]
  · rw [decide_eq_false q]; simpa [Value.isStr] using q
def PE1 (es : List DictEntry) (rows : List (Str × Addr)) : Prop := PySem.Paired (fun (e : DictEntry) (r : Str × Addr) => (∃ u, e.key = .str r.1 u) ∧ e.val = .ref r.2) es rows
theorem find_rows (x : Str) : ∀ {es : List DictEntry} {rows : List (Str × Addr)}, PE1 es rows →
    (match es.find? (fun e => e.key.isStr x) with | some e => some (some e.val) | none => if es.any (·.refKey) then none else some none) = some ((rows.find? fun r => decide (r.1 = x)).map fun r => Value.ref r.2) := by
  intro es rows h
  have key : ∀ {es : List DictEntry} {rows : List (Str × Addr)}, PE1 es rows → (es.find? (fun e => e.key.isStr x)).map (·.val) = ((rows.find? fun r => decide (r.1 = x)).map fun r => Value.ref r.2) ∧ es.any (·.refKey) = false := by
    intro es rows h
    induction h with
    | nil => exact ⟨rfl, rfl⟩
    | @cons e r es rows hh _ ih =>
      obtain ⟨⟨u, e1⟩, e2⟩ := hh
      refine ⟨?_, ?_⟩
      · rw [List.find?_cons, List.find?_cons, e1, isStr_str]
        cases decide (r.1 = x) with
        | true => simp [e2]
        | false => exact ih.1
      · rw [List.any_cons, ih.2, Bool.or_false]
        unfold DictEntry.refKey
        rw [e1]
  obtain ⟨k1, k2⟩ := key h
  rw [← k1, k2]
  cases es.find? (fun e => e.key.isStr x) <;> simp
end
end KW
set_option maxRecDepth 100000
set_option maxHeartbeats 4000000
/-! all that the text has written, as Tx; the law's promise from it -/
namespace KW
open PySem L2 PyProof.Rows
section
variable {K : PySem.W.Frag} {h : Heap} {mg : Str → Option Value} {P : Program} {w : World}
def csHistory {C : Addr} (X : K.In h) (G : h.Ns mainGlobals mg) (a : PySem.W.nsIn K mainGlobals "History" = some (some (.ref C))) (pg : PySem.W.plainGet K C Str.empty = true) (hd : PySem.W.hasDictIn K C = true) (po : PySem.W.plainOver K C = true) (sa : PySem.W.findIn K (.ref C) "__setattr__" = some (some (.builtin "object.__setattr__")))
    (n_lets : PySem.W.findIn K (.ref C) "lets" = some none)
    (n_facts : PySem.W.findIn K (.ref C) "facts" = some none)
    (n_rates : PySem.W.findIn K (.ref C) "rates" = some none)
    (n_known : PySem.W.findIn K (.ref C) "known" = some none)
    (m_init : Mti K C "History.__init__" s_History_init p_History_init)
    (m_fact : Mt0 K C "fact" "History.fact" s_History_fact p_History_fact)
    (m_rate : Mt0 K C "rate" "History.rate" s_History_rate p_History_rate)
    (m_timed : Mt0 K C "timed" "History.timed" s_History_timed p_History_timed) : CsHistory K mg :=
  ⟨C, ⟨pg, hd, po, sa⟩, PySem.W.mg_of X G a, n_lets, n_facts, n_rates, n_known, m_init, m_fact, m_rate, m_timed⟩
def csToday {C : Addr} (X : K.In h) (G : h.Ns mainGlobals mg) (a : PySem.W.nsIn K mainGlobals "Today" = some (some (.ref C))) (pg : PySem.W.plainGet K C Str.empty = true) (hd : PySem.W.hasDictIn K C = true) (po : PySem.W.plainOver K C = true) (sa : PySem.W.findIn K (.ref C) "__setattr__" = some (some (.builtin "object.__setattr__")))
    (n_lets : PySem.W.findIn K (.ref C) "lets" = some none)
    (n_facts : PySem.W.findIn K (.ref C) "facts" = some none)
    (n_rates : PySem.W.findIn K (.ref C) "rates" = some none)
    (n_parts : PySem.W.findIn K (.ref C) "parts" = some none)
    (n_truths : PySem.W.findIn K (.ref C) "truths" = some none)
    (n_known : PySem.W.findIn K (.ref C) "known" = some none)
    (m_init : Mti K C "Today.__init__" s_Today_init p_Today_init)
    (m_fact : Mt0 K C "fact" "Today.fact" s_Today_fact p_Today_fact)
    (m_rate : Mt0 K C "rate" "Today.rate" s_Today_rate p_Today_rate)
    (m_timed : Mt0 K C "timed" "Today.timed" s_Today_timed p_Today_timed) : CsToday K mg :=
  ⟨C, ⟨pg, hd, po, sa⟩, PySem.W.mg_of X G a, n_lets, n_facts, n_rates, n_parts, n_truths, n_known, m_init, m_fact, m_rate, m_timed⟩
def csWatch {C : Addr} (X : K.In h) (G : h.Ns mainGlobals mg) (a : PySem.W.nsIn K mainGlobals "Watch" = some (some (.ref C))) (pg : PySem.W.plainGet K C Str.empty = true) (hd : PySem.W.hasDictIn K C = true) (po : PySem.W.plainOver K C = true) (sa : PySem.W.findIn K (.ref C) "__setattr__" = some (some (.builtin "object.__setattr__")))
    (n_expression : PySem.W.findIn K (.ref C) "expression" = some none)
    (n_lets : PySem.W.findIn K (.ref C) "lets" = some none)
    (n_days : PySem.W.findIn K (.ref C) "days" = some none)
    (n_looking_back : PySem.W.findIn K (.ref C) "looking_back" = some none)
    (n_past : PySem.W.findIn K (.ref C) "past" = some none)
    (m_init : Mti K C "Watch.__init__" s_Watch_init p_Watch_init)
    (m_next_day : Mtp K C "next_day" "Watch.next_day" s_Watch_next_day p_Watch_next_day)
    (m_kept : Mt0 K C "kept" "Watch.kept" s_Watch_kept p_Watch_kept)
    (m_truth_of : Mt0 K C "truth_of" "Watch.truth_of" s_Watch_truth_of p_Watch_truth_of)
    (m_step : Mt0 K C "step" "Watch.step" s_Watch_step p_Watch_step) : CsWatch K mg :=
  ⟨C, ⟨pg, hd, po, sa⟩, PySem.W.mg_of X G a, n_expression, n_lets, n_days, n_looking_back, n_past, m_init, m_next_day, m_kept, m_truth_of, m_step⟩
theorem partsOf_none {x : Str} (e0 : x ≠ "add") (e1 : x ≠ "subtract") (e2 : x ≠ "multiply") (e3 : x ≠ "min") (e4 : x ≠ "max") (e5 : x ≠ "less") (e6 : x ≠ "atmost") (e7 : x ≠ "equal") (e8 : x ≠ "not") (e9 : x ≠ "and") (e10 : x ≠ "or") (e11 : x ≠ "if") (e12 : x ≠ "ever") (e13 : x ≠ "always") (e14 : x ≠ "before") : partsOf x = [] := by
  simp [partsOf, e0, e1, e2, e3, e4, e5, e6, e7, e8, e9, e10, e11, e12, e13, e14]
theorem parts_ok {D : Addr} {es : Array DictEntry} {n : Nat} {t0 t1 t2 t3 t4 t5 t6 t7 t8 t9 t10 t11 t12 t13 t14 : Addr} (lP : K.lookup D = some ⟨.type "dict", none, .dict es n, #[]⟩) (pe : PE1 es.toList [("add", t0), ("subtract", t1), ("multiply", t2), ("min", t3), ("max", t4), ("less", t5), ("atmost", t6), ("equal", t7), ("not", t8), ("and", t9), ("or", t10), ("if", t11), ("ever", t12), ("always", t13), ("before", t14)])
    (k0 : KTup K t0 [.int 1, .int 2])
    (k1 : KTup K t1 [.int 1, .int 2])
    (k2 : KTup K t2 [.int 1, .int 2])
    (k3 : KTup K t3 [.int 1, .int 2])
    (k4 : KTup K t4 [.int 1, .int 2])
    (k5 : KTup K t5 [.int 1, .int 2])
    (k6 : KTup K t6 [.int 1, .int 2])
    (k7 : KTup K t7 [.int 1, .int 2])
    (k8 : KTup K t8 [.int 1])
    (k9 : KTup K t9 [.int 1, .int 2])
    (k10 : KTup K t10 [.int 1, .int 2])
    (k11 : KTup K t11 [.int 1, .int 2, .int 3])
    (k12 : KTup K t12 [.int 2])
    (k13 : KTup K t13 [.int 2])
    (k14 : KTup K t14 [.int 2]) :
    ∀ x : Str, ∃ r, PySem.W.nsIn K D x = some r ∧ PartsAt K x r := by
  intro x
  refine ⟨(([("add", t0), ("subtract", t1), ("multiply", t2), ("min", t3), ("max", t4), ("less", t5), ("atmost", t6), ("equal", t7), ("not", t8), ("and", t9), ("or", t10), ("if", t11), ("ever", t12), ("always", t13), ("before", t14)] : List (Str × Addr)).find? fun r => decide (r.1 = x)).map fun r => Value.ref r.2, ?_, ?_⟩
  · unfold PySem.W.nsIn
    rw [lP]
    exact find_rows x pe
  · cases e : (([("add", t0), ("subtract", t1), ("multiply", t2), ("min", t3), ("max", t4), ("less", t5), ("atmost", t6), ("equal", t7), ("not", t8), ("and", t9), ("or", t10), ("if", t11), ("ever", t12), ("always", t13), ("before", t14)] : List (Str × Addr)).find? fun r => decide (r.1 = x)) with
    | none =>
      rw [List.find?_eq_none] at e
      have ne : ∀ r ∈ ([("add", t0), ("subtract", t1), ("multiply", t2), ("min", t3), ("max", t4), ("less", t5), ("atmost", t6), ("equal", t7), ("not", t8), ("and", t9), ("or", t10), ("if", t11), ("ever", t12), ("always", t13), ("before", t14)] : List (Str × Addr)), x ≠ r.1 := fun r hr z => e r hr (decide_eq_true z.symm)
      refine .inl ⟨rfl, partsOf_none (ne ("add", t0) (by simp)) (ne ("subtract", t1) (by simp)) (ne ("multiply", t2) (by simp)) (ne ("min", t3) (by simp)) (ne ("max", t4) (by simp)) (ne ("less", t5) (by simp)) (ne ("atmost", t6) (by simp)) (ne ("equal", t7) (by simp)) (ne ("not", t8) (by simp)) (ne ("and", t9) (by simp)) (ne ("or", t10) (by simp)) (ne ("if", t11) (by simp)) (ne ("ever", t12) (by simp)) (ne ("always", t13) (by simp)) (ne ("before", t14) (by simp))⟩
    | some r =>
      have hm := List.mem_of_find?_eq_some e
      have hx : r.1 = x := of_decide_eq_true (List.find?_some (p := fun r : Str × Addr => decide (r.1 = x)) e)
      refine .inr ⟨r.2, rfl, ?_⟩
      rw [← hx]
      simp only [List.mem_cons, List.not_mem_nil, or_false] at hm
      rcases hm with rfl | rfl | rfl | rfl | rfl | rfl | rfl | rfl | rfl | rfl | rfl | rfl | rfl | rfl | rfl
      · exact k0
      · exact k1
      · exact k2
      · exact k3
      · exact k4
      · exact k5
      · exact k6
      · exact k7
      · exact k8
      · exact k9
      · exact k10
      · exact k11
      · exact k12
      · exact k13
      · exact k14
theorem fin {fa f DP TI HU CF CR : Addr} {oc kV doc pm cdv ct : Value} {od an : Option Addr} {sl : Array (Option Value)} {es : Array DictEntry} {n : Nat} (X : K.In h) (G : h.Ns mainGlobals mg) (hfa : mg "law" = some (.ref fa))
    (D_fraction : Md1 K mg "fraction" s_fraction p_fraction 1)
    (D_plus : Md0 K mg "plus" s_plus p_plus)
    (D_opposite : Md0 K mg "opposite" s_opposite p_opposite)
    (D_minus : Md0 K mg "minus" s_minus p_minus)
    (D_times : Md0 K mg "times" s_times p_times)
    (D_order : Md0 K mg "order" s_order p_order)
    (D_smaller : Md0 K mg "smaller" s_smaller p_smaller)
    (D_greater : Md0 K mg "greater" s_greater p_greater)
    (D_let_of : Md0 K mg "let_of" s_let_of p_let_of)
    (D_combined : Md0 K mg "combined" s_combined p_combined)
    (D_let_value : Md0 K mg "let_value" s_let_value p_let_value)
    (D_evaluated : Md0 K mg "evaluated" s_evaluated p_evaluated)
    (D_value : Md0 K mg "value" s_value p_value)
    (D_parts_of : Md0 K mg "parts_of" s_parts_of p_parts_of)
    (D_all_parts : Md0 K mg "all_parts" s_all_parts p_all_parts)
    (D_law_draws : Md0 K mg "_law_draws" s_law_draws p_law_draws)
    (D_law_take : Md0 K mg "_law_take" s_law_take p_law_take)
    (D_law_keys : Md0 K mg "_law_keys" s_law_keys p_law_keys)
    (D_law_names : Md0 K mg "_law_names" s_law_names p_law_names)
    (D_law_make : Md0 K mg "_law_make" s_law_make p_law_make)
    (D_law_fraction : Md0 K mg "_law_fraction" s_law_fraction p_law_fraction)
    (D_law_literal : Md0 K mg "_law_literal" s_law_literal p_law_literal)
    (D_law_leaf : Md0 K mg "_law_leaf" s_law_leaf p_law_leaf)
    (D_law_factors : Md0 K mg "_law_factors" s_law_factors p_law_factors)
    (D_law_truth : Md0 K mg "_law_truth" s_law_truth p_law_truth)
    (D_law_built : Md0 K mg "_law_built" s_law_built p_law_built)
    (D_law_lets : Md0 K mg "_law_lets" s_law_lets p_law_lets)
    (D_law_history : Md0 K mg "_law_history" s_law_history p_law_history)
    (D_law_near : Md0 K mg "_law_near" s_law_near p_law_near)
    (D_law_same : Md0 K mg "_law_same" s_law_same p_law_same)
    (D_law_timed_parts : Md0 K mg "_law_timed_parts" s_law_timed_parts p_law_timed_parts)
    (D_law_day : Md0 K mg "_law_day" s_law_day p_law_day)
    (D_law_lacking : Md0 K mg "_law_lacking" s_law_lacking p_law_lacking)
    (la : PySem.W.nsIn K mainGlobals "law" = some (some (.ref f))) (ll : K.lookup f = some ⟨oc, od, .func (PySem.W.fnOf "law" "law" (defArgs s_law) (defBody s_law) (defScope s_law) .none kV doc pm an cdv ct), sl⟩) (lc : PySem.W.codeIn K cdv "law" = true) (lk : PySem.W.keepIn K (.ref f) = true)
    (D_History : CsHistory K mg)
    (D_Today : CsToday K mg)
    (D_Watch : CsWatch K mg)
    (D_MissingFact : Xc K mg "MissingFact" "MissingFact.__init__" s_MissingFact_init p_MissingFact_init)
    (D_MissingRate : Xc K mg "MissingRate" "MissingRate.__init__" s_MissingRate_init p_MissingRate_init)
    (gF : PySem.W.nsIn K mainGlobals "MissingFact" = some (some (.ref CF))) (gR : PySem.W.nsIn K mainGlobals "MissingRate" = some (some (.ref CR))) (eF : D_MissingFact.C = CF) (eR : D_MissingRate.C = CR) (xrf : PySem.W.exmOne K (.ref CR) (.ref CF) = some false)
    (gP : PySem.W.nsIn K mainGlobals "PARTS" = some (some (.ref DP))) (kP : KDict K w DP es n) (vP : ∀ x : Str, ∃ r, PySem.W.nsIn K DP x = some r ∧ PartsAt K x r)
    (gT : PySem.W.nsIn K mainGlobals "TIMED" = some (some (.ref TI))) (vT : KTup K TI [.str "ever", .str "always", .str "before"])
    (gH : PySem.W.nsIn K mainGlobals "HUNDREDTH" = some (some (.ref HU))) (vH : KTup K HU [.int 1, .int 100])
    (gg : PySem.W.nsIn K mainGlobals "gcd" = some (some (.builtin "math.gcd")))
    (z_len : PySem.W.nsIn K mainGlobals "len" = some none)
    (z_dict : PySem.W.nsIn K mainGlobals "dict" = some none)
    (z_range : PySem.W.nsIn K mainGlobals "range" = some none)
    (z_max : PySem.W.nsIn K mainGlobals "max" = some none)
    (z_min : PySem.W.nsIn K mainGlobals "min" = some none)
    (z_zip : PySem.W.nsIn K mainGlobals "zip" = some none)
    (z_any : PySem.W.nsIn K mainGlobals "any" = some none)
    (z_all : PySem.W.nsIn K mainGlobals "all" = some none)
    (z_sum : PySem.W.nsIn K mainGlobals "sum" = some none)
    (z_abs : PySem.W.nsIn K mainGlobals "abs" = some none)
    (z_int : PySem.W.nsIn K mainGlobals "int" = some none)
    (z_list : PySem.W.nsIn K mainGlobals "list" = some none)
    (z_reversed : PySem.W.nsIn K mainGlobals "reversed" = some none)
    (z_isinstance : PySem.W.nsIn K mainGlobals "isinstance" = some none)
    (z_tuple : PySem.W.nsIn K mainGlobals "tuple" = some none)
    (z_str : PySem.W.nsIn K mainGlobals "str" = some none)
    (z_bool : PySem.W.nsIn K mainGlobals "bool" = some none)
    (z_repr : PySem.W.nsIn K mainGlobals "repr" = some none) :
    ∃ fd : FuncData, (∀ (s : Shared) (u : Value), BindsTo s fd ⟨[u], []⟩ [("_law_script", u)]) ∧ ∀ base : Heap, K.In base → base.Ns mainGlobals mg → KY.FnC P w K mg base fa fd ["_law_script"] (spLaw K) := by
  have e := hfa.symm.trans (PySem.W.mg_of X G la)
  cases e
  let T : Tx K mg w := { fraction := D_fraction, plus := D_plus, opposite := D_opposite, minus := D_minus, times := D_times, order := D_order, smaller := D_smaller, greater := D_greater, let_of := D_let_of, combined := D_combined, let_value := D_let_value, evaluated := D_evaluated, value := D_value, parts_of := D_parts_of, all_parts := D_all_parts, law_draws := D_law_draws, law_take := D_law_take, law_keys := D_law_keys, law_names := D_law_names, law_make := D_law_make, law_fraction := D_law_fraction, law_literal := D_law_literal, law_leaf := D_law_leaf, law_factors := D_law_factors, law_truth := D_law_truth, law_built := D_law_built, law_lets := D_law_lets, law_history := D_law_history, law_near := D_law_near, law_same := D_law_same, law_timed_parts := D_law_timed_parts, law_day := D_law_day, law_lacking := D_law_lacking, History := D_History, Today := D_Today, Watch := D_Watch, MissingFact := D_MissingFact, MissingRate := D_MissingRate, law := md0 X G (fun _ _ _ _ _ _ us hl => match us, hl with | [_], _ => rfl) la ll lc lk, x_RF := by rw [eF, eR]; exact xrf, PARTS := DP, pes := es, pn := n, g_PARTS := PySem.W.mg_of X G gP, k_PARTS := kP, v_PARTS := vP, TIMED := TI, g_TIMED := PySem.W.mg_of X G gT, v_TIMED := vT, HUND := HU, g_HUND := PySem.W.mg_of X G gH, v_HUND := vH, g_gcd := PySem.W.mg_of X G gg, z_len := PySem.W.mg_none_of X G z_len, z_dict := PySem.W.mg_none_of X G z_dict, z_range := PySem.W.mg_none_of X G z_range, z_max := PySem.W.mg_none_of X G z_max, z_min := PySem.W.mg_none_of X G z_min, z_zip := PySem.W.mg_none_of X G z_zip, z_any := PySem.W.mg_none_of X G z_any, z_all := PySem.W.mg_none_of X G z_all, z_sum := PySem.W.mg_none_of X G z_sum, z_abs := PySem.W.mg_none_of X G z_abs, z_int := PySem.W.mg_none_of X G z_int, z_list := PySem.W.mg_none_of X G z_list, z_reversed := PySem.W.mg_none_of X G z_reversed, z_isinstance := PySem.W.mg_none_of X G z_isinstance, z_tuple := PySem.W.mg_none_of X G z_tuple, z_str := PySem.W.mg_none_of X G z_str, z_bool := PySem.W.mg_none_of X G z_bool, z_repr := PySem.W.mg_none_of X G z_repr }
  exact ⟨_, fun s v => .of_eq rfl, fun base _ _ => law_c T⟩
end
end KW
open PySem PySem.W PyProof.Rows
set_option maxRecDepth 100000 in
set_option maxHeartbeats 0 in
theorem PySem.Challenge.cw_consol_k23_whole_watches_tell_the_value_holds : PySem.Challenge.rw_consol_k23_whole_watches_tell_the_value.Holds := by
  w_on; o_law; k_head; (case hw => w_witness2)
  k_fill
  refine KY.walk_c (l := PySem.Challenge.rw_consol_k23_whole_watches_tell_the_value) (n := 63) (x := "_law_script") (sp := KW.spLaw) rfl (by decide) rfl (fun w h Y => PySem.W.kIn_of Y) ?F (fun K H a ns hl hS => ⟨a, ns, rfl, hS, Nat.le_trans hl (by decide), fun _ => rfl⟩)
  case F =>
    intro w mg fa h KX G hmg
    refine' KW.fin KX G hmg ?D_fraction ?D_plus ?D_opposite ?D_minus ?D_times ?D_order ?D_smaller ?D_greater ?D_let_of ?D_combined ?D_let_value ?D_evaluated ?D_value ?D_parts_of ?D_all_parts ?D_law_draws ?D_law_take ?D_law_keys ?D_law_names ?D_law_make ?D_law_fraction ?D_law_literal ?D_law_leaf ?D_law_factors ?D_law_truth ?D_law_built ?D_law_lets ?D_law_history ?D_law_near ?D_law_same ?D_law_timed_parts ?D_law_day ?D_law_lacking ?la ?ll ?lc ?lk ?D_History ?D_Today ?D_Watch ?D_MissingFact ?D_MissingRate ?gF ?gR ?eF ?eR ?xrf ?gP ?kP ?vP ?gT ?vT ?gH ?vH ?gg ?z_len ?z_dict ?z_range ?z_max ?z_min ?z_zip ?z_any ?z_all ?z_sum ?z_abs ?z_int ?z_list ?z_reversed ?z_isinstance ?z_tuple ?z_str ?z_bool ?z_repr
    (case D_fraction => refine' KW.md1 KX G ?b1 ?a2 ?l3 ?t4 ?c5 ?k6; (case b1 => exact fun _ _ _ _ _ _ _ us its h1 h2 => match us, its, h1, h2 with | [_, _], [_], _, _ => ⟨_, rfl, rfl⟩); (case a2 => k_is); (case l3 => k_is); (case t4 => k_is); (case c5 => k_is); (case k6 => k_is))
    (case D_plus => refine' KW.md0 KX G ?b7 ?a8 ?l9 ?c10 ?k11; (case b7 => exact fun _ _ _ _ _ _ us hl => match us, hl with | [_, _], _ => rfl); (case a8 => k_is); (case l9 => k_is); (case c10 => k_is); (case k11 => k_is))
    (case D_opposite => refine' KW.md0 KX G ?b12 ?a13 ?l14 ?c15 ?k16; (case b12 => exact fun _ _ _ _ _ _ us hl => match us, hl with | [_], _ => rfl); (case a13 => k_is); (case l14 => k_is); (case c15 => k_is); (case k16 => k_is))
    (case D_minus => refine' KW.md0 KX G ?b17 ?a18 ?l19 ?c20 ?k21; (case b17 => exact fun _ _ _ _ _ _ us hl => match us, hl with | [_, _], _ => rfl); (case a18 => k_is); (case l19 => k_is); (case c20 => k_is); (case k21 => k_is))
    (case D_times => refine' KW.md0 KX G ?b22 ?a23 ?l24 ?c25 ?k26; (case b22 => exact fun _ _ _ _ _ _ us hl => match us, hl with | [_, _], _ => rfl); (case a23 => k_is); (case l24 => k_is); (case c25 => k_is); (case k26 => k_is))
    (case D_order => refine' KW.md0 KX G ?b27 ?a28 ?l29 ?c30 ?k31; (case b27 => exact fun _ _ _ _ _ _ us hl => match us, hl with | [_, _], _ => rfl); (case a28 => k_is); (case l29 => k_is); (case c30 => k_is); (case k31 => k_is))
    (case D_smaller => refine' KW.md0 KX G ?b32 ?a33 ?l34 ?c35 ?k36; (case b32 => exact fun _ _ _ _ _ _ us hl => match us, hl with | [_, _], _ => rfl); (case a33 => k_is); (case l34 => k_is); (case c35 => k_is); (case k36 => k_is))
    (case D_greater => refine' KW.md0 KX G ?b37 ?a38 ?l39 ?c40 ?k41; (case b37 => exact fun _ _ _ _ _ _ us hl => match us, hl with | [_, _], _ => rfl); (case a38 => k_is); (case l39 => k_is); (case c40 => k_is); (case k41 => k_is))
    (case D_let_of => refine' KW.md0 KX G ?b42 ?a43 ?l44 ?c45 ?k46; (case b42 => exact fun _ _ _ _ _ _ us hl => match us, hl with | [_, _], _ => rfl); (case a43 => k_is); (case l44 => k_is); (case c45 => k_is); (case k46 => k_is))
    (case D_combined => refine' KW.md0 KX G ?b47 ?a48 ?l49 ?c50 ?k51; (case b47 => exact fun _ _ _ _ _ _ us hl => match us, hl with | [_, _, _], _ => rfl); (case a48 => k_is); (case l49 => k_is); (case c50 => k_is); (case k51 => k_is))
    (case D_let_value => refine' KW.md0 KX G ?b52 ?a53 ?l54 ?c55 ?k56; (case b52 => exact fun _ _ _ _ _ _ us hl => match us, hl with | [_, _, _], _ => rfl); (case a53 => k_is); (case l54 => k_is); (case c55 => k_is); (case k56 => k_is))
    (case D_evaluated => refine' KW.md0 KX G ?b57 ?a58 ?l59 ?c60 ?k61; (case b57 => exact fun _ _ _ _ _ _ us hl => match us, hl with | [_, _, _], _ => rfl); (case a58 => k_is); (case l59 => k_is); (case c60 => k_is); (case k61 => k_is))
    (case D_value => refine' KW.md0 KX G ?b62 ?a63 ?l64 ?c65 ?k66; (case b62 => exact fun _ _ _ _ _ _ us hl => match us, hl with | [_, _, _, _, _], _ => rfl); (case a63 => k_is); (case l64 => k_is); (case c65 => k_is); (case k66 => k_is))
    (case D_parts_of => refine' KW.md0 KX G ?b67 ?a68 ?l69 ?c70 ?k71; (case b67 => exact fun _ _ _ _ _ _ us hl => match us, hl with | [_, _], _ => rfl); (case a68 => k_is); (case l69 => k_is); (case c70 => k_is); (case k71 => k_is))
    (case D_all_parts => refine' KW.md0 KX G ?b72 ?a73 ?l74 ?c75 ?k76; (case b72 => exact fun _ _ _ _ _ _ us hl => match us, hl with | [_, _, _], _ => rfl); (case a73 => k_is); (case l74 => k_is); (case c75 => k_is); (case k76 => k_is))
    (case D_law_draws => refine' KW.md0 KX G ?b77 ?a78 ?l79 ?c80 ?k81; (case b77 => exact fun _ _ _ _ _ _ us hl => match us, hl with | [_], _ => rfl); (case a78 => k_is); (case l79 => k_is); (case c80 => k_is); (case k81 => k_is))
    (case D_law_take => refine' KW.md0 KX G ?b82 ?a83 ?l84 ?c85 ?k86; (case b82 => exact fun _ _ _ _ _ _ us hl => match us, hl with | [_, _], _ => rfl); (case a83 => k_is); (case l84 => k_is); (case c85 => k_is); (case k86 => k_is))
    (case D_law_keys => refine' KW.md0 KX G ?b87 ?a88 ?l89 ?c90 ?k91; (case b87 => exact fun _ _ _ _ _ _ us hl => match us, hl with | [], _ => rfl); (case a88 => k_is); (case l89 => k_is); (case c90 => k_is); (case k91 => k_is))
    (case D_law_names => refine' KW.md0 KX G ?b92 ?a93 ?l94 ?c95 ?k96; (case b92 => exact fun _ _ _ _ _ _ us hl => match us, hl with | [_, _], _ => rfl); (case a93 => k_is); (case l94 => k_is); (case c95 => k_is); (case k96 => k_is))
    (case D_law_make => refine' KW.md0 KX G ?b97 ?a98 ?l99 ?c100 ?k101; (case b97 => exact fun _ _ _ _ _ _ us hl => match us, hl with | [_, _], _ => rfl); (case a98 => k_is); (case l99 => k_is); (case c100 => k_is); (case k101 => k_is))
    (case D_law_fraction => refine' KW.md0 KX G ?b102 ?a103 ?l104 ?c105 ?k106; (case b102 => exact fun _ _ _ _ _ _ us hl => match us, hl with | [_, _], _ => rfl); (case a103 => k_is); (case l104 => k_is); (case c105 => k_is); (case k106 => k_is))
    (case D_law_literal => refine' KW.md0 KX G ?b107 ?a108 ?l109 ?c110 ?k111; (case b107 => exact fun _ _ _ _ _ _ us hl => match us, hl with | [_, _], _ => rfl); (case a108 => k_is); (case l109 => k_is); (case c110 => k_is); (case k111 => k_is))
    (case D_law_leaf => refine' KW.md0 KX G ?b112 ?a113 ?l114 ?c115 ?k116; (case b112 => exact fun _ _ _ _ _ _ us hl => match us, hl with | [_, _, _, _], _ => rfl); (case a113 => k_is); (case l114 => k_is); (case c115 => k_is); (case k116 => k_is))
    (case D_law_factors => refine' KW.md0 KX G ?b117 ?a118 ?l119 ?c120 ?k121; (case b117 => exact fun _ _ _ _ _ _ us hl => match us, hl with | [_, _], _ => rfl); (case a118 => k_is); (case l119 => k_is); (case c120 => k_is); (case k121 => k_is))
    (case D_law_truth => refine' KW.md0 KX G ?b122 ?a123 ?l124 ?c125 ?k126; (case b122 => exact fun _ _ _ _ _ _ us hl => match us, hl with | [_, _, _, _], _ => rfl); (case a123 => k_is); (case l124 => k_is); (case c125 => k_is); (case k126 => k_is))
    (case D_law_built => refine' KW.md0 KX G ?b127 ?a128 ?l129 ?c130 ?k131; (case b127 => exact fun _ _ _ _ _ _ us hl => match us, hl with | [_, _, _, _, _], _ => rfl); (case a128 => k_is); (case l129 => k_is); (case c130 => k_is); (case k131 => k_is))
    (case D_law_lets => refine' KW.md0 KX G ?b132 ?a133 ?l134 ?c135 ?k136; (case b132 => exact fun _ _ _ _ _ _ us hl => match us, hl with | [_, _], _ => rfl); (case a133 => k_is); (case l134 => k_is); (case c135 => k_is); (case k136 => k_is))
    (case D_law_history => refine' KW.md0 KX G ?b137 ?a138 ?l139 ?c140 ?k141; (case b137 => exact fun _ _ _ _ _ _ us hl => match us, hl with | [_, _, _], _ => rfl); (case a138 => k_is); (case l139 => k_is); (case c140 => k_is); (case k141 => k_is))
    (case D_law_near => refine' KW.md0 KX G ?b142 ?a143 ?l144 ?c145 ?k146; (case b142 => exact fun _ _ _ _ _ _ us hl => match us, hl with | [_, _, _], _ => rfl); (case a143 => k_is); (case l144 => k_is); (case c145 => k_is); (case k146 => k_is))
    (case D_law_same => refine' KW.md0 KX G ?b147 ?a148 ?l149 ?c150 ?k151; (case b147 => exact fun _ _ _ _ _ _ us hl => match us, hl with | [_, _], _ => rfl); (case a148 => k_is); (case l149 => k_is); (case c150 => k_is); (case k151 => k_is))
    (case D_law_timed_parts => refine' KW.md0 KX G ?b152 ?a153 ?l154 ?c155 ?k156; (case b152 => exact fun _ _ _ _ _ _ us hl => match us, hl with | [_, _, _], _ => rfl); (case a153 => k_is); (case l154 => k_is); (case c155 => k_is); (case k156 => k_is))
    (case D_law_day => refine' KW.md0 KX G ?b157 ?a158 ?l159 ?c160 ?k161; (case b157 => exact fun _ _ _ _ _ _ us hl => match us, hl with | [_, _], _ => rfl); (case a158 => k_is); (case l159 => k_is); (case c160 => k_is); (case k161 => k_is))
    (case D_law_lacking => refine' KW.md0 KX G ?b162 ?a163 ?l164 ?c165 ?k166; (case b162 => exact fun _ _ _ _ _ _ us hl => match us, hl with | [_, _, _, _, _], _ => rfl); (case a163 => k_is); (case l164 => k_is); (case c165 => k_is); (case k166 => k_is))
    (case la => k_is); (case ll => k_is); (case lc => k_is); (case lk => k_is)
    (case D_History => refine' KW.csHistory KX G ?a167 ?pg168 ?hd169 ?po170 ?sa171 ?n172 ?n173 ?n174 ?n175 ?m176 ?m177 ?m178 ?m179; (case a167 => k_is); (case pg168 => k_is); (case hd169 => k_is); (case po170 => k_is); (case sa171 => k_is); (case n172 => k_is); (case n173 => k_is); (case n174 => k_is); (case n175 => k_is); (case m176 => refine' KW.mti ?b180 ?a181 ?i182 ?l183 ?c184 ?k185 ?mk186 ?kc187; (case b180 => exact fun _ _ _ _ _ _ us hl => match us, hl with | [_, _, _, _], _ => rfl); (case a181 => k_is); (case i182 => k_is); (case l183 => k_is); (case c184 => k_is); (case k185 => k_is); (case mk186 => k_is); (case kc187 => k_is)); (case m177 => refine' KW.mt0 ?b188 ?a189 ?i190 ?l191 ?c192 ?k193; (case b188 => exact fun _ _ _ _ _ _ us hl => match us, hl with | [_, _, _], _ => rfl); (case a189 => k_is); (case i190 => k_is); (case l191 => k_is); (case c192 => k_is); (case k193 => k_is)); (case m178 => refine' KW.mt0 ?b194 ?a195 ?i196 ?l197 ?c198 ?k199; (case b194 => exact fun _ _ _ _ _ _ us hl => match us, hl with | [_, _, _], _ => rfl); (case a195 => k_is); (case i196 => k_is); (case l197 => k_is); (case c198 => k_is); (case k199 => k_is)); (case m179 => refine' KW.mt0 ?b200 ?a201 ?i202 ?l203 ?c204 ?k205; (case b200 => exact fun _ _ _ _ _ _ us hl => match us, hl with | [_, _, _], _ => rfl); (case a201 => k_is); (case i202 => k_is); (case l203 => k_is); (case c204 => k_is); (case k205 => k_is)))
    (case D_Today => refine' KW.csToday KX G ?a206 ?pg207 ?hd208 ?po209 ?sa210 ?n211 ?n212 ?n213 ?n214 ?n215 ?n216 ?m217 ?m218 ?m219 ?m220; (case a206 => k_is); (case pg207 => k_is); (case hd208 => k_is); (case po209 => k_is); (case sa210 => k_is); (case n211 => k_is); (case n212 => k_is); (case n213 => k_is); (case n214 => k_is); (case n215 => k_is); (case n216 => k_is); (case m217 => refine' KW.mti ?b221 ?a222 ?i223 ?l224 ?c225 ?k226 ?mk227 ?kc228; (case b221 => exact fun _ _ _ _ _ _ us hl => match us, hl with | [_, _, _, _, _], _ => rfl); (case a222 => k_is); (case i223 => k_is); (case l224 => k_is); (case c225 => k_is); (case k226 => k_is); (case mk227 => k_is); (case kc228 => k_is)); (case m218 => refine' KW.mt0 ?b229 ?a230 ?i231 ?l232 ?c233 ?k234; (case b229 => exact fun _ _ _ _ _ _ us hl => match us, hl with | [_, _, _], _ => rfl); (case a230 => k_is); (case i231 => k_is); (case l232 => k_is); (case c233 => k_is); (case k234 => k_is)); (case m219 => refine' KW.mt0 ?b235 ?a236 ?i237 ?l238 ?c239 ?k240; (case b235 => exact fun _ _ _ _ _ _ us hl => match us, hl with | [_, _, _], _ => rfl); (case a236 => k_is); (case i237 => k_is); (case l238 => k_is); (case c239 => k_is); (case k240 => k_is)); (case m220 => refine' KW.mt0 ?b241 ?a242 ?i243 ?l244 ?c245 ?k246; (case b241 => exact fun _ _ _ _ _ _ us hl => match us, hl with | [_, _, _], _ => rfl); (case a242 => k_is); (case i243 => k_is); (case l244 => k_is); (case c245 => k_is); (case k246 => k_is)))
    (case D_Watch => refine' KW.csWatch KX G ?a247 ?pg248 ?hd249 ?po250 ?sa251 ?n252 ?n253 ?n254 ?n255 ?n256 ?m257 ?m258 ?m259 ?m260 ?m261; (case a247 => k_is); (case pg248 => k_is); (case hd249 => k_is); (case po250 => k_is); (case sa251 => k_is); (case n252 => k_is); (case n253 => k_is); (case n254 => k_is); (case n255 => k_is); (case n256 => k_is); (case m257 => refine' KW.mti ?b262 ?a263 ?i264 ?l265 ?c266 ?k267 ?mk268 ?kc269; (case b262 => exact fun _ _ _ _ _ _ us hl => match us, hl with | [_, _, _], _ => rfl); (case a263 => k_is); (case i264 => k_is); (case l265 => k_is); (case c266 => k_is); (case k267 => k_is); (case mk268 => k_is); (case kc269 => k_is)); (case m258 => refine' KW.mtp ?b270 ?a271 ?g272 ?t273 ?r274 ?l275 ?c276 ?k277; (case b270 => exact fun _ _ _ _ _ _ us hl => match us, hl with | [_], _ => rfl); (case a271 => k_is); (case g272 => k_is); (case t273 => k_is); (case r274 => k_is); (case l275 => k_is); (case c276 => k_is); (case k277 => k_is)); (case m259 => refine' KW.mt0 ?b278 ?a279 ?i280 ?l281 ?c282 ?k283; (case b278 => exact fun _ _ _ _ _ _ us hl => match us, hl with | [_], _ => rfl); (case a279 => k_is); (case i280 => k_is); (case l281 => k_is); (case c282 => k_is); (case k283 => k_is)); (case m260 => refine' KW.mt0 ?b284 ?a285 ?i286 ?l287 ?c288 ?k289; (case b284 => exact fun _ _ _ _ _ _ us hl => match us, hl with | [_, _, _], _ => rfl); (case a285 => k_is); (case i286 => k_is); (case l287 => k_is); (case c288 => k_is); (case k289 => k_is)); (case m261 => refine' KW.mt0 ?b290 ?a291 ?i292 ?l293 ?c294 ?k295; (case b290 => exact fun _ _ _ _ _ _ us hl => match us, hl with | [_, _, _], _ => rfl); (case a291 => k_is); (case i292 => k_is); (case l293 => k_is); (case c294 => k_is); (case k295 => k_is)))
    (case D_MissingFact => refine' KW.xc KX G ?b296 ?a297 ?xl298 ?mro299 ?sa300 ?ex301 ?ty302 ?kc303 ?na304 ?nb305 ?ga306 ?gg307 ?hd308 ?ic309 ?sc310 ?i311 ?t312 ?l313 ?c314 ?k315; (case b296 => exact fun _ _ _ _ _ _ us hl => match us, hl with | [_, _, _], _ => rfl); (case a297 => k_is); (case xl298 => k_is); (case mro299 => decide +kernel); (case sa300 => k_is); (case ex301 => k_is); (case ty302 => k_is); (case kc303 => k_is); (case na304 => k_is); (case nb305 => k_is); (case ga306 => k_is); (case gg307 => k_is); (case hd308 => k_is); (case ic309 => k_is); (case sc310 => first | rfl | k_is); (case i311 => k_is); (case t312 => k_is); (case l313 => k_is); (case c314 => k_is); (case k315 => k_is))
    (case D_MissingRate => refine' KW.xc KX G ?b316 ?a317 ?xl318 ?mro319 ?sa320 ?ex321 ?ty322 ?kc323 ?na324 ?nb325 ?ga326 ?gg327 ?hd328 ?ic329 ?sc330 ?i331 ?t332 ?l333 ?c334 ?k335; (case b316 => exact fun _ _ _ _ _ _ us hl => match us, hl with | [_, _, _], _ => rfl); (case a317 => k_is); (case xl318 => k_is); (case mro319 => decide +kernel); (case sa320 => k_is); (case ex321 => k_is); (case ty322 => k_is); (case kc323 => k_is); (case na324 => k_is); (case nb325 => k_is); (case ga326 => k_is); (case gg327 => k_is); (case hd328 => k_is); (case ic329 => k_is); (case sc330 => first | rfl | k_is); (case i331 => k_is); (case t332 => k_is); (case l333 => k_is); (case c334 => k_is); (case k335 => k_is))
    (case gF => k_is); (case gR => k_is); (case eF => rfl); (case eR => rfl)
    (case xrf => refine' KW.exm_is ?x336 ?x337 ?x338 ?x339; (case x336 => k_is); (case x337 => k_is); (case x338 => k_is); (case x339 => k_is))
    (case gP => k_is)
    (case kP => refine' ⟨?d340, ?d341, ?d342⟩; (case d340 => k_is); (case d341 => exact ⟨⟨_, _, rfl, rfl⟩, ⟨_, _, rfl, rfl⟩, ⟨_, _, rfl, rfl⟩, ⟨_, _, rfl, rfl⟩, ⟨_, _, rfl, rfl⟩, ⟨_, _, rfl, rfl⟩, ⟨_, _, rfl, rfl⟩, ⟨_, _, rfl, rfl⟩, ⟨_, _, rfl, rfl⟩, ⟨_, _, rfl, rfl⟩, ⟨_, _, rfl, rfl⟩, ⟨_, _, rfl, rfl⟩, ⟨_, _, rfl, rfl⟩, ⟨_, _, rfl, rfl⟩, ⟨_, _, rfl, rfl⟩, trivial⟩); (case d342 => decide))
    (case vP => refine' KW.parts_ok ?d343 ?d344 ?t345 ?t346 ?t347 ?t348 ?t349 ?t350 ?t351 ?t352 ?t353 ?t354 ?t355 ?t356 ?t357 ?t358 ?t359; (case d343 => k_is); (case d344 => exact .cons ⟨⟨_, rfl⟩, rfl⟩ (.cons ⟨⟨_, rfl⟩, rfl⟩ (.cons ⟨⟨_, rfl⟩, rfl⟩ (.cons ⟨⟨_, rfl⟩, rfl⟩ (.cons ⟨⟨_, rfl⟩, rfl⟩ (.cons ⟨⟨_, rfl⟩, rfl⟩ (.cons ⟨⟨_, rfl⟩, rfl⟩ (.cons ⟨⟨_, rfl⟩, rfl⟩ (.cons ⟨⟨_, rfl⟩, rfl⟩ (.cons ⟨⟨_, rfl⟩, rfl⟩ (.cons ⟨⟨_, rfl⟩, rfl⟩ (.cons ⟨⟨_, rfl⟩, rfl⟩ (.cons ⟨⟨_, rfl⟩, rfl⟩ (.cons ⟨⟨_, rfl⟩, rfl⟩ (.cons ⟨⟨_, rfl⟩, rfl⟩ (.nil)))))))))))))))); (case t345 => refine' KW.tu12 ?y360; (case y360 => k_is)); (case t346 => refine' KW.tu12 ?y361; (case y361 => k_is)); (case t347 => refine' KW.tu12 ?y362; (case y362 => k_is)); (case t348 => refine' KW.tu12 ?y363; (case y363 => k_is)); (case t349 => refine' KW.tu12 ?y364; (case y364 => k_is)); (case t350 => refine' KW.tu12 ?y365; (case y365 => k_is)); (case t351 => refine' KW.tu12 ?y366; (case y366 => k_is)); (case t352 => refine' KW.tu12 ?y367; (case y367 => k_is)); (case t353 => refine' KW.tu1 ?y368; (case y368 => k_is)); (case t354 => refine' KW.tu12 ?y369; (case y369 => k_is)); (case t355 => refine' KW.tu12 ?y370; (case y370 => k_is)); (case t356 => refine' KW.tu123 ?y371; (case y371 => k_is)); (case t357 => refine' KW.tu2 ?y372; (case y372 => k_is)); (case t358 => refine' KW.tu2 ?y373; (case y373 => k_is)); (case t359 => refine' KW.tu2 ?y374; (case y374 => k_is)))
    (case gT => k_is); (case vT => refine' KW.tuT ?y375; (case y375 => k_is)); (case gH => k_is); (case vH => refine' KW.tuH ?y376; (case y376 => k_is)); (case gg => k_is)
    (case z_len => k_is); (case z_dict => k_is); (case z_range => k_is); (case z_max => k_is); (case z_min => k_is); (case z_zip => k_is); (case z_any => k_is); (case z_all => k_is); (case z_sum => k_is); (case z_abs => k_is); (case z_int => k_is); (case z_list => k_is); (case z_reversed => k_is); (case z_isinstance => k_is); (case z_tuple => k_is); (case z_str => k_is); (case z_bool => k_is); (case z_repr => k_is)
