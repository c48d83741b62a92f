import PyProof.Rows.All
import Wide.All
import OpenK.AllK
import Wide.FinOn
import HandS.ForMost
import HandS.IsInst
import HandS.TupAny
import HandS.TupLe
import HandS.Strs
import HandS.Walk
import HandS.Exc
import HandS.Wide
import HandS.Evl
import HandS.Conv
import HandS.More
import HandS.DeepEq
import PySem.Challenge.RW_oncefolded_k03_whole_folding_is_choosing
set_option Elab.async false
set_option maxRecDepth 100000
set_option linter.all false
/-! A1: diagrams, plain mathematics. -/
namespace OF

/-- diagrams -/
inductive Dg where
  | lf (b : Bool)
  | nd (i : Nat) (lo hi : Dg)
  deriving DecidableEq

def Dg.size : Dg → Nat
  | .lf _ => 1
  | .nd _ lo hi => lo.size + hi.size + 1

def Dg.ev : Dg → (Nat → Bool) → Bool
  | .lf b, _ => b
  | .nd i lo hi, r => if r i then hi.ev r else lo.ev r

/-- reduced and ordered, indexes from i on, below N -/
def Red (N : Nat) : Nat → Dg → Prop
  | _, .lf _ => True
  | i, .nd j lo hi => i ≤ j ∧ j < N ∧ lo ≠ hi ∧ Red N (j + 1) lo ∧ Red N (j + 1) hi

theorem Red.le {N : Nat} : ∀ {d : Dg} {i j : Nat}, j ≤ i → Red N i d → Red N j d
  | .lf _, _, _, _, _ => trivial
  | .nd k lo hi, i, j, h, r => ⟨Nat.le_trans h r.1, r.2⟩

def setR (r : Nat → Bool) (j : Nat) (b : Bool) : Nat → Bool := fun k => if k = j then b else r k

theorem ev_congr {N : Nat} : ∀ {d : Dg} {i : Nat} {r q : Nat → Bool}, Red N i d → (∀ k, i ≤ k → k < N → r k = q k) → d.ev r = d.ev q
  | .lf _, _, _, _, _, _ => rfl
  | .nd k lo hi, i, r, q, h, e => by
    obtain ⟨h1, h2, _, h4, h5⟩ := h
    have el := ev_congr (r := r) (q := q) h4 fun m a b => e m (by omega) b
    have eh := ev_congr (r := r) (q := q) h5 fun m a b => e m (by omega) b
    show (if r k then hi.ev r else lo.ev r) = if q k then hi.ev q else lo.ev q
    rw [el, eh, e k h1 h2]

theorem ev_set {N : Nat} {d : Dg} {i j : Nat} {r : Nat → Bool} {b : Bool} (h : Red N i d) (hj : j < i) : d.ev (setR r j b) = d.ev r :=
  ev_congr h fun k hk _ => by
    unfold setR
    rw [if_neg (by omega)]

theorem ev_lo {k : Nat} {lo hi : Dg} {r : Nat → Bool} : (Dg.nd k lo hi).ev (setR r k false) = lo.ev (setR r k false) := by
  show (if setR r k false k then _ else _) = _
  unfold setR
  simp
theorem ev_hi {k : Nat} {lo hi : Dg} {r : Nat → Bool} : (Dg.nd k lo hi).ev (setR r k true) = hi.ev (setR r k true) := by
  show (if setR r k true k then _ else _) = _
  unfold setR
  simp

theorem uniq_n {N : Nat} : ∀ (n : Nat) (d e : Dg) (i : Nat), d.size + e.size ≤ n → Red N i d → Red N i e → (∀ r, d.ev r = e.ev r) → d = e
  | 0, d, e, _, hn, _, _, _ => by
    cases d <;> simp only [Dg.size] at hn <;> omega
  | n + 1, d, e, i, hn, hd, he, h => by
    -- both branches of a node agree with a diagram that does not look at its index
    have stuck : ∀ (k : Nat) (lo hi x : Dg), lo.size + x.size ≤ n → hi.size + x.size ≤ n → Red N (k + 1) lo → Red N (k + 1) hi → Red N (k + 1) x → lo ≠ hi → (∀ r, (Dg.nd k lo hi).ev r = x.ev r) → False := by
      intro k lo hi x s1 s2 r1 r2 r3 ne q
      have a : lo = x := uniq_n n lo x (k + 1) s1 r1 r3 fun r => by
        have z := q (setR r k false)
        rw [ev_lo, ev_set r1 (Nat.lt_succ_self k), ev_set r3 (Nat.lt_succ_self k)] at z
        exact z
      have b : hi = x := uniq_n n hi x (k + 1) s2 r2 r3 fun r => by
        have z := q (setR r k true)
        rw [ev_hi, ev_set r2 (Nat.lt_succ_self k), ev_set r3 (Nat.lt_succ_self k)] at z
        exact z
      exact ne (a.trans b.symm)
    cases d with
    | lf b =>
      cases e with
      | lf c => exact congrArg Dg.lf (h fun _ => false)
      | nd k lo hi =>
        simp only [Dg.size] at hn
        exact (stuck k lo hi (.lf b) (by simp only [Dg.size]; omega) (by simp only [Dg.size]; omega) he.2.2.2.1 he.2.2.2.2 trivial he.2.2.1 fun r => (h r).symm).elim
    | nd k lo hi =>
      cases e with
      | lf c =>
        simp only [Dg.size] at hn
        exact (stuck k lo hi (.lf c) (by simp only [Dg.size]; omega) (by simp only [Dg.size]; omega) hd.2.2.2.1 hd.2.2.2.2 trivial hd.2.2.1 h).elim
      | nd m lo' hi' =>
        simp only [Dg.size] at hn
        rcases Nat.lt_trichotomy k m with c | c | c
        · exact (stuck k lo hi (.nd m lo' hi') (by simp only [Dg.size]; omega) (by simp only [Dg.size]; omega) hd.2.2.2.1 hd.2.2.2.2 ⟨c, he.2⟩ hd.2.2.1 h).elim
        · subst c
          have a : lo = lo' := uniq_n n lo lo' (k + 1) (by omega) hd.2.2.2.1 he.2.2.2.1 fun r => by
            have z := h (setR r k false)
            rw [ev_lo, ev_lo, ev_set hd.2.2.2.1 (Nat.lt_succ_self k), ev_set he.2.2.2.1 (Nat.lt_succ_self k)] at z
            exact z
          have b : hi = hi' := uniq_n n hi hi' (k + 1) (by omega) hd.2.2.2.2 he.2.2.2.2 fun r => by
            have z := h (setR r k true)
            rw [ev_hi, ev_hi, ev_set hd.2.2.2.2 (Nat.lt_succ_self k), ev_set he.2.2.2.2 (Nat.lt_succ_self k)] at z
            exact z
          rw [a, b]
        · exact (stuck m lo' hi' (.nd k lo hi) (by simp only [Dg.size]; omega) (by simp only [Dg.size]; omega) he.2.2.2.1 he.2.2.2.2 ⟨c, hd.2⟩ he.2.2.1 fun r => (h r).symm).elim

/-- two diagrams that hold in the same configurations are equal -/
theorem uniq {N i : Nat} {d e : Dg} (hd : Red N i d) (he : Red N i e) (h : ∀ r, d.ev r = e.ev r) : d = e :=
  uniq_n _ d e i (Nat.le_refl _) hd he h

/-- a node, or its one branch -/
def mk (i : Nat) (lo hi : Dg) : Dg := if lo = hi then lo else .nd i lo hi

theorem mk_red {N i j : Nat} {lo hi : Dg} (h1 : i ≤ j) (h2 : j < N) (hl : Red N (j + 1) lo) (hh : Red N (j + 1) hi) : Red N i (mk j lo hi) := by
  unfold mk
  by_cases e : lo = hi
  · rw [if_pos e]
    exact hl.le (by omega)
  · rw [if_neg e]
    exact ⟨h1, h2, e, hl, hh⟩
theorem mk_ev {j : Nat} {lo hi : Dg} (r : Nat → Bool) : (mk j lo hi).ev r = if r j then hi.ev r else lo.ev r := by
  unfold mk
  by_cases e : lo = hi
  · rw [if_pos e, e]
    by_cases c : r j = true <;> simp [c]
  · rw [if_neg e]
    rfl

def Dg.neg : Dg → Dg
  | .lf b => .lf (!b)
  | .nd i lo hi => .nd i lo.neg hi.neg
theorem neg_neg : ∀ d : Dg, d.neg.neg = d
  | .lf b => by simp [Dg.neg]
  | .nd i lo hi => by simp [Dg.neg, neg_neg lo, neg_neg hi]
theorem neg_red {N : Nat} : ∀ {d : Dg} {i : Nat}, Red N i d → Red N i d.neg
  | .lf _, _, _ => trivial
  | .nd k lo hi, i, h => ⟨h.1, h.2.1, fun e => h.2.2.1 (by rw [← neg_neg lo, ← neg_neg hi, e]), neg_red h.2.2.2.1, neg_red h.2.2.2.2⟩
theorem neg_ev : ∀ (d : Dg) (r : Nat → Bool), d.neg.ev r = !d.ev r
  | .lf _, _ => rfl
  | .nd k lo hi, r => by
    show (if r k then hi.neg.ev r else lo.neg.ev r) = !(if r k then hi.ev r else lo.ev r)
    rw [neg_ev lo, neg_ev hi]
    by_cases c : r k = true <;> simp [c]

/-- from index i to below N: the depth of a diagram is at most N - i -/
def Dg.depth : Dg → Nat
  | .lf _ => 0
  | .nd _ lo hi => max lo.depth hi.depth + 1
theorem Red.depth {N : Nat} : ∀ {d : Dg} {i : Nat}, i ≤ N → Red N i d → d.depth ≤ N - i
  | .lf _, _, _, _ => Nat.zero_le _
  | .nd k lo hi, i, hi', h => by
    have a := Red.depth (by have := h.2.1; omega) h.2.2.2.1
    have b := Red.depth (by have := h.2.1; omega) h.2.2.2.2
    have h1 := h.1
    have h2 := h.2.1
    simp only [Dg.depth]
    omega
/-- the diagram false holds nowhere, and it is the only one -/
theorem ev_none {N : Nat} {d : Dg} {i : Nat} (h : Red N i d) (e : ∀ r, d.ev r = false) : d = .lf false := uniq h trivial e

/-- the diagram of a list of truths, as the law makes it -/
def ofBits : Nat → Nat → List Bool → Dg
  | 0, _, bits => .lf (bits.headD false)
  | n + 1, i, bits => mk i (ofBits n (i + 1) (bits.take (2 ^ n))) (ofBits n (i + 1) (bits.drop (2 ^ n)))

/-- all configurations of n switches, ascending -/
def allC : Nat → List (List Bool)
  | 0 => [[]]
  | n + 1 => (allC n).map (false :: ·) ++ (allC n).map (true :: ·)
theorem allC_len : ∀ n, (allC n).length = 2 ^ n
  | 0 => rfl
  | n + 1 => by
    simp only [allC, List.length_append, List.length_map, allC_len n, Nat.pow_succ]
    omega
theorem allC_mem : ∀ {n : Nat} {c : List Bool}, c.length = n → c ∈ allC n
  | 0, [], _ => List.mem_cons_self
  | n + 1, b :: c, h => by
    have z : c ∈ allC n := allC_mem (Nat.succ.inj h)
    cases b with
    | false => exact List.mem_append_left _ (List.mem_map_of_mem z)
    | true => exact List.mem_append_right _ (List.mem_map_of_mem z)
theorem allC_length : ∀ {n : Nat} {c : List Bool}, c ∈ allC n → c.length = n
  | 0, c, h => by
    simp only [allC, List.mem_singleton] at h
    rw [h]
    rfl
  | n + 1, c, h => by
    simp only [allC, List.mem_append, List.mem_map] at h
    rcases h with ⟨x, hx, rfl⟩ | ⟨x, hx, rfl⟩ <;> simp [allC_length hx]

/-- what a configuration says of the switches from i on -/
def asgn (i : Nat) (c : List Bool) : Nat → Bool := fun k => c.getD (k - i) false

theorem ofBits_ok {N : Nat} : ∀ (n i : Nat) (f : List Bool → Bool), i + n ≤ N →
    Red N i (ofBits n i ((allC n).map f)) ∧ ∀ r : Nat → Bool, (ofBits n i ((allC n).map f)).ev r = f ((List.range n).map fun k => r (i + k))
  | 0, i, f, _ => ⟨trivial, fun r => rfl⟩
  | n + 1, i, f, h => by
    have e1 : (((allC (n + 1)).map f).take (2 ^ n)) = (allC n).map (fun c => f (false :: c)) := by
      simp only [allC, List.map_append, List.map_map]
      rw [List.take_append_of_le_length (by simp [allC_len]), List.take_of_length_le (by simp [allC_len])]
      rfl
    have e2 : (((allC (n + 1)).map f).drop (2 ^ n)) = (allC n).map (fun c => f (true :: c)) := by
      simp only [allC, List.map_append, List.map_map]
      rw [List.drop_append_of_le_length (by simp [allC_len]), List.drop_eq_nil_of_le (by simp [allC_len])]
      rfl
    obtain ⟨a1, a2⟩ := ofBits_ok (N := N) n (i + 1) (fun c => f (false :: c)) (by omega)
    obtain ⟨b1, b2⟩ := ofBits_ok (N := N) n (i + 1) (fun c => f (true :: c)) (by omega)
    show Red N i (mk i (ofBits n (i + 1) _) (ofBits n (i + 1) _)) ∧ ∀ r : Nat → Bool, (mk i (ofBits n (i + 1) _) (ofBits n (i + 1) _)).ev r = _
    rw [e1, e2]
    refine ⟨mk_red (Nat.le_refl _) (by omega) a1 b1, fun r => ?_⟩
    rw [mk_ev, a2, b2]
    have er : (List.range (n + 1)).map (fun k => r (i + k)) = r i :: (List.range n).map (fun k => r (i + 1 + k)) := by
      rw [List.range_succ_eq_map]
      simp only [List.map_cons, List.map_map, Nat.add_zero]
      congr 1
      apply List.map_congr_left
      intro k _
      simp only [Function.comp, Nat.succ_eq_add_one]
      congr 1
      omega
    rw [er]
    by_cases c : r i = true
    · rw [if_pos c, c]
    · have c' : r i = false := by simpa using c
      rw [if_neg c, c']

/-- formulas -/
inductive Fm (S : Type) where
  | yes | no
  | sw (s : S)
  | not (f : Fm S)
  | and (f g : Fm S)
  | or (f g : Fm S)

def Fm.depth {S : Type} : Fm S → Nat
  | .yes => 1
  | .no => 1
  | .sw _ => 1
  | .not f => f.depth + 1
  | .and f g => max f.depth g.depth + 1
  | .or f g => max f.depth g.depth + 1
/-- its truth, the switches told by an assignment of names -/
def Fm.ev {S : Type} (r : S → Bool) : Fm S → Bool
  | .yes => true
  | .no => false
  | .sw s => r s
  | .not f => !f.ev r
  | .and f g => f.ev r && g.ev r
  | .or f g => f.ev r || g.ev r
end OF

set_option Elab.async false
set_option linter.all false
set_option maxRecDepth 100000
/-! A2: the texts of formulas, plain mathematics. -/
namespace OF
open PySem
abbrev tl (x : Str) : List Nat := x.cps.toList
abbrev Fo := Fm Str

/-- spaces alone -/
def Spc (g : List Nat) : Prop := ∀ c ∈ g, c = 32
def skip : List Nat → List Nat
  | [] => []
  | c :: r => if c = 32 then skip r else c :: r
theorem skip_sp : ∀ {g : List Nat}, Spc g → ∀ r, skip (g ++ r) = skip r
  | [], _, _ => rfl
  | c :: g, h, r => by
    have e : c = 32 := h c List.mem_cons_self
    show (if c = 32 then skip (g ++ r) else c :: (g ++ r)) = skip r
    rw [if_pos e]
    exact skip_sp (fun d hd => h d (List.mem_cons_of_mem _ hd)) r
theorem skip_ne {c : Nat} (h : c ≠ 32) (r : List Nat) : skip (c :: r) = c :: r := by
  show (if c = 32 then skip r else c :: r) = c :: r
  rw [if_neg h]
theorem skip_skip : ∀ r : List Nat, skip (skip r) = skip r
  | [] => rfl
  | c :: r => by
    show skip (if c = 32 then skip r else c :: r) = if c = 32 then skip r else c :: r
    by_cases e : c = 32
    · rw [if_pos e]
      exact skip_skip r
    · rw [if_neg e]
      exact skip_ne e r
/-- what is skipped, and the rest -/
theorem skip_split : ∀ r : List Nat, ∃ g, Spc g ∧ r = g ++ skip r
  | [] => ⟨[], fun _ h => by simp at h, rfl⟩
  | c :: r => by
    by_cases e : c = 32
    · obtain ⟨g, h1, h2⟩ := skip_split r
      refine ⟨c :: g, fun d hd => ?_, ?_⟩
      · rcases List.mem_cons.mp hd with q | q
        · rw [q]; exact e
        · exact h1 d q
      · show c :: r = c :: g ++ (if c = 32 then skip r else c :: r)
        rw [if_pos e]
        show c :: r = c :: (g ++ skip r)
        rw [← h2]
    · refine ⟨[], fun _ h => by simp at h, ?_⟩
      rw [skip_ne e]
      rfl

def isL (c : Nat) : Prop := 97 ≤ c ∧ c ≤ 122
/-- no letter stands first -/
def NL (r : List Nat) : Prop := ∀ c, r.head? = some c → ¬ isL c
/-- the sign c doesn't stand first behind the spaces -/
def NH (d : Nat) (r : List Nat) : Prop := ∀ c, (skip r).head? = some c → c ≠ d

/-- one more member of a row: the gap ahead of the sign, the gap behind it, the member and its text -/
structure It where
  a : List Nat
  b : List Nat
  g : Fo
  t : List Nat
def It.txt (ch : Nat) (i : It) : List Nat := i.a ++ ch :: (i.b ++ i.t)
def flat (ch : Nat) (its : List It) : List Nat := its.flatMap (It.txt ch)
def Chain (op : Fo → Fo → Fo) (ch : Nat) (P : Fo → List Nat → Prop) (f : Fo) (s : List Nat) : Prop :=
  ∃ (f0 : Fo) (s0 : List Nat) (its : List It), P f0 s0 ∧ (∀ i ∈ its, Spc i.a ∧ Spc i.b ∧ P i.g i.t) ∧ f = its.foldl (fun f i => op f i.g) f0 ∧ s = s0 ++ flat ch its
theorem Chain.one {op : Fo → Fo → Fo} {ch : Nat} {P : Fo → List Nat → Prop} {f : Fo} {s : List Nat} (h : P f s) : Chain op ch P f s := ⟨f, s, [], h, fun _ h => by simp at h, rfl, by simp [flat]⟩
theorem Chain.more {op : Fo → Fo → Fo} {ch : Nat} {P : Fo → List Nat → Prop} {f g : Fo} {s t a b : List Nat} (h : Chain op ch P f s) (ha : Spc a) (hb : Spc b) (hg : P g t) : Chain op ch P (op f g) (s ++ a ++ (ch :: b) ++ t) := by
  obtain ⟨f0, s0, its, h1, h2, h3, h4⟩ := h
  refine ⟨f0, s0, its ++ [⟨a, b, g, t⟩], h1, fun i hi => ?_, ?_, ?_⟩
  · rcases List.mem_append.mp hi with q | q
    · exact h2 i q
    · rw [List.mem_singleton.mp q]
      exact ⟨ha, hb, hg⟩
  · rw [List.foldl_append, ← h3]
    rfl
  · rw [h4]
    simp [flat, It.txt, List.flatMap_append]
theorem Chain.mono {op : Fo → Fo → Fo} {ch : Nat} {P P' : Fo → List Nat → Prop} {f : Fo} {s : List Nat} (h : Chain op ch P f s) (m : ∀ f s, P f s → P' f s) : Chain op ch P' f s := by
  obtain ⟨f0, s0, its, h1, h2, h3, h4⟩ := h
  exact ⟨f0, s0, its, m _ _ h1, fun i hi => ⟨(h2 i hi).1, (h2 i hi).2.1, m _ _ (h2 i hi).2.2⟩, h3, h4⟩
theorem flat_cons (ch : Nat) (i : It) (r : List It) : flat ch (i :: r) = i.a ++ ch :: (i.b ++ i.t) ++ flat ch r := rfl
theorem flat_nl {ch : Nat} {its : List It} {post : List Nat} (hc : ¬ isL ch) (h : ∀ i ∈ its, Spc i.a) (hp : NL post) : NL (flat ch its ++ post) := by
  cases its with
  | nil => exact hp
  | cons i r =>
    intro c e
    rw [flat_cons] at e
    have ha := h i List.mem_cons_self
    cases hA : i.a with
    | nil =>
      rw [hA] at e
      have z : some ch = some c := e
      rw [← Option.some.inj z]
      exact hc
    | cons d l =>
      rw [hA] at e
      have z : some d = some c := e
      have y : d = 32 := ha d (by rw [hA]; exact List.mem_cons_self)
      rw [← Option.some.inj z, y]
      unfold isL
      omega
theorem flat_skip {ch : Nat} {i : It} {r : List It} {post : List Nat} (hc : ch ≠ 32) (h : Spc i.a) : skip (flat ch (i :: r) ++ post) = ch :: (i.b ++ i.t ++ (flat ch r ++ post)) := by
  rw [flat_cons, List.append_assoc, List.append_assoc, skip_sp h]
  show skip (ch :: (i.b ++ i.t ++ (flat ch r ++ post))) = _
  rw [skip_ne hc]

/-- a part of a formula's text, nested fewer than n deep -/
def PrP (sw : List Str) : Nat → Fo → List Nat → Prop
  | 0, _, _ => False
  | n + 1, f, s => (∃ x ∈ sw, f = .sw x ∧ s = tl x) ∨ (f = .yes ∧ s = [49]) ∨ (f = .no ∧ s = [48]) ∨
      (∃ g t a, PrP sw n g t ∧ Spc a ∧ f = .not g ∧ s = 33 :: (a ++ t)) ∨
      (∃ t a b, Chain .or 124 (Chain .and 38 (PrP sw n)) f t ∧ Spc a ∧ Spc b ∧ s = 40 :: (a ++ t ++ b ++ [41]))
abbrev PrB (sw : List Str) (n : Nat) : Fo → List Nat → Prop := Chain .and 38 (PrP sw n)
abbrev PrE (sw : List Str) (n : Nat) : Fo → List Nat → Prop := Chain .or 124 (PrB sw n)
theorem PrP.up {sw : List Str} : ∀ {n : Nat} {f : Fo} {s : List Nat}, PrP sw n f s → PrP sw (n + 1) f s
  | 0, _, _, h => h.elim
  | n + 1, f, s, h => by
    rcases h with h | h | h | ⟨g, t, a, h1, h2⟩ | ⟨t, a, b, h1, h2⟩
    · exact .inl h
    · exact .inr (.inl h)
    · exact .inr (.inr (.inl h))
    · exact .inr (.inr (.inr (.inl ⟨g, t, a, PrP.up h1, h2⟩)))
    · exact .inr (.inr (.inr (.inr ⟨t, a, b, h1.mono fun f s q => q.mono fun f s q => PrP.up q, h2⟩)))
theorem PrP.le {sw : List Str} {n m : Nat} {f : Fo} {s : List Nat} (h : PrP sw n f s) (l : n ≤ m) : PrP sw m f s := by
  induction l with
  | refl => exact h
  | step _ ih => exact ih.up
theorem PrB.le {sw : List Str} {n m : Nat} {f : Fo} {s : List Nat} (h : PrB sw n f s) (l : n ≤ m) : PrB sw m f s := h.mono fun _ _ q => q.le l
theorem PrE.le {sw : List Str} {n m : Nat} {f : Fo} {s : List Nat} (h : PrE sw n f s) (l : n ≤ m) : PrE sw m f s := h.mono fun _ _ q => PrB.le q l

/-- the switches: names of small letters -/
structure SwOk (sw : List Str) : Prop where
  nd : sw.Nodup
  len : 1 ≤ sw.length ∧ sw.length ≤ 5
  ltr : ∀ x ∈ sw, tl x ≠ [] ∧ (∀ c ∈ tl x, isL c) ∧ x.length ≤ 6
/-- a formula is no deeper than its text is long, and its names are switches -/
def FNm (sw : List Str) : Fo → Prop
  | .yes => True
  | .no => True
  | .sw s => s ∈ sw
  | .not f => FNm sw f
  | .and f g => FNm sw f ∧ FNm sw g
  | .or f g => FNm sw f ∧ FNm sw g
theorem chain_depth {op : Fo → Fo → Fo} (hop : ∀ f g, (op f g).depth = max f.depth g.depth + 1) {ch : Nat} {P : Fo → List Nat → Prop} (hP : ∀ f s, P f s → f.depth ≤ s.length) {f : Fo} {s : List Nat} (h : Chain op ch P f s) : f.depth ≤ s.length := by
  obtain ⟨f0, s0, its, h1, h2, rfl, rfl⟩ := h
  have go : ∀ (its : List It) (f0 : Fo) (s0 : List Nat), f0.depth ≤ s0.length → (∀ i ∈ its, Spc i.a ∧ Spc i.b ∧ P i.g i.t) → (its.foldl (fun f i => op f i.g) f0).depth ≤ (s0 ++ flat ch its).length := by
    intro its
    induction its with
    | nil => intro f0 s0 a _; simpa [flat] using a
    | cons i r ih =>
      intro f0 s0 a b
      have z := ih (op f0 i.g) (s0 ++ i.txt ch) (by
        rw [hop]
        have y := hP _ _ (b i List.mem_cons_self).2.2
        simp only [It.txt, List.length_append, List.length_cons]
        omega) fun j hj => b j (List.mem_cons_of_mem _ hj)
      rw [flat_cons]
      simp only [List.foldl_cons]
      have e : s0 ++ (i.a ++ ch :: (i.b ++ i.t) ++ flat ch r) = s0 ++ i.txt ch ++ flat ch r := by simp [It.txt]
      rw [e]
      exact z
  exact go its f0 s0 (hP _ _ h1) h2
theorem chain_names {sw : List Str} {op : Fo → Fo → Fo} (hop : ∀ f g, FNm sw f → FNm sw g → FNm sw (op f g)) {ch : Nat} {P : Fo → List Nat → Prop} (hP : ∀ f s, P f s → FNm sw f) {f : Fo} {s : List Nat} (h : Chain op ch P f s) : FNm sw f := by
  obtain ⟨f0, s0, its, h1, h2, rfl, rfl⟩ := h
  have go : ∀ (its : List It) (f0 : Fo), FNm sw f0 → (∀ i ∈ its, Spc i.a ∧ Spc i.b ∧ P i.g i.t) → FNm sw (its.foldl (fun f i => op f i.g) f0) := by
    intro its
    induction its with
    | nil => intro f0 a _; exact a
    | cons i r ih =>
      intro f0 a b
      exact ih (op f0 i.g) (hop _ _ a (hP _ _ (b i List.mem_cons_self).2.2)) fun j hj => b j (List.mem_cons_of_mem _ hj)
  exact go its f0 (hP _ _ h1) h2
theorem PrP.depth {sw : List Str} (ok : SwOk sw) : ∀ {n : Nat} {f : Fo} {s : List Nat}, PrP sw n f s → f.depth ≤ s.length
  | 0, _, _, h => h.elim
  | n + 1, f, s, h => by
    rcases h with ⟨x, hx, rfl, rfl⟩ | ⟨rfl, rfl⟩ | ⟨rfl, rfl⟩ | ⟨g, t, a, h1, h2, rfl, rfl⟩ | ⟨t, a, b, h1, h2, h3, rfl⟩
    · have z := (ok.ltr x hx).1
      have y := List.length_pos_iff.mpr z
      show 1 ≤ _
      omega
    · exact Nat.le_refl _
    · exact Nat.le_refl _
    · have z := PrP.depth ok h1
      simp only [Fm.depth, List.length_cons, List.length_append]
      omega
    · have z := chain_depth (fun _ _ => rfl) (fun f s q => chain_depth (fun _ _ => rfl) (fun f s q => PrP.depth ok q) q) h1
      simp only [List.length_cons, List.length_append]
      omega
theorem PrE.depth {sw : List Str} (ok : SwOk sw) {n : Nat} {f : Fo} {s : List Nat} (h : PrE sw n f s) : f.depth ≤ s.length :=
  chain_depth (fun _ _ => rfl) (fun _ _ q => chain_depth (fun _ _ => rfl) (fun _ _ q => PrP.depth ok q) q) h
theorem PrP.names {sw : List Str} : ∀ {n : Nat} {f : Fo} {s : List Nat}, PrP sw n f s → FNm sw f
  | 0, _, _, h => h.elim
  | n + 1, f, s, h => by
    rcases h with ⟨x, hx, rfl, rfl⟩ | ⟨rfl, rfl⟩ | ⟨rfl, rfl⟩ | ⟨g, t, a, h1, h2, rfl, rfl⟩ | ⟨t, a, b, h1, h2, h3, rfl⟩
    · exact hx
    · exact trivial
    · exact trivial
    · exact PrP.names (f := g) h1
    · exact chain_names (op := .or) (fun _ _ a b => ⟨a, b⟩) (fun f s q => chain_names (op := .and) (fun _ _ a b => ⟨a, b⟩) (fun f s q => PrP.names q) q) h1
theorem PrE.names {sw : List Str} {n : Nat} {f : Fo} {s : List Nat} (h : PrE sw n f s) : FNm sw f :=
  chain_names (op := .or) (fun _ _ a b => ⟨a, b⟩) (fun f s q => chain_names (op := .and) (fun _ _ a b => ⟨a, b⟩) (fun f s q => PrP.names q) q) h
end OF

set_option Elab.async false
set_option linter.all false
set_option maxRecDepth 100000
set_option maxHeartbeats 4000000
/-! A3: the text by places, calls in short, what stands on the heap. -/
namespace OF
open PySem L2

/-! ### the text -/
def top (i : Nat) : Stmt := PySem.Challenge.pw_oncefolded_k03_whole_folding_is_choosing.main.body.getD i (.Pass ⟨0, 0, 0, 0⟩)
abbrev sSwitch : Stmt := top 1
abbrev sNode : Stmt := top 2
abbrev sSame : Stmt := top 3
abbrev sNegated : Stmt := top 4
abbrev sBoth : Stmt := top 5
abbrev sEither : Stmt := top 6
abbrev sDiagOf : Stmt := top 7
abbrev sHolds : Stmt := top 8
abbrev sRInit : Stmt := inClass (top 16) 0
abbrev sPeek : Stmt := inClass (top 16) 1
abbrev sName : Stmt := inClass (top 16) 2
abbrev sPart : Stmt := inClass (top 16) 3
abbrev sRBoth : Stmt := inClass (top 16) 4
abbrev sREither : Stmt := inClass (top 16) 5
abbrev sReadF : Stmt := top 17
abbrev sLinesOf : Stmt := top 25
abbrev sIsFile : Stmt := top 26
abbrev sIsContent : Stmt := top 27
abbrev sFInit : Stmt := inClass (top 28) 0
abbrev sContent : Stmt := inClass (top 28) 1
abbrev sCondition : Stmt := inClass (top 28) 2
abbrev sUse : Stmt := inClass (top 28) 3
abbrev sDirective : Stmt := inClass (top 28) 4
abbrev sFile : Stmt := inClass (top 28) 5
abbrev sFold : Stmt := top 29
abbrev sChoose : Stmt := top 30
abbrev sMix : Stmt := top 32
abbrev sTape : Stmt := top 33
abbrev sTake : Stmt := top 34
abbrev sSwitches : Stmt := top 35
abbrev sGap : Stmt := top 36
abbrev sLPart : Stmt := top 37
abbrev sLBoth : Stmt := top 38
abbrev sLEither : Stmt := top 39
abbrev sFormula : Stmt := top 40
abbrev sAll : Stmt := top 41
abbrev sTrue : Stmt := top 42
abbrev sDiagram : Stmt := top 43
abbrev sLSame : Stmt := top 44
abbrev sBody : Stmt := top 45
abbrev sShelf : Stmt := top 46
abbrev sClosed : Stmt := top 47
abbrev sReading : Stmt := top 48
abbrev sPresent : Stmt := top 49
abbrev sLaw : Stmt := top 50

/-! ### defs and methods as they stand behind the top -/
/-- a def of the top: where it stands, how it is called -/
structure Gb (K : PySem.W.Frag) (mg : Str → Option Value) (x : Str) (st : Stmt) (ps : List Str) where
  f : Addr
  fd : FuncData
  F : Fun K x x st f fd
  m : mg x = some (.ref f)
  b : Binds K fd ps []
/-- a method of the class at C -/
structure Mb (K : PySem.W.Frag) (C : Addr) (m qual : Str) (st : Stmt) (ps : List Str) where
  f : Addr
  fd : FuncData
  F : Fun K m qual st f fd
  m : Meth K C m f
  b : Binds K fd ps []
/-- the __init__ of the class at C -/
structure Ib (K : PySem.W.Frag) (C : Addr) (qual : Str) (st : Stmt) (ps : List Str) where
  f : Addr
  fd : FuncData
  F : Fun K "__init__" qual st f fd
  m : Mk K C f
  b : Binds K fd ps []

section
variable {X : Cx} {x : Str} {st : Stmt} {ps : List Str} {k : Nat} {sp : Sp} {e o : Expr} {es : List Expr} {t : TA} {ta : TE} {p pos apos : Pos} {C : Addr} {m q : Str}
theorem pcall (D : Gb X.K X.mg x st ps) (G : FnOk X.prog X.w X.K X.mg X.base CX0 k D.f D.fd ps sp) (hr : Room k X.A) (ha : PA X (e :: es) t) (hg : Gl X x := by rfl) (hdb : (x == ("__debug__" : Str)) = false := by decide)
    (he : starEach (e :: es) X.env = (false, eval e X.env) :: starEach es X.env := by rfl) (hpl : (backTo pos (starEach es X.env)).any (·.1) = false := by rfl) : PE X (.Call (.Name x p) (e :: es) [] pos) (tCall sp [] E0 t) :=
  pe_call G hr hg D.m D.F.kp D.b .nil pass0 ha hdb he hpl
theorem pmeth0 {pl : Sem Bool} (D : Mb X.K C m q st ps) (c : Cls X.K C) (G : FnOk X.prog X.w X.K X.mg X.base CX0 k D.f D.fd ps sp) (hr : Room k X.A) (he : PE X o ta)
    (ht : eval (.Call (.Attribute o m apos) [] [] pos) X.env = (do
      let ov ← eval o X.env
      standAt apos.atName
      let (f, first) ← holding [ov] (getMethod ov m pl)
      callWith pos f first (backTo pos (starEach [] X.env)) (backToKw pos (keywordEach [] X.env))) := by rfl) :
    PE X (.Call (.Attribute o m apos) [] [] pos) (tMeth C m sp [] E0 ta tNil) :=
  pe_meth0 he c D.m G hr D.b .nil pass0 ht
theorem pmeth {pl : Sem Bool} (D : Mb X.K C m q st ps) (c : Cls X.K C) (G : FnOk X.prog X.w X.K X.mg X.base CX0 k D.f D.fd ps sp) (hr : Room k X.A) (he : PE X o ta) (ha : PA X (e :: es) t)
    (hst : starEach (e :: es) X.env = (false, eval e X.env) :: starEach es X.env := by rfl) (hpl : (backTo pos (starEach es X.env)).any (·.1) = false := by rfl)
    (ht : eval (.Call (.Attribute o m apos) (e :: es) [] pos) X.env = (do
      let ov ← eval o X.env
      standAt apos.atName
      let (f, first) ← holding [ov] (getMethod ov m pl)
      callWith pos f first (backTo pos (starEach (e :: es) X.env)) (backToKw pos (keywordEach [] X.env))) := by rfl) :
    PE X (.Call (.Attribute o m apos) (e :: es) [] pos) (tMeth C m sp [] E0 ta t) :=
  pe_meth he c D.m G hr D.b .nil pass0 ha hst hpl ht
end
section
variable {P : Program} {w : World} {K : PySem.W.Frag} {mg : Str → Option Value} {base : Heap}
/-- what no call asks is kept -/
theorem never_ok {k : Nat} {f : Addr} {fd : FuncData} {ps : List Str} {sp : Sp} (no : ∀ vs H Q E, ¬ sp vs H Q E) : FnOk P w K mg base CX0 k f fd ps sp :=
  ⟨fun vs H Q E h => absurd h (no vs H Q E), fun A outer s H args us vs Q E _ _ _ _ h => absurd h (no vs H Q E)⟩
end

/-! ### heaps -/
theorem same_new {H : Hp} {p : Addr} {o : HO} (h : H p = none) : Same H (upd H p o) := fun b x e => by
  rw [upd_ne (ne_of_none e h)]
  exact e
/-- all that was tracked but the object at a is as it was -/
def But (a : Addr) (H H' : Hp) : Prop := ∀ b o, H b = some o → b ≠ a → H' b = some o
theorem But.of {a : Addr} {H H' : Hp} (s : Same H H') : But a H H' := fun b o e _ => s b o e
theorem But.trans {a : Addr} {H H1 H2 : Hp} (s : But a H H1) (t : But a H1 H2) : But a H H2 := fun b o e n => t b o (s b o e n) n
theorem But.upd {a : Addr} {H : Hp} {o : HO} : But a H (upd H a o) := fun b x e n => by
  rw [upd_ne n]
  exact e
/-- what was not there stays apart from what is told -/
theorem But.new {a : Addr} {H H1 H2 : Hp} (h : H a = none) (s : Same H H1) (t : But a H1 H2) : Same H H2 := fun b o e => t b o (s b o e) (ne_of_none e h)

/-! ### diagrams on the heap -/
def DAt (H : Hp) : V → Dg → Prop
  | v, .lf b => v = .bl b
  | v, .nd i lo hi => ∃ p vl vh, v = .ref p ∧ H p = some (.tup [.int (i : Int), vl, vh]) ∧ DAt H vl lo ∧ DAt H vh hi
theorem DAt.same {H H' : Hp} (s : Same H H') : ∀ {d : Dg} {v : V}, DAt H v d → DAt H' v d
  | .lf _, _, h => h
  | .nd _ _ _, _, ⟨p, vl, vh, e, hp, h1, h2⟩ => ⟨p, vl, vh, e, s _ _ hp, h1.same s, h2.same s⟩
def dgData : Dg → PyData
  | .lf b => .bool b
  | .nd i lo hi => .tuple [.int (i : Int), dgData lo, dgData hi]
theorem DAt.dp {K : PySem.W.Frag} {H : Hp} : ∀ {d : Dg} {v : V}, DAt H v d → Dp K H v (dgData d)
  | .lf b, _, h => by
    have e : _ = V.bl b := h
    subst e
    exact .bl b
  | .nd i lo hi, _, ⟨p, vl, vh, e, hp, h1, h2⟩ => by
    subst e
    exact .tup (.inl (.inl hp)) (.cons (.int _) (.cons h1.dp (.cons h2.dp .nil)))
theorem dg_lay : ∀ d : Dg, (dgData d).canLay0 = true
  | .lf _ => rfl
  | .nd _ lo hi => by
    simp [dgData, PyData.canLay0, PyData.canLayAll0, dg_lay lo, dg_lay hi]
theorem dg_depth : ∀ d : Dg, (dgData d).depth ≤ d.depth
  | .lf _ => Nat.le_refl _
  | .nd _ lo hi => by
    have a := dg_depth lo
    have b := dg_depth hi
    simp only [dgData, PyData.depth, PyData.depthAll, Dg.depth]
    omega
theorem dg_shaped {d : Dg} (h : d.depth ≤ 60) : SeqAt.shaped (dgData d) = true := by
  unfold SeqAt.shaped
  have a := dg_depth d
  rw [dg_lay, decide_eq_true (by omega)]
  rfl
theorem dg_eqv : ∀ d e : Dg, PyData.eqv (dgData d) (dgData e) = decide (d = e)
  | .lf a, .lf b => by
    simp only [dgData, PyData.eqv, Dg.lf.injEq]
    cases a <;> cases b <;> rfl
  | .lf a, .nd _ _ _ => by
    simp [dgData, PyData.eqv]
  | .nd _ _ _, .lf b => by
    simp [dgData, PyData.eqv]
  | .nd i l h, .nd j l' h' => by
    simp only [dgData, PyData.eqv, PyData.eqvAll, dg_eqv l l', dg_eqv h h', Dg.nd.injEq]
    by_cases c : i = j
    · subst c
      simp
    · have c' : ¬ ((i : Int) = (j : Int)) := by omega
      simp [c, c']
/-- isinstance(v, tuple) of a diagram -/
def Dg.isT : Dg → Bool
  | .lf _ => false
  | .nd _ _ _ => true
theorem DAt.ty {K : PySem.W.Frag} {H : Hp} {d : Dg} {v : V} (h : DAt H v d) : ∃ t, TyX K H v t ∧ PySem.W.kitOne K t (.type "tuple") = some d.isT ∧ PySem.W.kitOne K t (.type "bool") = some (!d.isT) := by
  cases d with
  | lf b =>
    have e : v = V.bl b := h
    subst e
    exact ⟨_, .base (.bl b), kit_ty (b := "tuple") (r := false) (by decide +kernel), kit_ty (b := "bool") (r := true) (by decide +kernel)⟩
  | nd i lo hi =>
    obtain ⟨p, vl, vh, e, hp, _⟩ := h
    subst e
    exact ⟨_, .base (.tup hp), kit_ty (b := "tuple") (r := true) (by decide +kernel), kit_ty (b := "bool") (r := false) (by decide +kernel)⟩
/-- isinstance(d, tuple), isinstance(d, bool) for a diagram d -/
def rIsT : List V → Hp → VK → Prop := fun xs H Q => ∃ v d, xs = [v, .ty "tuple"] ∧ DAt H v d ∧ Q (.bl d.isT) H
def rIsBool : List V → Hp → VK → Prop := fun xs H Q => ∃ v d, xs = [v, .ty "bool"] ∧ DAt H v d ∧ Q (.bl (!d.isT)) H
section
variable {X : Cx}
theorem call_isT : CallR X (.builtin "isinstance") rIsT := by
  intro pins s σ H xs us Q I r h
  obtain ⟨v, d, rfl, hd, q⟩ := h
  obtain ⟨t, ty, k, _⟩ := hd.ty (K := X.K)
  exact call_isi pins s σ H _ us Q I r ⟨v, _, t, _, d.isT, rfl, .ty "tuple", ty, k, q⟩
theorem call_isBool : CallR X (.builtin "isinstance") rIsBool := by
  intro pins s σ H xs us Q I r h
  obtain ⟨v, d, rfl, hd, q⟩ := h
  obtain ⟨t, ty, _, k⟩ := hd.ty (K := X.K)
  exact call_isi pins s σ H _ us Q I r ⟨v, _, t, _, !d.isT, rfl, .ty "bool", ty, k, q⟩
/-- isinstance(e, tuple), as an expression -/
theorem p_isT {a : Expr} {ta : TE} {p q pos : Pos} (hm : X.mg "isinstance" = none) (ht : X.mg "tuple" = none) (ha : PE X a ta) (hg : Gl X "isinstance" := by rfl) (hg2 : Gl X "tuple" := by rfl)
    (he : starEach (a :: [.Name "tuple" q]) X.env = (false, eval a X.env) :: starEach [.Name "tuple" q] X.env := by rfl) (hpl : (backTo pos (starEach [.Name "tuple" q] X.env)).any (·.1) = false := by rfl) :
    PE X (.Call (.Name "isinstance" p) [a, .Name "tuple" q] [] pos) (tCB rIsT (tCons ta (tCons (tC (.ty "tuple")) tNil))) :=
  pe_callB call_isT hg hm (by decide +kernel) (pa_cons ha (pa_cons (pe_bltn hg2 ht (u := .type "tuple") (by decide +kernel) rfl) pa_nil) he) (by decide) (by decide) he hpl
end
end OF

set_option Elab.async false
set_option linter.all false
set_option maxRecDepth 100000
set_option maxHeartbeats 4000000
/-! A4: own rules: a tuple whose object is known to have no dict (so that its methods may be called), x.index(y) of it, «is not False». -/
namespace OF
open PySem PySem.Spec PyProof.Rows L2
/-- a plain tuple, told with its object -/
def TupF (H : Hp) (p : Addr) (xs : List V) : Prop := ∃ o : Obj, o.dict = none ∧ H p = some (.frz o (.tup xs))
theorem TupF.seq {K : PySem.W.Frag} {H : Hp} {p : Addr} {xs : List V} : TupF H p xs → SqT K H p xs := fun ⟨o, _, h⟩ => .inl (.inr ⟨o, h⟩)
theorem TupF.same {H H' : Hp} (s : Same H H') {p : Addr} {xs : List V} : TupF H p xs → TupF H' p xs := fun ⟨o, e, h⟩ => ⟨o, e, s _ _ h⟩
/-- a new plain tuple -/
def tTupF (t : TA) : TE := fun σ H Q => t σ H fun xs H1 => xs.length ≤ sizeLine ∧ ∀ p, H1 p = none → ∀ o : Obj, o.dict = none → Q (.ref p) (upd H1 p (.frz o (.tup xs)))
def rTupF (K : PySem.W.Frag) : List V → Hp → VK → Prop := fun xs H Q => ∃ p ys, xs = [.ref p] ∧ SqL K H p ys ∧ ∀ l, H l = none → ∀ o : Obj, o.dict = none → Q (.ref l) (upd H l (.frz o (.tup ys)))
def tIndex (K : PySem.W.Frag) (to ta : TE) : TE := fun σ H Q => to σ H fun x H1 => ∃ p, ∃ ys : List Str, x = .ref p ∧ TupF H1 p (ys.map V.str) ∧ tCons ta tNil σ H1 fun vs H2 => ∃ z j, vs = [.str z] ∧ TupF H2 p (ys.map V.str) ∧ ys[j]? = some z ∧ (∀ m, m < j → ys[m]? ≠ some z) ∧ Q (.int (j : Nat)) H2
def rNotFalse : R2 := fun x y H Q => y = .bl false ∧ ((∃ b, x = .bl b ∧ Q (.bl b) H) ∨ (∃ a, x = .ref a ∧ Q (.bl true) H))
section
variable {X : Cx}
theorem pe_tupF {es : List Expr} {t : TA} {x1} {pos : Pos} (h : PA X es t) : PE X (.Tuple es x1 pos) (tTupF t) := by
  refine ⟨fun pins s σ H Q I hq => ?_⟩
  refine wpAny_Tuple_spliced (thn (h.run pos pins s σ H _ I hq) fun us s1 ⟨xs, H1, I1, r, z, q⟩ => ⟨by rw [← r.length]; exact z, ?_⟩)
  have hf : H1 s1.heap.objs.size = none := I1.hok.fresh (Nat.le_refl _)
  refine ⟨.ref s1.heap.objs.size, upd H1 s1.heap.objs.size (.frz { cls := .type "tuple", data := .seq us.toArray } (.tup xs)), I1.laid (t' := s1.toks) (fun b u e => Heap.get?_push_of_some _ e) (Nat.le_refl _) ?_, rfl, q _ hf _ rfl⟩
  exact ⟨Heap.get?_push_size _ rfl, z, us, r, ⟨_, Heap.get?_push_size _ rfl, rfl, _, rfl⟩⟩
theorem call_tupleF : CallR X (.type "tuple") (rTupF X.K) := by
  intro pins s σ H xs us Q I r h
  obtain ⟨p, ys, rfl, hq, q⟩ := h
  obtain ⟨u, rfl, rx⟩ := vals1 r
  cases rx
  obtain ⟨its, r', pl, hz⟩ := I.list hq
  have hlen := r'.length
  refine call_tuple_list pl.isList (fun h' kp => ?_) (by simp only [List.size_toArray] <;> omega)
  have I1 : Inv X pins σ H { s with heap := h' } := I.kept (t' := s.toks) kp
  have I2 : Inv X pins σ (upd H h'.objs.size (.frz { cls := .type "tuple", data := .seq its.toArray } (.tup ys))) { s with heap := h'.push { cls := .type "tuple", data := .seq its.toArray } } :=
    I1.laid (t' := s.toks) (fun b o e => Heap.get?_push_of_some _ e) (Nat.le_refl _) (show ObjOk X.prog X.w _ _ _ (.frz _ (.tup ys)) from ⟨Heap.get?_push_size _ rfl, hz, its, r', IsTup.new _ _⟩)
  exact ⟨.ref h'.objs.size, _, I2, rfl, q _ (I1.hok.fresh (Nat.le_refl _)) _ rfl⟩
theorem op_notFalse : OpR X (compareOp .IsNot) rNotFalse := by
  intro pins s σ H x y v u Q I rx ry h
  obtain ⟨rfl, h⟩ := h
  cases (show u = Value.bool false from ry)
  rcases h with ⟨b, rfl, q⟩ | ⟨a, rfl, q⟩
  · cases (show v = Value.bool b from rx)
    cases b with
    | false => exact wpAny_isNot_self rfl ⟨.bl false, H, I, rfl, q⟩
    | true => exact wpAny_isNot_other rfl (fun z => nomatch z) ⟨.bl true, H, I, rfl, q⟩
  · cases (show v = Value.ref a from rx)
    exact wpAny_isNot_other rfl (fun z => nomatch z) ⟨.bl true, H, I, rfl, q⟩
/-- t.index(x) -/
theorem pe_index {o e : Expr} {to ta : TE} {apos cpos : Pos} (ho : PE X o to) (ha : PE X e ta)
    (hbase : attributeBase o "index" X.env (eval o X.env) = eval o X.env := by rfl)
    (hfew : ((backTo cpos (starEach [e] X.env)).all (fun x => !x.1) && (backToKw cpos (keywordEach [] X.env)).all (fun x => x.1.isSome)
      && decide ([e].length + ([] : List Keyword).length + (if ([] : List Keyword).isEmpty then 0 else 1) < 30)) = true := by rfl)
    (hline : (apos.endLine == cpos.line) = true := by rfl) (hs : starEach (e :: []) X.env = (false, eval e X.env) :: starEach [] X.env := by rfl) (hplain : (backTo cpos (starEach [] X.env)).any (·.1) = false := by rfl) :
    PE X (.Call (.Attribute o "index" apos) [e] [] cpos) (tIndex X.K to ta) := by
  refine ⟨fun pins s σ H Q I h => ?_⟩
  refine wpAny_Call_method_late hbase hfew hline rfl (thn (ho.run pins s σ H _ I h) fun v s1 ⟨x, H1, I1, r1, p, ys, ex, tf, q1⟩ => ?_)
  subst ex
  cases r1
  obtain ⟨ob, hd, hp⟩ := tf
  obtain ⟨hob, _, its, rr, ob', hob', hc, nn, hdd⟩ := I1.hok p _ hp
  rw [hob] at hob'
  cases hob'
  refine ⟨"tuple", "tuple.index", PySem.F.plainAttrs_tuple, PySem.F.slot_tuple_index, PySem.F.type_tuple_index, ⟨ob, hob, hc⟩, fun a ea => ?_, ?_⟩
  · cases ea
    exact ⟨ob, hob, hd⟩
  · have hA := (pa_cons ha pa_nil hs).run cpos pins s1 σ H1 _ I1 q1
    rw [hs] at hA ⊢
    refine Calls.callWith_builtin (by show (false || (backTo cpos (starEach [] X.env)).any (·.1)) = false; rw [hplain] <;> rfl) (Calls.evalArgs_plain ?_)
    exact thn hA fun us s2 ⟨vs, H2, I2, r2, q2⟩ => by
      obtain ⟨z, j, ey, tf2, g1, g2, q3⟩ := q2
      subst ey
      exact mt_tup_index pins s2 σ H2 (.ref p) _ _ us Q I2 rfl r2 ⟨p, ys, z, j, rfl, rfl, tf2.seq, g1, g2, q3⟩
end
end OF

set_option Elab.async false
set_option linter.all false
set_option maxRecDepth 100000
set_option maxHeartbeats 4000000
/-! B1: the diagrams' defs. -/
namespace OF
open PySem L2
/-! ### promises -/
/-- switch(i) -/
def spSwitch : Sp := fun vs H Q _ => ∃ i : Nat, vs = [.int (i : Int)] ∧ ∀ v H', Same H H' → DAt H' v (.nd i (.lf false) (.lf true)) → Q v H'
/-- same(d, e) -/
def spSame : Sp := fun vs H Q _ => ∃ v u d e, vs = [v, u] ∧ DAt H v d ∧ DAt H u e ∧ d.depth ≤ 60 ∧ e.depth ≤ 60 ∧ Q (.bl (decide (d = e))) H
/-- node(i, low, high) -/
def spNode : Sp := fun vs H Q _ => ∃ (i : Nat) (v u : V) (d e : Dg), vs = [.int (i : Int), v, u] ∧ DAt H v d ∧ DAt H u e ∧ d.depth ≤ 60 ∧ e.depth ≤ 60 ∧ ∀ x H', Same H H' → DAt H' x (mk i d e) → Q x H'
/-- negated(d) -/
def spNeg (n : Nat) : Sp := fun vs H Q _ => ∃ v d, vs = [v] ∧ DAt H v d ∧ d.depth < n ∧ ∀ x H', Same H H' → DAt H' x d.neg → Q x H'
/-- both(d, e) -/
def spBoth (N n : Nat) : Sp := fun vs H Q _ => ∃ (v u : V) (d e : Dg) (i : Nat), vs = [v, u] ∧ DAt H v d ∧ DAt H u e ∧ Red N i d ∧ Red N i e ∧ i ≤ N ∧ N < i + n ∧ N ≤ 60 ∧
  ∀ x r H', Same H H' → DAt H' x r → Red N i r → (∀ q, r.ev q = (d.ev q && e.ev q)) → Q x H'
/-- either(d, e) -/
def spEither (N : Nat) : Sp := fun vs H Q _ => ∃ (v u : V) (d e : Dg), vs = [v, u] ∧ DAt H v d ∧ DAt H u e ∧ Red N 0 d ∧ Red N 0 e ∧ N ≤ 60 ∧
  ∀ x r H', Same H H' → DAt H' x r → Red N 0 r → (∀ q, r.ev q = (d.ev q || e.ev q)) → Q x H'

section
variable {P : Program} {w : World} {K : PySem.W.Frag} {mg : Str → Option Value} {base : Heap}
theorem scSwitch : FnScope ["i"] ["i"] (defScope sSwitch) := ⟨rfl, rfl, rfl, by decide +kernel, rfl, by decide +kernel, by decide +kernel⟩
theorem ok_switch {f : Addr} {fd : FuncData} (F : Fun K "switch" "switch" sSwitch f fd) : FnOk P w K mg base CX0 1 f fd ["i"] spSwitch := by
  refine F.ok scSwitch (fun vs H Q E h => ?_) (fun cdv A outer s H vs Q E hr h => ?_)
  · obtain ⟨i, rfl, _⟩ := h
    rfl
  obtain ⟨i, rfl, k⟩ := h
  refine ⟨_, pss_one (ps_ret (pe_tup (pa_cons (pv 0) (pa_cons pe_bl (pa_cons pe_bl pa_nil))))), ?_⟩
  refine ⟨_, rfl, (by show 3 ≤ sizeLine; decide), fun p hp => ?_⟩
  exact k _ _ (same_new hp) ⟨p, _, _, rfl, upd_same, rfl, rfl⟩

theorem scSame : FnScope ["d", "e"] ["d", "e"] (defScope sSame) := ⟨rfl, rfl, rfl, by decide +kernel, rfl, by decide +kernel, by decide +kernel⟩
theorem ok_same {f : Addr} {fd : FuncData} (F : Fun K "same" "same" sSame f fd) (mi : mg "isinstance" = none) (mt : mg "tuple" = none) : FnOk P w K mg base CX0 1 f fd ["d", "e"] spSame := by
  refine F.ok scSame (fun vs H Q E h => ?_) (fun cdv A outer s H vs Q E hr h => ?_)
  · obtain ⟨v, u, d, e, rfl, _⟩ := h
    rfl
  obtain ⟨v, u, d, e, rfl, hd, he, zd, ze, k⟩ := h
  refine ⟨_, pss_one (ps_ret (pe_and (pe_cmpR (op_eqD hr.units) (pv 0) (pv 1) (nomark _)) (pe_one (pe_cmpR op_eq (p_isT mi mt (pv 0)) (p_isT mi mt (pv 1)) (nomark _))))), ?_⟩
  refine ⟨_, rfl, _, rfl, _, _, hd.dp, he.dp, dg_shaped zd, dg_shaped ze, _, rfl, ?_⟩
  rw [dg_eqv]
  refine ite2 (fun c => ?_) (fun c => ?_)
  · have c' : d = e := of_decide_eq_true c
    subst c'
    refine ⟨_, rfl, _, d, rfl, hd, _, rfl, _, d, rfl, he, rfl, ?_⟩
    rw [decide_eq_true rfl] at k ⊢
    exact k
  · rw [Bool.eq_false_iff.mpr c] at k
    exact k
theorem scNode : FnScope ["i", "low", "high"] ["i", "low", "high"] (defScope sNode) := ⟨rfl, rfl, rfl, by decide +kernel, rfl, by decide +kernel, by decide +kernel⟩
theorem ok_node {f : Addr} {fd : FuncData} (F : Fun K "node" "node" sNode f fd) (DS : Gb K mg "same" sSame ["d", "e"]) (mi : mg "isinstance" = none) (mt : mg "tuple" = none) : FnOk P w K mg base CX0 2 f fd ["i", "low", "high"] spNode := by
  refine F.ok scNode (fun vs H Q E h => ?_) (fun cdv A outer s H vs Q E hr h => ?_)
  · obtain ⟨i, v, u, d, e, rfl, _⟩ := h
    rfl
  obtain ⟨i, v, u, d, e, rfl, hd, he, zd, ze, k⟩ := h
  have G := ok_same (P := P) (w := w) (base := base) DS.F mi mt
  refine ⟨_, pss_one (ps_ret (pe_ifExp (pt_val (pcall DS G hr (pa_cons (pv 1) (pa_cons (pv 2) pa_nil)))) (pv 1) (pe_tup (pa_cons (pv 0) (pa_cons (pv 1) (pa_cons (pv 2) pa_nil)))))), ?_⟩
  refine ⟨_, rfl, _, rfl, v, u, d, e, rfl, hd, he, zd, ze, _, rfl, ?_⟩
  refine ite2 (fun c => ?_) (fun c => ?_)
  · have c' : d = e := of_decide_eq_true c
    subst c'
    refine ⟨_, rfl, k _ _ (Same.refl H) ?_⟩
    unfold mk
    rw [if_pos rfl]
    exact hd
  · have c' : ¬ d = e := fun z => c (decide_eq_true z)
    refine ⟨_, rfl, _, rfl, _, rfl, (by show 3 ≤ sizeLine; decide), fun p hp => ?_⟩
    refine k _ _ (same_new hp) ?_
    unfold mk
    rw [if_neg c']
    exact ⟨p, v, u, rfl, upd_same, hd.same (same_new hp), he.same (same_new hp)⟩
theorem scNeg : FnScope ["d"] ["d"] (defScope sNegated) := ⟨rfl, rfl, rfl, by decide +kernel, rfl, by decide +kernel, by decide +kernel⟩
theorem ok_neg (D : Gb K mg "negated" sNegated ["d"]) (mi : mg "isinstance" = none) (mt : mg "tuple" = none) : ∀ n : Nat, FnOk P w K mg base CX0 n D.f D.fd ["d"] (spNeg n)
  | 0 => never_ok fun vs H Q E h => by
    obtain ⟨v, d, _, _, z, _⟩ := h
    omega
  | n + 1 => by
    have G := ok_neg D mi mt n
    refine D.F.ok scNeg (fun vs H Q E h => ?_) (fun cdv A outer s H vs Q E hr h => ?_)
    · obtain ⟨v, d, rfl, _⟩ := h
      rfl
    obtain ⟨v, d, rfl, hd, z, k⟩ := h
    refine ⟨_, pss_cons (ps_if (pt_not (pt_val (p_isT mi mt (pv 0)))) (pss_one (ps_ret (pe_not (pv 0)))) pss_nil)
      (pss_one (ps_ret (pe_tup (pa_cons (pe_ix ix_tup (pv 0) pe_int (fun _ _ => rfl)) (pa_cons (pcall D G hr (pa_cons (pe_ix ix_tup (pv 0) pe_int (fun _ _ => rfl)) pa_nil)) (pa_cons (pcall D G hr (pa_cons (pe_ix ix_tup (pv 0) pe_int (fun _ _ => rfl)) pa_nil)) pa_nil)))))), ?_⟩
    refine ⟨_, rfl, _, d, rfl, hd, _, rfl, ?_⟩
    cases d with
    | lf b =>
      have e : v = V.bl b := hd
      subst e
      refine iteT ?_
      exact ⟨_, rfl, b, rfl, k _ _ (Same.refl H) rfl⟩
    | nd i lo hi =>
      obtain ⟨p, vl, vh, rfl, hp, hl, hh⟩ := hd
      refine iteF ?_
      have zz : max lo.depth hi.depth + 1 < n + 1 := z
      refine ⟨_, rfl, p, _, _, _, rfl, rfl, .inl (.inl hp), at_of (j := 0) rfl rfl, ?_⟩
      refine ⟨_, rfl, p, _, _, _, rfl, rfl, .inl (.inl hp), at_of (j := 1) rfl rfl, vl, lo, rfl, hl, by omega, fun x H1 s1 h1 => ?_⟩
      have hp1 := s1 _ _ hp
      refine ⟨_, rfl, p, _, _, _, rfl, rfl, .inl (.inl hp1), at_of (j := 2) rfl rfl, vh, hi, rfl, hh.same s1, by omega, fun y H2 s2 h2 => ?_⟩
      refine ⟨(by show 3 ≤ sizeLine; decide), fun q hq => ?_⟩
      exact k _ _ ((s1.trans s2).trans (same_new hq)) ⟨q, x, y, rfl, upd_same, (h1.same s2).same (same_new hq), h2.same (same_new hq)⟩
end
end OF

set_option Elab.async false
set_option linter.all false
set_option maxRecDepth 100000
set_option maxHeartbeats 4000000
/-! B2: both, either, diagram_of, holds. -/
namespace OF
open PySem L2
/-- the defs of diagrams as they stand -/
structure DgT (K : PySem.W.Frag) (mg : Str → Option Value) where
  switch : Gb K mg "switch" sSwitch ["i"]
  node : Gb K mg "node" sNode ["i", "low", "high"]
  same : Gb K mg "same" sSame ["d", "e"]
  neg : Gb K mg "negated" sNegated ["d"]
  both : Gb K mg "both" sBoth ["d", "e"]
  either : Gb K mg "either" sEither ["d", "e"]
  diag : Gb K mg "diagram_of" sDiagOf ["switches", "formula"]
  holds : Gb K mg "holds" sHolds ["d", "configuration"]
  mi : mg "isinstance" = none
  mt : mg "tuple" = none
section
variable {P : Program} {w : World} {K : PySem.W.Frag} {mg : Str → Option Value} {base : Heap}
theorem scBoth : FnScope ["d", "e"] ["d", "e"] (defScope sBoth) := ⟨rfl, rfl, rfl, by decide +kernel, rfl, by decide +kernel, by decide +kernel⟩
theorem ok_both (T : DgT K mg) (N : Nat) : ∀ n : Nat, FnOk P w K mg base CX0 (n + 2) T.both.f T.both.fd ["d", "e"] (spBoth N n)
  | 0 => never_ok fun vs H Q E h => by
    obtain ⟨v, u, d, e, i, _, _, _, _, _, z1, z2, _⟩ := h
    omega
  | n + 1 => by
    have G := ok_both T N n
    have GN : FnOk P w K mg base CX0 2 T.node.f T.node.fd ["i", "low", "high"] spNode := ok_node T.node.F T.same T.mi T.mt
    refine T.both.F.ok scBoth (fun vs H Q E h => ?_) (fun cdv A outer s H vs Q E hr h => ?_)
    · obtain ⟨v, u, d, e, i, rfl, _⟩ := h
      rfl
    obtain ⟨v, u, d, e, i, rfl, hd, he, rd, re, z1, z2, z3, k⟩ := h
    have hr2 : Room 2 _ := hr.mono (by omega)
    refine ⟨_, (pss_cons (ps_if (pt_not (pt_val (p_isT T.mi T.mt (pv 0)))) (pss_one (ps_ret (pe_ifExp (pt_val (pv 0)) (pv 1) pe_bl))) pss_nil)
          (pss_cons (ps_if (pt_not (pt_val (p_isT T.mi T.mt (pv 1)))) (pss_one (ps_ret (pe_ifExp (pt_val (pv 1)) (pv 0) pe_bl))) pss_nil)
          (pss_cons (ps_if (pt_cmpR op_lt (pe_ix ix_tup (pv 0) pe_int (fun _ _ => rfl)) (pe_ix ix_tup (pv 1) pe_int (fun _ _ => rfl)) (nomark _)) (pss_one (ps_ret (pcall T.node GN hr2 (pa_cons (pe_ix ix_tup (pv 0) pe_int (fun _ _ => rfl)) (pa_cons (pcall T.both G hr (pa_cons (pe_ix ix_tup (pv 0) pe_int (fun _ _ => rfl)) (pa_cons (pv 1) pa_nil))) (pa_cons (pcall T.both G hr (pa_cons (pe_ix ix_tup (pv 0) pe_int (fun _ _ => rfl)) (pa_cons (pv 1) pa_nil))) pa_nil)))))) pss_nil)
          (pss_cons (ps_if (pt_cmpR op_gt (pe_ix ix_tup (pv 0) pe_int (fun _ _ => rfl)) (pe_ix ix_tup (pv 1) pe_int (fun _ _ => rfl)) (nomark _)) (pss_one (ps_ret (pcall T.node GN hr2 (pa_cons (pe_ix ix_tup (pv 1) pe_int (fun _ _ => rfl)) (pa_cons (pcall T.both G hr (pa_cons (pv 0) (pa_cons (pe_ix ix_tup (pv 1) pe_int (fun _ _ => rfl)) pa_nil))) (pa_cons (pcall T.both G hr (pa_cons (pv 0) (pa_cons (pe_ix ix_tup (pv 1) pe_int (fun _ _ => rfl)) pa_nil))) pa_nil)))))) pss_nil)
          (pss_one (ps_ret (pcall T.node GN hr2 (pa_cons (pe_ix ix_tup (pv 0) pe_int (fun _ _ => rfl)) (pa_cons (pcall T.both G hr (pa_cons (pe_ix ix_tup (pv 0) pe_int (fun _ _ => rfl)) (pa_cons (pe_ix ix_tup (pv 1) pe_int (fun _ _ => rfl)) pa_nil))) (pa_cons (pcall T.both G hr (pa_cons (pe_ix ix_tup (pv 0) pe_int (fun _ _ => rfl)) (pa_cons (pe_ix ix_tup (pv 1) pe_int (fun _ _ => rfl)) pa_nil))) pa_nil)))))))))), ?_⟩
    refine ⟨_, rfl, _, d, rfl, hd, _, rfl, ?_⟩
    cases d with
    | lf b =>
      have ed : v = V.bl b := hd
      subst ed
      refine iteT ?_
      refine ⟨_, rfl, b, rfl, ?_⟩
      cases b with
      | true => exact iteT ⟨_, rfl, k u e _ (Same.refl H) he re fun q => (Bool.true_and _).symm⟩
      | false => exact iteF (k _ (.lf false) _ (Same.refl H) rfl trivial fun q => (Bool.false_and _).symm)
    | nd j lo hi =>
      refine iteF ?_
      refine ⟨_, rfl, _, e, rfl, he, _, rfl, ?_⟩
      cases e with
      | lf b =>
        have ee : u = V.bl b := he
        subst ee
        refine iteT ?_
        refine ⟨_, rfl, b, rfl, ?_⟩
        cases b with
        | true => exact iteT ⟨_, rfl, k v _ _ (Same.refl H) hd rd fun q => (Bool.and_true _).symm⟩
        | false => exact iteF (k _ (.lf false) _ (Same.refl H) rfl trivial fun q => (Bool.and_false _).symm)
      | nd m lo' hi' =>
        refine iteF ?_
        have hd0 := hd
        have he0 := he
        obtain ⟨p, vl, vh, rfl, hp, hl, hh⟩ := hd
        obtain ⟨p', vl', vh', rfl, hp', hl', hh'⟩ := he
        have rd0 := rd
        have re0 := re
        obtain ⟨i1, i2, i3, i4, i5⟩ := rd
        obtain ⟨j1, j2, j3, j4, j5⟩ := re
        refine ⟨_, rfl, p, _, _, _, rfl, rfl, .inl (.inl hp), at_of (j := 0) rfl rfl, _, rfl, p', _, _, _, rfl, rfl, .inl (.inl hp'), at_of (j := 0) rfl rfl, _, _, rfl, rfl, _, rfl, ?_⟩
        refine ite2 (fun c => ?_) (fun c => ?_)
        · have c' : (j : Int) < (m : Int) := of_decide_eq_true c
          have rm : Red N (j + 1) (.nd m lo' hi') := ⟨by omega, j2, j3, j4, j5⟩
          refine ⟨_, rfl, p, _, _, _, rfl, rfl, .inl (.inl hp), at_of (j := 0) rfl rfl, ?_⟩
          refine ⟨_, rfl, p, _, _, _, rfl, rfl, .inl (.inl hp), at_of (j := 1) rfl rfl, _, rfl, vl, _, lo, _, j + 1, rfl, hl, he0, i4, rm, by omega, by omega, z3, fun x r H1 s1 h1 r1 q1 => ?_⟩
          refine ⟨_, rfl, p, _, _, _, rfl, rfl, .inl (.inl (s1 _ _ hp)), at_of (j := 2) rfl rfl, _, rfl, vh, _, hi, _, j + 1, rfl, hh.same s1, he0.same s1, i5, rm, by omega, by omega, z3, fun y r' H2 s2 h2 r2 q2 => ?_⟩
          have zr := r1.depth (by omega)
          have zr' := r2.depth (by omega)
          refine ⟨j, x, y, r, r', rfl, h1.same s2, h2, by omega, by omega, fun z H3 s3 h3 => ?_⟩
          refine k z _ _ ((s1.trans s2).trans s3) h3 (mk_red i1 i2 r1 r2) fun q => ?_
          rw [mk_ev, q1, q2]
          show _ = ((if q j then hi.ev q else lo.ev q) && _)
          by_cases cc : q j = true
          · rw [if_pos cc, if_pos cc]
          · rw [if_neg cc, if_neg cc]
        · have c' : ¬ (j : Int) < (m : Int) := fun z => c (decide_eq_true z)
          refine ⟨_, rfl, p, _, _, _, rfl, rfl, .inl (.inl hp), at_of (j := 0) rfl rfl, _, rfl, p', _, _, _, rfl, rfl, .inl (.inl hp'), at_of (j := 0) rfl rfl, _, _, rfl, rfl, _, rfl, ?_⟩
          refine ite2 (fun c2 => ?_) (fun c2 => ?_)
          · have c3 : (m : Int) < (j : Int) := of_decide_eq_true c2
            have rm : Red N (m + 1) (.nd j lo hi) := ⟨by omega, i2, i3, i4, i5⟩
            refine ⟨_, rfl, p', _, _, _, rfl, rfl, .inl (.inl hp'), at_of (j := 0) rfl rfl, ?_⟩
            refine ⟨_, rfl, _, rfl, p', _, _, _, rfl, rfl, .inl (.inl hp'), at_of (j := 1) rfl rfl, _, vl', _, lo', m + 1, rfl, hd0, hl', rm, j4, by omega, by omega, z3, fun x r H1 s1 h1 r1 q1 => ?_⟩
            refine ⟨_, rfl, _, rfl, p', _, _, _, rfl, rfl, .inl (.inl (s1 _ _ hp')), at_of (j := 2) rfl rfl, _, vh', _, hi', m + 1, rfl, hd0.same s1, hh'.same s1, rm, j5, by omega, by omega, z3, fun y r' H2 s2 h2 r2 q2 => ?_⟩
            have zr := r1.depth (by omega)
            have zr' := r2.depth (by omega)
            refine ⟨m, x, y, r, r', rfl, h1.same s2, h2, by omega, by omega, fun z H3 s3 h3 => ?_⟩
            refine k z _ _ ((s1.trans s2).trans s3) h3 (mk_red j1 j2 r1 r2) fun q => ?_
            rw [mk_ev, q1, q2]
            show _ = (_ && (if q m then hi'.ev q else lo'.ev q))
            by_cases cc : q m = true
            · rw [if_pos cc, if_pos cc]
            · rw [if_neg cc, if_neg cc]
          · have c3 : ¬ (m : Int) < (j : Int) := fun z => c2 (decide_eq_true z)
            have ejm : j = m := by omega
            subst ejm
            refine ⟨_, rfl, p, _, _, _, rfl, rfl, .inl (.inl hp), at_of (j := 0) rfl rfl, ?_⟩
            refine ⟨_, rfl, p, _, _, _, rfl, rfl, .inl (.inl hp), at_of (j := 1) rfl rfl, _, rfl, p', _, _, _, rfl, rfl, .inl (.inl hp'), at_of (j := 1) rfl rfl, vl, vl', lo, lo', j + 1, rfl, hl, hl', i4, j4, by omega, by omega, z3, fun x r H1 s1 h1 r1 q1 => ?_⟩
            refine ⟨_, rfl, p, _, _, _, rfl, rfl, .inl (.inl (s1 _ _ hp)), at_of (j := 2) rfl rfl, _, rfl, p', _, _, _, rfl, rfl, .inl (.inl (s1 _ _ hp')), at_of (j := 2) rfl rfl, vh, vh', hi, hi', j + 1, rfl, hh.same s1, hh'.same s1, i5, j5, by omega, by omega, z3, fun y r' H2 s2 h2 r2 q2 => ?_⟩
            have zr := r1.depth (by omega)
            have zr' := r2.depth (by omega)
            refine ⟨j, x, y, r, r', rfl, h1.same s2, h2, by omega, by omega, fun z H3 s3 h3 => ?_⟩
            refine k z _ _ ((s1.trans s2).trans s3) h3 (mk_red i1 i2 r1 r2) fun q => ?_
            rw [mk_ev, q1, q2]
            show _ = ((if q j then hi.ev q else lo.ev q) && (if q j then hi'.ev q else lo'.ev q))
            by_cases cc : q j = true
            · rw [if_pos cc, if_pos cc, if_pos cc]
            · rw [if_neg cc, if_neg cc, if_neg cc]
theorem scEither : FnScope ["d", "e"] ["d", "e"] (defScope sEither) := ⟨rfl, rfl, rfl, by decide +kernel, rfl, by decide +kernel, by decide +kernel⟩
theorem ok_either (T : DgT K mg) {N : Nat} (hN : N ≤ 5) : FnOk P w K mg base CX0 9 T.either.f T.either.fd ["d", "e"] (spEither N) := by
  have G : FnOk P w K mg base CX0 8 T.both.f T.both.fd ["d", "e"] (spBoth N 6) := ok_both T N 6
  have GN : FnOk P w K mg base CX0 6 T.neg.f T.neg.fd ["d"] (spNeg 6) := ok_neg T.neg T.mi T.mt 6
  refine T.either.F.ok scEither (fun vs H Q E h => ?_) (fun cdv A outer s H vs Q E hr h => ?_)
  · obtain ⟨v, u, d, e, rfl, _⟩ := h
    rfl
  obtain ⟨v, u, d, e, rfl, hd, he, rd, re, z3, k⟩ := h
  have hr6 : Room 6 _ := hr.mono (by omega)
  have zd := rd.depth (by omega)
  have ze := re.depth (by omega)
  refine ⟨_, pss_one (ps_ret (pcall T.neg GN hr6 (pa_cons (pcall T.both G hr (pa_cons (pcall T.neg GN hr6 (pa_cons (pv 0) pa_nil)) (pa_cons (pcall T.neg GN hr6 (pa_cons (pv 1) pa_nil)) pa_nil))) pa_nil))), ?_⟩
  refine ⟨_, rfl, v, d, rfl, hd, by omega, fun x H1 s1 h1 => ?_⟩
  refine ⟨_, rfl, u, e, rfl, he.same s1, by omega, fun y H2 s2 h2 => ?_⟩
  refine ⟨x, y, d.neg, e.neg, 0, rfl, h1.same s2, h2, neg_red rd, neg_red re, by omega, by omega, z3, fun z r H3 s3 h3 r3 q3 => ?_⟩
  have zr := r3.depth (by omega)
  refine ⟨z, r, rfl, h3, by omega, fun o H4 s4 h4 => ?_⟩
  refine k o _ _ (((s1.trans s2).trans s3).trans s4) h4 (neg_red r3) fun q => ?_
  rw [neg_ev, q3, neg_ev, neg_ev]
  cases d.ev q <;> cases e.ev q <;> rfl
end
end OF

set_option Elab.async false
set_option linter.all false
set_option maxRecDepth 100000
set_option maxHeartbeats 4000000
/-! B3: formulas on the heap, diagram_of, holds. -/
namespace OF
open PySem L2
/-- formulas on the heap -/
def FAt (H : Hp) : V → Fo → Prop
  | v, .yes => ∃ p, v = .ref p ∧ H p = some (.tup [.str "yes"])
  | v, .no => ∃ p, v = .ref p ∧ H p = some (.tup [.str "no"])
  | v, .sw s => ∃ p, v = .ref p ∧ H p = some (.tup [.str "switch", .str s])
  | v, .not f => ∃ p u, v = .ref p ∧ H p = some (.tup [.str "not", u]) ∧ FAt H u f
  | v, .and f g => ∃ p u x, v = .ref p ∧ H p = some (.tup [.str "and", u, x]) ∧ FAt H u f ∧ FAt H x g
  | v, .or f g => ∃ p u x, v = .ref p ∧ H p = some (.tup [.str "or", u, x]) ∧ FAt H u f ∧ FAt H x g
theorem FAt.same {H H' : Hp} (s : Same H H') : ∀ {f : Fo} {v : V}, FAt H v f → FAt H' v f
  | .yes, _, ⟨p, e, h⟩ => ⟨p, e, s _ _ h⟩
  | .no, _, ⟨p, e, h⟩ => ⟨p, e, s _ _ h⟩
  | .sw _, _, ⟨p, e, h⟩ => ⟨p, e, s _ _ h⟩
  | .not _, _, ⟨p, u, e, h, h1⟩ => ⟨p, u, e, s _ _ h, h1.same s⟩
  | .and _ _, _, ⟨p, u, x, e, h, h1, h2⟩ => ⟨p, u, x, e, s _ _ h, h1.same s, h2.same s⟩
  | .or _ _, _, ⟨p, u, x, e, h, h1, h2⟩ => ⟨p, u, x, e, s _ _ h, h1.same s, h2.same s⟩
/-- the switches on the heap -/
def SwAt (H : Hp) (v : V) (sw : List Str) : Prop := ∃ p, v = .ref p ∧ TupF H p (sw.map V.str)
theorem SwAt.same {H H' : Hp} (s : Same H H') {v : V} {sw : List Str} : SwAt H v sw → SwAt H' v sw := fun ⟨p, e, h⟩ => ⟨p, e, h.same s⟩
/-- a configuration on the heap -/
def b01 (b : Bool) : V := .int (if b then 1 else 0)
def CfAt (H : Hp) (v : V) (c : List Bool) : Prop := ∃ p, v = .ref p ∧ H p = some (.tup (c.map b01))
theorem CfAt.same {H H' : Hp} (s : Same H H') {v : V} {c : List Bool} : CfAt H v c → CfAt H' v c := fun ⟨p, e, h⟩ => ⟨p, e, s _ _ h⟩
/-- the place of a name among the switches -/
def ixOf : List Str → Str → Nat
  | [], _ => 0
  | x :: r, s => if x = s then 0 else ixOf r s + 1
theorem ixOf_get : ∀ {sw : List Str} {s : Str}, s ∈ sw → sw[ixOf sw s]? = some s
  | [], _, h => by simp at h
  | x :: r, s, h => by
    by_cases e : x = s
    · subst e
      simp [ixOf]
    · have h' : s ∈ r := by
        rcases List.mem_cons.mp h with q | q
        · exact absurd q.symm e
        · exact q
      simp [ixOf, e, ixOf_get h']
theorem ixOf_first : ∀ {sw : List Str} {s : Str} {m : Nat}, m < ixOf sw s → sw[m]? ≠ some s
  | [], _, m, h => by simp [ixOf] at h
  | x :: r, s, m, h => by
    by_cases e : x = s
    · simp [ixOf, e] at h
    · simp only [ixOf, if_neg e] at h
      cases m with
      | zero => simpa using e
      | succ m =>
        rw [List.getElem?_cons_succ]
        exact ixOf_first (by omega)
theorem ixOf_lt {sw : List Str} {s : Str} (h : s ∈ sw) : ixOf sw s < sw.length := (List.getElem?_eq_some_iff.mp (ixOf_get h)).1
/-- what the names say where the switches say q by their places -/
def swR (sw : List Str) (q : Nat → Bool) : Str → Bool := fun s => q (ixOf sw s)
/-- what a configuration says by places -/
def cfR (c : List Bool) : Nat → Bool := fun k => c.getD k false

/-- diagram_of(switches, formula) -/
def spDiag (n : Nat) : Sp := fun vs H Q _ => ∃ (v u : V) (sw : List Str) (f : Fo), vs = [v, u] ∧ SwAt H v sw ∧ SwOk sw ∧ FAt H u f ∧ FNm sw f ∧ f.depth < n ∧
  ∀ x r H', Same H H' → DAt H' x r → Red sw.length 0 r → (∀ q, r.ev q = f.ev (swR sw q)) → Q x H'
/-- holds(d, configuration) -/
def spHolds : Sp := fun vs H Q _ => ∃ (v u : V) (d : Dg) (c : List Bool), vs = [v, u] ∧ DAt H v d ∧ CfAt H u c ∧ Red c.length 0 d ∧ Q (.bl (d.ev (cfR c))) H
theorem Fm.depth_pos {S : Type} (f : Fm S) : 0 < f.depth := by
  cases f <;> simp [Fm.depth]
theorem decS {a b : Str} {c : Bool} (h : decide (a = b) = c) : decide (V.str a = V.str b) = c := by
  rw [← h]
  by_cases e : a = b
  · subst e
    rw [decide_eq_true rfl, decide_eq_true rfl]
  · rw [decide_eq_false e, decide_eq_false fun z => e (V.str.inj z)]
section
variable {P : Program} {w : World} {K : PySem.W.Frag} {mg : Str → Option Value} {base : Heap}
theorem scDiag : FnScope ["switches", "formula", "tag", "first", "second"] ["switches", "formula"] (defScope sDiagOf) := ⟨rfl, rfl, rfl, by decide +kernel, rfl, by decide +kernel, by decide +kernel⟩
theorem ok_diag (T : DgT K mg) : ∀ n : Nat, FnOk P w K mg base CX0 (n + 9) T.diag.f T.diag.fd ["switches", "formula"] (spDiag n)
  | 0 => never_ok fun vs H Q E h => by
    obtain ⟨v, u, sw, f, _, _, _, _, _, z, _⟩ := h
    omega
  | n + 1 => by
    have G := ok_diag T n
    refine T.diag.F.ok scDiag (fun vs H Q E h => ?_) (fun cdv A outer s H vs Q E hr h => ?_)
    · obtain ⟨v, u, sw, f, rfl, _⟩ := h
      rfl
    obtain ⟨v, u, sw, f, rfl, hs, so, hf, nm, z, k⟩ := h
    have hN := so.len.2
    have GS : FnOk P w K mg base CX0 1 T.switch.f T.switch.fd ["i"] spSwitch := ok_switch T.switch.F
    have GN : FnOk P w K mg base CX0 6 T.neg.f T.neg.fd ["d"] (spNeg 6) := ok_neg T.neg T.mi T.mt 6
    have GB : FnOk P w K mg base CX0 8 T.both.f T.both.fd ["d", "e"] (spBoth sw.length 6) := ok_both T sw.length 6
    have GE : FnOk P w K mg base CX0 9 T.either.f T.either.fd ["d", "e"] (spEither sw.length) := ok_either T hN
    have hr1 : Room 1 _ := hr.mono (by omega)
    have hr6 : Room 6 _ := hr.mono (by omega)
    have hr8 : Room 8 _ := hr.mono (by omega)
    have hr9 : Room 9 _ := hr.mono (by omega)
    refine ⟨_, (pss_cons (ps_set (i := 2) scDiag.nd rfl (.inl rfl) (pe_ix ix_tup (pv 1) pe_int (fun _ _ => rfl)))
          (pss_cons (ps_if (PW.pt (pw_or (pt_cmpR op_eq (pv 2) pe_str (nomark _)) (pw_or1 (pt_cmpR op_eq (pv 2) pe_str (nomark _))))) (pss_one (ps_ret (pe_cmpR op_eq (pv 2) pe_str (nomark _)))) pss_nil)
          (pss_cons (ps_if (pt_cmpR op_eq (pv 2) pe_str (nomark _)) (pss_one (ps_ret (pcall T.switch GS hr1 (pa_cons (pe_index (pv 0) (pe_ix ix_tup (pv 1) pe_int (fun _ _ => rfl))) pa_nil)))) pss_nil)
          (pss_cons (ps_set (i := 3) scDiag.nd rfl (.inl rfl) (pcall T.diag G hr (pa_cons (pv 0) (pa_cons (pe_ix ix_tup (pv 1) pe_int (fun _ _ => rfl)) pa_nil))))
          (pss_cons (ps_if (pt_cmpR op_eq (pv 2) pe_str (nomark _)) (pss_one (ps_ret (pcall T.neg GN hr6 (pa_cons (pv 3) pa_nil)))) pss_nil)
          (pss_cons (ps_set (i := 4) scDiag.nd rfl (.inl rfl) (pcall T.diag G hr (pa_cons (pv 0) (pa_cons (pe_ix ix_tup (pv 1) pe_int (fun _ _ => rfl)) pa_nil))))
          (pss_one (ps_ret (pe_ifExp (pt_cmpR op_eq (pv 2) pe_str (nomark _)) (pcall T.both GB hr8 (pa_cons (pv 3) (pa_cons (pv 4) pa_nil))) (pcall T.either GE hr9 (pa_cons (pv 3) (pa_cons (pv 4) pa_nil)))))))))))), ?_⟩
    cases f with
    | yes =>
      obtain ⟨p, rfl, hp⟩ := hf
      refine ⟨_, rfl, p, _, _, _, rfl, rfl, .inl (.inl hp), at_of (j := 0) rfl rfl, ?_⟩
      refine ⟨_, rfl, rfl, _, rfl, ?_⟩
      refine iteT (iteT ?_)
      refine ⟨_, rfl, rfl, ?_⟩
      exact k _ (.lf true) _ (Same.refl H) rfl trivial fun q => rfl
    | no =>
      obtain ⟨p, rfl, hp⟩ := hf
      refine ⟨_, rfl, p, _, _, _, rfl, rfl, .inl (.inl hp), at_of (j := 0) rfl rfl, ?_⟩
      refine ⟨_, rfl, rfl, _, rfl, ?_⟩
      refine iteF ⟨_, rfl, rfl, _, rfl, iteT ?_⟩
      refine ⟨_, rfl, rfl, ?_⟩
      exact k _ (.lf false) _ (Same.refl H) rfl trivial fun q => rfl
    | sw s =>
      obtain ⟨p, rfl, hp⟩ := hf
      refine ⟨_, rfl, p, _, _, _, rfl, rfl, .inl (.inl hp), at_of (j := 0) rfl rfl, ?_⟩
      refine ⟨_, rfl, rfl, _, rfl, iteF ⟨_, rfl, rfl, _, rfl, iteF ?_⟩⟩
      refine ⟨_, rfl, rfl, _, rfl, iteT ?_⟩
      obtain ⟨ps, rfl, hps⟩ := hs
      have hm : s ∈ sw := nm
      refine ⟨_, rfl, ps, sw, rfl, hps, _, rfl, p, _, _, _, rfl, rfl, .inl (.inl hp), at_of (j := 1) rfl rfl, ?_⟩
      refine ⟨s, ixOf sw s, rfl, hps, ixOf_get hm, fun m hm' => ixOf_first hm', _, rfl, fun x H' s1 h1 => ?_⟩
      exact k x _ _ s1 h1 ⟨Nat.zero_le _, ixOf_lt hm, by simp, trivial, trivial⟩ fun q => by
        show (if q (ixOf sw s) then true else false) = q (ixOf sw s)
        cases q (ixOf sw s) <;> rfl
    | not f =>
      obtain ⟨p, uf, rfl, hp, hf1⟩ := hf
      have zz : f.depth + 1 < n + 1 := z
      refine ⟨_, rfl, p, _, _, _, rfl, rfl, .inl (.inl hp), at_of (j := 0) rfl rfl, ?_⟩
      refine ⟨_, rfl, rfl, _, rfl, iteF ⟨_, rfl, rfl, _, rfl, iteF ?_⟩⟩
      refine ⟨_, rfl, rfl, _, rfl, iteF ?_⟩
      refine ⟨_, rfl, _, rfl, p, _, _, _, rfl, rfl, .inl (.inl hp), at_of (j := 1) rfl rfl, v, uf, sw, f, rfl, hs, so, hf1, nm, by omega, fun x r H1 s1 h1 r1 q1 => ?_⟩
      refine ⟨_, rfl, rfl, _, rfl, iteT ?_⟩
      have zr := r1.depth (by omega)
      refine ⟨_, rfl, x, r, rfl, h1, by omega, fun y H2 s2 h2 => ?_⟩
      exact k y _ _ (s1.trans s2) h2 (neg_red r1) fun q => by
        rw [neg_ev, q1]
        rfl
    | and f g =>
      obtain ⟨p, uf, ug, rfl, hp, hf1, hg1⟩ := hf
      have zz : max f.depth g.depth + 1 < n + 1 := z
      refine ⟨_, rfl, p, _, _, _, rfl, rfl, .inl (.inl hp), at_of (j := 0) rfl rfl, ?_⟩
      refine ⟨_, rfl, rfl, _, rfl, iteF ⟨_, rfl, rfl, _, rfl, iteF ?_⟩⟩
      refine ⟨_, rfl, rfl, _, rfl, iteF ?_⟩
      refine ⟨_, rfl, _, rfl, p, _, _, _, rfl, rfl, .inl (.inl hp), at_of (j := 1) rfl rfl, v, uf, sw, f, rfl, hs, so, hf1, nm.1, by omega, fun x r H1 s1 h1 r1 q1 => ?_⟩
      refine ⟨_, rfl, rfl, _, rfl, iteF ?_⟩
      refine ⟨_, rfl, _, rfl, p, _, _, _, rfl, rfl, .inl (.inl (s1 _ _ hp)), at_of (j := 2) rfl rfl, v, ug, sw, g, rfl, hs.same s1, so, hg1.same s1, nm.2, by omega, fun y r' H2 s2 h2 r2 q2 => ?_⟩
      refine ⟨_, rfl, rfl, _, rfl, iteT ?_⟩
      refine ⟨_, rfl, _, rfl, x, y, r, r', 0, rfl, h1.same s2, h2, r1, r2, by omega, by omega, by omega, fun o r3 H3 s3 h3 r3' q3 => ?_⟩
      exact k o _ _ ((s1.trans s2).trans s3) h3 r3' fun q => by
        rw [q3, q1, q2]
        rfl
    | or f g =>
      obtain ⟨p, uf, ug, rfl, hp, hf1, hg1⟩ := hf
      have zz : max f.depth g.depth + 1 < n + 1 := z
      refine ⟨_, rfl, p, _, _, _, rfl, rfl, .inl (.inl hp), at_of (j := 0) rfl rfl, ?_⟩
      refine ⟨_, rfl, rfl, _, rfl, iteF ⟨_, rfl, rfl, _, rfl, iteF ?_⟩⟩
      refine ⟨_, rfl, rfl, _, rfl, iteF ?_⟩
      refine ⟨_, rfl, _, rfl, p, _, _, _, rfl, rfl, .inl (.inl hp), at_of (j := 1) rfl rfl, v, uf, sw, f, rfl, hs, so, hf1, nm.1, by omega, fun x r H1 s1 h1 r1 q1 => ?_⟩
      refine ⟨_, rfl, rfl, _, rfl, iteF ?_⟩
      refine ⟨_, rfl, _, rfl, p, _, _, _, rfl, rfl, .inl (.inl (s1 _ _ hp)), at_of (j := 2) rfl rfl, v, ug, sw, g, rfl, hs.same s1, so, hg1.same s1, nm.2, by omega, fun y r' H2 s2 h2 r2 q2 => ?_⟩
      refine ⟨_, rfl, rfl, _, rfl, iteF ?_⟩
      refine ⟨_, rfl, _, rfl, x, y, r, r', rfl, h1.same s2, h2, r1, r2, by omega, fun o r3 H3 s3 h3 r3' q3 => ?_⟩
      exact k o _ _ ((s1.trans s2).trans s3) h3 r3' fun q => by
        rw [q3, q1, q2]
        rfl
theorem scHolds : FnScope ["d", "configuration"] ["d", "configuration"] (defScope sHolds) := ⟨rfl, rfl, rfl, by decide +kernel, rfl, by decide +kernel, by decide +kernel⟩
theorem ok_holds (T : DgT K mg) : FnOk P w K mg base CX0 1 T.holds.f T.holds.fd ["d", "configuration"] spHolds := by
  refine T.holds.F.ok scHolds (fun vs H Q E h => ?_) (fun cdv A outer s H vs Q E hr h => ?_)
  · obtain ⟨v, u, d, c, rfl, _⟩ := h
    rfl
  obtain ⟨v, u, d, c, rfl, hd, hc, rd, k⟩ := h
  refine ⟨_, (pss_cons (ps_while PassesOwn.never (pt_val (p_isT T.mi T.mt (pv 0))) (pss_one (ps_set (i := 0) scHolds.nd rfl (.inl rfl) (pe_ix ix_tup (pv 0) (pe_op op_add pe_int (pe_ix ix_tup (pv 1) (pe_ix ix_tup (pv 0) pe_int (fun _ _ => rfl)) (fun _ _ => rfl))) (fun _ _ => rfl)))))
        (pss_one (ps_ret (pv 0)))), ?_⟩
  refine ⟨fun m σ H' => H' = H ∧ ∃ v' d' i, σ = [some v', some u] ∧ DAt H v' d' ∧ Red c.length i d' ∧ d'.ev (cfR c) = d.ev (cfR c) ∧ d'.size = m, ⟨d.size, rfl, v, d, 0, rfl, hd, rd, rfl, rfl⟩, ?_⟩
  rintro m σ H' ⟨rfl, v', d', i, rfl, hd', rd', e, rfl⟩
  refine ⟨_, rfl, _, d', rfl, hd', _, rfl, ?_⟩
  cases d' with
  | lf b =>
    have e1 : v' = V.bl b := hd'
    subst e1
    refine iteF ⟨_, rfl, ?_⟩
    have e2 : b = d.ev (cfR c) := e
    rw [← e2] at k
    exact k
  | nd j lo hi =>
    obtain ⟨p, vl, vh, rfl, hp, hl, hh⟩ := hd'
    obtain ⟨i1, i2, i3, i4, i5⟩ := rd'
    obtain ⟨pc, rfl, hpc⟩ := hc
    refine iteT ⟨fun σ' H2 => H2 = H' ∧ ∃ v2 d2 i, σ' = [some v2, some (V.ref pc)] ∧ DAt H' v2 d2 ∧ Red c.length i d2 ∧ d2.ev (cfR c) = d.ev (cfR c) ∧ d2.size < (Dg.nd j lo hi).size, fun σ' H2 ⟨e0, v2, d2, i, e1, e2, e3, e4, e5⟩ => ⟨d2.size, e5, e0, v2, d2, i, e1, e2, e3, e4, rfl⟩, ?_⟩
    have hj : (c.map b01)[j]? = some (b01 (cfR c j)) := by
      rw [List.getElem?_map, List.getElem?_eq_getElem i2]
      unfold cfR
      rw [List.getD_eq_getElem?_getD, List.getElem?_eq_getElem i2]
      rfl
    refine ⟨_, rfl, _, rfl, _, rfl, p, _, _, _, rfl, rfl, .inl (.inl hp), at_of (j := 0) rfl rfl, pc, _, _, _, rfl, rfl, .inl (.inl hpc), at_of (j := j) rfl hj, ?_⟩
    cases hb : cfR c j with
    | false =>
      refine ⟨_, _, rfl, rfl, p, _, _, vl, rfl, rfl, .inl (.inl hp), at_of (j := 1) rfl rfl, rfl, vl, lo, j + 1, rfl, hl, i4, ?_, ?_⟩
      · rw [← e]
        show _ = if cfR c j then _ else _
        rw [hb]
        rfl
      · simp only [Dg.size]
        omega
    | true =>
      refine ⟨_, _, rfl, rfl, p, _, _, vh, rfl, rfl, .inl (.inl hp), at_of (j := 2) rfl rfl, rfl, vh, hi, j + 1, rfl, hh, i5, ?_, ?_⟩
      · rw [← e]
        show _ = if cfR c j then _ else _
        rw [hb]
        rfl
      · simp only [Dg.size]
        omega
end
end OF

set_option Elab.async false
set_option linter.all false
set_option maxRecDepth 100000
set_option maxHeartbeats 4000000
/-! B4: the reader of formulas: its state, peek, name. -/
namespace OF
open PySem L2
/-! ### attributes by name -/
theorem lk_ne {k a : Str} {v : V} {r : List (Str × V)} (h : (k == a) = false) : List.lookup k ((a, v) :: r) = List.lookup k r := by simp [List.lookup, h]
theorem lk_eq {k : Str} {v : V} {r : List (Str × V)} : List.lookup k ((k, v) :: r) = some v := by simp [List.lookup]
theorem pf_ne {k a : Str} {v y : V} {r : List (Str × V)} (h : a ≠ k) : putF k y ((a, v) :: r) = (a, v) :: putF k y r := by
  show (if a = k then _ else _) = _
  rw [if_neg h]
theorem pf_eq {k : Str} {v y : V} {r : List (Str × V)} : putF k y ((k, v) :: r) = (k, y) :: r := by
  show (if k = k then _ else _) = _
  rw [if_pos rfl]
/-- the attributes of a Reader -/
def rf (v : V) (z : Str) (i : Nat) : List (Str × V) := [("switches", v), ("text", .str z), ("at", .int (i : Int))]
theorem rf_sw (v : V) (z : Str) (i : Nat) : (rf v z i).lookup ("switches" : Str) = some v := lk_eq
theorem rf_text (v : V) (z : Str) (i : Nat) : (rf v z i).lookup ("text" : Str) = some (.str z) := by
  unfold rf
  rw [lk_ne (by decide +kernel), lk_eq]
theorem rf_at (v : V) (z : Str) (i : Nat) : (rf v z i).lookup ("at" : Str) = some (.int (i : Int)) := by
  unfold rf
  rw [lk_ne (by decide +kernel), lk_ne (by decide +kernel), lk_eq]
theorem rf_no (v : V) (z : Str) (i : Nat) {m : Str} (h1 : (m == ("switches" : Str)) = false) (h2 : (m == ("text" : Str)) = false) (h3 : (m == ("at" : Str)) = false) : (rf v z i).lookup m = none := by
  unfold rf
  rw [lk_ne h1, lk_ne h2, lk_ne h3]
  rfl
theorem rf_put (v : V) (z : Str) (i j : Nat) : putF "at" (.int (j : Int)) (rf v z i) = rf v z j := by
  unfold rf
  rw [pf_ne (by decide +kernel), pf_ne (by decide +kernel), pf_eq]
theorem rf_make (v : V) (z : Str) : putF "at" (.int 0) (putF "text" (.str z) (putF "switches" v [])) = rf v z 0 := by
  show putF "at" (.int 0) (putF "text" (.str z) [(("switches" : Str), v)]) = rf v z 0
  rw [pf_ne (by decide +kernel)]
  show putF "at" (.int 0) [(("switches" : Str), v), (("text" : Str), V.str z)] = rf v z 0
  rw [pf_ne (by decide +kernel), pf_ne (by decide +kernel)]
  rfl
/-- a Reader at r -/
def RdAt (C : Addr) (H : Hp) (r : Addr) (v : V) (z : Str) (i : Nat) : Prop := ∃ dx, H r = some (.ins C dx (rf v z i))
/-- the class Reader as it stands -/
structure RdT (K : PySem.W.Frag) (mg : Str → Option Value) where
  C : Addr
  cl : Cls K C
  nSw : NoAttr K C "switches"
  nTx : NoAttr K C "text"
  nAt : NoAttr K C "at"
  mgC : mg "Reader" = some (.ref C)
  init : Ib K C "Reader.__init__" sRInit ["self", "switches", "text"]
  peek : Mb K C "peek" "Reader.peek" sPeek ["self"]
  name : Mb K C "name" "Reader.name" sName ["self"]
  part : Mb K C "part" "Reader.part" sPart ["self"]
  both : Mb K C "both" "Reader.both" sRBoth ["self"]
  either : Mb K C "either" "Reader.either" sREither ["self"]
  read : Gb K mg "read_formula" sReadF ["switches", "text"]
  ml : mg "len" = none
  tL : Tok
  mL : mg "LETTERS" = some (.str "abcdefghijklmnopqrstuvwxyz" tL)
  tM : Tok
  mM : mg "MAX_FORMULA" = some (.int 60 tM)
/-! ### signs -/
/-- the first sign as a text, or the empty text -/
def hd1 (l : List Nat) : Str := ⟨(l.take 1).toArray⟩
theorem len_tl (z : Str) : z.length = (tl z).length := by simp [tl, Str.length]
theorem ext_tl {x y : Str} (h : tl x = tl y) : x = y := TL.ext_tl h
theorem space_is : (" " : Str) = ⟨#[32]⟩ := by decide +kernel
theorem ch_eq (c d : Nat) : decide (V.str ⟨#[c]⟩ = V.str ⟨#[d]⟩) = decide (c = d) := by
  by_cases e : c = d
  · subst e
    simp
  · rw [decide_eq_false e]
    refine decide_eq_false fun z => e ?_
    injection z with z
    injection z with z
    have y := congrArg Array.toList z
    injection y
theorem cut1 (z : Str) {i : Nat} (h : i ≤ z.length) : cutS z (some (i : Int)) (some ((i : Int) + 1)) = hd1 ((tl z).drop i) := by
  have e : ((i : Int) + 1) = ((i + 1 : Nat) : Int) := by omega
  unfold cutS hd1
  rw [e, HT.sIx_nat, HT.sIx_nat, Nat.min_eq_left h]
  by_cases c : i < z.length
  · rw [Nat.min_eq_left (by omega), Nat.add_sub_cancel_left]
  · have hi : i = z.length := by omega
    have e0 : (tl z).drop i = [] := List.drop_eq_nil_of_le (by rw [← len_tl]; omega)
    have e1 : List.drop i z.cps.toList = [] := e0
    rw [e1]
    simp
theorem cutN (z : Str) {i j : Nat} (h : i ≤ j) (hj : j ≤ z.length) : cutS z (some (i : Int)) (some (j : Int)) = ⟨(((tl z).drop i).take (j - i)).toArray⟩ := by
  unfold cutS
  rw [HT.sIx_nat, HT.sIx_nat, Nat.min_eq_left hj, Nat.min_eq_left (Nat.le_trans h hj)]
theorem dropAt {l : List Nat} {i : Nat} (h : i < l.length) : ∃ c, l[i]? = some c ∧ l.drop i = c :: l.drop (i + 1) :=
  ⟨l[i], List.getElem?_eq_getElem h, List.drop_eq_getElem_cons h⟩
theorem str_ix {z : Str} {i : Nat} {c : Nat} (h : (tl z)[i]? = some c) : atI z.cps.toList (i : Int) = some c := atI_nat h
theorem letters_is (c : Nat) : decide (c ∈ tl ("abcdefghijklmnopqrstuvwxyz" : Str)) = true ↔ isL c := by
  have e : tl ("abcdefghijklmnopqrstuvwxyz" : Str) = (List.range 26).map (· + 97) := by decide +kernel
  rw [e, decide_eq_true_iff, List.mem_map]
  unfold isL
  constructor
  · rintro ⟨a, h, rfl⟩
    have := List.mem_range.mp h
    omega
  · intro h
    exact ⟨c - 97, List.mem_range.mpr (by omega), by omega⟩

/-! ### promises -/
/-- Reader.__init__ -/
def spRInit (C : Addr) : Sp := fun vs H Q _ => ∃ (r dx : Addr) (v : V) (z : Str), vs = [.ref r, v, .str z] ∧ H r = some (.ins C dx []) ∧ ∀ H', RdAt C H' r v z 0 → But r H H' → Q .non H'
/-- peek() -/
def spPeek (C : Addr) : Sp := fun vs H Q _ => ∃ (r : Addr) (v : V) (z : Str) (i : Nat), vs = [.ref r] ∧ RdAt C H r v z i ∧ i ≤ z.length ∧ z.length ≤ 60 ∧
  ∀ H' j, RdAt C H' r v z j → But r H H' → j ≤ z.length → (tl z).drop j = skip ((tl z).drop i) → Q (.str (hd1 (skip ((tl z).drop i)))) H'
/-- name(): a name of the switches stands at the place, no letter behind it -/
def spName (C : Addr) : Sp := fun vs H Q _ => ∃ (r : Addr) (v : V) (z : Str) (i : Nat) (sw : List Str) (x : Str) (post : List Nat), vs = [.ref r] ∧ RdAt C H r v z i ∧ i ≤ z.length ∧ z.length ≤ 60 ∧ SwAt H v sw ∧ SwOk sw ∧ x ∈ sw ∧
  (tl z).drop i = tl x ++ post ∧ NL post ∧
  ∀ u H' j, RdAt C H' r v z j → But r H H' → j ≤ z.length → (tl z).drop j = post → FAt H' u (.sw x) → Q u H'
section
variable {P : Program} {w : World} {K : PySem.W.Frag} {mg : Str → Option Value} {base : Heap}
theorem scRInit : FnScope ["self", "switches", "text"] ["self", "switches", "text"] (defScope sRInit) := ⟨rfl, rfl, rfl, by decide +kernel, rfl, by decide +kernel, by decide +kernel⟩
theorem ok_rinit (T : RdT K mg) : FnOk P w K mg base CX0 1 T.init.f T.init.fd ["self", "switches", "text"] (spRInit T.C) := by
  refine T.init.F.ok scRInit (fun vs H Q E h => ?_) (fun cdv A outer s H vs Q E hr h => ?_)
  · obtain ⟨r, dx, v, z, rfl, _⟩ := h
    rfl
  obtain ⟨r, dx, v, z, rfl, hp, k⟩ := h
  refine ⟨_, (pss_cons (ps_fld (pv 0) (pv 1) rfl)
        (pss_cons (ps_fld (pv 0) (pv 2) rfl)
        (pss_one (ps_fld (pv 0) pe_int rfl)))), ?_⟩
  refine ⟨_, rfl, _, rfl, r, T.C, dx, _, rfl, hp, T.cl, T.nSw, (by show 0 < 1000; decide), ?_⟩
  refine ⟨_, rfl, _, rfl, r, T.C, dx, _, rfl, upd_same, T.cl, T.nTx, (by show 1 < 1000; decide), ?_⟩
  refine ⟨_, rfl, r, T.C, dx, _, rfl, upd_same, T.cl, T.nAt, (by rw [show putF "text" (V.str z) (putF "switches" v []) = [(("switches" : Str), v), (("text" : Str), V.str z)] by (show putF "text" (.str z) [(("switches" : Str), v)] = _; rw [pf_ne (by decide +kernel)]; rfl)]; show 2 < 1000; decide), ?_⟩
  refine k _ ⟨dx, ?_⟩ ((But.upd.trans But.upd).trans But.upd)
  rw [upd_same, rf_make]
/-- self.at, self.text, self.switches, behind the slot -/
theorem fl_at (T : RdT K mg) {H : Hp} {Q : V → Prop} {r dx : Addr} {v : V} {z : Str} {i : Nat} (h : H r = some (.ins T.C dx (rf v z i))) (q : Q (.int (i : Int))) :
    ∃ a C dx fs u, V.ref r = V.ref a ∧ H a = some (.ins C dx fs) ∧ Cls K C ∧ NoAttr K C "at" ∧ fs.lookup ("at" : Str) = some u ∧ Q u := ⟨r, T.C, dx, _, _, rfl, h, T.cl, T.nAt, rf_at _ _ _, q⟩
theorem fl_text (T : RdT K mg) {H : Hp} {Q : V → Prop} {r dx : Addr} {v : V} {z : Str} {i : Nat} (h : H r = some (.ins T.C dx (rf v z i))) (q : Q (.str z)) :
    ∃ a C dx fs u, V.ref r = V.ref a ∧ H a = some (.ins C dx fs) ∧ Cls K C ∧ NoAttr K C "text" ∧ fs.lookup ("text" : Str) = some u ∧ Q u := ⟨r, T.C, dx, _, _, rfl, h, T.cl, T.nTx, rf_text _ _ _, q⟩
theorem fl_sw (T : RdT K mg) {H : Hp} {Q : V → Prop} {r dx : Addr} {v : V} {z : Str} {i : Nat} (h : H r = some (.ins T.C dx (rf v z i))) (q : Q v) :
    ∃ a C dx fs u, V.ref r = V.ref a ∧ H a = some (.ins C dx fs) ∧ Cls K C ∧ NoAttr K C "switches" ∧ fs.lookup ("switches" : Str) = some u ∧ Q u := ⟨r, T.C, dx, _, _, rfl, h, T.cl, T.nSw, rf_sw _ _ _, q⟩
/-- self.at += 1, behind the slot -/
theorem fl_inc (T : RdT K mg) {Q : Hp → Prop} {H : Hp} {r dx : Addr} {v : V} {z : Str} {i : Nat} (h : H r = some (.ins T.C dx (rf v z i))) (q : ∀ H', H' r = some (.ins T.C dx (rf v z (i + 1))) → But r H H' → Q H') :
    ∃ a C dx fs u, V.ref r = V.ref a ∧ H a = some (.ins C dx fs) ∧ Cls K C ∧ NoAttr K C "at" ∧ fs.lookup ("at" : Str) = some u ∧ ∃ i j, u = .int i ∧ V.int 1 = .int j ∧ ∃ dx fs, H a = some (.ins C dx fs) ∧ fs.length < 1000 ∧ Q (upd H a (.ins C dx (putF "at" (.int (i + j)) fs))) := by
  refine ⟨r, T.C, dx, _, _, rfl, h, T.cl, T.nAt, rf_at _ _ _, ?_⟩
  refine ⟨_, _, rfl, rfl, dx, _, h, (by show 3 < 1000; decide), q _ ?_ But.upd⟩
  have e : putF "at" (V.int ((i : Int) + 1)) (rf v z i) = rf v z (i + 1) := rf_put v z i (i + 1)
  rw [upd_same, e]
theorem scPeek : FnScope ["self"] ["self"] (defScope sPeek) := ⟨rfl, rfl, rfl, by decide +kernel, rfl, by decide +kernel, by decide +kernel⟩
theorem small60 {n : Nat} (h : n ≤ 60) : n ≤ sizeLine := Nat.le_trans h (by decide)
theorem ok_peek (T : RdT K mg) : FnOk P w K mg base CX0 1 T.peek.f T.peek.fd ["self"] (spPeek T.C) := by
  refine T.peek.F.ok scPeek (fun vs H Q E h => ?_) (fun cdv A outer s H vs Q E hr h => ?_)
  · obtain ⟨r, v, z, i, rfl, _⟩ := h
    rfl
  obtain ⟨r, v, z, i, rfl, ⟨dx, hr0⟩, hi, hz, k⟩ := h
  refine ⟨_, (pss_cons (ps_while PassesOwn.never (PW.pt (pw_and (pt_cmpR op_lt (pe_fld (pv 0) rfl) (pe_callB call_len_str (by rfl) T.ml PySem.boot_len (pa_cons (pe_fld (pv 0) rfl) pa_nil)) (nomark _)) (pw_and1 (pt_cmpR op_eq (pe_ix ix_str (pe_fld (pv 0) rfl) (pe_fld (pv 0) rfl) (fun _ _ => rfl)) pe_str (nomark _))))) (pss_one (ps_fldaug (pv 0) pe_int in_add)))
        (pss_one (ps_ret (pe_slice sl_str (pe_fld (pv 0) rfl) (po_some (pe_fld (pv 0) rfl)) (po_some (pe_op op_add (pe_fld (pv 0) rfl) pe_int)))))), ?_⟩
  refine ⟨fun m σ H2 => σ = [some (.ref r)] ∧ ∃ j, H2 r = some (.ins T.C dx (rf v z j)) ∧ But r H H2 ∧ j ≤ z.length ∧ skip ((tl z).drop j) = skip ((tl z).drop i) ∧ z.length - j = m,
    ⟨_, rfl, i, hr0, But.of (Same.refl H), hi, rfl, rfl⟩, ?_⟩
  rintro m σ H2 ⟨rfl, j, h2, b2, hj, sk, rfl⟩
  have done : ∀ (e : (tl z).drop j = skip ((tl z).drop i)), tRet (tSl rSlS (tFld K (tVar 0) "text") (tPart (tFld K (tVar 0) "at")) (tPart (tOp (rI0 fun i j => .int (i + j)) (tFld K (tVar 0) "at") (tC (.int 1))))) { nx := fun _ H' => Q .non H', rt := Q } [some (V.ref r)] H2 := by
    intro e
    refine ⟨_, rfl, fl_text T h2 ?_⟩
    refine ⟨_, rfl, fl_at T h2 ⟨_, rfl, ?_⟩⟩
    refine ⟨_, rfl, fl_at T h2 ⟨_, _, rfl, rfl, _, rfl, z, rfl, small60 hz, ?_⟩⟩
    rw [cut1 z hj, e]
    exact k H2 j ⟨dx, h2⟩ b2 hj e
  refine ⟨_, rfl, fl_at T h2 ?_⟩
  refine ⟨_, rfl, fl_text T h2 ?_⟩
  refine ⟨_, rfl, small60 hz, _, _, rfl, rfl, _, rfl, ?_⟩
  refine ite2 (fun c => ?_) (fun c => ?_)
  · have c' : (j : Int) < (z.length : Int) := of_decide_eq_true c
    obtain ⟨d, g1, g2⟩ := dropAt (l := tl z) (i := j) (by rw [← len_tl]; omega)
    refine ⟨_, rfl, fl_text T h2 ?_⟩
    refine ⟨_, rfl, fl_at T h2 ⟨z, _, d, rfl, rfl, small60 hz, str_ix g1, rfl, _, rfl, ?_⟩⟩
    rw [space_is, ch_eq]
    refine ite2 (fun c2 => ?_) (fun c2 => ?_)
    · have c3 : d = 32 := of_decide_eq_true c2
      refine ⟨fun σ' H3 => σ' = [some (.ref r)] ∧ H3 r = some (.ins T.C dx (rf v z (j + 1))) ∧ But r H H3, ?_, ?_⟩
      · rintro σ' H3 ⟨e1, e2, e3⟩
        refine ⟨z.length - (j + 1), by omega, e1, j + 1, e2, e3, by omega, ?_, rfl⟩
        rw [← sk, g2]
        show _ = if d = 32 then skip ((tl z).drop (j + 1)) else _
        rw [if_pos c3]
      · exact ⟨_, rfl, fl_inc T h2 fun H3 e b => ⟨rfl, e, b2.trans b⟩⟩
    · have c3 : ¬ d = 32 := fun e => c2 (decide_eq_true e)
      refine done ?_
      rw [← sk, g2, skip_ne c3]
  · have c' : ¬ (j : Int) < (z.length : Int) := fun e => c (decide_eq_true e)
    refine iteF ?_
    refine done ?_
    have e0 : (tl z).drop j = [] := List.drop_eq_nil_of_le (by rw [← len_tl]; omega)
    rw [← sk, e0]
    rfl
end
end OF

set_option Elab.async false
set_option linter.all false
set_option maxRecDepth 100000
set_option maxHeartbeats 4000000
/-! B5: name, part, both, either of the reader; read_formula. -/
namespace OF
open PySem L2
/-- tuples and locked things stay -/
def Imm (H H' : Hp) : Prop := (∀ b xs, H b = some (.tup xs) → H' b = some (.tup xs)) ∧ (∀ b o u, H b = some (.frz o u) → H' b = some (.frz o u))
theorem Imm.refl (H : Hp) : Imm H H := ⟨fun _ _ h => h, fun _ _ _ h => h⟩
theorem Imm.trans {H H1 H2 : Hp} (a : Imm H H1) (b : Imm H1 H2) : Imm H H2 := ⟨fun c xs h => b.1 c xs (a.1 c xs h), fun c o u h => b.2 c o u (a.2 c o u h)⟩
theorem imm_same {H H' : Hp} (s : Same H H') : Imm H H' := ⟨fun b xs h => s b _ h, fun b o u h => s b _ h⟩
/-- what may be written is no tuple -/
def Wr : HO → Prop
  | .tup _ => False
  | .frz _ _ => False
  | _ => True
theorem But.imm {a : Addr} {o : HO} {H H' : Hp} (b : But a H H') (h : H a = some o) (w : Wr o) : Imm H H' := by
  refine ⟨fun c xs e => b c _ e fun z => ?_, fun c p u e => b c _ e fun z => ?_⟩
  · subst z
    rw [h] at e
    cases e
    exact w
  · subst z
    rw [h] at e
    cases e
    exact w
theorem FAt.imm {H H' : Hp} (s : Imm H H') : ∀ {f : Fo} {v : V}, FAt H v f → FAt H' v f
  | .yes, _, ⟨p, e, h⟩ => ⟨p, e, s.1 _ _ h⟩
  | .no, _, ⟨p, e, h⟩ => ⟨p, e, s.1 _ _ h⟩
  | .sw _, _, ⟨p, e, h⟩ => ⟨p, e, s.1 _ _ h⟩
  | .not _, _, ⟨p, u, e, h, h1⟩ => ⟨p, u, e, s.1 _ _ h, h1.imm s⟩
  | .and _ _, _, ⟨p, u, x, e, h, h1, h2⟩ => ⟨p, u, x, e, s.1 _ _ h, h1.imm s, h2.imm s⟩
  | .or _ _, _, ⟨p, u, x, e, h, h1, h2⟩ => ⟨p, u, x, e, s.1 _ _ h, h1.imm s, h2.imm s⟩
theorem DAt.imm {H H' : Hp} (s : Imm H H') : ∀ {d : Dg} {v : V}, DAt H v d → DAt H' v d
  | .lf _, _, h => h
  | .nd _ _ _, _, ⟨p, vl, vh, e, hp, h1, h2⟩ => ⟨p, vl, vh, e, s.1 _ _ hp, h1.imm s, h2.imm s⟩
theorem SwAt.imm {H H' : Hp} (s : Imm H H') {v : V} {sw : List Str} : SwAt H v sw → SwAt H' v sw := fun ⟨p, e, o, e2, h⟩ => ⟨p, e, o, e2, s.2 _ _ _ h⟩
theorem CfAt.imm {H H' : Hp} (s : Imm H H') {v : V} {c : List Bool} : CfAt H v c → CfAt H' v c := fun ⟨p, e, h⟩ => ⟨p, e, s.1 _ _ h⟩
theorem RdAt.imm {C : Addr} {H H' : Hp} {r : Addr} {v : V} {z : Str} {i : Nat} (h : RdAt C H r v z i) (b : But r H H') : Imm H H' := by
  obtain ⟨dx, h⟩ := h
  exact b.imm h trivial

/-! ### signs, further -/
theorem hd1_cons (c : Nat) (l : List Nat) : hd1 (c :: l) = ⟨#[c]⟩ := rfl
theorem hd1_ne {l : List Nat} {d : Nat} (h : ∀ c, l.head? = some c → c ≠ d) : decide (V.str (hd1 l) = V.str ⟨#[d]⟩) = false := by
  cases l with
  | nil =>
    refine decide_eq_false fun z => ?_
    injection z with z
    have y := congrArg (fun s : Str => s.cps.toList) z
    cases y
  | cons c l =>
    rw [hd1_cons, ch_eq]
    exact decide_eq_false (h c rfl)
theorem hd1_empty (l : List Nat) : decide (V.str (hd1 l) = V.str ("" : Str)) = l.isEmpty := by
  have e : ("" : Str) = ⟨#[]⟩ := by decide +kernel
  rw [e]
  cases l with
  | nil => exact decide_eq_true rfl
  | cons c l =>
    refine decide_eq_false fun z => ?_
    injection z with z
    have y := congrArg (fun s : Str => s.cps.toList) z
    cases y
theorem is_bang : ("!" : Str) = ⟨#[33]⟩ := by decide +kernel
theorem is_open : ("(" : Str) = ⟨#[40]⟩ := by decide +kernel
theorem is_close : (")" : Str) = ⟨#[41]⟩ := by decide +kernel
theorem is_0 : ("0" : Str) = ⟨#[48]⟩ := by decide +kernel
theorem is_1 : ("1" : Str) = ⟨#[49]⟩ := by decide +kernel
theorem is_amp : ("&" : Str) = ⟨#[38]⟩ := by decide +kernel
theorem is_bar : ("|" : Str) = ⟨#[124]⟩ := by decide +kernel
theorem drop_tail {l r : List Nat} {j c : Nat} (h : l.drop j = c :: r) : l.drop (j + 1) = r ∧ j < l.length := by
  have hj : j < l.length := by
    refine Nat.lt_of_not_le fun z => ?_
    rw [List.drop_eq_nil_of_le z] at h
    cases h
  rw [List.drop_eq_getElem_cons hj] at h
  injection h with _ h2
  exact ⟨h2, hj⟩
/-- how a part begins -/
theorem PrP.head {sw : List Str} (ok : SwOk sw) : ∀ {n : Nat} {f : Fo} {s : List Nat}, PrP sw n f s → ∃ c r, s = c :: r ∧ c ≠ 32
  | 0, _, _, h => h.elim
  | n + 1, f, s, h => by
    rcases h with ⟨x, hx, rfl, rfl⟩ | ⟨rfl, rfl⟩ | ⟨rfl, rfl⟩ | ⟨g, t, a, h1, h2, rfl, rfl⟩ | ⟨t, a, b, h1, h2, h3, rfl⟩
    · have z := ok.ltr x hx
      cases e : tl x with
      | nil => exact absurd e z.1
      | cons c r =>
        have y := z.2.1 c (by rw [e]; exact List.mem_cons_self)
        exact ⟨c, r, rfl, by unfold isL at y; omega⟩
    · exact ⟨49, [], rfl, by decide⟩
    · exact ⟨48, [], rfl, by decide⟩
    · exact ⟨33, _, rfl, by decide⟩
    · exact ⟨40, _, rfl, by decide⟩
theorem inV_str {sw : List Str} {x : Str} (h : x ∈ sw) : inV (V.str x) (sw.map V.str) = true := by
  unfold inV
  refine List.any_eq_true.mpr ⟨V.str x, List.mem_map_of_mem h, ?_⟩
  simp [eqV]
theorem flat_str (sw : List Str) : (sw.map V.str).all flatV = true := by
  rw [List.all_map]
  exact List.all_eq_true.mpr fun _ _ => rfl

/-! ### promises -/
/-- what the reader finds from its place on, and what it leaves -/
structure At (C : Addr) (H : Hp) (r : Addr) (v : V) (z : Str) (i : Nat) (sw : List Str) : Prop where
  rd : RdAt C H r v z i
  le : i ≤ z.length
  z60 : z.length ≤ 60
  hsw : SwAt H v sw
  ok : SwOk sw
theorem At.move {C : Addr} {H H' : Hp} {r : Addr} {v : V} {z : Str} {i j : Nat} {sw : List Str} (h : At C H r v z i sw) (b : But r H H') (h2 : RdAt C H' r v z j) (hj : j ≤ z.length) : At C H' r v z j sw :=
  ⟨h2, hj, h.z60, h.hsw.imm (h.rd.imm b), h.ok⟩
/-- part() -/
def spPart (C : Addr) (n : Nat) : Sp := fun vs H Q _ => ∃ (r : Addr) (v : V) (z : Str) (i : Nat) (sw : List Str) (f : Fo) (a s post : List Nat), vs = [.ref r] ∧ At C H r v z i sw ∧
  (tl z).drop i = a ++ (s ++ post) ∧ Spc a ∧ PrP sw n f s ∧ NL post ∧
  ∀ u H' j, RdAt C H' r v z j → But r H H' → j ≤ z.length → (tl z).drop j = post → FAt H' u f → Q u H'
/-- both() -/
def spRB (C : Addr) (n : Nat) : Sp := fun vs H Q _ => ∃ (r : Addr) (v : V) (z : Str) (i : Nat) (sw : List Str) (f : Fo) (a s post : List Nat), vs = [.ref r] ∧ At C H r v z i sw ∧
  (tl z).drop i = a ++ (s ++ post) ∧ Spc a ∧ PrB sw n f s ∧ NL post ∧ NH 38 post ∧
  ∀ u H' j, RdAt C H' r v z j → But r H H' → j ≤ z.length → (tl z).drop j = skip post → FAt H' u f → Q u H'
/-- either() -/
def spRE (C : Addr) (n : Nat) : Sp := fun vs H Q _ => ∃ (r : Addr) (v : V) (z : Str) (i : Nat) (sw : List Str) (f : Fo) (a s post : List Nat), vs = [.ref r] ∧ At C H r v z i sw ∧
  (tl z).drop i = a ++ (s ++ post) ∧ Spc a ∧ PrE sw n f s ∧ NL post ∧ NH 38 post ∧ NH 124 post ∧
  ∀ u H' j, RdAt C H' r v z j → But r H H' → j ≤ z.length → (tl z).drop j = skip post → FAt H' u f → Q u H'
/-- read_formula(switches, text) -/
def spRead : Sp := fun vs H Q _ => ∃ (v : V) (z : Str) (sw : List Str) (f : Fo), vs = [v, .str z] ∧ SwAt H v sw ∧ SwOk sw ∧ PrE sw 3 f (tl z) ∧ z.length ≤ 60 ∧ ∀ u H', Same H H' → FAt H' u f → Q u H'
section
variable {P : Program} {w : World} {K : PySem.W.Frag} {mg : Str → Option Value} {base : Heap}
theorem scName : FnScope ["self", "begin", "name"] ["self"] (defScope sName) := ⟨rfl, rfl, rfl, by decide +kernel, rfl, by decide +kernel, by decide +kernel⟩
theorem ok_name (T : RdT K mg) : FnOk P w K mg base CX0 1 T.name.f T.name.fd ["self"] (spName T.C) := by
  refine T.name.F.ok scName (fun vs H Q E h => ?_) (fun cdv A outer s H vs Q E hr h => ?_)
  · obtain ⟨r, v, z, i, sw, x, post, rfl, _⟩ := h
    rfl
  obtain ⟨r, v, z, i, sw, x, post, rfl, ⟨dx, hr0⟩, hi, hz, hsw, sok, hx, ed, nl, k⟩ := h
  have lx := (sok.ltr x hx).2.1
  refine ⟨_, (pss_cons (ps_set (i := 1) scName.nd rfl (.inl rfl) (pe_fld (pv 0) rfl))
        (pss_cons (ps_while PassesOwn.never (PW.pt (pw_and (pt_cmpR op_ne (pe_slice sl_str (pe_fld (pv 0) rfl) (po_some (pe_fld (pv 0) rfl)) (po_some (pe_op op_add (pe_fld (pv 0) rfl) pe_int))) pe_str (nomark _)) (pw_and1 (pt_cmpR op_in_sign (pe_ix ix_str (pe_fld (pv 0) rfl) (pe_fld (pv 0) rfl) (fun _ _ => rfl)) (pe_glob (v := .str "abcdefghijklmnopqrstuvwxyz") rfl T.mL ⟨_, rfl⟩) (by rfl))))) (pss_one (ps_fldaug (pv 0) pe_int in_add)))
        (pss_cons (ps_set (i := 2) scName.nd rfl (.inl rfl) (pe_slice sl_str (pe_fld (pv 0) rfl) (po_some (pv 1)) (po_some (pe_fld (pv 0) rfl))))
        (pss_cons (ps_if (pt_cmpR op_notIn_seq (pv 2) (pe_fld (pv 0) rfl) (by rfl)) (pss_one ps_never) pss_nil)
        (pss_one (ps_ret (pe_tup (pa_cons pe_str (pa_cons (pv 2) pa_nil))))))))), ?_⟩
  refine ⟨_, rfl, fl_at T hr0 ?_⟩
  refine ⟨fun m σ H2 => σ = [some (.ref r), some (.int (i : Int)), none] ∧ ∃ j, H2 r = some (.ins T.C dx (rf v z j)) ∧ But r H H2 ∧ i ≤ j ∧ j ≤ z.length ∧ j - i ≤ (tl x).length ∧ (tl x).length - (j - i) = m,
    ⟨_, rfl, i, hr0, But.of (Same.refl H), Nat.le_refl _, hi, by omega, rfl⟩, ?_⟩
  rintro m σ H2 ⟨rfl, j, h2, b2, hij, hj, hk, rfl⟩
  have dj : (tl z).drop j = (tl x).drop (j - i) ++ post := by
    have e : j = i + (j - i) := by omega
    rw [e, ← List.drop_drop, ed, ← e, List.drop_append_of_le_length hk]
  have fin : (tl x).length = j - i → (tl z).drop j = post := fun e => by
    rw [dj, List.drop_eq_nil_of_le (by omega)]
    rfl
  -- behind the loop
  have done : (tl x).length = j - i → tSeq (tAsg (tSl rSlS (tFld K (tVar 0) "text") (tPart (tVar 1)) (tPart (tFld K (tVar 0) "at"))) (gName 2))
      (tSeq (tIfS (tTest (tOp (rIn K true) (tVar 2) (tFld K (tVar 0) "switches"))) tNever tNext) (tRet (tTup (tCons (tC (.str "switch")) (tCons (tVar 2) tNil)))))
      { nx := fun _ H' => Q .non H', rt := Q } [some (V.ref r), some (.int (i : Int)), none] H2 := by
    intro e
    refine ⟨_, rfl, fl_text T h2 ⟨_, rfl, _, rfl, ?_⟩⟩
    refine ⟨_, rfl, fl_at T h2 ⟨_, rfl, z, rfl, small60 hz, ?_⟩⟩
    rw [cutN z hij hj, ed, ← e, List.take_left]
    have ex : (⟨(tl x).toArray⟩ : Str) = x := TL.mk_tl x
    rw [ex]
    obtain ⟨ps, hv, hps⟩ := hsw.imm (b2.imm hr0 trivial)
    subst hv
    refine ⟨_, rfl, _, rfl, fl_sw T h2 ?_⟩
    refine ⟨ps, _, rfl, .inr hps.seq, rfl, flat_str sw, _, rfl, ?_⟩
    rw [inV_str hx]
    refine iteF ⟨_, rfl, (by show 2 ≤ sizeLine; decide), fun p hp => ?_⟩
    exact k _ _ j ⟨dx, by rw [upd_ne (ne_of_none h2 hp)]; exact h2⟩ (b2.trans (But.of (same_new hp))) hj (fin e) ⟨p, rfl, upd_same⟩
  refine ⟨_, rfl, fl_text T h2 ⟨_, rfl, fl_at T h2 ⟨_, rfl, ?_⟩⟩⟩
  refine ⟨_, rfl, fl_at T h2 ⟨_, _, rfl, rfl, _, rfl, z, rfl, small60 hz, ?_⟩⟩
  rw [cut1 z hj]
  refine ⟨rfl, _, rfl, ?_⟩
  rw [hd1_empty]
  cases hd : (tl z).drop j with
  | nil =>
    refine iteF (iteF (done ?_))
    rw [dj] at hd
    have := (List.append_eq_nil_iff.mp hd).1
    have := List.drop_eq_nil_iff.mp this
    omega
  | cons c l =>
    obtain ⟨hl1, hl2⟩ := drop_tail hd
    have hc : (tl z)[j]? = some c := by
      rw [List.getElem?_eq_getElem hl2]
      rw [List.drop_eq_getElem_cons hl2] at hd
      injection hd with e1 _
      rw [e1]
    refine iteT ?_
    refine ⟨_, rfl, fl_text T h2 ⟨_, rfl, fl_at T h2 ⟨z, _, c, rfl, rfl, small60 hz, str_ix hc, c, _, rfl, rfl, _, rfl, ?_⟩⟩⟩
    by_cases cl : isL c
    · rw [(letters_is c).mpr cl]
      refine iteT ?_
      have hlt : j - i < (tl x).length := by
        refine Nat.lt_of_not_le fun y => ?_
        have e0 : (tl x).length = j - i := by omega
        rw [fin e0] at hd
        exact nl c (by rw [hd]; rfl) cl
      refine ⟨fun σ' H3 => σ' = [some (.ref r), some (.int (i : Int)), none] ∧ H3 r = some (.ins T.C dx (rf v z (j + 1))) ∧ But r H H3, ?_, ?_⟩
      · rintro σ' H3 ⟨e1, e2, e3⟩
        exact ⟨(tl x).length - (j + 1 - i), by omega, e1, j + 1, e2, e3, by omega, by rw [len_tl]; omega, by omega, rfl⟩
      · exact ⟨_, rfl, fl_inc T h2 fun H3 e b => ⟨rfl, e, b2.trans b⟩⟩
    · have cl' : decide (c ∈ tl ("abcdefghijklmnopqrstuvwxyz" : Str)) = false := by
        cases q : decide (c ∈ tl ("abcdefghijklmnopqrstuvwxyz" : Str)) with
        | false => rfl
        | true => exact absurd ((letters_is c).mp q) cl
      rw [cl']
      refine iteF (done ?_)
      refine Nat.le_antisymm (Nat.le_of_not_lt fun y => ?_) hk
      rw [dj, List.drop_eq_getElem_cons y] at hd
      injection hd with e1 _
      exact cl (by rw [← e1]; exact lx _ (List.getElem_mem y))
end
end OF

set_option Elab.async false
set_option linter.all false
set_option maxRecDepth 100000
set_option maxHeartbeats 4000000
/-! B6: part, both, either of the reader; read_formula. -/
namespace OF
open PySem L2
section
variable {P : Program} {w : World} {K : PySem.W.Frag} {mg : Str → Option Value} {base : Heap}
theorem scRBoth : FnScope ["self", "left"] ["self"] (defScope sRBoth) := ⟨rfl, rfl, rfl, by decide +kernel, rfl, by decide +kernel, by decide +kernel⟩
theorem ok_rboth (T : RdT K mg) {n m : Nat} (hm : 1 ≤ m) (GP : FnOk P w K mg base CX0 m T.part.f T.part.fd ["self"] (spPart T.C n)) : FnOk P w K mg base CX0 (m + 1) T.both.f T.both.fd ["self"] (spRB T.C n) := by
  have GK : FnOk P w K mg base CX0 1 T.peek.f T.peek.fd ["self"] (spPeek T.C) := ok_peek T
  refine T.both.F.ok scRBoth (fun vs H Q E h => ?_) (fun cdv A outer s H vs Q E hr h => ?_)
  · obtain ⟨r, v, z, i, sw, f, a, t, post, rfl, _⟩ := h
    rfl
  obtain ⟨r, v, z, i, sw, f, a, t, post, rfl, hat, ed, ha, hf, nl, nh, k⟩ := h
  have hr1 : Room 1 _ := hr.mono hm
  obtain ⟨f0, s0, its, p0, pi, rfl, rfl⟩ := hf
  refine ⟨_, (pss_cons (ps_set (i := 1) scRBoth.nd rfl (.inl rfl) (pmeth0 T.part T.cl GP hr (pv 0)))
        (pss_cons (ps_while PassesOwn.never (pt_cmpR op_eq (pmeth0 T.peek T.cl GK hr1 (pv 0)) pe_str (nomark _)) (pss_cons (ps_fldaug (pv 0) pe_int in_add)
          (pss_one (ps_set (i := 1) scRBoth.nd rfl (.inl rfl) (pe_tup (pa_cons pe_str (pa_cons (pv 1) (pa_cons (pmeth0 T.part T.cl GP hr (pv 0)) pa_nil))))))))
        (pss_one (ps_ret (pv 1))))), ?_⟩
  have np : ∀ its : List It, (∀ i ∈ its, Spc i.a ∧ Spc i.b ∧ PrP sw n i.g i.t) → NL (flat 38 its ++ post) := fun its q => flat_nl (by unfold isL; omega) (fun i hi => (q i hi).1) nl
  have ed' : (tl z).drop i = a ++ (s0 ++ (flat 38 its ++ post)) := by
    rw [ed]
    simp
  obtain ⟨dx, hr0⟩ := hat.rd
  refine ⟨_, rfl, r, dx, _, rfl, hr0, rf_no _ _ _ (by decide +kernel) (by decide +kernel) (by decide +kernel), r, v, z, i, sw, f0, a, s0, _, rfl, hat, ed', ha, p0, np its pi, fun u H1 j1 h1 b1 l1 d1 q1 => ?_⟩
  refine ⟨fun m σ H2 => ∃ u g its' j, σ = [some (.ref r), some u] ∧ RdAt T.C H2 r v z j ∧ But r H H2 ∧ j ≤ z.length ∧ FAt H2 u g ∧ (∀ i ∈ its', Spc i.a ∧ Spc i.b ∧ PrP sw n i.g i.t) ∧
      its.foldl (fun f i => .and f i.g) f0 = its'.foldl (fun f i => .and f i.g) g ∧ skip ((tl z).drop j) = skip (flat 38 its' ++ post) ∧ its'.length = m,
    ⟨its.length, u, f0, its, j1, rfl, h1, b1, l1, q1, pi, rfl, by rw [d1], rfl⟩, ?_⟩
  rintro m σ H2 ⟨u, g, its', j, rfl, h2, b2, hj, fu, pi', ef, es, rfl⟩
  have hat2 : At T.C H2 r v z j sw := hat.move b2 h2 hj
  obtain ⟨dx2, hr2⟩ := h2
  refine ⟨_, rfl, r, dx2, _, rfl, hr2, rf_no _ _ _ (by decide +kernel) (by decide +kernel) (by decide +kernel), r, v, z, j, rfl, ⟨dx2, hr2⟩, hj, hat.z60, fun H3 j3 h3 b3 l3 d3 => ?_⟩
  rw [es] at d3 ⊢
  have fu3 : FAt H3 u g := fu.imm (b3.imm hr2 trivial)
  have hat3 : At T.C H3 r v z j3 sw := hat2.move b3 h3 l3
  obtain ⟨dx3, hr3⟩ := h3
  rw [is_amp]
  cases its' with
  | nil =>
    refine ⟨rfl, _, rfl, ?_⟩
    rw [hd1_ne (show ∀ c, (skip (flat 38 [] ++ post)).head? = some c → c ≠ 38 from nh)]
    refine iteF ⟨_, rfl, ?_⟩
    rw [ef] at k
    exact k u H3 j3 ⟨dx3, hr3⟩ (b2.trans b3) l3 d3 fu3
  | cons it its' =>
    have hit := pi' it List.mem_cons_self
    rw [flat_skip (by decide) hit.1] at d3 ⊢
    refine ⟨rfl, _, rfl, ?_⟩
    rw [hd1_cons, ch_eq]
    refine iteT ?_
    obtain ⟨t1, t2⟩ := drop_tail d3
    refine ⟨fun σ' H4 => ∃ u g j, σ' = [some (.ref r), some u] ∧ RdAt T.C H4 r v z j ∧ But r H H4 ∧ j ≤ z.length ∧ FAt H4 u g ∧
      its.foldl (fun f i => .and f i.g) f0 = its'.foldl (fun f i => .and f i.g) g ∧ skip ((tl z).drop j) = skip (flat 38 its' ++ post), ?_, ?_⟩
    · rintro σ' H4 ⟨u, g, j, e1, e2, e3, e4, e5, e6, e7⟩
      exact ⟨its'.length, by simp, u, g, its', j, e1, e2, e3, e4, e5, fun i hi => pi' i (List.mem_cons_of_mem _ hi), e6, e7, rfl⟩
    · refine ⟨_, rfl, fl_inc T hr3 fun H4 hr4 b4 => ?_⟩
      have lz : j3 + 1 ≤ z.length := by rw [len_tl]; omega
      have hat4 : At T.C H4 r v z (j3 + 1) sw := hat3.move b4 ⟨dx3, hr4⟩ lz
      have fu4 : FAt H4 u g := fu3.imm (b4.imm hr3 trivial)
      refine ⟨_, rfl, _, rfl, r, dx3, _, rfl, hr4, rf_no _ _ _ (by decide +kernel) (by decide +kernel) (by decide +kernel), r, v, z, _, sw, it.g, it.b, it.t, flat 38 its' ++ post, rfl, hat4, ?_, hit.2.1, hit.2.2, np its' fun i hi => pi' i (List.mem_cons_of_mem _ hi), fun y H5 j5 h5 b5 l5 d5 q5 => ?_⟩
      · rw [t1]
        simp
      · have fu5 : FAt H5 u g := fu4.imm (b5.imm hr4 trivial)
        obtain ⟨dx5, hr5⟩ := h5
        refine ⟨(by show 3 ≤ sizeLine; decide), fun p hp => ?_⟩
        have sn := same_new (o := .tup [.str "and", u, y]) hp
        exact ⟨.ref p, .and g it.g, j5, rfl, ⟨dx5, sn _ _ hr5⟩, (((b2.trans b3).trans b4).trans b5).trans (But.of sn), l5, ⟨p, u, y, rfl, upd_same, fu5.same sn, q5.same sn⟩, ef, by rw [d5]⟩
theorem scREither : FnScope ["self", "left"] ["self"] (defScope sREither) := ⟨rfl, rfl, rfl, by decide +kernel, rfl, by decide +kernel, by decide +kernel⟩
theorem ok_reither (T : RdT K mg) {n m : Nat} (hm : 1 ≤ m) (GB : FnOk P w K mg base CX0 m T.both.f T.both.fd ["self"] (spRB T.C n)) : FnOk P w K mg base CX0 (m + 1) T.either.f T.either.fd ["self"] (spRE T.C n) := by
  have GK : FnOk P w K mg base CX0 1 T.peek.f T.peek.fd ["self"] (spPeek T.C) := ok_peek T
  refine T.either.F.ok scREither (fun vs H Q E h => ?_) (fun cdv A outer s H vs Q E hr h => ?_)
  · obtain ⟨r, v, z, i, sw, f, a, t, post, rfl, _⟩ := h
    rfl
  obtain ⟨r, v, z, i, sw, f, a, t, post, rfl, hat, ed, ha, hf, nl, nh, nh2, k⟩ := h
  have hr1 : Room 1 _ := hr.mono hm
  obtain ⟨f0, s0, its, p0, pi, rfl, rfl⟩ := hf
  refine ⟨_, (pss_cons (ps_set (i := 1) scREither.nd rfl (.inl rfl) (pmeth0 T.both T.cl GB hr (pv 0)))
        (pss_cons (ps_while PassesOwn.never (pt_cmpR op_eq (pmeth0 T.peek T.cl GK hr1 (pv 0)) pe_str (nomark _)) (pss_cons (ps_fldaug (pv 0) pe_int in_add)
          (pss_one (ps_set (i := 1) scREither.nd rfl (.inl rfl) (pe_tup (pa_cons pe_str (pa_cons (pv 1) (pa_cons (pmeth0 T.both T.cl GB hr (pv 0)) pa_nil))))))))
        (pss_one (ps_ret (pv 1))))), ?_⟩
  have np : ∀ its : List It, (∀ i ∈ its, Spc i.a ∧ Spc i.b ∧ PrB sw n i.g i.t) → NL (flat 124 its ++ post) := fun its q => flat_nl (by unfold isL; omega) (fun i hi => (q i hi).1) nl
  have nq : ∀ its : List It, (∀ i ∈ its, Spc i.a ∧ Spc i.b ∧ PrB sw n i.g i.t) → NH 38 (flat 124 its ++ post) := fun its q => by
    cases its with
    | nil => exact nh
    | cons it r =>
      intro c e
      rw [flat_skip (by decide) (q it List.mem_cons_self).1] at e
      have e' : some 124 = some c := e
      rw [← Option.some.inj e']
      decide
  have ed' : (tl z).drop i = a ++ (s0 ++ (flat 124 its ++ post)) := by
    rw [ed]
    simp
  obtain ⟨dx, hr0⟩ := hat.rd
  refine ⟨_, rfl, r, dx, _, rfl, hr0, rf_no _ _ _ (by decide +kernel) (by decide +kernel) (by decide +kernel), r, v, z, i, sw, f0, a, s0, _, rfl, hat, ed', ha, p0, np its pi, nq its pi, fun u H1 j1 h1 b1 l1 d1 q1 => ?_⟩
  refine ⟨fun m σ H2 => ∃ u g its' j, σ = [some (.ref r), some u] ∧ RdAt T.C H2 r v z j ∧ But r H H2 ∧ j ≤ z.length ∧ FAt H2 u g ∧ (∀ i ∈ its', Spc i.a ∧ Spc i.b ∧ PrB sw n i.g i.t) ∧
      its.foldl (fun f i => .or f i.g) f0 = its'.foldl (fun f i => .or f i.g) g ∧ skip ((tl z).drop j) = skip (flat 124 its' ++ post) ∧ its'.length = m,
    ⟨its.length, u, f0, its, j1, rfl, h1, b1, l1, q1, pi, rfl, by rw [d1, skip_skip], rfl⟩, ?_⟩
  rintro m σ H2 ⟨u, g, its', j, rfl, h2, b2, hj, fu, pi', ef, es, rfl⟩
  have hat2 : At T.C H2 r v z j sw := hat.move b2 h2 hj
  obtain ⟨dx2, hr2⟩ := h2
  refine ⟨_, rfl, r, dx2, _, rfl, hr2, rf_no _ _ _ (by decide +kernel) (by decide +kernel) (by decide +kernel), r, v, z, j, rfl, ⟨dx2, hr2⟩, hj, hat.z60, fun H3 j3 h3 b3 l3 d3 => ?_⟩
  rw [es] at d3 ⊢
  have fu3 : FAt H3 u g := fu.imm (b3.imm hr2 trivial)
  have hat3 : At T.C H3 r v z j3 sw := hat2.move b3 h3 l3
  obtain ⟨dx3, hr3⟩ := h3
  rw [is_bar]
  cases its' with
  | nil =>
    refine ⟨rfl, _, rfl, ?_⟩
    rw [hd1_ne (show ∀ c, (skip (flat 124 [] ++ post)).head? = some c → c ≠ 124 from nh2)]
    refine iteF ⟨_, rfl, ?_⟩
    rw [ef] at k
    exact k u H3 j3 ⟨dx3, hr3⟩ (b2.trans b3) l3 d3 fu3
  | cons it its' =>
    have hit := pi' it List.mem_cons_self
    rw [flat_skip (by decide) hit.1] at d3 ⊢
    refine ⟨rfl, _, rfl, ?_⟩
    rw [hd1_cons, ch_eq]
    refine iteT ?_
    obtain ⟨t1, t2⟩ := drop_tail d3
    refine ⟨fun σ' H4 => ∃ u g j, σ' = [some (.ref r), some u] ∧ RdAt T.C H4 r v z j ∧ But r H H4 ∧ j ≤ z.length ∧ FAt H4 u g ∧
      its.foldl (fun f i => .or f i.g) f0 = its'.foldl (fun f i => .or f i.g) g ∧ skip ((tl z).drop j) = skip (flat 124 its' ++ post), ?_, ?_⟩
    · rintro σ' H4 ⟨u, g, j, e1, e2, e3, e4, e5, e6, e7⟩
      exact ⟨its'.length, by simp, u, g, its', j, e1, e2, e3, e4, e5, fun i hi => pi' i (List.mem_cons_of_mem _ hi), e6, e7, rfl⟩
    · refine ⟨_, rfl, fl_inc T hr3 fun H4 hr4 b4 => ?_⟩
      have lz : j3 + 1 ≤ z.length := by rw [len_tl]; omega
      have hat4 : At T.C H4 r v z (j3 + 1) sw := hat3.move b4 ⟨dx3, hr4⟩ lz
      have fu4 : FAt H4 u g := fu3.imm (b4.imm hr3 trivial)
      have pr : ∀ i ∈ its', Spc i.a ∧ Spc i.b ∧ PrB sw n i.g i.t := fun i hi => pi' i (List.mem_cons_of_mem _ hi)
      refine ⟨_, rfl, _, rfl, r, dx3, _, rfl, hr4, rf_no _ _ _ (by decide +kernel) (by decide +kernel) (by decide +kernel), r, v, z, _, sw, it.g, it.b, it.t, flat 124 its' ++ post, rfl, hat4, ?_, hit.2.1, hit.2.2, np its' pr, nq its' pr, fun y H5 j5 h5 b5 l5 d5 q5 => ?_⟩
      · rw [t1]
        simp
      · have fu5 : FAt H5 u g := fu4.imm (b5.imm hr4 trivial)
        obtain ⟨dx5, hr5⟩ := h5
        refine ⟨(by show 3 ≤ sizeLine; decide), fun p hp => ?_⟩
        have sn := same_new (o := .tup [.str "or", u, y]) hp
        exact ⟨.ref p, .or g it.g, j5, rfl, ⟨dx5, sn _ _ hr5⟩, (((b2.trans b3).trans b4).trans b5).trans (But.of sn), l5, ⟨p, u, y, rfl, upd_same, fu5.same sn, q5.same sn⟩, ef, by rw [d5, skip_skip]⟩
theorem scPart : FnScope ["self", "sign", "inner"] ["self"] (defScope sPart) := ⟨rfl, rfl, rfl, by decide +kernel, rfl, by decide +kernel, by decide +kernel⟩
theorem ok_part (T : RdT K mg) : ∀ n : Nat, FnOk P w K mg base CX0 (3 * n + 1) T.part.f T.part.fd ["self"] (spPart T.C n)
  | 0 => never_ok fun vs H Q E h => by
    obtain ⟨r, v, z, i, sw, f, a, t, post, _, _, _, _, hf, _⟩ := h
    exact hf
  | n + 1 => by
    have GP0 := ok_part T n
    have GE : FnOk P w K mg base CX0 (3 * n + 3) T.either.f T.either.fd ["self"] (spRE T.C n) := ok_reither T (by omega) (ok_rboth T (by omega) GP0)
    have GP : FnOk P w K mg base CX0 (3 * n + 3) T.part.f T.part.fd ["self"] (spPart T.C n) := GP0.mono (by omega)
    have GK : FnOk P w K mg base CX0 1 T.peek.f T.peek.fd ["self"] (spPeek T.C) := ok_peek T
    have GN : FnOk P w K mg base CX0 1 T.name.f T.name.fd ["self"] (spName T.C) := ok_name T
    show FnOk P w K mg base CX0 (3 * n + 3 + 1) T.part.f T.part.fd ["self"] (spPart T.C (n + 1))
    refine T.part.F.ok scPart (fun vs H Q E h => ?_) (fun cdv A outer s H vs Q E hr h => ?_)
    · obtain ⟨r, v, z, i, sw, f, a, t, post, rfl, _⟩ := h
      rfl
    obtain ⟨r, v, z, i, sw, f, a, t, post, rfl, hat, ed, ha, hf, nl, k⟩ := h
    have hr1 : Room 1 _ := hr.mono (by omega)
    refine ⟨_, (pss_cons (ps_set (i := 1) scPart.nd rfl (.inl rfl) (pmeth0 T.peek T.cl GK hr1 (pv 0)))
          (pss_cons (ps_if (pt_cmpR op_eq (pv 1) pe_str (nomark _)) (pss_cons (ps_fldaug (pv 0) pe_int in_add)
            (pss_one (ps_ret (pe_tup (pa_cons pe_str (pa_cons (pmeth0 T.part T.cl GP hr (pv 0)) pa_nil)))))) pss_nil)
          (pss_cons (ps_if (pt_cmpR op_eq (pv 1) pe_str (nomark _)) (pss_cons (ps_fldaug (pv 0) pe_int in_add)
            (pss_cons (ps_set (i := 2) scPart.nd rfl (.inl rfl) (pmeth0 T.either T.cl GE hr (pv 0)))
            (pss_cons (ps_if (pt_cmpR op_ne (pmeth0 T.peek T.cl GK hr1 (pv 0)) pe_str (nomark _)) (pss_one ps_never) pss_nil)
            (pss_cons (ps_fldaug (pv 0) pe_int in_add)
            (pss_one (ps_ret (pv 2))))))) pss_nil)
          (pss_cons (ps_if (PW.pt (pw_or (pt_cmpR op_eq (pv 1) pe_str (nomark _)) (pw_or1 (pt_cmpR op_eq (pv 1) pe_str (nomark _))))) (pss_cons (ps_fldaug (pv 0) pe_int in_add)
            (pss_one (ps_ret (pe_ifExp (pt_cmpR op_eq (pv 1) pe_str (nomark _)) (pe_tup (pa_cons pe_str pa_nil)) (pe_tup (pa_cons pe_str pa_nil)))))) pss_nil)
          (pss_one (ps_ret (pmeth0 T.name T.cl GN hr1 (pv 0)))))))), ?_⟩
    obtain ⟨dx, hr0⟩ := hat.rd
    have no := fun (v : V) (z : Str) (i : Nat) (m : Str) (h1 : (m == ("switches" : Str)) = false) (h2 : (m == ("text" : Str)) = false) (h3 : (m == ("at" : Str)) = false) => rf_no v z i h1 h2 h3
    refine ⟨_, rfl, r, dx, _, rfl, hr0, rf_no _ _ _ (by decide +kernel) (by decide +kernel) (by decide +kernel), r, v, z, i, rfl, ⟨dx, hr0⟩, hat.le, hat.z60, fun H1 j1 h1 b1 l1 d1 => ?_⟩
    obtain ⟨c, t', et, hc⟩ := hf.head hat.ok
    have hsk : skip ((tl z).drop i) = t ++ post := by
      rw [ed, skip_sp ha, et]
      exact skip_ne hc _
    rw [hsk] at d1 ⊢
    have hat1 : At T.C H1 r v z j1 sw := hat.move b1 h1 l1
    obtain ⟨dx1, hr1'⟩ := h1
    rcases hf with ⟨x, hx, rfl, rfl⟩ | ⟨rfl, rfl⟩ | ⟨rfl, rfl⟩ | ⟨g, t2, a2, g1, g2, rfl, rfl⟩ | ⟨t2, a2, c2, g1, g2, g3, rfl⟩
    · -- a name
      have hl := (hat.ok.ltr x hx).2.1 c (by rw [et]; exact List.mem_cons_self)
      unfold isL at hl
      have e1 : hd1 (tl x ++ post) = ⟨#[c]⟩ := by
        rw [et]
        rfl
      rw [e1]
      refine ⟨_, rfl, rfl, _, rfl, ?_⟩
      rw [is_bang, ch_eq, decide_eq_false (show ¬ c = 33 by omega)]
      refine iteF ⟨_, rfl, rfl, _, rfl, ?_⟩
      rw [is_open, ch_eq, decide_eq_false (show ¬ c = 40 by omega)]
      refine iteF ⟨_, rfl, rfl, _, rfl, ?_⟩
      rw [is_0, ch_eq, decide_eq_false (show ¬ c = 48 by omega)]
      refine iteF ⟨_, rfl, rfl, _, rfl, ?_⟩
      rw [is_1, ch_eq, decide_eq_false (show ¬ c = 49 by omega)]
      refine iteF ?_
      refine ⟨_, rfl, r, dx1, _, rfl, hr1', rf_no _ _ _ (by decide +kernel) (by decide +kernel) (by decide +kernel), r, v, z, j1, sw, x, post, rfl, ⟨dx1, hr1'⟩, l1, hat.z60, hat1.hsw, hat.ok, hx, d1, nl, fun u H2 j2 h2 b2 l2 d2 q2 => ?_⟩
      exact k u H2 j2 h2 (b1.trans b2) l2 d2 q2
    · -- 1
      have e1 : hd1 (49 :: [] ++ post) = ⟨#[49]⟩ := rfl
      rw [e1]
      refine ⟨_, rfl, rfl, _, rfl, ?_⟩
      rw [is_bang, ch_eq]
      refine iteF ⟨_, rfl, rfl, _, rfl, ?_⟩
      rw [is_open, ch_eq]
      refine iteF ⟨_, rfl, rfl, _, rfl, ?_⟩
      rw [is_0, ch_eq]
      refine iteF ⟨_, rfl, rfl, _, rfl, ?_⟩
      rw [is_1, ch_eq]
      refine iteT ?_
      obtain ⟨t1, t3⟩ := drop_tail d1
      refine ⟨_, rfl, fl_inc T hr1' fun H2 hr2 b2 => ?_⟩
      refine ⟨_, rfl, rfl, _, rfl, ?_⟩
      rw [ch_eq]
      refine iteT ⟨(by show 1 ≤ sizeLine; decide), fun p hp => ?_⟩
      have sn := same_new (o := .tup [.str "yes"]) hp
      exact k _ _ (j1 + 1) ⟨dx1, sn _ _ hr2⟩ ((b1.trans b2).trans (But.of sn)) (by rw [len_tl]; omega) t1 ⟨p, rfl, upd_same⟩
    · -- 0
      have e1 : hd1 (48 :: [] ++ post) = ⟨#[48]⟩ := rfl
      rw [e1]
      refine ⟨_, rfl, rfl, _, rfl, ?_⟩
      rw [is_bang, ch_eq]
      refine iteF ⟨_, rfl, rfl, _, rfl, ?_⟩
      rw [is_open, ch_eq]
      refine iteF ⟨_, rfl, rfl, _, rfl, ?_⟩
      rw [is_0, ch_eq]
      refine iteT (iteT ?_)
      obtain ⟨t1, t3⟩ := drop_tail d1
      refine ⟨_, rfl, fl_inc T hr1' fun H2 hr2 b2 => ?_⟩
      refine ⟨_, rfl, rfl, _, rfl, ?_⟩
      rw [is_1, ch_eq]
      refine iteF ⟨(by show 1 ≤ sizeLine; decide), fun p hp => ?_⟩
      have sn := same_new (o := .tup [.str "no"]) hp
      exact k _ _ (j1 + 1) ⟨dx1, sn _ _ hr2⟩ ((b1.trans b2).trans (But.of sn)) (by rw [len_tl]; omega) t1 ⟨p, rfl, upd_same⟩
    · -- !
      have e1 : hd1 (33 :: (a2 ++ t2) ++ post) = ⟨#[33]⟩ := rfl
      rw [e1]
      refine ⟨_, rfl, rfl, _, rfl, ?_⟩
      rw [is_bang, ch_eq]
      refine iteT ?_
      obtain ⟨t1, t3⟩ := drop_tail d1
      refine ⟨_, rfl, fl_inc T hr1' fun H2 hr2 b2 => ?_⟩
      have hat2 : At T.C H2 r v z (j1 + 1) sw := hat1.move b2 ⟨dx1, hr2⟩ (by rw [len_tl]; omega)
      refine ⟨_, rfl, r, dx1, _, rfl, hr2, rf_no _ _ _ (by decide +kernel) (by decide +kernel) (by decide +kernel), r, v, z, _, sw, g, a2, t2, post, rfl, hat2, (by rw [t1]; simp), g2, g1, nl, fun u H3 j3 h3 b3 l3 d3 q3 => ?_⟩
      obtain ⟨dx3, hr3⟩ := h3
      refine ⟨(by show 2 ≤ sizeLine; decide), fun p hp => ?_⟩
      have sn := same_new (o := .tup [.str "not", u]) hp
      exact k _ _ j3 ⟨dx3, sn _ _ hr3⟩ (((b1.trans b2).trans b3).trans (But.of sn)) l3 d3 ⟨p, u, rfl, upd_same, q3.same sn⟩
    · -- (
      have e1 : hd1 (40 :: (a2 ++ t2 ++ c2 ++ [41]) ++ post) = ⟨#[40]⟩ := rfl
      rw [e1]
      refine ⟨_, rfl, rfl, _, rfl, ?_⟩
      rw [is_bang, ch_eq]
      refine iteF ⟨_, rfl, rfl, _, rfl, ?_⟩
      rw [is_open, ch_eq]
      refine iteT ?_
      obtain ⟨t1, t3⟩ := drop_tail d1
      refine ⟨_, rfl, fl_inc T hr1' fun H2 hr2 b2 => ?_⟩
      have hat2 : At T.C H2 r v z (j1 + 1) sw := hat1.move b2 ⟨dx1, hr2⟩ (by rw [len_tl]; omega)
      have sk : skip (c2 ++ 41 :: post) = 41 :: post := by
        rw [skip_sp g3]
        exact skip_ne (by decide) _
      refine ⟨_, rfl, r, dx1, _, rfl, hr2, rf_no _ _ _ (by decide +kernel) (by decide +kernel) (by decide +kernel), r, v, z, _, sw, f, a2, t2, c2 ++ 41 :: post, rfl, hat2, (by rw [t1]; simp), g2, g1, ?_, ?_, ?_, fun u H3 j3 h3 b3 l3 d3 q3 => ?_⟩
      · cases c2 with
        | nil =>
          intro c e
          have e' : some 41 = some c := e
          rw [← Option.some.inj e']
          unfold isL
          omega
        | cons c' c2 =>
          intro c e
          have e' : some c' = some c := e
          rw [← Option.some.inj e', g3 c' List.mem_cons_self]
          unfold isL
          omega
      · intro c e
        rw [sk] at e
        have e' : some 41 = some c := e
        rw [← Option.some.inj e']
        decide
      · intro c e
        rw [sk] at e
        have e' : some 41 = some c := e
        rw [← Option.some.inj e']
        decide
      rw [sk] at d3
      obtain ⟨dx3, hr3⟩ := h3
      refine ⟨_, rfl, r, dx3, _, rfl, hr3, rf_no _ _ _ (by decide +kernel) (by decide +kernel) (by decide +kernel), r, v, z, j3, rfl, ⟨dx3, hr3⟩, l3, hat.z60, fun H4 j4 h4 b4 l4 d4 => ?_⟩
      rw [d3, skip_ne (by decide)] at d4 ⊢
      refine ⟨rfl, _, rfl, ?_⟩
      rw [hd1_cons, is_close, ch_eq]
      refine iteF ?_
      obtain ⟨dx4, hr4⟩ := h4
      obtain ⟨u1, u2⟩ := drop_tail d4
      refine ⟨_, rfl, fl_inc T hr4 fun H5 hr5 b5 => ?_⟩
      refine ⟨_, rfl, ?_⟩
      exact k u H5 (j4 + 1) ⟨dx4, hr5⟩ ((((b1.trans b2).trans b3).trans b4).trans b5) (by rw [len_tl]; omega) u1 ((q3.imm (b4.imm hr3 trivial)).imm (b5.imm hr4 trivial))
theorem scReadF : FnScope ["switches", "text", "reader", "formula"] ["switches", "text"] (defScope sReadF) := ⟨rfl, rfl, rfl, by decide +kernel, rfl, by decide +kernel, by decide +kernel⟩
theorem ok_read (T : RdT K mg) : FnOk P w K mg base CX0 13 T.read.f T.read.fd ["switches", "text"] spRead := by
  have GK : FnOk P w K mg base CX0 1 T.peek.f T.peek.fd ["self"] (spPeek T.C) := ok_peek T
  have GI : FnOk P w K mg base CX0 1 T.init.f T.init.fd ["self", "switches", "text"] (spRInit T.C) := ok_rinit T
  have GE : FnOk P w K mg base CX0 12 T.either.f T.either.fd ["self"] (spRE T.C 3) := ok_reither T (by omega) (ok_rboth T (by omega) (ok_part T 3))
  refine T.read.F.ok scReadF (fun vs H Q E h => ?_) (fun cdv A outer s H vs Q E hr h => ?_)
  · obtain ⟨v, z, sw, f, rfl, _⟩ := h
    rfl
  obtain ⟨v, z, sw, f, rfl, hsw, ok, hf, hz, k⟩ := h
  have hr1 : Room 1 _ := hr.mono (by omega)
  have hr2 : Room 2 _ := hr.mono (by omega)
  refine ⟨_, (pss_cons (ps_if (pt_cmpR op_gt (pe_callB call_len_str (by rfl) T.ml PySem.boot_len (pa_cons (pv 1) pa_nil)) (pe_glob (v := .int 60) rfl T.mM ⟨_, rfl⟩) (nomark _)) (pss_one ps_never) pss_nil)
        (pss_cons (ps_set (i := 2) scReadF.nd rfl (.inl rfl) (pe_make T.init.m GI hr2 rfl T.mgC T.init.b .nil pass0 (pa_cons (pv 0) (pa_cons (pv 1) pa_nil))))
        (pss_cons (ps_set (i := 3) scReadF.nd rfl (.inl rfl) (pmeth0 T.either T.cl GE hr (pv 2)))
        (pss_cons (ps_if (pt_cmpR op_ne (pmeth0 T.peek T.cl GK hr1 (pv 2)) pe_str (nomark _)) (pss_one ps_never) pss_nil)
        (pss_one (ps_ret (pv 3))))))), ?_⟩
  refine ⟨_, rfl, _, rfl, small60 hz, _, _, rfl, rfl, _, rfl, ?_⟩
  rw [decide_eq_false (by omega)]
  refine iteF ⟨_, rfl, _, rfl, fun x dx nx ndx nex => ?_⟩
  refine ⟨x, dx, v, z, rfl, upd_same, fun H1 h1 b1 => ⟨rfl, ?_⟩⟩
  have s1 : Same H H1 := Same.made nx ndx b1
  have hat : At T.C H1 x v z 0 sw := ⟨h1, Nat.zero_le _, hz, hsw.same s1, ok⟩
  obtain ⟨dx1, hr0⟩ := h1
  refine ⟨_, rfl, x, dx1, _, rfl, hr0, rf_no _ _ _ (by decide +kernel) (by decide +kernel) (by decide +kernel), x, v, z, 0, sw, f, [], tl z, [], rfl, hat, (by simp), (fun _ h => by simp at h), hf, (fun c h => by simp at h), (fun c h => by simp [skip] at h), (fun c h => by simp [skip] at h), fun u H2 j2 h2 b2 l2 d2 q2 => ?_⟩
  obtain ⟨dx2, hr2'⟩ := h2
  refine ⟨_, rfl, x, dx2, _, rfl, hr2', rf_no _ _ _ (by decide +kernel) (by decide +kernel) (by decide +kernel), x, v, z, j2, rfl, ⟨dx2, hr2'⟩, l2, hz, fun H3 j3 h3 b3 l3 d3 => ?_⟩
  rw [d2]
  refine ⟨rfl, _, rfl, ?_⟩
  have e0 : hd1 (skip (skip [])) = ("" : Str) := by decide +kernel
  rw [e0, decide_eq_true rfl]
  refine iteF ⟨_, rfl, ?_⟩
  exact k u H3 (But.new nx s1 (b2.trans b3)) (q2.imm (b3.imm hr2' trivial))
end
end OF

set_option Elab.async false
set_option linter.all false
set_option maxRecDepth 100000
set_option maxHeartbeats 4000000
/-! M1: lines, rows, what reading a file gives: plain mathematics. -/
namespace OF
open PySem L2
/-- two lists, item by item -/
inductive All2 {α β : Type} (R : α → β → Prop) : List α → List β → Prop
  | nil : All2 R [] []
  | cons {a b l m} : R a b → All2 R l m → All2 R (a :: l) (b :: m)
theorem All2.mono {α β : Type} {R S : α → β → Prop} (f : ∀ a b, R a b → S a b) : ∀ {l : List α} {m : List β}, All2 R l m → All2 S l m
  | _, _, .nil => .nil
  | _, _, .cons h t => .cons (f _ _ h) (t.mono f)
theorem All2.append {α β : Type} {R : α → β → Prop} : ∀ {l : List α} {m : List β} {l' m'}, All2 R l m → All2 R l' m' → All2 R (l ++ l') (m ++ m')
  | _, _, _, _, .nil, s => s
  | _, _, _, _, .cons h t, s => .cons h (t.append s)
theorem All2.length {α β : Type} {R : α → β → Prop} : ∀ {l : List α} {m : List β}, All2 R l m → l.length = m.length
  | _, _, .nil => rfl
  | _, _, .cons _ t => by simp [t.length]
theorem All2.get {α β : Type} {R : α → β → Prop} : ∀ {l : List α} {m : List β} {i : Nat} {a : α}, All2 R l m → l[i]? = some a → ∃ b, m[i]? = some b ∧ R a b
  | _, _, i, a, .nil, h => by simp at h
  | _, _, 0, a, .cons h _, e => by
    simp at e
    subst e
    exact ⟨_, rfl, h⟩
  | _, _, i + 1, a, .cons _ t, e => by
    obtain ⟨b, h1, h2⟩ := t.get (i := i) (by simpa using e)
    exact ⟨b, by simpa using h1, h2⟩
theorem All2.get' {α β : Type} {R : α → β → Prop} : ∀ {l : List α} {m : List β} {i : Nat} {b : β}, All2 R l m → m[i]? = some b → ∃ a, l[i]? = some a ∧ R a b
  | _, _, i, b, .nil, h => by simp at h
  | _, _, 0, b, .cons h _, e => by
    simp at e
    subst e
    exact ⟨_, rfl, h⟩
  | _, _, i + 1, b, .cons _ t, e => by
    obtain ⟨a, h1, h2⟩ := t.get' (i := i) (by simpa using e)
    exact ⟨a, by simpa using h1, h2⟩
theorem All2.take {α β : Type} {R : α → β → Prop} : ∀ {l : List α} {m : List β} (i : Nat), All2 R l m → All2 R (l.take i) (m.take i)
  | _, _, 0, _ => by simp only [List.take_zero]; exact .nil
  | _, _, i + 1, .nil => by simp only [List.take_nil]; exact .nil
  | _, _, i + 1, .cons h t => by simp only [List.take_succ_cons]; exact .cons h (t.take i)

/-- a line -/
inductive Ln where
  | con (s : Str)
  | use (f : Str)
  | iff (s : Str)
  | els
  | fin
def Ln.txt : Ln → Str
  | .con s => s
  | .use f => ("#use " : Str) ++ f
  | .iff s => ("#if " : Str) ++ s
  | .els => "#else"
  | .fin => "#end"
/-- the formulas around a line with what they must be -/
abbrev Ar := List (Str × Bool)
structure Row where
  text : Str
  file : Str
  at' : Nat
  ar : Ar
def Row.under (r : Row) (ar : Ar) : Row := { r with ar := ar ++ r.ar }
/-- the open conditions behind a line; the last one stands first -/
def nxt : Ar → Ln → Ar
  | st, .iff s => (s, true) :: st
  | (s, _) :: st, .els => (s, false) :: st
  | _ :: st, .fin => st
  | st, _ => st
/-- the rows of a line -/
def rowsOf (sub : Str → List Row) (name : Str) (k : Nat) (st : Ar) : Ln → List Row
  | .con s => [⟨s, name, k + 1, st.reverse⟩]
  | .use f => (sub f).map fun r => r.under st.reverse
  | _ => []
/-- the rows of lines, from the line k on -/
def rdL (sub : Str → List Row) (name : Str) : Nat → Ar → List Ln → List Row
  | _, _, [] => []
  | k, st, ln :: r => rowsOf sub name k st ln ++ rdL sub name (k + 1) (nxt st ln) r
/-- content lines are fine -/
structure Cont (s : Str) : Prop where
  len : s.length ≤ 60
  sg : ∀ c ∈ tl s, 32 ≤ c ∧ c ≤ 126
  hash : ∀ c, (tl s).head? = some c → c ≠ 35
/-- a line that may stand where these conditions are open -/
def okLn (U I : Str → Prop) : Ar → Ln → Prop
  | _, .con s => Cont s
  | _, .use f => U f
  | st, .iff s => I s ∧ st.length < 6
  | (_, true) :: _, .els => True
  | _, .els => False
  | _ :: _, .fin => True
  | [], .fin => False
/-- lines that are fine from these open conditions on -/
def okL (U I : Str → Prop) : Ar → List Ln → Prop
  | st, [] => st = []
  | st, ln :: r => okLn U I st ln ∧ okL U I (nxt st ln) r
theorem okL.mono {U U' I I' : Str → Prop} (hu : ∀ f, U f → U' f) (hi : ∀ s, I s → I' s) : ∀ {ls : List Ln} {st : Ar}, okL U I st ls → okL U' I' st ls
  | [], _, h => h
  | ln :: r, st, ⟨h1, h2⟩ => by
    refine ⟨?_, okL.mono hu hi h2⟩
    cases ln with
    | con s => exact h1
    | use f => exact hu f h1
    | iff s => exact ⟨hi s h1.1, h1.2⟩
    | els =>
      cases st with
      | nil => exact h1
      | cons x st =>
        obtain ⟨s, b⟩ := x
        cases b <;> exact h1
    | fin => cases st <;> exact h1
/-- the rows of the file f, uses nested fewer than n deep -/
def rows (fs : Str → List Ln) : Nat → Str → List Row
  | 0, _ => []
  | n + 1, f => rdL (rows fs n) f 0 [] (fs f)
/-- the file f may be read where the files of the path are being read -/
def FsOk (fs : Str → List Ln) (dom I : Str → Prop) : Nat → List Str → Str → Prop
  | 0, _, _ => False
  | n + 1, path, f => path.length < 4 ∧ dom f ∧ okL (fun g => g ∉ path ++ [f] ∧ FsOk fs dom I n (path ++ [f]) g) I [] (fs f)

/-! ### presence -/
/-- the conditions around hold where the switches say q -/
def pres (sw : List Str) (kn : Str → Fo) (ar : Ar) (q : Nat → Bool) : Bool := ar.all fun x => (kn x.1).ev (swR sw q) == x.2
theorem pres_append {sw : List Str} {kn : Str → Fo} {a b : Ar} {q : Nat → Bool} : pres sw kn (a ++ b) q = (pres sw kn a q && pres sw kn b q) := by
  unfold pres
  exact List.all_append
theorem pres_one {sw : List Str} {kn : Str → Fo} {s : Str} {b : Bool} {q : Nat → Bool} : pres sw kn [(s, b)] q = ((kn s).ev (swR sw q) == b) := by
  unfold pres
  simp
theorem Fm.ev_congr {sw : List Str} {q q' : Nat → Bool} (h : ∀ k, k < sw.length → q k = q' k) : ∀ {f : Fo}, FNm sw f → f.ev (swR sw q) = f.ev (swR sw q')
  | .yes, _ => rfl
  | .no, _ => rfl
  | .sw s, m => h _ (ixOf_lt m)
  | .not f, m => by
    show (!f.ev _) = !f.ev _
    rw [Fm.ev_congr h (f := f) m]
  | .and f g, m => by
    show (f.ev _ && g.ev _) = (f.ev _ && g.ev _)
    rw [Fm.ev_congr h m.1, Fm.ev_congr h m.2]
  | .or f g, m => by
    show (f.ev _ || g.ev _) = (f.ev _ || g.ev _)
    rw [Fm.ev_congr h m.1, Fm.ev_congr h m.2]
/-- the names of the formulas around are switches -/
def ArOk (sw : List Str) (kn : Str → Fo) (ar : Ar) : Prop := ∀ x ∈ ar, FNm sw (kn x.1)
theorem pres_congr {sw : List Str} {kn : Str → Fo} {ar : Ar} {q q' : Nat → Bool} (h : ∀ k, k < sw.length → q k = q' k) (ok : ArOk sw kn ar) : pres sw kn ar q = pres sw kn ar q' := by
  unfold pres
  rw [Bool.eq_iff_iff, List.all_eq_true, List.all_eq_true]
  constructor
  · intro z x hx
    rw [← Fm.ev_congr h (ok x hx)]
    exact z x hx
  · intro z x hx
    rw [Fm.ev_congr h (ok x hx)]
    exact z x hx
/-- the diagram of the conditions around -/
def dgOf (sw : List Str) (kn : Str → Fo) (ar : Ar) : Dg := ofBits sw.length 0 ((allC sw.length).map fun c => pres sw kn ar (cfR c))
theorem dgOf_red (sw : List Str) (kn : Str → Fo) (ar : Ar) : Red sw.length 0 (dgOf sw kn ar) := (ofBits_ok (N := sw.length) sw.length 0 _ (by omega)).1
theorem dgOf_ev {sw : List Str} {kn : Str → Fo} {ar : Ar} (ok : ArOk sw kn ar) (q : Nat → Bool) : (dgOf sw kn ar).ev q = pres sw kn ar q := by
  unfold dgOf
  rw [(ofBits_ok (N := sw.length) sw.length 0 _ (by omega)).2]
  refine pres_congr (fun k hk => ?_) ok
  unfold cfR
  rw [List.getD_eq_getElem?_getD, List.getElem?_map, List.getElem?_range hk]
  simp
/-- a diagram that says so is this one -/
theorem dgOf_is {sw : List Str} {kn : Str → Fo} {ar : Ar} {d : Dg} (ok : ArOk sw kn ar) (r : Red sw.length 0 d) (h : ∀ q, d.ev q = pres sw kn ar q) : d = dgOf sw kn ar :=
  uniq r (dgOf_red sw kn ar) fun q => by rw [h, dgOf_ev ok]
theorem dgOf_nil (sw : List Str) (kn : Str → Fo) : dgOf sw kn [] = .lf true :=
  (dgOf_is (d := .lf true) (fun _ h => by simp at h) trivial fun q => rfl).symm
/-- the folded rows: those that some configuration has -/
def folded (sw : List Str) (kn : Str → Fo) (rs : List Row) : List Row := rs.filter fun r => decide (dgOf sw kn r.ar ≠ .lf false)
theorem folded_append {sw : List Str} {kn : Str → Fo} {a b : List Row} : folded sw kn (a ++ b) = folded sw kn a ++ folded sw kn b := List.filter_append ..
/-- the chosen rows of a configuration -/
def chosenR (sw : List Str) (kn : Str → Fo) (c : List Bool) (rs : List Row) : List Row := rs.filter fun r => pres sw kn r.ar (cfR c)
/-- all rows' conditions are known -/
def RowsOk (sw : List Str) (kn : Str → Fo) (rs : List Row) : Prop := ∀ r ∈ rs, ArOk sw kn r.ar
theorem chosen_folded {sw : List Str} {kn : Str → Fo} {c : List Bool} : ∀ {rs : List Row}, RowsOk sw kn rs → (folded sw kn rs).filter (fun r => (dgOf sw kn r.ar).ev (cfR c)) = chosenR sw kn c rs
  | [], _ => rfl
  | r :: rs, ok => by
    have ih := chosen_folded (c := c) (rs := rs) fun x hx => ok x (List.mem_cons_of_mem _ hx)
    have o := ok r List.mem_cons_self
    have e := dgOf_ev o (cfR c)
    unfold folded chosenR at *
    by_cases p : pres sw kn r.ar (cfR c) = true
    · have ne : dgOf sw kn r.ar ≠ .lf false := fun z => by
        rw [z, p] at e
        cases e
      rw [List.filter_cons_of_pos (by simpa using ne), List.filter_cons_of_pos (by rw [e]; exact p), List.filter_cons_of_pos (by exact p), ih]
    · have p' : pres sw kn r.ar (cfR c) = false := by simpa using p
      rw [List.filter_cons_of_neg (a := r) (l := rs) (p := fun r => pres sw kn r.ar (cfR c)) (by rw [p']; decide)]
      by_cases ne : dgOf sw kn r.ar ≠ .lf false
      · rw [List.filter_cons_of_pos (by simpa using ne), List.filter_cons_of_neg (by rw [e, p']; decide), ih]
      · rw [List.filter_cons_of_neg (by simpa using ne), ih]
/-- no configuration has the row: no bit is true -/
theorem folded_any {sw : List Str} {kn : Str → Fo} {ar : Ar} (ok : ArOk sw kn ar) : (dgOf sw kn ar ≠ .lf false) ↔ ((allC sw.length).map fun c => pres sw kn ar (cfR c)).any id = true := by
  constructor
  · intro ne
    refine Classical.byContradiction fun no => ne ?_
    refine ev_none (dgOf_red sw kn ar) fun q => ?_
    rw [dgOf_ev ok]
    refine Classical.byContradiction fun y => no ?_
    rw [List.any_map, List.any_eq_true]
    refine ⟨(List.range sw.length).map q, allC_mem (by simp), ?_⟩
    show pres sw kn ar (cfR ((List.range sw.length).map q)) = true
    rw [pres_congr (q' := q) (fun k hk => ?_) ok]
    · simpa using y
    · unfold cfR
      rw [List.getD_eq_getElem?_getD, List.getElem?_map, List.getElem?_range hk]
      simp
  · intro h e
    rw [List.any_map, List.any_eq_true] at h
    obtain ⟨c, _, hc⟩ := h
    have z := dgOf_ev ok (cfR c)
    rw [e] at z
    rw [show (id ∘ fun c => pres sw kn ar (cfR c)) c = pres sw kn ar (cfR c) from rfl, ← z] at hc
    cases hc
end OF

set_option Elab.async false
set_option linter.all false
set_option maxRecDepth 100000
set_option maxHeartbeats 4000000
/-! C1: lines_of, is_file_name, is_content. -/
namespace OF
open PySem L2
/-- the lines of a text -/
def linesT (z : Str) : List Str := if z = "" then [] else Txt.split z "\n"
/-- lines_of(text) -/
def spLines : Sp := fun vs H Q _ => ∃ z : Str, vs = [.str z] ∧ z.length ≤ 100000 ∧ ∀ p H', Same H H' → H' p = some (.lst ((linesT z).map V.str)) → H p = none → Q (.ref p) H'
/-- a name of a file -/
def FileNm (f : Str) : Prop := 1 ≤ f.length ∧ f.length ≤ 8 ∧ ∀ c ∈ tl f, c ∈ tl ("abcdefghijklmnopqrstuvwxyz0123456789" : Str)
def spIsFile : Sp := fun vs H Q _ => ∃ f : Str, vs = [.str f] ∧ FileNm f ∧ ∀ H', Same H H' → Q (.bl true) H'
def spIsContent : Sp := fun vs H Q _ => ∃ z : Str, vs = [.str z] ∧ Cont z ∧ ∀ H', Same H H' → Q (.bl true) H'
/-- what of the module shelves these defs read -/
structure ShT (K : PySem.W.Frag) (mg : Str → Option Value) where
  lines : Gb K mg "lines_of" sLinesOf ["text"]
  isFile : Gb K mg "is_file_name" sIsFile ["text"]
  isCont : Gb K mg "is_content" sIsContent ["line"]
  ml : mg "len" = none
  mall : mg "all" = none
  tSi : Tok
  mSi : mg "SIGNS" = some (.str "abcdefghijklmnopqrstuvwxyz0123456789" tSi)
  tFN : Tok
  mFN : mg "MAX_FILE_NAME" = some (.int 8 tFN)
  tML : Tok
  mML : mg "MAX_LINE" = some (.int 60 tML)
theorem lt1 (c d : Nat) : decide (([c] : List Nat) < [d]) = decide (c < d) := by
  by_cases h : c < d
  · rw [decide_eq_true h]
    exact decide_eq_true (List.cons_lt_cons_iff.mpr (.inl h))
  · rw [decide_eq_false h]
    refine decide_eq_false fun z => ?_
    rcases List.cons_lt_cons_iff.mp z with z | ⟨_, z⟩
    · exact h z
    · exact absurd z (by simp)
theorem tilde_is : ("~" : Str) = ⟨#[126]⟩ := by decide +kernel
theorem all_true (n : Nat) : (List.replicate n true).all id = true := by simp
section
variable {P : Program} {w : World} {K : PySem.W.Frag} {mg : Str → Option Value} {base : Heap}
theorem scLinesOf : FnScope ["text"] ["text"] (defScope sLinesOf) := ⟨rfl, rfl, rfl, by decide +kernel, rfl, by decide +kernel, by decide +kernel⟩
theorem ok_lines (T : ShT K mg) : FnOk P w K mg base CX0 1 T.lines.f T.lines.fd ["text"] spLines := by
  refine T.lines.F.ok scLinesOf (fun vs H Q E h => ?_) (fun cdv A outer s H vs Q E hr h => ?_)
  · obtain ⟨z, rfl, _⟩ := h
    rfl
  obtain ⟨z, rfl, hz, k⟩ := h
  refine ⟨_, (pss_one (ps_ret (pe_ifExp (pt_cmpR op_eq (pv 0) pe_str (nomark _)) (pe_lst pa_nil) (pe_split (pv 0) pe_str)))), ?_⟩
  refine ⟨_, rfl, rfl, _, rfl, ?_⟩
  have k' : ∀ p H', Same H H' → H' p = some (.lst (((if z = "" then [] else Txt.split z "\n") : List Str).map V.str)) → H p = none → Q (.ref p) H' := k
  by_cases c : z = ""
  · rw [if_pos c] at k'
    rw [decide_eq_true (show V.str z = V.str "" by rw [c])]
    refine iteT ⟨(by show 0 ≤ sizeLine; decide), fun p hp => ?_⟩
    exact k' _ _ (same_new hp) upd_same hp
  · rw [if_neg c] at k'
    rw [decide_eq_false (show ¬ V.str z = V.str "" from fun e => c (V.str.inj e))]
    refine iteF ⟨_, rfl, ⟨_, rfl⟩, _, _, rfl, rfl, (by decide +kernel), Nat.le_trans (Nat.add_le_add_right hz 2) (by decide), fun p hp => ?_⟩
    exact k' _ _ (same_new hp) upd_same hp
theorem scIsFile : FnScope ["text", "sign"] ["text"] (defScope sIsFile) := ⟨rfl, rfl, rfl, by decide +kernel, rfl, by decide +kernel, by decide +kernel⟩
theorem ok_isfile (T : ShT K mg) : FnOk P w K mg base CX0 1 T.isFile.f T.isFile.fd ["text"] spIsFile := by
  refine T.isFile.F.ok scIsFile (fun vs H Q E h => ?_) (fun cdv A outer s H vs Q E hr h => ?_)
  · obtain ⟨z, rfl, _⟩ := h
    rfl
  obtain ⟨z, rfl, ⟨h1, h8, hc⟩, k⟩ := h
  have zl : z.length ≤ sizeLine := Nat.le_trans h8 (by decide)
  refine ⟨_, (pss_one (ps_ret (pe_and (pe_chain op_le op_le pe_int (pe_callB call_len_str (by rfl) T.ml PySem.boot_len (pa_cons (pv 0) pa_nil)) (pe_glob (v := .int 8) rfl T.mFN ⟨_, rfl⟩)) (pe_one (pe_callB (cr_all rfl) (by rfl) T.mall (by decide +kernel) (pa_cons (pe_lc (own := [("sign", 1)]) (g := gName 1) (tt := tYes) rfl scIsFile.nd (pi_str (pv 0)) (blkOk_by (N := ["text", "sign"]) (sc := defScope sIsFile) (by decide +kernel)) (fun _ _ _ _ _ => pg_name (i := 1) scIsFile.nd rfl (.inl rfl)) (fun _ _ _ _ _ => pts_nil) (fun _ _ _ _ _ => pe_cmpR op_in_sign (pv 1) (pe_glob (v := .str "abcdefghijklmnopqrstuvwxyz0123456789") rfl T.mSi ⟨_, rfl⟩) (by rfl))) pa_nil)))))), ?_⟩
  refine ⟨_, rfl, z, rfl, zl, _, _, rfl, rfl, _, rfl, ?_⟩
  rw [decide_eq_true (show (1 : Int) ≤ (z.length : Int) by omega)]
  refine iteT ⟨_, _, rfl, rfl, _, rfl, ?_⟩
  rw [decide_eq_true (show (z.length : Int) ≤ 8 by omega)]
  refine iteT ⟨_, rfl, z, rfl, fun D hD => ?_⟩
  refine lc_it (walk_str (z := z)) (fun i H' => Same H H' ∧ H' D = some (.lst ((List.replicate i true).map V.bl))) ⟨same_new hD, upd_same⟩ (fun _ _ _ _ => trivial) ?_ ?_
  · rintro i x H1 H2 hi ⟨s1, h1⟩ ⟨rfl, c, gc, rfl⟩
    refine ⟨rfl, _, rfl, c, _, rfl, rfl, ?_⟩
    have mem : c ∈ tl z := by
      refine List.mem_of_getElem? (i := i) ?_
      rw [← gc]
      exact Array.getElem?_toList
    rw [decide_eq_true (hc c mem)]
    refine ⟨_, h1, ?_, ?_, ?_⟩
    · rw [List.length_map, List.length_replicate]
      have := Nat.lt_of_lt_of_le hi (show z.cps.size ≤ sizeLine from zl)
      exact this
    · exact fun b o e => by
        rw [upd_ne (ne_of_none e hD)]
        exact s1 b o e
    · rw [upd_same, List.replicate_succ', List.map_append]
      rfl
  · rintro H1 ⟨s1, h1⟩
    refine ⟨D, _, rfl, .inl (.inl h1), ?_⟩
    rw [all_true]
    exact k _ s1
theorem scIsContent : FnScope ["line", "sign"] ["line"] (defScope sIsContent) := ⟨rfl, rfl, rfl, by decide +kernel, rfl, by decide +kernel, by decide +kernel⟩
theorem ok_iscont (T : ShT K mg) : FnOk P w K mg base CX0 1 T.isCont.f T.isCont.fd ["line"] spIsContent := by
  refine T.isCont.F.ok scIsContent (fun vs H Q E h => ?_) (fun cdv A outer s H vs Q E hr h => ?_)
  · obtain ⟨z, rfl, _⟩ := h
    rfl
  obtain ⟨z, rfl, hz, k⟩ := h
  have zl : z.length ≤ sizeLine := Nat.le_trans hz.len (by decide)
  have z60 := hz.len
  refine ⟨_, (pss_one (ps_ret (pe_and (pe_cmpR op_le (pe_callB call_len_str (by rfl) T.ml PySem.boot_len (pa_cons (pv 0) pa_nil)) (pe_glob (v := .int 60) rfl T.mML ⟨_, rfl⟩) (nomark _)) (pe_one (pe_callB (cr_all rfl) (by rfl) T.mall (by decide +kernel) (pa_cons (pe_lc (own := [("sign", 1)]) (g := gName 1) (tt := tYes) rfl scIsContent.nd (pi_str (pv 0)) (blkOk_by (N := ["line", "sign"]) (sc := defScope sIsContent) (by decide +kernel)) (fun _ _ _ _ _ => pg_name (i := 1) scIsContent.nd rfl (.inl rfl)) (fun _ _ _ _ _ => pts_nil) (fun _ _ _ _ _ => pe_chain op_le_str op_le_str pe_str (pv 1) pe_str)) pa_nil)))))), ?_⟩
  refine ⟨_, rfl, z, rfl, zl, _, _, rfl, rfl, _, rfl, ?_⟩
  rw [decide_eq_true (show (z.length : Int) ≤ 60 by omega)]
  refine iteT ⟨_, rfl, z, rfl, fun D hD => ?_⟩
  refine lc_it (walk_str (z := z)) (fun i H' => Same H H' ∧ H' D = some (.lst ((List.replicate i true).map V.bl))) ⟨same_new hD, upd_same⟩ (fun _ _ _ _ => trivial) ?_ ?_
  · rintro i x H1 H2 hi ⟨s1, h1⟩ ⟨rfl, c, gc, rfl⟩
    have mem : c ∈ tl z := by
      refine List.mem_of_getElem? (i := i) ?_
      rw [← gc]
      exact Array.getElem?_toList
    have hc := hz.sg c mem
    refine ⟨rfl, _, rfl, _, _, rfl, rfl, _, rfl, ?_⟩
    rw [space_is, lt1, decide_eq_false (show ¬ c < 32 by omega)]
    refine iteT ⟨_, _, rfl, rfl, ?_⟩
    rw [tilde_is, lt1, decide_eq_false (show ¬ 126 < c by omega)]
    refine ⟨_, h1, ?_, ?_, ?_⟩
    · rw [List.length_map, List.length_replicate]
      have := Nat.lt_of_lt_of_le hi (show z.cps.size ≤ sizeLine from zl)
      exact this
    · exact fun b o e => by
        rw [upd_ne (ne_of_none e hD)]
        exact s1 b o e
    · rw [upd_same, List.replicate_succ', List.map_append]
      rfl
  · rintro H1 ⟨s1, h1⟩
    refine ⟨D, _, rfl, .inl (.inl h1), ?_⟩
    rw [all_true]
    exact k _ s1
end
end OF

set_option Elab.async false
set_option linter.all false
set_option maxRecDepth 100000
set_option maxHeartbeats 4000000
/-! C2: the Folder: its state, __init__, content, condition. -/
namespace OF
open PySem L2
/-! ### all but some objects -/
def Buts (S : List Addr) (H H' : Hp) : Prop := ∀ b o, H b = some o → b ∉ S → H' b = some o
theorem Buts.of {S : List Addr} {H H' : Hp} (s : Same H H') : Buts S H H' := fun b o e _ => s b o e
theorem Buts.trans {S : List Addr} {H H1 H2 : Hp} (a : Buts S H H1) (b : Buts S H1 H2) : Buts S H H2 := fun c o e n => b c o (a c o e n) n
theorem Buts.more {S S' : List Addr} {H H' : Hp} (a : Buts S H H') (h : ∀ x ∈ S, x ∈ S') : Buts S' H H' := fun c o e n => a c o e fun z => n (h c z)
theorem Buts.upd {S : List Addr} {H : Hp} {a : Addr} {o : HO} (h : a ∈ S) : Buts S H (upd H a o) := fun b u e n => by
  have ne : b ≠ a := fun z => n (by rw [z]; exact h)
  rw [upd_ne ne]
  exact e
theorem Buts.but {a : Addr} {H H' : Hp} (b : Buts [a] H H') : But a H H' := fun c o e n => b c o e (by simpa using n)
theorem But.buts {a : Addr} {S : List Addr} {H H' : Hp} (b : But a H H') (h : a ∈ S) : Buts S H H' := fun c o e n => b c o e fun z => n (by rw [z]; exact h)
theorem Buts.imm {S : List Addr} {H H' : Hp} (b : Buts S H H') (h : ∀ a ∈ S, ∃ o, H a = some o ∧ Wr o) : Imm H H' := by
  refine ⟨fun c xs e => b c _ e fun z => ?_, fun c p u e => b c _ e fun z => ?_⟩
  · obtain ⟨o, ho, w⟩ := h c z
    rw [e] at ho
    cases ho
    exact w
  · obtain ⟨o, ho, w⟩ := h c z
    rw [e] at ho
    cases ho
    exact w
/-- what is new at the start may change -/
theorem Buts.fresh {S S' : List Addr} {H H1 H2 : Hp} (a : Buts S H H1) (b : Buts S' H1 H2) (h : ∀ x ∈ S', x ∈ S ∨ H x = none) : Buts S H H2 := fun c o e n => b c o (a c o e n) fun z => by
  rcases h c z with q | q
  · exact n q
  · rw [e] at q
    cases q
/-! ### the parameters of a reading -/
structure Pm where
  sw : List Str
  kn : Str → Fo
  fs : Str → List Ln
  tx : Str → Str
  dom : Str → Prop
def Pm.I (M : Pm) (s : Str) : Prop := PrE M.sw 3 (M.kn s) (tl s) ∧ s.length ≤ 60
structure Pm.Ok (M : Pm) : Prop where
  sw : SwOk M.sw
  nm : ∀ f, M.dom f → FileNm f
  ls : ∀ f, M.dom f → linesT (M.tx f) = (M.fs f).map Ln.txt
  ln : ∀ f, M.dom f → (M.tx f).length ≤ 100000
/-- the file may be read there -/
def Pm.fine (M : Pm) (n : Nat) (path : List Str) (f : Str) : Prop := FsOk M.fs M.dom M.I n path f
abbrev Pm.dg (M : Pm) (ar : Ar) : Dg := dgOf M.sw M.kn ar
theorem Pm.I.names {M : Pm} {s : Str} (h : M.I s) : FNm M.sw (M.kn s) := h.1.names
/-- the shelf on the heap -/
def ShAt (M : Pm) (H : Hp) (sh : Addr) : Prop := ∃ kvs : List (Key × V), H sh = some (.dK kvs) ∧ ∀ f, M.dom f → valV kvs (Sum.inr f) = some (.str (M.tx f))
/-! ### the Folder -/
def ff (sh : Addr) (vsw : V) (l : Addr) (c : Nat) (va : V) : List (Str × V) := [("shelf", .ref sh), ("switches", vsw), ("lines", .ref l), ("count", .int (c : Int)), ("around", va)]
section
variable {sh l : Addr} {vsw va vb : V} {c d : Nat}
theorem ff_sh : (ff sh vsw l c va).lookup ("shelf" : Str) = some (.ref sh) := lk_eq
theorem ff_sw : (ff sh vsw l c va).lookup ("switches" : Str) = some vsw := by
  unfold ff
  rw [lk_ne (by decide +kernel), lk_eq]
theorem ff_li : (ff sh vsw l c va).lookup ("lines" : Str) = some (.ref l) := by
  unfold ff
  rw [lk_ne (by decide +kernel), lk_ne (by decide +kernel), lk_eq]
theorem ff_co : (ff sh vsw l c va).lookup ("count" : Str) = some (.int (c : Int)) := by
  unfold ff
  rw [lk_ne (by decide +kernel), lk_ne (by decide +kernel), lk_ne (by decide +kernel), lk_eq]
theorem ff_ar : (ff sh vsw l c va).lookup ("around" : Str) = some va := by
  unfold ff
  rw [lk_ne (by decide +kernel), lk_ne (by decide +kernel), lk_ne (by decide +kernel), lk_ne (by decide +kernel), lk_eq]
theorem ff_no {m : Str} (h1 : (m == ("shelf" : Str)) = false) (h2 : (m == ("switches" : Str)) = false) (h3 : (m == ("lines" : Str)) = false) (h4 : (m == ("count" : Str)) = false) (h5 : (m == ("around" : Str)) = false) : (ff sh vsw l c va).lookup m = none := by
  unfold ff
  rw [lk_ne h1, lk_ne h2, lk_ne h3, lk_ne h4, lk_ne h5]
  rfl
theorem ff_putc : putF "count" (.int (d : Int)) (ff sh vsw l c va) = ff sh vsw l d va := by
  unfold ff
  rw [pf_ne (by decide +kernel), pf_ne (by decide +kernel), pf_ne (by decide +kernel), pf_eq]
theorem ff_puta : putF "around" vb (ff sh vsw l c va) = ff sh vsw l c vb := by
  unfold ff
  rw [pf_ne (by decide +kernel), pf_ne (by decide +kernel), pf_ne (by decide +kernel), pf_ne (by decide +kernel), pf_eq]
end
theorem ff_1 (sh : Addr) : putF "shelf" (.ref sh) [] = [(("shelf" : Str), V.ref sh)] := rfl
theorem ff_2 (sh : Addr) (vsw : V) : putF "switches" vsw [(("shelf" : Str), V.ref sh)] = [(("shelf" : Str), V.ref sh), (("switches" : Str), vsw)] := by
  rw [pf_ne (by decide +kernel)]
  rfl
theorem ff_3 (sh l : Addr) (vsw : V) : putF "lines" (.ref l) [(("shelf" : Str), V.ref sh), (("switches" : Str), vsw)] = [(("shelf" : Str), V.ref sh), (("switches" : Str), vsw), (("lines" : Str), V.ref l)] := by
  rw [pf_ne (by decide +kernel), pf_ne (by decide +kernel)]
  rfl
theorem ff_4 (sh l : Addr) (vsw : V) : putF "count" (.int 0) [(("shelf" : Str), V.ref sh), (("switches" : Str), vsw), (("lines" : Str), V.ref l)] = [(("shelf" : Str), V.ref sh), (("switches" : Str), vsw), (("lines" : Str), V.ref l), (("count" : Str), V.int 0)] := by
  rw [pf_ne (by decide +kernel), pf_ne (by decide +kernel), pf_ne (by decide +kernel)]
  rfl
theorem ff_5 (sh l : Addr) (vsw : V) : putF "around" (.bl true) [(("shelf" : Str), V.ref sh), (("switches" : Str), vsw), (("lines" : Str), V.ref l), (("count" : Str), V.int 0)] = ff sh vsw l 0 (.bl true) := by
  rw [pf_ne (by decide +kernel), pf_ne (by decide +kernel), pf_ne (by decide +kernel), pf_ne (by decide +kernel)]
  rfl
/-- the Folder at p, its lines at l, its shelf at sh -/
structure Fd (C : Addr) (M : Pm) (H : Hp) (p sh l : Addr) (vsw : V) (c : Nat) (va : V) (items : List V) : Prop where
  ob : ∃ dx, H p = some (.ins C dx (ff sh vsw l c va))
  li : H l = some (.lst items)
  sh : ShAt M H sh
  sw : SwAt H vsw M.sw
  le : items.length ≤ c
theorem Fd.wr {C : Addr} {M : Pm} {H : Hp} {p sh l : Addr} {vsw : V} {c : Nat} {va : V} {items : List V} (h : Fd C M H p sh l vsw c va items) : ∀ a ∈ [p, l], ∃ o, H a = some o ∧ Wr o := fun a ha => by
  obtain ⟨dx, hp⟩ := h.ob
  rcases List.mem_cons.mp ha with e | e
  · subst e
    exact ⟨_, hp, trivial⟩
  · rw [List.mem_singleton.mp e]
    exact ⟨_, h.li, trivial⟩
/-- a row of the folded lines on the heap -/
def ItemAt (M : Pm) (H : Hp) (v : V) (r : Row) : Prop := ∃ p vd, v = .ref p ∧ H p = some (.tup [.str r.text, .str r.file, .int (r.at' : Int), vd]) ∧ DAt H vd (M.dg r.ar)
theorem ItemAt.imm {M : Pm} {H H' : Hp} (s : Imm H H') {v : V} {r : Row} : ItemAt M H v r → ItemAt M H' v r := fun ⟨p, vd, e, h, d⟩ => ⟨p, vd, e, s.1 _ _ h, d.imm s⟩
theorem items_imm {M : Pm} {H H' : Hp} (s : Imm H H') {l : List V} {rs : List Row} (h : All2 (ItemAt M H) l rs) : All2 (ItemAt M H') l rs := h.mono fun _ _ q => q.imm s
/-- the class Folder and what it reads -/
structure FdT (K : PySem.W.Frag) (mg : Str → Option Value) where
  D : DgT K mg
  R : RdT K mg
  S : ShT K mg
  C : Addr
  cl : Cls K C
  nSh : NoAttr K C "shelf"
  nSw : NoAttr K C "switches"
  nLi : NoAttr K C "lines"
  nCo : NoAttr K C "count"
  nAr : NoAttr K C "around"
  mgC : mg "Folder" = some (.ref C)
  init : Ib K C "Folder.__init__" sFInit ["self", "shelf", "switches"]
  content : Mb K C "content" "Folder.content" sContent ["self", "line", "place", "when"]
  condition : Mb K C "condition" "Folder.condition" sCondition ["self", "line", "place", "opened"]
  use : Mb K C "use" "Folder.use" sUse ["self", "name", "place", "when", "path"]
  directive : Mb K C "directive" "Folder.directive" sDirective ["self", "line", "place", "opened", "path"]
  file : Mb K C "file" "Folder.file" sFile ["self", "name", "when", "path"]
  fold : Gb K mg "fold" sFold ["shelf", "name", "switches"]
  choose : Gb K mg "choose" sChoose ["shelf", "name", "switches", "configuration"]
  men : mg "enumerate" = none
  tMF : Tok
  mMF : mg "MAX_FOLDED" = some (.int 40 tMF)
  tMN : Tok
  mMN : mg "MAX_NESTED" = some (.int 6 tMN)
  tMV : Tok
  mMV : mg "MAX_LEVEL" = some (.int 4 tMV)
/-! ### promises -/
def spFInit (C : Addr) : Sp := fun vs H Q _ => ∃ (p dx sh : Addr) (vsw : V), vs = [.ref p, .ref sh, vsw] ∧ H p = some (.ins C dx []) ∧ ∀ l H', (∃ dx, H' p = some (.ins C dx (ff sh vsw l 0 (.bl true)))) → H' l = some (.lst []) → H l = none → But p H H' → Q .non H'
def spContent (C : Addr) (M : Pm) : Sp := fun vs H Q _ => ∃ (p sh l pl : Addr) (vsw va vw : V) (c k : Nat) (items : List V) (s f : Str) (ar : Ar), vs = [.ref p, .str s, .ref pl, vw] ∧ Fd C M H p sh l vsw c va items ∧
  H pl = some (.tup [.str f, .int (k : Int)]) ∧ Cont s ∧ c + 1 ≤ 40 ∧ DAt H vw (M.dg ar) ∧
  ∀ H' more, Fd C M H' p sh l vsw (c + 1) va (items ++ more) → All2 (ItemAt M H') more (folded M.sw M.kn [⟨s, f, k, ar⟩]) → Buts [p, l] H H' → Q .non H'
def spCondition (C : Addr) (M : Pm) : Sp := fun vs H Q _ => ∃ (p sh l op : Addr) (vsw va vp : V) (c : Nat) (items os : List V) (s : Str), vs = [.ref p, .str (("#if " : Str) ++ s), vp, .ref op] ∧ Fd C M H p sh l vsw c va items ∧
  H op = some (.lst os) ∧ os.length < 6 ∧ M.I s ∧ SwOk M.sw ∧
  ∀ v r H', Same H H' → DAt H' v r → Red M.sw.length 0 r → (∀ q, r.ev q = (M.kn s).ev (swR M.sw q)) → Q v H'
theorem tl_app (x y : Str) : tl (x ++ y) = tl x ++ tl y := TL.tl_append x y
theorem cut4 (s : Str) : cutS (("#if " : Str) ++ s) (some 4) none = s := by
  refine ext_tl ?_
  have e : tl (("#if " : Str) ++ s) = [35, 105, 102, 32] ++ tl s := by
    rw [tl_app]
    rfl
  have l : (("#if " : Str) ++ s).length = 4 + s.length := by
    rw [len_tl, e, List.length_append, len_tl s]
    rfl
  show ((((("#if " : Str) ++ s).cps.toList.drop (HT.sIx (("#if " : Str) ++ s).length 0 (some ((4 : Nat) : Int)))).take (HT.sIx (("#if " : Str) ++ s).length (("#if " : Str) ++ s).length none - HT.sIx (("#if " : Str) ++ s).length 0 (some ((4 : Nat) : Int)))).toArray).toList = tl s
  rw [HT.sIx_nat, HT.sIx_none, l, Nat.min_eq_left (by omega)]
  have e' : (("#if " : Str) ++ s).cps.toList = [35, 105, 102, 32] ++ tl s := e
  rw [e']
  show (tl s).take (4 + s.length - 4) = tl s
  exact List.take_of_length_le (by rw [← len_tl]; omega)
section
variable {P : Program} {w : World} {K : PySem.W.Frag} {mg : Str → Option Value} {base : Heap}
theorem scFInit : FnScope ["self", "shelf", "switches"] ["self", "shelf", "switches"] (defScope sFInit) := ⟨rfl, rfl, rfl, by decide +kernel, rfl, by decide +kernel, by decide +kernel⟩
theorem ok_finit (T : FdT K mg) : FnOk P w K mg base CX0 1 T.init.f T.init.fd ["self", "shelf", "switches"] (spFInit T.C) := by
  refine T.init.F.ok scFInit (fun vs H Q E h => ?_) (fun cdv A outer s H vs Q E hr h => ?_)
  · obtain ⟨p, dx, sh, vsw, rfl, _⟩ := h
    rfl
  obtain ⟨p, dx, sh, vsw, rfl, hp, k⟩ := h
  refine ⟨_, (pss_cons (ps_fld (pv 0) (pv 1) rfl)
        (pss_cons (ps_fld (pv 0) (pv 2) rfl)
        (pss_cons (ps_fld (pv 0) (pe_lst pa_nil) rfl)
        (pss_cons (ps_fld (pv 0) pe_int rfl)
        (pss_one (ps_fld (pv 0) pe_bl rfl)))))), ?_⟩
  refine ⟨_, rfl, _, rfl, p, T.C, dx, _, rfl, hp, T.cl, T.nSh, (by show 0 < 1000; decide), ?_⟩
  rw [ff_1]
  refine ⟨_, rfl, _, rfl, p, T.C, dx, _, rfl, upd_same, T.cl, T.nSw, (by show 1 < 1000; decide), ?_⟩
  rw [ff_2]
  refine ⟨(by show 0 ≤ sizeLine; decide), fun l hl => ?_⟩
  have b2 : But p H (upd (upd H p (.ins T.C dx [(("shelf" : Str), V.ref sh)])) p (.ins T.C dx [(("shelf" : Str), V.ref sh), (("switches" : Str), vsw)])) := But.upd.trans But.upd
  have npl : p ≠ l := ne_of_none upd_same hl
  have hl0 : H l = none := by
    rw [upd_ne npl.symm, upd_ne npl.symm] at hl
    exact hl
  refine ⟨_, rfl, p, T.C, dx, _, rfl, (by rw [upd_ne npl, upd_same]), T.cl, T.nLi, (by show 2 < 1000; decide), ?_⟩
  rw [ff_3]
  refine ⟨_, rfl, p, T.C, dx, _, rfl, upd_same, T.cl, T.nCo, (by show 3 < 1000; decide), ?_⟩
  rw [ff_4]
  refine ⟨_, rfl, p, T.C, dx, _, rfl, upd_same, T.cl, T.nAr, (by show 4 < 1000; decide), ?_⟩
  rw [ff_5]
  refine k l _ ⟨dx, upd_same⟩ ?_ hl0 ?_
  · rw [upd_ne npl.symm, upd_ne npl.symm, upd_ne npl.symm, upd_same]
  · exact (((b2.trans (But.of (same_new hl))).trans But.upd).trans But.upd).trans But.upd
theorem scContent : FnScope ["self", "line", "place", "when"] ["self", "line", "place", "when"] (defScope sContent) := ⟨rfl, rfl, rfl, by decide +kernel, rfl, by decide +kernel, by decide +kernel⟩
theorem ok_content (T : FdT K mg) (M : Pm) : FnOk P w K mg base CX0 2 T.content.f T.content.fd ["self", "line", "place", "when"] (spContent T.C M) := by
  have GC : FnOk P w K mg base CX0 1 T.S.isCont.f T.S.isCont.fd ["line"] spIsContent := ok_iscont T.S
  refine T.content.F.ok scContent (fun vs H Q E h => ?_) (fun cdv A outer s H vs Q E hr h => ?_)
  · obtain ⟨p, sh, l, pl, vsw, va, vw, c, k, items, s', f, ar, rfl, _⟩ := h
    rfl
  obtain ⟨p, sh, l, pl, vsw, va, vw, c, n, items, z, f, ar, rfl, hf, hpl, hz, hc, hd, k⟩ := h
  refine ⟨_, (pss_cons (ps_if (pt_not (pt_val (pcall T.S.isCont GC hr (pa_cons (pv 1) pa_nil)))) (pss_one ps_never) pss_nil)
        (pss_cons (ps_fldaug (pv 0) pe_int in_add)
        (pss_cons (ps_if (pt_cmpR op_gt (pe_fld (pv 0) rfl) (pe_glob (v := .int 40) rfl T.mMF ⟨_, rfl⟩) (nomark _)) (pss_one ps_never) pss_nil)
        (pss_one (ps_if (pt_cmpR op_notFalse (pv 3) pe_bl (nomark _)) (pss_one (ps_expr (pe_bm PySem.F.plainAttrs_list PySem.F.slot_list_append PySem.F.type_list_append mt_append (pe_fld (pv 0) rfl) (pa_cons (pe_tup (pa_cons (pv 1) (pa_cons (pe_ix ix_tup (pv 2) pe_int (fun _ _ => rfl)) (pa_cons (pe_ix ix_tup (pv 2) pe_int (fun _ _ => rfl)) (pa_cons (pv 3) pa_nil))))) pa_nil)))) pss_nil))))), ?_⟩
  refine ⟨_, rfl, z, rfl, hz, fun H1 s1 => ⟨_, rfl, iteF ?_⟩⟩
  obtain ⟨dx, hp⟩ := hf.ob
  have hp1 := s1 _ _ hp
  refine ⟨_, rfl, p, T.C, dx, _, _, rfl, hp1, T.cl, T.nCo, ff_co, _, _, rfl, rfl, dx, _, hp1, (by show 5 < 1000; decide), ?_⟩
  have e1 : putF "count" (V.int ((c : Int) + 1)) (ff sh vsw l c va) = ff sh vsw l (c + 1) va := ff_putc
  rw [e1]
  refine ⟨_, rfl, p, T.C, dx, _, _, rfl, upd_same, T.cl, T.nCo, ff_co, _, _, rfl, rfl, _, rfl, ?_⟩
  rw [decide_eq_false (show ¬ (40 : Int) < ((c + 1 : Nat) : Int) by omega)]
  refine iteF ?_
  have hpl1 : p ≠ l := ne_of hp hf.li (by intro q; cases q)
  have hd1 : DAt (upd H1 p (.ins T.C dx (ff sh vsw l (c + 1) va))) vw (M.dg ar) := (hd.same s1).imm (But.imm (But.upd (a := p)) hp1 trivial)
  have li1 : (upd H1 p (.ins T.C dx (ff sh vsw l (c + 1) va))) l = some (.lst items) := by
    rw [upd_ne hpl1.symm]
    exact s1 _ _ hf.li
  obtain ⟨kvs, hkv, hdom⟩ := hf.sh
  have hpsh : sh ≠ p := ne_of hkv hp (by intro q; cases q)
  have hlsh : sh ≠ l := ne_of hkv hf.li (by intro q; cases q)
  have hsw1 : SwAt (upd H1 p (.ins T.C dx (ff sh vsw l (c + 1) va))) vsw M.sw := (hf.sw.same s1).imm (But.imm (But.upd (a := p)) hp1 trivial)
  have hpl2 : (upd H1 p (.ins T.C dx (ff sh vsw l (c + 1) va))) pl = some (.tup [.str f, .int (n : Int)]) := by
    rw [upd_ne (ne_of hpl hp (by intro q; cases q))]
    exact s1 _ _ hpl
  have b1 : Buts [p, l] H (upd H1 p (.ins T.C dx (ff sh vsw l (c + 1) va))) := (Buts.of s1).trans (Buts.upd (by simp))
  have skip : M.dg ar = .lf false → Q .non (upd H1 p (.ins T.C dx (ff sh vsw l (c + 1) va))) := fun e => by
    have e0 : folded M.sw M.kn [⟨z, f, n, ar⟩] = [] := by
      unfold folded
      rw [List.filter_cons_of_neg (by simpa using e)]
      rfl
    refine k _ [] ⟨⟨dx, upd_same⟩, by rw [List.append_nil]; exact li1, ⟨kvs, by rw [upd_ne hpsh]; exact s1 _ _ hkv, hdom⟩, hsw1, by have := hf.le; rw [List.append_nil]; omega⟩ ?_ b1
    rw [e0]
    exact .nil
  have app : M.dg ar ≠ .lf false → tDrop (tBM K "list" rAppend (tFld K (tVar 0) "lines") (tCons (tTup (tCons (tVar 1) (tCons (tOp (rIxT K) (tVar 2) (tC (.int 0))) (tCons (tOp (rIxT K) (tVar 2) (tC (.int 1))) (tCons (tVar 3) tNil))))) tNil)) { nx := fun _ H' => Q .non H', rt := Q } [some (.ref p), some (.str z), some (.ref pl), some vw] (upd H1 p (.ins T.C dx (ff sh vsw l (c + 1) va))) := fun ne => by
    refine ⟨_, rfl, p, T.C, dx, _, _, rfl, upd_same, T.cl, T.nLi, ff_li, .inl ⟨rfl, _, SqL.of li1⟩, _, rfl, _, rfl, pl, _, _, _, rfl, rfl, .inl (.inl hpl2), at_of (j := 0) rfl rfl, _, rfl, pl, _, _, _, rfl, rfl, .inl (.inl hpl2), at_of (j := 1) rfl rfl, _, rfl, (by show 4 ≤ sizeLine; decide), fun q hq => ?_⟩
    have sq := same_new (o := .tup [.str z, .str f, .int (n : Int), vw]) hq
    have lq : l ≠ q := ne_of_none li1 hq
    have pq : p ≠ q := ne_of_none upd_same hq
    have hle := hf.le
    refine ⟨l, items, _, rfl, rfl, sq _ _ li1, small1000 (by omega), ?_⟩
    have il : Imm (upd (upd H1 p (.ins T.C dx (ff sh vsw l (c + 1) va))) q (.tup [.str z, .str f, .int (n : Int), vw])) (upd (upd (upd H1 p (.ins T.C dx (ff sh vsw l (c + 1) va))) q (.tup [.str z, .str f, .int (n : Int), vw])) l (.lst (items ++ [.ref q]))) := But.imm (But.upd (a := l)) (sq _ _ li1) trivial
    have e0 : folded M.sw M.kn [⟨z, f, n, ar⟩] = [⟨z, f, n, ar⟩] := by
      unfold folded
      rw [List.filter_cons_of_pos (by simpa using ne)]
      rfl
    refine k _ [.ref q] ⟨⟨dx, ?_⟩, upd_same, ⟨kvs, ?_, hdom⟩, (hsw1.same sq).imm il, by rw [List.length_append]; show items.length + 1 ≤ _; omega⟩ ?_ ?_
    · rw [upd_ne hpl1, upd_ne pq, upd_same]
    · rw [upd_ne hlsh]
      exact sq _ _ (by rw [upd_ne hpsh]; exact s1 _ _ hkv)
    · rw [e0]
      exact .cons ⟨q, vw, rfl, by rw [upd_ne lq.symm, upd_same], (hd1.same sq).imm il⟩ .nil
    · exact (b1.trans (Buts.of sq)).trans (Buts.upd (by simp))
  refine ⟨_, rfl, rfl, ?_⟩
  cases hdd : M.dg ar with
  | lf b =>
    have e : vw = V.bl b := by
      rw [hdd] at hd
      exact hd
    subst e
    cases b with
    | true => exact .inl ⟨true, rfl, _, rfl, iteT (app (by rw [hdd]; simp))⟩
    | false => exact .inl ⟨false, rfl, _, rfl, iteF (skip hdd)⟩
  | nd i lo hi =>
    rw [hdd] at hd
    obtain ⟨a, _, _, e, _⟩ := hd
    subst e
    exact .inr ⟨a, rfl, _, rfl, iteT (app (by rw [hdd]; simp))⟩
theorem scCondition : FnScope ["self", "line", "place", "opened", "formula"] ["self", "line", "place", "opened"] (defScope sCondition) := ⟨rfl, rfl, rfl, by decide +kernel, rfl, by decide +kernel, by decide +kernel⟩
theorem ok_condition (T : FdT K mg) (M : Pm) : FnOk P w K mg base CX0 71 T.condition.f T.condition.fd ["self", "line", "place", "opened"] (spCondition T.C M) := by
  have GR : FnOk P w K mg base CX0 13 T.R.read.f T.R.read.fd ["switches", "text"] spRead := ok_read T.R
  have GD : FnOk P w K mg base CX0 70 T.D.diag.f T.D.diag.fd ["switches", "formula"] (spDiag 61) := ok_diag T.D 61
  refine T.condition.F.ok scCondition (fun vs H Q E h => ?_) (fun cdv A outer s H vs Q E hr h => ?_)
  · obtain ⟨p, sh, l, op, vsw, va, vp, c, items, os, s', rfl, _⟩ := h
    rfl
  obtain ⟨p, sh, l, op, vsw, va, vp, c, items, os, z, rfl, hf, hop, ho6, hI, hok, k⟩ := h
  have hr13 : Room 13 _ := hr.mono (by omega)
  refine ⟨_, (pss_cons (ps_try_thru0 (pss_one (ps_set (i := 4) scCondition.nd rfl (.inl rfl) (pcall T.R.read GR hr13 (pa_cons (pe_fld (pv 0) rfl) (pa_cons (pe_slice sl_str (pv 1) (po_some pe_int) po_none) pa_nil))))))
        (pss_cons (ps_if (pt_cmpR op_ge (pe_callB call_len_seq (by rfl) T.S.ml PySem.boot_len (pa_cons (pv 3) pa_nil)) (pe_glob (v := .int 6) rfl T.mMN ⟨_, rfl⟩) (nomark _)) (pss_one ps_never) pss_nil)
        (pss_one (ps_ret (pcall T.D.diag GD hr (pa_cons (pe_fld (pv 0) rfl) (pa_cons (pv 4) pa_nil))))))), ?_⟩
  obtain ⟨dx, hp⟩ := hf.ob
  have lz : (("#if " : Str) ++ z).length = 4 + z.length := by
    rw [len_tl, tl_app, List.length_append, len_tl z]
    rfl
  refine ⟨_, rfl, p, T.C, dx, _, _, rfl, hp, T.cl, T.nSw, ff_sw, _, rfl, _, rfl, _, rfl, ?_, ?_⟩
  · rw [lz]
    have := hI.2
    exact Nat.le_trans (show 4 + z.length ≤ 64 by omega) (by decide)
  rw [cut4]
  have hdep := hI.1.depth hok
  have hz := hI.2
  rw [← len_tl] at hdep
  refine ⟨vsw, z, M.sw, M.kn z, rfl, hf.sw, hok, hI.1, hI.2, fun u H1 s1 f1 => ?_⟩
  refine ⟨_, rfl, op, _, rfl, .inl (SqL.of (s1 _ _ hop)), _, _, rfl, rfl, _, rfl, ?_⟩
  rw [decide_eq_false (show ¬ (6 : Int) ≤ (os.length : Int) by omega)]
  refine iteF ⟨_, rfl, p, T.C, dx, _, _, rfl, s1 _ _ hp, T.cl, T.nSw, ff_sw, _, rfl, vsw, u, M.sw, M.kn z, rfl, hf.sw.same s1, hok, f1, hI.names, by omega, fun x r H2 s2 h2 r2 q2 => ?_⟩
  exact k x r H2 (s1.trans s2) h2 r2 q2
end
end OF

set_option Elab.async false
set_option linter.all false
set_option maxRecDepth 100000
set_option maxHeartbeats 4000000
/-! C3: how lines begin; the open conditions on the heap. -/
namespace OF
open PySem L2
/-! ### how lines begin -/
theorem sw_eq (x y : Str) : Txt.startswith x y = ((tl x).take (tl y).length == tl y) := by
  unfold Txt.startswith
  rw [PySem.StrLaws.subAt_eq, len_tl x, len_tl y]
  show (decide (0 + (tl y).length ≤ (tl x).length) && ((tl x).drop 0).take (tl y).length == tl y) = _
  rw [List.drop_zero]
  by_cases h : (tl y).length ≤ (tl x).length
  · rw [decide_eq_true (by omega), Bool.true_and]
  · rw [decide_eq_false (by omega), Bool.false_and]
    refine (beq_eq_false_iff_ne.mpr fun e => h ?_).symm
    have z := congrArg List.length e
    rw [List.length_take] at z
    omega
theorem tl_use (f : Str) : tl (("#use " : Str) ++ f) = [35, 117, 115, 101, 32] ++ tl f := by
  rw [tl_app]
  rfl
theorem tl_if (s : Str) : tl (("#if " : Str) ++ s) = [35, 105, 102, 32] ++ tl s := by
  rw [tl_app]
  rfl
theorem sw_if_if (s : Str) : Txt.startswith (("#if " : Str) ++ s) "#if " = true := by
  rw [sw_eq, tl_if]
  rfl
theorem sw_use_if (f : Str) : Txt.startswith (("#use " : Str) ++ f) "#if " = false := by
  rw [sw_eq, tl_use]
  rfl
theorem sw_use_use (f : Str) : Txt.startswith (("#use " : Str) ++ f) "#use " = true := by
  rw [sw_eq, tl_use]
  rfl
theorem sw_els_if : Txt.startswith ("#else" : Str) "#if " = false := by decide +kernel
theorem sw_fin_if : Txt.startswith ("#end" : Str) "#if " = false := by decide +kernel
theorem use_ne_els (f : Str) : ¬ ("#use " : Str) ++ f = "#else" := fun e => by
  have z := congrArg tl e
  rw [tl_use] at z
  have y : tl ("#else" : Str) = [35, 101, 108, 115, 101] := by decide +kernel
  rw [y] at z
  injection z with _ z
  injection z with z _
  cases z
theorem use_ne_fin (f : Str) : ¬ ("#use " : Str) ++ f = "#end" := fun e => by
  have z := congrArg tl e
  rw [tl_use] at z
  have y : tl ("#end" : Str) = [35, 101, 110, 100] := by decide +kernel
  rw [y] at z
  injection z with _ z
  injection z with z _
  cases z
theorem if_ne_els (f : Str) : ¬ ("#if " : Str) ++ f = "#else" := fun e => by
  have z := congrArg tl e
  rw [tl_if] at z
  have y : tl ("#else" : Str) = [35, 101, 108, 115, 101] := by decide +kernel
  rw [y] at z
  injection z with _ z
  injection z with z _
  cases z
theorem if_ne_fin (f : Str) : ¬ ("#if " : Str) ++ f = "#end" := fun e => by
  have z := congrArg tl e
  rw [tl_if] at z
  have y : tl ("#end" : Str) = [35, 101, 110, 100] := by decide +kernel
  rw [y] at z
  injection z with _ z
  injection z with z _
  cases z
theorem fin_ne_els : ¬ ("#end" : Str) = "#else" := by decide +kernel
/-- a directive begins with #, content doesn't -/
theorem sw_hash : ∀ {ln : Ln}, (∀ s, ln = .con s → Cont s) → Txt.startswith ln.txt "#" = match ln with | .con _ => false | _ => true
  | .con s, h => by
    rw [sw_eq]
    show ((tl s).take (tl ("#" : Str)).length == tl ("#" : Str)) = false
    have y : tl ("#" : Str) = [35] := by decide +kernel
    rw [y]
    have hh := (h s rfl).hash
    cases e : tl s with
    | nil => rfl
    | cons c r =>
      have hc := hh c (by rw [e]; rfl)
      show ([c] == [35]) = false
      refine beq_eq_false_iff_ne.mpr fun z => hc ?_
      injection z
  | .use f, _ => by
    show Txt.startswith (("#use " : Str) ++ f) "#" = true
    rw [sw_eq, tl_use]
    rfl
  | .iff s, _ => by
    show Txt.startswith (("#if " : Str) ++ s) "#" = true
    rw [sw_eq, tl_if]
    rfl
  | .els, _ => by
    show Txt.startswith ("#else" : Str) "#" = true
    decide +kernel
  | .fin, _ => by
    show Txt.startswith ("#end" : Str) "#" = true
    decide +kernel
theorem cutFrom (x : Str) (k : Nat) (h : k ≤ x.length) : cutS x (some (k : Int)) none = ⟨((tl x).drop k).toArray⟩ := by
  unfold cutS
  rw [HT.sIx_nat, HT.sIx_none, Nat.min_eq_left h]
  have e : ((x.cps.toList.drop k).take (x.length - k)) = (tl x).drop k := by
    refine List.take_of_length_le ?_
    rw [List.length_drop, ← len_tl]
    omega
  rw [e]
theorem cut5 (f : Str) : cutS (("#use " : Str) ++ f) (some 5) none = f := by
  have e := cutFrom (("#use " : Str) ++ f) 5 (by rw [len_tl, tl_use, List.length_append]; show 5 ≤ 5 + _; omega)
  refine e.trans (ext_tl ?_)
  rw [tl_use]
  rfl
/-! ### the open conditions on the heap -/
def EnAt (M : Pm) (H : Hp) (e : Addr) (pre : Ar) (x : Str × Bool) : Prop := ∃ (n : Int) (v1 v3 : V), H e = some (.lst [.int n, v1, .bl (!x.2), v3]) ∧ DAt H v1 (M.dg (pre ++ [x])) ∧ (x.2 = true → DAt H v3 (M.dg (pre ++ [(x.1, false)])))
def EnsAt (M : Pm) (H : Hp) (ar0 : Ar) : List Addr → Ar → Prop
  | [], [] => True
  | e :: es, x :: st => EnAt M H e (ar0 ++ st.reverse) x ∧ EnsAt M H ar0 es st
  | _, _ => False
structure OpAt (M : Pm) (H : Hp) (op : Addr) (es : List Addr) (st ar0 : Ar) : Prop where
  li : H op = some (.lst (es.reverse.map V.ref))
  nd : es.Nodup
  no : op ∉ es
  en : EnsAt M H ar0 es st
theorem EnAt.keep {M : Pm} {H H' : Hp} {e : Addr} {pre : Ar} {x : Str × Bool} (h : EnAt M H e pre x) (i : Imm H H') (k : H' e = H e) : EnAt M H' e pre x := by
  obtain ⟨n, v1, v3, h1, h2, h3⟩ := h
  exact ⟨n, v1, v3, by rw [k]; exact h1, h2.imm i, fun q => (h3 q).imm i⟩
theorem EnsAt.keep {M : Pm} {H H' : Hp} {ar0 : Ar} (i : Imm H H') : ∀ {es : List Addr} {st : Ar}, EnsAt M H ar0 es st → (∀ e ∈ es, H' e = H e) → EnsAt M H' ar0 es st
  | [], [], _, _ => trivial
  | e :: es, x :: st, ⟨h1, h2⟩, k => ⟨h1.keep i (k e List.mem_cons_self), h2.keep i fun e he => k e (List.mem_cons_of_mem _ he)⟩
  | [], _ :: _, h, _ => h.elim
  | _ :: _, [], h, _ => h.elim
theorem EnsAt.len {M : Pm} {H : Hp} {ar0 : Ar} : ∀ {es : List Addr} {st : Ar}, EnsAt M H ar0 es st → es.length = st.length
  | [], [], _ => rfl
  | e :: es, x :: st, ⟨_, h2⟩ => by simp [h2.len]
  | [], _ :: _, h => h.elim
  | _ :: _, [], h => h.elim
theorem EnsAt.there {M : Pm} {H : Hp} {ar0 : Ar} : ∀ {es : List Addr} {st : Ar}, EnsAt M H ar0 es st → ∀ e ∈ es, ∃ n v1 b v3, H e = some (.lst [.int n, v1, .bl b, v3])
  | [], [], _, e, he => by simp at he
  | e' :: es, x :: st, ⟨⟨n, v1, v3, h, _⟩, h2⟩, e, he => by
    rcases List.mem_cons.mp he with q | q
    · subst q
      exact ⟨n, v1, _, v3, h⟩
    · exact h2.there e q
  | [], _ :: _, h, _, _ => h.elim
  | _ :: _, [], h, _, _ => h.elim
theorem OpAt.keep {M : Pm} {H H' : Hp} {op : Addr} {es : List Addr} {st ar0 : Ar} (h : OpAt M H op es st ar0) (i : Imm H H') (k : ∀ a, a = op ∨ a ∈ es → H' a = H a) : OpAt M H' op es st ar0 :=
  ⟨by rw [k op (.inl rfl)]; exact h.li, h.nd, h.no, h.en.keep i fun e he => k e (.inr he)⟩
theorem OpAt.wr {M : Pm} {H : Hp} {op : Addr} {es : List Addr} {st ar0 : Ar} (h : OpAt M H op es st ar0) : ∀ a ∈ op :: es, ∃ o, H a = some o ∧ Wr o := fun a ha => by
  rcases List.mem_cons.mp ha with e | e
  · subst e
    exact ⟨_, h.li, trivial⟩
  · obtain ⟨n, v1, b, v3, q⟩ := h.en.there a e
    exact ⟨_, q, trivial⟩
/-- what changes none of them keeps them -/
theorem OpAt.buts {M : Pm} {H H' : Hp} {S : List Addr} {op : Addr} {es : List Addr} {st ar0 : Ar} (h : OpAt M H op es st ar0) (i : Imm H H') (b : Buts S H H') (n : ∀ a, a = op ∨ a ∈ es → a ∉ S) : OpAt M H' op es st ar0 :=
  h.keep i fun a ha => by
    obtain ⟨o, q, _⟩ := h.wr a (List.mem_cons.mpr ha)
    rw [q]
    exact b a o q (n a ha)
theorem last_ix {e : Addr} {es : List Addr} : atI ((e :: es).reverse.map V.ref) (-1) = some (.ref e) := by
  rw [List.reverse_cons, List.map_append]
  exact atI_last _ _
/-- opened[-1][1] if opened else .. , behind the slot -/
theorem top_read {K : PySem.W.Frag} {M : Pm} {H : Hp} {op : Addr} {es : List Addr} {st ar0 : Ar} (h : OpAt M H op es st ar0) {σ : L2.St} {i : Nat} {Y : Prop} {Q : VK} (q : ∀ v, st ≠ [] → DAt H v (M.dg (ar0 ++ st.reverse)) → Q v H) (y : st = [] → Y)
    (hs : σ[i]? = some (some (.ref op))) :
    ∃ k, TruV K (.ref op) H k ∧ if k = true then tOp (rIxL K) (tOp (rIxL K) (tVar i) (tUn (rU fun i => .int (-i)) (tC (.int 1)))) (tC (.int 1)) σ H Q else Y := by
  have hl := h.en.len
  cases es with
  | nil =>
    refine ⟨false, .inl ⟨[], SqL.of h.li, rfl⟩, iteF (y ?_)⟩
    cases st with
    | nil => rfl
    | cons x st => simp at hl
  | cons e es =>
    cases st with
    | nil => simp at hl
    | cons x st =>
      obtain ⟨⟨n, v1, v3, he, d1, _⟩, _⟩ := h.en
      refine ⟨true, .inl ⟨_, SqL.of h.li, by simp⟩, iteT ?_⟩
      refine ⟨_, hs, _, rfl, op, _, _, _, rfl, rfl, SqL.of h.li, last_ix, e, _, _, v1, rfl, rfl, SqL.of he, at_of (j := 1) rfl rfl, ?_⟩
      refine q v1 (by simp) ?_
      rw [List.reverse_cons, ← List.append_assoc]
      exact d1
end OF

set_option Elab.async false
set_option linter.all false
set_option maxRecDepth 100000
set_option maxHeartbeats 4000000
/-! C4: use, directive. -/
namespace OF
open PySem L2
/-! ### promises -/
/-- a file read: its rows are added -/
def spFile (C : Addr) (M : Pm) (n : Nat) : Sp := fun vs H Q _ => ∃ (p sh l pa : Addr) (vsw va vw : V) (c : Nat) (items : List V) (f : Str) (path : List Str) (ar : Ar), vs = [.ref p, .str f, vw, .ref pa] ∧ Fd C M H p sh l vsw c va items ∧
  H pa = some (.lst ((path ++ [f]).map V.str)) ∧ pa ≠ l ∧ M.fine n path f ∧ DAt H vw (M.dg ar) ∧ ArOk M.sw M.kn ar ∧ c + (rows M.fs n f).length ≤ 40 ∧
  ∀ H' more, Fd C M H' p sh l vsw (c + (rows M.fs n f).length) vw (items ++ more) → All2 (ItemAt M H') more (folded M.sw M.kn ((rows M.fs n f).map fun r => r.under ar)) → Buts [p, l] H H' → Q .non H'
def spUse (C : Addr) (M : Pm) (n : Nat) : Sp := fun vs H Q _ => ∃ (p sh l pa : Addr) (vsw va vw vp : V) (c : Nat) (items : List V) (g : Str) (path : List Str) (ar : Ar), vs = [.ref p, .str g, vp, vw, .ref pa] ∧ Fd C M H p sh l vsw c va items ∧
  H pa = some (.lst (path.map V.str)) ∧ pa ≠ l ∧ g ∉ path ∧ M.fine n path g ∧ DAt H vw (M.dg ar) ∧ ArOk M.sw M.kn ar ∧ c + (rows M.fs n g).length ≤ 40 ∧
  ∀ H' more, Fd C M H' p sh l vsw (c + (rows M.fs n g).length) vw (items ++ more) → All2 (ItemAt M H') more (folded M.sw M.kn ((rows M.fs n g).map fun r => r.under ar)) → Buts [p, l] H H' → Q .non H'
def spDirective (C : Addr) (M : Pm) (n : Nat) : Sp := fun vs H Q _ => ∃ (p sh l pl op pa : Addr) (vsw va : V) (c k : Nat) (items : List V) (f : Str) (path : List Str) (ar0 st : Ar) (es : List Addr) (ln : Ln), vs = [.ref p, .str ln.txt, .ref pl, .ref op, .ref pa] ∧ Fd C M H p sh l vsw c va items ∧
  H pl = some (.tup [.str f, .int ((k : Int) + 1)]) ∧ DAt H va (M.dg ar0) ∧ ArOk M.sw M.kn ar0 ∧ ArOk M.sw M.kn st ∧ OpAt M H op es st ar0 ∧ (∀ a, a = op ∨ a ∈ es → a ≠ l) ∧ H pa = some (.lst (path.map V.str)) ∧ pa ≠ l ∧
  okLn (fun g => g ∉ path ∧ M.fine n path g) M.I st ln ∧ (∀ s, ln ≠ .con s) ∧ c + (rowsOf (rows M.fs n) f k st ln).length ≤ 40 ∧
  ∀ H' es' more, Fd C M H' p sh l vsw (c + (rowsOf (rows M.fs n) f k st ln).length) va (items ++ more) → OpAt M H' op es' (nxt st ln) ar0 → All2 (ItemAt M H') more (folded M.sw M.kn ((rowsOf (rows M.fs n) f k st ln).map fun r => r.under ar0)) →
    Buts (p :: l :: op :: es) H H' → (∀ e ∈ es', e ∈ es ∨ H e = none) → Q .non H'
theorem ArOk.append {sw : List Str} {kn : Str → Fo} {a b : Ar} (h : ArOk sw kn a) (g : ArOk sw kn b) : ArOk sw kn (a ++ b) := fun x hx => by
  rcases List.mem_append.mp hx with q | q
  · exact h x q
  · exact g x q
theorem ArOk.rev {sw : List Str} {kn : Str → Fo} {a : Ar} (h : ArOk sw kn a) : ArOk sw kn a.reverse := fun x hx => h x (List.mem_reverse.mp hx)
theorem ArOk.one {sw : List Str} {kn : Str → Fo} {s : Str} {b : Bool} (h : FNm sw (kn s)) : ArOk sw kn [(s, b)] := fun x hx => by
  rw [List.mem_singleton.mp hx]
  exact h
/-- the conditions behind a line are known -/
theorem ArOk.nxt {sw : List Str} {kn : Str → Fo} {U I : Str → Prop} (hI : ∀ s, I s → FNm sw (kn s)) {st : Ar} {ln : Ln} (h : ArOk sw kn st) (ok : okLn U I st ln) : ArOk sw kn (nxt st ln) := by
  cases ln with
  | con s => cases st <;> exact h
  | use f => cases st <;> exact h
  | iff s =>
    intro x hx
    rcases List.mem_cons.mp hx with q | q
    · rw [q]
      exact hI s ok.1
    · exact h x q
  | els =>
    cases st with
    | nil => exact h
    | cons y st =>
      intro x hx
      rcases List.mem_cons.mp hx with q | q
      · rw [q]
        exact h y List.mem_cons_self
      · exact h x (List.mem_cons_of_mem _ q)
  | fin =>
    cases st with
    | nil => exact h
    | cons y st => exact fun x hx => h x (List.mem_cons_of_mem _ hx)
theorem Row.under_under (r : Row) (a b : Ar) : (r.under b).under a = r.under (a ++ b) := by
  simp [Row.under]
section
variable {P : Program} {w : World} {K : PySem.W.Frag} {mg : Str → Option Value} {base : Heap}
/-- an attribute of the Folder, behind the slot -/
theorem fd_ar (T : FdT K mg) {H : Hp} {Q : V → Prop} {p dx sh l : Addr} {vsw va : V} {c : Nat} (h : H p = some (.ins T.C dx (ff sh vsw l c va))) (q : Q va) :
    ∃ a C dx fs u, V.ref p = V.ref a ∧ H a = some (.ins C dx fs) ∧ Cls K C ∧ NoAttr K C "around" ∧ fs.lookup ("around" : Str) = some u ∧ Q u := ⟨p, T.C, dx, _, _, rfl, h, T.cl, T.nAr, ff_ar, q⟩
theorem fd_sh (T : FdT K mg) {H : Hp} {Q : V → Prop} {p dx sh l : Addr} {vsw va : V} {c : Nat} (h : H p = some (.ins T.C dx (ff sh vsw l c va))) (q : Q (.ref sh)) :
    ∃ a C dx fs u, V.ref p = V.ref a ∧ H a = some (.ins C dx fs) ∧ Cls K C ∧ NoAttr K C "shelf" ∧ fs.lookup ("shelf" : Str) = some u ∧ Q u := ⟨p, T.C, dx, _, _, rfl, h, T.cl, T.nSh, ff_sh, q⟩
/-- self.around = e, behind the value and the slot -/
theorem fd_put (T : FdT K mg) {H : Hp} {Q : Hp → Prop} {p dx sh l : Addr} {vsw va vb : V} {c : Nat} (h : H p = some (.ins T.C dx (ff sh vsw l c va))) (q : Q (upd H p (.ins T.C dx (ff sh vsw l c vb)))) :
    ∃ a C dx fs, V.ref p = V.ref a ∧ H a = some (.ins C dx fs) ∧ Cls K C ∧ NoAttr K C "around" ∧ fs.length < 1000 ∧ Q (upd H a (.ins C dx (putF "around" vb fs))) :=
  ⟨p, T.C, dx, _, rfl, h, T.cl, T.nAr, (by show 5 < 1000; decide), by rw [ff_puta]; exact q⟩
/-- opened[-1][1] if opened else self.around, behind the slot -/
theorem top_around (T : FdT K mg) {M : Pm} {H : Hp} {op p dx sh l : Addr} {vsw va : V} {c : Nat} {es : List Addr} {st ar0 : Ar} (h : OpAt M H op es st ar0) (hp : H p = some (.ins T.C dx (ff sh vsw l c va))) (hd : DAt H va (M.dg ar0)) {σ : L2.St} {i : Nat} {Q : VK} (q : ∀ v, DAt H v (M.dg (ar0 ++ st.reverse)) → Q v H)
    (hs : σ[i]? = some (some (.ref op))) (h0 : σ[0]? = some (some (.ref p))) :
    ∃ k, TruV K (.ref op) H k ∧ if k = true then tOp (rIxL K) (tOp (rIxL K) (tVar i) (tUn (rU fun i => .int (-i)) (tC (.int 1)))) (tC (.int 1)) σ H Q else tFld K (tVar 0) "around" σ H Q :=
  top_read h (fun v _ d => q v d) (fun e => ⟨_, h0, fd_ar T hp (q va (by rw [e, List.reverse_nil, List.append_nil]; exact hd))⟩) hs
/-- opened[-1][1] if opened else kept, behind the slot -/
theorem top_kept {M : Pm} {H : Hp} {op : Addr} {va : V} {es : List Addr} {st ar0 : Ar} (h : OpAt M H op es st ar0) (hd : DAt H va (M.dg ar0)) {σ : L2.St} {i j : Nat} {Q : VK} (q : ∀ v, DAt H v (M.dg (ar0 ++ st.reverse)) → Q v H)
    (hs : σ[i]? = some (some (.ref op))) (h0 : σ[j]? = some (some va)) :
    ∃ k, TruV K (.ref op) H k ∧ if k = true then tOp (rIxL K) (tOp (rIxL K) (tVar i) (tUn (rU fun i => .int (-i)) (tC (.int 1)))) (tC (.int 1)) σ H Q else tVar j σ H Q :=
  top_read h (fun v _ d => q v d) (fun e => ⟨_, h0, q va (by rw [e, List.reverse_nil, List.append_nil]; exact hd)⟩) hs
theorem scUse : FnScope ["self", "name", "place", "when", "path"] ["self", "name", "place", "when", "path"] (defScope sUse) := ⟨rfl, rfl, rfl, by decide +kernel, rfl, by decide +kernel, by decide +kernel⟩
theorem inV_not {path : List Str} {g : Str} (h : g ∉ path) : inV (V.str g) (path.map V.str) = false := by
  unfold inV
  refine List.any_eq_false.mpr fun v hv => ?_
  obtain ⟨x, hx, rfl⟩ := List.mem_map.mp hv
  have ne : x ≠ g := fun e => h (by rw [← e]; exact hx)
  simp [eqV, ne]
theorem ok_use (T : FdT K mg) {M : Pm} {n m : Nat} (GF : FnOk P w K mg base CX0 m T.file.f T.file.fd ["self", "name", "when", "path"] (spFile T.C M n)) : FnOk P w K mg base CX0 (m + 1) T.use.f T.use.fd ["self", "name", "place", "when", "path"] (spUse T.C M n) := by
  refine T.use.F.ok scUse (fun vs H Q E h => ?_) (fun cdv A outer s H vs Q E hr h => ?_)
  · obtain ⟨p, sh, l, pa, vsw, va, vw, vp, c, items, g, path, ar, rfl, _⟩ := h
    rfl
  obtain ⟨p, sh, l, pa, vsw, va, vw, vp, c, items, g, path, ar, rfl, hf, hpa, hal, hg, fine, hd, ok, le, k⟩ := h
  refine ⟨_, (pss_cons (ps_if (pt_cmp (pc_dnotin (hu_of hr) (pv 1) (pe_fld (pv 0) rfl))) (pss_one ps_never) pss_nil)
        (pss_cons (ps_if (pt_cmpR op_in_seq (pv 1) (pv 4) (by rfl)) (pss_one ps_never) pss_nil)
        (pss_cons (ps_if (pt_cmpR op_ge (pe_callB call_len_seq (by rfl) T.S.ml PySem.boot_len (pa_cons (pv 4) pa_nil)) (pe_glob (v := .int 4) rfl T.mMV ⟨_, rfl⟩) (nomark _)) (pss_one ps_never) pss_nil)
        (pss_one (ps_expr (pmeth T.file T.cl GF hr (pv 0) (pa_cons (pv 1) (pa_cons (pv 3) (pa_cons (pe_op op_cat (pv 4) (pe_lst (pa_cons (pv 1) pa_nil))) pa_nil))))))))), ?_⟩
  obtain ⟨dx, hp⟩ := hf.ob
  obtain ⟨kvs, hkv, hdom⟩ := hf.sh
  obtain ⟨hdg, hlen⟩ : M.dom g ∧ path.length < 4 := by
    cases n with
    | zero => exact fine.elim
    | succ n => exact ⟨fine.2.1, fine.1⟩
  refine ⟨_, rfl, _, rfl, fd_sh T hp ⟨sh, _, rfl, DGet.k (k := Sum.inr g) hkv, _, rfl, ?_⟩⟩
  rw [hdom g hdg]
  refine iteF ⟨_, rfl, _, rfl, pa, _, rfl, .inl (SqL.of hpa), rfl, flat_str path, _, rfl, ?_⟩
  rw [inV_not hg]
  refine iteF ⟨_, rfl, pa, _, rfl, .inl (SqL.of hpa), _, _, rfl, rfl, _, rfl, ?_⟩
  rw [List.length_map, decide_eq_false (show ¬ (4 : Int) ≤ (path.length : Int) by omega)]
  refine iteF ⟨_, rfl, p, dx, _, rfl, hp, ff_no (by decide +kernel) (by decide +kernel) (by decide +kernel) (by decide +kernel) (by decide +kernel), _, rfl, _, rfl, _, rfl, _, rfl, (by show 1 ≤ sizeLine; decide), fun q hq => ?_⟩
  have sq := same_new (o := .lst [.str g]) hq
  refine ⟨pa, q, _, _, rfl, rfl, sq _ _ hpa, upd_same, ?_, fun r hr' => ?_⟩
  · rw [List.length_map]
    exact Nat.le_of_lt (small1000 (by show path.length + 1 ≤ 1000; omega))
  have sr := same_new (o := .lst (path.map V.str ++ [.str g])) hr'
  have s2 := sq.trans sr
  have lr : r ≠ l := (ne_of_none (sq _ _ hf.li) hr').symm
  refine ⟨p, sh, l, r, vsw, va, vw, c, items, g, path, ar, rfl, ⟨⟨dx, s2 _ _ hp⟩, s2 _ _ hf.li, ⟨kvs, s2 _ _ hkv, hdom⟩, hf.sw.same s2, hf.le⟩, by rw [upd_same, List.map_append]; rfl, lr, fine, hd.same s2, ok, le, fun H' more f' m' b' => ?_⟩
  exact k H' more f' m' ((Buts.of s2).trans b')
theorem scDirective : FnScope ["self", "line", "place", "opened", "path", "around", "own", "kept"] ["self", "line", "place", "opened", "path"] (defScope sDirective) := ⟨rfl, rfl, rfl, by decide +kernel, rfl, by decide +kernel, by decide +kernel⟩
theorem ok_directive (T : FdT K mg) {M : Pm} (MO : M.Ok) {n m : Nat} (hm : 71 ≤ m) (GU : FnOk P w K mg base CX0 m T.use.f T.use.fd ["self", "name", "place", "when", "path"] (spUse T.C M n)) : FnOk P w K mg base CX0 (m + 1) T.directive.f T.directive.fd ["self", "line", "place", "opened", "path"] (spDirective T.C M n) := by
  have GCo : FnOk P w K mg base CX0 71 T.condition.f T.condition.fd ["self", "line", "place", "opened"] (spCondition T.C M) := ok_condition T M
  have GN : FnOk P w K mg base CX0 6 T.D.neg.f T.D.neg.fd ["d"] (spNeg 6) := ok_neg T.D.neg T.D.mi T.D.mt 6
  have GB : FnOk P w K mg base CX0 8 T.D.both.f T.D.both.fd ["d", "e"] (spBoth M.sw.length 6) := ok_both T.D M.sw.length 6
  have GI : FnOk P w K mg base CX0 1 T.S.isFile.f T.S.isFile.fd ["text"] spIsFile := ok_isfile T.S
  refine T.directive.F.ok scDirective (fun vs H Q E h => ?_) (fun cdv A outer s H vs Q E hr h => ?_)
  · obtain ⟨p, sh, l, pl, op, pa, vsw, va, c, k, items, f, path, ar0, st, es, ln, rfl, _⟩ := h
    rfl
  obtain ⟨p, sh, l, pl, op, pa, vsw, va, c, j, items, f, path, ar0, st, es, ln, rfl, hf, hpl, hd, ok0, okS, hop, hnl, hpa, hal, okl, ncon, le, k⟩ := h
  have hr71 : Room 71 _ := hr.mono hm
  have hr8 : Room 8 _ := hr.mono (by omega)
  have hr6 : Room 6 _ := hr.mono (by omega)
  have hr1 : Room 1 _ := hr.mono (by omega)
  have hN := MO.sw.len.2
  refine ⟨_, (pss_one (ps_if (pt_val (pe_m1 PySem.F.slot_str_startswith PySem.F.type_str_startswith mt_startswith (pv 1) pe_str)) (pss_cons (ps_set (i := 5) scDirective.nd rfl (.inl rfl) (pe_ifExp (pt_truth (pv 3) (by intro _; rfl)) (pe_ix ix_list (pe_ix ix_list (pv 3) (pe_un un_neg pe_int) (fun _ _ => rfl)) pe_int (fun _ _ => rfl)) (pe_fld (pv 0) rfl)))
          (pss_cons (ps_set (i := 6) scDirective.nd rfl (.inl rfl) (pmeth T.condition T.cl GCo hr71 (pv 0) (pa_cons (pv 1) (pa_cons (pv 2) (pa_cons (pv 3) pa_nil)))))
          (pss_one (ps_expr (pe_bm PySem.F.plainAttrs_list PySem.F.slot_list_append PySem.F.type_list_append mt_append (pv 3) (pa_cons (pe_lst (pa_cons (pe_ix ix_tup (pv 2) pe_int (fun _ _ => rfl)) (pa_cons (pcall T.D.both GB hr8 (pa_cons (pv 5) (pa_cons (pv 6) pa_nil))) (pa_cons pe_bl (pa_cons (pcall T.D.both GB hr8 (pa_cons (pv 5) (pa_cons (pcall T.D.neg GN hr6 (pa_cons (pv 6) pa_nil)) pa_nil))) pa_nil))))) pa_nil)))))) (pss_one (ps_if (PW.pt (pw_and (pt_cmpR op_eq (pv 1) pe_str (nomark _)) (pw_and (pt_truth (pv 3) (by intro _; rfl)) (pw_and1 (pt_not (pt_val (pe_ix ix_list (pe_ix ix_list (pv 3) (pe_un un_neg pe_int) (fun _ _ => rfl)) pe_int (fun _ _ => rfl)))))))) (pss_cons (ps_asg (pe_ix ix_list (pe_ix ix_list (pv 3) (pe_un un_neg pe_int) (fun _ _ => rfl)) pe_int (fun _ _ => rfl)) (pg_sub (pe_ix ix_list (pv 3) (pe_un un_neg pe_int) (fun _ _ => rfl)) pe_int set_list))
            (pss_one (ps_asg pe_bl (pg_sub (pe_ix ix_list (pv 3) (pe_un un_neg pe_int) (fun _ _ => rfl)) pe_int set_list)))) (pss_one (ps_if (PW.pt (pw_and (pt_cmpR op_eq (pv 1) pe_str (nomark _)) (pw_and1 (pt_truth (pv 3) (by intro _; rfl))))) (pss_one (ps_expr (pe_bm0 PySem.F.plainAttrs_list PySem.F.slot_list_pop PySem.F.type_list_pop mt_pop (pv 3)))) (pss_one (ps_if (PW.pt (pw_and (pt_val (pe_m1 PySem.F.slot_str_startswith PySem.F.type_str_startswith mt_startswith (pv 1) pe_str)) (pw_and1 (pt_val (pcall T.S.isFile GI hr1 (pa_cons (pe_slice sl_str (pv 1) (po_some pe_int) po_none) pa_nil)))))) (pss_cons (ps_set (i := 7) scDirective.nd rfl (.inl rfl) (pe_fld (pv 0) rfl))
                (pss_cons (ps_expr (pmeth T.use T.cl GU hr (pv 0) (pa_cons (pe_slice sl_str (pv 1) (po_some pe_int) po_none) (pa_cons (pv 2) (pa_cons (pe_ifExp (pt_truth (pv 3) (by intro _; rfl)) (pe_ix ix_list (pe_ix ix_list (pv 3) (pe_un un_neg pe_int) (fun _ _ => rfl)) pe_int (fun _ _ => rfl)) (pv 7)) (pa_cons (pv 4) pa_nil))))))
                (pss_one (ps_fld (pv 0) (pv 7) rfl)))) (pss_one ps_never))))))))), ?_⟩
  obtain ⟨dx, hp⟩ := hf.ob
  have okA : ArOk M.sw M.kn (ar0 ++ st.reverse) := ok0.append okS.rev
  have opl : op ≠ l := hnl op (.inl rfl)
  have opp : op ≠ p := ne_of hop.li hp (by intro q; cases q)
  obtain ⟨kvs, hkv, hdom⟩ := hf.sh
  have osh : op ≠ sh := ne_of hop.li hkv (by intro q; cases q)
  have hel := hop.en.len
  cases ln with
  | con s => exact absurd rfl (ncon s)
  | iff z =>
    obtain ⟨hI, hlt⟩ := okl
    refine ⟨_, rfl, ⟨_, rfl⟩, _, _, rfl, rfl, _, rfl, ?_⟩
    rw [show Txt.startswith (Ln.txt (.iff z)) "#if " = true from sw_if_if z]
    refine iteT ?_
    refine ⟨_, rfl, top_around T hop hp hd (fun vA hA => ?_) rfl rfl⟩
    refine ⟨_, rfl, p, dx, _, rfl, hp, ff_no (by decide +kernel) (by decide +kernel) (by decide +kernel) (by decide +kernel) (by decide +kernel), _, rfl, _, rfl, _, rfl, p, sh, l, op, vsw, va, _, c, items, _, z, rfl, hf, hop.li, (by rw [List.length_map, List.length_reverse, hel]; exact hlt), hI, MO.sw, fun vO rO H1 s1 h1 r1 q1 => ?_⟩
    refine ⟨_, rfl, .inl ⟨rfl, _, SqL.of (s1 _ _ hop.li)⟩, _, rfl, pl, _, _, _, rfl, rfl, .inl (.inl (s1 _ _ hpl)), at_of (j := 1) rfl rfl, _, rfl, _, rfl, vA, vO, _, rO, 0, rfl, hA.same s1, h1, dgOf_red _ _ _, r1, by omega, by omega, by omega, fun x rx H2 s2 hx rdx qx => ?_⟩
    refine ⟨_, rfl, _, rfl, vO, rO, rfl, h1.same s2, (by have := r1.depth (by omega); omega), fun y H3 s3 hy => ?_⟩
    refine ⟨vA, y, _, rO.neg, 0, rfl, ((hA.same s1).same s2).same s3, hy, dgOf_red _ _ _, neg_red r1, by omega, by omega, by omega, fun u ru H4 s4 hu rdu qu => ?_⟩
    refine ⟨(by show 4 ≤ sizeLine; decide), fun e he => ?_⟩
    have s14 : Same H H4 := ((s1.trans s2).trans s3).trans s4
    have he0 : H e = none := s14.free he
    have se := same_new (o := .lst [.int ((j : Int) + 1), x, .bl false, u]) he
    have oe : op ≠ e := ne_of_none (s14 _ _ hop.li) he
    refine ⟨op, _, _, rfl, rfl, se _ _ (s14 _ _ hop.li), small1000 (by rw [List.length_map, List.length_reverse]; omega), ?_⟩
    have s15 : Same H (upd H4 e (.lst [.int ((j : Int) + 1), x, .bl false, u])) := s14.trans se
    have iop : Imm (upd H4 e (.lst [.int ((j : Int) + 1), x, .bl false, u])) (upd (upd H4 e (.lst [.int ((j : Int) + 1), x, .bl false, u])) op (.lst (es.reverse.map V.ref ++ [.ref e]))) := But.imm (But.upd (a := op)) (s15 _ _ hop.li) trivial
    have iall : Imm H (upd (upd H4 e (.lst [.int ((j : Int) + 1), x, .bl false, u])) op (.lst (es.reverse.map V.ref ++ [.ref e]))) := (imm_same s15).trans iop
    have ball : Buts (p :: l :: op :: es) H (upd (upd H4 e (.lst [.int ((j : Int) + 1), x, .bl false, u])) op (.lst (es.reverse.map V.ref ++ [.ref e]))) := (Buts.of s15).trans (Buts.upd (by simp))
    have hes : ∀ a ∈ es, a ≠ e := fun a ha q => by
      obtain ⟨n, v1, b, v3, g⟩ := hop.en.there a ha
      rw [q, he0] at g
      cases g
    refine k _ (e :: es) [] ⟨⟨dx, ?_⟩, ?_, ⟨kvs, ?_, hdom⟩, hf.sw.imm iall, by rw [List.append_nil]; exact hf.le⟩ ⟨?_, ?_, ?_, ⟨⟨(j : Int) + 1, x, u, ?_, ?_, ?_⟩, ?_⟩⟩ .nil ball ?_
    · rw [upd_ne opp.symm]
      exact s15 _ _ hp
    · rw [upd_ne opl.symm, List.append_nil]
      exact s15 _ _ hf.li
    · rw [upd_ne osh.symm]
      exact s15 _ _ hkv
    · rw [upd_same, List.reverse_cons, List.map_append]
      rfl
    · exact List.nodup_cons.mpr ⟨fun q => hes e q rfl, hop.nd⟩
    · intro q
      rcases List.mem_cons.mp q with q | q
      · exact oe q
      · exact hop.no q
    · rw [upd_ne oe.symm, upd_same]
      rfl
    · have e1 : rx = M.dg (ar0 ++ st.reverse ++ [(z, true)]) := dgOf_is (okA.append (.one hI.names)) rdx fun q => by
        rw [qx, q1, dgOf_ev okA]
        simp only [pres_append, pres_one]
        simp
      rw [← e1]
      exact ((((hx.same s3).same s4).same se).imm iop)
    · intro _
      have e1 : ru = M.dg (ar0 ++ st.reverse ++ [(z, false)]) := dgOf_is (okA.append (.one hI.names)) rdu fun q => by
        rw [qu, neg_ev, q1, dgOf_ev okA]
        simp only [pres_append, pres_one]
        simp
      rw [← e1]
      exact ((hu.same se).imm iop)
    · refine hop.en.keep iall fun a ha => ?_
      have hao : a ≠ op := fun q => hop.no (q ▸ ha)
      obtain ⟨n, v1, b, v3, g⟩ := hop.en.there a ha
      rw [upd_ne hao, s15 _ _ g, g]
    · intro a ha
      rcases List.mem_cons.mp ha with q | q
      · exact .inr (q ▸ he0)
      · exact .inl q
  | els =>
    cases st with
    | nil => exact okl.elim
    | cons y st =>
      obtain ⟨s', b⟩ := y
      cases b with
      | false => exact okl.elim
      | true =>
        cases es with
        | nil => simp at hel
        | cons e es =>
          obtain ⟨⟨n, v1, v3, he, d1, d3⟩, en⟩ := hop.en
          refine ⟨_, rfl, ⟨_, rfl⟩, _, _, rfl, rfl, _, rfl, ?_⟩
          rw [show Txt.startswith (Ln.txt .els) "#if " = false from sw_els_if]
          refine iteF ?_
          refine ⟨_, rfl, rfl, _, rfl, ?_⟩
          rw [decide_eq_true (show V.str (Ln.txt .els) = V.str "#else" from rfl)]
          refine iteT ⟨_, rfl, true, .inl ⟨_, SqL.of hop.li, by simp⟩, iteT ?_⟩
          refine ⟨_, rfl, _, rfl, op, _, _, _, rfl, rfl, SqL.of hop.li, last_ix, e, _, _, _, rfl, rfl, SqL.of he, at_of (j := 2) rfl rfl, _, rfl, iteT ?_⟩
          refine ⟨_, rfl, _, rfl, op, _, _, _, rfl, rfl, SqL.of hop.li, last_ix, e, _, _, v3, rfl, rfl, SqL.of he, at_of (j := 3) rfl rfl, ?_⟩
          refine ⟨_, rfl, _, rfl, op, _, _, _, rfl, rfl, SqL.of hop.li, last_ix, e, _, _, 1, rfl, rfl, he, rfl, ?_⟩
          have oe : op ≠ e := fun q => hop.no (by rw [q]; exact List.mem_cons_self)
          have hop1 : (upd H e (.lst ([V.int n, v1, .bl (!true), v3].set 1 v3))) op = some (.lst ((e :: es).reverse.map V.ref)) := by
            rw [upd_ne oe]
            exact hop.li
          refine ⟨_, rfl, _, rfl, op, _, _, _, rfl, rfl, SqL.of hop1, last_ix, e, _, _, 2, rfl, rfl, upd_same, rfl, ?_⟩
          rw [upd_upd]
          show Q .non (upd H e (.lst [V.int n, v3, .bl true, v3]))
          have el : e ≠ l := hnl e (.inr List.mem_cons_self)
          have ep : e ≠ p := ne_of he hp (by intro q; cases q)
          have esh : e ≠ sh := ne_of he hkv (by intro q; cases q)
          have ie : Imm H (upd H e (.lst [V.int n, v3, .bl true, v3])) := But.imm (But.upd (a := e)) he trivial
          refine k _ (e :: es) [] ⟨⟨dx, ?_⟩, ?_, ⟨kvs, ?_, hdom⟩, hf.sw.imm ie, by rw [List.append_nil]; exact hf.le⟩ ⟨?_, hop.nd, hop.no, ⟨⟨n, v3, v3, ?_, ?_, ?_⟩, ?_⟩⟩ .nil (Buts.upd (by simp)) fun a ha => .inl ha
          · rw [upd_ne ep.symm]
            exact hp
          · rw [upd_ne el.symm, List.append_nil]
            exact hf.li
          · rw [upd_ne esh.symm]
            exact hkv
          · rw [upd_ne oe]
            exact hop.li
          · rw [upd_same]
            rfl
          · exact (d3 rfl).imm ie
          · intro q
            cases q
          · refine en.keep ie fun a ha => ?_
            have ae : a ≠ e := fun q => (List.nodup_cons.mp hop.nd).1 (q ▸ ha)
            rw [upd_ne ae]
  | fin =>
    cases st with
    | nil => exact okl.elim
    | cons y st =>
      cases es with
      | nil => simp at hel
      | cons e es =>
        obtain ⟨⟨n, v1, v3, he, d1, d3⟩, en⟩ := hop.en
        refine ⟨_, rfl, ⟨_, rfl⟩, _, _, rfl, rfl, _, rfl, ?_⟩
        rw [show Txt.startswith (Ln.txt .fin) "#if " = false from sw_fin_if]
        refine iteF ⟨_, rfl, rfl, _, rfl, ?_⟩
        rw [decide_eq_false (show ¬ V.str (Ln.txt .fin) = V.str "#else" from fun q => fin_ne_els (V.str.inj q))]
        refine iteF (iteF ⟨_, rfl, rfl, _, rfl, ?_⟩)
        rw [decide_eq_true (show V.str (Ln.txt .fin) = V.str "#end" from rfl)]
        refine iteT ⟨_, rfl, true, .inl ⟨_, SqL.of hop.li, by simp⟩, iteT ?_⟩
        have er : (e :: es).reverse.map V.ref = es.reverse.map V.ref ++ [.ref e] := by
          rw [List.reverse_cons, List.map_append]
          rfl
        refine ⟨_, rfl, .inl ⟨rfl, _, SqL.of hop.li⟩, op, _, .ref e, rfl, rfl, hop.li, by rw [er]; simp, ?_⟩
        rw [er, List.dropLast_concat]
        have oe : op ≠ e := fun q => hop.no (by rw [q]; exact List.mem_cons_self)
        have io : Imm H (upd H op (.lst (es.reverse.map V.ref))) := But.imm (But.upd (a := op)) hop.li trivial
        refine k _ es [] ⟨⟨dx, ?_⟩, ?_, ⟨kvs, ?_, hdom⟩, hf.sw.imm io, by rw [List.append_nil]; exact hf.le⟩ ⟨upd_same, (List.nodup_cons.mp hop.nd).2, fun q => hop.no (List.mem_cons_of_mem _ q), ?_⟩ .nil (Buts.upd (by simp)) fun a ha => .inl (List.mem_cons_of_mem _ ha)
        · rw [upd_ne opp.symm]
          exact hp
        · rw [upd_ne opl.symm, List.append_nil]
          exact hf.li
        · rw [upd_ne osh.symm]
          exact hkv
        · refine en.keep io fun a ha => ?_
          have ao : a ≠ op := fun q => hop.no (List.mem_cons_of_mem _ (q ▸ ha))
          rw [upd_ne ao]
  | use g =>
    obtain ⟨hg, fine⟩ := okl
    have hdg : M.dom g := by
      cases n with
      | zero => exact fine.elim
      | succ n => exact fine.2.1
    have fn := MO.nm g hdg
    refine ⟨_, rfl, ⟨_, rfl⟩, _, _, rfl, rfl, _, rfl, ?_⟩
    rw [show Txt.startswith (Ln.txt (.use g)) "#if " = false from sw_use_if g]
    refine iteF ⟨_, rfl, rfl, _, rfl, ?_⟩
    rw [decide_eq_false (show ¬ V.str (Ln.txt (.use g)) = V.str "#else" from fun q => use_ne_els g (V.str.inj q))]
    refine iteF (iteF ⟨_, rfl, rfl, _, rfl, ?_⟩)
    rw [decide_eq_false (show ¬ V.str (Ln.txt (.use g)) = V.str "#end" from fun q => use_ne_fin g (V.str.inj q))]
    refine iteF (iteF ⟨_, rfl, ⟨_, rfl⟩, _, _, rfl, rfl, _, rfl, ?_⟩)
    rw [show Txt.startswith (Ln.txt (.use g)) "#use " = true from sw_use_use g]
    have lu : (Ln.txt (.use g)).length ≤ sizeLine := by
      show (("#use " : Str) ++ g).length ≤ sizeLine
      rw [len_tl, tl_use, List.length_append, ← len_tl]
      have := fn.2.1
      exact Nat.le_of_lt (small1000 (by show 5 + g.length ≤ 1000; omega))
    have ec : cutS (Ln.txt (.use g)) (some 5) none = g := cut5 g
    refine iteT ⟨_, rfl, _, rfl, _, rfl, lu, ?_⟩
    rw [ec]
    refine ⟨g, rfl, fn, fun H1 s1 => ⟨_, rfl, iteT ?_⟩⟩
    have hp1 := s1 _ _ hp
    refine ⟨_, rfl, fd_ar T hp1 ?_⟩
    have hop1 : OpAt M H1 op es st ar0 := hop.keep (imm_same s1) fun a ha => by
      obtain ⟨o, q, _⟩ := hop.wr a (List.mem_cons.mpr ha)
      rw [q, s1 _ _ q]
    refine ⟨_, rfl, p, dx, _, rfl, hp1, ff_no (by decide +kernel) (by decide +kernel) (by decide +kernel) (by decide +kernel) (by decide +kernel), _, rfl, _, rfl, _, rfl, lu, ?_⟩
    rw [ec]
    refine ⟨_, rfl, _, rfl, top_kept hop1 (hd.same s1) (fun vA hA => ?_) rfl rfl⟩
    refine ⟨_, rfl, p, sh, l, pa, vsw, va, vA, _, c, items, g, path, ar0 ++ st.reverse, rfl, ⟨⟨dx, hp1⟩, s1 _ _ hf.li, ⟨kvs, s1 _ _ hkv, hdom⟩, hf.sw.same s1, hf.le⟩, s1 _ _ hpa, hal, hg, fine, hA, okA, (by have := le; simp only [rowsOf, List.length_map] at this; exact this), fun H2 more f2 m2 b2 => ?_⟩
    obtain ⟨dx2, hp2⟩ := f2.ob
    obtain ⟨kvs2, hkv2, hdom2⟩ := f2.sh
    refine ⟨_, rfl, _, rfl, fd_put T hp2 ?_⟩
    have i12 : Imm H1 H2 := b2.imm (Fd.wr ⟨⟨dx, hp1⟩, s1 _ _ hf.li, ⟨kvs, s1 _ _ hkv, hdom⟩, hf.sw.same s1, hf.le⟩)
    have i2 : Imm H2 (upd H2 p (.ins T.C dx2 (ff sh vsw l (c + (rows M.fs n g).length) va))) := But.imm (But.upd (a := p)) hp2 trivial
    have hop2 : OpAt M H2 op es st ar0 := hop1.buts i12 b2 fun a ha q => by
      rcases List.mem_cons.mp q with q | q
      · subst q
        obtain ⟨o, g1, _⟩ := hop.wr a (List.mem_cons.mpr ha)
        rcases ha with ha | ha
        · exact opp ha.symm
        · obtain ⟨n', v1, b', v3, g2⟩ := hop.en.there a ha
          rw [hp] at g2
          cases g2
      · exact hnl a ha (List.mem_singleton.mp q)
    have lp : l ≠ p := ne_of f2.li hp2 (by intro q; cases q)
    have shp : sh ≠ p := ne_of hkv2 hp2 (by intro q; cases q)
    have hop3 : OpAt M (upd H2 p (.ins T.C dx2 (ff sh vsw l (c + (rows M.fs n g).length) va))) op es st ar0 := hop2.keep i2 fun a ha => by
      have ap : a ≠ p := fun q => by
        subst q
        rcases ha with ha | ha
        · exact opp ha.symm
        · obtain ⟨n', v1, b', v3, g2⟩ := hop.en.there a ha
          rw [hp] at g2
          cases g2
      rw [upd_ne ap]
    refine k _ es more ⟨⟨dx2, ?_⟩, ?_, ⟨kvs2, ?_, hdom2⟩, f2.sw.imm i2, ?_⟩ ?_ ?_ ?_ fun a ha => .inl ha
    · rw [upd_same]
      simp only [rowsOf, List.length_map]
    · rw [upd_ne lp]
      exact f2.li
    · rw [upd_ne shp]
      exact hkv2
    · have := f2.le
      simp only [rowsOf, List.length_map]
      exact this
    · show OpAt M _ op es (nxt st (.use g)) ar0
      cases st <;> exact hop3
    · have e : (rowsOf (rows M.fs n) f j st (.use g)).map (fun r => r.under ar0) = (rows M.fs n g).map fun r => r.under (ar0 ++ st.reverse) := by
        show ((rows M.fs n g).map fun r => r.under st.reverse).map (fun r => r.under ar0) = _
        rw [List.map_map]
        refine List.map_congr_left fun r _ => ?_
        exact Row.under_under r ar0 st.reverse
      rw [e]
      exact items_imm i2 m2
    · refine ((Buts.of s1).trans ?_).trans (Buts.upd (by simp))
      exact b2.more fun a ha => by
        rcases List.mem_cons.mp ha with q | q
        · rw [q]
          exact List.mem_cons_self
        · rw [List.mem_singleton.mp q]
          simp
end
end OF

set_option Elab.async false
set_option linter.all false
set_option maxRecDepth 100000
set_option maxHeartbeats 4000000
/-! C5: file, fold. -/
namespace OF
open PySem L2
/-- the folded lines of a shelf -/
def spFold (M : Pm) (n : Nat) : Sp := fun vs H Q _ => ∃ (sh : Addr) (f : Str) (vsw : V), vs = [.ref sh, .str f, vsw] ∧ ShAt M H sh ∧ SwAt H vsw M.sw ∧ M.fine n [] f ∧ (rows M.fs n f).length ≤ 40 ∧
  ∀ l H' items, Same H H' → H l = none → H' l = some (.lst items) → All2 (ItemAt M H') items (folded M.sw M.kn (rows M.fs n f)) → Q (.ref l) H'
theorem Row.under_nil (r : Row) : r.under [] = r := by
  cases r
  rfl
section
variable {P : Program} {w : World} {K : PySem.W.Frag} {mg : Str → Option Value} {base : Heap}
theorem scFile : FnScope ["self", "name", "when", "path", "opened", "at", "line", "place"] ["self", "name", "when", "path"] (defScope sFile) := ⟨rfl, rfl, rfl, by decide +kernel, rfl, by decide +kernel, by decide +kernel⟩
theorem ok_file (T : FdT K mg) {M : Pm} (MO : M.Ok) : ∀ n : Nat, FnOk P w K mg base CX0 (3 * n + 72) T.file.f T.file.fd ["self", "name", "when", "path"] (spFile T.C M n)
  | 0 => never_ok fun vs H Q E h => by
    obtain ⟨p, sh, l, pa, vsw, va, vw, c, items, f, path, ar, _, _, _, _, z, _⟩ := h
    exact z
  | n + 1 => by
    have GF0 := ok_file T MO n
    have GDi : FnOk P w K mg base CX0 (3 * n + 74) T.directive.f T.directive.fd ["self", "line", "place", "opened", "path"] (spDirective T.C M n) := ok_directive T MO (by omega) (ok_use T GF0)
    have GCt : FnOk P w K mg base CX0 2 T.content.f T.content.fd ["self", "line", "place", "when"] (spContent T.C M) := ok_content T M
    have GLn : FnOk P w K mg base CX0 1 T.S.lines.f T.S.lines.fd ["text"] spLines := ok_lines T.S
    show FnOk P w K mg base CX0 (3 * n + 74 + 1) T.file.f T.file.fd ["self", "name", "when", "path"] (spFile T.C M (n + 1))
    refine T.file.F.ok scFile (fun vs H Q E h => ?_) (fun cdv A outer s H vs Q E hr h => ?_)
    · obtain ⟨p, sh, l, pa, vsw, va, vw, c, items, f, path, ar, rfl, _⟩ := h
      rfl
    obtain ⟨p, sh, l, pa, vsw, va, vw, c, items, f, path, ar, rfl, hf, hpa, hal, fine, hd, ok, le, k⟩ := h
    have hr2 : Room 2 _ := hr.mono (by omega)
    have hr1 : Room 1 _ := hr.mono (by omega)
    refine ⟨_, (pss_cons (ps_fld (pv 0) (pv 2) rfl)
          (pss_cons (ps_set (i := 4) scFile.nd rfl (.inl rfl) (pe_lst pa_nil))
          (pss_cons (ps_for PassesOwn.never rfl (pi_enum (by rfl) T.men (pa_cons (pcall T.S.lines GLn hr1 (pa_cons (pe_dget (hu_of hr) (pe_fld (pv 0) rfl) (pv 1) (fun _ _ => rfl)) pa_nil)) pa_nil)) (pg_tup rfl (pgs_cons (pg_name (i := 5) scFile.nd rfl (.inl rfl)) (pgs_cons (pg_name (i := 6) scFile.nd rfl (.inl rfl)) pgs_nil))) (pss_cons (ps_set (i := 7) scFile.nd rfl (.inl rfl) (pe_tup (pa_cons (pv 1) (pa_cons (pe_op op_add (pv 5) pe_int) pa_nil))))
            (pss_one (ps_if (pt_val (pe_m1 PySem.F.slot_str_startswith PySem.F.type_str_startswith mt_startswith (pv 6) pe_str)) (pss_one (ps_expr (pmeth T.directive T.cl GDi hr (pv 0) (pa_cons (pv 6) (pa_cons (pv 7) (pa_cons (pv 4) (pa_cons (pv 3) pa_nil))))))) (pss_one (ps_expr (pmeth T.content T.cl GCt hr2 (pv 0) (pa_cons (pv 6) (pa_cons (pv 7) (pa_cons (pe_ifExp (pt_truth (pv 4) (by intro _; rfl)) (pe_ix ix_list (pe_ix ix_list (pv 4) (pe_un un_neg pe_int) (fun _ _ => rfl)) pe_int (fun _ _ => rfl)) (pe_fld (pv 0) rfl)) pa_nil))))))))))
          (pss_one (ps_if (pt_truth (pv 4) (by intro _; rfl)) (pss_one ps_never) pss_nil))))), ?_⟩
    obtain ⟨dx, hp⟩ := hf.ob
    obtain ⟨kvs, hkv, hdom⟩ := hf.sh
    obtain ⟨plen, hdf, okl⟩ := fine
    have pl : p ≠ l := ne_of hp hf.li (by intro q; cases q)
    have psh : sh ≠ p := ne_of hkv hp (by intro q; cases q)
    have ppa : pa ≠ p := ne_of hpa hp (by intro q; cases q)
    -- self.around = when
    refine ⟨_, rfl, _, rfl, fd_put T hp ?_⟩
    have i1 : Imm H (upd H p (.ins T.C dx (ff sh vsw l c vw))) := But.imm (But.upd (a := p)) hp trivial
    have b1 : Buts [p, l] H (upd H p (.ins T.C dx (ff sh vsw l c vw))) := Buts.upd (by simp)
    -- opened = []
    refine ⟨(by show 0 ≤ sizeLine; decide), fun op hop => ?_⟩
    have so := same_new (o := .lst []) hop
    have hop0 : H op = none := by
      have ne : p ≠ op := ne_of_none upd_same hop
      rw [upd_ne ne.symm] at hop
      exact hop
    have i2 := i1.trans (imm_same so)
    have b2 := b1.trans (Buts.of (S := [p, l]) so)
    generalize hH2 : upd (upd H p (.ins T.C dx (ff sh vsw l c vw))) op (.lst []) = H2 at i2 b2 so ⊢
    have hp2 : H2 p = some (.ins T.C dx (ff sh vsw l c vw)) := so _ _ upd_same
    have li2 : H2 l = some (.lst items) := so _ _ (by rw [upd_ne pl.symm]; exact hf.li)
    have kv2 : H2 sh = some (.dK kvs) := so _ _ (by rw [upd_ne psh]; exact hkv)
    have op2 : H2 op = some (.lst []) := by
      rw [← hH2]
      exact upd_same
    have pa2 : H2 pa = some (.lst ((path ++ [f]).map V.str)) := so _ _ (by rw [upd_ne ppa]; exact hpa)
    -- enumerate(lines_of(self.shelf[name]))
    have dg : DGet H2 sh (.str f) (some (.str (M.tx f))) := by
      have q := DGet.k (k := Sum.inr f) kv2
      rw [hdom f hdf] at q
      exact q
    refine ⟨_, rfl, fd_sh T hp2 ⟨_, rfl, sh, _, rfl, dg, _, rfl, MO.ln f hdf, fun ll H3 s3 hl3 hn3 => ?_⟩⟩
    rw [MO.ls f hdf] at hl3
    have hll0 : H ll = none := by
      cases e : H ll with
      | none => rfl
      | some o =>
        have n1 : ll ≠ p := fun q => by
          rw [q, hp2] at hn3
          cases hn3
        have n2 : ll ≠ l := fun q => by
          rw [q, li2] at hn3
          cases hn3
        have q := b2 ll o e (by simp [n1, n2])
        rw [hn3] at q
        cases q
    refine ⟨ll, _, rfl, SqL.of hl3, ?_⟩
    have lnl : ∀ k, (((M.fs f).map Ln.txt).map V.str)[k]? = ((M.fs f)[k]?).map (fun ln : Ln => V.str ln.txt) := fun k => by
      rw [List.getElem?_map, List.getElem?_map]
      cases (M.fs f)[k]? <;> rfl
    refine for_it (walk_enum (xs := ((M.fs f).map Ln.txt).map V.str)) (fun i σ H' => ∃ (es : List Addr) (st : Ar) (done : List Row) (more : List V) (v5 v6 v7 : Option V),
        σ = [some (.ref p), some (.str f), some vw, some (.ref pa), some (.ref op), v5, v6, v7] ∧ Fd T.C M H' p sh l vsw (c + done.length) vw (items ++ more) ∧ OpAt M H' op es st ar ∧ (∀ a, a = op ∨ a ∈ es → H a = none) ∧
        All2 (ItemAt M H') more (folded M.sw M.kn (done.map fun r => r.under ar)) ∧ ArOk M.sw M.kn st ∧ okL (fun g => g ∉ path ++ [f] ∧ M.fine n (path ++ [f]) g) M.I st ((M.fs f).drop i) ∧
        done ++ rdL (rows M.fs n) f i st ((M.fs f).drop i) = rows M.fs (n + 1) f ∧ Buts [p, l] H H' ∧ H' ll = some (.lst (((M.fs f).map Ln.txt).map V.str)))
      ⟨[], [], [], [], none, none, none, rfl, ⟨⟨dx, s3 _ _ hp2⟩, by rw [List.append_nil]; exact s3 _ _ li2, ⟨kvs, s3 _ _ kv2, hdom⟩, (hf.sw.imm i2).same s3, by rw [List.append_nil]; exact hf.le⟩, ⟨s3 _ _ op2, List.nodup_nil, by simp, trivial⟩,
        (fun a ha => by
          rcases ha with ha | ha
          · rw [ha]
            exact hop0
          · simp at ha), .nil, (fun _ h => by simp at h), okl, rfl, b2.trans (Buts.of s3), hl3⟩
      (fun i σ H' _ ⟨_, _, _, _, _, _, _, _, _, _, _, _, _, _, _, _, q⟩ => SqL.of q) ?_ ?_
    · rintro i x σ H4 H5 hi ⟨es, st, done, more, v5, v6, v7, rfl, hf4, hop4, hnew, hm4, okS, okR, eR, b4, hl4⟩ ⟨T', x1, x2, rfl, nT, rfl, e1, e2⟩
      cases e1
      have e2 : (((M.fs f).map Ln.txt).map V.str)[i]? = some x2 := e2
      rw [List.length_map, List.length_map] at hi
      rw [lnl, List.getElem?_eq_getElem hi] at e2
      generalize hln : (M.fs f)[i] = ln at e2
      cases e2
      have hdrop : (M.fs f).drop i = ln :: (M.fs f).drop (i + 1) := by
        rw [← hln]
        exact List.drop_eq_getElem_cons hi
      rw [hdrop] at okR eR
      obtain ⟨okn, okR⟩ := okR
      have sT := same_new (o := .tup [.int (i : Int), .str ln.txt]) nT
      have len40 : c + (done ++ rowsOf (rows M.fs n) f i st ln).length ≤ 40 := by
        have z := congrArg List.length eR
        simp only [rdL, List.length_append] at z
        rw [List.length_append]
        omega
      refine ⟨T', _, rfl, .inl (.inl upd_same), rfl, _, [_], rfl, _, [], rfl, rfl, ?_⟩
      -- place = (name, at + 1)
      refine ⟨_, rfl, _, rfl, _, _, rfl, rfl, (by show 2 ≤ sizeLine; decide), fun pl' hpl' => ?_⟩
      have sP := same_new (o := .tup [.str f, .int ((i : Int) + 1)]) hpl'
      have s46 := sT.trans sP
      generalize hH6 : upd (upd H4 T' (.tup [.int (i : Int), .str ln.txt])) pl' (.tup [.str f, .int ((i : Int) + 1)]) = H6 at s46 sP ⊢
      have pl6 : H6 pl' = some (.tup [.str f, .int ((i : Int) + 1)]) := by
        rw [← hH6]
        exact upd_same
      obtain ⟨dx4, hp4⟩ := hf4.ob
      obtain ⟨kvs4, hkv4, hdom4⟩ := hf4.sh
      have hp6 := s46 _ _ hp4
      have hf6 : Fd T.C M H6 p sh l vsw (c + done.length) vw (items ++ more) := ⟨⟨dx4, hp6⟩, s46 _ _ hf4.li, ⟨kvs4, s46 _ _ hkv4, hdom4⟩, hf4.sw.same s46, hf4.le⟩
      have hop6 : OpAt M H6 op es st ar := hop4.keep (imm_same s46) fun a ha => by
        obtain ⟨o, q, _⟩ := hop4.wr a (List.mem_cons.mpr ha)
        rw [q, s46 _ _ q]
      have b6 : Buts [p, l] H H6 := b4.trans (Buts.of s46)
      have hdw : DAt H6 vw (M.dg ar) := (hd.imm (b6.imm hf.wr))
      have nl6 : ∀ a, a = op ∨ a ∈ es → a ≠ l := fun a ha q => by
        have z := hnew a ha
        rw [q, hf.li] at z
        cases z
      have pa6 : H6 pa = some (.lst ((path ++ [f]).map V.str)) := b6 _ _ hpa (by simp [ppa, hal])
      have ll6 := s46 _ _ hl4
      -- one line further
      have next : ∀ (H7 : Hp) (es' : List Addr) (more' : List V) (v5 v6 v7 : Option V), Fd T.C M H7 p sh l vsw (c + done.length + (rowsOf (rows M.fs n) f i st ln).length) vw ((items ++ more) ++ more') → OpAt M H7 op es' (nxt st ln) ar →
          All2 (ItemAt M H7) more' (folded M.sw M.kn ((rowsOf (rows M.fs n) f i st ln).map fun r => r.under ar)) → Buts (p :: l :: op :: es) H6 H7 → (∀ e ∈ es', e ∈ es ∨ H6 e = none) →
          ∃ (es : List Addr) (st : Ar) (done : List Row) (more : List V) (u5 u6 u7 : Option V), [some (V.ref p), some (.str f), some vw, some (.ref pa), some (.ref op), v5, v6, v7] = [some (.ref p), some (.str f), some vw, some (.ref pa), some (.ref op), u5, u6, u7] ∧
            Fd T.C M H7 p sh l vsw (c + done.length) vw (items ++ more) ∧ OpAt M H7 op es st ar ∧ (∀ a, a = op ∨ a ∈ es → H a = none) ∧
            All2 (ItemAt M H7) more (folded M.sw M.kn (done.map fun r => r.under ar)) ∧ ArOk M.sw M.kn st ∧ okL (fun g => g ∉ path ++ [f] ∧ M.fine n (path ++ [f]) g) M.I st ((M.fs f).drop (i + 1)) ∧
            done ++ rdL (rows M.fs n) f (i + 1) st ((M.fs f).drop (i + 1)) = rows M.fs (n + 1) f ∧ Buts [p, l] H H7 ∧ H7 ll = some (.lst (((M.fs f).map Ln.txt).map V.str)) := by
        intro H7 es' more' w5 w6 w7 f7 o7 m7 b7 n7
        have i67 : Imm H6 H7 := b7.imm fun a ha => by
          rcases List.mem_cons.mp ha with q | q
          · rw [q]
            exact ⟨_, hp6, trivial⟩
          · rcases List.mem_cons.mp q with q | q
            · rw [q]
              exact ⟨_, hf6.li, trivial⟩
            · exact hop6.wr a q
        refine ⟨es', nxt st ln, done ++ rowsOf (rows M.fs n) f i st ln, more ++ more', w5, w6, w7, rfl, ?_, o7, ?_, ?_, okS.nxt (fun s h => h.names) okn, okR, ?_, ?_, ?_⟩
        · rw [List.length_append, ← Nat.add_assoc, ← List.append_assoc]
          exact f7
        · intro a ha
          rcases ha with ha | ha
          · exact hnew a (.inl ha)
          · rcases n7 a ha with q | q
            · exact hnew a (.inr q)
            · cases e : H a with
              | none => rfl
              | some o =>
                have n1 : a ≠ p := fun z => by
                  rw [z, hp6] at q
                  cases q
                have n2 : a ≠ l := fun z => by
                  rw [z, hf6.li] at q
                  cases q
                have z := b6 a o e (by simp [n1, n2])
                rw [q] at z
                cases z
        · rw [List.map_append, folded_append]
          exact (items_imm ((imm_same s46).trans i67) hm4).append m7
        · rw [List.append_assoc]
          exact eR
        · refine Buts.fresh b6 b7 fun a ha => ?_
          rcases List.mem_cons.mp ha with q | q
          · exact .inl (by rw [q]; simp)
          · rcases List.mem_cons.mp q with q | q
            · exact .inl (by rw [q]; simp)
            · exact .inr (hnew a (List.mem_cons.mp q))
        · refine b7 ll _ ll6 fun ha => ?_
          rcases List.mem_cons.mp ha with q | q
          · rw [q, hp6] at ll6
            cases ll6
          · rcases List.mem_cons.mp q with q | q
            · rw [q, hf.li] at hll0
              cases hll0
            · rcases List.mem_cons.mp q with q | q
              · have z := hop6.li
                rw [← q, ll6] at z
                injection z with z
                injection z with z
                have y : (M.fs f).length = es.length := by
                  have := congrArg List.length z
                  simpa using this
                have el := hop6.en.len
                -- the lines' list is no list of entries: its first item is a text
                cases hfs : M.fs f with
                | nil =>
                  rw [hfs] at hi
                  simp at hi
                | cons l0 r0 =>
                  rw [hfs] at z
                  simp only [List.map_cons] at z
                  cases her : es.reverse with
                  | nil =>
                    rw [her] at z
                    cases z
                  | cons a0 r1 =>
                    rw [her] at z
                    simp only [List.map_cons] at z
                    injection z with z _
                    cases z
              · obtain ⟨n', v1, b', v3, g⟩ := hop6.en.there ll q
                rw [ll6] at g
                injection g with g
                injection g with g
                cases hfs : M.fs f with
                | nil =>
                  rw [hfs] at g
                  cases g
                | cons l0 r0 =>
                  rw [hfs] at g
                  simp only [List.map_cons] at g
                  injection g with g _
                  cases g
      refine ⟨_, rfl, ⟨_, rfl⟩, _, _, rfl, rfl, _, rfl, ?_⟩
      by_cases hc : ∃ s, ln = .con s
      · obtain ⟨z, rfl⟩ := hc
        have cz : Cont z := okn
        rw [sw_hash (ln := .con z) (fun s e => by cases e; exact cz)]
        refine iteF ⟨_, rfl, p, dx4, _, rfl, hp6, ff_no (by decide +kernel) (by decide +kernel) (by decide +kernel) (by decide +kernel) (by decide +kernel), _, rfl, _, rfl, _, rfl, top_around T hop6 hp6 hdw (fun vA hA => ?_) rfl rfl⟩
        refine ⟨p, sh, l, pl', vsw, vw, vA, c + done.length, i + 1, items ++ more, z, f, ar ++ st.reverse, rfl, hf6, pl6, cz, ?_, hA, fun H7 more' f7 m7 b7 => ?_⟩
        · have := len40
          rw [List.length_append] at this
          have e : (rowsOf (rows M.fs n) f i st (.con z)).length = 1 := rfl
          omega
        · refine next H7 es more' _ _ _ f7 ?_ m7 (b7.more fun a ha => ?_) fun e he => .inl he
          · have hop7 : OpAt M H7 op es st ar := hop6.buts (b7.imm hf6.wr) b7 fun a ha q => by
              rcases List.mem_cons.mp q with q | q
              · have z := hnew a ha
                rw [q, hp] at z
                cases z
              · exact nl6 a ha (List.mem_singleton.mp q)
            cases st <;> exact hop7
          · rcases List.mem_cons.mp ha with q | q
            · rw [q]
              simp
            · rw [List.mem_singleton.mp q]
              simp
      · have hc' : ∀ s, ln ≠ .con s := fun s e => hc ⟨s, e⟩
        have hh : Txt.startswith ln.txt "#" = true := by
          rw [sw_hash fun s e => absurd e (hc' s)]
          cases ln with
          | con s => exact absurd rfl (hc' s)
          | _ => rfl
        rw [hh]
        refine iteT ⟨_, rfl, p, dx4, _, rfl, hp6, ff_no (by decide +kernel) (by decide +kernel) (by decide +kernel) (by decide +kernel) (by decide +kernel), _, rfl, _, rfl, _, rfl, _, rfl, ?_⟩
        refine ⟨p, sh, l, pl', op, pa, vsw, vw, c + done.length, i, items ++ more, f, path ++ [f], ar, st, es, ln, rfl, hf6, pl6, hdw, ok, okS, hop6, nl6, pa6, hal, okn, hc', ?_, fun H7 es' more' f7 o7 m7 b7 n7 => ?_⟩
        · have := len40
          rw [List.length_append] at this
          omega
        · exact next H7 es' more' _ _ _ f7 o7 m7 b7 n7
    · rintro σ H4 ⟨es, st, done, more, v5, v6, v7, rfl, hf4, hop4, hnew, hm4, okS, okR, eR, b4, hl4⟩
      have ed : (M.fs f).drop ((((M.fs f).map Ln.txt).map V.str).length) = [] := List.drop_eq_nil_of_le (by rw [List.length_map, List.length_map]; exact Nat.le_refl _)
      rw [ed] at okR eR
      have est : st = [] := okR
      subst est
      have el := hop4.en.len
      have ees : es = [] := List.eq_nil_of_length_eq_zero el
      subst ees
      have e : done = rows M.fs (n + 1) f := by
        rw [← eR]
        show done = done ++ []
        rw [List.append_nil]
      refine ⟨_, rfl, false, .inl ⟨_, SqL.of hop4.li, rfl⟩, iteF ?_⟩
      rw [e] at hf4 hm4
      exact k _ _ hf4 hm4 b4
theorem scFold : FnScope ["shelf", "name", "switches", "folder"] ["shelf", "name", "switches"] (defScope sFold) := ⟨rfl, rfl, rfl, by decide +kernel, rfl, by decide +kernel, by decide +kernel⟩
end
end OF

set_option Elab.async false
set_option linter.all false
set_option maxRecDepth 100000
set_option maxHeartbeats 4000000
/-! C6: fold, choose. -/
namespace OF
open PySem L2
/-! ### the conditions around rows are known -/
theorem rowsOf_ok {sw : List Str} {kn : Str → Fo} {sub : Str → List Row} {f : Str} {k : Nat} {st : Ar} {ln : Ln} {U I : Str → Prop} (hU : ∀ g, U g → RowsOk sw kn (sub g)) (hs : ArOk sw kn st) (ok : okLn U I st ln) : RowsOk sw kn (rowsOf sub f k st ln) := by
  intro r hr
  cases ln with
  | con s =>
    have e : r = ⟨s, f, k + 1, st.reverse⟩ := List.mem_singleton.mp hr
    rw [e]
    exact hs.rev
  | use g =>
    obtain ⟨r', h1, rfl⟩ := List.mem_map.mp hr
    exact hs.rev.append (hU g ok r' h1)
  | iff s => simp [rowsOf] at hr
  | els => simp [rowsOf] at hr
  | fin => simp [rowsOf] at hr
theorem rdL_ok {sw : List Str} {kn : Str → Fo} {sub : Str → List Row} {f : Str} {U I : Str → Prop} (hI : ∀ s, I s → FNm sw (kn s)) (hU : ∀ g, U g → RowsOk sw kn (sub g)) : ∀ {ls : List Ln} {k : Nat} {st : Ar}, ArOk sw kn st → okL U I st ls → RowsOk sw kn (rdL sub f k st ls)
  | [], _, _, _, _ => fun r hr => by simp [rdL] at hr
  | ln :: ls, k, st, hs, ⟨o1, o2⟩ => fun r hr => by
    rcases List.mem_append.mp hr with q | q
    · exact rowsOf_ok hU hs o1 r q
    · exact rdL_ok hI hU (hs.nxt hI o1) o2 r q
theorem rows_ok {sw : List Str} {kn : Str → Fo} {fs : Str → List Ln} {dom I : Str → Prop} (hI : ∀ s, I s → FNm sw (kn s)) : ∀ {n : Nat} {path : List Str} {f : Str}, FsOk fs dom I n path f → RowsOk sw kn (rows fs n f)
  | 0, _, _, h => h.elim
  | n + 1, path, f, ⟨_, _, o⟩ => rdL_ok hI (fun g hg => rows_ok hI hg.2) (fun _ h => by simp at h) o
/-- a row of the chosen lines on the heap -/
def Row3At (H : Hp) (v : V) (r : Row) : Prop := ∃ p, v = .ref p ∧ H p = some (.tup [.str r.text, .str r.file, .int (r.at' : Int)])
theorem Row3At.imm {H H' : Hp} (s : Imm H H') {v : V} {r : Row} : Row3At H v r → Row3At H' v r := fun ⟨p, e, h⟩ => ⟨p, e, s.1 _ _ h⟩
def spChoose (M : Pm) (n : Nat) : Sp := fun vs H Q _ => ∃ (sh : Addr) (f : Str) (vsw vc : V) (cf : List Bool), vs = [.ref sh, .str f, vsw, vc] ∧ ShAt M H sh ∧ SwAt H vsw M.sw ∧ M.fine n [] f ∧ (rows M.fs n f).length ≤ 40 ∧ CfAt H vc cf ∧ cf.length = M.sw.length ∧
  ∀ l H' items, Same H H' → H l = none → H' l = some (.lst items) → All2 (Row3At H') items (chosenR M.sw M.kn cf (rows M.fs n f)) → Q (.ref l) H'
theorem under_nil_map (rs : List Row) : rs.map (fun r => r.under []) = rs := by
  have e : (fun r : Row => r.under []) = id := funext fun r => Row.under_nil r
  rw [e, List.map_id]
section
variable {P : Program} {w : World} {K : PySem.W.Frag} {mg : Str → Option Value} {base : Heap}
theorem ok_fold (T : FdT K mg) {M : Pm} (MO : M.Ok) (n : Nat) : FnOk P w K mg base CX0 (3 * n + 73) T.fold.f T.fold.fd ["shelf", "name", "switches"] (spFold M n) := by
  have GF := ok_file (P := P) (w := w) (base := base) T MO n
  have GI : FnOk P w K mg base CX0 1 T.init.f T.init.fd ["self", "shelf", "switches"] (spFInit T.C) := ok_finit T
  refine T.fold.F.ok scFold (fun vs H Q E h => ?_) (fun cdv A outer s H vs Q E hr h => ?_)
  · obtain ⟨sh, f, vsw, rfl, _⟩ := h
    rfl
  obtain ⟨sh, f, vsw, rfl, ⟨kvs, hkv, hdom⟩, hsw, fine, le, k⟩ := h
  have hr2 : Room 2 _ := hr.mono (by omega)
  refine ⟨_, (pss_cons (ps_if (pt_cmp (pc_dnotin (hu_of hr) (pv 1) (pv 0))) (pss_one ps_never) pss_nil)
        (pss_cons (ps_set (i := 3) scFold.nd rfl (.inl rfl) (pe_make T.init.m GI hr2 rfl T.mgC T.init.b .nil pass0 (pa_cons (pv 0) (pa_cons (pv 2) pa_nil))))
        (pss_cons (ps_expr (pmeth T.file T.cl GF hr (pv 3) (pa_cons (pv 1) (pa_cons pe_bl (pa_cons (pe_lst (pa_cons (pv 1) pa_nil)) pa_nil)))))
        (pss_one (ps_ret (pe_fld (pv 3) rfl)))))), ?_⟩
  have hdf : M.dom f := by
    cases n with
    | zero => exact fine.elim
    | succ n => exact fine.2.1
  refine ⟨_, rfl, _, rfl, sh, _, rfl, DGet.k (k := Sum.inr f) hkv, _, rfl, ?_⟩
  rw [hdom f hdf]
  refine iteF ⟨_, rfl, _, rfl, fun x dx nx ndx nex => ?_⟩
  refine ⟨x, dx, sh, vsw, rfl, upd_same, fun l H1 hx hl hln b => ⟨rfl, ?_⟩⟩
  have s1 : Same H H1 := Same.made nx ndx b
  obtain ⟨dx1, hx⟩ := hx
  have hl0 : H l = none := by
    cases e : H l with
    | none => rfl
    | some o =>
      have n1 : l ≠ x := fun q => by
        rw [q, nx] at e
        cases e
      have n2 : l ≠ dx := fun q => by
        rw [q, ndx] at e
        cases e
      rw [upd_ne n1, upd_ne n2, e] at hln
      cases hln
  refine ⟨_, rfl, x, dx1, _, rfl, hx, ff_no (by decide +kernel) (by decide +kernel) (by decide +kernel) (by decide +kernel) (by decide +kernel), _, rfl, _, rfl, (by show 1 ≤ sizeLine; decide), fun pa hpa => ?_⟩
  have sp := same_new (o := .lst [.str f]) hpa
  have s2 := s1.trans sp
  have hpl : pa ≠ l := (ne_of_none hl hpa).symm
  refine ⟨x, sh, l, pa, vsw, .bl true, .bl true, 0, [], f, [], [], rfl, ⟨⟨dx1, sp _ _ hx⟩, sp _ _ hl, ⟨kvs, s2 _ _ hkv, hdom⟩, hsw.same s2, Nat.le_refl _⟩, upd_same, hpl, fine, ?_, (fun _ h => by simp at h), (by omega), fun H3 more f3 m3 b3 => ?_⟩
  · show DAt _ _ (dgOf M.sw M.kn [])
    rw [dgOf_nil]
    rfl
  obtain ⟨dx3, hx3⟩ := f3.ob
  refine ⟨_, rfl, x, T.C, dx3, _, _, rfl, hx3, T.cl, T.nLi, ff_li, ?_⟩
  rw [under_nil_map] at m3
  have li3 := f3.li
  rw [List.nil_append] at li3
  refine k l H3 more (fun c o e => ?_) hl0 li3 m3
  refine b3 c o (s2 c o e) fun q => ?_
  rcases List.mem_cons.mp q with q | q
  · rw [q, nx] at e
    cases e
  · rw [List.mem_singleton.mp q, hl0] at e
    cases e
theorem scChoose : FnScope ["shelf", "name", "switches", "configuration", "row"] ["shelf", "name", "switches", "configuration"] (defScope sChoose) := ⟨rfl, rfl, rfl, by decide +kernel, rfl, by decide +kernel, by decide +kernel⟩
theorem ok_choose (T : FdT K mg) {M : Pm} (MO : M.Ok) (n : Nat) : FnOk P w K mg base CX0 (3 * n + 74) T.choose.f T.choose.fd ["shelf", "name", "switches", "configuration"] (spChoose M n) := by
  have GF := ok_fold (P := P) (w := w) (base := base) T MO n
  have GH : FnOk P w K mg base CX0 1 T.D.holds.f T.D.holds.fd ["d", "configuration"] spHolds := ok_holds T.D
  refine T.choose.F.ok scChoose (fun vs H Q E h => ?_) (fun cdv A outer s H vs Q E hr h => ?_)
  · obtain ⟨sh, f, vsw, vc, cf, rfl, _⟩ := h
    rfl
  obtain ⟨sh, f, vsw, vc, cf, rfl, hsh, hsw, fine, le, hcf, hcl, k⟩ := h
  have hr1 : Room 1 _ := hr.mono (by omega)
  have rok : RowsOk M.sw M.kn (rows M.fs n f) := rows_ok (fun s h => h.names) fine
  rw [← chosen_folded rok] at k
  refine ⟨_, (pss_one (ps_ret (pe_lc (own := [("row", 4)]) (g := gName 4) (tt := tB (tCall spHolds [] E0 (tCons (tOp (rIxT K) (tVar 4) (tC (.int 3))) (tCons (tVar 3) tNil)))) (te := tSl (rSlT K) (tVar 4) tNoPart (tPart (tC (.int 3)))) rfl scChoose.nd (pi_list (pcall T.fold GF hr (pa_cons (pv 0) (pa_cons (pv 1) (pa_cons (pv 2) pa_nil))))) (blkOk_by (N := ["shelf", "name", "switches", "configuration", "row"]) (sc := defScope sChoose) (by decide +kernel)) (fun _ _ _ _ _ => pg_name (i := 4) scChoose.nd rfl (.inl rfl)) (fun _ _ _ _ _ => pts_one (pt_val (pcall T.D.holds GH hr1 (pa_cons (pe_ix ix_tup (pv 4) pe_int (fun _ _ => rfl)) (pa_cons (pv 3) pa_nil))))) (fun _ _ _ _ _ => pe_slice sl_tup (pv 4) po_none (po_some pe_int))))), ?_⟩
  refine ⟨_, rfl, _, rfl, _, rfl, sh, f, vsw, rfl, hsh, hsw, fine, le, fun l H1 items s1 hl0 hl hit => ?_⟩
  refine ⟨l, rfl, ⟨_, SqL.of hl⟩, fun D hD => ?_⟩
  have hlD : l ≠ D := ne_of_none hl hD
  refine lc_list (K := K) (a := l) (xs := items) (fun i H' => Same H1 H' ∧ ∃ out, H' D = some (.lst out) ∧ out.length ≤ i ∧ All2 (Row3At H') out (((folded M.sw M.kn (rows M.fs n f)).take i).filter fun r => (M.dg r.ar).ev (cfR cf)))
    ⟨same_new hD, [], upd_same, Nat.zero_le _, by rw [List.take_zero]; exact .nil⟩ (fun i H' _ ⟨s2, _⟩ => SqL.of (s2 _ _ hl)) ?_ ?_
  · rintro i v H2 hi ⟨s2, out, hout, hlen, hall⟩
    obtain ⟨r, hr', p, vd, rfl, hp, hd⟩ := hit.get hi
    have hi' : i < items.length := (List.getElem?_eq_some_iff.mp hi).1
    have hfl : items.length ≤ 40 := by
      rw [hit.length]
      exact Nat.le_trans (List.length_filter_le _ _) le
    refine ⟨rfl, ?_⟩
    have et : (folded M.sw M.kn (rows M.fs n f)).take (i + 1) = (folded M.sw M.kn (rows M.fs n f)).take i ++ [r] := by
      rw [List.take_add_one, hr']
      rfl
    refine ⟨_, rfl, p, _, _, _, rfl, rfl, .inl (.inl (s2 _ _ hp)), at_of (j := 3) rfl rfl, _, rfl, vd, vc, _, cf, rfl, hd.same s2, (hcf.same s1).same s2, (by rw [hcl]; exact dgOf_red _ _ _), _, rfl, ?_⟩
    by_cases hb : (M.dg r.ar).ev (cfR cf) = true
    · rw [hb]
      refine iteT ⟨_, rfl, _, rfl, p, _, rfl, .inl (.inl (s2 _ _ hp)), ?_, fun q hq => ?_⟩
      · intro z
        have z2 := z.2
        rw [show (some (3 : Int)) = some ((3 : Nat) : Int) from rfl, HT.sIx_nat] at z2
        simp at z2
      have ec : cutV [.str r.text, .str r.file, .int (r.at' : Int), vd] none (some 3) = [.str r.text, .str r.file, .int (r.at' : Int)] := by
        unfold cutV
        rw [show (some (3 : Int)) = some ((3 : Nat) : Int) from rfl, HT.sIx_nat, HT.sIx_none]
        rfl
      rw [ec]
      have sq := same_new (o := .tup [.str r.text, .str r.file, .int (r.at' : Int)]) hq
      have hDq : D ≠ q := ne_of_none hout hq
      have iD : Imm (upd H2 q (.tup [.str r.text, .str r.file, .int (r.at' : Int)])) (upd (upd H2 q (.tup [.str r.text, .str r.file, .int (r.at' : Int)])) D (.lst (out ++ [.ref q]))) := But.imm (But.upd (a := D)) (sq _ _ hout) trivial
      refine ⟨out, sq _ _ hout, small1000 (by omega), fun b o e => ?_, out ++ [.ref q], upd_same, by rw [List.length_append]; show out.length + 1 ≤ i + 1; omega, ?_⟩
      · have bD : b ≠ D := ne_of_none e hD
        rw [upd_ne bD]
        exact sq _ _ (s2 _ _ e)
      · rw [et, List.filter_append, List.filter_cons_of_pos (by exact hb)]
        refine All2.append (hall.mono fun a b h => (h.imm (imm_same sq)).imm iD) (.cons ⟨q, rfl, ?_⟩ .nil)
        rw [upd_ne hDq.symm, upd_same]
    · have hb' : (M.dg r.ar).ev (cfR cf) = false := by simpa using hb
      rw [hb']
      refine iteF ⟨s2, out, hout, by omega, ?_⟩
      rw [et, List.filter_append, List.filter_cons_of_neg (by exact hb)]
      simp only [List.filter_nil, List.append_nil]
      exact hall
  · rintro H2 ⟨s2, out, hout, hlen, hall⟩
    rw [hit.length, List.take_length] at hall
    exact k D H2 out (s1.trans s2) (s1.free hD) hout hall
end
end OF

set_option Elab.async false
set_option linter.all false
set_option maxRecDepth 100000
set_option maxHeartbeats 4000000
/-! D1: the law's tape: every draw is any number below its bound. -/
namespace OF
open PySem L2
/-- the tape at t, its list at a -/
def TapeAt (H : Hp) (t a : Addr) : Prop := ∃ (ns : List Int) (pos : Nat) (x y b : Int), H t = some (.lst [.ref a, .int (pos : Int), .int x, .int y, .int b]) ∧ H a = some (.lst (ns.map V.int)) ∧ a ≠ t ∧ ns.length ≤ 1000
theorem TapeAt.same {H H' : Hp} {t a : Addr} (s : Same H H') : TapeAt H t a → TapeAt H' t a := fun ⟨ns, pos, x, y, b, h1, h2, h3, h4⟩ => ⟨ns, pos, x, y, b, s _ _ h1, s _ _ h2, h3, h4⟩
theorem TapeAt.wr {H : Hp} {t a : Addr} : TapeAt H t a → ∃ o, H t = some o ∧ Wr o := fun ⟨ns, pos, x, y, b, h1, _⟩ => ⟨_, h1, trivial⟩
theorem TapeAt.imm {H H' : Hp} {t a : Addr} (h : TapeAt H t a) (b : But t H H') : Imm H H' := by
  obtain ⟨o, h1, w⟩ := h.wr
  exact b.imm h1 w
/-- both lists stand -/
theorem TapeAt.there {H : Hp} {t a : Addr} (h : TapeAt H t a) : (∃ o, H t = some o) ∧ ∃ o, H a = some o := by
  obtain ⟨ns, pos, x, y, d, h1, h2, h3, h4⟩ := h
  exact ⟨⟨_, h1⟩, ⟨_, h2⟩⟩
theorem TapeAt.keep {H H' : Hp} {t a : Addr} {S : List Addr} (h : TapeAt H t a) (b : Buts S H H') (n : t ∉ S) (m : a ∉ S) : TapeAt H' t a := by
  obtain ⟨ns, pos, x, y, d, h1, h2, h3, h4⟩ := h
  exact ⟨ns, pos, x, y, d, b _ _ h1 n, b _ _ h2 m, h3, h4⟩
/-- a store into an object that is neither of them -/
theorem TapeAt.upd {H : Hp} {t a d : Addr} {o : HO} (h : TapeAt H t a) (n : d ≠ t) (m : d ≠ a) : TapeAt (L2.upd H d o) t a :=
  h.keep (Buts.upd (S := [d]) (by simp)) (by simpa using n.symm) (by simpa using m.symm)
def spMix : Sp := fun vs H Q _ => ∃ n : Int, vs = [.int n] ∧ ∀ m : Int, Q (.int m) H
def spTape (K : PySem.W.Frag) : Sp := fun vs H Q _ => ∃ (a : Addr) (ns : List Int) (b : Int), vs = [.ref a, .int b] ∧ SqL K H a (ns.map V.int) ∧ ns.length ≤ 1000 ∧ ∀ t a H', Same H H' → H t = none → H a = none → TapeAt H' t a → Q (.ref t) H'
def spTake (K : PySem.W.Frag) : Sp := fun vs H Q _ => ∃ (t a : Addr) (m : Int), vs = [.ref t, .int m] ∧ TapeAt H t a ∧ 0 < m ∧ m < 1000000 ∧ ∀ (r : Int) H', 0 ≤ r → r < m → TapeAt H' t a → But t H H' → Q (.int r) H'
def spGap : Sp := fun vs H Q _ => ∃ t a : Addr, vs = [.ref t] ∧ TapeAt H t a ∧ ∀ z H', Spc (tl z) → z.length ≤ 2 → TapeAt H' t a → But t H H' → Q (.str z) H'
def spSws : Sp := fun vs H Q _ => ∃ t a : Addr, vs = [.ref t] ∧ TapeAt H t a ∧ ∀ v sw H', SwAt H' v sw → SwOk sw → TapeAt H' t a → But t H H' → Q v H'
/-- the law's defs as they stand -/
structure LwT (K : PySem.W.Frag) (mg : Str → Option Value) where
  F : FdT K mg
  mix : Gb K mg "_law_mix" sMix ["_law_number"]
  tape : Gb K mg "_law_tape" sTape ["_law_script", "_law_budget"]
  take : Gb K mg "_law_take" sTake ["_law_tape_here", "_law_many"]
  sws : Gb K mg "_law_switches" sSwitches ["_law_tape_here"]
  gap : Gb K mg "_law_gap" sGap ["_law_tape_here"]
  part : Gb K mg "_law_part" sLPart ["_law_tape_here", "_law_switches_here", "_law_deep"]
  both : Gb K mg "_law_both" sLBoth ["_law_tape_here", "_law_switches_here", "_law_deep"]
  either : Gb K mg "_law_either" sLEither ["_law_tape_here", "_law_switches_here", "_law_deep"]
  formula : Gb K mg "_law_formula" sFormula ["_law_tape_here", "_law_switches_here"]
  all : Gb K mg "_law_all" sAll ["_law_count"]
  tru : Gb K mg "_law_true" sTrue ["_law_switches_here", "_law_formula_here", "_law_configuration"]
  diagram : Gb K mg "_law_diagram" sDiagram ["_law_bits", "_law_i"]
  same : Gb K mg "_law_same" sLSame ["_law_told", "_law_due"]
  body : Gb K mg "_law_body" sBody ["_law_tape_here", "_law_switches_here", "_law_names", "_law_deep", "_law_known"]
  shelf : Gb K mg "_law_shelf" sShelf ["_law_tape_here", "_law_switches_here", "_law_known"]
  closed : Gb K mg "_law_closed" sClosed ["_law_text"]
  reading : Gb K mg "_law_reading" sReading ["_law_shelf_here", "_law_name", "_law_switches_here"]
  present : Gb K mg "_law_present" sPresent ["_law_switches_here", "_law_around", "_law_configuration", "_law_known"]
  mint : mg "int" = none
  mlist : mg "list" = none
  mrange : mg "range" = none
  many : mg "any" = none
  mdict : mg "dict" = none
  mbool : mg "bool" = none
section
variable {P : Program} {w : World} {K : PySem.W.Frag} {mg : Str → Option Value} {base : Heap}
theorem scMix : FnScope ["_law_number"] ["_law_number"] (defScope sMix) := ⟨rfl, rfl, rfl, by decide +kernel, rfl, by decide +kernel, by decide +kernel⟩
theorem ok_mix (T : LwT K mg) : FnOk P w K mg base CX0 1 T.mix.f T.mix.fd ["_law_number"] spMix := by
  refine T.mix.F.ok scMix (fun vs H Q E h => ?_) (fun cdv A outer s H vs Q E hr h => ?_)
  · obtain ⟨n, rfl, _⟩ := h
    rfl
  obtain ⟨n, rfl, k⟩ := h
  refine ⟨_, (pss_cons (ps_set (i := 0) scMix.nd rfl (.inl rfl) (pe_op op_mod (pe_callTy call_int1 (by rfl) T.mint (by decide +kernel) (pa_cons (pe_op op_add (pe_op op_mul (pv 0) pe_int) pe_int) pa_nil)) pe_int))
        (pss_one (ps_ret (pe_op op_mod (pe_callTy call_int1 (by rfl) T.mint (by decide +kernel) (pa_cons (pe_op op_add (pe_op op_fdivW (pe_op op_mul (pv 0) (pv 0)) pe_int) (pe_op op_mul (pv 0) pe_int)) pa_nil)) pe_int)))), ?_⟩
  refine ⟨_, rfl, _, _, rfl, rfl, .inr ⟨by decide, by decide⟩, _, _, rfl, rfl, .inl ⟨_, rfl, _, _, rfl, rfl, (by show (0 : Int) < 18446744073709551616; decide), ?_⟩⟩
  have h0 := Int.emod_nonneg (n * 6364136223846793005 + 1442695040888963407) (show (18446744073709551616 : Int) ≠ 0 by decide)
  have h1 := Int.emod_lt_of_pos (n * 6364136223846793005 + 1442695040888963407) (show (0 : Int) < 18446744073709551616 by decide)
  generalize (n * 6364136223846793005 + 1442695040888963407) % 18446744073709551616 = x at h0 h1 ⊢
  have e64 : (2 : Int) ^ 64 = 18446744073709551616 := by decide
  refine ⟨_, rfl, _, rfl, _, _, rfl, rfl, .inl ⟨by rw [e64]; omega, by rw [e64]; omega⟩, _, _, rfl, rfl, ⟨by decide, by decide +kernel⟩, _, rfl, _, _, rfl, rfl, .inr ⟨by decide, by decide⟩, _, _, rfl, rfl, .inl ⟨_, rfl, _, _, rfl, rfl, (by show (0 : Int) < 18446744073709551557; decide), ?_⟩⟩
  exact k _
theorem scTape : FnScope ["_law_script", "_law_budget"] ["_law_script", "_law_budget"] (defScope sTape) := ⟨rfl, rfl, rfl, by decide +kernel, rfl, by decide +kernel, by decide +kernel⟩
theorem ok_tape (T : LwT K mg) : FnOk P w K mg base CX0 1 T.tape.f T.tape.fd ["_law_script", "_law_budget"] (spTape K) := by
  refine T.tape.F.ok scTape (fun vs H Q E h => ?_) (fun cdv A outer s H vs Q E hr h => ?_)
  · obtain ⟨a, ns, b, rfl, _⟩ := h
    rfl
  obtain ⟨a, ns, b, rfl, hS, hl, k⟩ := h
  refine ⟨_, (pss_one (ps_ret (pe_lst (pa_cons (pe_callTy call_list_of (by rfl) T.mlist (by decide +kernel) (pa_cons (pv 0) pa_nil)) (pa_cons pe_int (pa_cons pe_int (pa_cons pe_int (pa_cons (pv 1) pa_nil)))))))), ?_⟩
  refine ⟨_, rfl, a, _, rfl, .inl hS, fun l hl0 => ?_⟩
  refine ⟨_, rfl, (by show 5 ≤ sizeLine; decide), fun t ht => ?_⟩
  have s1 := same_new (o := .lst (ns.map V.int)) hl0
  have s2 := same_new (o := .lst [.ref l, .int 0, .int 0, .int 1, .int b]) ht
  exact k t l _ (s1.trans s2) (s1.free ht) hl0 ⟨ns, 0, 0, 1, b, upd_same, s2 _ _ upd_same, ne_of_none upd_same ht, hl⟩
theorem scTake : FnScope ["_law_tape_here", "_law_many", "_law_cell", "_law_digit"] ["_law_tape_here", "_law_many"] (defScope sTake) := ⟨rfl, rfl, rfl, by decide +kernel, rfl, by decide +kernel, by decide +kernel⟩
theorem ok_take (T : LwT K mg) : FnOk P w K mg base CX0 2 T.take.f T.take.fd ["_law_tape_here", "_law_many"] (spTake K) := by
  have GM : FnOk P w K mg base CX0 1 T.mix.f T.mix.fd ["_law_number"] spMix := ok_mix T
  refine T.take.F.ok scTake (fun vs H Q E h => ?_) (fun cdv A outer s H vs Q E hr h => ?_)
  · obtain ⟨t, a, m, rfl, _⟩ := h
    rfl
  obtain ⟨t, a, m, rfl, ⟨ns, pos, x, y, b, ht, ha, hat, hns⟩, h0, h1, k⟩ := h
  refine ⟨_, (Evl.pss_cut (ps_if (pt_cmpR op_lt (pe_ix ix_list (pv 0) pe_int (fun _ _ => rfl)) (pv 1) (nomark _)) (pss_one (ps_if (pt_cmpR op_lt (pe_ix ix_list (pv 0) pe_int (fun _ _ => rfl)) (pe_callB call_len_seq (by rfl) T.F.S.ml PySem.boot_len (pa_cons (pe_ix ix_list (pv 0) pe_int (fun _ _ => rfl)) pa_nil)) (nomark _)) (pss_cons (ps_set (i := 2) scTake.nd rfl (.inl rfl) (pe_ix ix_list (pe_ix ix_list (pv 0) pe_int (fun _ _ => rfl)) (pe_ix ix_list (pv 0) pe_int (fun _ _ => rfl)) (fun _ _ => rfl)))
            (pss_cons (ps_set (i := 2) scTake.nd rfl (.inl rfl) (pe_ifExp (pt_cmpR op_ge (pv 2) pe_int (nomark _)) (pe_op op_mul pe_int (pv 2)) (pe_op op_sub (pe_op op_mul (pe_un un_neg pe_int) (pv 2)) pe_int)))
            (pss_cons (ps_asg (pe_op op_add (pe_ix ix_list (pv 0) pe_int (fun _ _ => rfl)) pe_int) (pg_sub (pv 0) pe_int set_list))
            (pss_cons (ps_asg (pcall T.mix GM hr (pa_cons (pe_op op_add (pe_ix ix_list (pv 0) pe_int (fun _ _ => rfl)) (pv 2)) pa_nil)) (pg_sub (pv 0) pe_int set_list))
            (pss_one (ps_asg (pe_ifExp (pt_cmpR op_ge (pv 2) (pe_op op_pow pe_int pe_int) (nomark _)) (pv 2) (pcall T.mix GM hr (pa_cons (pcall T.mix GM hr (pa_cons (pv 2) pa_nil)) pa_nil))) (pg_sub (pv 0) pe_int set_list))))))) (pss_cons (ps_asg (pcall T.mix GM hr (pa_cons (pe_op op_add (pe_ix ix_list (pv 0) pe_int (fun _ _ => rfl)) pe_int) pa_nil)) (pg_sub (pv 0) pe_int set_list))
            (pss_one (ps_asg (pe_ix ix_list (pv 0) pe_int (fun _ _ => rfl)) (pg_sub (pv 0) pe_int set_list)))))) pss_nil)
        (pss_cons (ps_set (i := 3) scTake.nd rfl (.inl rfl) (pe_op op_mod (pe_callTy call_int1 (by rfl) T.mint (by decide +kernel) (pa_cons (pe_ix ix_list (pv 0) pe_int (fun _ _ => rfl)) pa_nil)) (pv 1)))
        (pss_cons (ps_asg (pe_op op_fdivN (pe_ix ix_list (pv 0) pe_int (fun _ _ => rfl)) (pv 1)) (pg_sub (pv 0) pe_int set_list))
        (pss_one (ps_ret (pv 3)))))), ?_⟩
  refine ⟨fun σ H' => ∃ v2, σ = [some (.ref t), some (.int m), v2, none] ∧ ∃ (pos : Nat) (x y : Int), H' t = some (.lst [.ref a, .int (pos : Int), .int x, .int y, .int b]) ∧ But t H H', ?_, ?_⟩
  · refine ⟨_, rfl, t, _, _, _, rfl, rfl, SqL.of ht, at_of (j := 2) rfl rfl, _, rfl, _, _, rfl, rfl, _, rfl, ?_⟩
    refine ite2 (fun c => ?_) (fun c => ?_)
    · refine ⟨_, rfl, t, _, _, _, rfl, rfl, SqL.of ht, at_of (j := 1) rfl rfl, _, rfl, t, _, _, _, rfl, rfl, SqL.of ht, at_of (j := 0) rfl rfl, a, _, rfl, .inl (SqL.of ha), _, _, rfl, rfl, _, rfl, ?_⟩
      rw [List.length_map]
      refine ite2 (fun c2 => ?_) (fun c2 => ?_)
      · have c3 : (pos : Int) < (ns.length : Int) := of_decide_eq_true c2
        have hc : (ns.map V.int)[pos]? = some (.int (ns[pos]'(by omega))) := by
          rw [List.getElem?_map, List.getElem?_eq_getElem (by omega)]
          rfl
        generalize (ns[pos]'(by omega)) = z at hc
        refine ⟨_, rfl, t, _, _, _, rfl, rfl, SqL.of ht, at_of (j := 0) rfl rfl, _, rfl, t, _, _, _, rfl, rfl, SqL.of ht, at_of (j := 1) rfl rfl, a, _, _, _, rfl, rfl, SqL.of ha, at_of (j := pos) rfl hc, ?_⟩
        -- cell = 2 * cell if cell >= 0 else -2 * cell - 1, then the stores
        have rest : ∀ z : Int, tSeq (tAsg (tOp (rI0 fun i j => .int (i + j)) (tOp (rIxL K) (tVar 0) (tC (.int 1))) (tC (.int 1))) (gSub (tVar 0) (tC (.int 1)) rSetL))
            (tSeq (tAsg (tCall spMix [] E0 (tCons (tOp (rI0 fun i j => .int (i + j)) (tOp (rIxL K) (tVar 0) (tC (.int 3))) (tVar 2)) tNil)) (gSub (tVar 0) (tC (.int 3)) rSetL))
            (tAsg (tIf (tTest (tOp (rI0 fun i j => .bl (decide (j ≤ i))) (tVar 2) (tOp (rI CPow fun i j => .int (i ^ j.toNat)) (tC (.int 10)) (tC (.int 18))))) (tVar 2) (tCall spMix [] E0 (tCons (tCall spMix [] E0 (tCons (tVar 2) tNil)) tNil))) (gSub (tVar 0) (tC (.int 2)) rSetL)))
            { nx := fun σ H' => ∃ v2, σ = [some (.ref t), some (.int m), v2, none] ∧ ∃ (pos : Nat) (x y : Int), H' t = some (.lst [.ref a, .int (pos : Int), .int x, .int y, .int b]) ∧ But t H H', rt := Q } [some (.ref t), some (.int m), some (.int z), none] H := by
          intro z
          refine ⟨_, rfl, t, _, _, _, rfl, rfl, SqL.of ht, at_of (j := 1) rfl rfl, _, _, rfl, rfl, ?_⟩
          refine ⟨_, rfl, t, _, _, 1, rfl, rfl, ht, rfl, ?_⟩
          show tSeq _ _ _ _ (upd H t (.lst [.ref a, .int ((pos : Int) + 1), .int x, .int y, .int b]))
          refine ⟨_, rfl, t, _, _, _, rfl, rfl, SqL.of upd_same, at_of (j := 3) rfl rfl, _, rfl, _, _, rfl, rfl, _, rfl, fun m1 => ?_⟩
          refine ⟨_, rfl, t, _, _, 3, rfl, rfl, upd_same, rfl, ?_⟩
          rw [upd_upd]
          have fin : ∀ v : Int, (gSub (tVar 0) (tC (.int 2)) rSetL) (.int v) [some (.ref t), some (.int m), some (.int z), none] (upd H t (.lst [.ref a, .int ((pos : Int) + 1), .int x, .int m1, .int b])) fun σ H' => ∃ v2, σ = [some (.ref t), some (.int m), v2, none] ∧ ∃ (pos : Nat) (x y : Int), H' t = some (.lst [.ref a, .int (pos : Int), .int x, .int y, .int b]) ∧ But t H H' := by
            intro v
            refine ⟨_, rfl, t, _, _, 2, rfl, rfl, upd_same, rfl, ?_⟩
            rw [upd_upd]
            exact ⟨_, rfl, pos + 1, v, m1, upd_same, But.upd⟩
          refine ⟨_, rfl, _, _, rfl, rfl, ⟨by decide, by decide, by decide⟩, _, _, rfl, rfl, _, rfl, ?_⟩
          refine ite2 (fun c4 => ?_) (fun c4 => ?_)
          · exact ⟨_, rfl, fin z⟩
          · exact ⟨_, rfl, _, rfl, fun m2 => ⟨_, rfl, fun m3 => fin m3⟩⟩
        refine ⟨_, rfl, _, _, rfl, rfl, _, rfl, ?_⟩
        refine ite2 (fun c4 => ?_) (fun c4 => ?_)
        · exact ⟨_, rfl, _, _, rfl, rfl, .inl ⟨by decide, by decide⟩, rest _⟩
        · exact ⟨_, rfl, _, rfl, _, _, rfl, rfl, .inl ⟨by decide, by decide⟩, _, _, rfl, rfl, rest _⟩
      · refine ⟨_, rfl, t, _, _, _, rfl, rfl, SqL.of ht, at_of (j := 3) rfl rfl, _, _, rfl, rfl, _, rfl, fun m1 => ?_⟩
        refine ⟨_, rfl, t, _, _, 3, rfl, rfl, ht, rfl, ?_⟩
        refine ⟨_, rfl, t, _, _, _, rfl, rfl, SqL.of upd_same, at_of (j := 3) rfl rfl, ?_⟩
        refine ⟨_, rfl, t, _, _, 2, rfl, rfl, upd_same, rfl, ?_⟩
        rw [upd_upd]
        exact ⟨_, rfl, pos, m1, m1, upd_same, But.upd⟩
    · exact ⟨_, rfl, pos, x, y, ht, But.of (Same.refl H)⟩
  · rintro σ H1 ⟨v2, rfl, pos, x, y, ht1, b1⟩
    refine ⟨_, rfl, t, _, _, _, rfl, rfl, SqL.of ht1, at_of (j := 2) rfl rfl, .inl ⟨_, rfl, _, rfl, _, _, rfl, rfl, h0, ?_⟩⟩
    refine ⟨_, rfl, t, _, _, _, rfl, rfl, SqL.of ht1, at_of (j := 2) rfl rfl, _, rfl, _, _, rfl, rfl, ⟨by omega, by omega⟩, ?_⟩
    refine ⟨_, rfl, t, _, _, 2, rfl, rfl, ht1, rfl, ?_⟩
    refine ⟨_, rfl, ?_⟩
    refine k _ _ (Int.emod_nonneg _ (by omega)) (Int.emod_lt_of_pos _ h0) ⟨ns, pos, x.fdiv m, y, b, upd_same, ?_, hat, hns⟩ (b1.trans But.upd)
    rw [upd_ne hat]
    exact b1 _ _ ha hat
end
end OF

set_option Elab.async false
set_option linter.all false
set_option maxRecDepth 100000
set_option maxHeartbeats 4000000
/-! D2: _law_gap, _law_switches. -/
namespace OF
open PySem L2
theorem int5 {r : Int} (h0 : 0 ≤ r) (h1 : r < 5) : r = 0 ∨ r = 1 ∨ r = 2 ∨ r = 3 ∨ r = 4 := by omega
theorem int3 {r : Int} (h0 : 0 ≤ r) (h1 : r < 3) : r = 0 ∨ r = 1 ∨ r = 2 := by omega
theorem spc0 : Spc (tl ("" : Str)) := by
  have e : tl ("" : Str) = [] := by decide +kernel
  rw [e]
  intro c h
  simp at h
theorem spc1 : Spc (tl (" " : Str)) := by
  have e : tl (" " : Str) = [32] := by decide +kernel
  rw [e]
  intro c h
  simpa using h
theorem spc2 : Spc (tl ("  " : Str)) := by
  have e : tl ("  " : Str) = [32, 32] := by decide +kernel
  rw [e]
  intro c h
  simpa using h
/-- a pool of names -/
def poolB (l : List Str) : Bool := (l.all fun x => !(tl x).isEmpty && (tl x).all (fun c => decide (97 ≤ c ∧ c ≤ 122)) && decide (x.length ≤ 6)) && decide l.Nodup && decide (l.length = 5)
theorem pool1 : poolB ["a", "b", "c", "d", "e"] = true := by decide +kernel
theorem pool2 : poolB ["aa", "ab", "b", "ba", "zz"] = true := by decide +kernel
theorem pool3 : poolB ["big", "debug", "posix", "win", "x"] = true := by decide +kernel
theorem poolB.ok {l m : List Str} (h : poolB l = true) (s : m.Sublist l) (ne : m ≠ []) : SwOk m := by
  unfold poolB at h
  simp only [Bool.and_eq_true, List.all_eq_true, decide_eq_true_eq, Bool.not_eq_true', List.isEmpty_eq_false_iff] at h
  obtain ⟨⟨h1, h2⟩, h3⟩ := h
  refine ⟨h2.sublist s, ⟨List.length_pos_iff.mpr ne, by have := s.length_le; omega⟩, fun x hx => ?_⟩
  obtain ⟨⟨a, b⟩, c⟩ := h1 x (s.subset hx)
  exact ⟨a, fun c hc => b c hc, c⟩
section
variable {P : Program} {w : World} {K : PySem.W.Frag} {mg : Str → Option Value} {base : Heap}
theorem scGap : FnScope ["_law_tape_here"] ["_law_tape_here"] (defScope sGap) := ⟨rfl, rfl, rfl, by decide +kernel, rfl, by decide +kernel, by decide +kernel⟩
theorem ok_gap (T : LwT K mg) : FnOk P w K mg base CX0 3 T.gap.f T.gap.fd ["_law_tape_here"] spGap := by
  have GT : FnOk P w K mg base CX0 2 T.take.f T.take.fd ["_law_tape_here", "_law_many"] (spTake K) := ok_take T
  refine T.gap.F.ok scGap (fun vs H Q E h => ?_) (fun cdv A outer s H vs Q E hr h => ?_)
  · obtain ⟨t, a, rfl, _⟩ := h
    rfl
  obtain ⟨t, a, rfl, tp, k⟩ := h
  refine ⟨_, (pss_one (ps_ret (pe_ix ix_list (pe_lst (pa_cons pe_str (pa_cons pe_str (pa_cons pe_str (pa_cons pe_str (pa_cons pe_str pa_nil)))))) (pcall T.take GT hr (pa_cons (pv 0) (pa_cons pe_int pa_nil))) (fun _ _ => rfl)))), ?_⟩
  refine ⟨(by show 5 ≤ sizeLine; decide), fun p hp => ?_⟩
  have sp := same_new (o := .lst [.str "", .str "", .str "", .str " ", .str "  "]) hp
  refine ⟨_, rfl, t, a, 5, rfl, tp.same sp, by decide, by decide, fun r H1 r0 r1 tp1 b1 => ?_⟩
  have hpt : p ≠ t := by
    obtain ⟨⟨o, h⟩, _⟩ := tp.there
    exact (ne_of_none h hp).symm
  have hp1 : H1 p = some (.lst [.str "", .str "", .str "", .str " ", .str "  "]) := b1 _ _ upd_same hpt
  have bb : But t H H1 := (But.of sp).trans b1
  rcases int5 r0 r1 with rfl | rfl | rfl | rfl | rfl
  · exact ⟨p, _, _, _, rfl, rfl, SqL.of hp1, at_of (j := 0) rfl rfl, k _ _ spc0 (by decide +kernel) tp1 bb⟩
  · exact ⟨p, _, _, _, rfl, rfl, SqL.of hp1, at_of (j := 1) rfl rfl, k _ _ spc0 (by decide +kernel) tp1 bb⟩
  · exact ⟨p, _, _, _, rfl, rfl, SqL.of hp1, at_of (j := 2) rfl rfl, k _ _ spc0 (by decide +kernel) tp1 bb⟩
  · exact ⟨p, _, _, _, rfl, rfl, SqL.of hp1, at_of (j := 3) rfl rfl, k _ _ spc1 (by decide +kernel) tp1 bb⟩
  · exact ⟨p, _, _, _, rfl, rfl, SqL.of hp1, at_of (j := 4) rfl rfl, k _ _ spc2 (by decide +kernel) tp1 bb⟩
theorem scSws : FnScope ["_law_tape_here", "_law_pool", "_law_kept", "_law_name"] ["_law_tape_here"] (defScope sSwitches) := ⟨rfl, rfl, rfl, by decide +kernel, rfl, by decide +kernel, by decide +kernel⟩
theorem ok_sws (T : LwT K mg) : FnOk P w K mg base CX0 3 T.sws.f T.sws.fd ["_law_tape_here"] spSws := by
  have GT : FnOk P w K mg base CX0 2 T.take.f T.take.fd ["_law_tape_here", "_law_many"] (spTake K) := ok_take T
  refine T.sws.F.ok scSws (fun vs H Q E h => ?_) (fun cdv A outer s H vs Q E hr h => ?_)
  · obtain ⟨t, a, rfl, _⟩ := h
    rfl
  obtain ⟨t, a, rfl, tp, k⟩ := h
  refine ⟨_, (Evl.pss_cut (ps_set (i := 1) scSws.nd rfl (.inl rfl) (pe_ix ix_list (pe_lst (pa_cons (pe_lst (pa_cons pe_str (pa_cons pe_str (pa_cons pe_str (pa_cons pe_str (pa_cons pe_str pa_nil)))))) (pa_cons (pe_lst (pa_cons pe_str (pa_cons pe_str (pa_cons pe_str (pa_cons pe_str (pa_cons pe_str pa_nil)))))) (pa_cons (pe_lst (pa_cons pe_str (pa_cons pe_str (pa_cons pe_str (pa_cons pe_str (pa_cons pe_str pa_nil)))))) pa_nil)))) (pcall T.take GT hr (pa_cons (pv 0) (pa_cons pe_int pa_nil))) (fun _ _ => rfl)))
        (pss_cons (ps_setLc (i := 2) (own := [("_law_name", 3)]) (g := gName 3) (tt := tTest (tOp rEq (tCall (spTake K) [] E0 (tCons (tVar 0) (tCons (tC (.int 2)) tNil))) (tC (.int 0)))) (te := tVar 3) rfl scSws.nd rfl rfl (sw_true rfl rfl rfl (by decide +kernel)) (pi_list (pv 1)) (blkOk_by (N := ["_law_tape_here", "_law_pool", "_law_kept", "_law_name"]) (sc := defScope sSwitches) (by decide +kernel)) (fun _ _ _ _ _ => pg_name (i := 3) scSws.nd rfl (.inl rfl)) (fun _ _ _ _ _ => pts_one (pt_cmpR op_eq (pcall T.take GT hr (pa_cons (pv 0) (pa_cons pe_int pa_nil))) pe_int (nomark _))) (fun _ _ _ _ _ => pv 3))
        (pss_one (ps_ret (pe_ifExp (pt_cmpR op_gt (pe_callB call_len_seq (by rfl) T.F.S.ml PySem.boot_len (pa_cons (pv 2) pa_nil)) pe_int (nomark _)) (pe_callTy call_tupleF (by rfl) T.F.D.mt (by decide +kernel) (pa_cons (pv 2) pa_nil)) (pe_tupF (pa_cons (pe_ix ix_list (pv 1) pe_int (fun _ _ => rfl)) pa_nil))))))), ?_⟩
  refine ⟨fun (σ : L2.St) (H' : Hp) => ∃ (pp : Addr) (L : List Str), σ = [some (.ref t), some (.ref pp), none, none] ∧ poolB L = true ∧ H' pp = some (.lst (L.map V.str)) ∧ pp ≠ t ∧ TapeAt H' t a ∧ But t H H', ?_, ?_⟩
  · refine ⟨(by show 5 ≤ sizeLine; decide), fun p1 hp1 => ?_⟩
    refine ⟨(by show 5 ≤ sizeLine; decide), fun p2 hp2 => ?_⟩
    refine ⟨(by show 5 ≤ sizeLine; decide), fun p3 hp3 => ?_⟩
    refine ⟨(by show 3 ≤ sizeLine; decide), fun p4 hp4 => ?_⟩
    have s1 := same_new (o := .lst ((["a", "b", "c", "d", "e"] : List Str).map V.str)) hp1
    have s2 := same_new (o := .lst ((["aa", "ab", "b", "ba", "zz"] : List Str).map V.str)) hp2
    have s3 := same_new (o := .lst ((["big", "debug", "posix", "win", "x"] : List Str).map V.str)) hp3
    have s4 := same_new (o := .lst [.ref p1, .ref p2, .ref p3]) hp4
    have s14 : Same H _ := ((s1.trans s2).trans s3).trans s4
    obtain ⟨⟨ot, hot⟩, ⟨oa, hoa⟩⟩ := tp.there
    have n1 : p1 ≠ t := (ne_of_none hot hp1).symm
    have n2 : p2 ≠ t := (ne_of_none (s1 _ _ hot) hp2).symm
    have n3 : p3 ≠ t := (ne_of_none (s2 _ _ (s1 _ _ hot)) hp3).symm
    have n4 : p4 ≠ t := (ne_of_none (s3 _ _ (s2 _ _ (s1 _ _ hot))) hp4).symm
    refine ⟨_, rfl, t, a, 3, rfl, tp.same s14, by decide, by decide, fun r H5 r0 r1 tp5 b5 => ?_⟩
    have g1 : H5 p1 = some (.lst ((["a", "b", "c", "d", "e"] : List Str).map V.str)) := b5 _ _ (s4 _ _ (s3 _ _ (s2 _ _ upd_same))) n1
    have g2 : H5 p2 = some (.lst ((["aa", "ab", "b", "ba", "zz"] : List Str).map V.str)) := b5 _ _ (s4 _ _ (s3 _ _ upd_same)) n2
    have g3 : H5 p3 = some (.lst ((["big", "debug", "posix", "win", "x"] : List Str).map V.str)) := b5 _ _ (s4 _ _ upd_same) n3
    have g4 : H5 p4 = some (.lst [.ref p1, .ref p2, .ref p3]) := b5 _ _ upd_same n4
    have bb : But t H H5 := (But.of s14).trans b5
    have at' : ∀ (pp : Addr) (L : List Str), poolB L = true → H5 pp = some (.lst (L.map V.str)) → pp ≠ t → (fun (σ : L2.St) (H' : Hp) => ∃ (pp : Addr) (L : List Str), σ = [some (.ref t), some (.ref pp), none, none] ∧ poolB L = true ∧ H' pp = some (.lst (L.map V.str)) ∧ pp ≠ t ∧ TapeAt H' t a ∧ But t H H') [some (.ref t), some (.ref pp), none, none] H5 :=
      fun pp L h1 h2 h3 => ⟨pp, L, rfl, h1, h2, h3, tp5, bb⟩
    rcases int3 r0 r1 with rfl | rfl | rfl
    · exact ⟨p4, _, _, _, rfl, rfl, SqL.of g4, at_of (j := 0) rfl rfl, at' p1 _ pool1 g1 n1⟩
    · exact ⟨p4, _, _, _, rfl, rfl, SqL.of g4, at_of (j := 1) rfl rfl, at' p2 _ pool2 g2 n2⟩
    · exact ⟨p4, _, _, _, rfl, rfl, SqL.of g4, at_of (j := 2) rfl rfl, at' p3 _ pool3 g3 n3⟩
  rintro σ H1 ⟨pp, L, rfl, hL, hpp, npt, tp1, b1⟩
  have hL5 : L.length = 5 := by
    unfold poolB at hL
    simp only [Bool.and_eq_true, decide_eq_true_eq] at hL
    exact hL.2
  -- the names that are kept
  refine ⟨_, rfl, pp, rfl, ⟨_, SqL.of hpp⟩, fun D hD => ?_⟩
  have hDt : D ≠ t := by
    obtain ⟨⟨o, h⟩, _⟩ := tp1.there
    exact (ne_of_none h hD).symm
  have hDa : D ≠ a := by
    obtain ⟨_, ⟨o, h⟩⟩ := tp1.there
    exact (ne_of_none h hD).symm
  have hDp : D ≠ pp := (ne_of_none hpp hD).symm
  refine lc_list (K := K) (a := pp) (xs := L.map V.str) (fun i H' => ∃ out : List Str, H' D = some (.lst (out.map V.str)) ∧ out.Sublist (L.take i) ∧ TapeAt H' t a ∧ But t H1 H')
    ⟨[], upd_same, by rw [List.take_zero]; exact .slnil, tp1.same (same_new hD), But.of (same_new hD)⟩ (fun i H' _ ⟨_, _, _, _, b⟩ => SqL.of (b _ _ hpp npt)) ?_ ?_
  · rintro i v H2 hi ⟨out, hout, hsub, tp2, b2⟩
    rw [List.getElem?_map] at hi
    obtain ⟨x, hx, rfl⟩ := Option.map_eq_some_iff.mp hi
    have et : L.take (i + 1) = L.take i ++ [x] := by
      rw [List.take_add_one, hx]
      rfl
    have hi5 : i < L.length := (List.getElem?_eq_some_iff.mp hx).1
    have hol := hsub.length_le
    rw [List.length_take] at hol
    refine ⟨rfl, _, rfl, t, a, 2, rfl, tp2, by decide, by decide, fun r H3 r0 r1 tp3 b3 => ⟨rfl, _, rfl, ?_⟩⟩
    have hout3 := b3 _ _ hout hDt
    refine ite2 (fun c => ?_) (fun c => ?_)
    · refine ⟨_, rfl, _, hout3, ?_, out ++ [x], ?_, ?_, tp3.upd hDt hDa, ?_⟩
      · rw [List.length_map]
        exact small1000 (by omega)
      · rw [upd_same, List.map_append]
        rfl
      · rw [et]
        exact hsub.append (List.Sublist.refl _)
      · intro b o e n
        have nD : b ≠ D := ne_of_none e hD
        rw [upd_ne nD]
        exact b3 _ _ (b2 _ _ e n) n
    · refine ⟨out, hout3, ?_, tp3, b2.trans b3⟩
      rw [et]
      exact List.Sublist.trans hsub (List.sublist_append_left _ _)
  · rintro H2 ⟨out, hout, hsub, tp2, b2⟩
    rw [List.length_map, List.take_length] at hsub
    have bH : But t H H2 := b1.trans b2
    refine ⟨_, rfl, D, _, rfl, .inl (SqL.of hout), _, _, rfl, rfl, _, rfl, ?_⟩
    rw [List.length_map]
    refine ite2 (fun c => ?_) (fun c => ?_)
    · have c' : (0 : Int) < (out.length : Int) := of_decide_eq_true c
      refine ⟨_, rfl, D, _, rfl, SqL.of hout, fun l hl o ho => ?_⟩
      have sl := same_new (o := .frz o (.tup (out.map V.str))) hl
      exact k _ out _ ⟨l, rfl, o, ho, upd_same⟩ (poolB.ok hL hsub (fun z => by rw [z] at c'; simp at c')) (tp2.same sl) (bH.trans (But.of sl))
    · have hp2 : H2 pp = some (.lst (L.map V.str)) := b2 _ _ hpp npt
      obtain ⟨x, r, eL⟩ : ∃ x r, L = x :: r := by
        cases L with
        | nil => simp at hL5
        | cons x r => exact ⟨x, r, rfl⟩
      refine ⟨_, rfl, pp, _, _, .str x, rfl, rfl, SqL.of hp2, at_of (j := 0) rfl (by rw [eL]; rfl), (by show 1 ≤ sizeLine; decide), fun l hl o ho => ?_⟩
      have sl := same_new (o := .frz o (.tup [.str x])) hl
      exact k _ [x] _ ⟨l, rfl, o, ho, upd_same⟩ (poolB.ok hL (by rw [eL]; exact List.Sublist.cons_cons x (List.nil_sublist r)) (by simp)) (tp2.same sl) (bH.trans (But.of sl))
end
end OF

set_option Elab.async false
set_option linter.all false
set_option maxRecDepth 100000
set_option maxHeartbeats 4000000
/-! D3: _law_part, _law_both, _law_either, _law_formula. -/
namespace OF
open PySem L2
/-- how long a part is at most -/
def LP : Nat → Nat
  | 0 => 6
  | n + 1 => 9 * LP n + 46
theorem LP_pos (n : Nat) : 6 ≤ LP n := by
  cases n <;> simp only [LP] <;> omega
/-- a formula with its text, in a tuple -/
def FtAt (H : Hp) (v : V) (f : Fo) (s : Str) : Prop := ∃ p vf, v = .ref p ∧ H p = some (.tup [vf, .str s]) ∧ FAt H vf f
def spLPart (n : Nat) : Sp := fun vs H Q _ => ∃ (t a : Addr) (vsw : V) (d : Int) (sw : List Str), vs = [.ref t, vsw, .int d] ∧ TapeAt H t a ∧ SwAt H vsw sw ∧ SwOk sw ∧ d.toNat < n ∧ n ≤ 3 ∧
  ∀ v f s H', FtAt H' v f s → PrP sw n f (tl s) → s.length ≤ LP n → TapeAt H' t a → But t H H' → Q v H'
def spLBoth (n : Nat) : Sp := fun vs H Q _ => ∃ (t a : Addr) (vsw : V) (d : Int) (sw : List Str), vs = [.ref t, vsw, .int d] ∧ TapeAt H t a ∧ SwAt H vsw sw ∧ SwOk sw ∧ d.toNat < n ∧ n ≤ 3 ∧
  ∀ v f s H', FtAt H' v f s → PrB sw n f (tl s) → s.length ≤ 3 * LP n + 10 → TapeAt H' t a → But t H H' → Q v H'
def spLEither (n : Nat) : Sp := fun vs H Q _ => ∃ (t a : Addr) (vsw : V) (d : Int) (sw : List Str), vs = [.ref t, vsw, .int d] ∧ TapeAt H t a ∧ SwAt H vsw sw ∧ SwOk sw ∧ d.toNat < n ∧ n ≤ 3 ∧
  ∀ v f s H', FtAt H' v f s → PrE sw n f (tl s) → s.length ≤ 9 * LP n + 40 → TapeAt H' t a → But t H H' → Q v H'
def spFormula : Sp := fun vs H Q _ => ∃ (t a : Addr) (vsw : V) (sw : List Str), vs = [.ref t, vsw] ∧ TapeAt H t a ∧ SwAt H vsw sw ∧ SwOk sw ∧
  ∀ v f s H', FtAt H' v f s → PrE sw 3 f (tl s) → s.length ≤ 60 → TapeAt H' t a → But t H H' → Q v H'
theorem LP_le {n : Nat} (h : n ≤ 3) : LP n ≤ 10000 := by
  match n, h with
  | 0, _ => decide
  | 1, _ => decide
  | 2, _ => decide
  | 3, _ => decide
theorem szs {n : Nat} (h : n ≤ 100000) : n ≤ sizeLine := Nat.le_trans h (by decide)
theorem len_app (x y : Str) : (x ++ y).length = x.length + y.length := by
  rw [len_tl, tl_app, List.length_append, ← len_tl, ← len_tl]
theorem tl_1 : tl ("1" : Str) = [49] := by decide +kernel
theorem tl_0 : tl ("0" : Str) = [48] := by decide +kernel
theorem tl_bang : tl ("!" : Str) = [33] := by decide +kernel
theorem tl_open : tl ("(" : Str) = [40] := by decide +kernel
theorem tl_close : tl (")" : Str) = [41] := by decide +kernel
theorem tl_amp : tl ("&" : Str) = [38] := by decide +kernel
theorem tl_bar : tl ("|" : Str) = [124] := by decide +kernel
theorem l1_amp : ("&" : Str).length = 1 := by decide +kernel
theorem l1_bar : ("|" : Str).length = 1 := by decide +kernel
theorem l1_bang : ("!" : Str).length = 1 := by decide +kernel
theorem l1_open : ("(" : Str).length = 1 := by decide +kernel
theorem l1_close : (")" : Str).length = 1 := by decide +kernel
section
variable {P : Program} {w : World} {K : PySem.W.Frag} {mg : Str → Option Value} {base : Heap}
theorem scLBoth : FnScope ["_law_tape_here", "_law_switches_here", "_law_deep", "_law_formula_here", "_law_text", "_law_k", "_law_other", "_law_more"] ["_law_tape_here", "_law_switches_here", "_law_deep"] (defScope sLBoth) := ⟨rfl, rfl, rfl, by decide +kernel, rfl, by decide +kernel, by decide +kernel⟩
theorem ok_lboth (T : LwT K mg) {n m : Nat} (hm : 3 ≤ m) (GP : FnOk P w K mg base CX0 m T.part.f T.part.fd ["_law_tape_here", "_law_switches_here", "_law_deep"] (spLPart n)) :
    FnOk P w K mg base CX0 (m + 1) T.both.f T.both.fd ["_law_tape_here", "_law_switches_here", "_law_deep"] (spLBoth n) := by
  have GT : FnOk P w K mg base CX0 2 T.take.f T.take.fd ["_law_tape_here", "_law_many"] (spTake K) := ok_take T
  have GG : FnOk P w K mg base CX0 3 T.gap.f T.gap.fd ["_law_tape_here"] spGap := ok_gap T
  refine T.both.F.ok scLBoth (fun vs H Q E h => ?_) (fun cdv A outer s H vs Q E hr h => ?_)
  · obtain ⟨t, a, vsw, d, sw, rfl, _⟩ := h
    rfl
  obtain ⟨t, a, vsw, d, sw, rfl, tp, hsw, ok, hd, hn, k⟩ := h
  have hr2 : Room 2 _ := hr.mono (by omega)
  have hr3 : Room 3 _ := hr.mono (by omega)
  have lp := LP_le hn
  refine ⟨_, (pss_cons (ps_asg (pcall T.part GP hr (pa_cons (pv 0) (pa_cons (pv 1) (pa_cons (pv 2) pa_nil)))) (pg_tup rfl (pgs_cons (pg_name (i := 3) scLBoth.nd rfl (.inl rfl)) (pgs_cons (pg_name (i := 4) scLBoth.nd rfl (.inl rfl)) pgs_nil))))
        (pss_cons (ps_for PassesOwn.never rfl (pi_range1 rfl T.mrange (pa_cons (pcall T.take GT hr2 (pa_cons (pv 0) (pa_cons pe_int pa_nil))) pa_nil)) (pg_name (i := 5) scLBoth.nd rfl (.inl rfl)) (pss_cons (ps_asg (pcall T.part GP hr (pa_cons (pv 0) (pa_cons (pv 1) (pa_cons (pe_op op_sub (pv 2) pe_int) pa_nil)))) (pg_tup rfl (pgs_cons (pg_name (i := 6) scLBoth.nd rfl (.inl rfl)) (pgs_cons (pg_name (i := 7) scLBoth.nd rfl (.inl rfl)) pgs_nil))))
          (pss_cons (ps_set (i := 3) scLBoth.nd rfl (.inl rfl) (pe_tup (pa_cons pe_str (pa_cons (pv 3) (pa_cons (pv 6) pa_nil)))))
          (pss_one (ps_set (i := 4) scLBoth.nd rfl (.inl rfl) (pe_op op_add_str (pe_op op_add_str (pe_op op_add_str (pe_op op_add_str (pv 4) (pcall T.gap GG hr3 (pa_cons (pv 0) pa_nil))) pe_str) (pcall T.gap GG hr3 (pa_cons (pv 0) pa_nil))) (pv 7)))))))
        (pss_one (ps_ret (pe_tup (pa_cons (pv 3) (pa_cons (pv 4) pa_nil))))))), ?_⟩
  refine ⟨_, rfl, _, rfl, _, rfl, t, a, vsw, d, sw, rfl, tp, hsw, ok, hd, hn, fun v f s1 H1 ⟨p1, vf1, e1, h1, f1⟩ pr1 l1 tp1 b1 => ?_⟩
  subst e1
  refine ⟨p1, _, rfl, .inl (.inl h1), rfl, _, [_], rfl, _, [], rfl, rfl, ?_⟩
  refine ⟨_, rfl, t, a, 3, rfl, tp1, by decide, by decide, fun r H2 r0 r3 tp2 b2 => ?_⟩
  refine ⟨r, rfl, by omega, by omega, for_range (lo := 0) (n := r.toNat) (fun i σ H' => ∃ vf f s v5 v6 v7, σ = [some (.ref t), some vsw, some (.int d), some vf, some (.str s), v5, v6, v7] ∧ FAt H' vf f ∧ PrB sw n f (tl s) ∧ s.length ≤ LP n * (i + 1) + 5 * i ∧ TapeAt H' t a ∧ But t H H')
    ⟨vf1, f, s1, none, none, none, rfl, f1.imm (tp1.imm b2), .one pr1, by omega, tp2, b1.trans b2⟩ ?_ ?_⟩
  · rintro i σ H3 hi ⟨vf, f, s1, v5, v6, v7, rfl, hf, pr, le, tp3, b3⟩
    have i2 : i < 2 := by omega
    refine ⟨_, rfl, _, rfl, _, rfl, _, _, rfl, rfl, t, a, vsw, d - 1, sw, rfl, tp3, hsw.imm (tp.imm b3), ok, by omega, hn, fun v g s2 H4 ⟨p4, vg, e4, h4, f4⟩ pr4 l4 tp4 b4 => ?_⟩
    subst e4
    refine ⟨p4, _, rfl, .inl (.inl h4), rfl, _, [_], rfl, _, [], rfl, rfl, ?_⟩
    have hf4 : FAt H4 vf f := hf.imm (tp3.imm b4)
    refine ⟨_, rfl, _, rfl, (by show 3 ≤ sizeLine; decide), fun q hq => ?_⟩
    have sq := same_new (o := .tup [.str "and", vf, vg]) hq
    have tp5 := tp4.same sq
    have ll : s1.length ≤ 20010 := by
      have : LP n * (i + 1) ≤ 10000 * 2 := Nat.mul_le_mul lp (by omega)
      omega
    refine ⟨_, rfl, _, rfl, t, a, rfl, tp5, fun z1 H6 sp1 lz1 tp6 b6 => ?_⟩
    refine ⟨_, _, rfl, rfl, szs (by omega), _, _, rfl, rfl, szs (by rw [len_app, l1_amp]; omega), _, rfl, t, a, rfl, tp6, fun z2 H7 sp2 lz2 tp7 b7 => ?_⟩
    refine ⟨_, _, rfl, rfl, szs (by rw [len_app, len_app, l1_amp]; omega), _, rfl, _, _, rfl, rfl, szs (by rw [len_app, len_app, len_app, l1_amp]; omega), ?_⟩
    have i57 : Imm (upd H4 q (.tup [.str "and", vf, vg])) H7 := (tp5.imm b6).trans (tp6.imm b7)
    refine ⟨.ref q, .and f g, _, _, _, _, rfl, ⟨q, vf, vg, rfl, i57.1 _ _ upd_same, (hf4.same sq).imm i57, (f4.same sq).imm i57⟩, ?_, ?_, tp7, (((b3.trans b4).trans (But.of sq)).trans b6).trans b7⟩
    · have := Chain.more (op := .and) (ch := 38) pr sp1 sp2 pr4
      rw [tl_app, tl_app, tl_app, tl_app, tl_amp]
      simpa using this
    · rw [len_app, len_app, len_app, len_app, l1_amp]
      have e : LP n * (i + 1 + 1) = LP n * (i + 1) + LP n := Nat.mul_succ _ _
      omega
  · rintro σ H3 ⟨vf, f, s1, v5, v6, v7, rfl, hf, pr, le, tp3, b3⟩
    refine ⟨_, rfl, _, rfl, (by show 2 ≤ sizeLine; decide), fun q hq => ?_⟩
    have sq := same_new (o := .tup [vf, .str s1]) hq
    refine k _ f s1 _ ⟨q, vf, rfl, upd_same, hf.same sq⟩ pr ?_ (tp3.same sq) (b3.trans (But.of sq))
    have e : LP n * (r.toNat + 1) ≤ LP n * 3 := Nat.mul_le_mul_left _ (by omega)
    omega
theorem scLEither : FnScope ["_law_tape_here", "_law_switches_here", "_law_deep", "_law_formula_here", "_law_text", "_law_k", "_law_other", "_law_more"] ["_law_tape_here", "_law_switches_here", "_law_deep"] (defScope sLEither) := ⟨rfl, rfl, rfl, by decide +kernel, rfl, by decide +kernel, by decide +kernel⟩
theorem ok_leither (T : LwT K mg) {n m : Nat} (hm : 3 ≤ m) (GB : FnOk P w K mg base CX0 m T.both.f T.both.fd ["_law_tape_here", "_law_switches_here", "_law_deep"] (spLBoth n)) :
    FnOk P w K mg base CX0 (m + 1) T.either.f T.either.fd ["_law_tape_here", "_law_switches_here", "_law_deep"] (spLEither n) := by
  have GT : FnOk P w K mg base CX0 2 T.take.f T.take.fd ["_law_tape_here", "_law_many"] (spTake K) := ok_take T
  have GG : FnOk P w K mg base CX0 3 T.gap.f T.gap.fd ["_law_tape_here"] spGap := ok_gap T
  refine T.either.F.ok scLEither (fun vs H Q E h => ?_) (fun cdv A outer s H vs Q E hr h => ?_)
  · obtain ⟨t, a, vsw, d, sw, rfl, _⟩ := h
    rfl
  obtain ⟨t, a, vsw, d, sw, rfl, tp, hsw, ok, hd, hn, k⟩ := h
  have hr2 : Room 2 _ := hr.mono (by omega)
  have hr3 : Room 3 _ := hr.mono (by omega)
  have lp := LP_le hn
  refine ⟨_, (pss_cons (ps_asg (pcall T.both GB hr (pa_cons (pv 0) (pa_cons (pv 1) (pa_cons (pv 2) pa_nil)))) (pg_tup rfl (pgs_cons (pg_name (i := 3) scLEither.nd rfl (.inl rfl)) (pgs_cons (pg_name (i := 4) scLEither.nd rfl (.inl rfl)) pgs_nil))))
        (pss_cons (ps_for PassesOwn.never rfl (pi_range1 rfl T.mrange (pa_cons (pcall T.take GT hr2 (pa_cons (pv 0) (pa_cons pe_int pa_nil))) pa_nil)) (pg_name (i := 5) scLEither.nd rfl (.inl rfl)) (pss_cons (ps_asg (pcall T.both GB hr (pa_cons (pv 0) (pa_cons (pv 1) (pa_cons (pe_op op_sub (pv 2) pe_int) pa_nil)))) (pg_tup rfl (pgs_cons (pg_name (i := 6) scLEither.nd rfl (.inl rfl)) (pgs_cons (pg_name (i := 7) scLEither.nd rfl (.inl rfl)) pgs_nil))))
          (pss_cons (ps_set (i := 3) scLEither.nd rfl (.inl rfl) (pe_tup (pa_cons pe_str (pa_cons (pv 3) (pa_cons (pv 6) pa_nil)))))
          (pss_one (ps_set (i := 4) scLEither.nd rfl (.inl rfl) (pe_op op_add_str (pe_op op_add_str (pe_op op_add_str (pe_op op_add_str (pv 4) (pcall T.gap GG hr3 (pa_cons (pv 0) pa_nil))) pe_str) (pcall T.gap GG hr3 (pa_cons (pv 0) pa_nil))) (pv 7)))))))
        (pss_one (ps_ret (pe_tup (pa_cons (pv 3) (pa_cons (pv 4) pa_nil))))))), ?_⟩
  refine ⟨_, rfl, _, rfl, _, rfl, t, a, vsw, d, sw, rfl, tp, hsw, ok, hd, hn, fun v f s1 H1 ⟨p1, vf1, e1, h1, f1⟩ pr1 l1 tp1 b1 => ?_⟩
  subst e1
  refine ⟨p1, _, rfl, .inl (.inl h1), rfl, _, [_], rfl, _, [], rfl, rfl, ?_⟩
  refine ⟨_, rfl, t, a, 3, rfl, tp1, by decide, by decide, fun r H2 r0 r3 tp2 b2 => ?_⟩
  refine ⟨r, rfl, by omega, by omega, for_range (lo := 0) (n := r.toNat) (fun i σ H' => ∃ vf f s v5 v6 v7, σ = [some (.ref t), some vsw, some (.int d), some vf, some (.str s), v5, v6, v7] ∧ FAt H' vf f ∧ PrE sw n f (tl s) ∧ s.length ≤ (3 * LP n + 10) * (i + 1) + 5 * i ∧ TapeAt H' t a ∧ But t H H')
    ⟨vf1, f, s1, none, none, none, rfl, f1.imm (tp1.imm b2), .one pr1, by omega, tp2, b1.trans b2⟩ ?_ ?_⟩
  · rintro i σ H3 hi ⟨vf, f, s1, v5, v6, v7, rfl, hf, pr, le, tp3, b3⟩
    have i2 : i < 2 := by omega
    refine ⟨_, rfl, _, rfl, _, rfl, _, _, rfl, rfl, t, a, vsw, d - 1, sw, rfl, tp3, hsw.imm (tp.imm b3), ok, by omega, hn, fun v g s2 H4 ⟨p4, vg, e4, h4, f4⟩ pr4 l4 tp4 b4 => ?_⟩
    subst e4
    refine ⟨p4, _, rfl, .inl (.inl h4), rfl, _, [_], rfl, _, [], rfl, rfl, ?_⟩
    have hf4 : FAt H4 vf f := hf.imm (tp3.imm b4)
    refine ⟨_, rfl, _, rfl, (by show 3 ≤ sizeLine; decide), fun q hq => ?_⟩
    have sq := same_new (o := .tup [.str "or", vf, vg]) hq
    have tp5 := tp4.same sq
    have ll : s1.length ≤ 60030 := by
      have : (3 * LP n + 10) * (i + 1) ≤ 30010 * 2 := Nat.mul_le_mul (by omega) (by omega)
      omega
    refine ⟨_, rfl, _, rfl, t, a, rfl, tp5, fun z1 H6 sp1 lz1 tp6 b6 => ?_⟩
    refine ⟨_, _, rfl, rfl, szs (by omega), _, _, rfl, rfl, szs (by rw [len_app, l1_bar]; omega), _, rfl, t, a, rfl, tp6, fun z2 H7 sp2 lz2 tp7 b7 => ?_⟩
    refine ⟨_, _, rfl, rfl, szs (by rw [len_app, len_app, l1_bar]; omega), _, rfl, _, _, rfl, rfl, szs (by rw [len_app, len_app, len_app, l1_bar]; omega), ?_⟩
    have i57 : Imm (upd H4 q (.tup [.str "or", vf, vg])) H7 := (tp5.imm b6).trans (tp6.imm b7)
    refine ⟨.ref q, .or f g, _, _, _, _, rfl, ⟨q, vf, vg, rfl, i57.1 _ _ upd_same, (hf4.same sq).imm i57, (f4.same sq).imm i57⟩, ?_, ?_, tp7, (((b3.trans b4).trans (But.of sq)).trans b6).trans b7⟩
    · have := Chain.more (op := .or) (ch := 124) pr sp1 sp2 pr4
      rw [tl_app, tl_app, tl_app, tl_app, tl_bar]
      simpa using this
    · rw [len_app, len_app, len_app, len_app, l1_bar]
      have e : (3 * LP n + 10) * (i + 1 + 1) = (3 * LP n + 10) * (i + 1) + (3 * LP n + 10) := Nat.mul_succ _ _
      omega
  · rintro σ H3 ⟨vf, f, s1, v5, v6, v7, rfl, hf, pr, le, tp3, b3⟩
    refine ⟨_, rfl, _, rfl, (by show 2 ≤ sizeLine; decide), fun q hq => ?_⟩
    have sq := same_new (o := .tup [vf, .str s1]) hq
    refine k _ f s1 _ ⟨q, vf, rfl, upd_same, hf.same sq⟩ pr ?_ (tp3.same sq) (b3.trans (But.of sq))
    have e : (3 * LP n + 10) * (r.toNat + 1) ≤ (3 * LP n + 10) * 3 := Nat.mul_le_mul_left _ (by omega)
    omega
theorem scLPart : FnScope ["_law_tape_here", "_law_switches_here", "_law_deep", "_law_draw", "_law_name", "_law_formula_here", "_law_text"] ["_law_tape_here", "_law_switches_here", "_law_deep"] (defScope sLPart) := ⟨rfl, rfl, rfl, by decide +kernel, rfl, by decide +kernel, by decide +kernel⟩
theorem ok_lpart (T : LwT K mg) : ∀ n : Nat, FnOk P w K mg base CX0 (3 * n + 4) T.part.f T.part.fd ["_law_tape_here", "_law_switches_here", "_law_deep"] (spLPart n)
  | 0 => never_ok fun vs H Q E h => by
    obtain ⟨t, a, vsw, d, sw, _, _, _, _, z, _⟩ := h
    omega
  | n + 1 => by
    have GT : FnOk P w K mg base CX0 2 T.take.f T.take.fd ["_law_tape_here", "_law_many"] (spTake K) := ok_take T
    have GG : FnOk P w K mg base CX0 3 T.gap.f T.gap.fd ["_law_tape_here"] spGap := ok_gap T
    have GP0 := ok_lpart T n
    have GP : FnOk P w K mg base CX0 (3 * n + 6) T.part.f T.part.fd ["_law_tape_here", "_law_switches_here", "_law_deep"] (spLPart n) := GP0.mono (by omega)
    have GE : FnOk P w K mg base CX0 (3 * n + 6) T.either.f T.either.fd ["_law_tape_here", "_law_switches_here", "_law_deep"] (spLEither n) := ok_leither T (by omega) (ok_lboth T (by omega) GP0)
    show FnOk P w K mg base CX0 (3 * n + 6 + 1) T.part.f T.part.fd ["_law_tape_here", "_law_switches_here", "_law_deep"] (spLPart (n + 1))
    refine T.part.F.ok scLPart (fun vs H Q E h => ?_) (fun cdv A outer s H vs Q E hr h => ?_)
    · obtain ⟨t, a, vsw, d, sw, rfl, _⟩ := h
      rfl
    obtain ⟨t, a, vsw, d, sw, rfl, tp, hsw, ok, hd, hn, k⟩ := h
    have hr2 : Room 2 _ := hr.mono (by omega)
    have hr3 : Room 3 _ := hr.mono (by omega)
    have lp := LP_le (n := n) (by omega)
    have lq : LP (n + 1) = 9 * LP n + 46 := rfl
    have lpp := LP_pos n
    refine ⟨_, (pss_cons (ps_set (i := 3) scLPart.nd rfl (.inl rfl) (pcall T.take GT hr2 (pa_cons (pv 0) (pa_cons pe_int pa_nil))))
          (pss_cons (ps_if (PW.pt (pw_or (pt_cmpR op_lt (pv 3) pe_int (nomark _)) (pw_or1 (pt_cmpR op_le (pv 2) pe_int (nomark _))))) (pss_cons (ps_set (i := 4) scLPart.nd rfl (.inl rfl) (pe_ix ix_tup (pv 1) (pcall T.take GT hr2 (pa_cons (pv 0) (pa_cons (pe_callB call_len_seq (by rfl) T.F.S.ml PySem.boot_len (pa_cons (pv 1) pa_nil)) pa_nil))) (fun _ _ => rfl)))
            (pss_one (ps_ret (pe_tup (pa_cons (pe_tup (pa_cons pe_str (pa_cons (pv 4) pa_nil))) (pa_cons (pv 4) pa_nil)))))) pss_nil)
          (pss_cons (ps_if (pt_cmpR op_eq (pv 3) pe_int (nomark _)) (pss_one (ps_ret (pe_tup (pa_cons (pe_tup (pa_cons pe_str pa_nil)) (pa_cons pe_str pa_nil))))) pss_nil)
          (pss_cons (ps_if (pt_cmpR op_eq (pv 3) pe_int (nomark _)) (pss_one (ps_ret (pe_tup (pa_cons (pe_tup (pa_cons pe_str pa_nil)) (pa_cons pe_str pa_nil))))) pss_nil)
          (pss_cons (ps_if (pt_cmpR op_eq (pv 3) pe_int (nomark _)) (pss_cons (ps_asg (pcall T.part GP hr (pa_cons (pv 0) (pa_cons (pv 1) (pa_cons (pe_op op_sub (pv 2) pe_int) pa_nil)))) (pg_tup rfl (pgs_cons (pg_name (i := 5) scLPart.nd rfl (.inl rfl)) (pgs_cons (pg_name (i := 6) scLPart.nd rfl (.inl rfl)) pgs_nil))))
            (pss_one (ps_ret (pe_tup (pa_cons (pe_tup (pa_cons pe_str (pa_cons (pv 5) pa_nil))) (pa_cons (pe_op op_add_str (pe_op op_add_str pe_str (pcall T.gap GG hr3 (pa_cons (pv 0) pa_nil))) (pv 6)) pa_nil)))))) pss_nil)
          (pss_cons (ps_asg (pcall T.either GE hr (pa_cons (pv 0) (pa_cons (pv 1) (pa_cons (pe_op op_sub (pv 2) pe_int) pa_nil)))) (pg_tup rfl (pgs_cons (pg_name (i := 5) scLPart.nd rfl (.inl rfl)) (pgs_cons (pg_name (i := 6) scLPart.nd rfl (.inl rfl)) pgs_nil))))
          (pss_one (ps_ret (pe_tup (pa_cons (pv 5) (pa_cons (pe_op op_add_str (pe_op op_add_str (pe_op op_add_str (pe_op op_add_str pe_str (pcall T.gap GG hr3 (pa_cons (pv 0) pa_nil))) (pv 6)) (pcall T.gap GG hr3 (pa_cons (pv 0) pa_nil))) pe_str) pa_nil))))))))))), ?_⟩
    refine ⟨_, rfl, t, a, 9, rfl, tp, by decide, by decide, fun r H1 r0 r9 tp1 b1 => ?_⟩
    have hsw1 := hsw.imm (tp.imm b1)
    -- a name
    have leaf : tSeq (tAsg (tOp (rIxT K) (tVar 1) (tCall (spTake K) [] E0 (tCons (tVar 0) (tCons (tCB (fun xs H Q => ∃ p ys, xs = [.ref p] ∧ (SqL K H p ys ∨ SqT K H p ys) ∧ Q (.int ys.length) H) (tCons (tVar 1) tNil)) tNil)))) (gName 4))
        (tRet (tTup (tCons (tTup (tCons (tC (.str "switch")) (tCons (tVar 4) tNil))) (tCons (tVar 4) tNil)))) { nx := fun _ H' => Q .non H', rt := Q } [some (.ref t), some vsw, some (.int d), some (.int r), none, none, none] H1 := by
      obtain ⟨ps, rfl, hps⟩ := hsw1
      have l15 := ok.len
      refine ⟨_, rfl, _, rfl, _, rfl, ps, _, rfl, .inr hps.seq, t, a, _, rfl, tp1, (by rw [List.length_map]; omega), (by rw [List.length_map]; omega), fun r2 H2 c0 c1 tp2 b2 => ?_⟩
      rw [List.length_map] at c1
      have hps2 : TupF H2 ps (sw.map V.str) := by
        obtain ⟨o, ho, hh⟩ := hps
        exact ⟨o, ho, (tp1.imm b2).2 _ _ _ hh⟩
      obtain ⟨x, hx⟩ : ∃ x, sw[r2.toNat]? = some x := ⟨sw[r2.toNat]'(by omega), List.getElem?_eq_getElem (by omega)⟩
      have xm : x ∈ sw := List.mem_of_getElem? hx
      refine ⟨ps, _, _, _, rfl, rfl, hps2.seq, at_of (j := r2.toNat) (by omega) (by rw [List.getElem?_map, hx]; rfl), ?_⟩
      refine ⟨_, rfl, (by show 2 ≤ sizeLine; decide), fun q1 hq1 => ?_⟩
      have s1 := same_new (o := .tup [.str "switch", .str x]) hq1
      refine ⟨_, rfl, (by show 2 ≤ sizeLine; decide), fun q2 hq2 => ?_⟩
      have s2 := same_new (o := .tup [.ref q1, .str x]) hq2
      refine k _ (.sw x) x _ ⟨q2, .ref q1, rfl, upd_same, q1, rfl, s2 _ _ upd_same⟩ (.inl ⟨x, xm, rfl, rfl⟩) ?_ ((tp2.same s1).same s2) (((b1.trans b2).trans (But.of s1)).trans (But.of s2))
      have := (ok.ltr x xm).2.2
      omega
    refine ⟨_, rfl, _, _, rfl, rfl, _, rfl, ?_⟩
    refine ite2 (fun c => ?_) (fun c => ?_)
    · exact iteT leaf
    refine ⟨_, rfl, _, _, rfl, rfl, _, rfl, ?_⟩
    refine ite2 (fun c2 => leaf) (fun c2 => ?_)
    have dpos : ¬ d ≤ 0 := fun z => c2 (decide_eq_true z)
    refine ⟨_, rfl, rfl, _, rfl, ?_⟩
    refine ite2 (fun c3 => ?_) (fun c3 => ?_)
    · -- 1
      refine ⟨(by show 1 ≤ sizeLine; decide), fun q1 hq1 => ?_⟩
      have s1 := same_new (o := .tup [.str "yes"]) hq1
      refine ⟨(by show 2 ≤ sizeLine; decide), fun q2 hq2 => ?_⟩
      have s2 := same_new (o := .tup [.ref q1, .str "1"]) hq2
      refine k _ .yes "1" _ ⟨q2, .ref q1, rfl, upd_same, q1, rfl, s2 _ _ upd_same⟩ (.inr (.inl ⟨rfl, tl_1⟩)) ?_ ((tp1.same s1).same s2) ((b1.trans (But.of s1)).trans (But.of s2))
      show 1 ≤ LP (n + 1)
      omega
    refine ⟨_, rfl, rfl, _, rfl, ?_⟩
    refine ite2 (fun c4 => ?_) (fun c4 => ?_)
    · -- 0
      refine ⟨(by show 1 ≤ sizeLine; decide), fun q1 hq1 => ?_⟩
      have s1 := same_new (o := .tup [.str "no"]) hq1
      refine ⟨(by show 2 ≤ sizeLine; decide), fun q2 hq2 => ?_⟩
      have s2 := same_new (o := .tup [.ref q1, .str "0"]) hq2
      refine k _ .no "0" _ ⟨q2, .ref q1, rfl, upd_same, q1, rfl, s2 _ _ upd_same⟩ (.inr (.inr (.inl ⟨rfl, tl_0⟩))) ?_ ((tp1.same s1).same s2) ((b1.trans (But.of s1)).trans (But.of s2))
      show 1 ≤ LP (n + 1)
      omega
    refine ⟨_, rfl, rfl, _, rfl, ?_⟩
    refine ite2 (fun c5 => ?_) (fun c5 => ?_)
    · -- !
      refine ⟨_, rfl, _, rfl, _, rfl, _, _, rfl, rfl, t, a, vsw, d - 1, sw, rfl, tp1, hsw1, ok, by omega, by omega, fun v g s2 H2 ⟨p2, vg, e2, h2, f2⟩ pr2 l2 tp2 b2 => ?_⟩
      subst e2
      refine ⟨p2, _, rfl, .inl (.inl h2), rfl, _, [_], rfl, _, [], rfl, rfl, ?_⟩
      refine ⟨_, rfl, (by show 2 ≤ sizeLine; decide), fun q1 hq1 => ?_⟩
      have s1 := same_new (o := .tup [.str "not", vg]) hq1
      have tp3 := tp2.same s1
      refine ⟨_, rfl, t, a, rfl, tp3, fun z H4 spz lz tp4 b4 => ?_⟩
      refine ⟨_, _, rfl, rfl, szs (by rw [l1_bang]; omega), _, rfl, _, _, rfl, rfl, szs (by rw [len_app, l1_bang]; omega), (by show 2 ≤ sizeLine; decide), fun q2 hq2 => ?_⟩
      have s5 := same_new (o := .tup [.ref q1, .str (("!" : Str) ++ z ++ s2)]) hq2
      have i3 := tp3.imm b4
      refine k _ (.not g) _ _ ⟨q2, .ref q1, rfl, upd_same, q1, vg, rfl, s5 _ _ (i3.1 _ _ upd_same), ((f2.same s1).imm i3).same s5⟩ (.inr (.inr (.inr (.inl ⟨g, tl s2, tl z, pr2, spz, rfl, ?_⟩)))) ?_ (tp4.same s5) ((((b1.trans b2).trans (But.of s1)).trans b4).trans (But.of s5))
      · rw [tl_app, tl_app, tl_bang]
        simp
      · rw [len_app, len_app, l1_bang]
        omega
    · -- (
      refine ⟨_, rfl, _, rfl, _, rfl, _, _, rfl, rfl, t, a, vsw, d - 1, sw, rfl, tp1, hsw1, ok, by omega, by omega, fun v g s2 H2 ⟨p2, vg, e2, h2, f2⟩ pr2 l2 tp2 b2 => ?_⟩
      subst e2
      refine ⟨p2, _, rfl, .inl (.inl h2), rfl, _, [_], rfl, _, [], rfl, rfl, ?_⟩
      refine ⟨_, rfl, _, rfl, t, a, rfl, tp2, fun z1 H4 spz1 lz1 tp4 b4 => ?_⟩
      refine ⟨_, _, rfl, rfl, szs (by rw [l1_open]; omega), _, rfl, _, _, rfl, rfl, szs (by rw [len_app, l1_open]; omega), _, rfl, t, a, rfl, tp4, fun z2 H5 spz2 lz2 tp5 b5 => ?_⟩
      refine ⟨_, _, rfl, rfl, szs (by rw [len_app, len_app, l1_open]; omega), _, _, rfl, rfl, szs (by rw [len_app, len_app, len_app, l1_open, l1_close]; omega), (by show 2 ≤ sizeLine; decide), fun q2 hq2 => ?_⟩
      have s5 := same_new (o := .tup [vg, .str (("(" : Str) ++ z1 ++ s2 ++ z2 ++ ")")]) hq2
      have i3 := (tp2.imm b4).trans (tp4.imm b5)
      refine k _ g _ _ ⟨q2, vg, rfl, upd_same, (f2.imm i3).same s5⟩ (.inr (.inr (.inr (.inr ⟨tl s2, tl z1, tl z2, pr2, spz1, spz2, ?_⟩)))) ?_ (tp5.same s5) ((((b1.trans b2).trans b4).trans b5).trans (But.of s5))
      · rw [tl_app, tl_app, tl_app, tl_app, tl_open, tl_close]
        simp
      · rw [len_app, len_app, len_app, len_app, l1_open, l1_close]
        omega
theorem scFormula : FnScope ["_law_tape_here", "_law_switches_here", "_law_formula_here", "_law_text"] ["_law_tape_here", "_law_switches_here"] (defScope sFormula) := ⟨rfl, rfl, rfl, by decide +kernel, rfl, by decide +kernel, by decide +kernel⟩
theorem ok_formula (T : LwT K mg) : FnOk P w K mg base CX0 16 T.formula.f T.formula.fd ["_law_tape_here", "_law_switches_here"] spFormula := by
  have GE : FnOk P w K mg base CX0 15 T.either.f T.either.fd ["_law_tape_here", "_law_switches_here", "_law_deep"] (spLEither 3) := ok_leither T (by omega) (ok_lboth T (by omega) (ok_lpart T 3))
  refine T.formula.F.ok scFormula (fun vs H Q E h => ?_) (fun cdv A outer s H vs Q E hr h => ?_)
  · obtain ⟨t, a, vsw, sw, rfl, _⟩ := h
    rfl
  obtain ⟨t, a, vsw, sw, rfl, tp, hsw, ok, k⟩ := h
  refine ⟨_, (pss_cons (ps_asg (pcall T.either GE hr (pa_cons (pv 0) (pa_cons (pv 1) (pa_cons pe_int pa_nil)))) (pg_tup rfl (pgs_cons (pg_name (i := 2) scFormula.nd rfl (.inl rfl)) (pgs_cons (pg_name (i := 3) scFormula.nd rfl (.inl rfl)) pgs_nil))))
        (pss_one (ps_ret (pe_ifExp (pt_cmpR op_le (pe_callB call_len_str (by rfl) T.F.S.ml PySem.boot_len (pa_cons (pv 3) pa_nil)) pe_int (nomark _)) (pe_tup (pa_cons (pv 2) (pa_cons (pv 3) pa_nil))) (pe_tup (pa_cons (pe_tup (pa_cons pe_str pa_nil)) (pa_cons pe_str pa_nil))))))), ?_⟩
  refine ⟨_, rfl, _, rfl, t, a, vsw, 2, sw, rfl, tp, hsw, ok, by decide, by decide, fun v g s2 H2 ⟨p2, vg, e2, h2, f2⟩ pr2 l2 tp2 b2 => ?_⟩
  subst e2
  have lp := LP_le (n := 3) (by omega)
  refine ⟨p2, _, rfl, .inl (.inl h2), rfl, _, [_], rfl, _, [], rfl, rfl, ?_⟩
  refine ⟨_, rfl, s2, rfl, szs (by omega), _, _, rfl, rfl, _, rfl, ?_⟩
  refine ite2 (fun c => ?_) (fun c => ?_)
  · have c' : (s2.length : Int) ≤ 60 := of_decide_eq_true c
    refine ⟨_, rfl, _, rfl, (by show 2 ≤ sizeLine; decide), fun q hq => ?_⟩
    have sq := same_new (o := .tup [vg, .str s2]) hq
    exact k _ g s2 _ ⟨q, vg, rfl, upd_same, f2.same sq⟩ pr2 (by omega) (tp2.same sq) (b2.trans (But.of sq))
  · refine ⟨(by show 1 ≤ sizeLine; decide), fun q1 hq1 => ?_⟩
    have s1 := same_new (o := .tup [.str "yes"]) hq1
    refine ⟨(by show 2 ≤ sizeLine; decide), fun q2 hq2 => ?_⟩
    have s3 := same_new (o := .tup [.ref q1, .str "1"]) hq2
    exact k _ .yes "1" _ ⟨q2, .ref q1, rfl, upd_same, q1, rfl, s3 _ _ upd_same⟩ (.one (.one (.inr (.inl ⟨rfl, tl_1⟩)))) (by decide +kernel) ((tp2.same s1).same s3) ((b2.trans (But.of s1)).trans (But.of s3))
end
end OF

set_option Elab.async false
set_option linter.all false
set_option maxRecDepth 100000
set_option maxHeartbeats 4000000
/-! D4: _law_all, _law_true, _law_diagram, _law_same, _law_present. -/
namespace OF
open PySem L2
/-! ### mathematics -/
def two (c : List Bool) : List (List Bool) := [c ++ [false], c ++ [true]]
theorem allC_snoc : ∀ n, allC (n + 1) = (allC n).flatMap two
  | 0 => rfl
  | n + 1 => by
    have e : ∀ (b : Bool) (l : List (List Bool)), (l.map (b :: ·)).flatMap two = (l.flatMap two).map (b :: ·) := by
      intro b l
      induction l with
      | nil => rfl
      | cons c l ih =>
        simp only [List.map_cons, List.flatMap_cons, List.map_append, ih]
        rfl
    rw [show allC (n + 1 + 1) = (allC (n + 1)).map (false :: ·) ++ (allC (n + 1)).map (true :: ·) from rfl]
    conv => rhs; rw [show allC (n + 1) = (allC n).map (false :: ·) ++ (allC n).map (true :: ·) from rfl]
    rw [List.flatMap_append, e, e, ← allC_snoc n]
theorem mk_depth (i : Nat) (lo hi : Dg) : (mk i lo hi).depth ≤ max lo.depth hi.depth + 1 := by
  unfold mk
  by_cases e : lo = hi
  · rw [if_pos e]
    omega
  · rw [if_neg e]
    exact Nat.le_refl _
theorem ofBits_depth : ∀ (n i : Nat) (b : List Bool), (ofBits n i b).depth ≤ n
  | 0, _, _ => Nat.zero_le _
  | n + 1, i, b => by
    have a := mk_depth i (ofBits n (i + 1) (b.take (2 ^ n))) (ofBits n (i + 1) (b.drop (2 ^ n)))
    have c := ofBits_depth n (i + 1) (b.take (2 ^ n))
    have d := ofBits_depth n (i + 1) (b.drop (2 ^ n))
    show (mk i (ofBits n (i + 1) (b.take (2 ^ n))) (ofBits n (i + 1) (b.drop (2 ^ n)))).depth ≤ n + 1
    omega
/-! ### heaps -/
def PairAt (H : Hp) (v : V) (x : Str × Bool) : Prop := ∃ p, v = .ref p ∧ H p = some (.tup [.str x.1, .bl x.2])
theorem PairAt.imm {H H' : Hp} (s : Imm H H') {v : V} {x : Str × Bool} : PairAt H v x → PairAt H' v x := fun ⟨p, e, h⟩ => ⟨p, e, s.1 _ _ h⟩
/-- the list of the conditions around -/
def ArAt (H : Hp) (a : Addr) (ar : Ar) : Prop := ∃ vs, H a = some (.lst vs) ∧ All2 (PairAt H) vs ar
theorem ArAt.same {H H' : Hp} (s : Same H H') {a : Addr} {ar : Ar} : ArAt H a ar → ArAt H' a ar := fun ⟨vs, h, l⟩ => ⟨vs, s _ _ h, l.mono fun _ _ q => q.imm (imm_same s)⟩
/-- the formulas of the texts -/
def KnAt (M : Pm) (dm : Str → Prop) (H : Hp) (kd : Addr) : Prop := ∃ kvs : List (Key × V), H kd = some (.dK kvs) ∧ ∀ s, dm s → ∃ v, valV kvs (Sum.inr s) = some v ∧ FAt H v (M.kn s)
theorem KnAt.same {M : Pm} {dm : Str → Prop} {H H' : Hp} {kd : Addr} (s : Same H H') : KnAt M dm H kd → KnAt M dm H' kd := fun ⟨kvs, h, l⟩ => ⟨kvs, s _ _ h, fun z hz => let ⟨v, e, f⟩ := l z hz; ⟨v, e, f.same s⟩⟩
/-! ### promises -/
def spAll : Sp := fun vs H Q _ => ∃ n : Nat, vs = [.int (n : Int)] ∧ n ≤ 5 ∧ ∀ p H' items, Same H H' → H p = none → H' p = some (.lst items) → All2 (CfAt H') items (allC n) → Q (.ref p) H'
def spTrue (n : Nat) : Sp := fun vs H Q _ => ∃ (v u x : V) (sw : List Str) (f : Fo) (c : List Bool), vs = [v, u, x] ∧ SwAt H v sw ∧ FAt H u f ∧ FNm sw f ∧ CfAt H x c ∧ c.length = sw.length ∧ f.depth < n ∧ Q (.bl (f.ev (swR sw (cfR c)))) H
def spDgm (n : Nat) : Sp := fun vs H Q _ => ∃ (p : Addr) (i m : Nat) (bits : List Bool), vs = [.ref p, .int (i : Int)] ∧ H p = some (.lst (bits.map V.bl)) ∧ bits.length = 2 ^ m ∧ m < n ∧ n ≤ 6 ∧ ∀ v H', Same H H' → DAt H' v (ofBits m i bits) → Q v H'
def spLSame (n : Nat) : Sp := fun vs H Q _ => ∃ (v u : V) (d : Dg), vs = [v, u] ∧ DAt H v d ∧ DAt H u d ∧ d.depth < n ∧ Q (.bl true) H
def spPresent (M : Pm) (dm : Str → Prop) : Sp := fun vs H Q _ => ∃ (v x : V) (a kd : Addr) (ar : Ar) (c : List Bool), vs = [v, .ref a, x, .ref kd] ∧ SwAt H v M.sw ∧ ArAt H a ar ∧ CfAt H x c ∧ c.length = M.sw.length ∧ KnAt M dm H kd ∧ (∀ y ∈ ar, dm y.1) ∧ Q (.bl (pres M.sw M.kn ar (cfR c))) H
section
variable {P : Program} {w : World} {K : PySem.W.Frag} {mg : Str → Option Value} {base : Heap}
theorem scAll : FnScope ["_law_count", "_law_found", "_law_k", "_law_longer", "_law_row"] ["_law_count"] (defScope sAll) := ⟨rfl, rfl, rfl, by decide +kernel, rfl, by decide +kernel, by decide +kernel⟩
theorem ok_all (T : LwT K mg) : FnOk P w K mg base CX0 1 T.all.f T.all.fd ["_law_count"] spAll := by
  refine T.all.F.ok scAll (fun vs H Q E h => ?_) (fun cdv A outer s H vs Q E hr h => ?_)
  · obtain ⟨n, rfl, _⟩ := h
    rfl
  obtain ⟨n, rfl, hn, k⟩ := h
  refine ⟨_, (pss_cons (ps_set (i := 1) scAll.nd rfl (.inl rfl) (pe_lst (pa_cons (pe_tup pa_nil) pa_nil)))
        (pss_cons (ps_for PassesOwn.never rfl (pi_range1 rfl T.mrange (pa_cons (pv 0) pa_nil)) (pg_name (i := 2) scAll.nd rfl (.inl rfl)) (pss_cons (ps_set (i := 3) scAll.nd rfl (.inl rfl) (pe_lst pa_nil))
          (pss_cons (ps_for PassesOwn.never rfl (pi_list (pv 1)) (pg_name (i := 4) scAll.nd rfl (.inl rfl)) (pss_one (ps_expr (pe_bm PySem.F.plainAttrs_list PySem.F.slot_list_extend PySem.F.type_list_extend mt_extend (pv 3) (pa_cons (pe_lst (pa_cons (pe_op op_catA (pv 4) (pe_tup (pa_cons pe_int pa_nil))) (pa_cons (pe_op op_catA (pv 4) (pe_tup (pa_cons pe_int pa_nil))) pa_nil))) pa_nil)))))
          (pss_one (ps_set (i := 1) scAll.nd rfl (.inl rfl) (pv 3))))))
        (pss_one (ps_ret (pv 1))))), ?_⟩
  refine ⟨(by show 0 ≤ sizeLine; decide), fun q hq => ?_⟩
  have s1 := same_new (o := .tup []) hq
  refine ⟨(by show 1 ≤ sizeLine; decide), fun p hp => ?_⟩
  have s2 := same_new (o := .lst [.ref q]) hp
  refine ⟨_, rfl, _, rfl, by omega, by omega, for_range (lo := 0) (n := n) (fun i σ H' => ∃ p items v2 v3 v4, σ = [some (.int (n : Int)), some (.ref p), v2, v3, v4] ∧ H' p = some (.lst items) ∧ All2 (CfAt H') items (allC i) ∧ Same H H' ∧ H p = none)
    ⟨p, [.ref q], none, none, none, rfl, upd_same, .cons ⟨q, rfl, s2 _ _ upd_same⟩ .nil, s1.trans s2, s1.free hp⟩ ?_ ?_⟩
  · rintro i σ H1 hi ⟨p, items, v2, v3, v4, rfl, h1, hall, sm, hp0⟩
    have hlen := hall.length
    rw [allC_len] at hlen
    have p32 : 2 ^ i ≤ 32 := Nat.le_trans (Nat.pow_le_pow_right (by decide) (show i ≤ 5 by omega)) (by decide)
    refine ⟨(by show 0 ≤ sizeLine; decide), fun q hq => ?_⟩
    have s3 := same_new (o := .lst []) hq
    have hpq : p ≠ q := ne_of_none h1 hq
    refine ⟨_, rfl, p, rfl, ⟨_, SqL.of (s3 _ _ h1)⟩, for_list (K := K) (a := p) (xs := items) (fun j σ H' => ∃ out v4, σ = [some (.int (n : Int)), some (.ref p), some (.int (0 + (i : Int))), some (.ref q), v4] ∧ H' q = some (.lst out) ∧ All2 (CfAt H') out (((allC i).take j).flatMap two) ∧ Same H1 H' ∧ out.length = 2 * j)
      ⟨[], v4, rfl, upd_same, by rw [List.take_zero]; exact .nil, s3, rfl⟩ (fun j σ H' _ ⟨_, _, _, _, _, s, _⟩ => SqL.of (s _ _ h1)) ?_ ?_⟩
    · rintro j v σ H2 hj ⟨out, v4, rfl, hout, hall2, s4, hl⟩
      obtain ⟨c, hc, pc, rfl, hpc⟩ := hall.get hj
      have hj' : j < items.length := (List.getElem?_eq_some_iff.mp hj).1
      have hpc2 := s4 _ _ hpc
      have et : ((allC i).take (j + 1)).flatMap two = ((allC i).take j).flatMap two ++ two c := by
        rw [List.take_add_one, hc, List.flatMap_append]
        simp
      -- the two new rows
      have add : ∀ (H5 : Hp) (r1 r2 : V), CfAt H5 r1 (c ++ [false]) → CfAt H5 r2 (c ++ [true]) → Same H2 H5 → ∀ b : Addr, H5 b = none → rExtend (.ref q) [.ref b] (upd H5 b (.lst [r1, r2])) fun _ H' => ∃ out v4, [some (V.int (n : Int)), some (.ref p), some (.int (0 + (i : Int))), some (.ref q), some (.ref pc)] = [some (.int (n : Int)), some (.ref p), some (.int (0 + (i : Int))), some (.ref q), v4] ∧ H' q = some (.lst out) ∧ All2 (CfAt H') out (((allC i).take (j + 1)).flatMap two) ∧ Same H1 H' ∧ out.length = 2 * (j + 1) := by
        intro H5 r1 r2 c1 c2 s5 b hb
        have sb := same_new (o := .lst [r1, r2]) hb
        have hq5 := sb _ _ (s5 _ _ hout)
        have iq : Imm (upd H5 b (.lst [r1, r2])) (upd (upd H5 b (.lst [r1, r2])) q (.lst (out ++ [r1, r2]))) := But.imm (But.upd (a := q)) hq5 trivial
        refine ⟨q, b, out, [r1, r2], rfl, rfl, hq5, upd_same, szs (by show out.length + 2 ≤ 100000; omega), out ++ [r1, r2], _, rfl, upd_same, ?_, fun x o e => ?_, by rw [List.length_append]; show out.length + 2 = _; omega⟩
        · rw [et]
          exact All2.append (hall2.mono fun _ _ z => ((z.imm (imm_same s5)).imm (imm_same sb)).imm iq) (.cons ((c1.imm (imm_same sb)).imm iq) (.cons ((c2.imm (imm_same sb)).imm iq) .nil))
        · have nx : x ≠ q := ne_of_none e hq
          rw [upd_ne nx]
          exact sb _ _ (s5 _ _ (s4 _ _ e))
      refine ⟨_, rfl, .inl ⟨rfl, _, SqL.of hout⟩, _, rfl, (by show 1 ≤ sizeLine; decide), fun t0 ht0 => ?_⟩
      have sa := same_new (o := .tup [.int 0]) ht0
      refine ⟨pc, t0, _, _, rfl, rfl, .inl (.inl (sa _ _ hpc2)), .inl (.inl upd_same), szs ?_, ?_, ?_, ?_⟩
      · rw [List.length_map, allC_length (List.mem_of_getElem? hc)]
        show i + 1 ≤ 100000
        omega
      · intro ec
        refine ⟨_, rfl, (by show 1 ≤ sizeLine; decide), fun t1 ht1 => ?_⟩
        have sb := same_new (o := .tup [.int 1]) ht1
        have e : c = [] := List.map_eq_nil_iff.mp ec
        refine ⟨pc, t1, _, _, rfl, rfl, .inl (.inl (sb _ _ (sa _ _ hpc2))), .inl (.inl upd_same), szs (by rw [List.length_map, e]; decide), ?_, ?_, ?_⟩
        · intro _
          refine ⟨(by show 2 ≤ sizeLine; decide), fun b hb => ?_⟩
          exact add _ (.ref t0) (.ref t1) ⟨t0, rfl, by rw [e]; exact sb _ _ upd_same⟩ ⟨t1, rfl, by rw [e]; exact upd_same⟩ (sa.trans sb) b hb
        · intro ne
          exact absurd ec ne
        · intro ne
          exact absurd ec ne
      · intro _ ne
        cases ne
      · intro ne _ t2 ht2
        have s2' := same_new (o := .tup (c.map b01 ++ [.int 0])) ht2
        refine ⟨_, rfl, (by show 1 ≤ sizeLine; decide), fun t1 ht1 => ?_⟩
        have sb := same_new (o := .tup [.int 1]) ht1
        refine ⟨pc, t1, _, _, rfl, rfl, .inl (.inl (sb _ _ (s2' _ _ (sa _ _ hpc2)))), .inl (.inl upd_same), szs ?_, ?_, ?_, ?_⟩
        · rw [List.length_map, allC_length (List.mem_of_getElem? hc)]
          show i + 1 ≤ 100000
          omega
        · intro e
          exact absurd e ne
        · intro _ z
          cases z
        · intro _ _ t3 ht3
          have s3' := same_new (o := .tup (c.map b01 ++ [.int 1])) ht3
          refine ⟨(by show 2 ≤ sizeLine; decide), fun b hb => ?_⟩
          refine add _ (.ref t2) (.ref t3) ⟨t2, rfl, ?_⟩ ⟨t3, rfl, ?_⟩ (((sa.trans s2').trans sb).trans s3') b hb
          · rw [List.map_append]
            exact s3' _ _ (sb _ _ upd_same)
          · rw [List.map_append]
            exact upd_same
    · rintro σ H2 ⟨out, v4, rfl, hout, hall2, s4, hl⟩
      rw [hall.length, List.take_length, ← allC_snoc] at hall2
      refine ⟨_, rfl, q, out, _, _, _, rfl, hout, hall2, sm.trans s4, sm.free hq⟩
  · rintro σ H1 ⟨p, items, v2, v3, v4, rfl, h1, hall, sm, hp0⟩
    exact ⟨_, rfl, k p H1 items sm hp0 h1 hall⟩
theorem scTrue : FnScope ["_law_switches_here", "_law_formula_here", "_law_configuration", "_law_tag", "_law_first"] ["_law_switches_here", "_law_formula_here", "_law_configuration"] (defScope sTrue) := ⟨rfl, rfl, rfl, by decide +kernel, rfl, by decide +kernel, by decide +kernel⟩
theorem ok_true (T : LwT K mg) : ∀ n : Nat, FnOk P w K mg base CX0 n T.tru.f T.tru.fd ["_law_switches_here", "_law_formula_here", "_law_configuration"] (spTrue n)
  | 0 => never_ok fun vs H Q E h => by
    obtain ⟨v, u, x, sw, f, c, _, _, _, _, _, _, z, _⟩ := h
    omega
  | n + 1 => by
    have G := ok_true T n
    refine T.tru.F.ok scTrue (fun vs H Q E h => ?_) (fun cdv A outer s H vs Q E hr h => ?_)
    · obtain ⟨v, u, x, sw, f, c, rfl, _⟩ := h
      rfl
    obtain ⟨v, u, x, sw, f, c, rfl, hs, hf, nm, hc, hl, z, k⟩ := h
    refine ⟨_, (pss_cons (ps_set (i := 3) scTrue.nd rfl (.inl rfl) (pe_ix ix_tup (pv 1) pe_int (fun _ _ => rfl)))
          (pss_cons (ps_if (PW.pt (pw_or (pt_cmpR op_eq (pv 3) pe_str (nomark _)) (pw_or1 (pt_cmpR op_eq (pv 3) pe_str (nomark _))))) (pss_one (ps_ret (pe_cmpR op_eq (pv 3) pe_str (nomark _)))) pss_nil)
          (pss_cons (ps_if (pt_cmpR op_eq (pv 3) pe_str (nomark _)) (pss_one (ps_ret (pe_cmpR op_eq (pe_ix ix_tup (pv 2) (pe_index (pv 0) (pe_ix ix_tup (pv 1) pe_int (fun _ _ => rfl))) (fun _ _ => rfl)) pe_int (nomark _)))) pss_nil)
          (pss_cons (ps_if (pt_cmpR op_eq (pv 3) pe_str (nomark _)) (pss_one (ps_ret (pe_not (pcall T.tru G hr (pa_cons (pv 0) (pa_cons (pe_ix ix_tup (pv 1) pe_int (fun _ _ => rfl)) (pa_cons (pv 2) pa_nil))))))) pss_nil)
          (pss_cons (ps_set (i := 4) scTrue.nd rfl (.inl rfl) (pcall T.tru G hr (pa_cons (pv 0) (pa_cons (pe_ix ix_tup (pv 1) pe_int (fun _ _ => rfl)) (pa_cons (pv 2) pa_nil)))))
          (pss_cons (ps_if (pt_cmpR op_eq (pv 3) pe_str (nomark _)) (pss_one (ps_ret (pe_and (pv 4) (pe_one (pcall T.tru G hr (pa_cons (pv 0) (pa_cons (pe_ix ix_tup (pv 1) pe_int (fun _ _ => rfl)) (pa_cons (pv 2) pa_nil)))))))) pss_nil)
          (pss_one (ps_ret (pe_or (pv 4) (pe_one (pcall T.tru G hr (pa_cons (pv 0) (pa_cons (pe_ix ix_tup (pv 1) pe_int (fun _ _ => rfl)) (pa_cons (pv 2) pa_nil)))))))))))))), ?_⟩
    cases f with
    | yes =>
      obtain ⟨p, rfl, hp⟩ := hf
      refine ⟨_, rfl, p, _, _, _, rfl, rfl, .inl (.inl hp), at_of (j := 0) rfl rfl, ?_⟩
      refine ⟨_, rfl, rfl, _, rfl, ?_⟩
      refine iteT (iteT ?_)
      exact ⟨_, rfl, rfl, k⟩
    | no =>
      obtain ⟨p, rfl, hp⟩ := hf
      refine ⟨_, rfl, p, _, _, _, rfl, rfl, .inl (.inl hp), at_of (j := 0) rfl rfl, ?_⟩
      refine ⟨_, rfl, rfl, _, rfl, ?_⟩
      refine iteF ⟨_, rfl, rfl, _, rfl, iteT ?_⟩
      exact ⟨_, rfl, rfl, k⟩
    | sw s =>
      obtain ⟨p, rfl, hp⟩ := hf
      obtain ⟨ps, rfl, hps⟩ := hs
      obtain ⟨pc, rfl, hpc⟩ := hc
      have hm : s ∈ sw := nm
      have hj := ixOf_lt hm
      have hb : (c.map b01)[ixOf sw s]? = some (b01 (cfR c (ixOf sw s))) := by
        rw [List.getElem?_map, List.getElem?_eq_getElem (by omega)]
        unfold cfR
        rw [List.getD_eq_getElem?_getD, List.getElem?_eq_getElem (by omega)]
        rfl
      refine ⟨_, rfl, p, _, _, _, rfl, rfl, .inl (.inl hp), at_of (j := 0) rfl rfl, ?_⟩
      refine ⟨_, rfl, rfl, _, rfl, iteF ⟨_, rfl, rfl, _, rfl, iteF ?_⟩⟩
      refine ⟨_, rfl, rfl, _, rfl, iteT ?_⟩
      refine ⟨_, rfl, _, rfl, ps, sw, rfl, hps, _, rfl, p, _, _, _, rfl, rfl, .inl (.inl hp), at_of (j := 1) rfl rfl, ?_⟩
      refine ⟨s, ixOf sw s, rfl, hps, ixOf_get hm, fun m hm' => ixOf_first hm', pc, _, _, _, rfl, rfl, .inl (.inl hpc), at_of (j := ixOf sw s) rfl hb, rfl, ?_⟩
      have e : decide (b01 (cfR c (ixOf sw s)) = V.int 1) = cfR c (ixOf sw s) := by
        cases cfR c (ixOf sw s) <;> rfl
      rw [e]
      exact k
    | not f =>
      obtain ⟨p, uf, rfl, hp, hf1⟩ := hf
      have zz : f.depth + 1 < n + 1 := z
      refine ⟨_, rfl, p, _, _, _, rfl, rfl, .inl (.inl hp), at_of (j := 0) rfl rfl, ?_⟩
      refine ⟨_, rfl, rfl, _, rfl, iteF ⟨_, rfl, rfl, _, rfl, iteF ?_⟩⟩
      refine ⟨_, rfl, rfl, _, rfl, iteF ?_⟩
      refine ⟨_, rfl, rfl, _, rfl, iteT ?_⟩
      exact ⟨_, rfl, _, rfl, p, _, _, _, rfl, rfl, .inl (.inl hp), at_of (j := 1) rfl rfl, _, rfl, v, uf, x, sw, f, c, rfl, hs, hf1, nm, hc, hl, by omega, _, rfl, k⟩
    | and f g =>
      obtain ⟨p, uf, ug, rfl, hp, hf1, hg1⟩ := hf
      have zz : max f.depth g.depth + 1 < n + 1 := z
      refine ⟨_, rfl, p, _, _, _, rfl, rfl, .inl (.inl hp), at_of (j := 0) rfl rfl, ?_⟩
      refine ⟨_, rfl, rfl, _, rfl, iteF ⟨_, rfl, rfl, _, rfl, iteF ?_⟩⟩
      refine ⟨_, rfl, rfl, _, rfl, iteF ?_⟩
      refine ⟨_, rfl, rfl, _, rfl, iteF ?_⟩
      refine ⟨_, rfl, _, rfl, p, _, _, _, rfl, rfl, .inl (.inl hp), at_of (j := 1) rfl rfl, _, rfl, v, uf, x, sw, f, c, rfl, hs, hf1, nm.1, hc, hl, by omega, ?_⟩
      refine ⟨_, rfl, rfl, _, rfl, iteT ?_⟩
      refine ⟨_, rfl, _, rfl, ?_⟩
      have k' : Q (.bl (f.ev (swR sw (cfR c)) && g.ev (swR sw (cfR c)))) H := k
      cases hb : f.ev (swR sw (cfR c)) with
      | true =>
        rw [hb, Bool.true_and] at k'
        exact iteT ⟨_, rfl, _, rfl, p, _, _, _, rfl, rfl, .inl (.inl hp), at_of (j := 2) rfl rfl, _, rfl, v, ug, x, sw, g, c, rfl, hs, hg1, nm.2, hc, hl, by omega, k'⟩
      | false =>
        rw [hb, Bool.false_and] at k'
        exact iteF k'
    | or f g =>
      obtain ⟨p, uf, ug, rfl, hp, hf1, hg1⟩ := hf
      have zz : max f.depth g.depth + 1 < n + 1 := z
      refine ⟨_, rfl, p, _, _, _, rfl, rfl, .inl (.inl hp), at_of (j := 0) rfl rfl, ?_⟩
      refine ⟨_, rfl, rfl, _, rfl, iteF ⟨_, rfl, rfl, _, rfl, iteF ?_⟩⟩
      refine ⟨_, rfl, rfl, _, rfl, iteF ?_⟩
      refine ⟨_, rfl, rfl, _, rfl, iteF ?_⟩
      refine ⟨_, rfl, _, rfl, p, _, _, _, rfl, rfl, .inl (.inl hp), at_of (j := 1) rfl rfl, _, rfl, v, uf, x, sw, f, c, rfl, hs, hf1, nm.1, hc, hl, by omega, ?_⟩
      refine ⟨_, rfl, rfl, _, rfl, iteF ?_⟩
      refine ⟨_, rfl, _, rfl, ?_⟩
      have k' : Q (.bl (f.ev (swR sw (cfR c)) || g.ev (swR sw (cfR c)))) H := k
      cases hb : f.ev (swR sw (cfR c)) with
      | true =>
        rw [hb, Bool.true_or] at k'
        exact iteT k'
      | false =>
        rw [hb, Bool.false_or] at k'
        exact iteF ⟨_, rfl, _, rfl, p, _, _, _, rfl, rfl, .inl (.inl hp), at_of (j := 2) rfl rfl, _, rfl, v, ug, x, sw, g, c, rfl, hs, hg1, nm.2, hc, hl, by omega, k'⟩
end
end OF

set_option Elab.async false
set_option linter.all false
set_option maxRecDepth 100000
set_option maxHeartbeats 4000000
/-! D5: _law_diagram, _law_same, _law_present. -/
namespace OF
open PySem L2
theorem half2 (m : Nat) : ((2 ^ (m + 1) : Nat) : Int).fdiv 2 = ((2 ^ m : Nat) : Int) := by
  rw [Int.fdiv_eq_ediv_of_nonneg _ (by decide), Nat.pow_succ]
  omega
section
variable {X : Cx}
theorem p_isBool {a : Expr} {ta : TE} {p q pos : Pos} (hm : X.mg "isinstance" = none) (ht : X.mg "bool" = none) (ha : PE X a ta) (hg : Gl X "isinstance" := by rfl) (hg2 : Gl X "bool" := by rfl)
    (he : starEach (a :: [.Name "bool" q]) X.env = (false, eval a X.env) :: starEach [.Name "bool" q] X.env := by rfl) (hpl : (backTo pos (starEach [.Name "bool" q] X.env)).any (·.1) = false := by rfl) :
    PE X (.Call (.Name "isinstance" p) [a, .Name "bool" q] [] pos) (tCB rIsBool (tCons ta (tCons (tC (.ty "bool")) tNil))) :=
  pe_callB call_isBool hg hm (by decide +kernel) (pa_cons ha (pa_cons (pe_bltn hg2 ht (u := .type "bool") (by decide +kernel) rfl) pa_nil) he) (by decide) (by decide) he hpl
end
section
variable {P : Program} {w : World} {K : PySem.W.Frag} {mg : Str → Option Value} {base : Heap}
theorem scDiagram : FnScope ["_law_bits", "_law_i", "_law_half", "_law_low", "_law_high"] ["_law_bits", "_law_i"] (defScope sDiagram) := ⟨rfl, rfl, rfl, by decide +kernel, rfl, by decide +kernel, by decide +kernel⟩
theorem ok_dgm (T : LwT K mg) : ∀ n : Nat, FnOk P w K mg base CX0 n T.diagram.f T.diagram.fd ["_law_bits", "_law_i"] (spDgm n)
  | 0 => never_ok fun vs H Q E h => by
    obtain ⟨p, i, m, bits, _, _, _, z, _⟩ := h
    omega
  | n + 1 => by
    have G := ok_dgm T n
    refine T.diagram.F.ok scDiagram (fun vs H Q E h => ?_) (fun cdv A outer s H vs Q E hr h => ?_)
    · obtain ⟨p, i, m, bits, rfl, _⟩ := h
      rfl
    obtain ⟨p, i, m, bits, rfl, hp, hl, hm, hn, k⟩ := h
    refine ⟨_, (pss_cons (ps_if (pt_cmpR op_eq (pe_callB call_len_seq (by rfl) T.F.S.ml PySem.boot_len (pa_cons (pv 0) pa_nil)) pe_int (nomark _)) (pss_one (ps_ret (pe_ix ix_list (pv 0) pe_int (fun _ _ => rfl)))) pss_nil)
          (pss_cons (ps_set (i := 2) scDiagram.nd rfl (.inl rfl) (pe_op op_fdivN (pe_callB call_len_seq (by rfl) T.F.S.ml PySem.boot_len (pa_cons (pv 0) pa_nil)) pe_int))
          (pss_cons (ps_set (i := 3) scDiagram.nd rfl (.inl rfl) (pcall T.diagram G hr (pa_cons (pe_slice sl_list (pv 0) po_none (po_some (pv 2))) (pa_cons (pe_op op_add (pv 1) pe_int) pa_nil))))
          (pss_cons (ps_set (i := 4) scDiagram.nd rfl (.inl rfl) (pcall T.diagram G hr (pa_cons (pe_slice sl_list (pv 0) (po_some (pv 2)) po_none) (pa_cons (pe_op op_add (pv 1) pe_int) pa_nil))))
          (pss_cons (ps_if (PW.pt (pw_and (pt_cmpR (op_eqD hr.units) (pv 3) (pv 4) (nomark _)) (pw_and1 (pt_cmpR op_eq (p_isT T.F.D.mi T.F.D.mt (pv 3)) (p_isT T.F.D.mi T.F.D.mt (pv 4)) (nomark _))))) (pss_one (ps_ret (pv 3))) pss_nil)
          (pss_one (ps_ret (pe_tup (pa_cons (pv 1) (pa_cons (pv 3) (pa_cons (pv 4) pa_nil))))))))))), ?_⟩
    refine ⟨_, rfl, p, _, rfl, .inl (SqL.of hp), rfl, _, rfl, ?_⟩
    rw [List.length_map, hl]
    cases m with
    | zero =>
      refine iteT ?_
      obtain ⟨b, rfl⟩ : ∃ b, bits = [b] := by
        match bits, hl with
        | [b], _ => exact ⟨b, rfl⟩
      exact ⟨_, rfl, p, _, _, _, rfl, rfl, SqL.of hp, at_of (j := 0) rfl rfl, k _ _ (Same.refl H) rfl⟩
    | succ m =>
      have h1 : 2 ≤ 2 ^ (m + 1) := by
        have := Nat.two_pow_pos m
        rw [Nat.pow_succ]
        omega
      rw [decide_eq_false (show ¬ V.int ((2 ^ (m + 1) : Nat) : Int) = V.int 1 from fun e => by
        have e := V.int.inj e
        omega)]
      refine iteF ?_
      refine ⟨_, rfl, p, _, rfl, .inl (SqL.of hp), _, _, rfl, rfl, ⟨by decide, by decide⟩, ?_⟩
      rw [List.length_map, hl]
      dsimp only
      rw [half2]
      have hmm : 2 ^ m ≤ bits.length := by
        rw [hl, Nat.pow_succ]
        omega
      have et : cutV (bits.map V.bl) none (some ((2 ^ m : Nat) : Int)) = (bits.take (2 ^ m)).map V.bl := by
        unfold cutV
        rw [HT.sIx_nat, HT.sIx_none, List.length_map, Nat.min_eq_left hmm, List.drop_zero, List.map_take]
        rfl
      have ed : cutV (bits.map V.bl) (some ((2 ^ m : Nat) : Int)) none = (bits.drop (2 ^ m)).map V.bl := by
        unfold cutV
        rw [HT.sIx_nat, HT.sIx_none, List.length_map, Nat.min_eq_left hmm, List.map_drop]
        exact List.take_of_length_le (by rw [List.length_drop, List.length_map]; omega)
      refine ⟨_, rfl, _, rfl, _, rfl, p, _, rfl, SqL.of hp, fun q1 hq1 => ?_⟩
      rw [et]
      have s1 := same_new (o := .lst ((bits.take (2 ^ m)).map V.bl)) hq1
      refine ⟨_, rfl, _, _, rfl, rfl, q1, i + 1, m, bits.take (2 ^ m), rfl, upd_same, (by rw [List.length_take, Nat.min_eq_left hmm]), by omega, by omega, fun v1 H2 s2 d1 => ?_⟩
      refine ⟨_, rfl, _, rfl, _, rfl, p, _, rfl, SqL.of (s2 _ _ (s1 _ _ hp)), fun q2 hq2 => ?_⟩
      rw [ed]
      have s3 := same_new (o := .lst ((bits.drop (2 ^ m)).map V.bl)) hq2
      refine ⟨_, rfl, _, _, rfl, rfl, q2, i + 1, m, bits.drop (2 ^ m), rfl, upd_same, (by rw [List.length_drop, hl, Nat.pow_succ]; omega), by omega, by omega, fun v2 H4 s4 d2 => ?_⟩
      have d1' := (d1.same s3).same s4
      have z1 := ofBits_depth m (i + 1) (bits.take (2 ^ m))
      have z2 := ofBits_depth m (i + 1) (bits.drop (2 ^ m))
      have s04 : Same H H4 := ((s1.trans s2).trans s3).trans s4
      refine ⟨_, rfl, _, rfl, _, _, d1'.dp, d2.dp, dg_shaped (by omega), dg_shaped (by omega), _, rfl, ?_⟩
      rw [dg_eqv]
      have km : ∀ v H', Same H H' → DAt H' v (mk i (ofBits m (i + 1) (bits.take (2 ^ m))) (ofBits m (i + 1) (bits.drop (2 ^ m)))) → Q v H' := k
      by_cases c : ofBits m (i + 1) (bits.take (2 ^ m)) = ofBits m (i + 1) (bits.drop (2 ^ m))
      · rw [decide_eq_true c]
        refine iteT ⟨_, rfl, _, _, rfl, d1', _, rfl, _, _, rfl, d2, rfl, _, rfl, ?_⟩
        rw [c, decide_eq_true rfl]
        refine iteT ⟨_, rfl, km _ _ s04 ?_⟩
        unfold mk
        rw [if_pos c]
        exact d1'
      · rw [decide_eq_false c]
        refine iteF (iteF ⟨_, rfl, _, rfl, _, rfl, (by show 3 ≤ sizeLine; decide), fun q hq => ?_⟩)
        refine km _ _ (s04.trans (same_new hq)) ?_
        unfold mk
        rw [if_neg c]
        exact ⟨q, v1, v2, rfl, upd_same, d1'.same (same_new hq), d2.same (same_new hq)⟩
theorem scLSame : FnScope ["_law_told", "_law_due"] ["_law_told", "_law_due"] (defScope sLSame) := ⟨rfl, rfl, rfl, by decide +kernel, rfl, by decide +kernel, by decide +kernel⟩
theorem ok_lsame (T : LwT K mg) : ∀ n : Nat, FnOk P w K mg base CX0 n T.same.f T.same.fd ["_law_told", "_law_due"] (spLSame n)
  | 0 => never_ok fun vs H Q E h => by
    obtain ⟨v, u, d, _, _, _, z, _⟩ := h
    omega
  | n + 1 => by
    have G := ok_lsame T n
    refine T.same.F.ok scLSame (fun vs H Q E h => ?_) (fun cdv A outer s H vs Q E hr h => ?_)
    · obtain ⟨v, u, d, rfl, _⟩ := h
      rfl
    obtain ⟨v, u, d, rfl, hv, hu, z, k⟩ := h
    refine ⟨_, (pss_cons (ps_if (PW.pt (pw_or (pt_val (p_isBool T.F.D.mi T.mbool (pv 1))) (pw_or1 (pt_val (p_isBool T.F.D.mi T.mbool (pv 0)))))) (pss_one (ps_ret (pe_and (p_isBool T.F.D.mi T.mbool (pv 0)) (pe_and (p_isBool T.F.D.mi T.mbool (pv 1)) (pe_one (pe_cmpR op_eq (pv 0) (pv 1) (nomark _))))))) pss_nil)
          (pss_cons (ps_if (PW.pt (pw_or (pt_not (pt_val (p_isT T.F.D.mi T.F.D.mt (pv 0)))) (pw_or (pt_cmpR op_ne (pe_callB call_len_seq (by rfl) T.F.S.ml PySem.boot_len (pa_cons (pv 0) pa_nil)) pe_int (nomark _)) (pw_or1 (pt_cmpR op_ne (pe_ix ix_tup (pv 0) pe_int (fun _ _ => rfl)) (pe_ix ix_tup (pv 1) pe_int (fun _ _ => rfl)) (nomark _)))))) (pss_one (ps_ret pe_bl)) pss_nil)
          (pss_one (ps_ret (pe_and (pcall T.same G hr (pa_cons (pe_ix ix_tup (pv 0) pe_int (fun _ _ => rfl)) (pa_cons (pe_ix ix_tup (pv 1) pe_int (fun _ _ => rfl)) pa_nil))) (pe_one (pcall T.same G hr (pa_cons (pe_ix ix_tup (pv 0) pe_int (fun _ _ => rfl)) (pa_cons (pe_ix ix_tup (pv 1) pe_int (fun _ _ => rfl)) pa_nil))))))))), ?_⟩
    refine ⟨_, rfl, u, d, rfl, hu, _, rfl, ?_⟩
    cases d with
    | lf b =>
      have ev : v = V.bl b := hv
      have eu : u = V.bl b := hu
      subst ev
      subst eu
      refine iteT (iteT ?_)
      refine ⟨_, rfl, _, .lf b, rfl, rfl, _, rfl, iteT ?_⟩
      refine ⟨_, rfl, _, .lf b, rfl, rfl, _, rfl, iteT ?_⟩
      refine ⟨_, rfl, _, rfl, rfl, ?_⟩
      rw [decide_eq_true rfl]
      exact k
    | nd i lo hi =>
      refine iteF ⟨_, rfl, _, _, rfl, hv, _, rfl, iteF ?_⟩
      refine ⟨_, rfl, _, _, rfl, hv, _, rfl, iteF ?_⟩
      obtain ⟨p, vl, vh, rfl, hp, hl, hh⟩ := hv
      obtain ⟨p', vl', vh', rfl, hp', hl', hh'⟩ := hu
      have zz : max lo.depth hi.depth + 1 < n + 1 := z
      refine ⟨_, rfl, p, _, rfl, .inr (.inl (.inl hp)), rfl, _, rfl, iteF ?_⟩
      refine ⟨_, rfl, p, _, _, _, rfl, rfl, .inl (.inl hp), at_of (j := 0) rfl rfl, _, rfl, p', _, _, _, rfl, rfl, .inl (.inl hp'), at_of (j := 0) rfl rfl, rfl, _, rfl, ?_⟩
      rw [decide_eq_true rfl]
      refine iteF ?_
      refine ⟨_, rfl, p, _, _, _, rfl, rfl, .inl (.inl hp), at_of (j := 1) rfl rfl, _, rfl, p', _, _, _, rfl, rfl, .inl (.inl hp'), at_of (j := 1) rfl rfl, vl, vl', lo, rfl, hl, hl', by omega, _, rfl, iteT ?_⟩
      exact ⟨_, rfl, p, _, _, _, rfl, rfl, .inl (.inl hp), at_of (j := 2) rfl rfl, _, rfl, p', _, _, _, rfl, rfl, .inl (.inl hp'), at_of (j := 2) rfl rfl, vh, vh', hi, rfl, hh, hh', by omega, k⟩
theorem scPresent : FnScope ["_law_switches_here", "_law_around", "_law_configuration", "_law_known", "_law_text", "_law_wanted"] ["_law_switches_here", "_law_around", "_law_configuration", "_law_known"] (defScope sPresent) := ⟨rfl, rfl, rfl, by decide +kernel, rfl, by decide +kernel, by decide +kernel⟩
theorem ok_present (T : LwT K mg) {M : Pm} {dm : Str → Prop} (hI : ∀ s, dm s → FNm M.sw (M.kn s) ∧ (M.kn s).depth ≤ 60) : FnOk P w K mg base CX0 62 T.present.f T.present.fd ["_law_switches_here", "_law_around", "_law_configuration", "_law_known"] (spPresent M dm) := by
  have G : FnOk P w K mg base CX0 61 T.tru.f T.tru.fd ["_law_switches_here", "_law_formula_here", "_law_configuration"] (spTrue 61) := ok_true T 61
  refine T.present.F.ok scPresent (fun vs H Q E h => ?_) (fun cdv A outer s H vs Q E hr h => ?_)
  · obtain ⟨v, x, a, kd, ar, c, rfl, _⟩ := h
    rfl
  obtain ⟨v, x, a, kd, ar, c, rfl, hsw, ⟨vs, ha, hall⟩, hc, hcl, ⟨kvs, hkd, hkn⟩, hdm, k⟩ := h
  refine ⟨_, (pss_cons (ps_for PassesOwn.never rfl (pi_list (pv 1)) (pg_tup rfl (pgs_cons (pg_name (i := 4) scPresent.nd rfl (.inl rfl)) (pgs_cons (pg_name (i := 5) scPresent.nd rfl (.inl rfl)) pgs_nil))) (pss_one (ps_if (pt_cmpR op_ne (pcall T.tru G hr (pa_cons (pv 0) (pa_cons (pe_dget (hu_of hr) (pv 3) (pv 4) (fun _ _ => rfl)) (pa_cons (pv 2) pa_nil)))) (pv 5) (nomark _)) (pss_one (ps_ret pe_bl)) pss_nil)))
        (pss_one (ps_ret pe_bl))), ?_⟩
  refine ⟨_, rfl, a, rfl, ⟨_, SqL.of ha⟩, for_list (K := K) (a := a) (xs := vs) (fun i σ H' => H' = H ∧ ∃ v4 v5, σ = [some v, some (.ref a), some x, some (.ref kd), v4, v5] ∧ pres M.sw M.kn (ar.take i) (cfR c) = true)
    ⟨rfl, none, none, rfl, rfl⟩ (fun i σ H' _ ⟨e, _⟩ => by rw [e]; exact SqL.of ha) ?_ ?_⟩
  · rintro i y σ H' hi ⟨rfl, v4, v5, rfl, hp⟩
    obtain ⟨z, hz, p, rfl, hpz⟩ := hall.get hi
    have zm : z ∈ ar := List.mem_of_getElem? hz
    obtain ⟨vf, evf, hvf⟩ := hkn z.1 (hdm z zm)
    obtain ⟨nm, dp⟩ := hI z.1 (hdm z zm)
    have et : ar.take (i + 1) = ar.take i ++ [z] := by
      rw [List.take_add_one, hz]
      rfl
    have dg : DGet H' kd (.str z.1) (some vf) := by
      have q := DGet.k (k := Sum.inr z.1) hkd
      rw [evf] at q
      exact q
    refine ⟨p, _, rfl, .inl (.inl hpz), rfl, _, [_], rfl, _, [], rfl, rfl, ?_⟩
    refine ⟨_, rfl, _, rfl, _, rfl, kd, vf, rfl, dg, _, rfl, v, vf, x, M.sw, M.kn z.1, c, rfl, hsw, hvf, nm, hc, hcl, by omega, ?_⟩
    refine ⟨_, rfl, rfl, _, rfl, ?_⟩
    refine ite2 (fun c1 => ?_) (fun c1 => ?_)
    · -- not so: False
      have ne : ¬ (M.kn z.1).ev (swR M.sw (cfR c)) = z.2 := fun e => by
        rw [e, decide_eq_true rfl] at c1
        cases c1
      have e : pres M.sw M.kn ar (cfR c) = false := by
        unfold pres
        refine List.all_eq_false.mpr ⟨z, zm, ?_⟩
        simpa using ne
      rw [e] at k
      exact k
    · have eq : (M.kn z.1).ev (swR M.sw (cfR c)) = z.2 := Classical.byContradiction fun ne => c1 (by
        rw [decide_eq_false fun e => ne (V.bl.inj e)]
        rfl)
      refine ⟨rfl, _, _, rfl, ?_⟩
      rw [et, pres_append, hp]
      show pres M.sw M.kn [(z.1, z.2)] (cfR c) = true
      rw [pres_one, eq]
      simp
  · rintro σ H' ⟨rfl, v4, v5, rfl, hp⟩
    rw [hall.length, List.take_length] at hp
    rw [hp] at k
    exact k
end
end OF

set_option Elab.async false
set_option linter.all false
set_option maxRecDepth 100000
set_option maxHeartbeats 4000000
/-! M2: lines that are drawn: what stands open behind them; plain mathematics. -/
namespace OF
open PySem L2
def runL : Ar → List Ln → Ar
  | st, [] => st
  | st, ln :: r => runL (nxt st ln) r
def fineL (U I : Str → Prop) : Ar → List Ln → Prop
  | _, [] => True
  | st, ln :: r => okLn U I st ln ∧ fineL U I (nxt st ln) r
theorem runL_append : ∀ (st : Ar) (a b : List Ln), runL st (a ++ b) = runL (runL st a) b
  | _, [], _ => rfl
  | st, ln :: r, b => runL_append (nxt st ln) r b
theorem fineL_append {U I : Str → Prop} : ∀ {st : Ar} {a b : List Ln}, fineL U I st a → fineL U I (runL st a) b → fineL U I st (a ++ b)
  | _, [], _, _, h => h
  | st, ln :: r, b, ⟨h1, h2⟩, h => ⟨h1, fineL_append h2 h⟩
theorem fineL_take {U I : Str → Prop} : ∀ {st : Ar} {a : List Ln} (n : Nat), fineL U I st a → fineL U I st (a.take n)
  | _, _, 0, _ => by
    rw [List.take_zero]
    exact trivial
  | _, [], n + 1, _ => trivial
  | st, ln :: r, n + 1, ⟨h1, h2⟩ => ⟨h1, fineL_take n h2⟩
theorem okLn.mono {U U' I I' : Str → Prop} (hu : ∀ f, U f → U' f) (hi : ∀ s, I s → I' s) {st : Ar} {ln : Ln} (h : okLn U I st ln) : okLn U' I' st ln := by
  cases ln with
  | con s => exact h
  | use f => exact hu f h
  | iff s => exact ⟨hi s h.1, h.2⟩
  | els =>
    cases st with
    | nil => exact h
    | cons x st =>
      obtain ⟨s, b⟩ := x
      cases b <;> exact h
  | fin => cases st <;> exact h
theorem fineL.mono {U U' I I' : Str → Prop} (hu : ∀ f, U f → U' f) (hi : ∀ s, I s → I' s) : ∀ {ls : List Ln} {st : Ar}, fineL U I st ls → fineL U' I' st ls
  | [], _, _ => trivial
  | ln :: r, st, ⟨h1, h2⟩ => ⟨h1.mono hu hi, fineL.mono hu hi h2⟩
theorem okL_of {U I : Str → Prop} : ∀ {ls : List Ln} {st : Ar}, fineL U I st ls → runL st ls = [] → okL U I st ls
  | [], _, _, h => h
  | ln :: r, st, ⟨h1, h2⟩, h => ⟨h1, okL_of h2 h⟩
/-- what is open at the end is closed -/
def fins (n : Nat) : List Ln := List.replicate n .fin
theorem fins_ok {U I : Str → Prop} : ∀ (st : Ar), fineL U I st (fins st.length) ∧ runL st (fins st.length) = []
  | [] => ⟨trivial, rfl⟩
  | x :: st => by
    obtain ⟨h1, h2⟩ := fins_ok (U := U) (I := I) st
    exact ⟨⟨trivial, h1⟩, h2⟩
/-- lines that may stand inside conditions and leave open what was open -/
def Bal (U I : Str → Prop) (d : Nat) (ls : List Ln) : Prop := ∀ st : Ar, st.length + d ≤ 5 → fineL U I st ls ∧ runL st ls = st
theorem Bal.nil {U I : Str → Prop} {d : Nat} : Bal U I d [] := fun _ _ => ⟨trivial, rfl⟩
theorem Bal.append {U I : Str → Prop} {d : Nat} {a b : List Ln} (h : Bal U I d a) (g : Bal U I d b) : Bal U I d (a ++ b) := fun st hs => by
  obtain ⟨h1, h2⟩ := h st hs
  obtain ⟨g1, g2⟩ := g st hs
  refine ⟨fineL_append h1 (by rw [h2]; exact g1), ?_⟩
  rw [runL_append, h2, g2]
theorem Bal.mono {U I I' : Str → Prop} {d : Nat} {a : List Ln} (h : Bal U I d a) (hi : ∀ s, I s → I' s) : Bal U I' d a := fun st hs => ⟨(h st hs).1.mono (fun _ q => q) hi, (h st hs).2⟩
theorem Bal.con {U I : Str → Prop} {d : Nat} {s : Str} (h : Cont s) : Bal U I d [.con s] := fun st _ => by
  refine ⟨⟨h, trivial⟩, ?_⟩
  cases st <;> rfl
theorem Bal.use {U I : Str → Prop} {d : Nat} {f : Str} (h : U f) : Bal U I d [.use f] := fun st _ => by
  refine ⟨⟨h, trivial⟩, ?_⟩
  cases st <;> rfl
/-- a condition without an else -/
theorem Bal.iff {U I : Str → Prop} {d : Nat} {s : Str} {b : List Ln} (h : I s) (g : Bal U I d b) : Bal U I (d + 1) (.iff s :: (b ++ [.fin])) := fun st hs => by
  obtain ⟨g1, g2⟩ := g ((s, true) :: st) (by rw [List.length_cons]; omega)
  refine ⟨⟨⟨h, by omega⟩, fineL_append g1 ?_⟩, ?_⟩
  · show fineL U I (runL ((s, true) :: st) b) [.fin]
    rw [g2]
    exact ⟨trivial, trivial⟩
  · show runL ((s, true) :: st) (b ++ [.fin]) = st
    rw [runL_append, g2]
    rfl
/-- .. with an else -/
theorem Bal.ifelse {U I : Str → Prop} {d : Nat} {s : Str} {b c : List Ln} (h : I s) (g : Bal U I d b) (e : Bal U I d c) : Bal U I (d + 1) (.iff s :: (b ++ (.els :: c) ++ [.fin])) := fun st hs => by
  obtain ⟨g1, g2⟩ := g ((s, true) :: st) (by rw [List.length_cons]; omega)
  obtain ⟨e1, e2⟩ := e ((s, false) :: st) (by rw [List.length_cons]; omega)
  have r1 : runL ((s, true) :: st) (b ++ .els :: c) = (s, false) :: st := by
    rw [runL_append, g2]
    exact e2
  refine ⟨⟨⟨h, by omega⟩, fineL_append (fineL_append g1 ?_) ?_⟩, ?_⟩
  · show fineL U I (runL ((s, true) :: st) b) (.els :: c)
    rw [g2]
    exact ⟨trivial, e1⟩
  · show fineL U I (runL ((s, true) :: st) (b ++ .els :: c)) [.fin]
    rw [r1]
    exact ⟨trivial, trivial⟩
  · show runL ((s, true) :: st) (b ++ (.els :: c) ++ [.fin]) = st
    rw [runL_append, r1]
    rfl
/-- how many entries, how many lines a body makes for each of its turns -/
def bd : Nat → Nat
  | 0 => 0
  | d + 1 => 1 + 2 * (3 * bd d)
def ld : Nat → Nat
  | 0 => 1
  | d + 1 => 3 + 2 * (3 * ld d)
theorem ld_pos (d : Nat) : 1 ≤ ld d := by
  cases d <;> simp only [ld] <;> omega
theorem bd3 {d : Nat} (h : d ≤ 3) : bd d ≤ 43 := by
  match d, h with
  | 0, _ => decide
  | 1, _ => decide
  | 2, _ => decide
  | 3, _ => decide
theorem ld3 {d : Nat} (h : d ≤ 3) : ld d ≤ 345 := by
  match d, h with
  | 0, _ => decide
  | 1, _ => decide
  | 2, _ => decide
  | 3, _ => decide
/-! ### the six contents -/
theorem cont_of {s : Str} (h : (decide (s.length ≤ 60) && (tl s).all (fun c => decide (32 ≤ c ∧ c ≤ 126)) && decide ((tl s).head? ≠ some 35)) = true) : Cont s := by
  simp only [Bool.and_eq_true, List.all_eq_true, decide_eq_true_eq] at h
  obtain ⟨⟨h1, h2⟩, h3⟩ := h
  exact ⟨h1, h2, fun c hc e => h3 (by rw [hc, e])⟩
theorem cont0 : Cont "x = 1;" := cont_of (by decide +kernel)
theorem cont1 : Cont "" := cont_of (by decide +kernel)
theorem cont2 : Cont "  y" := cont_of (by decide +kernel)
theorem cont3 : Cont "a # b" := cont_of (by decide +kernel)
theorem cont4 : Cont "} else {" := cont_of (by decide +kernel)
theorem cont5 : Cont "0" := cont_of (by decide +kernel)
theorem int6 {r : Int} (h0 : 0 ≤ r) (h1 : r < 6) : r = 0 ∨ r = 1 ∨ r = 2 ∨ r = 3 ∨ r = 4 ∨ r = 5 := by omega
/-! ### the entries of the known texts -/
def lnV (ln : Ln) : V := .str ln.txt
/-- every entry is a text with its formula -/
def KvOk (sw : List Str) (H : Hp) (kvs : List (Key × V)) : Prop := ∀ k v, valV kvs k = some v → ∃ s f, k = Sum.inr s ∧ FAt H v f ∧ PrE sw 3 f (tl s) ∧ s.length ≤ 60
theorem KvOk.imm {sw : List Str} {H H' : Hp} {kvs : List (Key × V)} (i : Imm H H') (h : KvOk sw H kvs) : KvOk sw H' kvs := fun k v e => by
  obtain ⟨s, f, h1, h2, h3⟩ := h k v e
  exact ⟨s, f, h1, h2.imm i, h3⟩
/-- the text is known -/
def isKey (kvs : List (Key × V)) (s : Str) : Prop := ∃ v, valV kvs (Sum.inr s) = some v
theorem isKey_put {kvs : List (Key × V)} {k : Key} {v : V} {s : Str} (h : isKey kvs s) : isKey (putK kvs k v) s := by
  obtain ⟨u, e⟩ := h
  unfold isKey
  rw [valV_put]
  by_cases c : Sum.inr s = k
  · exact ⟨v, by rw [if_pos c]⟩
  · exact ⟨u, by rw [if_neg c]; exact e⟩
theorem isKey_new {kvs : List (Key × V)} {v : V} {s : Str} : isKey (putK kvs (Sum.inr s) v) s := ⟨v, by rw [valV_put, if_pos rfl]⟩
theorem KvOk.put {sw : List Str} {H : Hp} {kvs : List (Key × V)} {s : Str} {f : Fo} {v : V} (h : KvOk sw H kvs) (hf : FAt H v f) (hp : PrE sw 3 f (tl s)) (hl : s.length ≤ 60) : KvOk sw H (putK kvs (Sum.inr s) v) := fun k u e => by
  rw [valV_put] at e
  by_cases c : k = Sum.inr s
  · rw [if_pos c] at e
    cases e
    exact ⟨s, f, c, hf, hp, hl⟩
  · rw [if_neg c] at e
    exact h k u e
theorem putK_le (c : List (Key × V)) (k : Key) (x : V) : (putK c k x).length ≤ c.length + 1 := by
  unfold putK
  by_cases e : (c.any fun kv => decide (kv.1 = k)) = true
  · rw [if_pos e, List.length_map]
    omega
  · rw [if_neg e, List.length_append]
    exact Nat.le_refl _
end OF

set_option Elab.async false
set_option linter.all false
set_option maxRecDepth 100000
set_option maxHeartbeats 4000000
/-! E1: _law_body. -/
namespace OF
open PySem L2
/-- where a body stands: the tape, the known texts, the lines so far -/
structure BSt (sw : List Str) (t a kd : Addr) (H H' : Hp) (lp : Addr) (xs : List Ln) (kvs : List (Key × V)) : Prop where
  tp : TapeAt H' t a
  hk : H' kd = some (.dK kvs)
  ok : KvOk sw H' kvs
  li : H' lp = some (.lst (xs.map lnV))
  lp0 : H lp = none
  bt : Buts [t, kd] H H'
section
variable {sw : List Str} {t a kd lp : Addr} {H H1 H2 : Hp} {xs : List Ln} {kvs : List (Key × V)}
/-- a draw -/
theorem BSt.draw (b : BSt sw t a kd H H1 lp xs kvs) (h0 : ∃ o, H t = some o) (tp : TapeAt H2 t a) (bt : But t H1 H2) : BSt sw t a kd H H2 lp xs kvs := by
  have nlt : lp ≠ t := fun q => by
    obtain ⟨o, e⟩ := h0
    rw [← q, b.lp0] at e
    cases e
  have nkt : kd ≠ t := fun q => by
    obtain ⟨o, e, _⟩ := b.tp.wr
    obtain ⟨ns, pos, x, y, d, h1, _⟩ := b.tp
    have z := b.hk
    rw [q, h1] at z
    cases z
  exact ⟨tp, bt _ _ b.hk nkt, b.ok.imm (b.tp.imm bt), bt _ _ b.li nlt, b.lp0, b.bt.trans (bt.buts (by simp))⟩
theorem BSt.same (b : BSt sw t a kd H H1 lp xs kvs) (s : Same H1 H2) : BSt sw t a kd H H2 lp xs kvs :=
  ⟨b.tp.same s, s _ _ b.hk, b.ok.imm (imm_same s), s _ _ b.li, b.lp0, b.bt.trans (Buts.of s)⟩
/-- the list of lines is neither the tape nor its list -/
theorem BSt.apart (b : BSt sw t a kd H H1 lp xs kvs) (h0 : TapeAt H t a) : lp ≠ t ∧ lp ≠ a ∧ lp ≠ kd := by
  obtain ⟨⟨o, e1⟩, ⟨o', e2⟩⟩ := h0.there
  refine ⟨fun q => ?_, fun q => ?_, fun q => ?_⟩
  · rw [← q, b.lp0] at e1
    cases e1
  · rw [← q, b.lp0] at e2
    cases e2
  · have z := b.li
    rw [q, b.hk] at z
    cases z
/-- lines.append(line) -/
theorem BSt.app (b : BSt sw t a kd H H1 lp xs kvs) (h0 : TapeAt H t a) (ln : Ln) : BSt sw t a kd H (upd H1 lp (.lst (xs.map lnV ++ [lnV ln]))) lp (xs ++ [ln]) kvs := by
  obtain ⟨n1, n2, n3⟩ := b.apart h0
  have i : Imm H1 (upd H1 lp (.lst (xs.map lnV ++ [lnV ln]))) := But.imm (But.upd (a := lp)) b.li trivial
  refine ⟨b.tp.upd n1 n2, by rw [upd_ne n3.symm]; exact b.hk, b.ok.imm i, by rw [upd_same, List.map_append]; rfl, b.lp0, fun c o e n => ?_⟩
  have nc : c ≠ lp := ne_of_none e b.lp0
  rw [upd_ne nc]
  exact b.bt c o e n
/-- a call that draws and knows more -/
theorem BSt.call {q : Addr} {ls : List Ln} {kvs2 : List (Key × V)} (b : BSt sw t a kd H H1 lp xs kvs) (h0 : TapeAt H t a) (c : BSt sw t a kd H1 H2 q ls kvs2) : BSt sw t a kd H H2 lp xs kvs2 := by
  obtain ⟨n1, n2, n3⟩ := b.apart h0
  exact ⟨c.tp, c.hk, c.ok, c.bt _ _ b.li (by simp [n1, n3]), b.lp0, b.bt.trans c.bt⟩
/-- a text becomes known -/
theorem BSt.know (b : BSt sw t a kd H H1 lp xs kvs) (h0 : TapeAt H t a) {s : Str} {f : Fo} {v : V} (hf : FAt H1 v f) (hp : PrE sw 3 f (tl s)) (hl : s.length ≤ 60) : BSt sw t a kd H (upd H1 kd (.dK (putK kvs (Sum.inr s) v))) lp xs (putK kvs (Sum.inr s) v) := by
  obtain ⟨n1, n2, n3⟩ := b.apart h0
  have i : Imm H1 (upd H1 kd (.dK (putK kvs (Sum.inr s) v))) := But.imm (But.upd (a := kd)) b.hk trivial
  obtain ⟨ns, pos, x, y, d, h1, h2, h3, h4⟩ := b.tp
  have m1 : kd ≠ t := ne_of b.hk h1 (by intro q; cases q)
  have m2 : kd ≠ a := ne_of b.hk h2 (by intro q; cases q)
  exact ⟨b.tp.upd m1 m2, upd_same, (b.ok.put hf hp hl).imm i, by rw [upd_ne n3]; exact b.li, b.lp0, b.bt.trans (Buts.upd (by simp))⟩
/-- a new list of lines -/
theorem BSt.fresh (b : BSt sw t a kd H H1 lp xs kvs) {r : Addr} (hr : H1 r = none) (h0 : TapeAt H t a) (hk : ∃ o, H kd = some o) (ys : List Ln) : BSt sw t a kd H (upd H1 r (.lst (ys.map lnV))) r ys kvs := by
  have s := same_new (o := .lst (ys.map lnV)) hr
  refine ⟨b.tp.same s, s _ _ b.hk, b.ok.imm (imm_same s), upd_same, ?_, b.bt.trans (Buts.of s)⟩
  cases e : H r with
  | none => rfl
  | some o =>
    have z := b.bt r o e (by
      obtain ⟨ns, pos, x, y, d, h1, _⟩ := b.tp
      intro q
      rcases List.mem_cons.mp q with q | q
      · rw [q, h1] at hr
        cases hr
      · rw [List.mem_singleton.mp q, b.hk] at hr
        cases hr)
    rw [hr] at z
    cases z
end
def spBody (n : Nat) : Sp := fun vs H Q _ => ∃ (t a nm kd : Addr) (vsw : V) (d : Nat) (sw names : List Str) (kvs : List (Key × V)), vs = [.ref t, vsw, .ref nm, .int (d : Int), .ref kd] ∧ TapeAt H t a ∧ SwAt H vsw sw ∧ SwOk sw ∧
  H nm = some (.lst (names.map V.str)) ∧ nm ≠ t ∧ names.length ≤ 4 ∧ (∀ f ∈ names, f.length ≤ 8) ∧ H kd = some (.dK kvs) ∧ KvOk sw H kvs ∧ d < n ∧ n ≤ 4 ∧ kvs.length + 3 * bd d ≤ 1000 ∧
  ∀ p ls kvs' H', BSt sw t a kd H H' p ls kvs' → Bal (· ∈ names) (isKey kvs') d ls → ls.length ≤ 3 * ld d → kvs'.length ≤ kvs.length + 3 * bd d → (∀ s, isKey kvs s → isKey kvs' s) → Q (.ref p) H'
theorem lnV_map (ls : List Ln) : ls.map lnV = (ls.map Ln.txt).map V.str := by
  rw [List.map_map]
  rfl
/-- a row of two tests whose answers are known -/
theorem and_reads {t u : TT} {σ : L2.St} {H : Hp} {Q : Bool → Hp → Prop} (b1 b2 : Bool) (h1 : ∀ R : Bool → Hp → Prop, R b1 H → t σ H R) (h2 : b1 = true → ∀ R : Bool → Hp → Prop, R b2 H → u σ H R) (q : Q (b1 && b2) H) : tAnd t u σ H Q := by
  refine h1 _ ?_
  cases b1 with
  | true => exact iteT (h2 rfl _ q)
  | false => exact iteF q
section
variable {P : Program} {w : World} {K : PySem.W.Frag} {mg : Str → Option Value} {base : Heap}
theorem scBody : FnScope ["_law_tape_here", "_law_switches_here", "_law_names", "_law_deep", "_law_known", "_law_lines", "_law_k", "_law_draw", "_law_formula_here", "_law_text"] ["_law_tape_here", "_law_switches_here", "_law_names", "_law_deep", "_law_known"] (defScope sBody) :=
  ⟨rfl, rfl, rfl, by decide +kernel, rfl, by decide +kernel, by decide +kernel⟩
theorem ok_body (T : LwT K mg) : ∀ n : Nat, FnOk P w K mg base CX0 (n + 16) T.body.f T.body.fd ["_law_tape_here", "_law_switches_here", "_law_names", "_law_deep", "_law_known"] (spBody n)
  | 0 => never_ok fun vs H Q E h => by
    obtain ⟨t, a, nm, kd, vsw, d, sw, names, kvs, _, _, _, _, _, _, _, _, _, _, z, _⟩ := h
    omega
  | n + 1 => by
    have GT : FnOk P w K mg base CX0 2 T.take.f T.take.fd ["_law_tape_here", "_law_many"] (spTake K) := ok_take T
    have GF : FnOk P w K mg base CX0 16 T.formula.f T.formula.fd ["_law_tape_here", "_law_switches_here"] spFormula := ok_formula T
    have G := ok_body T n
    refine T.body.F.ok scBody (fun vs H Q E h => ?_) (fun cdv A outer s H vs Q E hr h => ?_)
    · obtain ⟨t, a, nm, kd, vsw, d, sw, names, kvs, rfl, _⟩ := h
      rfl
    obtain ⟨t, a, nm, kd, vsw, d, sw, names, kvs, rfl, tp, hsw, ok, hnm, nmt, hn4, hn8, hkd, hkv, hd, hn, hk, k⟩ := h
    have hr2 : Room 2 _ := hr.mono (by omega)
    have hr16 : Room 16 _ := hr.mono (by omega)
    have h0t : ∃ o, H t = some o := tp.there.1
    have h0k : ∃ o, H kd = some o := ⟨_, hkd⟩
    have nmk : nm ≠ kd := ne_of hnm hkd (by intro q; cases q)
    have bd43 := bd3 (d := d) (by omega)
    have ld345 := ld3 (d := d) (by omega)
    have ldp := ld_pos d
    have hwr : ∀ b ∈ [t, kd], ∃ o, H b = some o ∧ Wr o := fun b hb => by
      rcases List.mem_cons.mp hb with q | q
      · rw [q]
        exact tp.wr
      · rw [List.mem_singleton.mp q]
        exact ⟨_, hkd, trivial⟩
    refine ⟨_, (pss_cons (ps_set (i := 5) scBody.nd rfl (.inl rfl) (pe_lst pa_nil))
          (pss_cons (ps_for PassesOwn.never rfl (pi_range1 rfl T.mrange (pa_cons (pcall T.take GT hr2 (pa_cons (pv 0) (pa_cons pe_int pa_nil))) pa_nil)) (pg_name (i := 6) scBody.nd rfl (.inl rfl)) (pss_cons (ps_set (i := 7) scBody.nd rfl (.inl rfl) (pcall T.take GT hr2 (pa_cons (pv 0) (pa_cons pe_int pa_nil))))
            (pss_one (ps_if (pt_cmpR op_lt (pv 7) pe_int (nomark _)) (pss_one (ps_expr (pe_bm PySem.F.plainAttrs_list PySem.F.slot_list_append PySem.F.type_list_append mt_append (pv 5) (pa_cons (pe_ix ix_list (pe_lst (pa_cons pe_str (pa_cons pe_str (pa_cons pe_str (pa_cons pe_str (pa_cons pe_str (pa_cons pe_str pa_nil))))))) (pcall T.take GT hr2 (pa_cons (pv 0) (pa_cons pe_int pa_nil))) (fun _ _ => rfl)) pa_nil)))) (pss_one (ps_if (PW.pt (pw_and (pt_cmpR op_eq (pv 7) pe_int (nomark _)) (pw_and1 (pt_cmpR op_gt (pe_callB call_len_seq (by rfl) T.F.S.ml PySem.boot_len (pa_cons (pv 2) pa_nil)) pe_int (nomark _))))) (pss_one (ps_expr (pe_bm PySem.F.plainAttrs_list PySem.F.slot_list_append PySem.F.type_list_append mt_append (pv 5) (pa_cons (pe_op op_add_str pe_str (pe_ix ix_list (pv 2) (pcall T.take GT hr2 (pa_cons (pv 0) (pa_cons (pe_callB call_len_seq (by rfl) T.F.S.ml PySem.boot_len (pa_cons (pv 2) pa_nil)) pa_nil))) (fun _ _ => rfl))) pa_nil)))) (pss_one (ps_if (pt_cmpR op_gt (pv 3) pe_int (nomark _)) (pss_cons (ps_asg (pcall T.formula GF hr16 (pa_cons (pv 0) (pa_cons (pv 1) pa_nil))) (pg_tup rfl (pgs_cons (pg_name (i := 8) scBody.nd rfl (.inl rfl)) (pgs_cons (pg_name (i := 9) scBody.nd rfl (.inl rfl)) pgs_nil))))
                  (pss_cons (ps_dput (hu_of hr) (pv 4) (pv 9) (pv 8) rfl)
                  (pss_cons (ps_expr (pe_bm PySem.F.plainAttrs_list PySem.F.slot_list_append PySem.F.type_list_append mt_append (pv 5) (pa_cons (pe_op op_add_str pe_str (pv 9)) pa_nil)))
                  (pss_cons (ps_set (i := 5) scBody.nd rfl (.inl rfl) (pe_op op_cat (pv 5) (pcall T.body G hr (pa_cons (pv 0) (pa_cons (pv 1) (pa_cons (pv 2) (pa_cons (pe_op op_sub (pv 3) pe_int) (pa_cons (pv 4) pa_nil))))))))
                  (Evl.pss_cut (ps_if (pt_cmpR op_eq (pcall T.take GT hr2 (pa_cons (pv 0) (pa_cons pe_int pa_nil))) pe_int (nomark _)) (pss_one (ps_set (i := 5) scBody.nd rfl (.inl rfl) (pe_op op_cat (pe_op op_cat (pv 5) (pe_lst (pa_cons pe_str pa_nil))) (pcall T.body G hr (pa_cons (pv 0) (pa_cons (pv 1) (pa_cons (pv 2) (pa_cons (pe_op op_sub (pv 3) pe_int) (pa_cons (pv 4) pa_nil))))))))) pss_nil)
                  (pss_one (ps_expr (pe_bm PySem.F.plainAttrs_list PySem.F.slot_list_append PySem.F.type_list_append mt_append (pv 5) (pa_cons pe_str pa_nil))))))))) pss_nil))))))))
          (pss_one (ps_ret (pv 5))))), ?_⟩
    refine ⟨(by show 0 ≤ sizeLine; decide), fun l0 hl0 => ?_⟩
    have s0 := same_new (o := .lst []) hl0
    refine ⟨_, rfl, t, a, 4, rfl, tp.same s0, by decide, by decide, fun r H1 r0 r4 tp1 b1 => ?_⟩
    have st0 : BSt sw t a kd H (upd H l0 (.lst [])) l0 [] kvs := ⟨tp.same s0, s0 _ _ hkd, hkv.imm (imm_same s0), upd_same, hl0, Buts.of s0⟩
    have st1 := st0.draw h0t tp1 b1
    refine ⟨r, rfl, by omega, by omega, for_range (lo := 0) (n := r.toNat) (fun i σ H' => ∃ lp xs kvs' v6 v7 v8 v9, σ = [some (.ref t), some vsw, some (.ref nm), some (.int (d : Int)), some (.ref kd), some (.ref lp), v6, v7, v8, v9] ∧
        BSt sw t a kd H H' lp xs kvs' ∧ Bal (· ∈ names) (isKey kvs') d xs ∧ xs.length ≤ i * ld d ∧ kvs'.length ≤ kvs.length + i * bd d ∧ (∀ s, isKey kvs s → isKey kvs' s))
      ⟨l0, [], kvs, none, none, none, none, rfl, st1, .nil, by simp, by simp, fun _ h => h⟩ ?_ ?_⟩
    · rintro i σ H2 hi ⟨lp, xs, kvs', v6, v7, v8, v9, rfl, st2, bal, xl, kl, mono⟩
      have i2 : i ≤ 2 := by omega
      have xb : xs.length ≤ 690 := by
        have : i * ld d ≤ 2 * 345 := Nat.mul_le_mul i2 ld345
        omega
      have kb : i * bd d ≤ 2 * bd d := Nat.mul_le_mul_right _ i2
      have xi : (i + 1) * ld d = i * ld d + ld d := Nat.succ_mul _ _
      have ki : (i + 1) * bd d = i * bd d + bd d := Nat.succ_mul _ _
      -- draw
      refine ⟨_, rfl, t, a, 8, rfl, st2.tp, by decide, by decide, fun r3 H3 c0 c8 tp3 b3 => ?_⟩
      have st3 := st2.draw h0t tp3 b3
      refine ⟨_, rfl, _, _, rfl, rfl, _, rfl, ?_⟩
      refine ite2 (fun c => ?_) (fun c => ?_)
      · -- a content line
        refine ⟨_, rfl, .inl ⟨rfl, _, SqL.of st3.li⟩, (by show 6 ≤ sizeLine; decide), fun q hq => ?_⟩
        have sq := same_new (o := .lst ([.str "x = 1;", .str "", .str "  y", .str "a # b", .str "} else {", .str "0"])) hq
        have st4 := st3.same sq
        refine ⟨_, rfl, t, a, 6, rfl, st4.tp, by decide, by decide, fun r5 H5 e0 e6 tp5 b5 => ?_⟩
        have st5 := st4.draw h0t tp5 b5
        have nqt : q ≠ t := by
          obtain ⟨⟨o, e⟩, _⟩ := st3.tp.there
          exact (ne_of_none e hq).symm
        have hq5 := b5 _ _ upd_same nqt
        have fin : ∀ z : Str, Cont z → rAppend (.ref lp) [.str z] H5 fun _ H' => ∃ lp' xs kvs' v6' v7' v8' v9', [some (V.ref t), some vsw, some (.ref nm), some (.int (d : Int)), some (.ref kd), some (.ref lp), some (.int (0 + (i : Int))), some (.int r3), v8, v9] = [some (.ref t), some vsw, some (.ref nm), some (.int (d : Int)), some (.ref kd), some (.ref lp'), v6', v7', v8', v9'] ∧
            BSt sw t a kd H H' lp' xs kvs' ∧ Bal (· ∈ names) (isKey kvs') d xs ∧ xs.length ≤ (i + 1) * ld d ∧ kvs'.length ≤ kvs.length + (i + 1) * bd d ∧ (∀ s, isKey kvs s → isKey kvs' s) := by
          intro z hz
          refine ⟨lp, _, _, rfl, rfl, st5.li, small1000 (by rw [List.length_map]; omega), lp, xs ++ [Ln.con z], kvs', _, _, _, _, rfl, st5.app tp (.con z), bal.append (.con hz), ?_, by omega, mono⟩
          rw [List.length_append]
          show xs.length + 1 ≤ _
          omega
        rcases int6 e0 e6 with rfl | rfl | rfl | rfl | rfl | rfl
        · exact ⟨q, _, _, _, rfl, rfl, SqL.of hq5, at_of (j := 0) rfl rfl, fin _ cont0⟩
        · exact ⟨q, _, _, _, rfl, rfl, SqL.of hq5, at_of (j := 1) rfl rfl, fin _ cont1⟩
        · exact ⟨q, _, _, _, rfl, rfl, SqL.of hq5, at_of (j := 2) rfl rfl, fin _ cont2⟩
        · exact ⟨q, _, _, _, rfl, rfl, SqL.of hq5, at_of (j := 3) rfl rfl, fin _ cont3⟩
        · exact ⟨q, _, _, _, rfl, rfl, SqL.of hq5, at_of (j := 4) rfl rfl, fin _ cont4⟩
        · exact ⟨q, _, _, _, rfl, rfl, SqL.of hq5, at_of (j := 5) rfl rfl, fin _ cont5⟩
      -- nothing is drawn
      have idle : ∃ lp' xs kvs' v6' v7' v8' v9', [some (V.ref t), some vsw, some (.ref nm), some (.int (d : Int)), some (.ref kd), some (.ref lp), some (.int (0 + (i : Int))), some (.int r3), v8, v9] = [some (.ref t), some vsw, some (.ref nm), some (.int (d : Int)), some (.ref kd), some (.ref lp'), v6', v7', v8', v9'] ∧
            BSt sw t a kd H H3 lp' xs kvs' ∧ Bal (· ∈ names) (isKey kvs') d xs ∧ xs.length ≤ (i + 1) * ld d ∧ kvs'.length ≤ kvs.length + (i + 1) * bd d ∧ (∀ s, isKey kvs s → isKey kvs' s) :=
        ⟨lp, xs, kvs', _, _, _, _, rfl, st3, bal, by omega, by omega, mono⟩
      unfold tIfS
      refine and_reads (decide (r3 = 4)) (decide (0 < (names.length : Int))) (fun R q => ⟨_, rfl, rfl, _, rfl, ?_⟩) (fun _ R q => ?_) ?_
      · have e : decide (V.int r3 = V.int 4) = decide (r3 = 4) := by
          by_cases c4 : r3 = 4
          · rw [c4]
            rfl
          · rw [decide_eq_false c4, decide_eq_false fun z => c4 (V.int.inj z)]
        rw [e]
        exact q
      · have hnm3 : H3 nm = some (.lst (names.map V.str)) := st3.bt _ _ hnm (by simp [nmt, nmk])
        refine ⟨_, rfl, nm, _, rfl, .inl (SqL.of hnm3), _, _, rfl, rfl, _, rfl, ?_⟩
        rw [List.length_map]
        exact q
      refine ite2 (fun cu => ?_) (fun cu => ?_)
      · -- a use
        rw [Bool.and_eq_true, decide_eq_true_eq, decide_eq_true_eq] at cu
        have hnm3 : H3 nm = some (.lst (names.map V.str)) := st3.bt _ _ hnm (by simp [nmt, nmk])
        refine ⟨_, rfl, .inl ⟨rfl, _, SqL.of st3.li⟩, _, rfl, _, rfl, _, rfl, nm, _, rfl, .inl (SqL.of hnm3), t, a, _, rfl, st3.tp, (by rw [List.length_map]; omega), (by rw [List.length_map]; omega), fun r5 H5 e0 e1 tp5 b5 => ?_⟩
        rw [List.length_map] at e1
        have st5 := st3.draw h0t tp5 b5
        have hnm5 := b5 _ _ hnm3 nmt
        obtain ⟨g, hg⟩ : ∃ g, names[r5.toNat]? = some g := ⟨names[r5.toNat]'(by omega), List.getElem?_eq_getElem (by omega)⟩
        have gm : g ∈ names := List.mem_of_getElem? hg
        refine ⟨nm, _, _, _, rfl, rfl, SqL.of hnm5, at_of (j := r5.toNat) (by omega) (by rw [List.getElem?_map, hg]; rfl), _, _, rfl, rfl, szs (by have := hn8 g gm; show 5 + g.length ≤ 100000; omega), ?_⟩
        refine ⟨lp, _, _, rfl, rfl, st5.li, small1000 (by rw [List.length_map]; omega), lp, xs ++ [Ln.use g], kvs', _, _, _, _, rfl, st5.app tp (.use g), bal.append (.use gm), ?_, by omega, mono⟩
        rw [List.length_append]
        show xs.length + 1 ≤ _
        omega
      -- a condition, or nothing
      refine ⟨_, rfl, _, _, rfl, rfl, _, rfl, ?_⟩
      cases d with
      | zero => exact iteF idle
      | succ d =>
        rw [decide_eq_true (show (0 : Int) < ((d + 1 : Nat) : Int) by omega)]
        refine iteT ?_
        have hsw3 : SwAt H3 vsw sw := hsw.imm (st3.bt.imm hwr)
        refine ⟨_, rfl, _, rfl, t, a, vsw, sw, rfl, st3.tp, hsw3, ok, fun v f z H4 ⟨p4, vf, e4, h4, f4⟩ pr4 lz tp4 b4 => ?_⟩
        subst e4
        have st4 := st3.draw h0t tp4 b4
        refine ⟨p4, _, rfl, .inl (.inl h4), rfl, _, [_], rfl, _, [], rfl, rfl, ?_⟩
        have bdS : bd (d + 1) = 1 + 2 * (3 * bd d) := rfl
        have ldS : ld (d + 1) = 3 + 2 * (3 * ld d) := rfl
        refine ⟨_, rfl, _, rfl, _, rfl, kd, _, rfl, DPut.k (k := Sum.inr z) st4.hk (small1000 (by omega)), ?_⟩
        have st5 := st4.know tp f4 pr4 lz
        have k5 := putK_le kvs' (Sum.inr z) vf
        have hkz : isKey (putK kvs' (Sum.inr z) vf) z := isKey_new
        have mono5 : ∀ s, isKey kvs' s → isKey (putK kvs' (Sum.inr z) vf) s := fun s q => isKey_put q
        generalize putK kvs' (Sum.inr z) vf = kvs5 at st5 k5 hkz mono5 ⊢
        refine ⟨_, rfl, .inl ⟨rfl, _, SqL.of st5.li⟩, _, rfl, _, _, rfl, rfl, szs (by show 4 + z.length ≤ 100000; omega), ?_⟩
        refine ⟨lp, _, _, rfl, rfl, st5.li, small1000 (by rw [List.length_map]; omega), ?_⟩
        have st6 : BSt sw t a kd H _ lp (xs ++ [Ln.iff z]) kvs5 := st5.app tp (.iff z)
        have ed : ((d + 1 : Nat) : Int) - 1 = (d : Int) := by omega
        -- lines = lines + body
        refine ⟨_, rfl, _, rfl, _, rfl, _, rfl, _, rfl, _, _, rfl, rfl, _, rfl, t, a, nm, kd, vsw, d, sw, names, kvs5, (by show [V.ref t, vsw, V.ref nm, V.int (((d + 1 : Nat) : Int) - 1), V.ref kd] = _; rw [ed]), st6.tp, hsw.imm (st6.bt.imm hwr), ok, st6.bt _ _ hnm (by simp [nmt, nmk]), nmt, hn4, hn8, st6.hk, st6.ok, by omega, by omega, by omega, fun q1 ls1 kvs7 H7 c7 bal7 l7 k7 m7 => ?_⟩
        have st7 := st6.call tp c7
        refine ⟨lp, q1, _, _, rfl, rfl, st7.li, c7.li, szs (by rw [List.length_map, List.length_map, List.length_append]; show xs.length + 1 + ls1.length ≤ 100000; omega), fun r8 hr8 => ?_⟩
        have st8 : BSt sw t a kd H _ r8 (xs ++ [Ln.iff z] ++ ls1) kvs7 := st7.fresh hr8 tp h0k _
        rw [List.map_append] at st8
        generalize upd H7 r8 (HO.lst (List.map lnV (xs ++ [Ln.iff z]) ++ List.map lnV ls1)) = H8 at st8 ⊢
        -- if a draw is 0: the else
        refine ⟨fun σ H' => ∃ lq rest kvs9, σ = [some (V.ref t), some vsw, some (.ref nm), some (.int ((d + 1 : Nat) : Int)), some (.ref kd), some (.ref lq), some (.int (0 + (i : Int))), some (.int r3), some vf, some (.str z)] ∧ BSt sw t a kd H H' lq (xs ++ Ln.iff z :: rest) kvs9 ∧
            Bal (· ∈ names) (isKey kvs9) (d + 1) (Ln.iff z :: (rest ++ [.fin])) ∧ rest.length ≤ 1 + 2 * (3 * ld d) ∧ kvs9.length ≤ kvs5.length + 2 * (3 * bd d) ∧ (∀ s, isKey kvs5 s → isKey kvs9 s), ?_, ?_⟩
        · refine ⟨_, rfl, t, a, 2, rfl, st8.tp, by decide, by decide, fun r9 H9 e0 e1 tp9 b9 => ?_⟩
          have st9 := st8.draw h0t tp9 b9
          refine ⟨rfl, _, rfl, ?_⟩
          refine ite2 (fun c9 => ?_) (fun c9 => ?_)
          · refine ⟨_, rfl, (by show 1 ≤ sizeLine; decide), fun e10 he10 => ?_⟩
            have s10 := same_new (o := .lst [.str "#else"]) he10
            have st10 := st9.same s10
            refine ⟨r8, e10, _, _, rfl, rfl, st10.li, upd_same, szs (by rw [List.length_map, List.length_append, List.length_append]; show xs.length + 1 + ls1.length + 1 ≤ 100000; omega), fun r11 hr11 => ?_⟩
            have st11 : BSt sw t a kd H _ r11 (xs ++ [Ln.iff z] ++ ls1 ++ [Ln.els]) kvs7 := st10.fresh hr11 tp h0k _
            rw [List.map_append] at st11
            refine ⟨_, rfl, _, rfl, _, rfl, _, rfl, _, _, rfl, rfl, _, rfl, t, a, nm, kd, vsw, d, sw, names, kvs7, (by show [V.ref t, vsw, V.ref nm, V.int (((d + 1 : Nat) : Int) - 1), V.ref kd] = _; rw [ed]), st11.tp, hsw.imm (st11.bt.imm hwr), ok, st11.bt _ _ hnm (by simp [nmt, nmk]), nmt, hn4, hn8, st11.hk, st11.ok, by omega, by omega, by omega, fun q2 ls2 kvs12 H12 c12 bal12 l12 k12 m12 => ?_⟩
            have st12 := BSt.call st11 tp c12
            refine ⟨r11, q2, _, _, rfl, rfl, st12.li, c12.li, szs (by rw [List.length_map, List.length_map, List.length_append, List.length_append, List.length_append]; show xs.length + 1 + ls1.length + 1 + ls2.length ≤ 100000; omega), fun r13 hr13 => ?_⟩
            have st13 : BSt sw t a kd H _ r13 (xs ++ [Ln.iff z] ++ ls1 ++ [Ln.els] ++ ls2) kvs12 := st12.fresh hr13 tp h0k _
            refine ⟨r13, ls1 ++ Ln.els :: ls2, kvs12, rfl, ?_, Bal.ifelse (m12 _ (m7 _ hkz)) (bal7.mono m12) bal12, ?_, by omega, fun s q => m12 s (m7 s q)⟩
            · rw [List.map_append] at st13
              simpa using st13
            · rw [List.length_append, List.length_cons]
              omega
          · refine ⟨r8, ls1, kvs7, rfl, ?_, Bal.iff (m7 _ hkz) bal7, by omega, by omega, m7⟩
            simpa using st9
        · rintro σ H9 ⟨lq, rest, kvs9, rfl, st9, bal9, l9, k9, m9⟩
          refine ⟨_, rfl, .inl ⟨rfl, _, SqL.of st9.li⟩, lq, _, _, rfl, rfl, st9.li, Evl.sz_lt ?_, lq, xs ++ (Ln.iff z :: (rest ++ [Ln.fin])), kvs9, _, _, _, _, rfl, ?_, ?_, ?_, ?_, fun s q => m9 s (mono5 s (mono s q))⟩
          · rw [List.length_map, List.length_append, List.length_cons]
            omega
          · have := st9.app tp .fin
            rw [show lnV Ln.fin = V.str "#end" from rfl] at this
            simpa using this
          · exact (bal.mono fun s q => m9 s (mono5 s q)).append bal9
          · rw [List.length_append, List.length_cons, List.length_append]
            show xs.length + (rest.length + 1 + 1) ≤ _
            omega
          · omega
    · rintro σ H2 ⟨lp, xs, kvs', v6, v7, v8, v9, rfl, st2, bal, xl, kl, mono⟩
      have e1 : r.toNat * ld d ≤ 3 * ld d := Nat.mul_le_mul_right _ (by omega)
      have e2 : r.toNat * bd d ≤ 3 * bd d := Nat.mul_le_mul_right _ (by omega)
      exact ⟨_, rfl, k lp xs kvs' H2 st2 bal (by omega) (by omega) mono⟩
end
end OF

set_option Elab.async false
set_option linter.all false
set_option maxRecDepth 100000
set_option maxHeartbeats 4000000
/-! E2: texts of lines; _law_closed. -/
namespace OF
open PySem L2
/-! ### no line break in a line -/
theorem chain_sg {op : Fo → Fo → Fo} {ch : Nat} {P : Fo → List Nat → Prop} (hc : 32 ≤ ch ∧ ch ≤ 126) (hP : ∀ f s, P f s → ∀ c ∈ s, 32 ≤ c ∧ c ≤ 126) {f : Fo} {s : List Nat} (h : Chain op ch P f s) : ∀ c ∈ s, 32 ≤ c ∧ c ≤ 126 := by
  obtain ⟨f0, s0, its, h1, h2, rfl, rfl⟩ := h
  intro c hcm
  rcases List.mem_append.mp hcm with q | q
  · exact hP _ _ h1 c q
  · obtain ⟨i, hi, hq⟩ := List.mem_flatMap.mp q
    obtain ⟨ha, hb, hp⟩ := h2 i hi
    unfold It.txt at hq
    rcases List.mem_append.mp hq with q | q
    · rw [ha c q]
      omega
    · rcases List.mem_cons.mp q with q | q
      · rw [q]
        exact hc
      · rcases List.mem_append.mp q with q | q
        · rw [hb c q]
          omega
        · exact hP _ _ hp c q
theorem PrP.sg {sw : List Str} (ok : SwOk sw) : ∀ {n : Nat} {f : Fo} {s : List Nat}, PrP sw n f s → ∀ c ∈ s, 32 ≤ c ∧ c ≤ 126
  | 0, _, _, h => h.elim
  | n + 1, f, s, h => by
    rcases h with ⟨x, hx, rfl, rfl⟩ | ⟨rfl, rfl⟩ | ⟨rfl, rfl⟩ | ⟨g, t, a, h1, h2, rfl, rfl⟩ | ⟨t, a, b, h1, h2, h3, rfl⟩
    · intro c hc
      have := (ok.ltr x hx).2.1 c hc
      unfold isL at this
      omega
    · intro c hc
      rw [List.mem_singleton.mp hc]
      omega
    · intro c hc
      rw [List.mem_singleton.mp hc]
      omega
    · intro c hc
      rcases List.mem_cons.mp hc with q | q
      · omega
      · rcases List.mem_append.mp q with q | q
        · rw [h2 c q]
          omega
        · exact PrP.sg ok h1 c q
    · intro c hc
      rcases List.mem_cons.mp hc with q | q
      · omega
      · rcases List.mem_append.mp q with q | q
        · rcases List.mem_append.mp q with q | q
          · rcases List.mem_append.mp q with q | q
            · rw [h2 c q]
              omega
            · exact chain_sg (by omega) (fun f s z => chain_sg (by omega) (fun f s y => PrP.sg ok y) z) h1 c q
          · rw [h3 c q]
            omega
        · rw [List.mem_singleton.mp q]
          omega
theorem PrE.sg {sw : List Str} (ok : SwOk sw) {n : Nat} {f : Fo} {s : List Nat} (h : PrE sw n f s) : ∀ c ∈ s, 32 ≤ c ∧ c ≤ 126 :=
  chain_sg (by omega) (fun f s z => chain_sg (by omega) (fun f s y => PrP.sg ok y) z) h
/-- a line that holds no break and is short -/
structure LnOk (ln : Ln) : Prop where
  nl : 10 ∉ tl ln.txt
  len : ln.txt.length ≤ 64
  con : ∀ s, ln = .con s → Cont s
theorem lnOk_of {U I : Str → Prop} (hU : ∀ f, U f → f.length ≤ 8 ∧ 10 ∉ tl f) (hI : ∀ s, I s → s.length ≤ 60 ∧ 10 ∉ tl s) {st : Ar} {ln : Ln} (h : okLn U I st ln) : LnOk ln := by
  cases ln with
  | con s =>
    have hc : Cont s := h
    exact ⟨fun q => by have := hc.sg 10 q; omega, by have := hc.len; show s.length ≤ 64; omega, fun z e => by cases e; exact hc⟩
  | use f =>
    obtain ⟨h1, h2⟩ := hU f h
    refine ⟨?_, ?_, fun z e => nomatch e⟩
    · show 10 ∉ tl (("#use " : Str) ++ f)
      rw [tl_use]
      intro q
      rcases List.mem_append.mp q with q | q
      · simp at q
      · exact h2 q
    · show (("#use " : Str) ++ f).length ≤ 64
      rw [len_tl, tl_use, List.length_append, ← len_tl]
      show 5 + f.length ≤ 64
      omega
  | iff s =>
    obtain ⟨h1, h2⟩ := hI s h.1
    refine ⟨?_, ?_, fun z e => nomatch e⟩
    · show 10 ∉ tl (("#if " : Str) ++ s)
      rw [tl_if]
      intro q
      rcases List.mem_append.mp q with q | q
      · simp at q
      · exact h2 q
    · show (("#if " : Str) ++ s).length ≤ 64
      rw [len_tl, tl_if, List.length_append, ← len_tl]
      show 4 + s.length ≤ 64
      omega
  | els => exact ⟨by decide +kernel, by decide +kernel, fun z e => nomatch e⟩
  | fin => exact ⟨by decide +kernel, by decide +kernel, fun z e => nomatch e⟩
theorem linesOk {U I : Str → Prop} (hU : ∀ f, U f → f.length ≤ 8 ∧ 10 ∉ tl f) (hI : ∀ s, I s → s.length ≤ 60 ∧ 10 ∉ tl s) : ∀ {ls : List Ln} {st : Ar}, fineL U I st ls → ∀ ln ∈ ls, LnOk ln
  | [], _, _, ln, h => by simp at h
  | l :: r, st, ⟨h1, h2⟩, ln, h => by
    rcases List.mem_cons.mp h with q | q
    · rw [q]
      exact lnOk_of hU hI h1
    · exact linesOk hU hI h2 ln q
/-- the text of lines -/
def textOf (ls : List Ln) : Str := Txt.join "\n" (ls.map Ln.txt)
theorem tl_nl : tl ("\n" : Str) = [10] := by decide +kernel
theorem split_textOf {ls : List Ln} (ne : ls ≠ []) (ok : ∀ ln ∈ ls, LnOk ln) : Txt.split (textOf ls) "\n" = ls.map Ln.txt := by
  unfold textOf
  refine TL.split_join (s := 10) (S := []) tl_nl (by decide +kernel) (by simpa using ne) fun p hp => ?_
  obtain ⟨ln, h, rfl⟩ := List.mem_map.mp hp
  exact (ok ln h).nl
theorem textOf_nil : textOf [] = textOf [.con ""] := by decide +kernel
theorem join_size : ∀ {ls : List Ln}, (∀ ln ∈ ls, LnOk ln) → ((ls.map Ln.txt).map (·.length)).sum ≤ 64 * ls.length
  | [], _ => Nat.le_refl _
  | l :: r, ok => by
    have a := (ok l List.mem_cons_self).len
    have b := join_size (ls := r) fun ln h => ok ln (List.mem_cons_of_mem _ h)
    simp only [List.map_cons, List.sum_cons, List.length_cons]
    omega
theorem join_fits {ls : List Ln} (ok : ∀ ln ∈ ls, LnOk ln) (h : ls.length ≤ 1000) : ((ls.map Ln.txt).map (·.length)).sum + (ls.map Ln.txt).length * ("\n" : Str).length ≤ 16777216 := by
  have a := join_size ok
  have e : ("\n" : Str).length = 1 := by decide +kernel
  rw [e, List.length_map]
  omega
theorem textOf_len {ls : List Ln} (ok : ∀ ln ∈ ls, LnOk ln) (h : ls.length ≤ 100) : (textOf ls).length ≤ 10000 := by
  have a : ∀ (xs : List Ln), (∀ ln ∈ xs, LnOk ln) → (textOf xs).length ≤ 65 * xs.length := by
    intro xs
    induction xs with
    | nil =>
      intro _
      show (textOf []).length ≤ 0
      decide +kernel
    | cons x r ih =>
      intro hx
      have h1 := (hx x List.mem_cons_self).len
      have h2 := ih fun ln h => hx ln (List.mem_cons_of_mem _ h)
      cases r with
      | nil =>
        have e : textOf [x] = x.txt := by
          unfold textOf
          rw [TL.join_eq]
          refine ext_tl ?_
          show TL.tl _ = _
          rw [TL.tl_join]
          rfl
        rw [e]
        show x.txt.length ≤ 65 * 1
        omega
      | cons y r =>
        have e : (textOf (x :: y :: r)).length = x.txt.length + 1 + (textOf (y :: r)).length := by
          unfold textOf
          rw [TL.join_eq, TL.join_eq, len_tl (Str.join "\n" ((x :: y :: r).map Ln.txt)), len_tl (Str.join "\n" ((y :: r).map Ln.txt))]
          have e1 : tl (Str.join "\n" ((x :: y :: r).map Ln.txt)) = TL.joinL (TL.tl "\n") (((x :: y :: r).map Ln.txt).map TL.tl) := TL.tl_join _ _
          have e2 : tl (Str.join "\n" ((y :: r).map Ln.txt)) = TL.joinL (TL.tl "\n") (((y :: r).map Ln.txt).map TL.tl) := TL.tl_join _ _
          rw [e1, e2]
          show (TL.tl x.txt ++ (TL.tl "\n" ++ TL.joinL (TL.tl "\n") (((y :: r).map Ln.txt).map TL.tl))).length = _
          rw [List.length_append, List.length_append, show TL.tl ("\n" : Str) = [10] from tl_nl, ← len_tl x.txt]
          show x.txt.length + (1 + _) = _
          rw [← show TL.tl ("\n" : Str) = [10] from tl_nl]
          omega
        rw [e]
        simp only [List.length_cons] at h2 ⊢
        omega
  have := a ls ok
  omega
/-! ### what is open behind a line -/
theorem con_no_if {s : Str} (h : Cont s) : Txt.startswith s "#if " = false := by
  rw [sw_eq]
  have y : tl ("#if " : Str) = [35, 105, 102, 32] := by decide +kernel
  rw [y]
  cases e : tl s with
  | nil => rfl
  | cons c r =>
    have hc := h.hash c (by rw [e]; rfl)
    refine beq_eq_false_iff_ne.mpr fun z => hc ?_
    have z : c :: r.take 3 = [35, 105, 102, 32] := z
    injection z
theorem con_ne {s z : Str} (h : Cont s) (hz : (tl z).head? = some 35) : s ≠ z := fun e => by
  rw [← e] at hz
  exact h.hash 35 hz rfl
theorem end_head : (tl ("#end" : Str)).head? = some 35 := by decide +kernel
theorem els_head : (tl ("#else" : Str)).head? = some 35 := by decide +kernel
/-- how much a line opens -/
def opn : Ln → Int
  | .iff _ => 1
  | .fin => -1
  | _ => 0
theorem nxt_len {U I : Str → Prop} {st : Ar} {ln : Ln} (h : okLn U I st ln) : ((nxt st ln).length : Int) = (st.length : Int) + opn ln := by
  cases ln with
  | con s => cases st <;> simp [nxt, opn]
  | use f => cases st <;> simp [nxt, opn]
  | iff s => cases st <;> simp [nxt, opn]
  | els =>
    cases st with
    | nil => exact h.elim
    | cons x st => simp [nxt, opn]
  | fin =>
    cases st with
    | nil => exact h.elim
    | cons x st => simp [nxt, opn]; omega
theorem fineL_drop {U I : Str → Prop} : ∀ {ls : List Ln} {st : Ar} (i : Nat), fineL U I st ls → fineL U I (runL st (ls.take i)) (ls.drop i)
  | ls, st, 0, h => by simpa [runL] using h
  | [], st, i + 1, h => trivial
  | l :: r, st, i + 1, ⟨_, h⟩ => fineL_drop (ls := r) i h
theorem runL_take {ls : List Ln} {st : Ar} {i : Nat} {ln : Ln} (h : ls[i]? = some ln) : runL st (ls.take (i + 1)) = nxt (runL st (ls.take i)) ln := by
  rw [List.take_add_one, h, runL_append]
  rfl
def spClosed : Sp := fun vs H Q _ => ∃ (L : List Ln) (U I : Str → Prop), vs = [.str (textOf L)] ∧ L ≠ [] ∧ fineL U I [] L ∧ (∀ ln ∈ L, LnOk ln) ∧ L.length ≤ 12 ∧
  ∀ H', Same H H' → Q (.str (textOf (L ++ fins (runL [] L).length))) H'
theorem fins_lnOk (n : Nat) : ∀ ln ∈ fins n, LnOk ln := fun ln h => by
  rw [List.eq_of_mem_replicate h]
  exact ⟨by decide +kernel, by decide +kernel, fun z e => nomatch e⟩
theorem runL_len {U I : Str → Prop} : ∀ {ls : List Ln} {st : Ar}, fineL U I st ls → (runL st ls).length ≤ st.length + ls.length
  | [], _, _ => Nat.le_refl _
  | l :: r, st, ⟨h1, h2⟩ => by
    have a := runL_len h2
    have b := nxt_len h1
    have c : opn l ≤ 1 := by cases l <;> simp [opn]
    show (runL (nxt st l) r).length ≤ st.length + (r.length + 1)
    omega
section
variable {P : Program} {w : World} {K : PySem.W.Frag} {mg : Str → Option Value} {base : Heap}
theorem scClosed : FnScope ["_law_text", "_law_lines", "_law_open_count", "_law_kept", "_law_line", "_law_k"] ["_law_text"] (defScope sClosed) := ⟨rfl, rfl, rfl, by decide +kernel, rfl, by decide +kernel, by decide +kernel⟩
theorem ok_closed (T : LwT K mg) : FnOk P w K mg base CX0 1 T.closed.f T.closed.fd ["_law_text"] spClosed := by
  refine T.closed.F.ok scClosed (fun vs H Q E h => ?_) (fun cdv A outer s H vs Q E hr h => ?_)
  · obtain ⟨L, U, I, rfl, _⟩ := h
    rfl
  obtain ⟨L, U, I, rfl, ne, fine, lok, l12, k⟩ := h
  refine ⟨_, (pss_cons (ps_set (i := 1) scClosed.nd rfl (.inl rfl) (pe_split (pv 0) pe_str))
        (pss_cons (ps_set (i := 2) scClosed.nd rfl (.inl rfl) pe_int)
        (pss_cons (ps_set (i := 3) scClosed.nd rfl (.inl rfl) (pe_lst pa_nil))
        (pss_cons (ps_for PassesOwn.never rfl (pi_list (pv 1)) (pg_name (i := 4) scClosed.nd rfl (.inl rfl)) (Evl.pss_cut (ps_if (pt_val (pe_m1 PySem.F.slot_str_startswith PySem.F.type_str_startswith mt_startswith (pv 4) pe_str)) (pss_one (ps_set (i := 2) scClosed.nd rfl (.inl rfl) (pe_op op_add (pv 2) pe_int))) pss_nil)
          (Evl.pss_cut (ps_if (pt_cmpR op_eq (pv 4) pe_str (nomark _)) (pss_one (ps_set (i := 2) scClosed.nd rfl (.inl rfl) (pe_op op_sub (pv 2) pe_int))) pss_nil)
          (pss_one (ps_expr (pe_bm PySem.F.plainAttrs_list PySem.F.slot_list_append PySem.F.type_list_append mt_append (pv 3) (pa_cons (pv 4) pa_nil)))))))
        (pss_one (ps_ret (pe_join pe_str (pe_op op_cat (pv 3) (pe_lc (own := [("_law_k", 5)]) (g := gName 5) (tt := tYes) (te := tC (.str "#end")) rfl scClosed.nd (pi_range1 rfl T.mrange (pa_cons (pv 2) pa_nil)) (blkOk_by (N := ["_law_text", "_law_lines", "_law_open_count", "_law_kept", "_law_line", "_law_k"]) (sc := defScope sClosed) (by decide +kernel)) (fun _ _ _ _ _ => pg_name (i := 5) scClosed.nd rfl (.inl rfl)) (fun _ _ _ _ _ => pts_nil) (fun _ _ _ _ _ => pe_str)))))))))), ?_⟩
  have tlen := textOf_len lok (by omega)
  refine ⟨_, rfl, ⟨_, rfl⟩, _, _, rfl, rfl, (by decide +kernel), szs (by omega), fun p hp => ?_⟩
  rw [split_textOf ne lok]
  have s1 := same_new (o := .lst ((L.map Ln.txt).map V.str)) hp
  refine ⟨(by show 0 ≤ sizeLine; decide), fun q hq => ?_⟩
  have s2 := same_new (o := .lst []) hq
  have hpq : p ≠ q := ne_of_none upd_same hq
  have hq0 : H q = none := s1.free hq
  have lget : ∀ {i : Nat} {v : V}, ((L.map Ln.txt).map V.str)[i]? = some v → ∃ ln, L[i]? = some ln ∧ v = .str ln.txt := fun {i v} h => by
    rw [List.getElem?_map, List.getElem?_map] at h
    obtain ⟨y, hy, rfl⟩ := Option.map_eq_some_iff.mp h
    obtain ⟨ln, hln, rfl⟩ := Option.map_eq_some_iff.mp hy
    exact ⟨ln, hln, rfl⟩
  refine ⟨_, rfl, p, rfl, ⟨_, SqL.of (s2 _ _ upd_same)⟩, for_list (K := K) (a := p) (xs := (L.map Ln.txt).map V.str) (fun i σ H' => ∃ v4, σ = [some (.str (textOf L)), some (.ref p), some (.int ((runL [] (L.take i)).length : Int)), some (.ref q), v4, none] ∧ H' q = some (.lst (((L.take i).map Ln.txt).map V.str)) ∧ H' p = some (.lst ((L.map Ln.txt).map V.str)) ∧ Same H H')
    ⟨none, rfl, upd_same, s2 _ _ upd_same, s1.trans s2⟩ (fun i σ H' _ ⟨_, _, _, h, _⟩ => SqL.of h) ?_ ?_⟩
  · rintro i v σ H1 hi ⟨v4, rfl, h1, h2, h3⟩
    obtain ⟨ln, hln, rfl⟩ := lget hi
    have okln : okLn U I (runL [] (L.take i)) ln := by
      have z := fineL_drop i fine
      rw [List.drop_eq_getElem_cons (List.getElem?_eq_some_iff.mp hln).1, (List.getElem?_eq_some_iff.mp hln).2] at z
      exact z.1
    have lno := lok ln (List.mem_of_getElem? hln)
    have hlen := nxt_len okln
    have hi12 : i < L.length := (List.getElem?_eq_some_iff.mp hln).1
    -- if line.startswith("#if ")
    refine ⟨fun σ H' => H' = H1 ∧ σ = [some (.str (textOf L)), some (.ref p), some (.int ((runL [] (L.take i)).length + (match ln with | .iff _ => 1 | _ => 0) : Int)), some (.ref q), some (.str ln.txt), none], ?_, ?_⟩
    · refine ⟨_, rfl, ⟨_, rfl⟩, _, _, rfl, rfl, _, rfl, ?_⟩
      cases ln with
      | con s =>
        rw [show Txt.startswith (Ln.txt (.con s)) "#if " = false from con_no_if (lno.con s rfl)]
        exact iteF ⟨rfl, by simp⟩
      | use f =>
        rw [show Txt.startswith (Ln.txt (.use f)) "#if " = false from sw_use_if f]
        exact iteF ⟨rfl, by simp⟩
      | iff s =>
        rw [show Txt.startswith (Ln.txt (.iff s)) "#if " = true from sw_if_if s]
        exact iteT ⟨_, rfl, _, _, rfl, rfl, rfl, rfl⟩
      | els =>
        rw [show Txt.startswith (Ln.txt .els) "#if " = false from sw_els_if]
        exact iteF ⟨rfl, by simp⟩
      | fin =>
        rw [show Txt.startswith (Ln.txt .fin) "#if " = false from sw_fin_if]
        exact iteF ⟨rfl, by simp⟩
    rintro σ H2 ⟨rfl, rfl⟩
    -- if line == "#end"
    refine ⟨fun σ H' => H' = H2 ∧ σ = [some (.str (textOf L)), some (.ref p), some (.int ((runL [] (L.take i)).length + opn ln : Int)), some (.ref q), some (.str ln.txt), none], ?_, ?_⟩
    · refine ⟨_, rfl, rfl, _, rfl, ?_⟩
      cases ln with
      | con s =>
        rw [decide_eq_false (show ¬ V.str (Ln.txt (.con s)) = V.str "#end" from fun e => con_ne (lno.con s rfl) end_head (V.str.inj e))]
        exact iteF ⟨rfl, rfl⟩
      | use f =>
        rw [decide_eq_false (show ¬ V.str (Ln.txt (.use f)) = V.str "#end" from fun e => use_ne_fin f (V.str.inj e))]
        exact iteF ⟨rfl, rfl⟩
      | iff s =>
        rw [decide_eq_false (show ¬ V.str (Ln.txt (.iff s)) = V.str "#end" from fun e => if_ne_fin s (V.str.inj e))]
        exact iteF ⟨rfl, rfl⟩
      | els =>
        rw [decide_eq_false (show ¬ V.str (Ln.txt .els) = V.str "#end" from fun e => absurd (V.str.inj e) (by decide +kernel))]
        exact iteF ⟨rfl, rfl⟩
      | fin =>
        rw [decide_eq_true (show V.str (Ln.txt .fin) = V.str "#end" from rfl)]
        refine iteT ⟨_, rfl, _, _, rfl, rfl, rfl, ?_⟩
        have e : ((runL [] (L.take i)).length + 0 : Int) - 1 = (runL [] (L.take i)).length + opn .fin := by
          show _ = ((runL [] (L.take i)).length : Int) + (-1)
          omega
        show [some (V.str (textOf L)), some (.ref p), some (.int (((runL [] (L.take i)).length + 0 : Int) - 1)), some (.ref q), some (.str (Ln.txt .fin)), none] = _
        rw [e]
    rintro σ H3 ⟨rfl, rfl⟩
    -- kept.append(line)
    refine ⟨_, rfl, .inl ⟨rfl, _, SqL.of h1⟩, _, rfl, q, _, _, rfl, rfl, h1, small1000 (by rw [List.length_map, List.length_map, List.length_take]; omega), ?_⟩
    refine ⟨some (.str ln.txt), ?_, ?_, ?_, fun b o e => ?_⟩
    · rw [runL_take hln, hlen]
    · rw [upd_same, List.take_add_one, hln, List.map_append, List.map_append]
      rfl
    · rw [upd_ne hpq]
      exact h2
    · have nb : b ≠ q := ne_of_none e hq0
      rw [upd_ne nb]
      exact h3 b o e
  · rintro σ H1 ⟨v4, rfl, h1, h2, h3⟩
    rw [List.length_map, List.length_map, List.take_length] at h1 ⊢
    have rl := runL_len fine
    have rl12 : (runL [] L).length ≤ 12 := by
      have e : ([] : Ar).length = 0 := rfl
      omega
    refine ⟨⟨_, rfl⟩, _, rfl, _, rfl, _, rfl, by omega, by omega, fun D hD => ?_⟩
    have hqD : q ≠ D := ne_of_none h1 hD
    refine lc_it (walk_range (lo := 0) (n := (runL [] L).length)) (fun i H' => Same H1 H' ∧ H' D = some (.lst (List.replicate i (V.str "#end")))) ⟨same_new hD, upd_same⟩ (fun _ _ _ _ => trivial) ?_ ?_
    · rintro i x H2 H3 hi ⟨s4, h4⟩ ⟨rfl, rfl⟩
      refine ⟨rfl, _, h4, ?_, fun b o e => ?_, ?_⟩
      · rw [List.length_replicate]
        exact small1000 (by omega)
      · rw [upd_ne (ne_of_none e hD)]
        exact s4 b o e
      · rw [upd_same, List.replicate_succ']
    · rintro H2 ⟨s4, h4⟩
      refine ⟨q, D, _, _, rfl, rfl, s4 _ _ h1, h4, szs ?_, fun r hr' => ?_⟩
      · rw [List.length_map, List.length_map, List.length_replicate]
        omega
      have s5 := same_new (o := .lst ((L.map Ln.txt).map V.str ++ List.replicate (runL [] L).length (V.str "#end"))) hr'
      have el : (L.map Ln.txt).map V.str ++ List.replicate (runL [] L).length (V.str "#end") = ((L ++ fins (runL [] L).length).map Ln.txt).map V.str := by
        rw [List.map_append, List.map_append]
        congr 1
        unfold fins
        rw [List.map_replicate, List.map_replicate]
        rfl
      have okA : ∀ ln ∈ L ++ fins (runL [] L).length, LnOk ln := fun ln h => by
        rcases List.mem_append.mp h with z | z
        · exact lok ln z
        · exact fins_lnOk _ ln z
      refine ⟨_, r, (L ++ fins (runL [] L).length).map Ln.txt, rfl, rfl, .inl (SqL.of (by rw [upd_same, el])), join_fits okA ?_, ?_⟩
      · rw [List.length_append]
        unfold fins
        rw [List.length_replicate]
        omega
      · exact k _ ((h3.trans s4).trans s5)
end
end OF

set_option Elab.async false
set_option linter.all false
set_option maxRecDepth 100000
set_option maxHeartbeats 4000000
/-! E3: _law_shelf. -/
namespace OF
open PySem L2
def names4 : List Str := ["main", "b2", "c", "d0"]
/-- the names that file k of n may use -/
def usn (n k : Nat) : List Str := if k < 2 then ((names4.take n).drop (k + 1)).take 1 else []
theorem usn_sub {n k : Nat} {f : Str} (h : f ∈ usn n k) : f ∈ names4 := by
  unfold usn at h
  by_cases c : k < 2
  · rw [if_pos c] at h
    exact List.mem_of_mem_take (List.mem_of_mem_drop (List.mem_of_mem_take h))
  · rw [if_neg c] at h
    cases h
theorem names4_ok : ∀ f ∈ names4, f.length ≤ 8 ∧ 10 ∉ tl f := by decide +kernel
/-- the entries of a shelf of lines -/
def shKv (FL : List (Str × List Ln)) : List (Key × V) := FL.map fun e => (Sum.inr e.1, .str (textOf (e.2.take 12)))
theorem key_ok {sw : List Str} (ok : SwOk sw) {H : Hp} {kvs : List (Key × V)} (h : KvOk sw H kvs) {s : Str} (hs : isKey kvs s) : s.length ≤ 60 ∧ 10 ∉ tl s := by
  obtain ⟨v, e⟩ := hs
  obtain ⟨s', f, h1, h2, h3, h4⟩ := h _ _ e
  cases h1
  exact ⟨h4, fun q => by have := h3.sg ok 10 q; omega⟩
theorem cut_take (xs : List V) (n : Nat) : cutV xs none (some (n : Int)) = xs.take n := by
  unfold cutV
  rw [HT.sIx_nat, HT.sIx_none, List.drop_zero, Nat.sub_zero]
  by_cases c : n ≤ xs.length
  · rw [Nat.min_eq_left c]
  · rw [Nat.min_eq_right (by omega), List.take_of_length_le (Nat.le_refl _), List.take_of_length_le (by omega)]
theorem cut_one (xs : List V) (i : Nat) (h : i + 1 ≤ xs.length) : cutV xs (some ((i : Int) + 1)) (some ((i : Int) + 2)) = (xs.drop (i + 1)).take 1 := by
  rw [show (i : Int) + 1 = ((i + 1 : Nat) : Int) by omega, show (i : Int) + 2 = ((i + 2 : Nat) : Int) by omega]
  unfold cutV
  rw [HT.sIx_nat, HT.sIx_nat, Nat.min_eq_left h]
  by_cases c : i + 2 ≤ xs.length
  · rw [Nat.min_eq_left c, show i + 2 - (i + 1) = 1 by omega]
  · rw [List.drop_eq_nil_of_le (by omega), List.take_nil, List.take_nil]
def spShelf : Sp := fun vs H Q _ => ∃ (t a kd : Addr) (vsw : V) (sw : List Str), vs = [.ref t, vsw, .ref kd] ∧ TapeAt H t a ∧ SwAt H vsw sw ∧ SwOk sw ∧ H kd = some (.dK []) ∧
  ∀ p n FL kvs H', 1 ≤ n → n ≤ 4 → FL.map Prod.fst = names4.take n → (∀ k e, FL[k]? = some e → Bal (· ∈ usn n k) (isKey kvs) 3 e.2) → H p = none → H' p = some (.dK (shKv FL)) →
    TapeAt H' t a → H' kd = some (.dK kvs) → KvOk sw H' kvs → Buts [t, kd] H H' → Q (.ref p) H'
section
variable {P : Program} {w : World} {K : PySem.W.Frag} {mg : Str → Option Value} {base : Heap}
theorem scShelf : FnScope ["_law_tape_here", "_law_switches_here", "_law_known", "_law_names", "_law_shelf_here", "_law_k", "_law_lines"] ["_law_tape_here", "_law_switches_here", "_law_known"] (defScope sShelf) :=
  ⟨rfl, rfl, rfl, by decide +kernel, rfl, by decide +kernel, by decide +kernel⟩
theorem ok_shelf (T : LwT K mg) : FnOk P w K mg base CX0 21 T.shelf.f T.shelf.fd ["_law_tape_here", "_law_switches_here", "_law_known"] spShelf := by
  have GT : FnOk P w K mg base CX0 2 T.take.f T.take.fd ["_law_tape_here", "_law_many"] (spTake K) := ok_take T
  have G : FnOk P w K mg base CX0 20 T.body.f T.body.fd ["_law_tape_here", "_law_switches_here", "_law_names", "_law_deep", "_law_known"] (spBody 4) := ok_body T 4
  refine T.shelf.F.ok scShelf (fun vs H Q E h => ?_) (fun cdv A outer s H vs Q E hr h => ?_)
  · obtain ⟨t, a, kd, vsw, sw, rfl, _⟩ := h
    rfl
  obtain ⟨t, a, kd, vsw, sw, rfl, tp, hsw, ok, hkd, k⟩ := h
  have hr2 : Room 2 _ := hr.mono (by omega)
  refine ⟨_, (pss_cons (ps_set (i := 3) scShelf.nd rfl (.inl rfl) (pe_slice sl_list (pe_lst (pa_cons pe_str (pa_cons pe_str (pa_cons pe_str (pa_cons pe_str pa_nil))))) po_none (po_some (pe_op op_add pe_int (pcall T.take GT hr2 (pa_cons (pv 0) (pa_cons pe_int pa_nil)))))))
        (pss_cons (ps_set (i := 4) scShelf.nd rfl (.inl rfl) pe_dnewK)
        (pss_cons (ps_for PassesOwn.never rfl (pi_range1 rfl T.mrange (pa_cons (pe_callB call_len_seq (by rfl) T.F.S.ml PySem.boot_len (pa_cons (pv 3) pa_nil)) pa_nil)) (pg_name (i := 5) scShelf.nd rfl (.inl rfl)) (pss_cons (ps_set (i := 6) scShelf.nd rfl (.inl rfl) (pcall T.body G hr (pa_cons (pv 0) (pa_cons (pv 1) (pa_cons (pe_ifExp (pt_cmpR op_lt (pv 5) pe_int (nomark _)) (pe_slice sl_list (pv 3) (po_some (pe_op op_add (pv 5) pe_int)) (po_some (pe_op op_add (pv 5) pe_int))) (pe_lst pa_nil)) (pa_cons pe_int (pa_cons (pv 2) pa_nil)))))))
          (pss_one (ps_dput (hu_of hr) (pv 4) (pe_ix ix_list (pv 3) (pv 5) (fun _ _ => rfl)) (pe_join pe_str (pe_slice sl_list (pv 6) po_none (po_some pe_int))) rfl))))
        (pss_one (ps_ret (pv 4)))))), ?_⟩
  have h0t := tp.there.1
  have nkt : kd ≠ t := by
    obtain ⟨ns, pos, x, y, d, h1, _⟩ := tp
    exact ne_of hkd h1 (by intro q; cases q)
  refine ⟨(by show 4 ≤ sizeLine; decide), fun p0 hp0 => ?_⟩
  have s0 := same_new (o := .lst (names4.map V.str)) hp0
  have np0 : p0 ≠ t := by
    obtain ⟨o, e⟩ := h0t
    exact (ne_of_none e hp0).symm
  refine ⟨_, rfl, t, a, 4, rfl, tp.same s0, by decide, by decide, fun r H1 r0 r4 tp1 b1 => ?_⟩
  obtain ⟨m, rfl⟩ := Int.eq_ofNat_of_zero_le r0
  refine ⟨_, _, rfl, rfl, _, rfl, p0, names4.map V.str, rfl, SqL.of (b1 _ _ upd_same np0), fun nm hnm => ?_⟩
  have em : (1 : Int) + (m : Nat) = ((m + 1 : Nat) : Int) := by omega
  have ec : cutV (names4.map V.str) none (some ((1 : Int) + (m : Nat))) = (names4.take (m + 1)).map V.str := by
    rw [em]
    unfold cutV
    rw [HT.sIx_nat, HT.sIx_none, List.length_map, Nat.min_eq_left (by show m + 1 ≤ 4; omega), List.drop_zero, List.map_take]
    rfl
  rw [ec]
  have hnl : (names4.take (m + 1)).length = m + 1 := by
    rw [List.length_take]
    exact Nat.min_eq_left (by show m + 1 ≤ 4; omega)
  have s2 := same_new (o := .lst ((names4.take (m + 1)).map V.str)) hnm
  refine fun p hp => ?_
  have s3 := same_new (o := .dK []) hp
  have hH0 : H p = none := by
    cases e : H p with
    | none => rfl
    | some o =>
      obtain ⟨o', e'⟩ : ∃ o', H1 p = some o' := by
        by_cases c : p = t
        · rw [c]
          exact ⟨_, (tp1.there.1).choose_spec⟩
        · exact ⟨_, b1 _ _ (s0 _ _ e) c⟩
      rw [s2 _ _ e'] at hp
      cases hp
  have npt : p ≠ t := by
    obtain ⟨o, e⟩ := h0t
    exact (ne_of_none e hH0).symm
  have npa : p ≠ a := by
    obtain ⟨o, e⟩ := tp.there.2
    exact (ne_of_none e hH0).symm
  have npk : p ≠ kd := (ne_of_none hkd hH0).symm
  have nnt : nm ≠ t := by
    obtain ⟨o, e⟩ := tp1.there.1
    exact (ne_of_none e hnm).symm
  have npn : nm ≠ p := ne_of_none upd_same hp
  have hkd1 : H1 kd = some (.dK []) := b1 _ _ (s0 _ _ hkd) nkt
  have nnk : nm ≠ kd := (ne_of_none hkd1 hnm).symm
  refine ⟨_, rfl, nm, _, rfl, .inl (SqL.of (s3 _ _ upd_same)), ?_⟩
  rw [List.length_map, hnl]
  refine ⟨((m + 1 : Nat) : Int), rfl, by omega, by omega, for_range (lo := 0) (n := ((m + 1 : Nat) : Int).toNat) (fun i σ H' => ∃ FL kvs v5 v6, σ = [some (.ref t), some vsw, some (.ref kd), some (.ref nm), some (.ref p), v5, v6] ∧
      FL.map Prod.fst = (names4.take (m + 1)).take i ∧ (∀ k e, FL[k]? = some e → Bal (· ∈ usn (m + 1) k) (isKey kvs) 3 e.2) ∧ H' p = some (.dK (shKv FL)) ∧ TapeAt H' t a ∧ H' kd = some (.dK kvs) ∧ KvOk sw H' kvs ∧
      kvs.length ≤ i * 129 ∧ H' nm = some (.lst ((names4.take (m + 1)).map V.str)) ∧ Buts [t, kd] H H')
    ⟨[], [], none, none, rfl, rfl, fun k e h => by simp at h, upd_same, (tp1.same s2).same s3, s3 _ _ (s2 _ _ hkd1), (fun k v e => nomatch e), Nat.zero_le _, s3 _ _ upd_same,
      ((Buts.of s0).trans (b1.buts (by simp))).trans ((Buts.of s2).trans (Buts.of s3))⟩ ?_ ?_⟩
  · rintro i σ H2 hi ⟨FL, kvs, v5, v6, rfl, e1, e2, h1, h2, h3, h4, h5, h6, h7⟩
    have him : i < m + 1 := by omega
    have hwr : ∀ b ∈ [t, kd], ∃ o, H b = some o ∧ Wr o := fun b hb => by
      rcases List.mem_cons.mp hb with q | q
      · rw [q]
        exact tp.wr
      · rw [List.mem_singleton.mp q]
        exact ⟨_, hkd, trivial⟩
    have e0i : (0 : Int) + (i : Nat) = ((i : Nat) : Int) := by omega
    have hFL : FL.length = i := by
      have z := congrArg List.length e1
      rw [List.length_map, List.length_take, hnl, Nat.min_eq_left (by omega)] at z
      exact z
    obtain ⟨g, hg⟩ : ∃ g, (names4.take (m + 1))[i]? = some g := ⟨(names4.take (m + 1))[i]'(by omega), List.getElem?_eq_getElem (by omega)⟩
    have hgn : valV (shKv FL) (Sum.inr g) = none := by
      have nd : ((names4.take (m + 1)).take (i + 1)).Nodup := by
        refine List.Nodup.sublist (List.take_sublist _ _) (List.Nodup.sublist (List.take_sublist _ _) ?_)
        decide +kernel
      rw [List.take_add_one, hg, List.nodup_append] at nd
      have ng : g ∉ (names4.take (m + 1)).take i := fun q => nd.2.2 g q g (by simp) rfl
      rw [← e1] at ng
      cases c : valV (shKv FL) (Sum.inr g) with
      | none => rfl
      | some v =>
        exfalso
        unfold valV at c
        obtain ⟨kv, hkv, rfl⟩ := Option.map_eq_some_iff.mp c
        have hm := List.mem_of_find?_eq_some hkv
        have hp := List.find?_some hkv
        simp only [decide_eq_true_eq] at hp
        unfold shKv at hm
        obtain ⟨e, he, rfl⟩ := List.mem_map.mp hm
        cases hp
        exact ng (List.mem_map.mpr ⟨e, he, rfl⟩)
    -- the body
    have lu : (usn (m + 1) i).length ≤ 4 := by
      unfold usn
      by_cases c : i < 2
      · rw [if_pos c, List.length_take]
        omega
      · rw [if_neg c]
        show 0 ≤ 4
        omega
    have kb : kvs.length + 3 * bd 3 ≤ 1000 := by
      show kvs.length + 3 * 43 ≤ 1000
      have : i * 129 ≤ 3 * 129 := Nat.mul_le_mul_right _ (by omega)
      omega
    -- behind the body
    have after : ∀ (q : Addr) (ls : List Ln) (kvs' : List (Key × V)) (H3 H' : Hp), Same H2 H3 → BSt sw t a kd H3 H' q ls kvs' → Bal (· ∈ usn (m + 1) i) (isKey kvs') 3 ls → kvs'.length ≤ kvs.length + 129 → (∀ s, isKey kvs s → isKey kvs' s) →
        H' p = some (.dK (shKv FL)) ∧ H' nm = some (.lst ((names4.take (m + 1)).map V.str)) ∧ H' q = some (.lst (ls.map lnV)) ∧ (∀ ln ∈ ls.take 12, LnOk ln) ∧
        ∀ r, H' r = none → ∀ H4, H4 = upd (upd H' r (.lst ((ls.take 12).map lnV))) p (.dK (shKv (FL ++ [(g, ls)]))) → ∀ v5 v6, ∃ FL kvs v5' v6', [some (V.ref t), some vsw, some (.ref kd), some (.ref nm), some (.ref p), v5, v6] = [some (V.ref t), some vsw, some (.ref kd), some (.ref nm), some (.ref p), v5', v6'] ∧
          FL.map Prod.fst = (names4.take (m + 1)).take (i + 1) ∧ (∀ k e, FL[k]? = some e → Bal (· ∈ usn (m + 1) k) (isKey kvs) 3 e.2) ∧ H4 p = some (.dK (shKv FL)) ∧ TapeAt H4 t a ∧ H4 kd = some (.dK kvs) ∧ KvOk sw H4 kvs ∧
          kvs.length ≤ (i + 1) * 129 ∧ H4 nm = some (.lst ((names4.take (m + 1)).map V.str)) ∧ Buts [t, kd] H H4 := by
      intro q ls kvs' H3 H' s c1 c2 c4 c5
      have gp : H' p = some (.dK (shKv FL)) := c1.bt _ _ (s _ _ h1) (by simp [npt, npk])
      have gn : H' nm = some (.lst ((names4.take (m + 1)).map V.str)) := c1.bt _ _ (s _ _ h6) (by simp [nnt, nnk])
      refine ⟨gp, gn, c1.li, fun ln hln => linesOk (fun f hf => names4_ok f (usn_sub hf)) (fun s hs => key_ok ok c1.ok hs) (c2 [] (by decide)).1 ln (List.mem_of_mem_take hln), fun r hr H4 e4 v5 v6 => ?_⟩
      subst e4
      have s9 := same_new (o := .lst ((ls.take 12).map lnV)) hr
      have i9 : Imm (upd H' r (.lst ((ls.take 12).map lnV))) (upd (upd H' r (.lst ((ls.take 12).map lnV))) p (.dK (shKv (FL ++ [(g, ls)])))) := But.imm (But.upd (a := p)) (s9 _ _ gp) trivial
      refine ⟨FL ++ [(g, ls)], kvs', v5, v6, rfl, ?_, fun k e h => ?_, upd_same, (c1.tp.same s9).upd npt npa, ?_, (c1.ok.imm (imm_same s9)).imm i9, by omega, ?_, ?_⟩
      · rw [List.map_append, e1, List.take_add_one (i := i), hg]
        rfl
      · rcases Nat.lt_trichotomy k FL.length with c | c | c
        · rw [List.getElem?_append_left c] at h
          exact (e2 k e h).mono c5
        · rw [c, List.getElem?_append_right (Nat.le_refl _), Nat.sub_self] at h
          cases h
          rw [c, hFL]
          exact c2
        · rw [List.getElem?_eq_none (by rw [List.length_append, List.length_singleton]; omega)] at h
          cases h
      · rw [upd_ne npk.symm]
        exact s9 _ _ c1.hk
      · rw [upd_ne npn]
        exact s9 _ _ gn
      · have b9 : Buts [t, kd] H (upd H' r (.lst ((ls.take 12).map lnV))) := (h7.trans (Buts.of s)).trans (c1.bt.trans (Buts.of s9))
        intro c o e n
        have nc : c ≠ p := ne_of_none e hH0
        rw [upd_ne nc]
        exact b9 c o e n
    refine ⟨_, rfl, _, rfl, _, rfl, _, _, rfl, rfl, _, rfl, ?_⟩
    rw [e0i]
    refine ite2 (fun c => ?_) (fun c => ?_)
    · have c : i < 2 := by
        have c := of_decide_eq_true c
        omega
      refine ⟨_, rfl, _, rfl, _, _, rfl, rfl, _, rfl, _, rfl, _, _, rfl, rfl, _, rfl, nm, _, rfl, SqL.of h6, fun un hun => ?_⟩
      have e3 : cutV ((names4.take (m + 1)).map V.str) (some ((i : Int) + 1)) (some ((i : Int) + 2)) = (usn (m + 1) i).map V.str := by
        unfold usn
        rw [if_pos c, List.map_take (i := 1), List.map_drop]
        exact cut_one _ i (by rw [List.length_map]; omega)
      rw [e3]
      have su := same_new (o := .lst ((usn (m + 1) i).map V.str)) hun
      have nun : un ≠ t := by
        obtain ⟨o, e⟩ := h2.there.1
        exact (ne_of_none e hun).symm
      refine ⟨_, rfl, t, a, un, kd, vsw, 3, sw, usn (m + 1) i, kvs, rfl, h2.same su, (hsw.imm (h7.imm hwr)).imm (imm_same su), ok, upd_same, nun, lu, fun f hf => (names4_ok f (usn_sub hf)).1, su _ _ h3, h4.imm (imm_same su), by omega, by omega, kb, fun q ls kvs' H' c1 c2 _ c4 c5 => ?_⟩
      obtain ⟨gp, gn, gl, lok, fin⟩ := after q ls kvs' _ H' su c1 c2 c4 c5
      refine ⟨⟨_, rfl⟩, _, rfl, _, rfl, q, _, rfl, SqL.of gl, fun r hr' => ?_⟩
      rw [show cutV (ls.map lnV) none (some (12 : Int)) = (ls.take 12).map lnV from (cut_take _ 12).trans (List.map_take).symm]
      have s9 := same_new (o := .lst ((ls.take 12).map lnV)) hr'
      refine ⟨_, r, (ls.take 12).map Ln.txt, rfl, rfl, .inl (SqL.of (by rw [upd_same, lnV_map])), join_fits lok (by rw [List.length_take]; omega), ?_⟩
      refine ⟨_, rfl, _, rfl, _, rfl, nm, _, _, _, rfl, rfl, SqL.of (s9 _ _ gn), at_of (j := i) rfl (by rw [List.getElem?_map, hg]; rfl), p, _, rfl, DPut.k (k := Sum.inr g) (s9 _ _ gp) (small1000 (by unfold shKv; rw [List.length_map]; omega)), ?_⟩
      exact fin r hr' _ (by rw [putK_new _ hgn]; unfold shKv; rw [List.map_append]; rfl) _ _
    · have c : ¬ i < 2 := by
        have c := mt decide_eq_true c
        omega
      refine ⟨(by show 0 ≤ sizeLine; decide), fun un hun => ?_⟩
      have e3 : (usn (m + 1) i).map V.str = [] := by
        unfold usn
        rw [if_neg c]
        rfl
      have su := same_new (o := .lst []) hun
      have nun : un ≠ t := by
        obtain ⟨o, e⟩ := h2.there.1
        exact (ne_of_none e hun).symm
      refine ⟨_, rfl, t, a, un, kd, vsw, 3, sw, usn (m + 1) i, kvs, rfl, h2.same su, (hsw.imm (h7.imm hwr)).imm (imm_same su), ok, (by rw [upd_same, e3]), nun, lu, fun f hf => (names4_ok f (usn_sub hf)).1, su _ _ h3, h4.imm (imm_same su), by omega, by omega, kb, fun q ls kvs' H' c1 c2 _ c4 c5 => ?_⟩
      obtain ⟨gp, gn, gl, lok, fin⟩ := after q ls kvs' _ H' su c1 c2 c4 c5
      refine ⟨⟨_, rfl⟩, _, rfl, _, rfl, q, _, rfl, SqL.of gl, fun r hr' => ?_⟩
      rw [show cutV (ls.map lnV) none (some (12 : Int)) = (ls.take 12).map lnV from (cut_take _ 12).trans (List.map_take).symm]
      have s9 := same_new (o := .lst ((ls.take 12).map lnV)) hr'
      refine ⟨_, r, (ls.take 12).map Ln.txt, rfl, rfl, .inl (SqL.of (by rw [upd_same, lnV_map])), join_fits lok (by rw [List.length_take]; omega), ?_⟩
      refine ⟨_, rfl, _, rfl, _, rfl, nm, _, _, _, rfl, rfl, SqL.of (s9 _ _ gn), at_of (j := i) rfl (by rw [List.getElem?_map, hg]; rfl), p, _, rfl, DPut.k (k := Sum.inr g) (s9 _ _ gp) (small1000 (by unfold shKv; rw [List.length_map]; omega)), ?_⟩
      exact fin r hr' _ (by rw [putK_new _ hgn]; unfold shKv; rw [List.map_append]; rfl) _ _
  · rintro σ H2 ⟨FL, kvs, v5, v6, rfl, e1, e2, h1, h2, h3, h4, h5, h6, h7⟩
    have et : ((m + 1 : Nat) : Int).toNat = m + 1 := by omega
    rw [et, List.take_of_length_le (by omega)] at e1
    exact ⟨_, rfl, k p (m + 1) FL kvs H2 (by omega) (by omega) e1 e2 hH0 h1 h2 h3 h4 h7⟩
end
end OF

set_option Elab.async false
set_option linter.all false
set_option maxRecDepth 100000
set_option maxHeartbeats 4000000
/-! M3: rows of a reading: how many, what stands around; plain mathematics. -/
namespace OF
open PySem L2
def StI (I : Str → Prop) (st : Ar) : Prop := st.length ≤ 6 ∧ ∀ x ∈ st, I x.1
theorem StI.nil {I : Str → Prop} : StI I [] := ⟨by decide, fun _ h => nomatch h⟩
theorem StI.nxt {U I : Str → Prop} {st : Ar} {ln : Ln} (h : StI I st) (ok : okLn U I st ln) : StI I (nxt st ln) := by
  obtain ⟨h1, h2⟩ := h
  cases ln with
  | con s => cases st <;> exact ⟨h1, h2⟩
  | use f => cases st <;> exact ⟨h1, h2⟩
  | iff s =>
    have e : OF.nxt st (.iff s) = (s, true) :: st := by cases st <;> rfl
    rw [e]
    refine ⟨by have := ok.2; rw [List.length_cons]; omega, fun x hx => ?_⟩
    rcases List.mem_cons.mp hx with q | q
    · rw [q]
      exact ok.1
    · exact h2 x q
  | els =>
    cases st with
    | nil => exact ok.elim
    | cons y st =>
      obtain ⟨s, b⟩ := y
      refine ⟨h1, fun x hx => ?_⟩
      rcases List.mem_cons.mp hx with q | q
      · rw [q]
        exact h2 (s, b) List.mem_cons_self
      · exact h2 x (List.mem_cons_of_mem _ q)
  | fin =>
    cases st with
    | nil => exact ok.elim
    | cons y st =>
      rw [List.length_cons] at h1
      exact ⟨by show st.length ≤ 6; omega, fun x hx => h2 x (List.mem_cons_of_mem _ hx)⟩
/-- rows whose conditions are fine -/
def RwI (I : Str → Prop) (m : Nat) (rs : List Row) : Prop := ∀ r ∈ rs, r.ar.length ≤ m ∧ ∀ x ∈ r.ar, I x.1
theorem rowsOf_in {U I : Str → Prop} {sub : Str → List Row} {f : Str} {k m : Nat} {st : Ar} {ln : Ln} (hU : ∀ g, U g → RwI I m (sub g)) (hs : StI I st) (ok : okLn U I st ln) : RwI I (6 + m) (rowsOf sub f k st ln) := by
  intro r hr
  cases ln with
  | con s =>
    have e : r = ⟨s, f, k + 1, st.reverse⟩ := List.mem_singleton.mp hr
    rw [e]
    refine ⟨?_, fun x hx => hs.2 x (List.mem_reverse.mp hx)⟩
    show st.reverse.length ≤ _
    rw [List.length_reverse]
    have := hs.1
    omega
  | use g =>
    obtain ⟨r', h1, rfl⟩ := List.mem_map.mp hr
    obtain ⟨a, b⟩ := hU g ok r' h1
    refine ⟨?_, fun x hx => ?_⟩
    · show (st.reverse ++ r'.ar).length ≤ _
      rw [List.length_append, List.length_reverse]
      have := hs.1
      omega
    · rcases List.mem_append.mp hx with q | q
      · exact hs.2 x (List.mem_reverse.mp q)
      · exact b x q
  | iff s => simp [rowsOf] at hr
  | els => simp [rowsOf] at hr
  | fin => simp [rowsOf] at hr
theorem rdL_in {U I : Str → Prop} {sub : Str → List Row} {f : Str} {m : Nat} (hU : ∀ g, U g → RwI I m (sub g)) : ∀ {ls : List Ln} {k : Nat} {st : Ar}, StI I st → okL U I st ls → RwI I (6 + m) (rdL sub f k st ls)
  | [], _, _, _, _ => fun r hr => by simp [rdL] at hr
  | ln :: ls, k, st, hs, ⟨o1, o2⟩ => fun r hr => by
    rcases List.mem_append.mp hr with q | q
    · exact rowsOf_in hU hs o1 r q
    · exact rdL_in hU (hs.nxt o1) o2 r q
theorem rows_in {fs : Str → List Ln} {dom I : Str → Prop} : ∀ {n : Nat} {path : List Str} {f : Str}, FsOk fs dom I n path f → RwI I (6 * n) (rows fs n f)
  | 0, _, _, h => h.elim
  | n + 1, path, f, ⟨_, _, o⟩ => by
    have z := rdL_in (f := f) (k := 0) (m := 6 * n) (fun g hg => rows_in hg.2) StI.nil o
    rw [show 6 * (n + 1) = 6 + 6 * n by omega]
    exact z
theorem FsOk.mono {fs : Str → List Ln} {dom I I' : Str → Prop} (hi : ∀ s, I s → I' s) : ∀ {n : Nat} {path : List Str} {f : Str}, FsOk fs dom I n path f → FsOk fs dom I' n path f
  | 0, _, _, h => h
  | n + 1, path, f, ⟨h1, h2, h3⟩ => ⟨h1, h2, h3.mono (fun g hg => ⟨hg.1, FsOk.mono hi hg.2⟩) hi⟩
theorem FsOk.dom {fs : Str → List Ln} {dom I : Str → Prop} {n : Nat} {path : List Str} {f : Str} (h : FsOk fs dom I n path f) : dom f := by
  cases n with
  | zero => exact h.elim
  | succ n => exact h.2.1
/-- how many rows -/
theorem rowsOf_len {sub : Str → List Row} {f : Str} {k m : Nat} {st : Ar} {ln : Ln} (hU : ∀ g, ln = .use g → (sub g).length ≤ m) (h1 : 1 ≤ m) : (rowsOf sub f k st ln).length ≤ m := by
  cases ln with
  | con s => exact h1
  | use g =>
    show ((sub g).map _).length ≤ m
    rw [List.length_map]
    exact hU g rfl
  | iff s => exact Nat.zero_le _
  | els => exact Nat.zero_le _
  | fin => exact Nat.zero_le _
theorem rdL_len {U I : Str → Prop} {sub : Str → List Row} {f : Str} {m : Nat} (hU : ∀ g, U g → (sub g).length ≤ m) (h1 : 1 ≤ m) : ∀ {ls : List Ln} {k : Nat} {st : Ar}, okL U I st ls → (rdL sub f k st ls).length ≤ ls.length * m
  | [], _, _, _ => Nat.zero_le _
  | ln :: ls, k, st, ⟨o1, o2⟩ => by
    have a := rdL_len (f := f) hU h1 (k := k + 1) o2
    have b := rowsOf_len (sub := sub) (f := f) (k := k) (st := st) (ln := ln) (m := m) (fun g e => by subst e; exact hU g o1) h1
    show (rowsOf sub f k st ln ++ rdL sub f (k + 1) (nxt st ln) ls).length ≤ (ls.length + 1) * m
    rw [List.length_append, Nat.succ_mul]
    omega
theorem rows_len {fs : Str → List Ln} {dom I : Str → Prop} (hl : ∀ f, dom f → (fs f).length ≤ 24) : ∀ {n : Nat} {path : List Str} {f : Str}, FsOk fs dom I n path f → (rows fs n f).length ≤ 24 ^ n
  | 0, _, _, h => h.elim
  | n + 1, path, f, ⟨_, d, o⟩ => by
    have z := rdL_len (f := f) (k := 0) (m := 24 ^ n) (fun g hg => rows_len hl hg.2) (Nat.pow_pos (by decide)) o
    have y : (fs f).length * 24 ^ n ≤ 24 * 24 ^ n := Nat.mul_le_mul_right _ (hl f d)
    rw [Nat.pow_succ, Nat.mul_comm]
    exact Nat.le_trans z y
theorem All2.snoc_inv {α β : Type} {R : α → β → Prop} : ∀ {l : List α} {m : List β} {b : β}, All2 R l (m ++ [b]) → ∃ l' a, l = l' ++ [a] ∧ All2 R l' m ∧ R a b
  | _, [], _, .cons h .nil => ⟨[], _, rfl, .nil, h⟩
  | _, _ :: m, _, .cons h t => by
    obtain ⟨l', a, rfl, h2, h3⟩ := All2.snoc_inv t
    exact ⟨_ :: l', a, rfl, .cons h h2, h3⟩
theorem cut_last (xs : List V) (v : V) : cutV (xs ++ [v]) none (some (-1)) = xs := by
  unfold cutV
  have e : HT.sIx (xs ++ [v]).length (xs ++ [v]).length (some (-1)) = xs.length := by
    unfold HT.sIx
    rw [List.length_append, List.length_singleton]
    simp
    try omega
  rw [e, HT.sIx_none, List.drop_zero, Nat.sub_zero, List.take_append_of_le_length (Nat.le_refl _), List.take_length]
theorem last_at (xs : List V) (v : V) : ((xs ++ [v])[xs.length]? : Option V) = some v := by simp
end OF

set_option Elab.async false
set_option linter.all false
set_option maxRecDepth 100000
set_option maxHeartbeats 4000000
/-! E4: _law_reading. -/
namespace OF
open PySem L2
theorem ArAt.but {fl a : Addr} {H H' : Hp} {ar : Ar} (b : But fl H H') (hf : ∃ xs, H fl = some (.lst xs)) (n : a ≠ fl) : ArAt H a ar → ArAt H' a ar := fun ⟨vs, h, l⟩ => by
  obtain ⟨xs, e⟩ := hf
  exact ⟨vs, b _ _ h n, l.mono fun _ _ q => q.imm (But.imm b e trivial)⟩
/-- a row of the reading on the heap; B tells where its list of conditions stands -/
def RowAt (B : Addr → Prop) (H : Hp) (v : V) (r : Row) : Prop := ∃ q a, v = .ref q ∧ H q = some (.tup [.str r.text, .str r.file, .int (r.at' : Int), .ref a]) ∧ ArAt H a r.ar ∧ B a
theorem RowAt.same {B : Addr → Prop} {H H' : Hp} (s : Same H H') {v : V} {r : Row} : RowAt B H v r → RowAt B H' v r := fun ⟨q, a, e, h, g, b⟩ => ⟨q, a, e, s _ _ h, g.same s, b⟩
theorem RowAt.but {B : Addr → Prop} {fl : Addr} {H H' : Hp} (s : But fl H H') (hf : ∃ xs, H fl = some (.lst xs)) (hB : ∀ a, B a → a ≠ fl) {v : V} {r : Row} : RowAt B H v r → RowAt B H' v r := fun ⟨q, a, e, h, g, b⟩ => by
  obtain ⟨xs, e1⟩ := hf
  exact ⟨q, a, e, s _ _ h (ne_of h e1 (by intro z; cases z)), g.but s ⟨xs, e1⟩ (hB a b), b⟩
theorem RowAt.more {B B' : Addr → Prop} {H : Hp} (h : ∀ a, B a → B' a) {v : V} {r : Row} : RowAt B H v r → RowAt B' H v r := fun ⟨q, a, e, h1, g, b⟩ => ⟨q, a, e, h1, g, h a b⟩
/-- where the reading of a file stands -/
structure RSt (H H' : Hp) (fl ra : Addr) (st : Ar) (done : List Row) : Prop where
  it : ∃ items, H' fl = some (.lst items) ∧ All2 (RowAt (fun a => H a = none ∧ a ≠ fl) H') items done
  fl0 : H fl = none
  ar : ArAt H' ra st.reverse
  ra0 : H ra = none
  ne : ra ≠ fl
  sm : Same H H'
section
variable {H H1 H2 : Hp} {fl ra : Addr} {st : Ar} {done : List Row}
theorem RSt.same (R : RSt H H1 fl ra st done) (s : Same H1 H2) : RSt H H2 fl ra st done := by
  obtain ⟨items, h1, h2⟩ := R.it
  exact ⟨⟨items, s _ _ h1, h2.mono fun _ _ q => q.same s⟩, R.fl0, R.ar.same s, R.ra0, R.ne, R.sm.trans s⟩
/-- another list of conditions -/
theorem RSt.around {r : Addr} {st' : Ar} {vs : List V} (R : RSt H H1 fl ra st done) (hr : H1 r = none) (hv : All2 (PairAt H1) vs st'.reverse) : RSt H (upd H1 r (.lst vs)) fl r st' done := by
  have s := same_new (o := .lst vs) hr
  obtain ⟨items, h1, h2⟩ := R.it
  exact ⟨⟨items, s _ _ h1, h2.mono fun _ _ q => q.same s⟩, R.fl0, ⟨vs, upd_same, hv.mono fun _ _ q => q.imm (imm_same s)⟩, R.sm.free hr, (ne_of_none h1 hr).symm, R.sm.trans s⟩
/-- found.append(row) -/
theorem RSt.app {v : V} {r : Row} {items : List V} (R : RSt H H1 fl ra st done) (hi : H1 fl = some (.lst items)) (h : RowAt (fun a => H a = none ∧ a ≠ fl) H1 v r) : RSt H (upd H1 fl (.lst (items ++ [v]))) fl ra st (done ++ [r]) := by
  obtain ⟨items', h1, h2⟩ := R.it
  rw [hi] at h1
  cases h1
  have b : But fl H1 (upd H1 fl (.lst (items ++ [v]))) := But.upd
  refine ⟨⟨items ++ [v], upd_same, (h2.append (.cons h .nil)).mono fun _ _ q => q.but b ⟨_, hi⟩ fun a z => z.2⟩, R.fl0, R.ar.but b ⟨_, hi⟩ R.ne, R.ra0, R.ne, But.new R.fl0 R.sm b⟩
theorem RSt.len {items : List V} (R : RSt H H1 fl ra st done) (hi : H1 fl = some (.lst items)) : items.length = done.length := by
  obtain ⟨items', h1, h2⟩ := R.it
  rw [hi] at h1
  cases h1
  exact h2.length
end
def spReading (M : Pm) (I : Str → Prop) (n : Nat) : Sp := fun vs H Q _ => ∃ (sh : Addr) (f : Str) (vsw : V) (path : List Str), vs = [.ref sh, .str f, vsw] ∧ ShAt M H sh ∧ FsOk M.fs M.dom I n path f ∧ n ≤ 3 ∧
  ∀ l H' items, Same H H' → H l = none → H' l = some (.lst items) → All2 (RowAt (fun a => H a = none) H') items (rows M.fs n f) → Q (.ref l) H'
/-- the texts of the files -/
def RdOk (M : Pm) : Prop := ∀ f, M.dom f → f.length ≤ 8 ∧ (M.fs f).length ≤ 24 ∧ (∀ ln ∈ M.fs f, LnOk ln) ∧ ((M.tx f = "" ∧ M.fs f = []) ∨ (M.tx f ≠ "" ∧ M.fs f ≠ [] ∧ M.tx f = textOf (M.fs f)))
theorem lenLn {ln : Ln} (h : LnOk ln) : ln.txt.length ≤ sizeLine := szs (by have := h.len; omega)
theorem split_none : Txt.split "" "\n" = [("" : Str)] := by decide +kernel
theorem con_no_use {s : Str} (h : Cont s) : Txt.startswith s "#use " = false := by
  rw [sw_eq]
  have y : tl ("#use " : Str) = [35, 117, 115, 101, 32] := by decide +kernel
  rw [y]
  cases e : tl s with
  | nil => rfl
  | cons c r =>
    have hc := h.hash c (by rw [e]; rfl)
    refine beq_eq_false_iff_ne.mpr fun z => hc ?_
    have z : c :: r.take 4 = [35, 117, 115, 101, 32] := z
    injection z
section
variable {P : Program} {w : World} {K : PySem.W.Frag} {mg : Str → Option Value} {base : Heap}
theorem scReading : FnScope ["_law_shelf_here", "_law_name", "_law_switches_here", "_law_found", "_law_around", "_law_k", "_law_line", "_law_text", "_law_file", "_law_at", "_law_inner"] ["_law_shelf_here", "_law_name", "_law_switches_here"] (defScope sReading) :=
  ⟨rfl, rfl, rfl, by decide +kernel, rfl, by decide +kernel, by decide +kernel⟩
theorem ok_reading (T : LwT K mg) {M : Pm} {I : Str → Prop} (hI : ∀ s, I s → s.length ≤ 60) (RO : RdOk M) : ∀ n : Nat, FnOk P w K mg base CX0 n T.reading.f T.reading.fd ["_law_shelf_here", "_law_name", "_law_switches_here"] (spReading M I n)
  | 0 => never_ok fun vs H Q E h => by
    obtain ⟨sh, f, vsw, path, _, _, z, _⟩ := h
    exact z
  | n + 1 => by
    have G := ok_reading T hI RO n
    refine T.reading.F.ok scReading (fun vs H Q E h => ?_) (fun cdv A outer s H vs Q E hr h => ?_)
    · obtain ⟨sh, f, vsw, path, rfl, _⟩ := h
      rfl
    obtain ⟨sh, f, vsw, path, rfl, ⟨kvs, hkv, hdom⟩, fine, hn, k⟩ := h
    refine ⟨_, (pss_cons (ps_set (i := 3) scReading.nd rfl (.inl rfl) (pe_lst pa_nil))
          (pss_cons (ps_set (i := 4) scReading.nd rfl (.inl rfl) (pe_lst pa_nil))
          (pss_cons (ps_for PassesOwn.never rfl (pi_range1 rfl T.mrange (pa_cons (pe_callB call_len_seq (by rfl) T.F.S.ml PySem.boot_len (pa_cons (pe_split (pe_dget (hu_of hr) (pv 0) (pv 1) (fun _ _ => rfl)) pe_str) pa_nil)) pa_nil)) (pg_name (i := 5) scReading.nd rfl (.inl rfl)) (pss_cons (ps_set (i := 6) scReading.nd rfl (.inl rfl) (pe_ix ix_list (pe_split (pe_dget (hu_of hr) (pv 0) (pv 1) (fun _ _ => rfl)) pe_str) (pv 5) (fun _ _ => rfl)))
            (pss_cons (ps_if (pt_cmpR op_eq (pe_dget (hu_of hr) (pv 0) (pv 1) (fun _ _ => rfl)) pe_str (nomark _)) (pss_one ps_break) pss_nil)
            (pss_one (ps_if (pt_val (pe_m1 PySem.F.slot_str_startswith PySem.F.type_str_startswith mt_startswith (pv 6) pe_str)) (pss_one (ps_set (i := 4) scReading.nd rfl (.inl rfl) (pe_op op_cat (pv 4) (pe_lst (pa_cons (pe_tup (pa_cons (pe_slice sl_str (pv 6) (po_some pe_int) po_none) (pa_cons pe_bl pa_nil))) pa_nil))))) (pss_one (ps_if (pt_cmpR op_eq (pv 6) pe_str (nomark _)) (pss_one (ps_set (i := 4) scReading.nd rfl (.inl rfl) (pe_op op_cat (pe_slice sl_list (pv 4) po_none (po_some (pe_un un_neg pe_int))) (pe_lst (pa_cons (pe_tup (pa_cons (pe_ix ix_tup (pe_ix ix_list (pv 4) (pe_un un_neg pe_int) (fun _ _ => rfl)) pe_int (fun _ _ => rfl)) (pa_cons pe_bl pa_nil))) pa_nil))))) (pss_one (ps_if (pt_cmpR op_eq (pv 6) pe_str (nomark _)) (pss_one (ps_set (i := 4) scReading.nd rfl (.inl rfl) (pe_slice sl_list (pv 4) po_none (po_some (pe_un un_neg pe_int))))) (pss_one (ps_if (pt_val (pe_m1 PySem.F.slot_str_startswith PySem.F.type_str_startswith mt_startswith (pv 6) pe_str)) (pss_one (ps_for PassesOwn.never rfl (pi_list (pcall T.reading G hr (pa_cons (pv 0) (pa_cons (pe_slice sl_str (pv 6) (po_some pe_int) po_none) (pa_cons (pv 2) pa_nil))))) (pg_tup rfl (pgs_cons (pg_name (i := 7) scReading.nd rfl (.inl rfl)) (pgs_cons (pg_name (i := 8) scReading.nd rfl (.inl rfl)) (pgs_cons (pg_name (i := 9) scReading.nd rfl (.inl rfl)) (pgs_cons (pg_name (i := 10) scReading.nd rfl (.inl rfl)) pgs_nil))))) (pss_one (ps_expr (pe_bm PySem.F.plainAttrs_list PySem.F.slot_list_append PySem.F.type_list_append mt_append (pv 3) (pa_cons (pe_tup (pa_cons (pv 7) (pa_cons (pv 8) (pa_cons (pv 9) (pa_cons (pe_op op_cat (pv 4) (pv 10)) pa_nil))))) pa_nil)))))) (pss_one (ps_expr (pe_bm PySem.F.plainAttrs_list PySem.F.slot_list_append PySem.F.type_list_append mt_append (pv 3) (pa_cons (pe_tup (pa_cons (pv 6) (pa_cons (pv 1) (pa_cons (pe_op op_add (pv 5) pe_int) (pa_cons (pv 4) pa_nil))))) pa_nil)))))))))))))))
          (pss_one (ps_ret (pv 3)))))), ?_⟩
    have hdf : M.dom f := fine.2.1
    obtain ⟨f8, fl24, fok, ftx⟩ := RO f hdf
    have dg : ∀ {H' : Hp}, Same H H' → DGet H' sh (.str f) (some (.str (M.tx f))) := fun {H'} s => by
      have q := DGet.k (k := Sum.inr f) (s _ _ hkv)
      rw [hdom f hdf] at q
      exact q
    -- found = [], around = []
    refine ⟨(by show 0 ≤ sizeLine; decide), fun fl hfl => ?_⟩
    have s1 := same_new (o := .lst []) hfl
    refine ⟨(by show 0 ≤ sizeLine; decide), fun ra hra => ?_⟩
    have s2 := s1.trans (same_new (o := .lst []) hra)
    have nrf : ra ≠ fl := (ne_of_none upd_same hra).symm
    have R0 : RSt H (upd (upd H fl (.lst [])) ra (.lst [])) fl ra [] [] :=
      ⟨⟨[], by rw [upd_ne nrf.symm]; exact upd_same, .nil⟩, hfl, ⟨[], upd_same, .nil⟩, s1.free hra, nrf, s2⟩
    generalize upd (upd H fl (.lst [])) ra (.lst []) = H2 at s2 R0 ⊢
    have tl1 : (M.tx f).length + 2 ≤ sizeLine := by
      rcases ftx with ⟨e, _⟩ | ⟨_, _, e⟩
      · rw [e]
        decide +kernel
      · rw [e]
        have := textOf_len fok (by omega)
        exact szs (by omega)
    refine ⟨_, rfl, _, rfl, sh, _, rfl, dg s2, ⟨_, rfl⟩, _, _, rfl, rfl, (by decide +kernel), tl1, fun p hp => ?_⟩
    rcases ftx with ⟨etx, efs⟩ | ⟨ntx, nfs, etx⟩
    · -- an empty file
      rw [etx] at dg ⊢
      rw [split_none]
      have s3 := same_new (o := .lst [V.str ""]) hp
      have R1 := R0.same s3
      have s4 := s2.trans s3
      refine ⟨p, [V.str ""], rfl, .inl (SqL.of upd_same), 1, rfl, by omega, by omega, for_range (lo := 0) (n := 1) (fun i σ H' => i = 0 ∧ H' = upd H2 p (.lst [V.str ""]) ∧ σ = [some (.ref sh), some (.str f), some vsw, some (.ref fl), some (.ref ra), none, none, none, none, none, none])
        ⟨rfl, rfl, rfl⟩ ?_ (fun σ H' h => absurd h.1 (by omega))⟩
      rintro i σ H1 hi ⟨rfl, rfl, rfl⟩
      refine ⟨_, rfl, _, rfl, sh, _, rfl, dg s4, ⟨_, rfl⟩, _, _, rfl, rfl, (by decide +kernel), (by decide +kernel), fun p2 hp2 => ?_⟩
      rw [split_none]
      have s5 := same_new (o := .lst [V.str ""]) hp2
      have R2 := R1.same s5
      refine ⟨_, rfl, p2, _, _, _, rfl, rfl, SqL.of upd_same, at_of (j := 0) rfl rfl, ?_⟩
      refine ⟨_, rfl, _, rfl, sh, _, rfl, dg (s4.trans s5), rfl, _, rfl, ?_⟩
      rw [decide_eq_true (show V.str "" = V.str "" from rfl)]
      refine iteT ⟨_, rfl, ?_⟩
      obtain ⟨items, h1, h2⟩ := R2.it
      refine k fl _ items R2.sm R2.fl0 h1 ?_
      have er : rows M.fs (n + 1) f = [] := by
        show rdL (rows M.fs n) f 0 [] (M.fs f) = []
        rw [efs]
        rfl
      rw [er]
      exact h2.mono fun _ _ q => q.more fun _ b => b.1
    · -- a file of lines
      rw [etx, split_textOf nfs fok]
      rw [etx] at dg
      have s3 := same_new (o := .lst (((M.fs f).map Ln.txt).map V.str)) hp
      have R1 := R0.same s3
      have rl : (rows M.fs (n + 1) f).length ≤ 24 ^ (n + 1) := rows_len (fun g hg => (RO g hg).2.1) fine
      have r3 : 24 ^ (n + 1) ≤ 24 ^ 3 := Nat.pow_le_pow_right (by decide) hn
      have rl : (rows M.fs (n + 1) f).length ≤ 13824 := Nat.le_trans rl r3
      have hU : ∀ g, (g ∉ path ++ [f] ∧ FsOk M.fs M.dom I n (path ++ [f]) g) → RwI I (6 * n) (rows M.fs n g) := fun g hg => rows_in hg.2
      have okl := fine.2.2
      have lget : ∀ {i : Nat}, (((M.fs f).map Ln.txt).map V.str)[i]? = ((M.fs f)[i]?).map (fun ln : Ln => V.str ln.txt) := fun {i} => by
        rw [List.getElem?_map, List.getElem?_map]
        cases (M.fs f)[i]? <;> rfl
      refine ⟨p, _, rfl, .inl (SqL.of upd_same), ?_⟩
      rw [List.length_map, List.length_map]
      refine ⟨((M.fs f).length : Int), rfl, by omega, by omega, for_range (lo := 0) (n := ((M.fs f).length : Int).toNat) (fun i σ H' => ∃ ra st done v5 v6 v7 v8 v9 v10, σ = [some (.ref sh), some (.str f), some vsw, some (.ref fl), some (.ref ra), v5, v6, v7, v8, v9, v10] ∧
          RSt H H' fl ra st done ∧ StI I st ∧ okL (fun g => g ∉ path ++ [f] ∧ FsOk M.fs M.dom I n (path ++ [f]) g) I st ((M.fs f).drop i) ∧ done ++ rdL (rows M.fs n) f i st ((M.fs f).drop i) = rows M.fs (n + 1) f)
        ⟨ra, [], [], _, _, _, _, _, _, rfl, R1, StI.nil, okl, rfl⟩ ?_ ?_⟩
      · rintro i σ H3 hi ⟨ra, st, done, v5, v6, v7, v8, v9, v10, rfl, R, hst, okR, eR⟩
        have hi : i < (M.fs f).length := by omega
        have e0i : (0 : Int) + (i : Nat) = ((i : Nat) : Int) := by omega
        generalize hln : (M.fs f)[i] = ln
        have hget : (M.fs f)[i]? = some ln := by
          rw [List.getElem?_eq_getElem hi, hln]
        have lno := fok ln (List.mem_of_getElem? hget)
        have hdrop : (M.fs f).drop i = ln :: (M.fs f).drop (i + 1) := by
          rw [← hln]
          exact List.drop_eq_getElem_cons hi
        rw [hdrop] at okR eR
        obtain ⟨okn, okR⟩ := okR
        refine ⟨_, rfl, _, rfl, sh, _, rfl, dg R.sm, ⟨_, rfl⟩, _, _, rfl, rfl, (by decide +kernel), (by rw [← etx]; exact tl1), fun p2 hp2 => ?_⟩
        rw [split_textOf nfs fok]
        have R := R.same (same_new (o := .lst (((M.fs f).map Ln.txt).map V.str)) hp2)
        refine ⟨_, rfl, p2, _, _, _, rfl, rfl, SqL.of upd_same, at_of (j := i) e0i (by rw [lget, hget]; rfl), ?_⟩
        generalize upd H3 p2 (.lst (((M.fs f).map Ln.txt).map V.str)) = H4 at R ⊢
        refine ⟨_, rfl, _, rfl, sh, _, rfl, dg R.sm, rfl, _, rfl, ?_⟩
        rw [decide_eq_false (show ¬ V.str (textOf (M.fs f)) = V.str "" from fun e => ntx (by rw [etx]; exact V.str.inj e))]
        refine iteF ?_
        obtain ⟨items, hit, hall⟩ := R.it
        have hlen := R.len hit
        have dlen : done.length + (rowsOf (rows M.fs n) f i st ln).length ≤ 13824 := by
          have z := congrArg List.length eR
          simp only [rdL, List.length_append] at z
          omega
        have stn := hst.nxt okn
        -- behind the line
        have next : ∀ (H5 : Hp) (ra' : Addr) (v5 v6 v7 v8 v9 v10 : Option V), RSt H H5 fl ra' (nxt st ln) (done ++ rowsOf (rows M.fs n) f i st ln) → ∃ ra st done v5' v6' v7' v8' v9' v10', [some (V.ref sh), some (.str f), some vsw, some (.ref fl), some (.ref ra'), v5, v6, v7, v8, v9, v10] = [some (V.ref sh), some (.str f), some vsw, some (.ref fl), some (.ref ra), v5', v6', v7', v8', v9', v10'] ∧
            RSt H H5 fl ra st done ∧ StI I st ∧ okL (fun g => g ∉ path ++ [f] ∧ FsOk M.fs M.dom I n (path ++ [f]) g) I st ((M.fs f).drop (i + 1)) ∧ done ++ rdL (rows M.fs n) f (i + 1) st ((M.fs f).drop (i + 1)) = rows M.fs (n + 1) f :=
          fun H5 ra' v5 v6 v7 v8 v9 v10 R5 => ⟨ra', nxt st ln, done ++ rowsOf (rows M.fs n) f i st ln, v5, v6, v7, v8, v9, v10, rfl, R5, stn, okR, by rw [List.append_assoc]; exact eR⟩
        obtain ⟨avs, har, hav⟩ := R.ar
        have alen : avs.length = st.length := by
          rw [hav.length, List.length_reverse]
        have st6 := hst.1
        cases ln with
        | con z =>
          have cz := lno.con z rfl
          refine ⟨_, rfl, ⟨_, rfl⟩, _, _, rfl, rfl, _, rfl, ?_⟩
          rw [show Txt.startswith (Ln.txt (.con z)) "#if " = false from con_no_if cz]
          refine iteF ⟨_, rfl, rfl, _, rfl, ?_⟩
          rw [decide_eq_false (show ¬ V.str (Ln.txt (.con z)) = V.str "#else" from fun e => con_ne cz els_head (V.str.inj e))]
          refine iteF ⟨_, rfl, rfl, _, rfl, ?_⟩
          rw [decide_eq_false (show ¬ V.str (Ln.txt (.con z)) = V.str "#end" from fun e => con_ne cz end_head (V.str.inj e))]
          refine iteF ⟨_, rfl, ⟨_, rfl⟩, _, _, rfl, rfl, _, rfl, ?_⟩
          rw [show Txt.startswith (Ln.txt (.con z)) "#use " = false from con_no_use cz]
          refine iteF ⟨_, rfl, .inl ⟨rfl, _, SqL.of hit⟩, _, rfl, _, rfl, _, rfl, _, _, rfl, rfl, _, rfl, (by show 4 ≤ sizeLine; decide), fun q hq => ?_⟩
          have sq := same_new (o := .tup [.str z, .str f, .int ((0 : Int) + (i : Nat) + 1), .ref ra]) hq
          have R5 := R.same sq
          refine ⟨fl, _, _, rfl, rfl, sq _ _ hit, Nat.lt_of_le_of_lt (m := 13824) (by omega) (by decide), ?_⟩
          refine next _ _ _ _ _ _ _ _ ?_
          have e : nxt st (.con z) = st := by cases st <;> rfl
          rw [e]
          refine R5.app (r := ⟨z, f, i + 1, st.reverse⟩) (sq _ _ hit) ⟨q, ra, rfl, ?_, R5.ar, R.ra0, R.ne⟩
          rw [upd_same, e0i]
          rfl
        | iff z =>
          refine ⟨_, rfl, ⟨_, rfl⟩, _, _, rfl, rfl, _, rfl, ?_⟩
          rw [show Txt.startswith (Ln.txt (.iff z)) "#if " = true from sw_if_if z]
          refine iteT ⟨_, rfl, _, rfl, _, rfl, _, rfl, lenLn lno, ?_⟩
          rw [show cutS (Ln.txt (.iff z)) (some 4) none = z from cut4 z]
          refine ⟨(by show 2 ≤ sizeLine; decide), fun q hq => ?_⟩
          have sq := same_new (o := .tup [.str z, .bl true]) hq
          refine ⟨(by show 1 ≤ sizeLine; decide), fun q2 hq2 => ?_⟩
          have sq2 := same_new (o := .lst [.ref q]) hq2
          have R5 := R.same (sq.trans sq2)
          refine ⟨ra, q2, _, _, rfl, rfl, (sq.trans sq2) _ _ har, upd_same, szs (by show avs.length + 1 ≤ 100000; omega), fun r hr' => ?_⟩
          refine next _ r _ _ _ _ _ _ ?_
          have e : nxt st (.iff z) = (z, true) :: st := by cases st <;> rfl
          rw [e, show rowsOf (rows M.fs n) f i st (.iff z) = [] from rfl, List.append_nil]
          refine R5.around hr' ?_
          rw [List.reverse_cons]
          exact (hav.mono fun _ _ y => y.imm (imm_same (sq.trans sq2))).append (.cons ⟨q, rfl, sq2 _ _ upd_same⟩ .nil)
        | els =>
          cases st with
          | nil => exact okn.elim
          | cons y st =>
            obtain ⟨z, b⟩ := y
            rw [List.reverse_cons] at hav
            obtain ⟨avs, v, rfl, hav2, hv⟩ := hav.snoc_inv
            obtain ⟨pq, rfl, hpq⟩ := hv
            refine ⟨_, rfl, ⟨_, rfl⟩, _, _, rfl, rfl, _, rfl, ?_⟩
            rw [show Txt.startswith (Ln.txt .els) "#if " = false from sw_els_if]
            refine iteF ⟨_, rfl, rfl, _, rfl, ?_⟩
            rw [decide_eq_true (show V.str (Ln.txt .els) = V.str "#else" from rfl)]
            refine iteT ⟨_, rfl, _, rfl, _, rfl, ra, _, rfl, SqL.of har, fun r1 hr1 => ?_⟩
            rw [show cutV (avs ++ [.ref pq]) none (some (-1)) = avs from cut_last avs _]
            have sr := same_new (o := .lst avs) hr1
            refine ⟨_, rfl, _, rfl, ra, _, _, _, rfl, rfl, SqL.of (sr _ _ har), atI_last avs _, pq, _, _, _, rfl, rfl, .inl (.inl (sr _ _ hpq)), at_of (j := 0) rfl rfl, ?_⟩
            refine ⟨(by show 2 ≤ sizeLine; decide), fun q hq => ?_⟩
            have sq := same_new (o := .tup [.str z, .bl false]) hq
            refine ⟨(by show 1 ≤ sizeLine; decide), fun q2 hq2 => ?_⟩
            have sq2 := same_new (o := .lst [.ref q]) hq2
            have s6 := (sr.trans sq).trans sq2
            have R5 := R.same s6
            rw [List.length_append, List.length_singleton] at alen
            rw [List.length_cons] at alen st6
            refine ⟨r1, q2, _, _, rfl, rfl, (sq.trans sq2) _ _ upd_same, upd_same, szs (by show avs.length + 1 ≤ 100000; omega), fun r hr' => ?_⟩
            refine next _ r _ _ _ _ _ _ ?_
            have e : nxt ((z, b) :: st) .els = (z, false) :: st := rfl
            rw [e, show rowsOf (rows M.fs n) f i ((z, b) :: st) .els = [] from rfl, List.append_nil]
            refine R5.around hr' ?_
            rw [List.reverse_cons]
            exact (hav2.mono fun _ _ y => y.imm (imm_same s6)).append (.cons (b := (z, false)) ⟨q, rfl, sq2 _ _ upd_same⟩ .nil)
        | fin =>
          cases st with
          | nil => exact okn.elim
          | cons y st =>
            rw [List.reverse_cons] at hav
            obtain ⟨avs, v, rfl, hav2, hv⟩ := hav.snoc_inv
            refine ⟨_, rfl, ⟨_, rfl⟩, _, _, rfl, rfl, _, rfl, ?_⟩
            rw [show Txt.startswith (Ln.txt .fin) "#if " = false from sw_fin_if]
            refine iteF ⟨_, rfl, rfl, _, rfl, ?_⟩
            rw [decide_eq_false (show ¬ V.str (Ln.txt .fin) = V.str "#else" from fun q => fin_ne_els (V.str.inj q))]
            refine iteF ⟨_, rfl, rfl, _, rfl, ?_⟩
            rw [decide_eq_true (show V.str (Ln.txt .fin) = V.str "#end" from rfl)]
            refine iteT ⟨_, rfl, _, rfl, _, rfl, ra, _, rfl, SqL.of har, fun r1 hr1 => ?_⟩
            rw [show cutV (avs ++ [v]) none (some (-1)) = avs from cut_last avs _]
            refine next _ r1 _ _ _ _ _ _ ?_
            have e : nxt (y :: st) .fin = st := rfl
            rw [e, show rowsOf (rows M.fs n) f i (y :: st) .fin = [] from rfl, List.append_nil]
            exact R.around hr1 hav2
        | use g =>
          have hg := okn
          refine ⟨_, rfl, ⟨_, rfl⟩, _, _, rfl, rfl, _, rfl, ?_⟩
          rw [show Txt.startswith (Ln.txt (.use g)) "#if " = false from sw_use_if g]
          refine iteF ⟨_, rfl, rfl, _, rfl, ?_⟩
          rw [decide_eq_false (show ¬ V.str (Ln.txt (.use g)) = V.str "#else" from fun q => use_ne_els g (V.str.inj q))]
          refine iteF ⟨_, rfl, rfl, _, rfl, ?_⟩
          rw [decide_eq_false (show ¬ V.str (Ln.txt (.use g)) = V.str "#end" from fun q => use_ne_fin g (V.str.inj q))]
          refine iteF ⟨_, rfl, ⟨_, rfl⟩, _, _, rfl, rfl, _, rfl, ?_⟩
          rw [show Txt.startswith (Ln.txt (.use g)) "#use " = true from sw_use_use g]
          refine iteT ⟨_, rfl, _, rfl, _, rfl, _, rfl, lenLn lno, ?_⟩
          rw [show cutS (Ln.txt (.use g)) (some 5) none = g from cut5 g]
          have RG := hU g hg
          refine ⟨_, rfl, sh, g, vsw, path ++ [f], rfl, ⟨kvs, R.sm _ _ hkv, hdom⟩, hg.2, by omega, fun l2 H5 it2 s5 hl2 hi2 all2 => ?_⟩
          have R5 := R.same s5
          have nl2 : fl ≠ l2 := ne_of_none hit hl2
          have f4 : ∀ a, H4 a = none → a ≠ fl := fun a z => (ne_of_none hit z).symm
          have il2 : it2.length = (rows M.fs n g).length := all2.length
          refine ⟨l2, rfl, ⟨_, SqL.of hi2⟩, for_list (K := K) (a := l2) (xs := it2) (fun j σ H' => ∃ v7 v8 v9 v10, σ = [some (.ref sh), some (.str f), some vsw, some (.ref fl), some (.ref ra), some (.int ((0 : Int) + (i : Nat))), some (.str (Ln.txt (.use g))), v7, v8, v9, v10] ∧
              RSt H H' fl ra st (done ++ ((rows M.fs n g).take j).map fun r => r.under st.reverse) ∧ H' l2 = some (.lst it2) ∧ All2 (RowAt (fun a => H4 a = none) H') it2 (rows M.fs n g))
            ⟨v7, v8, v9, v10, rfl, by rw [List.take_zero, List.map_nil, List.append_nil]; exact R5, hi2, all2⟩ (fun j σ H' _ ⟨_, _, _, _, _, _, q, _⟩ => SqL.of q) ?_ ?_⟩
          · rintro j v σ H6 hj ⟨v7, v8, v9, v10, rfl, R6, hl6, all6⟩
            obtain ⟨r, hrj, ⟨q, a, rfl, hq, ⟨ivs, hia, hiv⟩, ha4⟩⟩ := all6.get hj
            have hrm := RG r (List.mem_of_getElem? hrj)
            refine ⟨q, _, rfl, .inl (.inl hq), rfl, _, [_, _, _], rfl, _, [_, _], rfl, _, [_], rfl, _, [], rfl, rfl, ?_⟩
            obtain ⟨items6, hit6, hall6⟩ := R6.it
            have hlen6 := R6.len hit6
            obtain ⟨avs6, har6, hav6⟩ := R6.ar
            have alen6 : avs6.length = st.length := by
              rw [hav6.length, List.length_reverse]
            have ilen6 : ivs.length ≤ 18 := by
              rw [hiv.length]
              have := hrm.1
              omega
            refine ⟨_, rfl, .inl ⟨rfl, _, SqL.of hit6⟩, _, rfl, _, rfl, _, rfl, _, rfl, _, rfl, ra, a, _, _, rfl, rfl, har6, hia, szs (by omega), fun r2 hr2 => ?_⟩
            have sr := same_new (o := .lst (avs6 ++ ivs)) hr2
            refine ⟨(by show 4 ≤ sizeLine; decide), fun q2 hq2 => ?_⟩
            have sq := same_new (o := .tup [.str r.text, .str r.file, .int (r.at' : Int), .ref r2]) hq2
            have s8 := sr.trans sq
            have R8 := R6.same s8
            have jlen : j < (rows M.fs n g).length := (List.getElem?_eq_some_iff.mp hrj).1
            have bnd : items6.length < 13824 := by
              rw [hlen6, List.length_append, List.length_map, List.length_take, Nat.min_eq_left (by omega)]
              have : (rowsOf (rows M.fs n) f i st (.use g)).length = (rows M.fs n g).length := by
                show ((rows M.fs n g).map _).length = _
                rw [List.length_map]
              omega
            refine ⟨fl, _, _, rfl, rfl, s8 _ _ hit6, Nat.lt_trans bnd (by decide), ?_⟩
            have hfl6 : ∃ xs, (upd (upd H6 r2 (.lst (avs6 ++ ivs))) q2 (.tup [.str r.text, .str r.file, .int (r.at' : Int), .ref r2])) fl = some (.lst xs) := ⟨_, s8 _ _ hit6⟩
            refine ⟨_, _, _, _, rfl, ?_, ?_, ?_⟩
            · rw [List.take_add_one, hrj, List.map_append, ← List.append_assoc]
              refine R8.app (r := r.under st.reverse) (s8 _ _ hit6) ⟨q2, r2, rfl, upd_same, ⟨_, sq _ _ upd_same, ?_⟩, R6.sm.free hr2, (ne_of_none hit6 hr2).symm⟩
              exact (hav6.append hiv).mono fun _ _ y => y.imm (imm_same s8)
            · rw [upd_ne nl2.symm]
              exact s8 _ _ hl6
            · exact all6.mono fun _ _ y => (y.same s8).but But.upd hfl6 f4
          · rintro σ H6 ⟨v7, v8, v9, v10, rfl, R6, hl6, all6⟩
            refine next _ _ _ _ _ _ _ _ ?_
            have e : nxt st (.use g) = st := by cases st <;> rfl
            rw [e]
            rw [List.take_of_length_le (by omega)] at R6
            exact R6
      · rintro σ H3 ⟨ra, st, done, v5, v6, v7, v8, v9, v10, rfl, R, hst, okR, eR⟩
        have et : (((M.fs f).length : Nat) : Int).toNat = (M.fs f).length := by omega
        rw [et, List.drop_length] at eR
        rw [show rdL (rows M.fs n) f (M.fs f).length st [] = [] from rfl, List.append_nil] at eR
        obtain ⟨items, h1, h2⟩ := R.it
        refine ⟨_, rfl, k fl _ items R.sm R.fl0 h1 ?_⟩
        rw [← eR]
        exact h2.mono fun _ _ q => q.more fun _ b => b.1
end
end OF

set_option Elab.async false
set_option linter.all false
set_option maxRecDepth 100000
set_option maxHeartbeats 4000000
/-! M4: the shelf that the law draws, as parameters of a reading. -/
namespace OF
open PySem L2
/-! ### the lines of a file behind the cut -/
def lns (ls : List Ln) : List Ln := if ls.take 12 = [] then [.con ""] else ls.take 12
def full (ls : List Ln) : List Ln := lns ls ++ fins (runL [] (lns ls)).length
def zT (ls : List Ln) : Str := textOf (full ls)
def zL (ls : List Ln) : List Ln := if zT ls = "" then [] else full ls
theorem lns_text (ls : List Ln) : textOf (ls.take 12) = textOf (lns ls) := by
  unfold lns
  by_cases c : ls.take 12 = []
  · rw [if_pos c, c]
    exact textOf_nil
  · rw [if_neg c]
theorem lns_ne (ls : List Ln) : lns ls ≠ [] := by
  unfold lns
  by_cases c : ls.take 12 = []
  · rw [if_pos c]
    exact List.cons_ne_nil _ _
  · rw [if_neg c]
    exact c
theorem lns_len (ls : List Ln) : (lns ls).length ≤ 12 := by
  unfold lns
  by_cases c : ls.take 12 = []
  · rw [if_pos c]
    show 1 ≤ 12
    omega
  · rw [if_neg c, List.length_take]
    omega
theorem lns_fine {U I : Str → Prop} {ls : List Ln} (h : fineL U I [] ls) : fineL U I [] (lns ls) := by
  unfold lns
  by_cases c : ls.take 12 = []
  · rw [if_pos c]
    exact ⟨cont1, trivial⟩
  · rw [if_neg c]
    exact fineL_take 12 h
theorem full_okL {U I : Str → Prop} {ls : List Ln} (h : fineL U I [] ls) : okL U I [] (full ls) := by
  have h1 := lns_fine h
  obtain ⟨h2, h3⟩ := fins_ok (U := U) (I := I) (runL [] (lns ls))
  exact okL_of (fineL_append h1 h2) (by rw [full, runL_append]; exact h3)
theorem full_lnOk {U I : Str → Prop} (hU : ∀ f, U f → f.length ≤ 8 ∧ 10 ∉ tl f) (hI : ∀ s, I s → s.length ≤ 60 ∧ 10 ∉ tl s) {ls : List Ln} (h : fineL U I [] ls) : ∀ ln ∈ full ls, LnOk ln := fun ln hl => by
  rcases List.mem_append.mp hl with z | z
  · exact linesOk hU hI (lns_fine h) ln z
  · exact fins_lnOk _ ln z
theorem full_ne (ls : List Ln) : full ls ≠ [] := fun e => lns_ne ls (List.append_eq_nil_iff.mp e).1
theorem full_len {U I : Str → Prop} {ls : List Ln} (h : fineL U I [] ls) : (full ls).length ≤ 24 := by
  have a := lns_len ls
  have b := runL_len (lns_fine h)
  have c : ([] : Ar).length = 0 := rfl
  unfold full fins
  rw [List.length_append, List.length_replicate]
  omega
/-! ### the files by name -/
def flk (FL : List (Str × List Ln)) (f : Str) : List Ln := ((FL.find? fun e => decide (e.1 = f)).map (·.2)).getD []
theorem flk_of {FL : List (Str × List Ln)} (nd : (FL.map Prod.fst).Nodup) {e : Str × List Ln} (h : e ∈ FL) : flk FL e.1 = e.2 := by
  induction FL with
  | nil => cases h
  | cons a r ih =>
    rw [List.map_cons, List.nodup_cons] at nd
    unfold flk
    by_cases c : a.1 = e.1
    · rcases List.mem_cons.mp h with q | q
      · rw [q, List.find?_cons_of_pos (by simp)]
        rfl
      · exact absurd (List.mem_map.mpr ⟨e, q, c.symm⟩) nd.1
    · rw [List.find?_cons_of_neg (by simpa using c)]
      rcases List.mem_cons.mp h with q | q
      · exact absurd (by rw [q]) c
      · exact ih nd.2 q
/-- what a text stands for -/
noncomputable def knOf (H : Hp) (sw : List Str) (kvs : List (Key × V)) (s : Str) : Fo := by
  classical
  exact if h : ∃ f, ∃ v, valV kvs (Sum.inr s) = some v ∧ FAt H v f ∧ PrE sw 3 f (tl s) ∧ s.length ≤ 60 then h.choose else .yes
theorem knOf_is {H : Hp} {sw : List Str} {kvs : List (Key × V)} (ok : KvOk sw H kvs) {s : Str} (h : isKey kvs s) : ∃ v, valV kvs (Sum.inr s) = some v ∧ FAt H v (knOf H sw kvs s) ∧ PrE sw 3 (knOf H sw kvs s) (tl s) ∧ s.length ≤ 60 := by
  obtain ⟨v, e⟩ := h
  obtain ⟨s', f, h1, h2, h3, h4⟩ := ok _ _ e
  cases h1
  have hx : ∃ f, ∃ v, valV kvs (Sum.inr s) = some v ∧ FAt H v f ∧ PrE sw 3 f (tl s) ∧ s.length ≤ 60 := ⟨f, v, e, h2, h3, h4⟩
  unfold knOf
  rw [dif_pos hx]
  exact hx.choose_spec
noncomputable def pmOf (H : Hp) (sw : List Str) (kvs : List (Key × V)) (FL : List (Str × List Ln)) : Pm :=
  ⟨sw, knOf H sw kvs, fun f => zL (flk FL f), fun f => zT (flk FL f), fun f => f ∈ FL.map Prod.fst⟩
/-- what is drawn -/
structure Drawn (H : Hp) (sw : List Str) (kvs : List (Key × V)) (n : Nat) (FL : List (Str × List Ln)) : Prop where
  swok : SwOk sw
  n1 : 1 ≤ n
  n4 : n ≤ 4
  nm : FL.map Prod.fst = names4.take n
  bal : ∀ (k : Nat) (e : Str × List Ln), FL[k]? = some e → Bal (· ∈ usn n k) (isKey kvs) 3 e.2
  kv : KvOk sw H kvs
theorem names4_nodup : names4.Nodup := by decide +kernel
theorem names4_file : ∀ f ∈ names4, FileNm f := fun f hf => (by decide +kernel : ∀ f ∈ names4, 1 ≤ f.length ∧ f.length ≤ 8 ∧ ∀ c ∈ tl f, c ∈ tl ("abcdefghijklmnopqrstuvwxyz0123456789" : Str)) f hf
section
variable {H : Hp} {sw : List Str} {kvs : List (Key × V)} {n : Nat} {FL : List (Str × List Ln)}
theorem Drawn.nd (D : Drawn H sw kvs n FL) : (FL.map Prod.fst).Nodup := by
  rw [D.nm]
  exact List.Nodup.sublist (List.take_sublist _ _) names4_nodup
theorem Drawn.sub (D : Drawn H sw kvs n FL) {f : Str} (h : f ∈ FL.map Prod.fst) : f ∈ names4 := by
  rw [D.nm] at h
  exact List.mem_of_mem_take h
theorem Drawn.get (D : Drawn H sw kvs n FL) {f : Str} (h : f ∈ FL.map Prod.fst) : ∃ (k : Nat) (e : Str × List Ln), FL[k]? = some e ∧ e.1 = f ∧ flk FL f = e.2 := by
  obtain ⟨e, he, rfl⟩ := List.mem_map.mp h
  obtain ⟨k, hk⟩ := List.mem_iff_getElem?.mp he
  exact ⟨k, e, hk, rfl, flk_of D.nd he⟩
theorem Drawn.fine (D : Drawn H sw kvs n FL) {k : Nat} {e : Str × List Ln} (h : FL[k]? = some e) : fineL (· ∈ usn n k) (isKey kvs) [] e.2 := (D.bal k e h [] (by decide)).1
theorem Drawn.keys (D : Drawn H sw kvs n FL) : ∀ s, isKey kvs s → s.length ≤ 60 ∧ 10 ∉ tl s := fun s hs => key_ok D.swok D.kv hs
theorem Drawn.rd (D : Drawn H sw kvs n FL) : RdOk (pmOf H sw kvs FL) := fun f hf => by
  obtain ⟨k, e, h1, h2, h3⟩ := D.get hf
  have fine := D.fine h1
  have lok := full_lnOk (fun f hf => names4_ok f (usn_sub hf)) D.keys fine
  have hlen := full_len fine
  refine ⟨(names4_ok f (D.sub hf)).1, ?_, ?_, ?_⟩
  · show (zL (flk FL f)).length ≤ 24
    rw [h3]
    unfold zL
    by_cases c : zT e.2 = ""
    · rw [if_pos c]
      exact Nat.zero_le _
    · rw [if_neg c]
      exact hlen
  · show ∀ ln ∈ zL (flk FL f), LnOk ln
    rw [h3]
    unfold zL
    by_cases c : zT e.2 = ""
    · rw [if_pos c]
      exact fun ln h => nomatch h
    · rw [if_neg c]
      exact lok
  · show (zT (flk FL f) = "" ∧ zL (flk FL f) = []) ∨ (zT (flk FL f) ≠ "" ∧ zL (flk FL f) ≠ [] ∧ zT (flk FL f) = textOf (zL (flk FL f)))
    rw [h3]
    unfold zL
    by_cases c : zT e.2 = ""
    · rw [if_pos c]
      exact .inl ⟨c, rfl⟩
    · rw [if_neg c]
      exact .inr ⟨c, full_ne _, rfl⟩
theorem Drawn.ok (D : Drawn H sw kvs n FL) : (pmOf H sw kvs FL).Ok := by
  refine ⟨D.swok, fun f hf => names4_file f (D.sub hf), fun f hf => ?_, fun f hf => ?_⟩
  · obtain ⟨_, _, lok, q⟩ := D.rd f hf
    unfold linesT
    rcases q with ⟨a, b⟩ | ⟨a, b, c⟩
    · rw [if_pos a, b]
      rfl
    · rw [if_neg a, c]
      exact split_textOf b lok
  · obtain ⟨k, e, h1, h2, h3⟩ := D.get hf
    have fine := D.fine h1
    show (zT (flk FL f)).length ≤ 100000
    rw [h3]
    have := textOf_len (full_lnOk (fun f hf => names4_ok f (usn_sub hf)) D.keys fine) (by have := full_len fine; omega)
    exact Nat.le_trans this (by decide)
theorem Drawn.known (D : Drawn H sw kvs n FL) : ∀ s, isKey kvs s → (pmOf H sw kvs FL).I s := fun s hs => by
  obtain ⟨v, _, _, h, l⟩ := knOf_is D.kv hs
  exact ⟨h, l⟩
theorem Drawn.nms (D : Drawn H sw kvs n FL) : ∀ s, isKey kvs s → FNm (pmOf H sw kvs FL).sw ((pmOf H sw kvs FL).kn s) ∧ ((pmOf H sw kvs FL).kn s).depth ≤ 60 := fun s hs => by
  have h := D.known s hs
  refine ⟨h.names, ?_⟩
  have := h.1.depth D.swok
  have e := h.2
  rw [len_tl] at e
  exact Nat.le_trans this e
theorem Drawn.knAt (D : Drawn H sw kvs n FL) {kd : Addr} (h : H kd = some (.dK kvs)) : KnAt (pmOf H sw kvs FL) (isKey kvs) H kd := ⟨kvs, h, fun s hs => by
  obtain ⟨v, e, f, _⟩ := knOf_is D.kv hs
  exact ⟨v, e, f⟩⟩
/-- the file k, its uses below -/
theorem Drawn.fsOk (D : Drawn H sw kvs n FL) : ∀ m k, k + m = 3 → k < n → 1 ≤ m → ∀ f, names4[k]? = some f → FsOk (pmOf H sw kvs FL).fs (pmOf H sw kvs FL).dom (isKey kvs) m (names4.take k) f
  | 0, k, _, _, z, _, _ => by omega
  | m + 1, k, e1, e2, _, f, ef => by
    have hn4 := D.n4
    have hnl : (names4.take n).length = n := by
      rw [List.length_take]
      exact Nat.min_eq_left (by show n ≤ 4; omega)
    have hFL : FL.length = n := by
      have z := congrArg List.length D.nm
      rw [List.length_map] at z
      rw [z, hnl]
    obtain ⟨e, he⟩ : ∃ e, FL[k]? = some e := ⟨FL[k]'(by omega), List.getElem?_eq_getElem (by omega)⟩
    have e1f : e.1 = f := by
      have z : (FL.map Prod.fst)[k]? = some e.1 := by rw [List.getElem?_map, he]; rfl
      rw [D.nm, List.getElem?_take, if_pos e2, ef] at z
      exact (Option.some.inj z).symm
    have hd : f ∈ FL.map Prod.fst := List.mem_map.mpr ⟨e, List.mem_of_getElem? he, e1f⟩
    have hp : names4.take (k + 1) = names4.take k ++ [f] := by
      rw [List.take_add_one, ef]
      rfl
    refine ⟨?_, hd, ?_⟩
    · rw [List.length_take]
      omega
    · show okL _ _ [] (zL (flk FL f))
      have hl : flk FL f = e.2 := by
        rw [← e1f]
        exact flk_of D.nd (List.mem_of_getElem? he)
      rw [hl]
      unfold zL
      by_cases c : zT e.2 = ""
      · rw [if_pos c]
        exact rfl
      · rw [if_neg c]
        refine (full_okL (D.fine he)).mono (fun g hg => ?_) fun s h => h
        unfold usn at hg
        by_cases c2 : k < 2
        · rw [if_pos c2] at hg
          have hg : g ∈ ((names4.take n).drop (k + 1)).take 1 := hg
          have k1 : k + 1 < n := by
            refine Nat.lt_of_not_le fun q => ?_
            rw [List.drop_eq_nil_of_le (by omega), List.take_nil] at hg
            cases hg
          obtain ⟨g', eg⟩ : ∃ g', names4[k + 1]? = some g' := ⟨names4[k + 1]'(by show k + 1 < 4; omega), List.getElem?_eq_getElem (by show k + 1 < 4; omega)⟩
          have egt : (names4.take n)[k + 1]? = some g' := by
            rw [List.getElem?_take, if_pos k1, eg]
          have ge : g = g' := by
            have hx : k + 1 < (names4.take n).length := by omega
            rw [List.drop_eq_getElem_cons hx, List.take_succ_cons, List.take_zero, List.mem_singleton] at hg
            rw [List.getElem?_eq_getElem hx] at egt
            rw [hg]
            exact Option.some.inj egt
          subst ge
          rw [← hp]
          refine ⟨?_, D.fsOk m (k + 1) (by omega) k1 (by omega) g eg⟩
          intro q
          have nd : (names4.take (k + 1 + 1)).Nodup := List.Nodup.sublist (List.take_sublist _ _) names4_nodup
          rw [List.take_add_one (i := k + 1), eg, List.nodup_append] at nd
          exact nd.2.2 g q g (by simp) rfl
        · rw [if_neg c2] at hg
          cases hg
theorem Drawn.main (D : Drawn H sw kvs n FL) : FsOk (pmOf H sw kvs FL).fs (pmOf H sw kvs FL).dom (isKey kvs) 3 [] "main" :=
  D.fsOk 3 0 rfl D.n1 (by decide) "main" rfl
theorem Drawn.fineM (D : Drawn H sw kvs n FL) : (pmOf H sw kvs FL).fine 3 [] "main" := FsOk.mono D.known D.main
end
/-! ### the texts of rows -/
def RwT (dom : Str → Prop) (rs : List Row) : Prop := ∀ r ∈ rs, Cont r.text ∧ dom r.file
theorem rdL_txt {U I dom : Str → Prop} {sub : Str → List Row} {f : Str} (hf : dom f) (hU : ∀ g, U g → RwT dom (sub g)) : ∀ {ls : List Ln} {k : Nat} {st : Ar}, okL U I st ls → RwT dom (rdL sub f k st ls)
  | [], _, _, _ => fun r hr => by simp [rdL] at hr
  | ln :: ls, k, st, ⟨o1, o2⟩ => fun r hr => by
    rcases List.mem_append.mp hr with q | q
    · cases ln with
      | con s =>
        have e : r = ⟨s, f, k + 1, st.reverse⟩ := List.mem_singleton.mp q
        rw [e]
        exact ⟨o1, hf⟩
      | use g =>
        obtain ⟨r', h1, rfl⟩ := List.mem_map.mp q
        exact hU g o1 r' h1
      | iff s => simp [rowsOf] at q
      | els => simp [rowsOf] at q
      | fin => simp [rowsOf] at q
    · exact rdL_txt hf hU o2 r q
theorem rows_txt {fs : Str → List Ln} {dom I : Str → Prop} : ∀ {n : Nat} {path : List Str} {f : Str}, FsOk fs dom I n path f → RwT dom (rows fs n f)
  | 0, _, _, h => h.elim
  | n + 1, path, f, ⟨_, d, o⟩ => rdL_txt d (fun g hg => rows_txt hg.2) o
theorem ok_any {P : Program} {w : World} {K : PySem.W.Frag} {mg : Str → Option Value} {base : Heap} {CX : CXT} {k : Nat} {f : Addr} {fd : FuncData} {ps : List Str} {α : Type} {C : α → Prop} {sp : α → Sp} (h : ∀ a, C a → FnOk P w K mg base CX k f fd ps (sp a)) : FnOk P w K mg base CX k f fd ps (fun vs H Q E => ∃ a, C a ∧ sp a vs H Q E) :=
  ⟨fun vs H Q E ⟨a, c, q⟩ => (h a c).len _ _ _ _ q, fun A outer s H args us vs Q E hr he hb hv ⟨a, c, q⟩ => (h a c).run A outer s H args us vs Q E hr he hb hv q⟩
end OF

set_option Elab.async false
set_option linter.all false
set_option maxRecDepth 100000
set_option maxHeartbeats 4000000
/-! M5: small facts that the law itself wants. -/
namespace OF
open PySem L2
theorem putK_keys {kvs : List (Key × V)} {k : Key} {v : V} (h : (valV kvs k).isSome = true) : (putK kvs k v).map (·.1) = kvs.map (·.1) := by
  unfold putK
  rw [if_pos (by rw [valV_any]; exact h), List.map_map]
  refine List.map_congr_left fun kv _ => ?_
  show (if kv.1 = k then (kv.1, v) else kv).1 = kv.1
  by_cases c : kv.1 = k
  · rw [if_pos c]
  · rw [if_neg c]
theorem putK_flat {kvs : List (Key × V)} {k : Key} {v : V} (h : ∀ x ∈ kvs, flatB x.2 = true) (hv : flatB v = true) : ∀ x ∈ putK kvs k v, flatB x.2 = true := by
  intro x hx
  unfold putK at hx
  by_cases e : (kvs.any fun kv => decide (kv.1 = k)) = true
  · rw [if_pos e] at hx
    obtain ⟨y, hy, rfl⟩ := List.mem_map.mp hx
    by_cases c : y.1 = k
    · rw [if_pos c]
      exact hv
    · rw [if_neg c]
      exact h y hy
  · rw [if_neg e] at hx
    rcases List.mem_append.mp hx with q | q
    · exact h x q
    · rw [List.mem_singleton.mp q]
      exact hv
theorem putK_len_eq {kvs : List (Key × V)} {k : Key} {v : V} (h : (valV kvs k).isSome = true) : (putK kvs k v).length = kvs.length := by
  have e := congrArg List.length (putK_keys (v := v) h)
  simpa using e
/-- the entries of the shelf before the first file is closed -/
theorem shKv_get {FL : List (Str × List Ln)} (nd : (FL.map Prod.fst).Nodup) {j : Nat} {e : Str × List Ln} (h : FL[j]? = some e) : valV (shKv FL) (Sum.inr e.1) = some (.str (textOf (e.2.take 12))) := by
  induction FL generalizing j with
  | nil => cases h
  | cons a r ih =>
    rw [List.map_cons, List.nodup_cons] at nd
    cases j with
    | zero =>
      rw [List.getElem?_cons_zero] at h
      cases h
      exact valV_pos rfl
    | succ j =>
      rw [List.getElem?_cons_succ] at h
      have ne : a.1 ≠ e.1 := fun q => nd.1 (List.mem_map.mpr ⟨e, List.mem_of_getElem? h, q.symm⟩)
      refine (valV_neg (p := (Sum.inr a.1, V.str (textOf (a.2.take 12)))) (r := shKv r) (fun q => ne (Sum.inr.inj q))).trans (ih nd.2 h)
theorem FL_inj {FL : List (Str × List Ln)} (nd : (FL.map Prod.fst).Nodup) {i j : Nat} {e e' : Str × List Ln} (h : FL[i]? = some e) (h' : FL[j]? = some e') (q : e.1 = e'.1) : i = j := by
  refine nd_ix nd (i := i) (j := j) (x := e.1) ?_ ?_
  · rw [List.getElem?_map, h]
    rfl
  · rw [List.getElem?_map, h', q]
    rfl
/-! ### rows as data -/
def rowD (r : Row) : PyData := .tuple [.str r.text, .str r.file, .int (r.at' : Int)]
/-- texts that a page can hold -/
def RowS (r : Row) : Prop := PyData.strOk r.text = true ∧ PyData.strOk r.file = true
theorem strOk_of {s : Str} (h : ∀ c ∈ tl s, c < 1114112) : PyData.strOk s = true := by
  unfold PyData.strOk
  rw [← Array.all_toList, List.all_eq_true]
  intro c hc
  exact decide_eq_true (h c hc)
theorem rowS_of {r : Row} (h : Cont r.text) (hf : r.file ∈ names4) : RowS r := by
  refine ⟨strOk_of fun c hc => by have := h.sg c hc; omega, ?_⟩
  exact (by decide +kernel : ∀ f ∈ names4, PyData.strOk f = true) r.file hf
theorem rowD_shaped {r : Row} (h : RowS r) : SeqAt.shaped (rowD r) = true := by
  unfold SeqAt.shaped rowD
  rw [Bool.and_eq_true]
  refine ⟨?_, ?_⟩
  · simp [PyData.canLay0, PyData.canLayAll0, h.1, h.2]
  · simp [PyData.depth, PyData.depthAll]
theorem rowsD_shaped {rs : List Row} (h : ∀ r ∈ rs, RowS r) : SeqAt.shaped (.list (rs.map rowD)) = true := by
  have a : ∀ rs : List Row, (∀ r ∈ rs, RowS r) → PyData.canLayAll0 (rs.map rowD) = true ∧ PyData.depthAll (rs.map rowD) ≤ 1 := by
    intro rs
    induction rs with
    | nil => intro _; exact ⟨rfl, Nat.zero_le _⟩
    | cons r rs ih =>
      intro h
      obtain ⟨h1, h2⟩ := ih fun x hx => h x (List.mem_cons_of_mem _ hx)
      have z := h r List.mem_cons_self
      refine ⟨?_, ?_⟩
      · simp only [List.map_cons, PyData.canLayAll0, h1, Bool.and_true]
        exact SeqAt.canLay_of_shaped (rowD_shaped z)
      · simp only [List.map_cons, PyData.depthAll]
        have : PyData.depth (rowD r) ≤ 1 := by simp [rowD, PyData.depth, PyData.depthAll]
        omega
  obtain ⟨h1, h2⟩ := a rs h
  unfold SeqAt.shaped
  rw [Bool.and_eq_true, decide_eq_true_eq]
  refine ⟨h1, ?_⟩
  show PyData.depthAll (rs.map rowD) + 1 ≤ 64
  omega
theorem eqv_self {d : PyData} (h : SeqAt.shaped d = true) : PyData.eqv d d = true := SeqAt.eqv_refl d (SeqAt.canLay_of_shaped h)
theorem rows_dp {K : PySem.W.Frag} {H : Hp} : ∀ {l : List V} {rs : List Row}, All2 (Row3At H) l rs → DpAll K H l (rs.map rowD)
  | _, _, .nil => .nil
  | _, _, .cons ⟨p, e, hp⟩ t => by
    subst e
    exact .cons (.tup (.inl (.inl hp)) (.cons (.str _) (.cons (.str _) (.cons (.int _) .nil)))) (rows_dp t)
theorem paired_str : ∀ (K : PySem.W.Frag) (H : Hp) (xs : List Str), Paired (EqV K H 1) (xs.map V.str) (xs.map V.str)
  | _, _, [] => .nil
  | K, H, x :: xs => .cons (.inl ⟨rfl, rfl⟩) (paired_str K H xs)
end OF

set_option Elab.async false
set_option linter.all false
set_option maxRecDepth 100000
set_option maxHeartbeats 8000000
/-! E5: law. -/
namespace OF
open PySem L2
abbrev lawN : List Str := ["_law_script", "_law_tape_here", "_law_switches_here", "_law_known", "_law_shelf_here", "_law_name", "_law_kept", "_law_rows", "_law_every", "_law_due", "_law_text", "_law_file", "_law_at", "_law_around", "_law_row", "_law_bits", "_law_told", "_law_chosen", "_law_k"]
def spPresentX : Sp := fun vs H Q E => ∃ x : Pm × (Str → Prop), (∀ s, x.2 s → FNm x.1.sw (x.1.kn s) ∧ (x.1.kn s).depth ≤ 60) ∧ spPresent x.1 x.2 vs H Q E
def spReadX : Sp := fun vs H Q E => ∃ x : Pm × (Str → Prop), ((∀ s, x.2 s → s.length ≤ 60) ∧ RdOk x.1) ∧ spReading x.1 x.2 3 vs H Q E
def spFoldX : Sp := fun vs H Q E => ∃ M : Pm, M.Ok ∧ spFold M 3 vs H Q E
def spChooseX : Sp := fun vs H Q E => ∃ M : Pm, M.Ok ∧ spChoose M 3 vs H Q E
def spLaw (K : PySem.W.Frag) : Sp := fun vs H Q _ => ∃ (a : Addr) (ns : List Int), vs = [.ref a] ∧ SqL K H a (ns.map V.int) ∧ ns.length ≤ 1000 ∧ ∀ H', Q (.bl true) H'
theorem ne_of_none' {H : Hp} {a b : Addr} {o : HO} (h : H a = none) (g : H b = some o) : a ≠ b := fun q => by
  rw [q, g] at h
  cases h
section
variable {P : Program} {w : World} {K : PySem.W.Frag} {mg : Str → Option Value} {base : Heap}
theorem scLaw : FnScope lawN ["_law_script"] (defScope sLaw) := ⟨rfl, rfl, rfl, by decide +kernel, rfl, by decide +kernel, by decide +kernel⟩
theorem ok_law (T : LwT K mg) (L : Gb K mg "law" sLaw ["_law_script"]) : FnOk P w K mg base CX0 84 L.f L.fd ["_law_script"] (spLaw K) := by
  have GTp : FnOk P w K mg base CX0 1 T.tape.f T.tape.fd ["_law_script", "_law_budget"] (spTape K) := ok_tape T
  have GSw : FnOk P w K mg base CX0 3 T.sws.f T.sws.fd ["_law_tape_here"] spSws := ok_sws T
  have GSh : FnOk P w K mg base CX0 21 T.shelf.f T.shelf.fd ["_law_tape_here", "_law_switches_here", "_law_known"] spShelf := ok_shelf T
  have GCl : FnOk P w K mg base CX0 1 T.closed.f T.closed.fd ["_law_text"] spClosed := ok_closed T
  have GRd : FnOk P w K mg base CX0 3 T.reading.f T.reading.fd ["_law_shelf_here", "_law_name", "_law_switches_here"] spReadX := ok_any fun x hx => ok_reading T hx.1 hx.2 3
  have GAl : FnOk P w K mg base CX0 1 T.all.f T.all.fd ["_law_count"] spAll := ok_all T
  have GPr : FnOk P w K mg base CX0 62 T.present.f T.present.fd ["_law_switches_here", "_law_around", "_law_configuration", "_law_known"] spPresentX := ok_any fun x hx => ok_present T hx
  have GDg : FnOk P w K mg base CX0 6 T.diagram.f T.diagram.fd ["_law_bits", "_law_i"] (spDgm 6) := ok_dgm T 6
  have GFo : FnOk P w K mg base CX0 82 T.F.fold.f T.F.fold.fd ["shelf", "name", "switches"] spFoldX := ok_any fun M hM => ok_fold T.F hM 3
  have GSa : FnOk P w K mg base CX0 6 T.same.f T.same.fd ["_law_told", "_law_due"] (spLSame 6) := ok_lsame T 6
  have GCh : FnOk P w K mg base CX0 83 T.F.choose.f T.F.choose.fd ["shelf", "name", "switches", "configuration"] spChooseX := ok_any fun M hM => ok_choose T.F hM 3
  have GLn : FnOk P w K mg base CX0 1 T.F.S.lines.f T.F.S.lines.fd ["text"] spLines := ok_lines T.F.S
  refine L.F.ok scLaw (fun vs H Q E h => ?_) (fun cdv A outer s H vs Q E hr h => ?_)
  · obtain ⟨a, ns, rfl, _⟩ := h
    rfl
  obtain ⟨a, ns, rfl, hS, hns, k⟩ := h
  have hr1 : Room 1 _ := hr.mono (by omega)
  have hr3 : Room 3 _ := hr.mono (by omega)
  have hr6 : Room 6 _ := hr.mono (by omega)
  have hr21 : Room 21 _ := hr.mono (by omega)
  have hr62 : Room 62 _ := hr.mono (by omega)
  have hr82 : Room 82 _ := hr.mono (by omega)
  refine ⟨_, (pss_cons (ps_set (i := 1) scLaw.nd rfl (.inl rfl) (pcall T.tape GTp hr1 (pa_cons (pv 0) (pa_cons pe_int pa_nil))))
        (pss_cons (ps_set (i := 2) scLaw.nd rfl (.inr rfl) (pcall T.sws GSw hr3 (pa_cons (pv 1) pa_nil)))
        (pss_cons (ps_set (i := 3) scLaw.nd rfl (.inr rfl) pe_dnewK)
        (pss_cons (ps_set (i := 4) scLaw.nd rfl (.inl rfl) (pcall T.shelf GSh hr21 (pa_cons (pv 1) (pa_cons (pv 2) (pa_cons (pv 3) pa_nil)))))
        (pss_cons (ps_for PassesOwn.never rfl (pi_list (pe_callTy (call_list_dK rfl) (by rfl) T.mlist (by decide +kernel) (pa_cons (pv 4) pa_nil))) (pg_name (i := 5) scLaw.nd rfl (.inl rfl)) (pss_one (ps_dput (hu_of hr) (pv 4) (pv 5) (pcall T.closed GCl hr1 (pa_cons (pe_dget (hu_of hr) (pv 4) (pv 5) (fun _ _ => rfl)) pa_nil)) rfl)))
        (pss_cons (ps_set (i := 6) scLaw.nd rfl (.inl rfl) (pe_callTy call_dictD (by rfl) T.mdict (by decide +kernel) (pa_cons (pv 4) pa_nil)))
        (pss_cons (ps_set (i := 7) scLaw.nd rfl (.inl rfl) (pcall T.reading GRd hr3 (pa_cons (pv 4) (pa_cons pe_str (pa_cons (pv 2) pa_nil)))))
        (pss_cons (ps_if (pt_cmpR op_gt (pe_callB call_len_seq (by rfl) T.F.S.ml PySem.boot_len (pa_cons (pv 7) pa_nil)) pe_int (nomark _)) (pss_one (ps_ret pe_bl)) pss_nil)
        (pss_cons (ps_set (i := 8) scLaw.nd rfl (.inl rfl) (pcall T.all GAl hr1 (pa_cons (pe_callB call_len_seq (by rfl) T.F.S.ml PySem.boot_len (pa_cons (pv 2) pa_nil)) pa_nil)))
        (pss_cons (ps_set (i := 9) scLaw.nd rfl (.inr rfl) (pe_lst pa_nil))
        (pss_cons (ps_for PassesOwn.never rfl (pi_list (pv 7)) (pg_tup rfl (pgs_cons (pg_name (i := 10) scLaw.nd rfl (.inl rfl)) (pgs_cons (pg_name (i := 11) scLaw.nd rfl (.inl rfl)) (pgs_cons (pg_name (i := 12) scLaw.nd rfl (.inl rfl)) (pgs_cons (pg_name (i := 13) scLaw.nd rfl (.inr rfl)) pgs_nil))))) (pss_cons (ps_setLc (i := 15) (own := [("_law_row", 14)]) (g := gName 14) (tt := tYes) (te := (tCall spPresentX [] E0 (tCons (tVar 2) (tCons (tVar 13) (tCons (tVar 14) (tCons (tVar 3) tNil)))))) rfl scLaw.nd rfl rfl (sw_true rfl rfl rfl (by decide +kernel)) (pi_list (pv 8)) (blkOk_by (N := lawN) (sc := defScope sLaw) (by decide +kernel)) (fun _ _ _ _ _ => pg_name (i := 14) scLaw.nd rfl (.inl rfl)) (fun _ _ _ _ _ => pts_nil) (fun _ _ _ _ _ => (pcall T.present GPr hr62 (pa_cons (pv 2) (pa_cons (pv 13) (pa_cons (pv 14) (pa_cons (pv 3) pa_nil)))))))
          (pss_one (ps_if (pt_val (pe_callB (cr_any rfl) (by rfl) T.many (by decide +kernel) (pa_cons (pv 15) pa_nil))) (pss_one (ps_expr (pe_bm PySem.F.plainAttrs_list PySem.F.slot_list_append PySem.F.type_list_append mt_append (pv 9) (pa_cons (pe_tup (pa_cons (pv 10) (pa_cons (pv 11) (pa_cons (pv 12) (pa_cons (pcall T.diagram GDg hr6 (pa_cons (pv 15) (pa_cons pe_int pa_nil))) pa_nil))))) pa_nil)))) pss_nil))))
        (pss_cons (ps_set (i := 16) scLaw.nd rfl (.inr rfl) (pcall T.F.fold GFo hr82 (pa_cons (pv 4) (pa_cons pe_str (pa_cons (pv 2) pa_nil)))))
        (pss_cons (ps_if (PW.pt (pw_or (pt_cmpR op_ne (pe_callB call_len_seq (by rfl) T.F.S.ml PySem.boot_len (pa_cons (pv 16) pa_nil)) (pe_callB call_len_seq (by rfl) T.F.S.ml PySem.boot_len (pa_cons (pv 9) pa_nil)) (nomark _)) (pw_or1 (pt_val (pe_callB (cr_any rfl) (by rfl) T.many (by decide +kernel) (pa_cons (pe_lc (own := [("_law_k", 18)]) (g := gName 18) (tt := tYes) (te := (tOrV (tOp (rNeD K) (tSl (rSlT K) (tOp (rIxL K) (tVar 16) (tVar 18)) tNoPart (tPart (tC (.int 3)))) (tSl (rSlT K) (tOp (rIxL K) (tVar 9) (tVar 18)) tNoPart (tPart (tC (.int 3))))) (tNotV (tCall (spLSame 6) [] E0 (tCons (tOp (rIxT K) (tOp (rIxL K) (tVar 16) (tVar 18)) (tC (.int 3))) (tCons (tOp (rIxT K) (tOp (rIxL K) (tVar 9) (tVar 18)) (tC (.int 3))) tNil)))))) rfl scLaw.nd (pi_range1 rfl T.mrange (pa_cons (pe_callB call_len_seq (by rfl) T.F.S.ml PySem.boot_len (pa_cons (pv 9) pa_nil)) pa_nil)) (blkOk_by (N := lawN) (sc := defScope sLaw) (by decide +kernel)) (fun _ _ _ _ _ => pg_name (i := 18) scLaw.nd rfl (.inl rfl)) (fun _ _ _ _ _ => pts_nil) (fun _ _ _ _ _ => (pe_or (pe_cmpR (op_neD hr.units) (pe_slice sl_tup (pe_ix ix_list (pv 16) (pv 18) (fun _ _ => rfl)) po_none (po_some pe_int)) (pe_slice sl_tup (pe_ix ix_list (pv 9) (pv 18) (fun _ _ => rfl)) po_none (po_some pe_int)) (nomark _)) (pe_one (pe_not (pcall T.same GSa hr6 (pa_cons (pe_ix ix_tup (pe_ix ix_list (pv 16) (pv 18) (fun _ _ => rfl)) pe_int (fun _ _ => rfl)) (pa_cons (pe_ix ix_tup (pe_ix ix_list (pv 9) (pv 18) (fun _ _ => rfl)) pe_int (fun _ _ => rfl)) pa_nil)))))))) pa_nil)))))) (pss_one (ps_ret pe_bl)) pss_nil)
        (pss_cons (ps_for PassesOwn.never rfl (pi_list (pv 8)) (pg_name (i := 14) scLaw.nd rfl (.inr rfl)) (pss_cons (ps_setLc (i := 17) (own := [("_law_text", 10), ("_law_file", 11), ("_law_at", 12), ("_law_around", 13)]) (g := gTup K 4 (gCons (gName 10) (gCons (gName 11) (gCons (gName 12) (gCons (gName 13) gNil))))) (tt := tB (tCall spPresentX [] E0 (tCons (tVar 2) (tCons (tVar 13) (tCons (tVar 14) (tCons (tVar 3) tNil)))))) (te := tTup (tCons (tVar 10) (tCons (tVar 11) (tCons (tVar 12) tNil)))) rfl scLaw.nd rfl rfl (sw_true rfl rfl rfl (by decide +kernel)) (pi_list (pv 7)) (blkOk_by (N := lawN) (sc := defScope sLaw) (by decide +kernel)) (fun _ _ _ _ _ => pg_tup rfl (pgs_cons (pg_name (i := 10) scLaw.nd rfl (.inl rfl)) (pgs_cons (pg_name (i := 11) scLaw.nd rfl (.inl rfl)) (pgs_cons (pg_name (i := 12) scLaw.nd rfl (.inl rfl)) (pgs_cons (pg_name (i := 13) scLaw.nd rfl (.inl rfl)) pgs_nil))))) (fun _ _ _ _ _ => pts_one (pt_val (pcall T.present GPr hr62 (pa_cons (pv 2) (pa_cons (pv 13) (pa_cons (pv 14) (pa_cons (pv 3) pa_nil))))))) (fun _ _ _ _ _ => pe_tup (pa_cons (pv 10) (pa_cons (pv 11) (pa_cons (pv 12) pa_nil)))))
          (pss_one (ps_if (pt_cmpR (op_neD hr.units) (pcall T.F.choose GCh hr (pa_cons (pv 4) (pa_cons pe_str (pa_cons (pv 2) (pa_cons (pv 14) pa_nil))))) (pv 17) (nomark _)) (pss_one (ps_ret pe_bl)) pss_nil))))
        (pss_cons (ps_set (i := 10) scLaw.nd rfl (.inl rfl) (pe_dget (hu_of hr) (pv 4) pe_str (fun _ _ => rfl)))
        (pss_one (ps_ret (pe_and (pe_cmpR (op_eqV hr.units) (pcall T.F.S.lines GLn hr1 (pa_cons (pv 10) pa_nil)) (pe_ifExp (pt_cmpR op_eq (pv 10) pe_str (nomark _)) (pe_lst pa_nil) (pe_split (pv 10) pe_str)) (nomark _)) (pe_one (pe_cmpR (op_eq_dict hr.units0) (pv 4) (pv 6) (nomark _))))))))))))))))))))), ?_⟩
  refine ⟨_, rfl, a, ns, 0, rfl, hS, hns, fun t l H1 s1 ht0 hl0 tp1 => ?_⟩
  refine ⟨_, rfl, t, l, rfl, tp1, fun v sw H2 hsw2 swok tp2 b2 => ?_⟩
  refine fun kd hkd => ?_
  have s3 := same_new (o := .dK []) hkd
  refine ⟨_, rfl, _, rfl, _, rfl, t, l, kd, v, sw, rfl, tp2.same s3, hsw2.same s3, swok, upd_same, fun p n FL kvs H4 n1 n4 nm bal hp0 hp4 tp4 hkd4 hkv4 b4 => ?_⟩
  have D : Drawn H4 sw kvs n FL := ⟨swok, n1, n4, nm, bal, hkv4⟩
  have wr4 : ∀ b ∈ [t, kd], ∃ o, (upd H2 kd (.dK [])) b = some o ∧ Wr o := fun b hb => by
    rcases List.mem_cons.mp hb with q | q
    · rw [q]
      exact (tp2.same s3).wr
    · rw [List.mem_singleton.mp q]
      exact ⟨_, upd_same, trivial⟩
  have hsw4 : SwAt H4 v sw := (hsw2.same s3).imm (b4.imm wr4)
  have pkd : p ≠ kd := ne_of_none' hp0 upd_same
  -- for name in list(shelf)
  refine ⟨_, rfl, p, _, rfl, hp4, fun q hq => ?_⟩
  have hqv : (shKv FL).map (fun kv => kV kv.1) = FL.map (fun e => V.str e.1) := by
    unfold shKv
    rw [List.map_map]
    rfl
  rw [hqv]
  have s5 := same_new (o := .lst (FL.map fun e => V.str e.1)) hq
  have qp : q ≠ p := (ne_of_none hp4 hq).symm
  generalize hH5 : upd H4 q (.lst (FL.map fun e => V.str e.1)) = H5 at s5 ⊢
  have hq5 : H5 q = some (.lst (FL.map fun e => V.str e.1)) := by
    rw [← hH5]
    exact upd_same
  refine ⟨q, rfl, ⟨_, SqL.of hq5⟩, for_list (K := K) (a := q) (xs := FL.map fun e => V.str e.1) (fun i σ H' => ∃ (kv : List (Key × V)) (v5 : Option V), σ = [some (.ref a), some (.ref t), some v, some (.ref kd), some (.ref p), v5, none, none, none, none, none, none, none, none, none, none, none, none, none] ∧
      H' p = some (.dK kv) ∧ kv.map (·.1) = (shKv FL).map (·.1) ∧ (∀ (j : Nat) (e : Str × List Ln), FL[j]? = some e → valV kv (Sum.inr e.1) = some (.str (if j < i then zT e.2 else textOf (e.2.take 12)))) ∧ (∀ x ∈ kv, flatB x.2 = true) ∧ But p H5 H')
    ⟨shKv FL, none, rfl, s5 _ _ hp4, rfl, fun j e h => by rw [shKv_get D.nd h, if_neg (Nat.not_lt_zero j)], fun x hx => by
      obtain ⟨e, _, rfl⟩ := List.mem_map.mp hx
      rfl, fun b o e _ => e⟩ (fun i σ H' _ ⟨_, _, _, _, _, _, _, b⟩ => SqL.of (b _ _ hq5 qp)) ?_ ?_⟩
  · rintro i x σ H6 hi ⟨kv, v5, rfl, h1, h2, h3, h4, h5⟩
    rw [List.getElem?_map] at hi
    obtain ⟨e, he, rfl⟩ := Option.map_eq_some_iff.mp hi
    have fine := D.fine he
    have hv := h3 i e he
    rw [if_neg (Nat.lt_irrefl i), lns_text] at hv
    have dg : DGet H6 p (.str e.1) (some (.str (textOf (lns e.2)))) := by
      have z := DGet.k (k := Sum.inr e.1) h1
      rw [hv] at z
      exact z
    refine ⟨_, rfl, _, rfl, p, _, rfl, dg, lns e.2, (· ∈ usn n i), isKey kvs, rfl, lns_ne _, lns_fine fine, linesOk (fun f hf => names4_ok f (usn_sub hf)) D.keys (lns_fine fine), lns_len _, fun H7 s7 => ?_⟩
    have hs : (valV kv (Sum.inr e.1)).isSome = true := by rw [hv]; rfl
    have kl : kv.length ≤ 1000 := by
      have z := congrArg List.length h2
      have z2 := congrArg List.length D.nm
      rw [List.length_map, List.length_map] at z
      rw [List.length_map, List.length_take] at z2
      unfold shKv at z
      rw [List.length_map] at z
      omega
    refine ⟨_, rfl, _, rfl, p, _, rfl, DPut.k (k := Sum.inr e.1) (s7 _ _ h1) (Nat.lt_of_le_of_lt kl (by decide)), ?_⟩
    refine ⟨putK kv (Sum.inr e.1) (.str (zT e.2)), some (.str e.1), rfl, upd_same, (putK_keys hs).trans h2, fun j e' h => ?_, putK_flat h4 rfl, fun b o eb n => ?_⟩
    · rw [valV_put]
      by_cases c : e'.1 = e.1
      · have ij := FL_inj D.nd h he c
        subst ij
        rw [he] at h
        cases h
        rw [if_pos rfl, if_pos (Nat.lt_succ_self j)]
      · rw [if_neg (fun z => c (Sum.inr.inj z)), h3 j e' h]
        have ji : j ≠ i := fun z => by
          subst z
          rw [he] at h
          cases h
          exact c rfl
        by_cases c2 : j < i
        · rw [if_pos c2, if_pos (by omega)]
        · rw [if_neg c2, if_neg (by omega)]
    · rw [upd_ne n]
      exact s7 _ _ (h5 b o eb n)
  rintro σ H6 ⟨kv, v5, rfl, hp6, hkeys, hval, hflat, b6⟩
  rw [List.length_map] at hval
  have hval : ∀ (j : Nat) (e : Str × List Ln), FL[j]? = some e → valV kv (Sum.inr e.1) = some (.str (zT e.2)) := fun j e h => by
    rw [hval j e h, if_pos (List.getElem?_eq_some_iff.mp h).1]
  have i56 : Imm H5 H6 := But.imm b6 (s5 _ _ hp4) trivial
  have hsw6 : SwAt H6 v sw := (hsw4.same s5).imm i56
  have hkd6 : H6 kd = some (.dK kvs) := b6 _ _ (s5 _ _ hkd4) pkd.symm
  have D6 : Drawn H6 sw kvs n FL := ⟨swok, n1, n4, nm, bal, (hkv4.imm (imm_same s5)).imm i56⟩
  obtain ⟨M, hM⟩ : ∃ M, M = pmOf H6 sw kvs FL := ⟨_, rfl⟩
  have MO : M.Ok := by rw [hM]; exact D6.ok
  have RO : RdOk M := by rw [hM]; exact D6.rd
  have fsM : FsOk M.fs M.dom (isKey kvs) 3 [] "main" := by rw [hM]; exact D6.main
  have fineM : M.fine 3 [] "main" := by rw [hM]; exact D6.fineM
  have hnms : ∀ s, isKey kvs s → FNm M.sw (M.kn s) ∧ (M.kn s).depth ≤ 60 := by rw [hM]; exact D6.nms
  have kn6 : KnAt M (isKey kvs) H6 kd := by rw [hM]; exact D6.knAt hkd6
  have esw : M.sw = sw := by rw [hM]; rfl
  have hsw6 : SwAt H6 v M.sw := by rw [esw]; exact hsw6
  have n5 : M.sw.length ≤ 5 := by rw [esw]; exact swok.len.2
  have hsh6 : ∀ f, M.dom f → valV kv (Sum.inr f) = some (.str (M.tx f)) := fun f hf => by
    rw [hM] at hf ⊢
    obtain ⟨j, e, h1, h2, h3⟩ := D6.get hf
    rw [← h2, hval j e h1]
    show _ = some (V.str (zT (flk FL e.1)))
    rw [h2, h3]
  have hdn : ∀ f, M.dom f → f ∈ names4 := fun f hf => by
    rw [hM] at hf
    exact D6.sub hf
  have htxt : ∀ r ∈ rows M.fs 3 "main", RowS r := fun r hr => by
    obtain ⟨z1, z2⟩ := rows_txt fsM r hr
    exact rowS_of z1 (hdn _ z2)
  have harK : RwI (isKey kvs) (6 * 3) (rows M.fs 3 "main") := rows_in fsM
  have hArOk : ∀ r ∈ rows M.fs 3 "main", ArOk M.sw M.kn r.ar := fun r hr x hx => (hnms _ ((harK r hr).2 x hx)).1
  have kv60 : ∀ s, isKey kvs s → s.length ≤ 60 := fun s hs => (D6.keys s hs).1
  have ndk : (kv.map (·.1)).Nodup := by
    rw [hkeys]
    have e : (shKv FL).map (·.1) = (FL.map Prod.fst).map (fun s => (Sum.inr s : Key)) := by
      unfold shKv
      rw [List.map_map, List.map_map]
      rfl
    rw [e]
    exact List.Pairwise.map _ (fun x y z q => z (Sum.inr.inj q)) D6.nd
  clear hM D6 D
  -- kept = dict(shelf)
  refine ⟨_, rfl, p, kv, rfl, .inl hp6, fun kp hkp => ?_⟩
  have s7 := same_new (o := .dK kv) hkp
  generalize hH7 : upd H6 kp (.dK kv) = H7 at s7 ⊢
  have hkp7 : H7 kp = some (.dK kv) := by
    rw [← hH7]
    exact upd_same
  have hp7 := s7 _ _ hp6
  -- rows
  refine ⟨_, rfl, _, rfl, (M, isKey kvs), ⟨kv60, RO⟩, p, "main", v, [], rfl, ⟨kv, hp7, hsh6⟩, fsM, by omega, fun rl H8 ritems s8 hrl0 hrl hrows => ?_⟩
  have hrows : All2 (RowAt (fun a => H7 a = none) H8) ritems (rows M.fs 3 "main") := hrows
  have hlenR := hrows.length
  refine ⟨_, rfl, rl, _, rfl, .inl (SqL.of hrl), _, _, rfl, rfl, _, rfl, ?_⟩
  refine ite2 (fun c => ?_) (fun c => ?_)
  · exact k _
  have le40 : (rows M.fs 3 "main").length ≤ 40 := by
    have c := mt decide_eq_true c
    omega
  have hsw8 : SwAt H8 v M.sw := (hsw6.same s7).same s8
  -- every configuration
  have hsw8' := hsw8
  obtain ⟨ps, eps, hps⟩ := hsw8'
  subst eps
  refine ⟨_, rfl, ps, _, rfl, .inr hps.seq, M.sw.length, (by rw [List.length_map]; rfl), n5, fun ev H9 evs s9 hev0 hev hall => ?_⟩
  -- due
  refine ⟨(by show 0 ≤ sizeLine; decide), fun du hdu => ?_⟩
  have s10 := same_new (o := .lst []) hdu
  have hrows9 : All2 (RowAt (fun a => H7 a = none) H9) ritems (rows M.fs 3 "main") := hrows.mono fun _ _ y => y.same s9
  have hrl9 := s9 _ _ hrl
  have hsw9 : SwAt H9 (.ref ps) M.sw := hsw8.same s9
  have kn9 : KnAt M (isKey kvs) H9 kd := ((kn6.same s7).same s8).same s9
  have aC : (allC M.sw.length).length ≤ 32 := by
    rw [allC_len]
    exact Nat.le_trans (Nat.pow_le_pow_right (by decide) n5) (by decide)
  have hevl := hall.length
  -- the rows that some configuration has
  refine ⟨_, rfl, rl, rfl, ⟨_, SqL.of (s10 _ _ hrl9)⟩, for_list (K := K) (a := rl) (xs := ritems) (fun i σ H' => ∃ (v10 v11 v12 v13 v15 : Option V) (items : List V), σ = [some (.ref a), some (.ref t), some (.ref ps), some (.ref kd), some (.ref p), v5, some (.ref kp), some (.ref rl), some (.ref ev), some (.ref du), v10, v11, v12, v13, none, v15, none, none, none] ∧
      Same H9 H' ∧ H' du = some (.lst items) ∧ items.length ≤ i ∧ All2 (ItemAt M H') items (folded M.sw M.kn ((rows M.fs 3 "main").take i)))
    ⟨none, none, none, none, none, [], rfl, s10, upd_same, Nat.le_refl _, by rw [List.take_zero]; exact .nil⟩ (fun i σ H' _ ⟨_, _, _, _, _, _, _, q, _⟩ => SqL.of (q _ _ hrl9)) ?_ ?_⟩
  · rintro i x σ H11 hi ⟨v10, v11, v12, v13, v15, items, rfl, s11, hdu11, hil, hit⟩
    obtain ⟨r, hri, ⟨rq, ra, rfl, hrq, har, hra7⟩⟩ := hrows9.get hi
    have hi40 : i < 40 := by
      have := (List.getElem?_eq_some_iff.mp hi).1
      omega
    have hrm := List.mem_of_getElem? hri
    have hAr := hArOk r hrm
    have et : (rows M.fs 3 "main").take (i + 1) = (rows M.fs 3 "main").take i ++ [r] := by
      rw [List.take_add_one, hri]
      rfl
    refine ⟨rq, _, rfl, .inl (.inl (s11 _ _ hrq)), rfl, _, [_, _, _], rfl, _, [_, _], rfl, _, [_], rfl, _, [], rfl, rfl, ?_⟩
    refine ⟨_, rfl, ev, rfl, ⟨_, SqL.of (s11 _ _ hev)⟩, fun B hB => ?_⟩
    refine lc_list (K := K) (a := ev) (xs := evs) (fun j H' => Same H11 H' ∧ H' B = some (.lst ((((allC M.sw.length).take j).map fun c => pres M.sw M.kn r.ar (cfR c)).map V.bl)))
      ⟨same_new hB, by rw [List.take_zero]; exact upd_same⟩ (fun j H' _ ⟨q, _⟩ => SqL.of (q _ _ (s11 _ _ hev))) ?_ ?_
    · rintro j y H12 hj ⟨s12, hB12⟩
      obtain ⟨c, hcj, hcf⟩ := hall.get hj
      have hj32 : j < 32 := by
        have := (List.getElem?_eq_some_iff.mp hj).1
        omega
      have hcm : c ∈ allC M.sw.length := List.mem_of_getElem? hcj
      have s9' := s11.trans s12
      refine ⟨rfl, _, rfl, _, rfl, _, rfl, _, rfl, (M, isKey kvs), hnms, .ref ps, y, ra, kd, r.ar, c, rfl, hsw9.same s9', har.same s9', hcf.same s9', allC_length hcm, kn9.same s9', (fun x hx => (harK r hrm).2 x hx), _, hB12, ?_, fun b o e => ?_, ?_⟩
      · rw [List.length_map, List.length_map, List.length_take]
        exact Nat.lt_of_le_of_lt (m := 32) (by omega) (by decide)
      · have bB : b ≠ B := ne_of_none e hB
        rw [upd_ne bB]
        exact s12 b o e
      · rw [upd_same, List.take_add_one, hcj, List.map_append, List.map_append]
        rfl
    rintro H12 ⟨s12, hB12⟩
    rw [hevl, List.take_length] at hB12
    have s9' := s11.trans s12
    refine ⟨_, rfl, B, _, rfl, SqL.of hB12, _, rfl, ?_⟩
    have hdu12 := s12 _ _ hdu11
    refine ite2 (fun c => ?_) (fun c => ?_)
    · have ne := (folded_any hAr).mpr c
      refine ⟨_, rfl, .inl ⟨rfl, _, SqL.of hdu12⟩, _, rfl, _, rfl, _, rfl, _, rfl, B, 0, M.sw.length, (allC M.sw.length).map (fun c => pres M.sw M.kn r.ar (cfR c)), rfl, hB12, (by rw [List.length_map, allC_len]), by omega, by omega, fun vd H13 s13 hvd => ?_⟩
      refine ⟨(by show 4 ≤ sizeLine; decide), fun q1 hq1 => ?_⟩
      have s14 := same_new (o := .tup [.str r.text, .str r.file, .int (r.at' : Int), vd]) hq1
      have hdu14 := s14 _ _ (s13 _ _ hdu12)
      refine ⟨du, _, _, rfl, rfl, hdu14, Nat.lt_of_le_of_lt (m := 40) (by omega) (by decide), ?_⟩
      have i14 : Imm (upd H13 q1 (.tup [.str r.text, .str r.file, .int (r.at' : Int), vd])) (upd (upd H13 q1 (.tup [.str r.text, .str r.file, .int (r.at' : Int), vd])) du (.lst (items ++ [.ref q1]))) := But.imm (But.upd (a := du)) hdu14 trivial
      have duq : du ≠ q1 := ne_of_none (s13 _ _ hdu12) hq1
      refine ⟨_, _, _, _, _, items ++ [.ref q1], rfl, But.new hdu ((s9'.trans s13).trans s14) But.upd, upd_same, by rw [List.length_append]; show items.length + 1 ≤ i + 1; omega, ?_⟩
      rw [et, folded_append, show folded M.sw M.kn [r] = [r] from List.filter_cons_of_pos (by simpa using ne)]
      refine ((items_imm (imm_same ((s12.trans s13).trans s14)) hit).append (.cons ⟨q1, vd, rfl, upd_same, hvd.same s14⟩ .nil)).mono fun _ _ y => y.imm i14
    · have e : folded M.sw M.kn [r] = [] := List.filter_cons_of_neg (by
        have z := mt (folded_any hAr).mp c
        simpa using z)
      refine ⟨_, _, _, _, _, items, rfl, s9', hdu12, by omega, ?_⟩
      rw [et, folded_append, e, List.append_nil]
      exact items_imm (imm_same s12) hit
  rintro σ H11 ⟨v10, v11, v12, v13, v15, items, rfl, s11, hdu11, hil, hit⟩
  rw [hlenR, List.take_length] at hit
  have hp11 : H11 p = some (.dK kv) := s11 _ _ (s9 _ _ (s8 _ _ hp7))
  -- told = fold(shelf, "main", switches)
  refine ⟨_, rfl, _, rfl, M, MO, p, "main", .ref ps, rfl, ⟨kv, hp11, hsh6⟩, hsw9.same s11, fineM, le40, fun tl H12 titems s12 htl0 htl htit => ?_⟩
  have hit12 := items_imm (imm_same s12) hit
  have hdu12 := s12 _ _ hdu11
  have hti := htit.length
  have hdi := hit12.length
  have fl40 : (folded M.sw M.kn (rows M.fs 3 "main")).length ≤ 40 := Nat.le_trans (List.length_filter_le _ _) le40
  have hArF : ∀ r ∈ folded M.sw M.kn (rows M.fs 3 "main"), RowS r := fun r hr => htxt r (List.mem_filter.mp hr).1
  -- the two agree
  refine ⟨_, rfl, tl, _, rfl, .inl (SqL.of htl), _, rfl, du, _, rfl, .inl (SqL.of hdu12), rfl, _, rfl, ?_⟩
  rw [decide_eq_true (show V.int (titems.length : Int) = V.int (items.length : Int) by rw [hti, hdi])]
  refine iteF ?_
  refine ⟨_, rfl, du, _, rfl, .inl (SqL.of hdu12), _, rfl, by omega, by omega, fun B hB => ?_⟩
  refine lc_it (walk_range (lo := 0) (n := items.length)) (fun i H' => Same H12 H' ∧ H' B = some (.lst (List.replicate i (V.bl false)))) ⟨same_new hB, upd_same⟩ (fun _ _ _ _ => trivial) ?_ ?_
  · rintro i x H13 H14 hi ⟨s13, hB13⟩ ⟨rfl, rfl⟩
    obtain ⟨vi, hvi⟩ : ∃ vi, items[i]? = some vi := ⟨items[i]'hi, List.getElem?_eq_getElem hi⟩
    obtain ⟨r, hri, ⟨dp, vd, rfl, hdp, hvd⟩⟩ := hit12.get hvi
    obtain ⟨ti, hti', htr⟩ := htit.get' hri
    obtain ⟨tp, td, rfl, htp, htd⟩ := htr
    have hrS := hArF r (List.mem_of_getElem? hri)
    have tl13 := s13 _ _ htl
    have du13 := s13 _ _ hdu12
    have ec : ∀ vx : V, cutV [.str r.text, .str r.file, .int (r.at' : Int), vx] none (some 3) = [.str r.text, .str r.file, .int (r.at' : Int)] := fun vx => by
      unfold cutV
      rw [show (some (3 : Int)) = some ((3 : Nat) : Int) from rfl, HT.sIx_nat, HT.sIx_none]
      rfl
    have nw : ∀ vx : V, ¬ (HT.sIx [V.str r.text, .str r.file, .int (r.at' : Int), vx].length 0 none = 0 ∧ HT.sIx [V.str r.text, .str r.file, .int (r.at' : Int), vx].length [V.str r.text, .str r.file, .int (r.at' : Int), vx].length (some 3) = [V.str r.text, .str r.file, .int (r.at' : Int), vx].length) := fun vx z => by
      have z2 := z.2
      rw [show (some (3 : Int)) = some ((3 : Nat) : Int) from rfl, HT.sIx_nat] at z2
      simp at z2
    have e0i : (0 : Int) + (i : Nat) = ((i : Nat) : Int) := by omega
    refine ⟨rfl, _, rfl, _, rfl, tl, _, _, _, rfl, rfl, SqL.of tl13, at_of (j := i) e0i hti', _, rfl, tp, _, rfl, .inl (.inl (s13 _ _ htp)), nw td, fun r1 hr1 => ?_⟩
    rw [ec td]
    have t1 := same_new (o := .tup [.str r.text, .str r.file, .int (r.at' : Int)]) hr1
    have s14 := s13.trans t1
    refine ⟨_, rfl, _, rfl, du, _, _, _, rfl, rfl, SqL.of (s14 _ _ hdu12), at_of (j := i) e0i hvi, _, rfl, dp, _, rfl, .inl (.inl (s14 _ _ hdp)), nw vd, fun r2 hr2 => ?_⟩
    rw [ec vd]
    have t2 := same_new (o := .tup [.str r.text, .str r.file, .int (r.at' : Int)]) hr2
    have s15 := s14.trans t2
    have hsh := rowD_shaped hrS
    refine ⟨rowD r, rowD r, .tup (.inl (.inl (t2 _ _ upd_same))) (.cons (.str _) (.cons (.str _) (.cons (.int _) .nil))), .tup (.inl (.inl upd_same)) (.cons (.str _) (.cons (.str _) (.cons (.int _) .nil))), hsh, hsh, _, rfl, ?_⟩
    rw [eqv_self hsh]
    refine iteF ?_
    have dd := ofBits_depth M.sw.length 0 ((allC M.sw.length).map fun c => pres M.sw M.kn r.ar (cfR c))
    refine ⟨_, rfl, _, rfl, tl, _, _, _, rfl, rfl, SqL.of (s15 _ _ htl), at_of (j := i) e0i hti', tp, _, _, td, rfl, rfl, .inl (.inl (s15 _ _ htp)), at_of (j := 3) rfl rfl,
      _, rfl, _, rfl, du, _, _, _, rfl, rfl, SqL.of (s15 _ _ hdu12), at_of (j := i) e0i hvi, dp, _, _, vd, rfl, rfl, .inl (.inl (s15 _ _ hdp)), at_of (j := 3) rfl rfl,
      td, vd, M.dg r.ar, rfl, htd.same s15, hvd.same s15, Nat.lt_of_le_of_lt dd (by omega), _, rfl, _, (t1.trans t2) _ _ hB13, ?_, fun b o e => ?_, ?_⟩
    · rw [List.length_replicate]
      exact Nat.lt_of_le_of_lt (m := 40) (by omega) (by decide)
    · rw [upd_ne (ne_of_none e hB)]
      exact s15 _ _ e
    · rw [upd_same, List.replicate_succ']
      rfl
  rintro H13 ⟨s13, hB13⟩
  refine ⟨B, List.replicate items.length false, rfl, SqL.of (by rw [hB13, List.map_replicate]), _, rfl, ?_⟩
  rw [show (List.replicate items.length false).any id = false by
    rw [List.any_eq_false]
    intro x hx
    rw [List.eq_of_mem_replicate hx]
    decide]
  -- every configuration
  have s9' : Same H9 H13 := (s11.trans s12).trans s13
  refine iteF ⟨_, rfl, ev, rfl, ⟨_, SqL.of (s9' _ _ hev)⟩, for_list (K := K) (a := ev) (xs := evs) (fun i σ H' => ∃ (v10 v11 v12 v13 v14 v15 v17 : Option V), σ = [some (.ref a), some (.ref t), some (.ref ps), some (.ref kd), some (.ref p), v5, some (.ref kp), some (.ref rl), some (.ref ev), some (.ref du), v10, v11, v12, v13, v14, v15, some (.ref tl), v17, none] ∧ Same H9 H')
    ⟨_, _, _, _, _, _, _, rfl, s9'⟩ (fun i σ H' _ ⟨_, _, _, _, _, _, _, _, q⟩ => SqL.of (q _ _ hev)) ?_ ?_⟩
  · rintro i x σ H14 hi ⟨v10, v11, v12, v13, v14, v15, v17, rfl, s14⟩
    obtain ⟨c, hcj, hcf⟩ := hall.get hi
    have hcl := allC_length (List.mem_of_getElem? hcj)
    refine ⟨_, rfl, rl, rfl, ⟨_, SqL.of (s14 _ _ hrl9)⟩, fun C hC => ?_⟩
    refine lc_list (K := K) (a := rl) (xs := ritems) (fun j H' => Same H14 H' ∧ ∃ out, H' C = some (.lst out) ∧ out.length ≤ j ∧ All2 (Row3At H') out (chosenR M.sw M.kn c ((rows M.fs 3 "main").take j)))
      ⟨same_new hC, [], upd_same, Nat.le_refl _, by rw [List.take_zero]; exact .nil⟩ (fun j H' _ ⟨q, _⟩ => SqL.of (q _ _ (s14 _ _ hrl9))) ?_ ?_
    · rintro j y H15 hj ⟨s15, out, hout, hlen, hal⟩
      obtain ⟨r, hrj, ⟨rq, ra, rfl, hrq, har, hra7⟩⟩ := hrows9.get hj
      have hj40 : j < 40 := by
        have := (List.getElem?_eq_some_iff.mp hj).1
        omega
      have hrm := List.mem_of_getElem? hrj
      have et : (rows M.fs 3 "main").take (j + 1) = (rows M.fs 3 "main").take j ++ [r] := by
        rw [List.take_add_one, hrj]
        rfl
      have s16 := s14.trans s15
      refine ⟨rq, _, rfl, .inl (.inl (s16 _ _ hrq)), rfl, _, [_, _, _], rfl, _, [_, _], rfl, _, [_], rfl, _, [], rfl, rfl, rfl, ?_⟩
      refine ⟨_, rfl, _, rfl, _, rfl, _, rfl, (M, isKey kvs), hnms, .ref ps, x, ra, kd, r.ar, c, rfl, hsw9.same s16, har.same s16, hcf.same s16, hcl, kn9.same s16, (fun x hx => (harK r hrm).2 x hx), _, rfl, ?_⟩
      show if pres M.sw M.kn r.ar (cfR c) = true then _ else _
      by_cases hb : pres M.sw M.kn r.ar (cfR c) = true
      · rw [hb]
        refine iteT ⟨_, rfl, _, rfl, _, rfl, (by show 3 ≤ sizeLine; decide), fun q1 hq1 => ?_⟩
        have sq := same_new (o := .tup [.str r.text, .str r.file, .int (r.at' : Int)]) hq1
        have hCq : C ≠ q1 := ne_of_none hout hq1
        have iC : Imm (upd H15 q1 (.tup [.str r.text, .str r.file, .int (r.at' : Int)])) (upd (upd H15 q1 (.tup [.str r.text, .str r.file, .int (r.at' : Int)])) C (.lst (out ++ [.ref q1]))) := But.imm (But.upd (a := C)) (sq _ _ hout) trivial
        refine ⟨out, sq _ _ hout, Nat.lt_of_le_of_lt (m := 40) (by omega) (by decide), fun b o e => ?_, out ++ [.ref q1], upd_same, by rw [List.length_append]; show out.length + 1 ≤ j + 1; omega, ?_⟩
        · have bC : b ≠ C := ne_of_none e hC
          rw [upd_ne bC]
          exact sq _ _ (s15 _ _ e)
        · rw [et]
          unfold chosenR
          rw [List.filter_append, List.filter_cons_of_pos (by exact hb)]
          refine All2.append (hal.mono fun a b h => (h.imm (imm_same sq)).imm iC) (.cons ⟨q1, rfl, ?_⟩ .nil)
          rw [upd_ne hCq.symm, upd_same]
      · rw [show pres M.sw M.kn r.ar (cfR c) = false by simpa using hb]
        refine iteF ⟨s15, out, hout, by omega, ?_⟩
        rw [et]
        unfold chosenR
        rw [List.filter_append, List.filter_cons_of_neg (by exact hb)]
        simp only [List.filter_nil, List.append_nil]
        exact hal
    rintro H15 ⟨s15, out, hout, hlen, hal⟩
    rw [hlenR, List.take_length] at hal
    have s16 := s14.trans s15
    have hp16 : H15 p = some (.dK kv) := s16 _ _ (s9 _ _ (s8 _ _ hp7))
    refine ⟨_, rfl, _, rfl, _, rfl, M, MO, p, "main", .ref ps, x, c, rfl, ⟨kv, hp16, hsh6⟩, hsw9.same s16, fineM, le40, hcf.same s16, hcl, fun cl H16 citems s17 hcl0 hcl' hcit => ?_⟩
    have hcS : ∀ r ∈ chosenR M.sw M.kn c (rows M.fs 3 "main"), RowS r := fun r hr => htxt r (List.mem_filter.mp hr).1
    have hsh := rowsD_shaped hcS
    refine ⟨_, rfl, .list ((chosenR M.sw M.kn c (rows M.fs 3 "main")).map rowD), .list ((chosenR M.sw M.kn c (rows M.fs 3 "main")).map rowD), .lst (SqL.of hcl') (rows_dp hcit), .lst (SqL.of (s17 _ _ hout)) (rows_dp (hal.mono fun _ _ h => h.imm (imm_same s17))), hsh, hsh, _, rfl, ?_⟩
    rw [eqv_self hsh]
    exact iteF ⟨_, _, _, _, _, _, _, rfl, s16.trans s17⟩
  rintro σ H14 ⟨v10, v11, v12, v13, v14, v15, v17, rfl, s14⟩
  have hp14 : H14 p = some (.dK kv) := s14 _ _ (s9 _ _ (s8 _ _ hp7))
  have hkp14 : H14 kp = some (.dK kv) := s14 _ _ (s9 _ _ (s8 _ _ hkp7))
  -- the text of the first file
  have hdm : M.dom "main" := fsM.dom
  have dg : DGet H14 p (.str "main") (some (.str (M.tx "main"))) := by
    have z := DGet.k (k := Sum.inr "main") hp14
    rw [hsh6 "main" hdm] at z
    exact z
  refine ⟨_, rfl, p, _, rfl, dg, ?_⟩
  refine ⟨_, rfl, M.tx "main", rfl, MO.ln _ hdm, fun ll H15 s15 hll hll0 => ?_⟩
  refine ⟨_, rfl, rfl, _, rfl, ?_⟩
  have fin : ∀ H', Same H15 H' → tOp (fun x y H Q => ∃ (a b : Addr) (kvs : List (Key × V)), x = V.ref a ∧ y = V.ref b ∧ H a = some (.dK kvs) ∧ H b = some (.dK kvs) ∧ (kvs.map (·.1)).Nodup ∧ (∀ p ∈ kvs, flatB p.2 = true) ∧ Q (V.bl true) H) (tVar 4) (tVar 6)
      [some (.ref a), some (.ref t), some (.ref ps), some (.ref kd), some (.ref p), v5, some (.ref kp), some (.ref rl), some (.ref ev), some (.ref du), some (.str (M.tx "main")), v11, v12, v13, v14, v15, some (.ref tl), v17, none] H' Q := fun H' s =>
    ⟨_, rfl, _, rfl, p, kp, kv, rfl, rfl, s _ _ (s15 _ _ hp14), s _ _ (s15 _ _ hkp14), ndk, hflat, k _⟩
  refine ite2 (fun c => ?_) (fun c => ?_)
  · have c := V.str.inj (of_decide_eq_true c)
    rw [c, show linesT "" = [] from rfl] at hll
    refine ⟨(by show 0 ≤ sizeLine; decide), fun r hr' => ?_⟩
    have s16 := same_new (o := .lst []) hr'
    exact ⟨1, by decide, .inl ⟨ll, r, [], [], rfl, rfl, SqL.of (s16 _ _ hll), SqL.of upd_same, .nil⟩, true, rfl, iteT (fin _ s16)⟩
  · have c : M.tx "main" ≠ "" := fun e => c (decide_eq_true (by rw [e]))
    have el : linesT (M.tx "main") = Txt.split (M.tx "main") "\n" := if_neg c
    rw [el] at hll
    have ln := MO.ln _ hdm
    refine ⟨_, rfl, ⟨_, rfl⟩, _, _, rfl, rfl, (by decide +kernel), Nat.le_trans (m := 100002) (by omega) (by decide), fun r hr' => ?_⟩
    have s16 := same_new (o := .lst ((Txt.split (M.tx "main") "\n").map V.str)) hr'
    exact ⟨1, by decide, .inl ⟨ll, r, _, _, rfl, rfl, SqL.of (s16 _ _ hll), SqL.of upd_same, paired_str K _ _⟩, true, rfl, iteT (fin _ s16)⟩
end
end OF

set_option Elab.async false
set_option linter.all false
set_option maxRecDepth 100000
set_option maxHeartbeats 4000000
/-! E6: what the top has written; the last theorem. -/
namespace OF
open PySem L2
section
variable {K : PySem.W.Frag} {h : Heap} {mg : Str → Option Value}
/-- a def of the top -/
def gb {x : Str} {st : Stmt} {ps : List Str} {f : Addr} {oc : Value} {od an : Option Addr} {sl : Array (Option Value)} {kV dc pm cd ct : Value} (X : K.In h) (G : h.Ns mainGlobals mg)
    (a : PySem.W.nsIn K mainGlobals x = some (some (.ref f))) (l : K.lookup f = some ⟨oc, od, .func (PySem.W.fnOf x x (defArgs st) (defBody st) (defScope st) .none kV dc pm an cd ct), sl⟩) (c : PySem.W.codeIn K cd x = true) (k : PySem.W.keepIn K (.ref f) = true)
    (b : ∀ (kV doc pm : Value) (an : Option Addr) (cdv ct : Value) (us : List Value), us.length = ps.length → bindArgs (PySem.W.fnOf x x (defArgs st) (defBody st) (defScope st) .none kV doc pm an cdv ct) ⟨us, []⟩ = pure (ps.zip us)) : Gb K mg x st ps :=
  ⟨f, _, fun_mk (st := st) l c k, PySem.W.mg_of X G a, (fun_mk (st := st) l c k).binds b⟩
/-- a method -/
def mb {C : Addr} {m qual : Str} {st : Stmt} {ps : List Str} {f : Addr} {oc : Value} {od an : Option Addr} {sl : Array (Option Value)} {kV dc pm cd ct : Value}
    (a : PySem.W.findIn K (.ref C) m = some (some (.ref f))) (i : PySem.W.isFn K (.ref f) = true) (l : K.lookup f = some ⟨oc, od, .func (PySem.W.fnOf m qual (defArgs st) (defBody st) (defScope st) .none kV dc pm an cd ct), sl⟩) (c : PySem.W.codeIn K cd qual = true) (k : PySem.W.keepIn K (.ref f) = true)
    (b : ∀ (kV doc pm : Value) (an : Option Addr) (cdv ct : Value) (us : List Value), us.length = ps.length → bindArgs (PySem.W.fnOf m qual (defArgs st) (defBody st) (defScope st) .none kV doc pm an cdv ct) ⟨us, []⟩ = pure (ps.zip us)) : Mb K C m qual st ps :=
  ⟨f, _, fun_mk (st := st) l c k, ⟨a, i, k⟩, (fun_mk (st := st) l c k).binds b⟩
/-- the __init__ -/
def ib {C : Addr} {qual : Str} {st : Stmt} {ps : List Str} {f : Addr} {oc : Value} {od an : Option Addr} {sl : Array (Option Value)} {kV dc pm cd ct : Value}
    (a : PySem.W.findIn K (.ref C) "__init__" = some (some (.ref f))) (i : PySem.W.isFn K (.ref f) = true) (l : K.lookup f = some ⟨oc, od, .func (PySem.W.fnOf "__init__" qual (defArgs st) (defBody st) (defScope st) .none kV dc pm an cd ct), sl⟩) (c : PySem.W.codeIn K cd qual = true) (k : PySem.W.keepIn K (.ref f) = true)
    (mk : PySem.W.makesIn K C = true) (kc : PySem.W.keepIn K (.ref C) = true)
    (b : ∀ (kV doc pm : Value) (an : Option Addr) (cdv ct : Value) (us : List Value), us.length = ps.length → bindArgs (PySem.W.fnOf "__init__" qual (defArgs st) (defBody st) (defScope st) .none kV doc pm an cdv ct) ⟨us, []⟩ = pure (ps.zip us)) : Ib K C qual st ps :=
  ⟨f, _, fun_mk (st := st) l c k, ⟨mk, a, i, kc⟩, (fun_mk (st := st) l c k).binds b⟩
/-- a number, a text of the top -/
theorem cI {x : Str} {i : Int} {t : Tok} (X : K.In h) (G : h.Ns mainGlobals mg) (a : PySem.W.nsIn K mainGlobals x = some (some (.int i t))) : ∃ t : Tok, mg x = some (.int i t) := ⟨t, PySem.W.mg_of X G a⟩
theorem cS {x z : Str} {t : Tok} (X : K.In h) (G : h.Ns mainGlobals mg) (a : PySem.W.nsIn K mainGlobals x = some (some (.str z t))) : ∃ t : Tok, mg x = some (.str z t) := ⟨t, PySem.W.mg_of X G a⟩
def mkRd {C : Addr} {f0 : Addr} {oc0 : Value} {od0 an0 : Option Addr} {sl0 : Array (Option Value)} {kV0 dc0 pm0 cd0 ct0 : Value} {f1 : Addr} {oc1 : Value} {od1 an1 : Option Addr} {sl1 : Array (Option Value)} {kV1 dc1 pm1 cd1 ct1 : Value} {f2 : Addr} {oc2 : Value} {od2 an2 : Option Addr} {sl2 : Array (Option Value)} {kV2 dc2 pm2 cd2 ct2 : Value} {f3 : Addr} {oc3 : Value} {od3 an3 : Option Addr} {sl3 : Array (Option Value)} {kV3 dc3 pm3 cd3 ct3 : Value} {f4 : Addr} {oc4 : Value} {od4 an4 : Option Addr} {sl4 : Array (Option Value)} {kV4 dc4 pm4 cd4 ct4 : Value} {f5 : Addr} {oc5 : Value} {od5 an5 : Option Addr} {sl5 : Array (Option Value)} {kV5 dc5 pm5 cd5 ct5 : Value} (X : K.In h) (G : h.Ns mainGlobals mg) (read : Gb K mg "read_formula" sReadF ["switches", "text"]) (ml : mg "len" = none) {tL tM : Tok} (mL : mg "LETTERS" = some (.str "abcdefghijklmnopqrstuvwxyz" tL)) (mM : mg "MAX_FORMULA" = some (.int 60 tM))
    (aC : PySem.W.nsIn K mainGlobals "Reader" = some (some (.ref C)))
    (pg : PySem.W.plainGet K C Str.empty = true)
    (hd : PySem.W.hasDictIn K C = true)
    (po : PySem.W.plainOver K C = true)
    (sa : PySem.W.findIn K (.ref C) "__setattr__" = some (some (.builtin "object.__setattr__")))
    (mk : PySem.W.makesIn K C = true)
    (kc : PySem.W.keepIn K (.ref C) = true)
    (nSw : PySem.W.findIn K (.ref C) "switches" = some none)
    (nTx : PySem.W.findIn K (.ref C) "text" = some none)
    (nAt : PySem.W.findIn K (.ref C) "at" = some none)
    (a0 : PySem.W.findIn K (.ref C) "__init__" = some (some (.ref f0)))
    (i0 : PySem.W.isFn K (.ref f0) = true)
    (l0 : K.lookup f0 = some ⟨oc0, od0, .func (PySem.W.fnOf "__init__" "Reader.__init__" (defArgs sRInit) (defBody sRInit) (defScope sRInit) .none kV0 dc0 pm0 an0 cd0 ct0), sl0⟩)
    (c0 : PySem.W.codeIn K cd0 "Reader.__init__" = true)
    (k0 : PySem.W.keepIn K (.ref f0) = true)
    (a1 : PySem.W.findIn K (.ref C) "peek" = some (some (.ref f1)))
    (i1 : PySem.W.isFn K (.ref f1) = true)
    (l1 : K.lookup f1 = some ⟨oc1, od1, .func (PySem.W.fnOf "peek" "Reader.peek" (defArgs sPeek) (defBody sPeek) (defScope sPeek) .none kV1 dc1 pm1 an1 cd1 ct1), sl1⟩)
    (c1 : PySem.W.codeIn K cd1 "Reader.peek" = true)
    (k1 : PySem.W.keepIn K (.ref f1) = true)
    (a2 : PySem.W.findIn K (.ref C) "name" = some (some (.ref f2)))
    (i2 : PySem.W.isFn K (.ref f2) = true)
    (l2 : K.lookup f2 = some ⟨oc2, od2, .func (PySem.W.fnOf "name" "Reader.name" (defArgs sName) (defBody sName) (defScope sName) .none kV2 dc2 pm2 an2 cd2 ct2), sl2⟩)
    (c2 : PySem.W.codeIn K cd2 "Reader.name" = true)
    (k2 : PySem.W.keepIn K (.ref f2) = true)
    (a3 : PySem.W.findIn K (.ref C) "part" = some (some (.ref f3)))
    (i3 : PySem.W.isFn K (.ref f3) = true)
    (l3 : K.lookup f3 = some ⟨oc3, od3, .func (PySem.W.fnOf "part" "Reader.part" (defArgs sPart) (defBody sPart) (defScope sPart) .none kV3 dc3 pm3 an3 cd3 ct3), sl3⟩)
    (c3 : PySem.W.codeIn K cd3 "Reader.part" = true)
    (k3 : PySem.W.keepIn K (.ref f3) = true)
    (a4 : PySem.W.findIn K (.ref C) "both" = some (some (.ref f4)))
    (i4 : PySem.W.isFn K (.ref f4) = true)
    (l4 : K.lookup f4 = some ⟨oc4, od4, .func (PySem.W.fnOf "both" "Reader.both" (defArgs sRBoth) (defBody sRBoth) (defScope sRBoth) .none kV4 dc4 pm4 an4 cd4 ct4), sl4⟩)
    (c4 : PySem.W.codeIn K cd4 "Reader.both" = true)
    (k4 : PySem.W.keepIn K (.ref f4) = true)
    (a5 : PySem.W.findIn K (.ref C) "either" = some (some (.ref f5)))
    (i5 : PySem.W.isFn K (.ref f5) = true)
    (l5 : K.lookup f5 = some ⟨oc5, od5, .func (PySem.W.fnOf "either" "Reader.either" (defArgs sREither) (defBody sREither) (defScope sREither) .none kV5 dc5 pm5 an5 cd5 ct5), sl5⟩)
    (c5 : PySem.W.codeIn K cd5 "Reader.either" = true)
    (k5 : PySem.W.keepIn K (.ref f5) = true) : RdT K mg where
  C := C
  cl := ⟨pg, hd, po, sa⟩
  mgC := PySem.W.mg_of X G aC
  nSw := nSw
  nTx := nTx
  nAt := nAt
  init := ib (st := sRInit) a0 i0 l0 c0 k0 mk kc (fun _ _ _ _ _ _ us hl => match us, hl with | [_, _, _], _ => rfl)
  peek := mb (st := sPeek) a1 i1 l1 c1 k1 (fun _ _ _ _ _ _ us hl => match us, hl with | [_], _ => rfl)
  name := mb (st := sName) a2 i2 l2 c2 k2 (fun _ _ _ _ _ _ us hl => match us, hl with | [_], _ => rfl)
  part := mb (st := sPart) a3 i3 l3 c3 k3 (fun _ _ _ _ _ _ us hl => match us, hl with | [_], _ => rfl)
  both := mb (st := sRBoth) a4 i4 l4 c4 k4 (fun _ _ _ _ _ _ us hl => match us, hl with | [_], _ => rfl)
  either := mb (st := sREither) a5 i5 l5 c5 k5 (fun _ _ _ _ _ _ us hl => match us, hl with | [_], _ => rfl)
  read := read
  ml := ml
  tL := tL
  mL := mL
  tM := tM
  mM := mM
def mkFd {C : Addr} {f0 : Addr} {oc0 : Value} {od0 an0 : Option Addr} {sl0 : Array (Option Value)} {kV0 dc0 pm0 cd0 ct0 : Value} {f1 : Addr} {oc1 : Value} {od1 an1 : Option Addr} {sl1 : Array (Option Value)} {kV1 dc1 pm1 cd1 ct1 : Value} {f2 : Addr} {oc2 : Value} {od2 an2 : Option Addr} {sl2 : Array (Option Value)} {kV2 dc2 pm2 cd2 ct2 : Value} {f3 : Addr} {oc3 : Value} {od3 an3 : Option Addr} {sl3 : Array (Option Value)} {kV3 dc3 pm3 cd3 ct3 : Value} {f4 : Addr} {oc4 : Value} {od4 an4 : Option Addr} {sl4 : Array (Option Value)} {kV4 dc4 pm4 cd4 ct4 : Value} {f5 : Addr} {oc5 : Value} {od5 an5 : Option Addr} {sl5 : Array (Option Value)} {kV5 dc5 pm5 cd5 ct5 : Value} (X : K.In h) (G : h.Ns mainGlobals mg) (D : DgT K mg) (R : RdT K mg) (S : ShT K mg) (fold : Gb K mg "fold" sFold ["shelf", "name", "switches"]) (choose : Gb K mg "choose" sChoose ["shelf", "name", "switches", "configuration"]) (men : mg "enumerate" = none) {tMF tMN tMV : Tok} (mMF : mg "MAX_FOLDED" = some (.int 40 tMF)) (mMN : mg "MAX_NESTED" = some (.int 6 tMN)) (mMV : mg "MAX_LEVEL" = some (.int 4 tMV))
    (aC : PySem.W.nsIn K mainGlobals "Folder" = some (some (.ref C)))
    (pg : PySem.W.plainGet K C Str.empty = true)
    (hd : PySem.W.hasDictIn K C = true)
    (po : PySem.W.plainOver K C = true)
    (sa : PySem.W.findIn K (.ref C) "__setattr__" = some (some (.builtin "object.__setattr__")))
    (mk : PySem.W.makesIn K C = true)
    (kc : PySem.W.keepIn K (.ref C) = true)
    (nSh : PySem.W.findIn K (.ref C) "shelf" = some none)
    (nSw : PySem.W.findIn K (.ref C) "switches" = some none)
    (nLi : PySem.W.findIn K (.ref C) "lines" = some none)
    (nCo : PySem.W.findIn K (.ref C) "count" = some none)
    (nAr : PySem.W.findIn K (.ref C) "around" = some none)
    (a0 : PySem.W.findIn K (.ref C) "__init__" = some (some (.ref f0)))
    (i0 : PySem.W.isFn K (.ref f0) = true)
    (l0 : K.lookup f0 = some ⟨oc0, od0, .func (PySem.W.fnOf "__init__" "Folder.__init__" (defArgs sFInit) (defBody sFInit) (defScope sFInit) .none kV0 dc0 pm0 an0 cd0 ct0), sl0⟩)
    (c0 : PySem.W.codeIn K cd0 "Folder.__init__" = true)
    (k0 : PySem.W.keepIn K (.ref f0) = true)
    (a1 : PySem.W.findIn K (.ref C) "content" = some (some (.ref f1)))
    (i1 : PySem.W.isFn K (.ref f1) = true)
    (l1 : K.lookup f1 = some ⟨oc1, od1, .func (PySem.W.fnOf "content" "Folder.content" (defArgs sContent) (defBody sContent) (defScope sContent) .none kV1 dc1 pm1 an1 cd1 ct1), sl1⟩)
    (c1 : PySem.W.codeIn K cd1 "Folder.content" = true)
    (k1 : PySem.W.keepIn K (.ref f1) = true)
    (a2 : PySem.W.findIn K (.ref C) "condition" = some (some (.ref f2)))
    (i2 : PySem.W.isFn K (.ref f2) = true)
    (l2 : K.lookup f2 = some ⟨oc2, od2, .func (PySem.W.fnOf "condition" "Folder.condition" (defArgs sCondition) (defBody sCondition) (defScope sCondition) .none kV2 dc2 pm2 an2 cd2 ct2), sl2⟩)
    (c2 : PySem.W.codeIn K cd2 "Folder.condition" = true)
    (k2 : PySem.W.keepIn K (.ref f2) = true)
    (a3 : PySem.W.findIn K (.ref C) "use" = some (some (.ref f3)))
    (i3 : PySem.W.isFn K (.ref f3) = true)
    (l3 : K.lookup f3 = some ⟨oc3, od3, .func (PySem.W.fnOf "use" "Folder.use" (defArgs sUse) (defBody sUse) (defScope sUse) .none kV3 dc3 pm3 an3 cd3 ct3), sl3⟩)
    (c3 : PySem.W.codeIn K cd3 "Folder.use" = true)
    (k3 : PySem.W.keepIn K (.ref f3) = true)
    (a4 : PySem.W.findIn K (.ref C) "directive" = some (some (.ref f4)))
    (i4 : PySem.W.isFn K (.ref f4) = true)
    (l4 : K.lookup f4 = some ⟨oc4, od4, .func (PySem.W.fnOf "directive" "Folder.directive" (defArgs sDirective) (defBody sDirective) (defScope sDirective) .none kV4 dc4 pm4 an4 cd4 ct4), sl4⟩)
    (c4 : PySem.W.codeIn K cd4 "Folder.directive" = true)
    (k4 : PySem.W.keepIn K (.ref f4) = true)
    (a5 : PySem.W.findIn K (.ref C) "file" = some (some (.ref f5)))
    (i5 : PySem.W.isFn K (.ref f5) = true)
    (l5 : K.lookup f5 = some ⟨oc5, od5, .func (PySem.W.fnOf "file" "Folder.file" (defArgs sFile) (defBody sFile) (defScope sFile) .none kV5 dc5 pm5 an5 cd5 ct5), sl5⟩)
    (c5 : PySem.W.codeIn K cd5 "Folder.file" = true)
    (k5 : PySem.W.keepIn K (.ref f5) = true) : FdT K mg where
  C := C
  cl := ⟨pg, hd, po, sa⟩
  mgC := PySem.W.mg_of X G aC
  nSh := nSh
  nSw := nSw
  nLi := nLi
  nCo := nCo
  nAr := nAr
  init := ib (st := sFInit) a0 i0 l0 c0 k0 mk kc (fun _ _ _ _ _ _ us hl => match us, hl with | [_, _, _], _ => rfl)
  content := mb (st := sContent) a1 i1 l1 c1 k1 (fun _ _ _ _ _ _ us hl => match us, hl with | [_, _, _, _], _ => rfl)
  condition := mb (st := sCondition) a2 i2 l2 c2 k2 (fun _ _ _ _ _ _ us hl => match us, hl with | [_, _, _, _], _ => rfl)
  use := mb (st := sUse) a3 i3 l3 c3 k3 (fun _ _ _ _ _ _ us hl => match us, hl with | [_, _, _, _, _], _ => rfl)
  directive := mb (st := sDirective) a4 i4 l4 c4 k4 (fun _ _ _ _ _ _ us hl => match us, hl with | [_, _, _, _, _], _ => rfl)
  file := mb (st := sFile) a5 i5 l5 c5 k5 (fun _ _ _ _ _ _ us hl => match us, hl with | [_, _, _, _], _ => rfl)
  D := D
  R := R
  S := S
  fold := fold
  choose := choose
  men := men
  tMF := tMF
  mMF := mMF
  tMN := tMN
  mMN := mMN
  tMV := tMV
  mMV := mMV
end
theorem all_ok {l : PySem.W.OpenLaw} {w : World} {K : PySem.W.Frag} {h : Heap} {mg : Str → Option Value} {fa f : Addr} (X : K.In h) (G : h.Ns mainGlobals mg) (hfa : mg "law" = some (.ref fa)) (T : LwT K mg)
    {oc : Value} {od an : Option Addr} {sl : Array (Option Value)} {kV dc pm cd ct : Value} (a : PySem.W.nsIn K mainGlobals "law" = some (some (.ref f))) (lk : K.lookup f = some ⟨oc, od, .func (PySem.W.fnOf "law" "law" (defArgs sLaw) (defBody sLaw) (defScope sLaw) .none kV dc pm an cd ct), sl⟩) (c : PySem.W.codeIn K cd "law" = true) (k : PySem.W.keepIn K (.ref f) = true) :
    ∃ fd : FuncData, (∀ (s : Shared) (v : Value), BindsTo s fd ⟨[v], []⟩ [("_law_script", v)]) ∧ ∀ base : Heap, K.In base → base.Ns mainGlobals mg → FnOk l.prog w K mg base CX0 84 fa fd ["_law_script"] (spLaw K) := by
  have e := hfa.symm.trans (PySem.W.mg_of X G a)
  cases e
  exact ⟨_, fun s v => .of_eq rfl, fun base _ _ => ok_law T (gb X G a lk c k (fun _ _ _ _ _ _ us hl => match us, hl with | [_], _ => rfl))⟩
theorem walk {l : PySem.W.OpenLaw} {q : Program} {loose : List Str} {XP : (Str → Option Value) → Heap → Prop} {YP : World → Heap → Prop} {d : DefRec} {K : Params → PySem.W.Frag} (hn : l.most = some 63) (hdf : d.params.defaults = [])
    (hY : ∀ (w : World) (h : Heap), YP w h → (K w.params).In h)
    (F : ∀ (w : World) (mg : Str → Option Value) (fa : Addr) (h : Heap), (K w.params).In h → h.Ns mainGlobals mg → mg d.name = some (.ref fa) →
      ∃ fd : FuncData, (∀ (s : Shared) (u : Value), BindsTo s fd ⟨[u], []⟩ [("_law_script", u)]) ∧ ∀ base : Heap, (K w.params).In base → base.Ns mainGlobals mg → FnOk l.prog w (K w.params) mg base CX0 84 fa fd ["_law_script"] (spLaw (K w.params))) :
    PySem.W.WalkO q loose XP YP l.row.toRowW d [] (fun f vs => PySem.call f vs) :=
  L2.walk_of (n := 63) (k := 84) (x := "_law_script") (CX := fun _ => CX0) (sp := fun w => spLaw (K w.params)) hn (by decide) hdf ⟨rfl, by decide, by decide⟩ hY F (fun _ _ a ns hl _ hS => ⟨a, ns, rfl, hS, Nat.le_trans hl (by decide), fun _ => rfl⟩) fun _ _ _ _ _ z => z
end OF

set_option Elab.async false
set_option linter.all false
open PySem PySem.W PyProof.Rows
set_option maxRecDepth 100000 in
set_option maxHeartbeats 0 in
theorem PySem.Challenge.cw_oncefolded_k03_whole_folding_is_choosing_holds : PySem.Challenge.rw_oncefolded_k03_whole_folding_is_choosing.Holds := by
  w_on; o_law; k_head; (case hw => w_witness2)
  k_fill
  refine OF.walk (l := PySem.Challenge.rw_oncefolded_k03_whole_folding_is_choosing) rfl rfl (fun w h Y => PySem.W.kIn_of Y) ?F
  case F =>
    intro w mg fa h KX G
    have g_switch : OF.Gb (L2.KOf KX) mg "switch" OF.sSwitch ["i"] := by
      delta L2.KOf
      refine' OF.gb KX G ?a ?l ?c ?k (fun _ _ _ _ _ _ us hl => match us, hl with | [_], _ => rfl)
      (case a => k_is)
      (case l => k_is)
      (case c => k_is)
      (case k => k_is)
    have g_node : OF.Gb (L2.KOf KX) mg "node" OF.sNode ["i", "low", "high"] := by
      delta L2.KOf
      refine' OF.gb KX G ?a ?l ?c ?k (fun _ _ _ _ _ _ us hl => match us, hl with | [_, _, _], _ => rfl)
      (case a => k_is)
      (case l => k_is)
      (case c => k_is)
      (case k => k_is)
    have g_same : OF.Gb (L2.KOf KX) mg "same" OF.sSame ["d", "e"] := by
      delta L2.KOf
      refine' OF.gb KX G ?a ?l ?c ?k (fun _ _ _ _ _ _ us hl => match us, hl with | [_, _], _ => rfl)
      (case a => k_is)
      (case l => k_is)
      (case c => k_is)
      (case k => k_is)
    have g_neg : OF.Gb (L2.KOf KX) mg "negated" OF.sNegated ["d"] := by
      delta L2.KOf
      refine' OF.gb KX G ?a ?l ?c ?k (fun _ _ _ _ _ _ us hl => match us, hl with | [_], _ => rfl)
      (case a => k_is)
      (case l => k_is)
      (case c => k_is)
      (case k => k_is)
    have g_both : OF.Gb (L2.KOf KX) mg "both" OF.sBoth ["d", "e"] := by
      delta L2.KOf
      refine' OF.gb KX G ?a ?l ?c ?k (fun _ _ _ _ _ _ us hl => match us, hl with | [_, _], _ => rfl)
      (case a => k_is)
      (case l => k_is)
      (case c => k_is)
      (case k => k_is)
    have g_either : OF.Gb (L2.KOf KX) mg "either" OF.sEither ["d", "e"] := by
      delta L2.KOf
      refine' OF.gb KX G ?a ?l ?c ?k (fun _ _ _ _ _ _ us hl => match us, hl with | [_, _], _ => rfl)
      (case a => k_is)
      (case l => k_is)
      (case c => k_is)
      (case k => k_is)
    have g_diag : OF.Gb (L2.KOf KX) mg "diagram_of" OF.sDiagOf ["switches", "formula"] := by
      delta L2.KOf
      refine' OF.gb KX G ?a ?l ?c ?k (fun _ _ _ _ _ _ us hl => match us, hl with | [_, _], _ => rfl)
      (case a => k_is)
      (case l => k_is)
      (case c => k_is)
      (case k => k_is)
    have g_holds : OF.Gb (L2.KOf KX) mg "holds" OF.sHolds ["d", "configuration"] := by
      delta L2.KOf
      refine' OF.gb KX G ?a ?l ?c ?k (fun _ _ _ _ _ _ us hl => match us, hl with | [_, _], _ => rfl)
      (case a => k_is)
      (case l => k_is)
      (case c => k_is)
      (case k => k_is)
    have g_read : OF.Gb (L2.KOf KX) mg "read_formula" OF.sReadF ["switches", "text"] := by
      delta L2.KOf
      refine' OF.gb KX G ?a ?l ?c ?k (fun _ _ _ _ _ _ us hl => match us, hl with | [_, _], _ => rfl)
      (case a => k_is)
      (case l => k_is)
      (case c => k_is)
      (case k => k_is)
    have g_lines : OF.Gb (L2.KOf KX) mg "lines_of" OF.sLinesOf ["text"] := by
      delta L2.KOf
      refine' OF.gb KX G ?a ?l ?c ?k (fun _ _ _ _ _ _ us hl => match us, hl with | [_], _ => rfl)
      (case a => k_is)
      (case l => k_is)
      (case c => k_is)
      (case k => k_is)
    have g_isFile : OF.Gb (L2.KOf KX) mg "is_file_name" OF.sIsFile ["text"] := by
      delta L2.KOf
      refine' OF.gb KX G ?a ?l ?c ?k (fun _ _ _ _ _ _ us hl => match us, hl with | [_], _ => rfl)
      (case a => k_is)
      (case l => k_is)
      (case c => k_is)
      (case k => k_is)
    have g_isCont : OF.Gb (L2.KOf KX) mg "is_content" OF.sIsContent ["line"] := by
      delta L2.KOf
      refine' OF.gb KX G ?a ?l ?c ?k (fun _ _ _ _ _ _ us hl => match us, hl with | [_], _ => rfl)
      (case a => k_is)
      (case l => k_is)
      (case c => k_is)
      (case k => k_is)
    have g_fold : OF.Gb (L2.KOf KX) mg "fold" OF.sFold ["shelf", "name", "switches"] := by
      delta L2.KOf
      refine' OF.gb KX G ?a ?l ?c ?k (fun _ _ _ _ _ _ us hl => match us, hl with | [_, _, _], _ => rfl)
      (case a => k_is)
      (case l => k_is)
      (case c => k_is)
      (case k => k_is)
    have g_choose : OF.Gb (L2.KOf KX) mg "choose" OF.sChoose ["shelf", "name", "switches", "configuration"] := by
      delta L2.KOf
      refine' OF.gb KX G ?a ?l ?c ?k (fun _ _ _ _ _ _ us hl => match us, hl with | [_, _, _, _], _ => rfl)
      (case a => k_is)
      (case l => k_is)
      (case c => k_is)
      (case k => k_is)
    have l_mix : OF.Gb (L2.KOf KX) mg "_law_mix" OF.sMix ["_law_number"] := by
      delta L2.KOf
      refine' OF.gb KX G ?a ?l ?c ?k (fun _ _ _ _ _ _ us hl => match us, hl with | [_], _ => rfl)
      (case a => k_is)
      (case l => k_is)
      (case c => k_is)
      (case k => k_is)
    have l_tape : OF.Gb (L2.KOf KX) mg "_law_tape" OF.sTape ["_law_script", "_law_budget"] := by
      delta L2.KOf
      refine' OF.gb KX G ?a ?l ?c ?k (fun _ _ _ _ _ _ us hl => match us, hl with | [_, _], _ => rfl)
      (case a => k_is)
      (case l => k_is)
      (case c => k_is)
      (case k => k_is)
    have l_take : OF.Gb (L2.KOf KX) mg "_law_take" OF.sTake ["_law_tape_here", "_law_many"] := by
      delta L2.KOf
      refine' OF.gb KX G ?a ?l ?c ?k (fun _ _ _ _ _ _ us hl => match us, hl with | [_, _], _ => rfl)
      (case a => k_is)
      (case l => k_is)
      (case c => k_is)
      (case k => k_is)
    have l_sws : OF.Gb (L2.KOf KX) mg "_law_switches" OF.sSwitches ["_law_tape_here"] := by
      delta L2.KOf
      refine' OF.gb KX G ?a ?l ?c ?k (fun _ _ _ _ _ _ us hl => match us, hl with | [_], _ => rfl)
      (case a => k_is)
      (case l => k_is)
      (case c => k_is)
      (case k => k_is)
    have l_gap : OF.Gb (L2.KOf KX) mg "_law_gap" OF.sGap ["_law_tape_here"] := by
      delta L2.KOf
      refine' OF.gb KX G ?a ?l ?c ?k (fun _ _ _ _ _ _ us hl => match us, hl with | [_], _ => rfl)
      (case a => k_is)
      (case l => k_is)
      (case c => k_is)
      (case k => k_is)
    have l_part : OF.Gb (L2.KOf KX) mg "_law_part" OF.sLPart ["_law_tape_here", "_law_switches_here", "_law_deep"] := by
      delta L2.KOf
      refine' OF.gb KX G ?a ?l ?c ?k (fun _ _ _ _ _ _ us hl => match us, hl with | [_, _, _], _ => rfl)
      (case a => k_is)
      (case l => k_is)
      (case c => k_is)
      (case k => k_is)
    have l_both : OF.Gb (L2.KOf KX) mg "_law_both" OF.sLBoth ["_law_tape_here", "_law_switches_here", "_law_deep"] := by
      delta L2.KOf
      refine' OF.gb KX G ?a ?l ?c ?k (fun _ _ _ _ _ _ us hl => match us, hl with | [_, _, _], _ => rfl)
      (case a => k_is)
      (case l => k_is)
      (case c => k_is)
      (case k => k_is)
    have l_either : OF.Gb (L2.KOf KX) mg "_law_either" OF.sLEither ["_law_tape_here", "_law_switches_here", "_law_deep"] := by
      delta L2.KOf
      refine' OF.gb KX G ?a ?l ?c ?k (fun _ _ _ _ _ _ us hl => match us, hl with | [_, _, _], _ => rfl)
      (case a => k_is)
      (case l => k_is)
      (case c => k_is)
      (case k => k_is)
    have l_formula : OF.Gb (L2.KOf KX) mg "_law_formula" OF.sFormula ["_law_tape_here", "_law_switches_here"] := by
      delta L2.KOf
      refine' OF.gb KX G ?a ?l ?c ?k (fun _ _ _ _ _ _ us hl => match us, hl with | [_, _], _ => rfl)
      (case a => k_is)
      (case l => k_is)
      (case c => k_is)
      (case k => k_is)
    have l_all : OF.Gb (L2.KOf KX) mg "_law_all" OF.sAll ["_law_count"] := by
      delta L2.KOf
      refine' OF.gb KX G ?a ?l ?c ?k (fun _ _ _ _ _ _ us hl => match us, hl with | [_], _ => rfl)
      (case a => k_is)
      (case l => k_is)
      (case c => k_is)
      (case k => k_is)
    have l_tru : OF.Gb (L2.KOf KX) mg "_law_true" OF.sTrue ["_law_switches_here", "_law_formula_here", "_law_configuration"] := by
      delta L2.KOf
      refine' OF.gb KX G ?a ?l ?c ?k (fun _ _ _ _ _ _ us hl => match us, hl with | [_, _, _], _ => rfl)
      (case a => k_is)
      (case l => k_is)
      (case c => k_is)
      (case k => k_is)
    have l_diagram : OF.Gb (L2.KOf KX) mg "_law_diagram" OF.sDiagram ["_law_bits", "_law_i"] := by
      delta L2.KOf
      refine' OF.gb KX G ?a ?l ?c ?k (fun _ _ _ _ _ _ us hl => match us, hl with | [_, _], _ => rfl)
      (case a => k_is)
      (case l => k_is)
      (case c => k_is)
      (case k => k_is)
    have l_same : OF.Gb (L2.KOf KX) mg "_law_same" OF.sLSame ["_law_told", "_law_due"] := by
      delta L2.KOf
      refine' OF.gb KX G ?a ?l ?c ?k (fun _ _ _ _ _ _ us hl => match us, hl with | [_, _], _ => rfl)
      (case a => k_is)
      (case l => k_is)
      (case c => k_is)
      (case k => k_is)
    have l_body : OF.Gb (L2.KOf KX) mg "_law_body" OF.sBody ["_law_tape_here", "_law_switches_here", "_law_names", "_law_deep", "_law_known"] := by
      delta L2.KOf
      refine' OF.gb KX G ?a ?l ?c ?k (fun _ _ _ _ _ _ us hl => match us, hl with | [_, _, _, _, _], _ => rfl)
      (case a => k_is)
      (case l => k_is)
      (case c => k_is)
      (case k => k_is)
    have l_shelf : OF.Gb (L2.KOf KX) mg "_law_shelf" OF.sShelf ["_law_tape_here", "_law_switches_here", "_law_known"] := by
      delta L2.KOf
      refine' OF.gb KX G ?a ?l ?c ?k (fun _ _ _ _ _ _ us hl => match us, hl with | [_, _, _], _ => rfl)
      (case a => k_is)
      (case l => k_is)
      (case c => k_is)
      (case k => k_is)
    have l_closed : OF.Gb (L2.KOf KX) mg "_law_closed" OF.sClosed ["_law_text"] := by
      delta L2.KOf
      refine' OF.gb KX G ?a ?l ?c ?k (fun _ _ _ _ _ _ us hl => match us, hl with | [_], _ => rfl)
      (case a => k_is)
      (case l => k_is)
      (case c => k_is)
      (case k => k_is)
    have l_reading : OF.Gb (L2.KOf KX) mg "_law_reading" OF.sReading ["_law_shelf_here", "_law_name", "_law_switches_here"] := by
      delta L2.KOf
      refine' OF.gb KX G ?a ?l ?c ?k (fun _ _ _ _ _ _ us hl => match us, hl with | [_, _, _], _ => rfl)
      (case a => k_is)
      (case l => k_is)
      (case c => k_is)
      (case k => k_is)
    have l_present : OF.Gb (L2.KOf KX) mg "_law_present" OF.sPresent ["_law_switches_here", "_law_around", "_law_configuration", "_law_known"] := by
      delta L2.KOf
      refine' OF.gb KX G ?a ?l ?c ?k (fun _ _ _ _ _ _ us hl => match us, hl with | [_, _, _, _], _ => rfl)
      (case a => k_is)
      (case l => k_is)
      (case c => k_is)
      (case k => k_is)
    have n_len : mg "len" = none := PySem.W.mg_none_of KX G (by k_is)
    have n_isinstance : mg "isinstance" = none := PySem.W.mg_none_of KX G (by k_is)
    have n_tuple : mg "tuple" = none := PySem.W.mg_none_of KX G (by k_is)
    have n_all : mg "all" = none := PySem.W.mg_none_of KX G (by k_is)
    have n_enumerate : mg "enumerate" = none := PySem.W.mg_none_of KX G (by k_is)
    have n_int : mg "int" = none := PySem.W.mg_none_of KX G (by k_is)
    have n_list : mg "list" = none := PySem.W.mg_none_of KX G (by k_is)
    have n_range : mg "range" = none := PySem.W.mg_none_of KX G (by k_is)
    have n_any : mg "any" = none := PySem.W.mg_none_of KX G (by k_is)
    have n_dict : mg "dict" = none := PySem.W.mg_none_of KX G (by k_is)
    have n_bool : mg "bool" = none := PySem.W.mg_none_of KX G (by k_is)
    have c_LETTERS : ∃ t : Tok, mg "LETTERS" = some (.str "abcdefghijklmnopqrstuvwxyz" t) := by
      refine' OF.cS KX G ?a
      (case a => k_is)
    obtain ⟨t_LETTERS, c_LETTERS⟩ := c_LETTERS
    have c_SIGNS : ∃ t : Tok, mg "SIGNS" = some (.str "abcdefghijklmnopqrstuvwxyz0123456789" t) := by
      refine' OF.cS KX G ?a
      (case a => k_is)
    obtain ⟨t_SIGNS, c_SIGNS⟩ := c_SIGNS
    have c_MAX_FORMULA : ∃ t : Tok, mg "MAX_FORMULA" = some (.int 60 t) := by
      refine' OF.cI KX G ?a
      (case a => k_is)
    obtain ⟨t_MAX_FORMULA, c_MAX_FORMULA⟩ := c_MAX_FORMULA
    have c_MAX_FILE_NAME : ∃ t : Tok, mg "MAX_FILE_NAME" = some (.int 8 t) := by
      refine' OF.cI KX G ?a
      (case a => k_is)
    obtain ⟨t_MAX_FILE_NAME, c_MAX_FILE_NAME⟩ := c_MAX_FILE_NAME
    have c_MAX_LINE : ∃ t : Tok, mg "MAX_LINE" = some (.int 60 t) := by
      refine' OF.cI KX G ?a
      (case a => k_is)
    obtain ⟨t_MAX_LINE, c_MAX_LINE⟩ := c_MAX_LINE
    have c_MAX_FOLDED : ∃ t : Tok, mg "MAX_FOLDED" = some (.int 40 t) := by
      refine' OF.cI KX G ?a
      (case a => k_is)
    obtain ⟨t_MAX_FOLDED, c_MAX_FOLDED⟩ := c_MAX_FOLDED
    have c_MAX_NESTED : ∃ t : Tok, mg "MAX_NESTED" = some (.int 6 t) := by
      refine' OF.cI KX G ?a
      (case a => k_is)
    obtain ⟨t_MAX_NESTED, c_MAX_NESTED⟩ := c_MAX_NESTED
    have c_MAX_LEVEL : ∃ t : Tok, mg "MAX_LEVEL" = some (.int 4 t) := by
      refine' OF.cI KX G ?a
      (case a => k_is)
    obtain ⟨t_MAX_LEVEL, c_MAX_LEVEL⟩ := c_MAX_LEVEL
    have tD : OF.DgT (L2.KOf KX) mg := ⟨g_switch, g_node, g_same, g_neg, g_both, g_either, g_diag, g_holds, n_isinstance, n_tuple⟩
    have tR : OF.RdT (L2.KOf KX) mg := by
      delta L2.KOf
      refine' OF.mkRd KX G g_read n_len c_LETTERS c_MAX_FORMULA ?aC ?pg ?hd ?po ?sa ?mk ?kc ?nSw ?nTx ?nAt ?a0 ?i0 ?l0 ?c0 ?k0 ?a1 ?i1 ?l1 ?c1 ?k1 ?a2 ?i2 ?l2 ?c2 ?k2 ?a3 ?i3 ?l3 ?c3 ?k3 ?a4 ?i4 ?l4 ?c4 ?k4 ?a5 ?i5 ?l5 ?c5 ?k5
      (case aC => k_is)
      (case pg => k_is)
      (case hd => k_is)
      (case po => k_is)
      (case sa => k_is)
      (case mk => k_is)
      (case kc => k_is)
      (case nSw => k_is)
      (case nTx => k_is)
      (case nAt => k_is)
      (case a0 => k_is)
      (case i0 => k_is)
      (case l0 => k_is)
      (case c0 => k_is)
      (case k0 => k_is)
      (case a1 => k_is)
      (case i1 => k_is)
      (case l1 => k_is)
      (case c1 => k_is)
      (case k1 => k_is)
      (case a2 => k_is)
      (case i2 => k_is)
      (case l2 => k_is)
      (case c2 => k_is)
      (case k2 => k_is)
      (case a3 => k_is)
      (case i3 => k_is)
      (case l3 => k_is)
      (case c3 => k_is)
      (case k3 => k_is)
      (case a4 => k_is)
      (case i4 => k_is)
      (case l4 => k_is)
      (case c4 => k_is)
      (case k4 => k_is)
      (case a5 => k_is)
      (case i5 => k_is)
      (case l5 => k_is)
      (case c5 => k_is)
      (case k5 => k_is)
    have tS : OF.ShT (L2.KOf KX) mg := ⟨g_lines, g_isFile, g_isCont, n_len, n_all, t_SIGNS, c_SIGNS, t_MAX_FILE_NAME, c_MAX_FILE_NAME, t_MAX_LINE, c_MAX_LINE⟩
    have tF : OF.FdT (L2.KOf KX) mg := by
      delta L2.KOf
      refine' OF.mkFd KX G tD tR tS g_fold g_choose n_enumerate c_MAX_FOLDED c_MAX_NESTED c_MAX_LEVEL ?aC ?pg ?hd ?po ?sa ?mk ?kc ?nSh ?nSw ?nLi ?nCo ?nAr ?a0 ?i0 ?l0 ?c0 ?k0 ?a1 ?i1 ?l1 ?c1 ?k1 ?a2 ?i2 ?l2 ?c2 ?k2 ?a3 ?i3 ?l3 ?c3 ?k3 ?a4 ?i4 ?l4 ?c4 ?k4 ?a5 ?i5 ?l5 ?c5 ?k5
      (case aC => k_is)
      (case pg => k_is)
      (case hd => k_is)
      (case po => k_is)
      (case sa => k_is)
      (case mk => k_is)
      (case kc => k_is)
      (case nSh => k_is)
      (case nSw => k_is)
      (case nLi => k_is)
      (case nCo => k_is)
      (case nAr => k_is)
      (case a0 => k_is)
      (case i0 => k_is)
      (case l0 => k_is)
      (case c0 => k_is)
      (case k0 => k_is)
      (case a1 => k_is)
      (case i1 => k_is)
      (case l1 => k_is)
      (case c1 => k_is)
      (case k1 => k_is)
      (case a2 => k_is)
      (case i2 => k_is)
      (case l2 => k_is)
      (case c2 => k_is)
      (case k2 => k_is)
      (case a3 => k_is)
      (case i3 => k_is)
      (case l3 => k_is)
      (case c3 => k_is)
      (case k3 => k_is)
      (case a4 => k_is)
      (case i4 => k_is)
      (case l4 => k_is)
      (case c4 => k_is)
      (case k4 => k_is)
      (case a5 => k_is)
      (case i5 => k_is)
      (case l5 => k_is)
      (case c5 => k_is)
      (case k5 => k_is)
    have tL : OF.LwT (L2.KOf KX) mg := ⟨tF, l_mix, l_tape, l_take, l_sws, l_gap, l_part, l_both, l_either, l_formula, l_all, l_tru, l_diagram, l_same, l_body, l_shelf, l_closed, l_reading, l_present, n_int, n_list, n_range, n_any, n_dict, n_bool⟩
    intro hmg
    refine' OF.all_ok KX G hmg tL ?a ?l ?c ?k
    (case a => k_is)
    (case l => k_is)
    (case c => k_is)
    (case k => k_is)
