import PyProof.Rows.All
import Wide.All
import OpenK.AllK
import Wide.FinOn
import PySem.Challenge.RW_turnyard_k05_whole_read
import HandS.ForMost
import HandS.Conv
import HandS.TupAny
import HandS.Deep
import HandS.IsInst
import HandS.Walk
import HandS.Rev
import KE.GoesMore
import HandS.Strs
import HandS.NoneIn
import KE.KRevSl
import HandS.Style
import KE.DataMinMax
import KE.SortData
import KE.KDictDisplayH
import KE.KDictList
import KE.KDictSum
import HandS.DictTup
import HandS.TupLen
import HandS.More
import HandS.SetFor
import HandS.TupSets
import HandS.ExcIs
import HandS.ExcCtx
import HandS.SuiteRaise
import HandS.WordsExc
import HandS.ExcBuiltin
import HandS.Zip
import HandS.TupMul
import PyProof.TupleOfSeq
import PyProof.Rows.SeqMore
set_option linter.all false
/-! Mth: turns as lists of numbers: the plain mathematics. -/
namespace Mt
abbrev T := List Nat
/-- a turn of n points -/
structure IsT (n : Nat) (t : T) : Prop where
  len : t.length = n
  lt : ∀ x ∈ t, x < n
  nd : t.Nodup
def app (t : T) (p : Nat) : Nat := t.getD p 0
def still (n : Nat) : T := List.range n
def times (a b : T) : T := a.map fun p => app b p
def back (t : T) : T := (List.range t.length).map fun p => t.idxOf p

theorem app_get {t : T} {p : Nat} (h : p < t.length) : t[p]? = some (app t p) := by
  unfold app
  rw [List.getD_eq_getElem?_getD, List.getElem?_eq_getElem h]; rfl
theorem IsT.app_lt {n t p} (h : IsT n t) (hp : p < n) : app t p < n := by
  have e := app_get (t := t) (p := p) (by rw [h.len]; exact hp)
  exact h.lt _ (List.mem_of_getElem? e)
theorem IsT.inj {n t p q} (h : IsT n t) (hp : p < n) (hq : q < n) (e : app t p = app t q) : p = q := by
  have e1 := app_get (t := t) (p := p) (by rw [h.len]; exact hp)
  have e2 := app_get (t := t) (p := q) (by rw [h.len]; exact hq)
  rw [e] at e1
  exact (List.getElem?_inj (by rw [h.len]; exact hp) h.nd).mp (by rw [e1, e2])
theorem ext_app {n : Nat} {a b : T} (ha : a.length = n) (hb : b.length = n) (h : ∀ p, p < n → app a p = app b p) : a = b := by
  apply List.ext_getElem?
  intro i
  by_cases hi : i < n
  · rw [app_get (by omega), app_get (by omega), h i hi]
  · rw [List.getElem?_eq_none (by omega), List.getElem?_eq_none (by omega)]
theorem len_still (n : Nat) : (still n).length = n := List.length_range
theorem app_still {n p : Nat} (h : p < n) : app (still n) p = p := by
  have e := app_get (t := still n) (p := p) (by rw [len_still]; exact h)
  unfold still at e ⊢
  rw [List.getElem?_range h] at e
  exact (Option.some.inj e).symm
theorem len_times (a b : T) : (times a b).length = a.length := List.length_map _
theorem app_times {a b : T} {p : Nat} (h : p < a.length) : app (times a b) p = app b (app a p) := by
  have e := app_get (t := times a b) (p := p) (by rw [len_times]; exact h)
  unfold times at e ⊢
  rw [List.getElem?_map, app_get h] at e
  exact (Option.some.inj e).symm
theorem len_back (t : T) : (back t).length = t.length := by simp [back]
theorem app_back {t : T} {p : Nat} (h : p < t.length) : app (back t) p = t.idxOf p := by
  have e := app_get (t := back t) (p := p) (by rw [len_back]; exact h)
  unfold back at e ⊢
  rw [List.getElem?_map, List.getElem?_range h] at e
  exact (Option.some.inj e).symm
/-- a list of n different numbers below n has them all -/
theorem full : ∀ (n : Nat) (l : List Nat), l.length = n → (∀ x ∈ l, x < n) → l.Nodup → ∀ x, x < n → x ∈ l := by
  intro n
  induction n with
  | zero => intro l _ _ _ x hx; omega
  | succ n ih =>
    intro l hl hlt hnd x hx
    by_cases hn : n ∈ l
    · have hp := List.perm_cons_erase hn
      have hnd2 : (n :: l.erase n).Nodup := hp.nodup_iff.mp hnd
      have h3 : n ∉ l.erase n := (List.nodup_cons.mp hnd2).1
      by_cases e : x = n
      · rw [e]; exact hn
      · have hx2 := ih (l.erase n) (by rw [List.length_erase_of_mem hn]; omega) (fun y hy => by
          have h1 := hlt y (List.mem_of_mem_erase hy)
          have h2 : y ≠ n := fun z => h3 (z ▸ hy)
          omega) (List.nodup_cons.mp hnd2).2 x (by omega)
        exact List.mem_of_mem_erase hx2
    · exfalso
      -- n + 1 different numbers below n
      cases l with
      | nil => simp at hl
      | cons y r =>
        have hy : y < n := by
          have h1 := hlt y List.mem_cons_self
          have h2 : y ≠ n := fun z => hn (z ▸ List.mem_cons_self)
          omega
        have q := ih r (by simpa using hl) (fun z hz => by
          have h1 := hlt z (List.mem_cons_of_mem _ hz)
          have h2 : z ≠ n := fun e => hn (e ▸ List.mem_cons_of_mem _ hz)
          omega) (List.nodup_cons.mp hnd).2 y hy
        exact (List.nodup_cons.mp hnd).1 q
theorem IsT.mem {n t x} (h : IsT n t) (hx : x < n) : x ∈ t := full n t h.len h.lt h.nd x hx
theorem IsT.app_idx {n t x} (h : IsT n t) (hx : x < n) : app t (t.idxOf x) = x := by
  have hm := h.mem hx
  have hl := List.idxOf_lt_length_of_mem hm
  have e := app_get hl
  rw [List.getElem?_eq_getElem hl] at e
  have := List.getElem_idxOf hl
  rw [this] at e
  exact (Option.some.inj e).symm
theorem IsT.idx_lt {n t x} (h : IsT n t) (hx : x < n) : t.idxOf x < n := by
  have := List.idxOf_lt_length_of_mem (h.mem hx)
  rw [h.len] at this
  exact this
theorem IsT.idx_app {n t p} (h : IsT n t) (hp : p < n) : t.idxOf (app t p) = p :=
  h.inj (h.idx_lt (h.app_lt hp)) hp (h.app_idx (h.app_lt hp))
theorem nodup_of_inj {n : Nat} {l : List Nat} (hl : l.length = n) (h : ∀ p q, p < n → q < n → app l p = app l q → p = q) : l.Nodup := by
  refine List.pairwise_iff_getElem.mpr fun i j hi hj hij e => ?_
  have h1 := app_get hi
  have h2 := app_get hj
  rw [List.getElem?_eq_getElem hi, e] at h1
  rw [List.getElem?_eq_getElem hj] at h2
  have := h i j (by omega) (by omega) (Option.some.inj (h1.symm.trans h2))
  omega
theorem isT_of {n : Nat} {l : T} (hl : l.length = n) (hlt : ∀ p, p < n → app l p < n) (h : ∀ p q, p < n → q < n → app l p = app l q → p = q) : IsT n l := by
  refine ⟨hl, fun x hx => ?_, nodup_of_inj hl h⟩
  obtain ⟨i, hi, e⟩ := List.mem_iff_getElem.mp hx
  have h1 := app_get hi
  rw [List.getElem?_eq_getElem hi, e] at h1
  rw [Option.some.inj h1]
  exact hlt i (by omega)
theorem IsT.still (n : Nat) : IsT n (still n) := isT_of (len_still n) (fun p hp => by rw [app_still hp]; exact hp) fun p q hp hq e => by rw [app_still hp, app_still hq] at e; exact e
theorem IsT.times {n a b} (ha : IsT n a) (hb : IsT n b) : IsT n (times a b) := by
  have hl := ha.len
  refine isT_of (by rw [len_times, hl]) (fun p hp => ?_) fun p q hp hq e => ?_
  · rw [app_times (by omega)]; exact hb.app_lt (ha.app_lt hp)
  · rw [app_times (by omega), app_times (by omega)] at e
    exact ha.inj hp hq (hb.inj (ha.app_lt hp) (ha.app_lt hq) e)
theorem IsT.back {n t} (h : IsT n t) : IsT n (back t) := by
  have hl := h.len
  refine isT_of (by rw [len_back, hl]) (fun p hp => ?_) fun p q hp hq e => ?_
  · rw [app_back (by omega)]; exact h.idx_lt hp
  · rw [app_back (by omega), app_back (by omega)] at e
    rw [← h.app_idx hp, ← h.app_idx hq, e]
theorem times_assoc {n a b c} (ha : IsT n a) (hb : IsT n b) : times (times a b) c = times a (times b c) := by
  have hl := ha.len
  refine ext_app (n := n) (by rw [len_times, len_times, hl]) (by rw [len_times, hl]) fun p hp => ?_
  rw [app_times (by rw [len_times]; omega), app_times (by omega), app_times (by omega), app_times (by rw [hb.len]; exact ha.app_lt hp)]
theorem times_still {n a} (ha : IsT n a) : times a (still n) = a := by
  have hl := ha.len
  refine ext_app (n := n) (by rw [len_times, hl]) hl fun p hp => ?_
  rw [app_times (by omega), app_still (ha.app_lt hp)]
theorem still_times {n a} (ha : IsT n a) : times (still n) a = a := by
  have hl := ha.len
  refine ext_app (n := n) (by rw [len_times, len_still]) hl fun p hp => ?_
  rw [app_times (by rw [len_still]; exact hp), app_still hp]
theorem times_back {n a} (ha : IsT n a) : times a (back a) = still n := by
  have hl := ha.len
  refine ext_app (n := n) (by rw [len_times, hl]) (len_still n) fun p hp => ?_
  rw [app_times (by omega), app_back (by rw [hl]; exact ha.app_lt hp), ha.idx_app hp, app_still hp]
theorem back_times {n a} (ha : IsT n a) : times (back a) a = still n := by
  have hl := ha.len
  refine ext_app (n := n) (by rw [len_times, len_back, hl]) (len_still n) fun p hp => ?_
  rw [app_times (by rw [len_back]; omega), app_back (by omega), ha.app_idx hp, app_still hp]
theorem right_cancel {n a b c} (ha : IsT n a) (hb : IsT n b) (hc : IsT n c) (e : times a c = times b c) : a = b := by
  rw [← times_still ha, ← times_still hb, ← times_back hc, ← times_assoc ha hc, ← times_assoc hb hc, e]
theorem left_cancel {n a b c} (ha : IsT n a) (hb : IsT n b) (hc : IsT n c) (e : times c a = times c b) : a = b := by
  rw [← still_times ha, ← still_times hb, ← back_times hc, times_assoc hc.back hc, times_assoc hc.back hc, e]
theorem back_back {n a} (ha : IsT n a) : back (back a) = a :=
  right_cancel ha.back.back ha ha.back (by rw [back_times ha.back, times_back ha])
theorem back_still (n : Nat) : back (still n) = still n :=
  right_cancel (IsT.still n).back (IsT.still n) (IsT.still n) (by rw [back_times (IsT.still n), times_still (IsT.still n)])
theorem back_mul {n a b} (ha : IsT n a) (hb : IsT n b) : back (times a b) = times (back b) (back a) := by
  refine right_cancel (ha.times hb).back (hb.back.times ha.back) (ha.times hb) ?_
  rw [back_times (ha.times hb), times_assoc hb.back ha.back, ← times_assoc ha.back ha, back_times ha, still_times hb, back_times hb]
end Mt

set_option linter.all false
/-! Mth2: powers and the order. -/
namespace Mt
def pw (n : Nat) (t : T) : Nat → T
  | 0 => still n
  | k + 1 => times (pw n t k) t
theorem IsT.pw {n t} (h : IsT n t) : ∀ k, IsT n (pw n t k)
  | 0 => IsT.still n
  | k + 1 => (IsT.pw h k).times h
theorem pw_add {n t} (h : IsT n t) (a : Nat) : ∀ b, pw n t (a + b) = times (pw n t a) (pw n t b)
  | 0 => (times_still (h.pw a)).symm
  | b + 1 => by
    show times (pw n t (a + b)) t = times (pw n t a) (times (pw n t b) t)
    rw [pw_add h a b, times_assoc (h.pw a) (h.pw b)]
theorem pigeon : ∀ (n : Nat) (l : List Nat), (∀ x ∈ l, x < n) → l.Nodup → l.length ≤ n := by
  intro n
  induction n with
  | zero =>
    intro l hl _
    cases l with
    | nil => simp
    | cons a r => exact absurd (hl a List.mem_cons_self) (by omega)
  | succ n ih =>
    intro l hl hnd
    have h3 : (l.erase n).Nodup := hnd.erase n
    have h4 : ∀ x ∈ l.erase n, x < n := fun x hx => by
      have h1 := hl x (List.mem_of_mem_erase hx)
      have h2 : x ≠ n := ((List.Nodup.mem_erase_iff hnd).mp hx).1
      omega
    have h5 := ih _ h4 h3
    have h6 : l.length - 1 ≤ (l.erase n).length := by rw [List.length_erase]; split <;> omega
    omega
/-- a point comes back to itself -/
theorem comes_back {n t p} (h : IsT n t) (hp : p < n) : ∃ d, 1 ≤ d ∧ d ≤ n ∧ app (pw n t d) p = p := by
  have key : ∃ i j, i < j ∧ j ≤ n ∧ app (pw n t i) p = app (pw n t j) p := by
    refine Classical.byContradiction fun hno => ?_
    have nd : ((List.range (n + 1)).map fun i => app (pw n t i) p).Nodup := by
      refine List.pairwise_iff_getElem.mpr fun i j hi hj hij e => hno ⟨i, j, hij, ?_, ?_⟩
      · simp at hj; omega
      · simpa using e
    have := pigeon n _ (fun x hx => by
      obtain ⟨i, _, rfl⟩ := List.mem_map.mp hx
      exact (h.pw i).app_lt hp) nd
    simp at this
    omega
  obtain ⟨i, j, hij, hj, e⟩ := key
  refine ⟨j - i, by omega, by omega, ?_⟩
  have e2 : pw n t j = times (pw n t (j - i)) (pw n t i) := by
    rw [← pw_add h]; congr 1; omega
  rw [e2, app_times (by rw [(h.pw _).len]; exact hp)] at e
  exact ((h.pw i).inj hp ((h.pw _).app_lt hp) e).symm
theorem app_pw_mul {n t p d} (h : IsT n t) (hp : p < n) (e : app (pw n t d) p = p) : ∀ m, app (pw n t (d * m)) p = p
  | 0 => app_still hp
  | m + 1 => by
    rw [Nat.mul_succ, pw_add h, app_times (by rw [(h.pw _).len]; exact hp), app_pw_mul h hp e m, e]
theorem pw60 {n t} (h : IsT n t) (hn : n ≤ 6) : pw n t 60 = still n := by
  refine ext_app (n := n) (h.pw 60).len (len_still n) fun p hp => ?_
  obtain ⟨d, h1, h2, e⟩ := comes_back h hp
  have : ∃ m, 60 = d * m := by
    have : d = 1 ∨ d = 2 ∨ d = 3 ∨ d = 4 ∨ d = 5 ∨ d = 6 := by omega
    rcases this with rfl | rfl | rfl | rfl | rfl | rfl
    · exact ⟨60, rfl⟩
    · exact ⟨30, rfl⟩
    · exact ⟨20, rfl⟩
    · exact ⟨15, rfl⟩
    · exact ⟨12, rfl⟩
    · exact ⟨10, rfl⟩
  obtain ⟨m, hm⟩ := this
  rw [hm, app_pw_mul h hp e m, app_still hp]
/-- the least number from 1 on -/
def ord (n : Nat) (t : T) : Nat := (((List.range 60).find? fun k => decide (pw n t (k + 1) = still n)).getD 0) + 1
theorem ord_spec {n t} (h : IsT n t) (hn : n ≤ 6) : pw n t (ord n t) = still n ∧ 1 ≤ ord n t ∧ ord n t ≤ 60 ∧ ∀ k, 1 ≤ k → k < ord n t → pw n t k ≠ still n := by
  unfold ord
  cases hf : (List.range 60).find? fun k => decide (pw n t (k + 1) = still n) with
  | none =>
    have := List.find?_eq_none.mp hf 59 (by simp)
    exact absurd (decide_eq_true (pw60 h hn)) this
  | some k =>
    have h1 := List.find?_some hf
    have h2 := List.mem_range.mp (List.mem_of_find?_eq_some hf)
    refine ⟨of_decide_eq_true h1, by simp, by simp; omega, fun j hj hjk e => ?_⟩
    simp at hjk
    have h3 := (List.find?_range_eq_some.mp hf).2.2 (j - 1) (by omega)
    have h4 : j - 1 + 1 = j := by omega
    rw [h4] at h3
    simp [e] at h3
theorem pw_mod {n t} (h : IsT n t) (hn : n ≤ 6) (m : Nat) : pw n t (m % ord n t) = pw n t m := by
  have hs := (ord_spec h hn).1
  have key : ∀ q, pw n t (ord n t * q) = still n := by
    intro q
    induction q with
    | zero => rfl
    | succ q ih => rw [Nat.mul_succ, pw_add h, ih, hs, times_still (IsT.still n)]
  have e : m = ord n t * (m / ord n t) + m % ord n t := (Nat.div_add_mod m (ord n t)).symm
  have := pw_add h (ord n t * (m / ord n t)) (m % ord n t)
  rw [← e, key, still_times (h.pw _)] at this
  exact this.symm
theorem pw_back {n t} (h : IsT n t) : ∀ k, pw n (back t) k = back (pw n t k)
  | 0 => (back_still n).symm
  | k + 1 => by
    show times (pw n (back t) k) (back t) = back (pw n t (k + 1))
    have e : pw n t (k + 1) = times t (pw n t k) := by
      have := pw_add h 1 k
      rw [Nat.add_comm 1 k] at this
      rw [this]
      show times (times (still n) t) _ = _
      rw [still_times h]
    rw [e, back_mul h (h.pw k), pw_back h k]
/-- the turn done so often, backward below nought -/
def often (n : Nat) (t : T) (m : Int) : T := if m > 0 then pw n t m.natAbs else pw n (back t) m.natAbs
theorem power_often {n t} (h : IsT n t) (hn : n ≤ 6) (m : Int) : pw n t (m.fmod (ord n t)).toNat = often n t m := by
  obtain ⟨hs, h1, h2, _⟩ := ord_spec h hn
  have ho : (0 : Int) < ord n t := by omega
  have h3 : m.fmod (ord n t) = m % (ord n t : Int) := Int.fmod_eq_emod_of_nonneg m (by omega)
  rw [h3]
  unfold often
  split
  · rename_i hm
    have e : (m % (ord n t : Int)).toNat = m.natAbs % ord n t := by
      have : m = (m.natAbs : Int) := by omega
      rw [this, ← Int.natCast_emod, Int.toNat_natCast]; simp
    rw [e, pw_mod h hn]
  · rename_i hm
    rw [pw_back h]
    refine right_cancel (h.pw _) (h.pw _).back (h.pw m.natAbs) ?_
    rw [back_times (h.pw _), ← pw_add h, ← pw_mod h hn]
    have e : ((m % (ord n t : Int)).toNat + m.natAbs) % ord n t = 0 := by
      have h4 := Int.emod_nonneg m (show (ord n t : Int) ≠ 0 by omega)
      have h5 : ((((m % (ord n t : Int)).toNat + m.natAbs) % ord n t : Nat) : Int) = 0 := by
        rw [Int.natCast_emod, Int.natCast_add, Int.toNat_of_nonneg h4]
        have : (m.natAbs : Int) = -m := by omega
        rw [this, Int.emod_add_emod, Int.add_right_neg]
        rfl
      omega
    rw [e]; rfl
end Mt

set_option Elab.async false
set_option linter.all false
set_option maxRecDepth 100000
set_option maxHeartbeats 4000000
/-! Ab0: known tuples (the object itself is tracked, so that it is known to have no dict of its own) and what makes them. -/
namespace Ab
open PySem PySem.Spec L2
open PyProof.Rows hiding St

/-- a tuple whose object is known, and has no dict -/
def TK (H : Hp) (a : Addr) (xs : List V) : Prop := ∃ o : Obj, o.dict = Option.none ∧ H a = some (.frz o (.tup xs))
/-- the heap behind the making of such a tuple at p -/
def NewT (H : Hp) (p : Addr) (xs : List V) (H' : Hp) : Prop := ∃ o : Obj, o.dict = Option.none ∧ H' = upd H p (.frz o (.tup xs))
theorem NewT.tk {H H' : Hp} {p : Addr} {xs : List V} (n : NewT H p xs H') : TK H' p xs := by
  obtain ⟨o, h1, h2⟩ := n
  exact ⟨o, h1, by rw [h2, upd_same]⟩
theorem NewT.same {H H' : Hp} {p : Addr} {xs : List V} (n : NewT H p xs H') (h : H p = Option.none) : Same H H' := by
  obtain ⟨o, h1, h2⟩ := n
  subst h2
  intro b u e
  rw [upd_ne (ne_of_none e h)]
  exact e
theorem TK.sq {K : PySem.W.Frag} {H : Hp} {a : Addr} {xs : List V} (h : TK H a xs) : SqT K H a xs := by
  obtain ⟨o, _, e⟩ := h
  exact .inl (.inr ⟨o, e⟩)
theorem TK.same {H H' : Hp} {a : Addr} {xs : List V} (h : TK H a xs) (s : Same H H') : TK H' a xs := by
  obtain ⟨o, h1, e⟩ := h
  exact ⟨o, h1, s _ _ e⟩
section
variable {X : Cx} {pins : List (Addr × Obj)} {σ : St} {H : Hp} {s : Shared}
/-- a tuple is laid as the newest object -/
theorem inv_tupK {xs : List V} {its : List Value} {tk : Nat} (iv : Inv X pins σ H s) (hz : xs.length ≤ sizeLine) (rv : Vals xs its) :
    ∃ H', NewT H s.heap.objs.size xs H' ∧ Inv X pins σ H' { s with heap := s.heap.push { cls := .type "tuple", data := .seq its.toArray }, toks := tk } := by
  refine ⟨_, ⟨{ cls := .type "tuple", data := .seq its.toArray }, rfl, rfl⟩, ?_⟩
  refine iv.laid (t' := tk) (fun c u ec => Heap.get?_push_of_some _ ec) (Nat.le_refl _) ?_
  exact ⟨Heap.get?_push_size _ rfl, hz, its, rv, IsTup.new _ _⟩
theorem inv_fresh (iv : Inv X pins σ H s) : H s.heap.objs.size = Option.none := iv.hok.fresh (Nat.le_refl _)

/-! ### (a, b, ..) -/
def tTupK (t : TA) : TE := fun σ H Q => t σ H fun xs H1 => xs.length ≤ sizeLine ∧ ∀ p H2, H1 p = Option.none → NewT H1 p xs H2 → Q (.ref p) H2
theorem pe_tupK {es : List Expr} {t : TA} {pos : Pos} {x1} (h : PA X es t) : PE X (.Tuple es x1 pos) (tTupK t) := by
  refine ⟨fun pn st sg Hh Qq iv hq => ?_⟩
  refine wpAny_Tuple_spliced (thn (h.run pos pn st sg Hh _ iv hq) fun us s1 ⟨xs, H1, i1, r, z, q⟩ => ⟨by rw [← r.length]; exact z, ?_⟩)
  obtain ⟨H2, n2, i2⟩ := inv_tupK (tk := s1.toks) i1 z r
  exact ⟨.ref s1.heap.objs.size, H2, i2, rfl, q _ _ (inv_fresh i1) n2⟩

/-! ### tuple(x) -/
def kTupK (K : PySem.W.Frag) (x : V) (H : Hp) (Q : VK) : Prop :=
  (∃ p xs, x = .ref p ∧ SqL K H p xs ∧ ∀ q H2, H q = Option.none → NewT H q xs H2 → Q (.ref q) H2) ∨ (∃ p xs, x = .ref p ∧ SqT K H p xs ∧ Q (.ref p) H)
theorem rl_tupleK (pn : List (Addr × Obj)) (st : Shared) (sg : St) (Hh : Hp) (x : V) (v : Value) (Qq : VK) (iv : Inv X pn sg Hh st) (r : RelV x v) (h : kTupK X.K x Hh Qq) :
    wpAny (model X.prog X.w) X.A (call (.type "tuple") [v]) (EP X pn sg Qq) X.xe st := by
  rcases h with ⟨p, xs, rfl, hs, q⟩ | ⟨p, xs, rfl, hs, q⟩
  · obtain rfl : v = .ref p := r
    obtain ⟨its, rv, pl, hz⟩ := iv.list hs
    refine call_tuple_list pl.isList (fun h' hk => ?_) (by rw [List.size_toArray, ← rv.length]; exact hz)
    have i1 : Inv X pn sg Hh { st with heap := h' } := iv.kept (t' := st.toks) hk
    obtain ⟨H2, n2, i2⟩ := inv_tupK (tk := st.toks) i1 hz rv
    exact ⟨.ref h'.objs.size, H2, i2, rfl, q _ _ (inv_fresh i1) n2⟩
  · obtain rfl : v = .ref p := r
    obtain ⟨its, rv, pl, hz⟩ := iv.tuple hs
    exact call_tuple_tup pl ⟨.ref p, Hh, iv, rfl, q⟩
theorem pe_tupleK {a : Expr} {ta : TE} {p pos : Pos} (hg : Gl X "tuple") (hm : X.mg "tuple" = none) (ha : PE X a ta) (na : starEach [a] X.env = (false, eval a X.env) :: starEach [] X.env := by rfl) :
    PE X (.Call (.Name "tuple" p) [a] [] pos) (tThen ta (kTupK X.K)) := by
  refine ⟨fun pn st sg Hh Qq iv h => ?_⟩
  refine Call_ (ld_blt iv hg hm boot_tuple (PyProof.Rows.callWith_type1 (one_arg ha iv h (fun v s2 x H2 i2 r q => ?_) na) na))
  exact rl_tupleK pn s2 sg H2 x v Qq i2 r q

/-! ### tuple(range(..)) -/
def tTupRgK (te : St → Hp → (Int → Int → Hp → Prop) → Prop) : TE := fun σ H Q => te σ H fun a b H1 => RgOk a b ∧ ∀ q H2, H1 q = Option.none → NewT H1 q (rgV a b) H2 → Q (.ref q) H2
theorem pe_tupRgK {e : Expr} {te : St → Hp → (Int → Int → Hp → Prop) → Prop} {p pos : Pos} (hc : X.calm = true) (hg : Gl X "tuple") (hm : X.mg "tuple" = none) (he : PRg X e te)
    (na : starEach [e] X.env = (false, eval e X.env) :: starEach [] X.env := by rfl) : PE X (.Call (.Name "tuple" p) [e] [] pos) (tTupRgK te) := by
  refine ⟨fun pn st sg Hh Qq iv h => ?_⟩
  refine Call_ (ld_blt iv hg hm boot_tuple (PyProof.Rows.callWith_type1 (args_cons (thn (he pn st sg Hh _ iv h) fun x s1 hh => args_nil ?_) na) na))
  obtain ⟨r, a, b, t, u, v, H1, ex, hr, i1, ok, q⟩ := hh
  subst ex
  obtain ⟨b1, b2, b3, b4, b5⟩ := ok
  refine call_tuple_range (n := (b - a).toNat) (i1.ok.hd hc) hr (small_one b1 b2 b3 b4) (rangeSize_nat a b) b5 fun h' tk acc hk hi => ?_
  have i2 : Inv X pn sg H1 { s1 with heap := h', toks := tk } := i1.kept hk
  obtain ⟨H3, n3, i3⟩ := inv_tupK (xs := rgV a b) (its := acc.toList) (tk := tk) i2 (by rw [rgV_length, sizeLine_eq]; omega) (vals_rg hi)
  refine ⟨.ref h'.objs.size, H3, ?_, rfl, q _ _ (inv_fresh i2) n3⟩
  rw [Array.toArray_toList] at i3
  exact i3

/-! ### t + u -/
def rCatK (K : PySem.W.Frag) : R2 := fun x y H Q => ∃ a b xs ys, x = .ref a ∧ y = .ref b ∧ SqT K H a xs ∧ SqT K H b ys ∧ xs.length + ys.length ≤ sizeLine ∧
  (xs = [] → Q (.ref b) H) ∧ (xs ≠ [] → ys = [] → Q (.ref a) H) ∧ (xs ≠ [] → ys ≠ [] → ∀ p H2, H p = Option.none → NewT H p (xs ++ ys) H2 → Q (.ref p) H2)
theorem op_catK : OpR X (binaryOp .Add) (rCatK X.K) := by
  intro pn st sg Hh x y v u Qq iv rx ry h
  obtain ⟨a, b, xs, ys, rfl, rfl, ha, hb, hz, q0, q1, q2⟩ := h
  cases rx
  cases ry
  obtain ⟨its, r1, p1, _⟩ := iv.tuple ha
  obtain ⟨its2, r2, p2, _⟩ := iv.tuple hb
  have l1 := r1.length
  have l2 := r2.length
  by_cases hx : xs = []
  · subst hx
    cases r1
    exact cat_tup0 p1 p2 ⟨.ref b, Hh, iv, rfl, q0 rfl⟩
  · have hv : its ≠ [] := fun z => hx (List.length_eq_zero_iff.mp (by rw [l1, z]; rfl))
    refine HT.cat_tup p1 p2 hv (fun z => ?_) (fun z => ?_) (by omega)
    · have hy : ys = [] := List.length_eq_zero_iff.mp (by rw [l2, z]; rfl)
      exact ⟨.ref a, Hh, iv, rfl, q1 hx hy⟩
    · have hy : ys ≠ [] := fun e => z (List.length_eq_zero_iff.mp (by rw [← l2, e]; rfl))
      obtain ⟨H2, n2, i2⟩ := inv_tupK (xs := xs ++ ys) (its := its ++ its2) (tk := st.toks) iv (by rw [List.length_append]; exact hz) (r1.append r2)
      exact ⟨.ref st.heap.objs.size, H2, i2, rfl, q2 hx hy _ _ (inv_fresh iv) n2⟩

/-! ### t[lo:hi] -/
def rSlK (K : PySem.W.Frag) : V → Option Int → Option Int → Hp → VK → Prop := fun x lo hi H Q => ∃ a xs, x = .ref a ∧ SqT K H a xs ∧
  (HT.sIx xs.length 0 lo = 0 ∧ HT.sIx xs.length xs.length hi = xs.length → Q (.ref a) H) ∧
  (¬ (HT.sIx xs.length 0 lo = 0 ∧ HT.sIx xs.length xs.length hi = xs.length) → ∀ p H2, H p = Option.none → NewT H p (cutV xs lo hi) H2 → Q (.ref p) H2)
theorem sl_tupK : SlR X (rSlK X.K) := by
  intro pn st sg Hh x v vl vu lo hi sl Qq iv rx hs pl pu h
  obtain ⟨a, xs, rfl, hx, q1, q2⟩ := h
  cases rx
  obtain ⟨its, rv, pt, hz⟩ := iv.tuple hx
  have hl := rv.length
  refine ⟨"tuple", "tuple.__getitem__", PyProof.Rows.slot_tuple_getitem.lookup, pt.typeIs, ?_⟩
  by_cases hw : HT.sIx xs.length 0 lo = 0 ∧ HT.sIx xs.length xs.length hi = xs.length
  · refine getItem_tuple_whole pt hs pl pu (by rw [List.size_toArray, ← hl]; exact hw) ?_
    exact ⟨.ref a, Hh, iv, rfl, q1 hw⟩
  · refine HT.getItem_tuple_cut pt hs pl pu (by rw [List.size_toArray, ← hl]; exact hw) ?_ (by rw [List.size_toArray, ← hl]; exact hz)
    have rv2 : Vals (cutV xs lo hi) ((its.drop (HT.sIx its.length 0 lo)).take (HT.sIx its.length its.length hi - HT.sIx its.length 0 lo)) := by
      unfold cutV
      rw [hl]
      exact (rv.drop _).take _
    obtain ⟨H2, n2, i2⟩ := inv_tupK (tk := st.toks) iv (Nat.le_trans (cutV_length xs lo hi) hz) rv2
    exact ⟨.ref st.heap.objs.size, H2, i2, rfl, q2 hw _ _ (inv_fresh iv) n2⟩
end
end Ab

set_option Elab.async false
set_option linter.all false
set_option maxRecDepth 100000
set_option maxHeartbeats 4000000
/-! Ab1: values as data; abstract states; what a reading gives. -/
namespace Ab
open PySem PySem.Spec L2
open PyProof.Rows hiding St

abbrev D := PyData
/-! ### data -/
mutual
inductive Tp (K : PySem.W.Frag) (H : Hp) : V → D → Prop
  | non : Tp K H .non .none
  | bl (b : Bool) : Tp K H (.bl b) (.bool b)
  | int (i : Int) : Tp K H (.int i) (.int i)
  | str (x : Str) : Tp K H (.str x) (.str x)
  | lst {a : Addr} {xs : List V} {ds : List D} : SqL K H a xs → TpAll K H xs ds → Tp K H (.ref a) (.list ds)
  | tup {a : Addr} {xs : List V} {ds : List D} : TK H a xs → TpAll K H xs ds → Tp K H (.ref a) (.tuple ds)
inductive TpAll (K : PySem.W.Frag) (H : Hp) : List V → List D → Prop
  | nil : TpAll K H [] []
  | cons {v : V} {vs : List V} {d : D} {ds : List D} : Tp K H v d → TpAll K H vs ds → TpAll K H (v :: vs) (d :: ds)
end
mutual
def noL : D → Bool
  | .none => true
  | .bool _ => true
  | .int _ => true
  | .str _ => true
  | .list _ => false
  | .tuple ds => noLs ds
  | .dict _ => false
def noLs : List D → Bool
  | [] => true
  | d :: ds => noL d && noLs ds
end
theorem noLs_all : ∀ {ds : List D}, (∀ d ∈ ds, noL d = true) → noLs ds = true
  | [], _ => rfl
  | d :: ds, h => by
    show (noL d && noLs ds) = true
    rw [h d List.mem_cons_self, noLs_all fun e he => h e (List.mem_cons_of_mem _ he)]
    rfl
theorem noLs_mem : ∀ {ds : List D}, noLs ds = true → ∀ d ∈ ds, noL d = true
  | d :: ds, h, e, he => by
    have h2 : noL d = true ∧ noLs ds = true := by
      have : (noL d && noLs ds) = true := h
      rwa [Bool.and_eq_true] at this
    rcases List.mem_cons.mp he with rfl | he
    · exact h2.1
    · exact noLs_mem h2.2 e he
theorem noLs_append {a b : List D} (ha : noLs a = true) (hb : noLs b = true) : noLs (a ++ b) = true :=
  noLs_all fun d hd => (List.mem_append.mp hd).elim (noLs_mem ha d) (noLs_mem hb d)
theorem noLs_one {d : D} (h : noL d = true) : noLs [d] = true := noLs_all fun e he => by
  rw [List.mem_singleton.mp he]; exact h
theorem noLs_sub {a b : List D} (h : ∀ d ∈ a, d ∈ b) (hb : noLs b = true) : noLs a = true := noLs_all fun d hd => noLs_mem hb d (h d hd)
theorem noLs_map {α : Type} (f : α → D) (h : ∀ a, noL (f a) = true) (l : List α) : noLs (l.map f) = true := noLs_all fun d hd => by
  obtain ⟨a, _, rfl⟩ := List.mem_map.mp hd
  exact h a

section
variable {K : PySem.W.Frag} {H H' : Hp}
/-- lists that are kept -/
theorem sq_same {a : Addr} {xs : List V} (s : Same H H') (h : SqL K H a xs) : SqL K H' a xs := s.seq h
mutual
theorem Tp.same (s : Same H H') : ∀ {d : D} {v : V}, Tp K H v d → Tp K H' v d
  | .none, _, h => by cases h; exact .non
  | .bool b, _, h => by cases h; exact .bl b
  | .int i, _, h => by cases h; exact .int i
  | .str x, _, h => by cases h; exact .str x
  | .list ds, _, h => by
    cases h with
    | lst h1 h2 => exact .lst (sq_same s h1) (TpAll.same s h2)
  | .tuple ds, _, h => by
    cases h with
    | tup h1 h2 => exact .tup (h1.same s) (TpAll.same s h2)
  | .dict _, _, h => by cases h
theorem TpAll.same (s : Same H H') : ∀ {ds : List D} {vs : List V}, TpAll K H vs ds → TpAll K H' vs ds
  | [], _, h => by cases h; exact .nil
  | d :: ds, _, h => by
    cases h with
    | cons h1 h2 => exact .cons (Tp.same s h1) (TpAll.same s h2)
end
/-- known tuples are kept -/
def Kt (H H' : Hp) : Prop := ∀ a xs, TK H a xs → TK H' a xs
mutual
theorem Tp.kt (s : Kt H H') : ∀ {d : D} {v : V}, noL d = true → Tp K H v d → Tp K H' v d
  | .none, _, _, h => by cases h; exact .non
  | .bool b, _, _, h => by cases h; exact .bl b
  | .int i, _, _, h => by cases h; exact .int i
  | .str x, _, _, h => by cases h; exact .str x
  | .list ds, _, n, h => by cases n
  | .tuple ds, _, n, h => by
    cases h with
    | tup h1 h2 => exact .tup (s _ _ h1) (TpAll.kt s n h2)
  | .dict _, _, _, h => by cases h
theorem TpAll.kt (s : Kt H H') : ∀ {ds : List D} {vs : List V}, noLs ds = true → TpAll K H vs ds → TpAll K H' vs ds
  | [], _, _, h => by cases h; exact .nil
  | d :: ds, _, n, h => by
    cases h with
    | cons h1 h2 =>
      have n2 : noL d = true ∧ noLs ds = true := by
        have : (noL d && noLs ds) = true := n
        rwa [Bool.and_eq_true] at this
      exact .cons (Tp.kt s n2.1 h1) (TpAll.kt s n2.2 h2)
end
theorem kt_of_same (s : Same H H') : Kt H H' := fun _ _ h => h.same s
theorem kt_mut {p : Addr} {o : HO} (hp : ∀ ob u, H p ≠ some (.frz ob u)) : Kt H (upd H p o) := fun a xs h => by
  obtain ⟨ob, h1, h2⟩ := h
  refine ⟨ob, h1, ?_⟩
  rw [upd_ne (fun e => hp ob _ (e ▸ h2))]
  exact h2
mutual
theorem Tp.dp : ∀ {d : D} {v : V}, Tp K H v d → Dp K H v d
  | .none, _, h => by cases h; exact .non
  | .bool b, _, h => by cases h; exact .bl b
  | .int i, _, h => by cases h; exact .int i
  | .str x, _, h => by cases h; exact .str x
  | .list ds, _, h => by
    cases h with
    | lst h1 h2 => exact .lst h1 (TpAll.dp h2)
  | .tuple ds, _, h => by
    cases h with
    | tup h1 h2 => exact .tup h1.sq (TpAll.dp h2)
  | .dict _, _, h => by cases h
theorem TpAll.dp : ∀ {ds : List D} {vs : List V}, TpAll K H vs ds → DpAll K H vs ds
  | [], _, h => by cases h; exact .nil
  | d :: ds, _, h => by
    cases h with
    | cons h1 h2 => exact .cons (Tp.dp h1) (TpAll.dp h2)
end
theorem TpAll.len : ∀ {ds : List D} {vs : List V}, TpAll K H vs ds → vs.length = ds.length
  | [], _, h => by cases h; rfl
  | d :: ds, _, h => by
    cases h with
    | cons h1 h2 => rw [List.length_cons, List.length_cons, TpAll.len h2]
theorem TpAll.get : ∀ {ds : List D} {vs : List V} {i : Nat} {d : D}, TpAll K H vs ds → ds[i]? = some d → ∃ v, vs[i]? = some v ∧ Tp K H v d
  | [], _, i, d, h, e => by simp at e
  | d :: ds, _, 0, d', h, e => by
    cases h with
    | cons h1 h2 =>
      have e' : d = d' := Option.some.inj e
      subst e'
      exact ⟨_, rfl, h1⟩
  | d :: ds, _, i + 1, d', h, e => by
    cases h with
    | cons h1 h2 =>
      obtain ⟨v, q1, q2⟩ := TpAll.get (i := i) h2 (by simpa using e)
      exact ⟨v, by simpa using q1, q2⟩
theorem TpAll.getV : ∀ {ds : List D} {vs : List V} {i : Nat} {v : V}, TpAll K H vs ds → vs[i]? = some v → ∃ d, ds[i]? = some d ∧ Tp K H v d
  | [], _, i, v, h, e => by cases h; simp at e
  | d :: ds, _, 0, v, h, e => by
    cases h with
    | cons h1 h2 =>
      have e' := Option.some.inj e
      subst e'
      exact ⟨_, rfl, h1⟩
  | d :: ds, _, i + 1, v, h, e => by
    cases h with
    | cons h1 h2 =>
      obtain ⟨v, q1, q2⟩ := TpAll.getV (i := i) h2 (by simpa using e)
      exact ⟨v, by simpa using q1, q2⟩
theorem TpAll.append : ∀ {a b : List D} {vs ws : List V}, TpAll K H vs a → TpAll K H ws b → TpAll K H (vs ++ ws) (a ++ b)
  | [], _, _, _, h, q => by cases h; exact q
  | d :: ds, _, _, _, h, q => by
    cases h with
    | cons h1 h2 => exact .cons h1 (TpAll.append h2 q)
theorem TpAll.one {d : D} {v : V} (h : Tp K H v d) : TpAll K H [v] [d] := .cons h .nil
theorem TpAll.take : ∀ {a : List D} {vs : List V} (n : Nat), TpAll K H vs a → TpAll K H (vs.take n) (a.take n)
  | _, _, 0, h => .nil
  | [], _, n + 1, h => by cases h; exact .nil
  | d :: ds, _, n + 1, h => by
    cases h with
    | cons h1 h2 => exact .cons h1 (TpAll.take n h2)
theorem TpAll.drop : ∀ {a : List D} {vs : List V} (n : Nat), TpAll K H vs a → TpAll K H (vs.drop n) (a.drop n)
  | _, _, 0, h => h
  | [], _, n + 1, h => by cases h; exact .nil
  | d :: ds, _, n + 1, h => by
    cases h with
    | cons h1 h2 => exact TpAll.drop n h2
theorem TpAll.reverse : ∀ {a : List D} {vs : List V}, TpAll K H vs a → TpAll K H vs.reverse a.reverse
  | [], _, h => by cases h; exact .nil
  | d :: ds, _, h => by
    cases h with
    | cons h1 h2 =>
      rw [List.reverse_cons, List.reverse_cons]
      exact (TpAll.reverse h2).append (TpAll.one h1)
theorem TpAll.set : ∀ {a : List D} {vs : List V} (i : Nat) {v : V} {d : D}, TpAll K H vs a → Tp K H v d → TpAll K H (vs.set i v) (a.set i d)
  | [], _, _, _, _, h, _ => by cases h; exact .nil
  | d :: ds, _, 0, _, _, h, q => by
    cases h with
    | cons h1 h2 => exact .cons q h2
  | d :: ds, _, i + 1, _, _, h, q => by
    cases h with
    | cons h1 h2 => exact .cons h1 (TpAll.set i h2 q)
theorem tpAll_ints : ∀ (ns : List Int), TpAll K H (ns.map V.int) (ns.map PyData.int)
  | [] => .nil
  | n :: ns => .cons (.int n) (tpAll_ints ns)
theorem TpAll.ints : ∀ {ns : List Int} {vs : List V}, TpAll K H vs (ns.map PyData.int) → vs = ns.map V.int
  | [], _, h => by cases h; rfl
  | n :: ns, _, h => by
    cases h with
    | cons h1 h2 =>
      cases h1
      rw [TpAll.ints h2]; rfl
theorem TpAll.bools : ∀ {bs : List Bool} {vs : List V}, TpAll K H vs (bs.map PyData.bool) → vs = bs.map V.bl
  | [], _, h => by cases h; rfl
  | b :: bs, _, h => by
    cases h with
    | cons h1 h2 =>
      cases h1
      rw [TpAll.bools h2]; rfl
theorem TpAll.strs : ∀ {bs : List Str} {vs : List V}, TpAll K H vs (bs.map PyData.str) → vs = bs.map V.str
  | [], _, h => by cases h; rfl
  | b :: bs, _, h => by
    cases h with
    | cons h1 h2 =>
      cases h1
      rw [TpAll.strs h2]; rfl
end

/-! ### abstract states -/
/-- what a slot holds: nothing that is known, data, a list of its own -/
inductive SV where
  | no
  | dat (d : D)
  | lst (ds : List D)
  | dT (kvs : List (List Int × D))
  | dK (kvs : List (Int × D))
  | bT (kvs : List (List Int × D))
  | bK (p : Addr) (kvs : List (Int × D))
def SV.mut : SV → Bool
  | .lst _ => true
  | .dT _ => true
  | .dK _ => true
  | _ => false
/-- the world a def stands in -/
structure Wd where
  P : Program
  w : World
  K : PySem.W.Frag
/-- a dict whose keys are tuples of ints: its object, by what stands in it -/
def RawT (P : Program) (w : World) (h : Heap) (a : Addr) (L : List (List Int × Addr × Value)) : Prop :=
  L.length ≤ sizeLine ∧ (a == sysModules) = false ∧ ∃ o es ep, h.get? a = some o ∧ o.ExactDict ∧ o.data = .dict es ep ∧ es.toList = L.map (entryOfKey (tupleKind (intKind P w))) ∧ (L.map (·.1)).Nodup
def DTo (P : Program) (w : World) (a : Addr) (L : List (List Int × Addr × Value)) : HO := .ext fun h => RawT P w h a L
/-- keys and values of it -/
inductive KvT (K : PySem.W.Frag) (H : Hp) : List (List Int × Addr × Value) → List (List Int × D) → Prop
  | nil : KvT K H [] []
  | cons {k : List Int} {b : Addr} {u : Value} {v : V} {d : D} {L kvs} : TK H b (k.map V.int) → RelV v u → Tp K H v d → noL d = true → KvT K H L kvs → KvT K H ((k, b, u) :: L) ((k, d) :: kvs)
inductive KvK (K : PySem.W.Frag) (H : Hp) : List (Key × V) → List (Int × D) → Prop
  | nil : KvK K H [] []
  | cons {k : Int} {v : V} {d : D} {L kvs} : Tp K H v d → noL d = true → KvK K H L kvs → KvK K H ((Sum.inl k, v) :: L) ((k, d) :: kvs)
theorem KvT.kt {K : PySem.W.Frag} {H H' : Hp} (s : Kt H H') {L kvs} (h : KvT K H L kvs) : KvT K H' L kvs := by
  induction h with
  | nil => exact .nil
  | cons h1 h2 h3 h4 _ ih => exact .cons (s _ _ h1) h2 (h3.kt s h4) h4 ih
theorem KvK.kt {K : PySem.W.Frag} {H H' : Hp} (s : Kt H H') {L kvs} (h : KvK K H L kvs) : KvK K H' L kvs := by
  induction h with
  | nil => exact .nil
  | cons h1 h2 _ ih => exact .cons (h1.kt s h2) h2 ih

def MutAt (σ : St) (ss : List SV) (p : Addr) : Prop := ∃ (i : Nat) (s : SV), ss[i]? = some s ∧ s.mut = true ∧ σ[i]? = some (some (.ref p))
open Classical in
/-- the heap without the objects that the slots own -/
noncomputable def fz (σ : St) (ss : List SV) (H : Hp) : Hp := fun a => if MutAt σ ss a then Option.none else H a
section
variable {σ : St} {ss : List SV} {H H' : Hp} {a p : Addr}
theorem fz_mut (h : MutAt σ ss a) : fz σ ss H a = Option.none := if_pos h
theorem fz_not (h : ¬ MutAt σ ss a) : fz σ ss H a = H a := if_neg h
theorem fz_le : Same (fz σ ss H) H := fun b o e => by
  by_cases h : MutAt σ ss b
  · rw [fz_mut h] at e; cases e
  · rwa [fz_not h] at e
theorem fz_same (s : Same H H') : Same (fz σ ss H) (fz σ ss H') := fun b o e => by
  by_cases h : MutAt σ ss b
  · rw [fz_mut h] at e; cases e
  · rw [fz_not h] at e ⊢
    exact s _ _ e
theorem fz_of {σ' : St} {ss' : List SV} (s : Same H H') (h : ∀ b, MutAt σ' ss' b → MutAt σ ss b ∨ H b = Option.none) : Same (fz σ ss H) (fz σ' ss' H') := fun b o e => by
  by_cases q : MutAt σ ss b
  · rw [fz_mut q] at e; cases e
  · rw [fz_not q] at e
    have q' : ¬ MutAt σ' ss' b := fun z => by
      rcases h b z with z | z
      · exact q z
      · rw [z] at e; cases e
    rw [fz_not q']
    exact s _ _ e
end

/-- what an expression has given: a value of the data, or a new object of its own -/
def Val (G : Wd) (H H' : Hp) (v : V) : SV → Prop
  | .no => True
  | .dat d => Tp G.K H' v d
  | .lst ds => ∃ p xs, v = .ref p ∧ H p = Option.none ∧ H' p = some (.lst xs) ∧ TpAll G.K H' xs ds ∧ noLs ds = true
  | .dT kvs => ∃ p L, v = .ref p ∧ H p = Option.none ∧ H' p = some (DTo G.P G.w p L) ∧ KvT G.K H' L kvs
  | .dK kvs => ∃ p L, v = .ref p ∧ H p = Option.none ∧ H' p = some (.dK L) ∧ KvK G.K H' L kvs
  | .bT kvs => ∃ p L, v = .ref p ∧ H' p = some (DTo G.P G.w p L) ∧ KvT G.K H' L kvs
  | .bK p kvs => ∃ o L, v = .ref p ∧ H' p = some (.frz o (.dK L)) ∧ KvK G.K H' L kvs
def SlotOk (G : Wd) (F H : Hp) (x : Option (Option V)) : SV → Prop
  | .no => True
  | .dat d => ∃ v, x = some (some v) ∧ Tp G.K F v d
  | .lst ds => ∃ p xs, x = some (some (.ref p)) ∧ H p = some (.lst xs) ∧ TpAll G.K H xs ds ∧ noLs ds = true
  | .dT kvs => ∃ p L, x = some (some (.ref p)) ∧ H p = some (DTo G.P G.w p L) ∧ KvT G.K H L kvs
  | .dK kvs => ∃ p L, x = some (some (.ref p)) ∧ H p = some (.dK L) ∧ KvK G.K H L kvs
  | .bT kvs => ∃ p L, x = some (some (.ref p)) ∧ F p = some (DTo G.P G.w p L) ∧ KvT G.K F L kvs
  | .bK p kvs => ∃ o L, x = some (some (.ref p)) ∧ F p = some (.frz o (.dK L)) ∧ KvK G.K F L kvs
structure AS (G : Wd) (σ : St) (H : Hp) (ss : List SV) : Prop where
  len : σ.length = ss.length
  slot : ∀ (i : Nat) (s : SV), ss[i]? = some s → SlotOk G (fz σ ss H) H σ[i]? s
  sep : ∀ (i j : Nat) (p : Addr) (s t : SV), ss[i]? = some s → ss[j]? = some t → s.mut = true → t.mut = true → σ[i]? = some (some (.ref p)) → σ[j]? = some (some (.ref p)) → i = j
section
variable {G : Wd} {σ : St} {ss : List SV} {F F' H H' : Hp} {x : Option (Option V)} {s : SV}
theorem SlotOk.mono (f : Same F F') (h : Same H H') (q : SlotOk G F H x s) : SlotOk G F' H' x s := by
  cases s with
  | no => trivial
  | dat d => obtain ⟨v, e, t⟩ := q; exact ⟨v, e, t.same f⟩
  | lst ds => obtain ⟨p, xs, e, h1, t, n⟩ := q; exact ⟨p, xs, e, h _ _ h1, t.same h, n⟩
  | dT kvs => obtain ⟨p, L, e, h1, t⟩ := q; exact ⟨p, L, e, h _ _ h1, t.kt (kt_of_same h)⟩
  | dK kvs => obtain ⟨p, L, e, h1, t⟩ := q; exact ⟨p, L, e, h _ _ h1, t.kt (kt_of_same h)⟩
  | bT kvs => obtain ⟨p, L, e, h1, t⟩ := q; exact ⟨p, L, e, f _ _ h1, t.kt (kt_of_same f)⟩
  | bK p kvs => obtain ⟨o, L, e, h1, t⟩ := q; exact ⟨o, L, e, f _ _ h1, t.kt (kt_of_same f)⟩
theorem AS.same (A : AS G σ H ss) (h : Same H H') : AS G σ H' ss :=
  ⟨A.len, fun i s e => (A.slot i s e).mono (fz_same h) h, A.sep⟩
/-- what a slot owns stands in the heap, and is no tuple -/
theorem SlotOk.there (m : s.mut = true) (q : SlotOk G F H x s) : ∃ p o, x = some (some (.ref p)) ∧ H p = some o ∧ ∀ ob u, o ≠ .frz ob u := by
  cases s with
  | no => cases m
  | dat d => cases m
  | lst ds => obtain ⟨p, xs, e, h1, _⟩ := q; exact ⟨p, _, e, h1, fun _ _ z => nomatch z⟩
  | dT kvs => obtain ⟨p, L, e, h1, _⟩ := q; exact ⟨p, _, e, h1, fun _ _ z => nomatch z⟩
  | dK kvs => obtain ⟨p, L, e, h1, _⟩ := q; exact ⟨p, _, e, h1, fun _ _ z => nomatch z⟩
  | bT kvs => cases m
  | bK p kvs => cases m
theorem AS.mutThere (A : AS G σ H ss) {p : Addr} (m : MutAt σ ss p) : ∃ o, H p = some o ∧ ∀ ob u, o ≠ .frz ob u := by
  obtain ⟨i, s, e1, e2, e3⟩ := m
  obtain ⟨q, o, e4, e5, e6⟩ := (A.slot i s e1).there e2
  rw [e3] at e4
  cases e4
  exact ⟨o, e5, e6⟩
/-- a known tuple's address is no slot's own -/
theorem kt_fz (A : AS G σ H ss) : Kt H (fz σ ss H) := fun a xs h => by
  obtain ⟨ob, h1, h2⟩ := h
  refine ⟨ob, h1, ?_⟩
  rw [fz_not fun m => ?_]
  · exact h2
  · obtain ⟨o, e1, e2⟩ := A.mutThere m
    rw [h2] at e1
    exact e2 _ _ (Option.some.inj e1).symm
/-- less is known -/
inductive Wk : List SV → List SV → Prop
  | nil : Wk [] []
  | keep {s : SV} {a b : List SV} : Wk a b → Wk (s :: a) (s :: b)
  | drop {s : SV} {a b : List SV} : Wk a b → Wk (s :: a) (.no :: b)
theorem Wk.refl : ∀ a : List SV, Wk a a
  | [] => .nil
  | _ :: a => .keep (Wk.refl a)
theorem Wk.len {a b : List SV} (h : Wk a b) : a.length = b.length := by
  induction h with
  | nil => rfl
  | keep _ ih => rw [List.length_cons, List.length_cons, ih]
  | drop _ ih => rw [List.length_cons, List.length_cons, ih]
theorem Wk.get {a b : List SV} (h : Wk a b) : ∀ (i : Nat) (s : SV), b[i]? = some s → s = .no ∨ a[i]? = some s := by
  induction h with
  | nil => intro i s e; simp at e
  | keep _ ih =>
    intro i s e
    cases i with
    | zero => exact .inr e
    | succ i => exact ih i s (by simpa using e)
  | drop _ ih =>
    intro i s e
    cases i with
    | zero => exact .inl (Option.some.inj e).symm
    | succ i => exact ih i s (by simpa using e)
theorem Wk.trans {a b c : List SV} (h : Wk a b) (q : Wk b c) : Wk a c := by
  induction h generalizing c with
  | nil => exact q
  | keep _ ih =>
    cases q with
    | keep q => exact .keep (ih q)
    | drop q => exact .drop (ih q)
  | drop _ ih =>
    cases q with
    | keep q => exact .drop (ih q)
    | drop q => exact .drop (ih q)
theorem Wk.mut {a b : List SV} (h : Wk a b) {p : Addr} (m : MutAt σ b p) : MutAt σ a p := by
  obtain ⟨i, s, e1, e2, e3⟩ := m
  rcases h.get i s e1 with rfl | e
  · cases e2
  · exact ⟨i, s, e, e2, e3⟩
theorem AS.weak {ss' : List SV} (A : AS G σ H ss) (w : Wk ss ss') : AS G σ H ss' ∧ Same (fz σ ss H) (fz σ ss' H) := by
  have f : Same (fz σ ss H) (fz σ ss' H) := fz_of (Same.refl H) fun b m => .inl (w.mut m)
  refine ⟨⟨A.len.trans w.len, fun i s e => ?_, fun i j p s t e1 e2 m1 m2 e3 e4 => ?_⟩, f⟩
  · rcases w.get i s e with rfl | e'
    · trivial
    · exact (A.slot i s e').mono f (Same.refl H)
  · rcases w.get i s e1 with rfl | e1'
    · cases m1
    · rcases w.get j t e2 with rfl | e2'
      · cases m2
      · exact A.sep i j p s t e1' e2' m1 m2 e3 e4
theorem get_set {α : Type} {l : List α} {i j : Nat} {x y : α} (h : (l.set i x)[j]? = some y) : (i = j ∧ y = x ∧ i < l.length) ∨ (i ≠ j ∧ l[j]? = some y) := by
  by_cases e : i = j
  · subst e
    have hl : i < l.length := by
      have := (List.getElem?_eq_some_iff.mp h).1
      rwa [List.length_set] at this
    rw [List.getElem?_set_self hl] at h
    exact .inl ⟨rfl, (Option.some.inj h).symm, hl⟩
  · rw [List.getElem?_set_ne e] at h
    exact .inr ⟨e, h⟩
/-- a slot is stored: new data, or an object that is new -/
theorem AS.set {v : V} {i : Nat} (A : AS G σ H ss) (h : Same H H') (hs : SlotOk G (fz (σ.set i (some v)) (ss.set i s) H') H' (some (some v)) s)
    (hn : s.mut = true → ∀ p, v = .ref p → H p = Option.none) : AS G (σ.set i (some v)) H' (ss.set i s) ∧ Same (fz σ ss H) (fz (σ.set i (some v)) (ss.set i s) H') := by
  have low : ∀ {j : Nat} {t : SV} {p : Addr}, (ss.set i s)[j]? = some t → t.mut = true → (σ.set i (some v))[j]? = some (some (.ref p)) → (j = i ∧ H p = Option.none) ∨ (j ≠ i ∧ ss[j]? = some t ∧ σ[j]? = some (some (.ref p))) := fun {j t p} e1 e2 e3 => by
    rcases get_set e1 with ⟨e, e', hl⟩ | ⟨e, e'⟩
    · subst e
      subst e'
      rw [List.getElem?_set_self (by rw [A.len]; exact hl)] at e3
      cases e3
      exact .inl ⟨rfl, hn e2 p rfl⟩
    · rw [List.getElem?_set_ne e] at e3
      exact .inr ⟨Ne.symm e, e', e3⟩
  have f : Same (fz σ ss H) (fz (σ.set i (some v)) (ss.set i s) H') := fz_of h fun b m => by
    obtain ⟨j, t, e1, e2, e3⟩ := m
    rcases low e1 e2 e3 with ⟨_, q⟩ | ⟨_, q1, q2⟩
    · exact .inr q
    · exact .inl ⟨j, t, q1, e2, q2⟩
  refine ⟨⟨by rw [List.length_set, List.length_set, A.len], fun j t e => ?_, fun j k p t u e1 e2 m1 m2 e3 e4 => ?_⟩, f⟩
  · rcases get_set e with ⟨e1, e2, hl⟩ | ⟨e1, e2⟩
    · subst e1
      subst e2
      rw [List.getElem?_set_self (by rw [A.len]; exact hl)]
      exact hs
    · rw [List.getElem?_set_ne e1]
      exact (A.slot j t e2).mono f h
  · rcases low e1 m1 e3 with ⟨a1, a2⟩ | ⟨a1, a2, a3⟩ <;> rcases low e2 m2 e4 with ⟨b1, b2⟩ | ⟨b1, b2, b3⟩
    · rw [a1, b1]
    · obtain ⟨o, z, _⟩ := A.mutThere ⟨k, u, b2, m2, b3⟩
      rw [a2] at z; cases z
    · obtain ⟨o, z, _⟩ := A.mutThere ⟨j, t, a2, m1, a3⟩
      rw [b2] at z; cases z
    · exact A.sep j k p t u a2 b2 m1 m2 a3 b3
/-- what a slot owns is changed -/
theorem AS.mutate {i : Nat} {p : Addr} {o : HO} {s' : SV} (A : AS G σ H ss) (hi : ss[i]? = some s) (hm : s.mut = true) (hp : σ[i]? = some (some (.ref p))) (hm' : s'.mut = true)
    (hs : ∀ F, SlotOk G F (upd H p o) (some (some (.ref p))) s') : AS G σ (upd H p o) (ss.set i s') ∧ Same (fz σ ss H) (fz σ (ss.set i s') (upd H p o)) := by
  have mp : MutAt σ ss p := ⟨i, s, hi, hm, hp⟩
  have iff1 : ∀ b, MutAt σ (ss.set i s') b → MutAt σ ss b := fun b m => by
    obtain ⟨j, t, e1, e2, e3⟩ := m
    rcases get_set e1 with ⟨e, e', hl⟩ | ⟨e, e'⟩
    · subst e
      exact ⟨i, s, hi, hm, e3⟩
    · exact ⟨j, t, e', e2, e3⟩
  have f : Same (fz σ ss H) (fz σ (ss.set i s') (upd H p o)) := fun b u e => by
    by_cases q : MutAt σ ss b
    · rw [fz_mut q] at e; cases e
    · rw [fz_not q] at e
      rw [fz_not fun z => q (iff1 b z), upd_ne (show b ≠ p from fun z => q (by rw [z]; exact mp))]
      exact e
  have kt : Kt H (upd H p o) := by
    obtain ⟨o1, e1, e2⟩ := A.mutThere mp
    refine kt_mut fun ob u z => ?_
    rw [e1] at z
    exact e2 _ _ (Option.some.inj z)
  have ne : ∀ (j : Nat) (t : SV) (q : Addr), i ≠ j → ss[j]? = some t → t.mut = true → σ[j]? = some (some (.ref q)) → q ≠ p := fun j t q hij e1 e2 e3 z => by
    subst z
    exact hij (A.sep i j q s t hi e1 hm e2 hp e3)
  refine ⟨⟨by rw [List.length_set, A.len], fun j t e => ?_, fun j k q t u e1 e2 m1 m2 e3 e4 => ?_⟩, f⟩
  · rcases get_set e with ⟨e1, e2, hl⟩ | ⟨e1, e2⟩
    · subst e1
      subst e2
      rw [hp]
      exact hs _
    · have q := A.slot j t e2
      cases t with
      | no => trivial
      | dat d => obtain ⟨v, x1, x2⟩ := q; exact ⟨v, x1, x2.same f⟩
      | lst ds =>
        obtain ⟨r, xs, x1, x2, x3, x4⟩ := q
        exact ⟨r, xs, x1, by rw [upd_ne (ne j _ r e1 e2 rfl x1)]; exact x2, x3.kt kt x4, x4⟩
      | dT kvs =>
        obtain ⟨r, xs, x1, x2, x3⟩ := q
        exact ⟨r, xs, x1, by rw [upd_ne (ne j _ r e1 e2 rfl x1)]; exact x2, x3.kt kt⟩
      | dK kvs =>
        obtain ⟨r, xs, x1, x2, x3⟩ := q
        exact ⟨r, xs, x1, by rw [upd_ne (ne j _ r e1 e2 rfl x1)]; exact x2, x3.kt kt⟩
      | bT kvs => obtain ⟨p, L, e, h1, t⟩ := q; exact ⟨p, L, e, f _ _ h1, t.kt (kt_of_same f)⟩
      | bK p kvs => obtain ⟨o, L, e, h1, t⟩ := q; exact ⟨o, L, e, f _ _ h1, t.kt (kt_of_same f)⟩
  · have back : ∀ (j : Nat) (t : SV), (ss.set i s')[j]? = some t → t.mut = true → ∃ t', ss[j]? = some t' ∧ t'.mut = true := fun j t e m => by
      rcases get_set e with ⟨e1, e2, hl⟩ | ⟨e1, e2⟩
      · subst e1
        exact ⟨s, hi, hm⟩
      · exact ⟨t, e2, m⟩
    obtain ⟨t', a1, a2⟩ := back j t e1 m1
    obtain ⟨u', b1, b2⟩ := back k u e2 m2
    exact A.sep j k q t' u' a1 b1 a2 b2 e3 e4
end
end Ab

set_option Elab.async false
set_option linter.all false
set_option maxRecDepth 100000
set_option maxHeartbeats 4000000
/-! Ab2: what expressions need and give, on abstract states. -/
namespace Ab
open PySem PySem.Spec L2
open PyProof.Rows hiding St

abbrev WE := List SV → (SV → Prop) → Prop
def gd (X : Cx) : Wd := ⟨X.prog, X.w, X.K⟩
/-- as data -/
def dd (R : D → Prop) : SV → Prop
  | .dat d => R d
  | .lst ds => R (.list ds)
  | _ => False
def EvQ (G : Wd) (te : TE) (ss : List SV) (R : SV → Prop) : Prop := ∀ σ H, AS G σ H ss → ∀ Q : VK, (∀ r v H', R r → Same H H' → Val G H H' v r → Q v H') → te σ H Q
def Ev (G : Wd) (te : TE) (W : WE) : Prop := ∀ ss R, W ss R → EvQ G te ss R
structure JE (X : Cx) (e : Expr) (te : TE) (W : WE) : Prop where
  pe : PE X e te
  ev : Ev (gd X) te W

section
variable {G : Wd} {H0 H H1 H2 H' : Hp} {v : V} {r : SV}
theorem Val.base (s : Same H0 H1) (q : Val G H1 H2 v r) : Val G H0 H2 v r := by
  cases r with
  | no => trivial
  | dat d => exact q
  | lst ds => obtain ⟨p, xs, e, n, h⟩ := q; exact ⟨p, xs, e, s.free n, h⟩
  | dT kvs => obtain ⟨p, L, e, n, h⟩ := q; exact ⟨p, L, e, s.free n, h⟩
  | dK kvs => obtain ⟨p, L, e, n, h⟩ := q; exact ⟨p, L, e, s.free n, h⟩
  | bT kvs => exact q
  | bK p kvs => exact q
theorem Val.mono (s : Same H1 H2) (q : Val G H0 H1 v r) : Val G H0 H2 v r := by
  cases r with
  | no => trivial
  | dat d => exact Tp.same s q
  | lst ds => obtain ⟨p, xs, e, n, h, t, z⟩ := q; exact ⟨p, xs, e, n, s _ _ h, t.same s, z⟩
  | dT kvs => obtain ⟨p, L, e, n, h, t⟩ := q; exact ⟨p, L, e, n, s _ _ h, t.kt (kt_of_same s)⟩
  | dK kvs => obtain ⟨p, L, e, n, h, t⟩ := q; exact ⟨p, L, e, n, s _ _ h, t.kt (kt_of_same s)⟩
  | bT kvs => obtain ⟨p, L, e, h, t⟩ := q; exact ⟨p, L, e, s _ _ h, t.kt (kt_of_same s)⟩
  | bK p kvs => obtain ⟨o, L, e, h, t⟩ := q; exact ⟨o, L, e, s _ _ h, t.kt (kt_of_same s)⟩
theorem dd_tp {R : D → Prop} (h : dd R r) (q : Val G H H' v r) : ∃ d, R d ∧ Tp G.K H' v d := by
  cases r with
  | no => cases h
  | dat d => exact ⟨d, h, q⟩
  | lst ds => obtain ⟨p, xs, rfl, n, e, t, z⟩ := q; exact ⟨_, h, .lst (.inl (.inl e)) t⟩
  | dT kvs => cases h
  | dK kvs => cases h
  | bT kvs => cases h
  | bK p kvs => cases h
theorem dd_mono {R S : D → Prop} (h : dd R r) (f : ∀ d, R d → S d) : dd S r := by
  cases r with
  | no => cases h
  | dat d => exact f _ h
  | lst ds => exact f _ h
  | dT kvs => cases h
  | dK kvs => cases h
  | bT kvs => cases h
  | bK p kvs => cases h
theorem EvQ.use {te : TE} {ss : List SV} {R : D → Prop} (h : EvQ G te ss (dd R)) {σ : St} (A : AS G σ H ss) {Q : VK} (q : ∀ d v H', R d → Same H H' → Tp G.K H' v d → Q v H') : te σ H Q :=
  h σ H A Q fun r v H' hr s hv => by
    obtain ⟨d, h1, h2⟩ := dd_tp hr hv
    exact q d v H' h1 s h2
end

/-! ### names and constants -/
def wVar (i : Nat) : WE := fun ss R => match ss[i]? with
  | some (.dat d) => R (.dat d)
  | some (.lst ds) => R (.dat (.list ds))
  | _ => False
def wC (d : D) : WE := fun _ R => R (.dat d)
section
variable {X : Cx} {a b c e : Expr} {ta tb tc te : TE} {Wa Wb Wc : WE} {pos : Pos}
theorem fz_tp {G : Wd} {σ : St} {ss : List SV} {H : Hp} {v : V} {d : D} (h : Tp G.K (fz σ ss H) v d) : Tp G.K H v d := h.same fz_le
theorem je_var {i : Nat} (h : PE X e (tVar i)) : JE X e (tVar i) (wVar i) := by
  refine ⟨h, fun ss R w σ H A Q q => ?_⟩
  unfold wVar at w
  cases hs : ss[i]? with
  | none => rw [hs] at w; cases w
  | some s =>
    rw [hs] at w
    have hx := A.slot i s hs
    cases s with
    | no => cases w
    | dat d =>
      obtain ⟨v, e1, t⟩ := hx
      exact ⟨v, e1, q _ v H w (Same.refl H) (fz_tp t)⟩
    | lst ds =>
      obtain ⟨p, xs, e1, hp, t, z⟩ := hx
      exact ⟨_, e1, q _ _ H w (Same.refl H) (.lst (.inl (.inl hp)) t)⟩
    | _ => cases w
theorem je_C {v : V} {d : D} (h : PE X e (tC v)) (t : ∀ H, Tp X.K H v d) : JE X e (tC v) (wC d) :=
  ⟨h, fun ss R w σ H A Q q => q _ v H w (Same.refl H) (t H)⟩
theorem je_int {i : Int} {j : Nat} : JE X (.Constant (.int i) j pos) (tC (.int i)) (wC (.int i)) := je_C pe_int fun _ => .int i
theorem je_bl {i : Bool} {j : Nat} : JE X (.Constant (.bool i) j pos) (tC (.bl i)) (wC (.bool i)) := je_C pe_bl fun _ => .bl i
theorem je_str {i : Str} {j : Nat} : JE X (.Constant (.str i) j pos) (tC (.str i)) (wC (.str i)) := je_C pe_str fun _ => .str i
theorem je_non {j : Nat} : JE X (.Constant .none j pos) (tC .non) (wC .none) := je_C pe_non fun _ => .non

/-! ### operators by values -/
abbrev WO := SV → SV → (SV → Prop) → Prop
structure JO (X : Cx) (f : Value → Value → Sem Value) (r : R2) (op : WO) : Prop where
  pr : OpR X f r
  ev : ∀ s t R, op s t R → ∀ H0 H x y, Val (gd X) H0 H x s → Val (gd X) H0 H y t → ∀ Q : VK, (∀ c v H', R c → Same H H' → Val (gd X) H H' v c → Q v H') → r x y H Q
def dop (f : D → D → (SV → Prop) → Prop) : WO := fun s t R => dd (fun x => dd (fun y => f x y R) t) s
/-- from what a data operation says -/
theorem jo_dop {f : Value → Value → Sem Value} {r : R2} {op : D → D → (SV → Prop) → Prop} (pr : OpR X f r)
    (ev : ∀ d e R, op d e R → ∀ H x y, Tp X.K H x d → Tp X.K H y e → ∀ Q : VK, (∀ c v H', R c → Same H H' → Val (gd X) H H' v c → Q v H') → r x y H Q) : JO X f r (dop op) := by
  refine ⟨pr, fun s t R h H0 H x y hx hy Q q => ?_⟩
  obtain ⟨d, h1, h2⟩ := dd_tp h hx
  obtain ⟨e, h3, h4⟩ := dd_tp h1 hy
  exact ev d e R h3 H x y h2 h4 Q q
def oOr (o p : WO) : WO := fun s t R => o s t R ∨ p s t R
theorem JO.or {f : Value → Value → Sem Value} {r r' : R2} {o p : WO} (h : JO X f r o) (h' : JO X f r' p) : JO X f (fun x y H Q => r x y H Q ∨ r' x y H Q) (oOr o p) :=
  ⟨h.pr.or h'.pr, fun s t R w H0 H x y hx hy Q q => w.elim (fun w => .inl (h.ev s t R w H0 H x y hx hy Q q)) (fun w => .inr (h'.ev s t R w H0 H x y hx hy Q q))⟩
theorem JO.cut {f : Value → Value → Sem Value} {r : R2} {o p : WO} (h : JO X f r o) (i : ∀ s t R, p s t R → o s t R) : JO X f r p :=
  ⟨h.pr, fun s t R w => h.ev s t R (i s t R w)⟩
def wOp (f : WO) (Wa Wb : WE) : WE := fun ss R => Wa ss fun x => Wb ss fun y => f x y R
theorem ev_op {f : Value → Value → Sem Value} {r : R2} {op : WO} (o : JO X f r op) (ha : Ev (gd X) ta Wa) (hb : Ev (gd X) tb Wb) : Ev (gd X) (tOp r ta tb) (wOp op Wa Wb) := by
  intro ss R w σ H A Q q
  refine ha ss _ w σ H A _ fun x v H1 hx s1 vx => ?_
  refine hb ss _ hx σ H1 (A.same s1) _ fun y u H2 hy s2 vy => ?_
  exact o.ev x y R hy H H2 v u (vx.mono s2) (vy.base s1) Q fun c z H' hc s3 vz => q c z H' hc (s1.trans (s2.trans s3)) (vz.base (s1.trans s2))
theorem je_op {o : Operator} {r : R2} {op : WO} (h : JO X (binaryOp o) r op) (ha : JE X a ta Wa) (hb : JE X b tb Wb) : JE X (.BinOp a o b pos) (tOp r ta tb) (wOp op Wa Wb) :=
  ⟨pe_op h.pr ha.pe hb.pe, ev_op h ha.ev hb.ev⟩
theorem je_cmp {o : CmpOp} {r : R2} {op : WO} (h : JO X (compareOp o) r op) (ha : JE X a ta Wa) (hb : JE X b tb Wb) (hm : behindInMarks o b = false := by rfl) : JE X (.Compare a [o] [b] pos) (tOp r ta tb) (wOp op Wa Wb) :=
  ⟨pe_cmpR h.pr ha.pe hb.pe hm, ev_op h ha.ev hb.ev⟩
/-- a bool -/
def bb (R : Bool → Prop) : SV → Prop
  | .dat (.bool b) => R b
  | _ => False
theorem bb_tp {G : Wd} {H H' : Hp} {v : V} {r : SV} {R : Bool → Prop} (h : bb R r) (q : Val G H H' v r) : ∃ b, R b ∧ v = .bl b := by
  cases r with
  | dat d =>
    cases d with
    | bool b => cases q; exact ⟨b, h, rfl⟩
    | _ => cases h
  | _ => cases h
def wChain (f g : WO) (Wa Wb Wc : WE) : WE := fun ss R => Wa ss fun x => Wb ss fun y => f x y (bb fun k => if k = true then Wc ss fun z => g y z R else R (.dat (.bool false)))
theorem je_chain {o o' : CmpOp} {r r' : R2} {op op' : WO} (h : JO X (compareOp o) r op) (h' : JO X (compareOp o') r' op') (ha : JE X a ta Wa) (hb : JE X b tb Wb) (hc : JE X c tc Wc)
    (hm : lastMarks [o, o'] [b, c] = false := by with_unfolding_all rfl) : JE X (.Compare a [o, o'] [b, c] pos) (tChain r r' ta tb tc) (wChain op op' Wa Wb Wc) := by
  refine ⟨pe_chain h.pr h'.pr ha.pe hb.pe hc.pe hm, fun ss R w σ H A Q q => ?_⟩
  refine ha.ev ss _ w σ H A _ fun x v H1 hx s1 vx => ?_
  refine hb.ev ss _ hx σ H1 (A.same s1) _ fun y u H2 hy s2 vy => ?_
  refine h.ev x y _ hy H H2 v u (vx.mono s2) (vy.base s1) _ fun k z H3 hk s3 vk => ?_
  obtain ⟨k, hk, rfl⟩ := bb_tp hk vk
  refine ⟨k, rfl, ?_⟩
  have s13 := s1.trans (s2.trans s3)
  cases k with
  | false =>
    rw [if_neg (by decide)] at hk ⊢
    exact q _ _ H3 hk s13 (.bl false)
  | true =>
    rw [if_pos rfl] at hk ⊢
    refine hc.ev ss _ hk σ H3 (A.same s13) _ fun y2 u2 H4 hy2 s4 vy2 => ?_
    exact h'.ev y y2 R hy2 H H4 u u2 ((vy.base s1).mono (s3.trans s4)) (vy2.base s13) Q fun c z H' hc s5 vz => q c z H' hc (s13.trans (s4.trans s5)) (vz.base (s13.trans s4))

/-! ### one-place operators; and, or, not; a if t else b -/
def wNeg (Wa : WE) : WE := fun ss R => Wa ss fun x => match x with
  | .dat (.int i) => R (.dat (.int (-i)))
  | _ => False
theorem je_neg (ha : JE X a ta Wa) : JE X (.UnaryOp .USub a pos) (tUn (rU fun i => .int (-i)) ta) (wNeg Wa) := by
  refine ⟨pe_un un_neg ha.pe, fun ss R w σ H A Q q => ?_⟩
  refine ha.ev ss _ w σ H A _ fun x v H1 hx s1 vx => ?_
  cases x with
  | dat d =>
    cases d with
    | int i => cases vx; exact ⟨i, rfl, q _ _ H1 hx s1 (.int _)⟩
    | _ => cases hx
  | _ => cases hx
def wNot (Wa : WE) : WE := fun ss R => Wa ss (bb fun k => R (.dat (.bool (!k))))
theorem je_not (ha : JE X a ta Wa) : JE X (.UnaryOp .Not a pos) (tNotV ta) (wNot Wa) := by
  refine ⟨pe_not ha.pe, fun ss R w σ H A Q q => ?_⟩
  refine ha.ev ss _ w σ H A _ fun x v H1 hx s1 vx => ?_
  obtain ⟨k, hk, rfl⟩ := bb_tp hx vx
  exact ⟨k, rfl, q _ _ H1 hk s1 (.bl _)⟩
def wAnd (Wa Wb : WE) : WE := fun ss R => Wa ss (bb fun k => if k = true then Wb ss R else R (.dat (.bool false)))
def wOr (Wa Wb : WE) : WE := fun ss R => Wa ss (bb fun k => if k = true then R (.dat (.bool true)) else Wb ss R)
theorem je_one {o : BoolOp} (ha : JE X a ta Wa) : JE X (.BoolOp o [a] pos) ta Wa := ⟨pe_one ha.pe, ha.ev⟩
theorem je_and {rest : List Expr} (ha : JE X a ta Wa) (hb : JE X (.BoolOp .And (b :: rest) pos) tb Wb) : JE X (.BoolOp .And (a :: b :: rest) pos) (tAndV ta tb) (wAnd Wa Wb) := by
  refine ⟨pe_and ha.pe hb.pe, fun ss R w σ H A Q q => ?_⟩
  refine ha.ev ss _ w σ H A _ fun x v H1 hx s1 vx => ?_
  obtain ⟨k, hk, rfl⟩ := bb_tp hx vx
  refine ⟨k, rfl, ?_⟩
  cases k with
  | false =>
    rw [if_neg (by decide)] at hk ⊢
    exact q _ _ H1 hk s1 (.bl _)
  | true =>
    rw [if_pos rfl] at hk ⊢
    exact hb.ev ss _ hk σ H1 (A.same s1) Q fun c z H' hc s5 vz => q c z H' hc (s1.trans s5) (vz.base s1)
theorem je_or {rest : List Expr} (ha : JE X a ta Wa) (hb : JE X (.BoolOp .Or (b :: rest) pos) tb Wb) : JE X (.BoolOp .Or (a :: b :: rest) pos) (tOrV ta tb) (wOr Wa Wb) := by
  refine ⟨pe_or ha.pe hb.pe, fun ss R w σ H A Q q => ?_⟩
  refine ha.ev ss _ w σ H A _ fun x v H1 hx s1 vx => ?_
  obtain ⟨k, hk, rfl⟩ := bb_tp hx vx
  refine ⟨k, rfl, ?_⟩
  cases k with
  | true =>
    rw [if_pos rfl] at hk ⊢
    exact q _ _ H1 hk s1 (.bl _)
  | false =>
    rw [if_neg (by decide)] at hk ⊢
    exact hb.ev ss _ hk σ H1 (A.same s1) Q fun c z H' hc s5 vz => q c z H' hc (s1.trans s5) (vz.base s1)

/-! ### tests -/
structure JT (X : Cx) (e : Expr) (tt : TT) (W : WE) : Prop where
  pt : PT X e tt
  ev : ∀ ss R, W ss (bb R) → ∀ σ H, AS (gd X) σ H ss → ∀ Q : Bool → Hp → Prop, (∀ b H', R b → Same H H' → Q b H') → tt σ H Q
end
section
variable {X : Cx} {a b c e : Expr} {ta tb tc te : TE} {tA tB' : TT} {Wa Wb Wc : WE} {pos : Pos}
theorem ev_tB (ha : Ev (gd X) ta Wa) : ∀ ss R, Wa ss (bb R) → ∀ σ H, AS (gd X) σ H ss → ∀ Q : Bool → Hp → Prop, (∀ b H', R b → Same H H' → Q b H') → tB ta σ H Q := by
  intro ss R w σ H A Q q
  refine ha ss _ w σ H A _ fun x v H1 hx s1 vx => ?_
  obtain ⟨k, hk, rfl⟩ := bb_tp hx vx
  exact ⟨k, rfl, q k H1 hk s1⟩
/-- a test that is a name, a call, a constant or a subscript -/
theorem jt_val (ha : JE X a ta Wa) (h : PE X a ta → PT X a (tB ta)) : JT X a (tB ta) Wa := ⟨h ha.pe, ev_tB ha.ev⟩
theorem jt_cmp {o : CmpOp} {r : R2} {op : WO} (h : JO X (compareOp o) r op) (ha : JE X a ta Wa) (hb : JE X b tb Wb) (hm : behindInMarks o b = false := by rfl) : JT X (.Compare a [o] [b] pos) (tTest (tOp r ta tb)) (wOp op Wa Wb) :=
  ⟨pt_cmpR h.pr ha.pe hb.pe hm, ev_tB (ev_op h ha.ev hb.ev)⟩
theorem jt_not (ha : JT X a tA Wa) : JT X (.UnaryOp .Not a pos) (tNot tA) (wNot Wa) :=
  ⟨pt_not ha.pt, fun ss R w σ H A Q q => ha.ev ss (fun k => R (!k)) w σ H A _ fun b H' hb s => q _ H' hb s⟩
structure JW (X : Cx) (e : Expr) (tt : TT) (W : WE) : Prop where
  pw : PW X e tt
  ev : ∀ ss R, W ss (bb R) → ∀ σ H, AS (gd X) σ H ss → ∀ Q : Bool → Hp → Prop, (∀ b H', R b → Same H H' → Q b H') → tt σ H Q
theorem JW.jt (h : JW X e tA Wa) : JT X e tA Wa := ⟨h.pw.pt, h.ev⟩
theorem jw_and1 (ha : JT X a tA Wa) : JW X (.BoolOp .And [a] pos) tA Wa := ⟨pw_and1 ha.pt, ha.ev⟩
theorem jw_or1 (ha : JT X a tA Wa) : JW X (.BoolOp .Or [a] pos) tA Wa := ⟨pw_or1 ha.pt, ha.ev⟩
theorem jw_and {rest : List Expr} (ha : JT X a tA Wa) (hb : JW X (.BoolOp .And (b :: rest) pos) tB' Wb) : JW X (.BoolOp .And (a :: b :: rest) pos) (tAnd tA tB') (wAnd Wa Wb) := by
  refine ⟨pw_and ha.pt hb.pw, fun ss R w σ H A Q q => ?_⟩
  refine ha.ev ss _ w σ H A _ fun k H1 hk s1 => ?_
  cases k with
  | false =>
    rw [if_neg (by decide)] at hk ⊢
    exact q _ H1 hk s1
  | true =>
    rw [if_pos rfl] at hk ⊢
    exact hb.ev ss _ hk σ H1 (A.same s1) Q fun c H' hc s5 => q c H' hc (s1.trans s5)
theorem jw_or {rest : List Expr} (ha : JT X a tA Wa) (hb : JW X (.BoolOp .Or (b :: rest) pos) tB' Wb) : JW X (.BoolOp .Or (a :: b :: rest) pos) (tOr tA tB') (wOr Wa Wb) := by
  refine ⟨pw_or ha.pt hb.pw, fun ss R w σ H A Q q => ?_⟩
  refine ha.ev ss _ w σ H A _ fun k H1 hk s1 => ?_
  cases k with
  | true =>
    rw [if_pos rfl] at hk ⊢
    exact q _ H1 hk s1
  | false =>
    rw [if_neg (by decide)] at hk ⊢
    exact hb.ev ss _ hk σ H1 (A.same s1) Q fun c H' hc s5 => q c H' hc (s1.trans s5)
theorem jt_chain {o o' : CmpOp} {r r' : R2} {op op' : WO} (h : JO X (compareOp o) r op) (h' : JO X (compareOp o') r' op') (ha : JE X a ta Wa) (hb : JE X b tb Wb) (hc : JE X c tc Wc)
    (hm : lastMarks [o, o'] [b, c] = false := by with_unfolding_all rfl) : JT X (.Compare a [o, o'] [b, c] pos) (tTest (tChain r r' ta tb tc)) (wChain op op' Wa Wb Wc) :=
  ⟨pt_chain h.pr h'.pr ha.pe hb.pe hc.pe hm, ev_tB (je_chain (pos := pos) h h' ha hb hc hm).ev⟩

/-! ### arguments, tuples, lists -/
abbrev WA := List SV → (List D → Prop) → Prop
structure JA (X : Cx) (es : List Expr) (t : TA) (W : WA) : Prop where
  pa : PA X es t
  ev : ∀ ss R, W ss R → ∀ σ H, AS (gd X) σ H ss → ∀ Q : List V → Hp → Prop, (∀ ds vs H', R ds → Same H H' → TpAll X.K H' vs ds → Q vs H') → t σ H Q
def wNil : WA := fun _ R => R []
def wCons (Wa : WE) (Wr : WA) : WA := fun ss R => Wa ss (dd fun d => Wr ss fun ds => R (d :: ds))
theorem ja_nil : JA X [] tNil wNil := ⟨pa_nil, fun ss R w σ H A Q q => q [] [] H w (Same.refl H) .nil⟩
theorem ja_cons {es : List Expr} {t : TA} {Wr : WA} (ha : JE X e te Wa) (hr : JA X es t Wr) (na : starEach (e :: es) X.env = (false, eval e X.env) :: starEach es X.env := by rfl) : JA X (e :: es) (tCons te t) (wCons Wa Wr) := by
  refine ⟨pa_cons ha.pe hr.pa na, fun ss R w σ H A Q q => ?_⟩
  refine (ha.ev ss _ w).use A fun d v H1 hd s1 t1 => ?_
  exact hr.ev ss _ hd σ H1 (A.same s1) _ fun ds vs H2 hds s2 t2 => q (d :: ds) (v :: vs) H2 hds (s1.trans s2) (.cons (t1.same s2) t2)
def wTup (Wr : WA) : WE := fun ss R => Wr ss fun ds => ds.length ≤ sizeLine ∧ R (.dat (.tuple ds))
theorem je_tup {es : List Expr} {t : TA} {Wr : WA} {x1 : Nat} (h : JA X es t Wr) : JE X (.Tuple es x1 pos) (tTupK t) (wTup Wr) := by
  refine ⟨pe_tupK h.pa, fun ss R w σ H A Q q => ?_⟩
  refine h.ev ss _ w σ H A _ fun ds vs H1 hds s1 t1 => ?_
  refine ⟨by rw [t1.len]; exact hds.1, fun p H2 n nt => ?_⟩
  have s2 := nt.same n
  exact q _ _ H2 hds.2 (s1.trans s2) (.tup nt.tk (t1.same s2))
theorem same_new {H : Hp} {p : Addr} {o : HO} (h : H p = Option.none) : Same H (upd H p o) := fun b x e => by
  rw [upd_ne (ne_of_none e h)]
  exact e
/-- a list that is new: its own list, where there is no list in it -/
theorem val_lst {G : Wd} {H H1 : Hp} {p : Addr} {vs : List V} {ds : List D} (s : Same H H1) (n : H1 p = Option.none) (t : TpAll G.K H1 vs ds) (z : noLs ds = true) : Same H (upd H1 p (.lst vs)) ∧ Val G H (upd H1 p (.lst vs)) (.ref p) (.lst ds) :=
  ⟨s.trans (same_new n), p, vs, rfl, s.free n, upd_same, t.same (same_new n), z⟩
def wLst (Wr : WA) : WE := fun ss R => Wr ss fun ds => ds.length ≤ sizeLine ∧ ((noLs ds = true ∧ R (.lst ds)) ∨ R (.dat (.list ds)))
theorem je_lst {es : List Expr} {t : TA} {Wr : WA} (h : JA X es t Wr) : JE X (.List es pos) (tLst t) (wLst Wr) := by
  refine ⟨pe_lst h.pa, fun ss R w σ H A Q q => ?_⟩
  refine h.ev ss _ w σ H A _ fun ds vs H1 hds s1 t1 => ?_
  refine ⟨by rw [t1.len]; exact hds.1, fun p n => ?_⟩
  rcases hds.2 with ⟨z, hr⟩ | hr
  · obtain ⟨s2, vl⟩ := val_lst (G := gd X) s1 n t1 z
    exact q _ _ _ hr s2 vl
  · exact q _ _ _ hr (s1.trans (same_new n)) (.lst (.inl (.inl upd_same)) (t1.same (same_new n)))

/-! ### calls -/
structure JC (X : Cx) (f : Value) (r : List V → Hp → VK → Prop) (op : List D → (SV → Prop) → Prop) : Prop where
  pr : CallR X f r
  ev : ∀ ds R, op ds R → ∀ H vs, TpAll X.K H vs ds → ∀ Q : VK, (∀ c v H', R c → Same H H' → Val (gd X) H H' v c → Q v H') → r vs H Q
theorem JC.or {f : Value} {r r' : List V → Hp → VK → Prop} {o p : List D → (SV → Prop) → Prop} (h : JC X f r o) (h' : JC X f r' p) : JC X f (fun vs H Q => r vs H Q ∨ r' vs H Q) (fun ds R => o ds R ∨ p ds R) :=
  ⟨h.pr.or h'.pr, fun ds R w H vs t Q q => w.elim (fun w => .inl (h.ev ds R w H vs t Q q)) (fun w => .inr (h'.ev ds R w H vs t Q q))⟩
theorem JC.cut {f : Value} {r : List V → Hp → VK → Prop} {o p : List D → (SV → Prop) → Prop} (h : JC X f r o) (i : ∀ ds R, p ds R → o ds R) : JC X f r p :=
  ⟨h.pr, fun ds R w => h.ev ds R (i ds R w)⟩
def wCB (op : List D → (SV → Prop) → Prop) (Wr : WA) : WE := fun ss R => Wr ss fun ds => op ds R
theorem ev_cb {r : List V → Hp → VK → Prop} {op : List D → (SV → Prop) → Prop} {f : Value} {es : List Expr} {t : TA} {Wr : WA} (c : JC X f r op) (h : JA X es t Wr) : Ev (gd X) (tCB r t) (wCB op Wr) := by
  intro ss R w σ H A Q q
  refine h.ev ss _ w σ H A _ fun ds vs H1 hds s1 t1 => ?_
  exact c.ev ds R hds H1 vs t1 Q fun k v H' hk s2 vk => q k v H' hk (s1.trans s2) (vk.base s1)
theorem je_cb {f n : String} {x : Str} {es : List Expr} {t : TA} {Wr : WA} {r : List V → Hp → VK → Prop} {op : List D → (SV → Prop) → Prop} {p : Pos} (c : JC X (.builtin n) r op) (h : PE X e (tCB r t)) (ha : JA X es t Wr) : JE X e (tCB r t) (wCB op Wr) := ⟨h, ev_cb c ha⟩
/-- what a def promises, by data -/
def spD (G : Wd) (S : List D → (SV → Prop) → Prop) : Sp := fun vs H Q _ => ∃ ds R, TpAll G.K H vs ds ∧ S ds R ∧ ∀ r v H', R r → Same H H' → Val G H H' v r → Q v H'
theorem je_call {S : List D → (SV → Prop) → Prop} {E : XK} {es : List Expr} {t : TA} {Wr : WA} (h : PE X e (tCall (spD (gd X) S) [] E t)) (ha : JA X es t Wr) : JE X e (tCall (spD (gd X) S) [] E t) (wCB S Wr) := by
  refine ⟨h, fun ss R w σ H A Q q => ?_⟩
  refine ha.ev ss _ w σ H A _ fun ds vs H1 hds s1 t1 => ?_
  rw [List.append_nil]
  exact ⟨ds, R, t1, hds, fun r v H' hr s2 hv => q r v H' hr (s1.trans s2) (hv.base s1)⟩
end
end Ab

set_option Elab.async false
set_option linter.all false
set_option maxRecDepth 100000
set_option maxHeartbeats 4000000
/-! Ab3: operators, subscripts, slices, built-in functions, on data. -/
namespace Ab
open PySem PySem.Spec L2
open PyProof.Rows hiding St

section
variable {X : Cx} {a b c e : Expr} {ta tb tc te : TE} {Wa Wb Wc : WE} {pos : Pos}

/-! ### numbers -/
def onI (g : Int → Int → (SV → Prop) → Prop) : D → D → (SV → Prop) → Prop
  | .int i, .int j, R => g i j R
  | _, _, _ => False
theorem onI_of {g : Int → Int → (SV → Prop) → Prop} {d e : D} {R : SV → Prop} {K : PySem.W.Frag} {H : Hp} {x y : V} (h : onI g d e R) (hx : Tp K H x d) (hy : Tp K H y e) : ∃ i j, x = .int i ∧ y = .int j ∧ g i j R := by
  cases d with
  | int i =>
    cases e with
    | int j => cases hx; cases hy; exact ⟨i, j, rfl, rfl, h⟩
    | _ => cases h
  | _ => cases h
theorem jo_I0 {f : Value → Value → Sem Value} {g : Int → Int → Int} (pr : OpR X f (rI0 fun i j => .int (g i j))) : JO X f (rI0 fun i j => .int (g i j)) (dop (onI fun i j R => R (.dat (.int (g i j))))) :=
  jo_dop pr fun d e R w H x y hx hy Q q => by
    obtain ⟨i, j, rfl, rfl, h⟩ := onI_of w hx hy
    exact ⟨i, j, rfl, rfl, q _ _ H h (Same.refl H) (.int _)⟩
theorem jo_B0 {f : Value → Value → Sem Value} {g : Int → Int → Bool} (pr : OpR X f (rI0 fun i j => .bl (g i j))) : JO X f (rI0 fun i j => .bl (g i j)) (dop (onI fun i j R => R (.dat (.bool (g i j))))) :=
  jo_dop pr fun d e R w H x y hx hy Q q => by
    obtain ⟨i, j, rfl, rfl, h⟩ := onI_of w hx hy
    exact ⟨i, j, rfl, rfl, q _ _ H h (Same.refl H) (.bl _)⟩
theorem jo_IC {f : Value → Value → Sem Value} {g : Int → Int → Int} {C : Int → Int → Prop} (pr : OpR X f (rI C fun i j => .int (g i j))) : JO X f (rI C fun i j => .int (g i j)) (dop (onI fun i j R => C i j ∧ R (.dat (.int (g i j))))) :=
  jo_dop pr fun d e R w H x y hx hy Q q => by
    obtain ⟨i, j, rfl, rfl, hc, h⟩ := onI_of w hx hy
    exact ⟨i, j, rfl, rfl, hc, q _ _ H h (Same.refl H) (.int _)⟩
def subD : D → D → (SV → Prop) → Prop := onI fun i j R => R (.dat (.int (i - j)))
def mulI : D → D → (SV → Prop) → Prop := onI fun i j R => CMul i j ∧ R (.dat (.int (i * j)))
def modD : D → D → (SV → Prop) → Prop := onI fun i j R => 0 < j ∧ R (.dat (.int (i % j)))
def divD : D → D → (SV → Prop) → Prop := onI fun i j R => CDiv i j ∧ R (.dat (.int (i / j)))
def powD : D → D → (SV → Prop) → Prop := onI fun i j R => CPow i j ∧ R (.dat (.int (i ^ j.toNat)))
def leD : D → D → (SV → Prop) → Prop := onI fun i j R => R (.dat (.bool (decide (i ≤ j))))
def gtD : D → D → (SV → Prop) → Prop := onI fun i j R => R (.dat (.bool (decide (j < i))))
def geD : D → D → (SV → Prop) → Prop := onI fun i j R => R (.dat (.bool (decide (j ≤ i))))
theorem jo_sub : JO X (binaryOp .Sub) (rI0 fun i j => .int (i - j)) (dop subD) := jo_I0 op_sub
theorem jo_mul : JO X (binaryOp .Mult) (rI CMul fun i j => .int (i * j)) (dop mulI) := jo_IC op_mul
theorem jo_mod : JO X (binaryOp .Mod) (rI (fun _ j => 0 < j) fun i j => .int (i % j)) (dop modD) := jo_IC op_mod
theorem jo_div : JO X (binaryOp .FloorDiv) (rI CDiv fun i j => .int (i / j)) (dop divD) := jo_IC op_fdiv
theorem jo_pow : JO X (binaryOp .Pow) (rI CPow fun i j => .int (i ^ j.toNat)) (dop powD) := jo_IC op_pow
theorem jo_le : JO X (compareOp .LtE) (rI0 fun i j => .bl (decide (i ≤ j))) (dop leD) := jo_B0 op_le
theorem jo_gt : JO X (compareOp .Gt) (rI0 fun i j => .bl (decide (j < i))) (dop gtD) := jo_B0 op_gt
theorem jo_ge : JO X (compareOp .GtE) (rI0 fun i j => .bl (decide (j ≤ i))) (dop geD) := jo_B0 op_ge
/-- < of ints, of tuples of ints -/
def intsOf : List D → Option (List Int)
  | [] => some []
  | .int i :: ds => (intsOf ds).map fun l => i :: l
  | _ => Option.none
theorem intsOf_eq : ∀ {ds : List D} {l : List Int}, intsOf ds = some l → ds = l.map PyData.int
  | [], l, h => by
    cases h
    rfl
  | d :: ds, l, h => by
    cases d with
    | int i =>
      have h : (intsOf ds).map (fun l => i :: l) = some l := h
      rw [Option.map_eq_some_iff] at h
      obtain ⟨m, hm, rfl⟩ := h
      rw [intsOf_eq hm]
      rfl
    | _ => cases h
theorem intsOf_map : ∀ (l : List Int), intsOf (l.map PyData.int) = some l
  | [] => rfl
  | i :: l => by
    show (intsOf (l.map PyData.int)).map (fun m => i :: m) = some (i :: l)
    rw [intsOf_map l]
    rfl
def ltD : D → D → (SV → Prop) → Prop
  | .int i, .int j, R => R (.dat (.bool (decide (i < j))))
  | .tuple a, .tuple b, R => ∃ l m, intsOf a = some l ∧ intsOf b = some m ∧ R (.dat (.bool (HT.lexLt l m)))
  | _, _, _ => False
def rLt2 (K : PySem.W.Frag) : R2 := fun x y H Q => rI0 (fun i j => .bl (decide (i < j))) x y H Q ∨ rLtT K x y H Q
theorem jo_lt (hu : X.A.units + 64 < cLine) : JO X (compareOp .Lt) (rLt2 X.K) (dop ltD) :=
  jo_dop (op_lt.or (op_ltT (by omega))) fun d e R w H x y hx hy Q q => by
    cases d with
    | int i =>
      cases e with
      | int j => cases hx; cases hy; exact .inl ⟨i, j, rfl, rfl, q _ _ H w (Same.refl H) (.bl _)⟩
      | _ => cases w
    | tuple as =>
      cases e with
      | tuple bs =>
        obtain ⟨l, m, e1, e2, w⟩ := w
        have e1 := intsOf_eq e1
        have e2 := intsOf_eq e2
        subst e1
        subst e2
        cases hx with
        | tup k1 t1 =>
          cases hy with
          | tup k2 t2 =>
            have z1 := TpAll.ints t1
            have z2 := TpAll.ints t2
            subst z1
            subst z2
            exact .inr ⟨_, _, l, m, rfl, rfl, k1.sq, k2.sq, q _ _ H w (Same.refl H) (.bl _)⟩
      | _ => cases w
    | _ => cases w

/-! ### + -/
def addD : D → D → (SV → Prop) → Prop
  | .int i, .int j, R => R (.dat (.int (i + j)))
  | .tuple a, .tuple b, R => a.length + b.length ≤ sizeLine ∧ R (.dat (.tuple (a ++ b)))
  | .str a, .str b, R => a.length + b.length ≤ sizeLine ∧ R (.dat (.str (a ++ b)))
  | _, _, _ => False
def addS : WO
  | .lst a, .lst b, R => a.length + b.length ≤ sizeLine ∧ R (.lst (a ++ b))
  | s, t, R => dop addD s t R
def rAdd4 (K : PySem.W.Frag) : R2 := fun x y H Q => (rI0 (fun i j => .int (i + j)) x y H Q ∨ rCatK K x y H Q) ∨ (rCat x y H Q ∨ ∃ i j, x = .str i ∧ y = .str j ∧ i.length + j.length ≤ sizeLine ∧ Q (.str (i ++ j)) H)
theorem ev_addD {d e : D} {R : SV → Prop} (w : addD d e R) {H : Hp} {x y : V} (hx : Tp X.K H x d) (hy : Tp X.K H y e) {Q : VK} (q : ∀ c v H', R c → Same H H' → Val (gd X) H H' v c → Q v H') : rAdd4 X.K x y H Q := by
  cases d with
  | int i =>
    cases e with
    | int j => cases hx; cases hy; exact .inl (.inl ⟨i, j, rfl, rfl, q _ _ H w (Same.refl H) (.int _)⟩)
    | _ => cases w
  | str i =>
    cases e with
    | str j => cases hx; cases hy; exact .inr (.inr ⟨i, j, rfl, rfl, w.1, q _ _ H w.2 (Same.refl H) (.str _)⟩)
    | _ => cases w
  | tuple as =>
    cases e with
    | tuple bs =>
      cases hx with
      | tup k1 t1 =>
        cases hy with
        | tup k2 t2 =>
          refine .inl (.inr ⟨_, _, _, _, rfl, rfl, k1.sq, k2.sq, by rw [t1.len, t2.len]; exact w.1, fun z => ?_, fun _ z => ?_, fun _ _ p H2 n nt => ?_⟩)
          · subst z
            cases t1
            exact q _ _ H w.2 (Same.refl H) (.tup k2 t2)
          · subst z
            cases t2
            have w2 := w.2
            rw [List.append_nil] at w2
            exact q _ _ H w2 (Same.refl H) (.tup k1 t1)
          · have s2 := nt.same n
            exact q _ _ H2 w.2 s2 (.tup nt.tk ((t1.same s2).append (t2.same s2)))
    | _ => cases w
  | _ => cases w
theorem jo_add : JO X (binaryOp .Add) (rAdd4 X.K) addS := by
  refine ⟨(op_add.or op_catK).or (op_cat.or op_add_str), fun s t R w H0 H x y hx hy Q q => ?_⟩
  by_cases h : ∃ a b, s = .lst a ∧ t = .lst b
  · obtain ⟨a, b, rfl, rfl⟩ := h
    obtain ⟨wl, w⟩ := w
    obtain ⟨p1, xs, rfl, n1, e1, t1, z1⟩ := hx
    obtain ⟨p2, ys, rfl, n2, e2, t2, z2⟩ := hy
    refine .inr (.inl ⟨p1, p2, xs, ys, rfl, rfl, e1, e2, by rw [t1.len, t2.len]; exact wl, fun p n => ?_⟩)
    obtain ⟨s2, vl⟩ := val_lst (G := gd X) (Same.refl H) n (t1.append t2) (noLs_append z1 z2)
    exact q _ _ _ w s2 vl
  · have w' : dop addD s t R := by
      cases s with
      | lst a =>
        cases t with
        | lst b => exact absurd ⟨a, b, rfl, rfl⟩ h
        | _ => exact w
      | _ => exact w
    obtain ⟨d, h1, h2⟩ := dd_tp w' hx
    obtain ⟨e, h3, h4⟩ := dd_tp h1 hy
    exact ev_addD h3 h2 h4 q

/-! ### ==, in, is None -/
def eqD : D → D → (SV → Prop) → Prop := fun d e R => SeqAt.shaped d = true ∧ SeqAt.shaped e = true ∧ R (.dat (.bool (PyData.eqv d e)))
def neD : D → D → (SV → Prop) → Prop := fun d e R => SeqAt.shaped d = true ∧ SeqAt.shaped e = true ∧ R (.dat (.bool (!PyData.eqv d e)))
theorem jo_eq (hu : X.A.units + 64 < cLine) : JO X (compareOp .Eq) (rEqD X.K) (dop eqD) :=
  jo_dop (op_eqD hu) fun d e R w H x y hx hy Q q => ⟨d, e, hx.dp, hy.dp, w.1, w.2.1, q _ _ H w.2.2 (Same.refl H) (.bl _)⟩
theorem jo_ne (hu : X.A.units + 64 < cLine) : JO X (compareOp .NotEq) (rNeD X.K) (dop neD) :=
  jo_dop (op_neD hu) fun d e R w H x y hx hy Q q => ⟨d, e, hx.dp, hy.dp, w.1, w.2.1, q _ _ H w.2.2 (Same.refl H) (.bl _)⟩
def inL (neg : Bool) : D → D → (SV → Prop) → Prop
  | d, .list ds, R => SeqAt.shaped d = true ∧ SeqAt.shaped (.list ds) = true ∧ R (.dat (.bool (if neg then !ds.any fun z => PyData.eqv z d else ds.any fun z => PyData.eqv z d)))
  | _, _, _ => False
theorem jo_in (hu : X.A.units + 65 < cLine) : JO X (compareOp .In) (rInD X.K) (dop (inL false)) :=
  jo_dop (op_inD hu) fun d e R w H x y hx hy Q q => by
    cases e with
    | list ds => exact ⟨d, ds, hx.dp, hy.dp, w.1, w.2.1, q _ _ H w.2.2 (Same.refl H) (.bl _)⟩
    | _ => cases w
theorem jo_notIn (hu : X.A.units + 65 < cLine) : JO X (compareOp .NotIn) (rNotInD X.K) (dop (inL true)) :=
  jo_dop (op_notInD hu) fun d e R w H x y hx hy Q q => by
    cases e with
    | list ds => exact ⟨d, ds, hx.dp, hy.dp, w.1, w.2.1, q _ _ H w.2.2 (Same.refl H) (.bl _)⟩
    | _ => cases w
def isNoneD : D → Bool
  | .none => true
  | _ => false
theorem tp_non {K : PySem.W.Frag} {H : Hp} {x : V} {d : D} (h : Tp K H x d) : decide (x = .non) = isNoneD d := by
  cases h with
  | non => rfl
  | _ => exact decide_eq_false (fun z => nomatch z)
def isN (neg : Bool) : D → D → (SV → Prop) → Prop
  | d, .none, R => R (.dat (.bool (if neg then !isNoneD d else isNoneD d)))
  | _, _, _ => False
theorem jo_is : JO X (compareOp .Is) (fun x y H Q => y = .non ∧ Q (.bl (decide (x = .non))) H) (dop (isN false)) :=
  jo_dop op_isN fun d e R w H x y hx hy Q q => by
    cases e with
    | none =>
      cases hy
      refine ⟨rfl, ?_⟩
      rw [tp_non hx]
      exact q _ _ H w (Same.refl H) (.bl _)
    | _ => cases w
theorem jo_isNot : JO X (compareOp .IsNot) (fun x y H Q => y = .non ∧ Q (.bl (!decide (x = .non))) H) (dop (isN true)) :=
  jo_dop op_notN fun d e R w H x y hx hy Q q => by
    cases e with
    | none =>
      cases hy
      refine ⟨rfl, ?_⟩
      rw [tp_non hx]
      exact q _ _ H w (Same.refl H) (.bl _)
    | _ => cases w

/-! ### x[i] -/
theorem atI_len {α β : Type} {f : α → β} (xs : List α) (i : Int) : atI (xs.map f) i = (atI xs i).map f := by
  unfold atI
  rw [List.length_map]
  cases ixN xs.length i with
  | none => rfl
  | some j => simp
theorem atI_tp {K : PySem.W.Frag} {H : Hp} {vs : List V} {ds : List D} {i : Int} {d : D} (t : TpAll K H vs ds) (h : atI ds i = some d) : ∃ v, atI vs i = some v ∧ Tp K H v d := by
  unfold atI at h ⊢
  rw [t.len]
  cases hn : ixN ds.length i with
  | none => rw [hn] at h; cases h
  | some j =>
    rw [hn] at h
    exact TpAll.get t h
def ixD : D → D → (SV → Prop) → Prop
  | .tuple ds, .int i, R => ∃ d, atI ds i = some d ∧ R (.dat d)
  | .list ds, .int i, R => ∃ d, atI ds i = some d ∧ R (.dat d)
  | .str z, .int i, R => ∃ c, z.length ≤ sizeLine ∧ atI z.cps.toList i = some c ∧ R (.dat (.str ⟨#[c]⟩))
  | _, _, _ => False
structure JX (X : Cx) (r : R2) (op : D → D → (SV → Prop) → Prop) : Prop where
  pr : IxR X r
  ev : ∀ d e R, op d e R → ∀ H x y, Tp X.K H x d → Tp X.K H y e → ∀ Q : VK, (∀ c v H', R c → Same H H' → Val (gd X) H H' v c → Q v H') → r x y H Q
theorem je_ix (ha : JE X a ta Wa) (hb : JE X b tb Wb) (hs : PlainIx b := by intro _ _; rfl) : JE X (.Subscript a b pos) (tOp (rIx X.K) ta tb) (wOp (dop ixD) Wa Wb) := by
  refine ⟨pe_ix ix_seq ha.pe hb.pe hs, fun ss R w σ H A Q q => ?_⟩
  refine ha.ev ss _ w σ H A _ fun s v H1 hx s1 vx => ?_
  refine hb.ev ss _ hx σ H1 (A.same s1) _ fun t u H2 hy s2 vy => ?_
  obtain ⟨d, h1, h2⟩ := dd_tp hy (vx.mono s2)
  obtain ⟨e, h3, h4⟩ := dd_tp h1 (vy.base s1)
  have s12 := s1.trans s2
  have fin : ∀ (d : D) (v : V), R (.dat d) → Tp X.K H2 v d → Q v H2 := fun d v h t => q _ v H2 h s12 t
  cases d with
  | tuple ds =>
    cases e with
    | int i =>
      obtain ⟨d, hd, hr⟩ := h3
      cases h4
      cases h2 with
      | tup k t =>
        obtain ⟨w, e1, e2⟩ := atI_tp t hd
        exact .inr (.inl ⟨_, _, i, w, rfl, rfl, k.sq, e1, fin d w hr e2⟩)
    | _ => cases h3
  | list ds =>
    cases e with
    | int i =>
      obtain ⟨d, hd, hr⟩ := h3
      cases h4
      cases h2 with
      | lst k t =>
        obtain ⟨w, e1, e2⟩ := atI_tp t hd
        exact .inl ⟨_, _, i, w, rfl, rfl, k, e1, fin d w hr e2⟩
    | _ => cases h3
  | str z =>
    cases e with
    | int i =>
      obtain ⟨c, hz, hc, hr⟩ := h3
      cases h4
      cases h2
      exact .inr (.inr ⟨z, i, c, rfl, rfl, hz, hc, fin _ _ hr (.str _)⟩)
    | _ => cases h3
  | _ => cases h3

/-! ### x[lo:hi] -/
abbrev WP := List SV → (Option Int → Prop) → Prop
structure JP (X : Cx) (o : Option Expr) (t : TO) (W : WP) : Prop where
  po : PO X o t
  ev : ∀ ss R, W ss R → ∀ σ H, AS (gd X) σ H ss → ∀ Q : Option Int → Hp → Prop, (∀ i H', R i → Same H H' → Q i H') → t σ H Q
theorem jp_none : JP X Option.none tNoPart (fun _ R => R Option.none) := ⟨po_none, fun ss R w σ H A Q q => q _ H w (Same.refl H)⟩
def wPart (Wa : WE) : WP := fun ss R => Wa ss fun s => match s with
  | .dat (.int i) => R (some i)
  | _ => False
theorem jp_some (ha : JE X a ta Wa) : JP X (some a) (tPart ta) (wPart Wa) := by
  refine ⟨po_some ha.pe, fun ss R w σ H A Q q => ?_⟩
  refine ha.ev ss _ w σ H A _ fun s v H1 hx s1 vx => ?_
  cases s with
  | dat d =>
    cases d with
    | int i => cases vx; exact ⟨i, rfl, q _ H1 hx s1⟩
    | _ => cases hx
  | _ => cases hx
def cut {α : Type} (xs : List α) (lo hi : Option Int) : List α := (xs.drop (HT.sIx xs.length 0 lo)).take (HT.sIx xs.length xs.length hi - HT.sIx xs.length 0 lo)
theorem cut_tp {K : PySem.W.Frag} {H : Hp} {vs : List V} {ds : List D} {lo hi : Option Int} (t : TpAll K H vs ds) : TpAll K H (cutV vs lo hi) (cut ds lo hi) := by
  unfold cutV cut
  rw [t.len]
  exact (t.drop _).take _
theorem cut_mem {α : Type} {xs : List α} {lo hi : Option Int} {x : α} (h : x ∈ cut xs lo hi) : x ∈ xs := List.mem_of_mem_drop (List.mem_of_mem_take h)
theorem cut_all {α : Type} {xs : List α} {lo hi : Option Int} (h : HT.sIx xs.length 0 lo = 0 ∧ HT.sIx xs.length xs.length hi = xs.length) : cut xs lo hi = xs := by
  unfold cut
  rw [h.1, h.2, List.drop_zero, Nat.sub_zero, List.take_length]
theorem cut_len {α : Type} (xs : List α) (lo hi : Option Int) : (cut xs lo hi).length ≤ xs.length := by
  unfold cut
  rw [List.length_take, List.length_drop]
  omega
def slD : D → Option Int → Option Int → (SV → Prop) → Prop
  | .tuple ds, lo, hi, R => R (.dat (.tuple (cut ds lo hi)))
  | .list ds, lo, hi, R => (noLs ds = true ∧ R (.lst (cut ds lo hi))) ∨ R (.dat (.list (cut ds lo hi)))
  | _, _, _, _ => False
def rSl2 (K : PySem.W.Frag) : V → Option Int → Option Int → Hp → VK → Prop := fun x lo hi H Q => rSlK K x lo hi H Q ∨ rSlL K x lo hi H Q
def wSl (Wa : WE) (Wl Wh : WP) : WE := fun ss R => Wa ss (dd fun d => Wl ss fun lo => Wh ss fun hi => slD d lo hi R)
theorem je_slice {lo hi : Option Expr} {tl th : TO} {Wl Wh : WP} {p2 : Pos} (ha : JE X a ta Wa) (hl : JP X lo tl Wl) (hh : JP X hi th Wh) : JE X (.Subscript a (.Slice lo hi Option.none p2) pos) (tSl (rSl2 X.K) ta tl th) (wSl Wa Wl Wh) := by
  refine ⟨pe_slice (sl_tupK.or sl_list) ha.pe hl.po hh.po, fun ss R w σ H A Q q => ?_⟩
  refine (ha.ev ss _ w).use A fun d v H1 hd s1 t1 => ?_
  refine hl.ev ss _ hd σ H1 (A.same s1) _ fun i H2 hi s2 => ?_
  refine hh.ev ss _ hi σ H2 (A.same (s1.trans s2)) _ fun j H3 hj s3 => ?_
  have s13 := s1.trans (s2.trans s3)
  have t3 := t1.same (s2.trans s3)
  cases d with
  | tuple ds =>
    cases t3 with
    | tup k t =>
      refine .inl ⟨_, _, rfl, k.sq, fun h => ?_, fun _ p H4 n nt => ?_⟩
      · rw [t.len] at h
        have hj : R (.dat (.tuple (cut ds i j))) := hj
        rw [cut_all h] at hj
        exact q _ _ H3 hj s13 (.tup k t)
      · have s4 := nt.same n
        exact q _ _ H4 hj (s13.trans s4) (.tup nt.tk ((cut_tp t).same s4))
  | list ds =>
    cases t3 with
    | lst k t =>
      refine .inr ⟨_, _, rfl, k, fun p n => ?_⟩
      rcases hj with ⟨z, hr⟩ | hr
      · obtain ⟨s4, vl⟩ := val_lst (G := gd X) s13 n (cut_tp (lo := i) (hi := j) t) (noLs_sub (fun d hd => cut_mem hd) z)
        exact q _ _ _ hr s4 vl
      · exact q _ _ _ hr (s13.trans (same_new n)) (.lst (.inl (.inl upd_same)) ((cut_tp t).same (same_new n)))
  | _ => cases hj
end
end Ab

set_option Elab.async false
set_option linter.all false
set_option maxRecDepth 100000
set_option maxHeartbeats 4000000
/-! Ab4: what is walked; comprehensions; statements and loops, on abstract states. -/
namespace Ab
open PySem PySem.Spec L2
open PyProof.Rows hiding St
open RT (ItvT iRevA pi_revA)

/-- what a walk gives at a turn: a thing, or a new pair of two -/
inductive ID where
  | one (d : D)
  | two (d e : D)
def ItemV (G : Wd) (Hb H H' : Hp) (v : V) : ID → Prop
  | .one d => H' = H ∧ Tp G.K Hb v d
  | .two d e => ∃ T x y, v = .ref T ∧ H T = Option.none ∧ H' = upd H T (.tup [x, y]) ∧ Tp G.K Hb x d ∧ Tp G.K Hb y e
/-- the walk J gives the things ids while what stands in Hb stands -/
def IterOk (G : Wd) (J : It) (Hb : Hp) (ids : List ID) : Prop := Walk J ids.length (fun H => Same Hb H) (fun i H x H' => ∃ id, ids[i]? = some id ∧ ItemV G Hb H H' x id)
theorem ItemV.mono {G : Wd} {Hb Hc H H' : Hp} {v : V} {id : ID} (s : Same Hb Hc) (h : ItemV G Hb H H' v id) : ItemV G Hc H H' v id := by
  cases id with
  | one d => exact ⟨h.1, h.2.same s⟩
  | two d e => obtain ⟨T, x, y, h1, h2, h3, h4, h5⟩ := h; exact ⟨T, x, y, h1, h2, h3, h4.same s, h5.same s⟩
theorem IterOk.mono {G : Wd} {J : It} {Hb Hc : Hp} {ids : List ID} (s : Same Hb Hc) (h : IterOk G J Hb ids) : IterOk G J Hc ids :=
  L2.Walk.mono h (fun H q => s.trans q) fun i H x H' _ _ ⟨id, h1, h2⟩ => ⟨id, h1, h2.mono s⟩
/-- an own list that is not changed any more -/
def freeze (ss : List SV) : Option Nat → List SV
  | Option.none => ss
  | some j => match ss[j]? with
    | some (.lst ds) => ss.set j (.dat (.list ds))
    | _ => ss
theorem freeze_lst {ss : List SV} {j : Nat} {ds : List D} (h : ss[j]? = some (.lst ds)) : freeze ss (some j) = ss.set j (.dat (.list ds)) := by
  show (match ss[j]? with
    | some (.lst ds) => ss.set j (.dat (.list ds))
    | _ => ss) = _
  rw [h]
theorem freeze_or (ss : List SV) (fr : Option Nat) : freeze ss fr = ss ∨ ∃ j ds, ss[j]? = some (.lst ds) ∧ freeze ss fr = ss.set j (.dat (.list ds)) := by
  cases fr with
  | none => exact .inl rfl
  | some j =>
    cases hj : ss[j]? with
    | none =>
      refine .inl ?_
      show (match ss[j]? with
        | some (.lst ds) => ss.set j (.dat (.list ds))
        | _ => ss) = ss
      rw [hj]
    | some s =>
      cases s with
      | lst ds => exact .inr ⟨j, ds, hj, freeze_lst hj⟩
      | _ =>
        refine .inl ?_
        show (match ss[j]? with
          | some (.lst ds) => ss.set j (.dat (.list ds))
          | _ => ss) = ss
        rw [hj]
theorem AS.freeze1 {G : Wd} {σ : St} {H : Hp} {ss : List SV} (A : AS G σ H ss) {j : Nat} {ds : List D} (hj : ss[j]? = some (.lst ds)) : AS G σ H (ss.set j (.dat (.list ds))) ∧ Same (fz σ ss H) (fz σ (ss.set j (.dat (.list ds))) H) := by
  have mt : ∀ b, MutAt σ (ss.set j (.dat (.list ds))) b → MutAt σ ss b := fun b ⟨k, t, e1, e2, e3⟩ => by
    rcases get_set e1 with ⟨_, e, _⟩ | ⟨_, e⟩
    · subst e; cases e2
    · exact ⟨k, t, e, e2, e3⟩
  have f : Same (fz σ ss H) (fz σ (ss.set j (.dat (.list ds))) H) := fz_of (Same.refl H) fun b m => .inl (mt b m)
  refine ⟨⟨by rw [List.length_set, A.len], fun i s e => ?_, fun i k p s t e1 e2 m1 m2 e3 e4 => ?_⟩, f⟩
  · rcases get_set e with ⟨e1, e2, hl⟩ | ⟨e1, e2⟩
    · subst e1
      subst e2
      obtain ⟨p, xs, h1, h2, h3, h4⟩ := A.slot j _ hj
      have nm : ¬ MutAt σ (ss.set j (.dat (.list ds))) p := fun ⟨k, t, e1, e2, e3⟩ => by
        rcases get_set e1 with ⟨_, e, _⟩ | ⟨z, e⟩
        · subst e; cases e2
        · exact z (A.sep j k p _ t hj e rfl e2 h1 e3)
      exact ⟨_, h1, .lst (xs := xs) (.inl (.inl ((fz_not nm).trans h2))) (TpAll.same f (h3.kt (kt_fz A) h4))⟩
    · exact (A.slot i s e2).mono f (Same.refl H)
  · rcases get_set e1 with ⟨_, e, _⟩ | ⟨_, e⟩
    · subst e; cases m1
    · rcases get_set e2 with ⟨_, e', _⟩ | ⟨_, e'⟩
      · subst e'; cases m2
      · exact A.sep i k p s t e e' m1 m2 e3 e4
theorem AS.freeze {G : Wd} {σ : St} {H : Hp} {ss : List SV} (A : AS G σ H ss) (fr : Option Nat) : AS G σ H (freeze ss fr) ∧ Same (fz σ ss H) (fz σ (freeze ss fr) H) := by
  rcases freeze_or ss fr with e | ⟨j, ds, hj, e⟩
  · rw [e]; exact ⟨A, Same.refl _⟩
  · rw [e]
    exact A.freeze1 hj

abbrev WI := List SV → (Option Nat → List ID → Prop) → Prop
structure JI (X : Cx) (tg iter : Expr) (wi : TI) (W : WI) : Prop where
  pi : PI X tg iter wi
  ev : ∀ ss R, W ss R → ∀ σ H, AS (gd X) σ H ss → ∀ Q : It → Hp → Prop, (∀ J H1 fr ids, R fr ids → Same H H1 → IterOk (gd X) J (fz σ (freeze ss fr) H1) ids → Q J H1) → wi σ H Q

section
variable {X : Cx} {a b c e tg : Expr} {ta tb tc te : TE} {Wa Wb Wc : WE} {pos : Pos}
def ones (ds : List D) : List ID := ds.map .one
theorem ones_get {ds : List D} {i : Nat} {d : D} (h : ds[i]? = some d) : (ones ds)[i]? = some (.one d) := by
  unfold ones
  rw [List.getElem?_map, h]
  rfl
/-- the items of a list or a tuple that stands in Hb -/
theorem iter_list {G : Wd} {Hb : Hp} {p : Addr} {xs : List V} {ds : List D} (h : SqL G.K Hb p xs) (t : TpAll G.K Hb xs ds) : IterOk G (Itl G.K p) Hb (ones ds) := by
  have w := (walk_list (K := G.K) (a := p) (xs := xs)).mono (G' := fun H => Same Hb H) (Y' := fun i H x H' => ∃ id, (ones ds)[i]? = some id ∧ ItemV G Hb H H' x id) (fun H s => sq_same s h) fun i H x H' _ _ y => by
    obtain ⟨d, h1, h2⟩ := t.getV y.2
    exact ⟨.one d, ones_get h1, y.1, h2⟩
  unfold IterOk
  rw [show (ones ds).length = xs.length by unfold ones; rw [List.length_map, t.len]]
  exact w
theorem iter_tup {G : Wd} {Hb : Hp} {p : Addr} {xs : List V} {ds : List D} (h : SqT G.K Hb p xs) (hs : ∀ H, Same Hb H → SqT G.K H p xs) (t : TpAll G.K Hb xs ds) : IterOk G (Itt G.K p) Hb (ones ds) := by
  have w := (walk_tup (K := G.K) (a := p) (xs := xs)).mono (G' := fun H => Same Hb H) (Y' := fun i H x H' => ∃ id, (ones ds)[i]? = some id ∧ ItemV G Hb H H' x id) (fun H s => hs H s) fun i H x H' _ _ y => by
    obtain ⟨d, h1, h2⟩ := t.getV y.2
    exact ⟨.one d, ones_get h1, y.1, h2⟩
  unfold IterOk
  rw [show (ones ds).length = xs.length by unfold ones; rw [List.length_map, t.len]]
  exact w
theorem iter_tk {G : Wd} {Hb : Hp} {p : Addr} {xs : List V} {ds : List D} (h : TK Hb p xs) (t : TpAll G.K Hb xs ds) : IterOk G (Itt G.K p) Hb (ones ds) :=
  iter_tup h.sq (fun H s => (h.same s).sq) t
theorem walk_revT {K : PySem.W.Frag} {p : Addr} {xs : List V} : Walk (ItvT K p xs.length) xs.length (fun H => SqT K H p xs) (fun i H x H' => H' = H ∧ xs[xs.length - 1 - i]? = some x) :=
  ⟨fun i _ hi q => ⟨hi, xs, xs[xs.length - 1 - i]'(by omega), q, by simp [show xs.length - 1 - i < xs.length by omega]⟩, fun _ _ => Nat.le_refl _, fun _ _ _ _ _ q y => ⟨y.1, y.2 xs q⟩⟩
theorem iter_revT {G : Wd} {Hb : Hp} {p : Addr} {xs : List V} {ds : List D} (h : TK Hb p xs) (t : TpAll G.K Hb xs ds) : IterOk G (ItvT G.K p xs.length) Hb (ones ds.reverse) := by
  have hl := t.len
  have w := (walk_revT (K := G.K) (p := p) (xs := xs)).mono (G' := fun H => Same Hb H) (Y' := fun i H x H' => ∃ id, (ones ds.reverse)[i]? = some id ∧ ItemV G Hb H H' x id) (fun H s => (h.same s).sq) fun i H x H' hi _ y => by
    obtain ⟨d, h1, h2⟩ := t.getV y.2
    refine ⟨.one d, ones_get ?_, y.1, h2⟩
    rw [List.getElem?_reverse (by omega), ← hl]
    exact h1
  unfold IterOk
  rw [show (ones ds.reverse).length = xs.length by unfold ones; rw [List.length_map, List.length_reverse, hl]]
  exact w
theorem iter_range {G : Wd} {Hb : Hp} {lo : Int} {n : Nat} : IterOk G (Itr lo n) Hb ((List.range n).map fun k => .one (.int (lo + (k : Nat)))) := by
  have w := (walk_range (lo := lo) (n := n)).mono (G' := fun H => Same Hb H) (Y' := fun i H x H' => ∃ id, ((List.range n).map fun k => ID.one (.int (lo + (k : Nat))))[i]? = some id ∧ ItemV G Hb H H' x id) (fun _ _ => trivial) fun i H x H' hi _ y => by
    refine ⟨.one (.int (lo + (i : Nat))), by simp [hi], y.1, ?_⟩
    rw [y.2]
    exact .int _
  unfold IterOk
  rw [List.length_map, List.length_range]
  exact w
/-- no slot owns anything -/
def noMut (ss : List SV) : Bool := ss.all fun s => !s.mut
theorem fz_noMut {σ : St} {ss : List SV} {H : Hp} (h : noMut ss = true) : fz σ ss H = H := by
  funext b
  refine fz_not fun ⟨i, s, e1, e2, _⟩ => ?_
  have := List.all_eq_true.mp h s (List.mem_of_getElem? e1)
  rw [e2] at this
  cases this
/-- new data stands apart from what the slots own -/
theorem tp_fz {G : Wd} {σ : St} {ss : List SV} {H H1 : Hp} {v : V} {d : D} (A : AS G σ H ss) (s : Same H H1) (h : noL d = true ∨ noMut ss = true) (t : Tp G.K H1 v d) : Tp G.K (fz σ ss H1) v d := by
  rcases h with h | h
  · exact t.kt (kt_fz (A.same s)) h
  · rw [fz_noMut h]
    exact t
theorem tpAll_fz {G : Wd} {σ : St} {ss : List SV} {H H1 : Hp} {v : List V} {d : List D} (A : AS G σ H ss) (s : Same H H1) (h : noLs d = true ∨ noMut ss = true) (t : TpAll G.K H1 v d) : TpAll G.K (fz σ ss H1) v d := by
  rcases h with h | h
  · exact t.kt (kt_fz (A.same s)) h
  · rw [fz_noMut h]
    exact t
/-- what is new is in nobody's hands -/
theorem new_fz {G : Wd} {σ : St} {ss : List SV} {H H1 : Hp} {p : Addr} (A : AS G σ H ss) (n : H p = Option.none) : fz σ ss H1 p = H1 p :=
  fz_not fun m => by
    obtain ⟨o, e, _⟩ := A.mutThere m
    rw [n] at e
    cases e
/-- a for over a name's list or tuple -/
def wiVar (i : Nat) : WI := fun ss R => match ss[i]? with
  | some (.dat (.list ds)) => R Option.none (ones ds)
  | some (.dat (.tuple ds)) => R Option.none (ones ds)
  | some (.lst ds) => R (some i) (ones ds)
  | _ => False
theorem ji_varL {i : Nat} (h : PE X e (tVar i)) : JI X tg e (iList X.K (tVar i)) (fun ss R => match ss[i]? with
  | some (.dat (.list ds)) => R Option.none (ones ds)
  | some (.lst ds) => R (some i) (ones ds)
  | _ => False) := by
  refine ⟨pi_list h, fun ss R w σ H A Q q => ?_⟩
  cases hs : ss[i]? with
  | none => rw [hs] at w; cases w
  | some s =>
    rw [hs] at w
    have hx := A.slot i s hs
    cases s with
    | dat d =>
      cases d with
      | list ds =>
        obtain ⟨v, e1, t⟩ := hx
        cases t with
        | lst k t => exact ⟨_, e1, _, rfl, ⟨_, sq_same fz_le k⟩, q _ H Option.none _ w (Same.refl H) (iter_list k t)⟩
      | _ => cases w
    | lst ds =>
      obtain ⟨p, xs, e1, hp, t, z⟩ := hx
      refine ⟨_, e1, _, rfl, ⟨_, .inl (.inl hp)⟩, q _ H (some i) _ w (Same.refl H) ?_⟩
      obtain ⟨A2, f⟩ := A.freeze (some i)
      have hi : i < ss.length := (List.getElem?_eq_some_iff.mp hs).1
      have e3 : freeze ss (some i) = ss.set i (.dat (.list ds)) := freeze_lst hs
      have k := A2.slot i (.dat (.list ds)) (by rw [e3, List.getElem?_set_self hi])
      obtain ⟨v, e4, t4⟩ := k
      rw [e1] at e4
      cases e4
      cases t4 with
      | lst k t => exact iter_list k t
    | _ => cases w
theorem ji_varT {i : Nat} (h : PE X e (tVar i)) : JI X tg e (iTup X.K (tVar i)) (fun ss R => match ss[i]? with
  | some (.dat (.tuple ds)) => R Option.none (ones ds)
  | _ => False) := by
  refine ⟨pi_tup h, fun ss R w σ H A Q q => ?_⟩
  cases hs : ss[i]? with
  | none => rw [hs] at w; cases w
  | some s =>
    rw [hs] at w
    have hx := A.slot i s hs
    cases s with
    | dat d =>
      cases d with
      | tuple ds =>
        obtain ⟨v, e1, t⟩ := hx
        cases t with
        | tup k t => exact ⟨_, e1, _, rfl, ⟨_, (k.same fz_le).sq⟩, q _ H Option.none _ w (Same.refl H) (iter_tk k t)⟩
      | _ => cases w
    | _ => cases w
/-- a for over an expression's tuple -/
def wiT (Wa : WE) : WI := fun ss R => Wa ss (dd fun d => match d with
  | .tuple ds => (noLs ds = true ∨ noMut ss = true) ∧ R Option.none (ones ds)
  | _ => False)
theorem ji_T (ha : JE X a ta Wa) : JI X tg a (iTup X.K ta) (wiT Wa) := by
  refine ⟨pi_tup ha.pe, fun ss R w σ H A Q q => ?_⟩
  refine (ha.ev ss _ w).use A fun d v H1 hd s1 t1 => ?_
  cases d with
  | tuple ds =>
    cases t1 with
    | tup k t => exact ⟨_, rfl, ⟨_, k.sq⟩, q _ H1 Option.none _ hd.2 s1 (iter_tk (kt_fz (A.same s1) _ _ k) (tpAll_fz A s1 hd.1 t))⟩
  | _ => cases hd
/-- a for over an expression's new list -/
def wiL (Wa : WE) : WI := fun ss R => Wa ss fun s => match s with
  | .lst ds => R Option.none (ones ds)
  | .dat (.list ds) => noMut ss = true ∧ R Option.none (ones ds)
  | _ => False
theorem ji_L (ha : JE X a ta Wa) : JI X tg a (iList X.K ta) (wiL Wa) := by
  refine ⟨pi_list ha.pe, fun ss R w σ H A Q q => ?_⟩
  refine ha.ev ss _ w σ H A _ fun s v H1 hs s1 vs => ?_
  cases s with
  | lst ds =>
    obtain ⟨p, xs, rfl, n, e1, t, z⟩ := vs
    refine ⟨p, rfl, ⟨xs, .inl (.inl e1)⟩, q _ H1 Option.none _ hs s1 (iter_list (xs := xs) (.inl (.inl ?_)) (t.kt (kt_fz (A.same s1)) z))⟩
    show fz σ ss H1 p = _
    rw [new_fz A n]
    exact e1
  | dat d =>
    cases d with
    | list ds =>
      cases vs with
      | lst k t =>
        refine ⟨_, rfl, ⟨_, k⟩, q _ H1 Option.none _ hs.2 s1 ?_⟩
        show IterOk _ _ (fz σ ss H1) _
        rw [fz_noMut hs.1]
        exact iter_list k t
    | _ => cases hs
  | _ => cases hs
def rangeIds (lo hi : Int) : List ID := (List.range (hi - lo).toNat).map fun k => .one (.int (lo + (k : Nat)))
def wiR1 (Wa : WA) : WI := fun ss R => Wa ss fun ds => match ds with
  | [.int j] => -(2 ^ 62) ≤ j ∧ j < 2 ^ 62 ∧ R Option.none (rangeIds 0 j)
  | _ => False
theorem vals_i1 {K : PySem.W.Frag} {H : Hp} {vs : List V} {j : Int} (t : TpAll K H vs [.int j]) : vs = [.int j] := by
  cases t with
  | cons h1 h2 =>
    cases h1
    cases h2
    rfl
theorem ji_R1 {t : TA} {Wr : WA} {p : Pos} (hg : Gl X "range") (hm : X.mg "range" = Option.none) (ha : JA X [a] t Wr) (hs : starEach [a] X.env = [(false, eval a X.env)] := by rfl) : JI X tg (.Call (.Name "range" p) [a] [] pos) (iRng1 t) (wiR1 Wr) := by
  refine ⟨pi_range1 hg hm ha.pa hs, fun ss R w σ H A Q q => ?_⟩
  refine ha.ev ss _ w σ H A _ fun ds vs H1 hd s1 t1 => ?_
  match ds, hd, t1 with
  | [.int j], hd, t1 =>
    have e := vals_i1 t1
    subst e
    refine ⟨j, rfl, hd.1, hd.2.1, q _ H1 Option.none _ hd.2.2 s1 ?_⟩
    have := iter_range (G := gd X) (Hb := fz σ (freeze ss Option.none) H1) (lo := 0) (n := j.toNat)
    unfold rangeIds
    rw [show j - 0 = j by omega]
    exact this
def wiR2 (Wa : WA) : WI := fun ss R => Wa ss fun ds => match ds with
  | [.int i, .int j] => (-(2 ^ 62) ≤ i ∧ i < 2 ^ 62 ∧ -(2 ^ 62) ≤ j ∧ j < 2 ^ 62) ∧ R Option.none (rangeIds i j)
  | _ => False
theorem ji_R2 {t : TA} {Wr : WA} {p : Pos} (hg : Gl X "range") (hm : X.mg "range" = Option.none) (ha : JA X [a, b] t Wr) (hs : starEach [a, b] X.env = [(false, eval a X.env), (false, eval b X.env)] := by rfl) (hs2 : starEach [b] X.env = [(false, eval b X.env)] := by rfl) :
    JI X tg (.Call (.Name "range" p) [a, b] [] pos) (iRng2 t) (wiR2 Wr) := by
  refine ⟨pi_range2 hg hm ha.pa hs hs2, fun ss R w σ H A Q q => ?_⟩
  refine ha.ev ss _ w σ H A _ fun ds vs H1 hd s1 t1 => ?_
  match ds, hd, t1 with
  | [.int i, .int j], hd, t1 =>
    cases t1 with
    | cons h1 h2 =>
      cases h1
      have e := vals_i1 h2
      subst e
      exact ⟨i, j, rfl, hd.1, q _ H1 Option.none _ hd.2 s1 iter_range⟩
def wiRev (Wa : WE) : WI := fun ss R => Wa ss (dd fun d => match d with
  | .tuple ds => (noLs ds = true ∨ noMut ss = true) ∧ R Option.none (ones ds.reverse)
  | _ => False)
theorem ji_rev {p : Pos} (hg : Gl X "reversed") (hm : X.mg "reversed" = Option.none) (ha : JE X a ta Wa) (hs : starEach [a] X.env = (false, eval a X.env) :: starEach [] X.env := by rfl) : JI X tg (.Call (.Name "reversed" p) [a] [] pos) (iRevA X.K ta) (wiRev Wa) := by
  refine ⟨pi_revA hg hm ha.pe hs, fun ss R w σ H A Q q => ?_⟩
  refine (ha.ev ss _ w).use A fun d v H1 hd s1 t1 => ?_
  cases d with
  | tuple ds =>
    cases t1 with
    | tup k t => exact ⟨_, _, rfl, .inr ⟨k.sq, q _ H1 Option.none _ hd.2 s1 (iter_revT (kt_fz (A.same s1) _ _ k) (tpAll_fz A s1 hd.1 t))⟩⟩
  | _ => cases hd
end
end Ab

set_option Elab.async false
set_option linter.all false
set_option maxRecDepth 100000
set_option maxHeartbeats 400000
/-! Ab5: targets, comprehensions. -/
namespace Ab
open PySem PySem.Spec L2
open PyProof.Rows hiding St

/-! ### slots forgotten -/
theorem wipe_get (σ : St) (j : Nat) : ∀ vs : List Nat, (wipe σ vs)[j]? = if j ∈ vs then (if j < σ.length then some Option.none else Option.none) else σ[j]?
  | [] => by simp [wipe]
  | v :: vs => by
    unfold wipe
    by_cases h : v = j
    · subst h
      rw [if_pos List.mem_cons_self]
      by_cases hl : v < σ.length
      · rw [if_pos hl, List.getElem?_set_self (by rw [wipe_length]; exact hl)]
      · rw [if_neg hl]
        exact List.getElem?_eq_none (by rw [List.length_set, wipe_length]; omega)
    · rw [List.getElem?_set_ne h, wipe_get σ j vs]
      by_cases hm : j ∈ vs
      · rw [if_pos hm, if_pos (List.mem_cons_of_mem _ hm)]
      · rw [if_neg hm, if_neg (by simp [hm, Ne.symm h])]
theorem wipe_set {σ : St} {vs : List Nat} {k : Nat} {x : Option V} (h : k ∈ vs) : wipe (σ.set k x) vs = wipe σ vs := by
  refine List.ext_getElem? fun j => ?_
  rw [wipe_get, wipe_get, List.length_set]
  by_cases hj : j ∈ vs
  · rw [if_pos hj, if_pos hj]
  · rw [if_neg hj, if_neg hj, List.getElem?_set_ne (show k ≠ j from fun e => hj (by rw [← e]; exact h))]
theorem wipe_wipe {σ : St} {vs : List Nat} : wipe (wipe σ vs) vs = wipe σ vs := by
  refine List.ext_getElem? fun j => ?_
  rw [wipe_get, wipe_get, wipe_length]
  by_cases hj : j ∈ vs
  · rw [if_pos hj, if_pos hj]
  · rw [if_neg hj]
def wipeSS (ss : List SV) : List Nat → List SV
  | [] => ss
  | v :: vs => (wipeSS ss vs).set v .no
section
variable {G : Wd} {σ : St} {ss : List SV} {H H1 H' : Hp} {v : V}
theorem fz_set {x : Option V} {i : Nat} {s : SV} (hm : s.mut = false) : Same (fz σ ss H) (fz (σ.set i x) (ss.set i s) H) :=
  fz_of (Same.refl H) fun b ⟨k, t, e1, e2, e3⟩ => by
    rcases get_set e1 with ⟨_, e, _⟩ | ⟨z, e⟩
    · subst e
      rw [hm] at e2
      cases e2
    · rw [List.getElem?_set_ne z] at e3
      exact .inl ⟨k, t, e, e2, e3⟩
theorem AS.setN {x : Option V} {i : Nat} {s : SV} (A : AS G σ H ss) (hm : s.mut = false) (hs : ∀ F, Same (fz σ ss H) F → SlotOk G F H (some x) s) : AS G (σ.set i x) H (ss.set i s) ∧ Same (fz σ ss H) (fz (σ.set i x) (ss.set i s) H) := by
  have f := fz_set (σ := σ) (ss := ss) (H := H) (x := x) (i := i) hm
  refine ⟨⟨by rw [List.length_set, List.length_set, A.len], fun j t e => ?_, fun j k p t u e1 e2 m1 m2 e3 e4 => ?_⟩, f⟩
  · rcases get_set e with ⟨e1, e2, hl⟩ | ⟨e1, e2⟩
    · subst e1
      subst e2
      rw [List.getElem?_set_self (by rw [A.len]; exact hl)]
      exact hs _ f
    · rw [List.getElem?_set_ne e1]
      exact (A.slot j t e2).mono f (Same.refl H)
  · rcases get_set e1 with ⟨_, e, _⟩ | ⟨a1, a2⟩
    · subst e
      rw [hm] at m1
      cases m1
    · rcases get_set e2 with ⟨_, e, _⟩ | ⟨b1, b2⟩
      · subst e
        rw [hm] at m2
        cases m2
      · rw [List.getElem?_set_ne a1] at e3
        rw [List.getElem?_set_ne b1] at e4
        exact A.sep j k p t u a2 b2 m1 m2 e3 e4
theorem AS.setD {i : Nat} {d : D} (A : AS G σ H ss) (t : Tp G.K (fz σ ss H) v d) : AS G (σ.set i (some v)) H (ss.set i (.dat d)) ∧ Same (fz σ ss H) (fz (σ.set i (some v)) (ss.set i (.dat d)) H) :=
  A.setN rfl fun F f => ⟨v, rfl, t.same f⟩
theorem AS.wipe (A : AS G σ H ss) : ∀ vs : List Nat, AS G (L2.wipe σ vs) H (wipeSS ss vs) ∧ Same (fz σ ss H) (fz (L2.wipe σ vs) (wipeSS ss vs) H)
  | [] => ⟨A, Same.refl _⟩
  | k :: vs => by
    obtain ⟨A2, f⟩ := AS.wipe A vs
    obtain ⟨A3, f3⟩ := A2.setN (x := Option.none) (i := k) (s := .no) rfl fun _ _ => trivial
    exact ⟨A3, f.trans f3⟩
end

/-! ### targets -/
abbrev WG := ID → List SV → (List SV → Prop) → Prop
structure JG (X : Cx) (tg : Expr) (g : TG) (T : WG) (sl : List Nat) : Prop where
  pg : PG X tg g
  ev : ∀ id ss K, T id ss K → ∀ σ H, AS (gd X) σ H ss → ∀ Hb, Same Hb (fz σ ss H) → ∀ v H', ItemV (gd X) Hb H H' v id → ∀ Q : St → Hp → Prop,
    (∀ ss' σ', K ss' → AS (gd X) σ' H' ss' → Same (fz σ ss H) (fz σ' ss' H') → (∀ vs, (∀ k ∈ sl, k ∈ vs) → wipe σ' vs = wipe σ vs) → Q σ' H') → g v σ H' Q
def gN (i : Nat) : WG := fun id ss K => match id with
  | .one d => K (ss.set i (.dat d))
  | _ => False
def gP (i j : Nat) : WG := fun id ss K => match id with
  | .two d e => K ((ss.set i (.dat d)).set j (.dat e))
  | .one (.tuple [d, e]) => K ((ss.set i (.dat d)).set j (.dat e))
  | _ => False
section
variable {X : Cx} {tg : Expr}
theorem jg_name {i : Nat} (h : PG X tg (gName i)) : JG X tg (gName i) (gN i) [i] := by
  refine ⟨h, fun id ss K w σ H A Hb f v H' it Q q => ?_⟩
  cases id with
  | one d =>
    obtain ⟨rfl, t⟩ := it
    obtain ⟨A2, f2⟩ := A.setD (i := i) (t.same f)
    exact q _ _ w A2 f2 fun vs hv => wipe_set (hv i List.mem_cons_self)
  | two d e => cases w
theorem pair_go {G : Wd} {i j : Nat} {ss : List SV} {d e : D} {K : List SV → Prop} {σ : St} {H H' : Hp} {p : Addr} {x y : V} (A : AS G σ H' ss) (f : Same (fz σ ss H) (fz σ ss H')) (k : SqT G.K H' p [x, y]) (t1 : Tp G.K (fz σ ss H') x d) (t2 : Tp G.K (fz σ ss H') y e)
    (w : K ((ss.set i (.dat d)).set j (.dat e))) {Q : St → Hp → Prop} (q : ∀ ss' σ', K ss' → AS G σ' H' ss' → Same (fz σ ss H) (fz σ' ss' H') → (∀ vs, (∀ k ∈ [i, j], k ∈ vs) → wipe σ' vs = wipe σ vs) → Q σ' H') :
    gTup G.K 2 (gCons (gName i) (gCons (gName j) gNil)) (.ref p) σ H' Q := by
  obtain ⟨A2, f2⟩ := A.setD (i := i) t1
  obtain ⟨A3, f3⟩ := A2.setD (i := j) (t2.same f2)
  have fin : Q ((σ.set i (some x)).set j (some y)) H' := q _ _ w A3 (f.trans (f2.trans f3)) fun vs hv => (wipe_set (hv j (by simp))).trans (wipe_set (hv i (by simp)))
  exact ⟨p, [x, y], rfl, k, rfl, x, [y], rfl, y, [], rfl, rfl, fin⟩
theorem jg_pair {i j n : Nat} (hn : n = 2) (h : PG X tg (gTup X.K n (gCons (gName i) (gCons (gName j) gNil)))) : JG X tg (gTup X.K n (gCons (gName i) (gCons (gName j) gNil))) (gP i j) [i, j] := by
  subst hn
  refine ⟨h, fun id ss K w σ H A Hb f v H' it Q q => ?_⟩
  cases id with
  | one d =>
    have e1 : H' = H := it.1
    have t : Tp X.K Hb v d := it.2
    subst e1
    cases d with
    | tuple ds =>
      cases ds with
      | nil => exact False.elim w
      | cons d ds =>
        cases ds with
        | nil => exact False.elim w
        | cons e ds =>
          cases ds with
          | cons _ _ => exact False.elim w
          | nil =>
            cases t with
            | tup k t =>
              cases t with
              | cons t1 t =>
                cases t with
                | cons t2 t =>
                  cases t
                  exact pair_go (G := gd X) A (Same.refl _) ((k.same (f.trans fz_le)).sq) (t1.same f) (t2.same f) w q
    | _ => exact False.elim w
  | two d e =>
    obtain ⟨T, x, y, e1, n, e2, t1, t2⟩ := it
    subst e1
    subst e2
    have s := same_new (o := .tup [x, y]) n
    have f1 := f.trans (fz_same (σ := σ) (ss := ss) s)
    exact pair_go (G := gd X) (A.same s) (fz_same s) (.inl (.inl upd_same)) (t1.same f1) (t2.same f1) w q
end

/-! ### [e for t in it if c] -/
structure JTs (X : Cx) (ifs : List Expr) (tt : TT) (W : WE) : Prop where
  pts : PTs X ifs tt
  ev : ∀ ss R, W ss (bb R) → ∀ σ H, AS (gd X) σ H ss → ∀ Q : Bool → Hp → Prop, (∀ b H', R b → Same H H' → Q b H') → tt σ H Q
def wYes : WE := fun _ R => R (.dat (.bool true))
theorem jts_nil {X : Cx} : JTs X [] tYes wYes := ⟨pts_nil, fun ss R w σ H A Q q => q true H w (Same.refl H)⟩
theorem jts_one {X : Cx} {c : Expr} {tt : TT} {W : WE} (h : JT X c tt W) : JTs X [c] tt W := ⟨pts_one h.pt, h.ev⟩
def lcRun (T : WG) (Wt We : WE) (ss0 : List SV) : List ID → List D → (List D → Prop) → Prop
  | [], acc, K => K acc
  | id :: ids, acc, K => T id ss0 fun ss1 => Wt ss1 (bb fun b => if b = true then We ss1 (dd fun e => noL e = true ∧ acc.length < sizeLine ∧ lcRun T Wt We ss0 ids (acc ++ [e]) K) else lcRun T Wt We ss0 ids acc K)
def wLc (W : WI) (T : WG) (Wt We : WE) (vs : List Nat) : WE := fun ss R => W ss fun fr ids => lcRun T Wt We (wipeSS (freeze ss fr) vs) ids [] fun es => R (.lst es)
theorem ev_lc {G : Wd} {ss : List SV} {R : SV → Prop} {wi : TI} {g : TG} {tt : TT} {te : TE} {vs sl : List Nat} {W : WI} {T : WG} {Wt We : WE}
    (hi : ∀ ss R, W ss R → ∀ σ H, AS G σ H ss → ∀ Q : It → Hp → Prop, (∀ J H1 fr ids, R fr ids → Same H H1 → IterOk G J (fz σ (freeze ss fr) H1) ids → Q J H1) → wi σ H Q)
    (hg : ∀ id ss K, T id ss K → ∀ σ H, AS G σ H ss → ∀ Hb, Same Hb (fz σ ss H) → ∀ v H', ItemV G Hb H H' v id → ∀ Q : St → Hp → Prop,
      (∀ ss' σ', K ss' → AS G σ' H' ss' → Same (fz σ ss H) (fz σ' ss' H') → (∀ vs, (∀ k ∈ sl, k ∈ vs) → wipe σ' vs = wipe σ vs) → Q σ' H') → g v σ H' Q)
    (ht : ∀ ss R, Wt ss (bb R) → ∀ σ H, AS G σ H ss → ∀ Q : Bool → Hp → Prop, (∀ b H', R b → Same H H' → Q b H') → tt σ H Q)
    (he : Ev G te We) (hsl : ∀ k ∈ sl, k ∈ vs) (w : wLc W T Wt We vs ss R) : EvQ G (tLc wi g tt te vs) ss R := by
  intro σ H A Q q
  refine hi ss _ w σ H A _ fun J H1 fr ids hr s1 it D hD => ?_
  obtain ⟨A1, f1⟩ := (A.same s1).freeze fr
  refine lc_it (vs := vs) it (fun k H' => Same H1 H' ∧ ∃ xs acc, H' D = some (.lst xs) ∧ TpAll G.K H' xs acc ∧ noLs acc = true ∧ lcRun T Wt We (wipeSS (freeze ss fr) vs) (ids.drop k) acc fun es => R (.lst es))
    ⟨same_new hD, [], [], upd_same, .nil, rfl, hr⟩ (fun i H' _ p => fz_le.trans p.1) ?_ ?_
  · rintro i x H2 H3 hlt ⟨s2, xs, acc, eD, ta, za, run⟩ ⟨id, hid, iv⟩
    have hdrop : ids.drop i = id :: ids.drop (i + 1) := by
      have hl := (List.getElem?_eq_some_iff.mp hid).1
      have e := (List.getElem?_eq_some_iff.mp hid).2
      rw [List.drop_eq_getElem_cons hl, e]
    rw [hdrop] at run
    obtain ⟨A2, f2⟩ := (A1.same s2).wipe vs
    have fb : Same (fz σ (freeze ss fr) H1) (fz (wipe σ vs) (wipeSS (freeze ss fr) vs) H2) := (fz_same s2).trans f2
    refine hg id _ _ run _ _ A2 _ fb x H3 iv _ fun ss' σ' hK A3 f3 hw => ⟨?_, ?_⟩
    · rw [hw vs hsl, wipe_wipe]
    · have s23 : Same H2 H3 := by
        cases id with
        | one d => rw [iv.1]; exact Same.refl _
        | two d e => obtain ⟨T', x', y', _, n, e3, _⟩ := iv; rw [e3]; exact same_new n
      refine ht ss' _ hK σ' H3 A3 _ fun b H4 hb s4 => ?_
      have ktl : ∀ {H5 : Hp}, Same H3 H5 → TpAll G.K H5 xs acc := fun s5 => ta.same (s23.trans s5)
      cases b with
      | false =>
        rw [if_neg (by decide)] at hb ⊢
        exact ⟨s2.trans (s23.trans s4), xs, acc, s4 _ _ (s23 _ _ eD), ktl s4, za, hb⟩
      | true =>
        rw [if_pos rfl] at hb ⊢
        refine (he ss' _ hb).use (A3.same s4) fun d y H5 hd s5 td => ?_
        obtain ⟨zd, hlen, run2⟩ := hd
        have eD5 : H5 D = some (.lst xs) := s5 _ _ (s4 _ _ (s23 _ _ eD))
        have kt5 : Kt H5 (upd H5 D (.lst (xs ++ [y]))) := kt_mut fun ob u z => by
          rw [eD5] at z
          cases z
        refine ⟨xs, eD5, by rw [ta.len]; exact hlen, fun b o e => ?_, xs ++ [y], acc ++ [d], upd_same, ?_, noLs_append za (noLs_one zd), run2⟩
        · have hne : b ≠ D := ne_of_none e hD
          rw [upd_ne hne]
          exact s5 _ _ (s4 _ _ (s23 _ _ (s2 _ _ e)))
        · exact ((ktl (s4.trans s5)).kt kt5 za).append (TpAll.one (td.kt kt5 zd))
  · rintro H2 ⟨s2, xs, acc, eD, ta, za, run⟩
    rw [List.drop_length] at run
    have s2' := s1.trans s2
    exact q (.lst acc) _ H2 run s2' ⟨D, xs, rfl, s1.free hD, eD, ta, za⟩
theorem je_lc {X : Cx} {elt tg iter : Expr} {ifs : List Expr} {scope : Scope} {own : List (Str × Nat)} {pos : Pos} {wi : TI} {g : TG} {tt : TT} {te : TE} {W : WI} {T : WG} {Wt We : WE} {sl : List Nat}
    (hc : X.calm = true) (hN : X.N.Nodup) (hi : JI X tg iter wi W) (ok : BlkOk X.N X.env.scope scope own)
    (hg : ∀ (s : Shared) (H : Hp) (C : Addr) (cl : List (Str × Addr)) (fp : List Addr), JG (X.blk s H scope (compEnvC scope cl C X.env) fp) tg g T sl)
    (ht : ∀ (s : Shared) (H : Hp) (C : Addr) (cl : List (Str × Addr)) (fp : List Addr), JTs (X.blk s H scope (compEnvC scope cl C X.env) fp) ifs tt Wt)
    (he : ∀ (s : Shared) (H : Hp) (C : Addr) (cl : List (Str × Addr)) (fp : List Addr), JE (X.blk s H scope (compEnvC scope cl C X.env) fp) elt te We)
    (hsl : ∀ k ∈ sl, k ∈ own.map (·.2) := by decide) (hs : ∀ x, foldedSetIterable iter X.env x = pure x := by intro _; rfl) :
    JE X (.ListComp elt [⟨tg, iter, ifs, 0⟩] scope pos) (tLc wi g tt te (own.map (·.2))) (wLc W T Wt We (own.map (·.2))) :=
  ⟨pe_lc hc hN hi.pi ok (fun s H C cl fp => (hg s H C cl fp).pg) (fun s H C cl fp => (ht s H C cl fp).pts) (fun s H C cl fp => (he s H C cl fp).pe) hs,
    fun ss R w => ev_lc (G := gd X) hi.ev (hg X.s_0 X.H_0 0 [] []).ev (ht X.s_0 X.H_0 0 [] []).ev (he X.s_0 X.H_0 0 [] []).ev hsl w⟩
end Ab

set_option Elab.async false
set_option linter.all false
set_option maxRecDepth 100000
set_option maxHeartbeats 1000000
/-! Ab6: statements, loops, defs, on abstract states. -/
namespace Ab
open PySem PySem.Spec L2
open PyProof.Rows hiding St

inductive Out where
  | nx (ss : List SV)
  | rt (r : SV)
  | xc (C : Addr)
abbrev WS := List SV → (Out → Prop) → Prop
def PostOut (G : Wd) (HB : Hp) (E : XK) (D : Ends) : Out → Prop
  | .nx ss => ∀ σ' H', AS G σ' H' ss → Same HB (fz σ' ss H') → D.nx σ' H'
  | .rt r => ∀ v H', Same HB H' → Val G HB H' v r → D.rt v H'
  | .xc C => ∀ H', Same HB H' → E (.ref C) Option.none H'
theorem PostOut.base {G : Wd} {HB HC : Hp} {E : XK} {D : Ends} {o : Out} (s : Same HB HC) (h : PostOut G HB E D o) : PostOut G HC E D o := by
  cases o with
  | nx ss => exact fun σ' H' A f => h σ' H' A (s.trans f)
  | rt r => exact fun v H' f q => h v H' (s.trans f) (q.base s)
  | xc C => exact fun H' f => h H' (s.trans f)
def Rn (G : Wd) (E : XK) (ts : TS) (W : WS) : Prop := ∀ ss O, W ss O → ∀ HB σ H D, AS G σ H ss → Same HB (fz σ ss H) → (∀ o, O o → PostOut G HB E D o) → ts D σ H
structure JS (X : Cx) (E : XK) (st : Stmt) (ts : TS) (W : WS) : Prop where
  ps : PS X st ts
  ev : Rn (gd X) E ts W
structure JB (X : Cx) (E : XK) (st : List Stmt) (ts : TS) (W : WS) : Prop where
  ps : PSs X st ts
  ev : Rn (gd X) E ts W
section
variable {X : Cx} {E : XK} {st : Stmt} {rest body orelse : List Stmt} {t u tb : TS} {W V2 Wb : WS} {a e c tg : Expr} {ta te : TE} {tc : TT} {Wa We Wc : WE} {pos pos' : Pos}

/-! ### blocks -/
def wNx : WS := fun ss O => O (.nx ss)
theorem jb_nil : JB X E [] tNext wNx := ⟨pss_nil, fun ss O w HB σ H D A f q => q _ w σ H A f⟩
theorem js_pass : JS X E (.Pass pos) tNext wNx := ⟨ps_pass, fun ss O w HB σ H D A f q => q _ w σ H A f⟩
theorem jb_one (h : JS X E st t W) : JB X E [st] t W := ⟨pss_one h.ps, h.ev⟩
def nxt (K : List SV → Prop) (O : Out → Prop) : Out → Prop
  | .nx ss => K ss
  | .rt r => O (.rt r)
  | .xc C => O (.xc C)
def wSeq (W V2 : WS) : WS := fun ss O => W ss (nxt (fun ss' => V2 ss' O) O)
theorem jb_cons (h : JS X E st t W) (h2 : JB X E rest u V2) : JB X E (st :: rest) (tSeq t u) (wSeq W V2) := by
  refine ⟨pss_cons h.ps h2.ps, fun ss O w HB σ H D A f q => ?_⟩
  refine h.ev ss _ w HB σ H _ A f fun o ho => ?_
  cases o with
  | nx ss' => exact fun σ' H' A' f' => h2.ev ss' O ho HB σ' H' D A' f' q
  | rt r => exact q (.rt r) ho
  | xc C => exact q (.xc C) ho

/-! ### return, expressions dropped -/
def wRet (We : WE) : WS := fun ss O => We ss fun r => O (.rt r)
theorem js_ret (h : JE X e te We) : JS X E (.Return (some e) pos) (tRet te) (wRet We) :=
  ⟨ps_ret h.pe, fun ss O w HB σ H D A f q => h.ev ss _ w σ H A _ fun r v H' hr s1 hv => q _ hr v H' (f.trans (fz_le.trans s1)) (hv.base (f.trans fz_le))⟩
/-- return of a name: its own list goes out -/
def wRetV (i : Nat) : WS := fun ss O => match ss[i]? with
  | some .no => False
  | some r => O (.rt r)
  | _ => False
theorem own_val {G : Wd} {HB H : Hp} {σ : St} {ss : List SV} {i : Nat} {s : SV} (A : AS G σ H ss) (f : Same HB (fz σ ss H)) (hs : ss[i]? = some s) (hn : s ≠ .no) : ∃ v, σ[i]? = some (some v) ∧ Val G HB H v s := by
  have hx := A.slot i s hs
  have free : ∀ p, σ[i]? = some (some (.ref p)) → s.mut = true → HB p = Option.none := fun p e m =>
    f.free (fz_mut ⟨i, s, hs, m, e⟩)
  cases s with
  | no => exact absurd rfl hn
  | dat d => obtain ⟨v, e1, t⟩ := hx; exact ⟨v, e1, fz_tp t⟩
  | lst ds => obtain ⟨p, xs, e1, h⟩ := hx; exact ⟨_, e1, p, xs, rfl, free p e1 rfl, h⟩
  | dT kvs => obtain ⟨p, xs, e1, h⟩ := hx; exact ⟨_, e1, p, xs, rfl, free p e1 rfl, h⟩
  | dK kvs => obtain ⟨p, xs, e1, h⟩ := hx; exact ⟨_, e1, p, xs, rfl, free p e1 rfl, h⟩
  | bT kvs => obtain ⟨p, L, e1, h1, h2⟩ := hx; exact ⟨_, e1, p, L, rfl, fz_le _ _ h1, h2.kt (kt_of_same fz_le)⟩
  | bK p kvs => obtain ⟨o, L, e1, h1, h2⟩ := hx; exact ⟨_, e1, o, L, rfl, fz_le _ _ h1, h2.kt (kt_of_same fz_le)⟩
theorem js_retV {i : Nat} (h : PE X e (tVar i)) : JS X E (.Return (some e) pos) (tRet (tVar i)) (wRetV i) := by
  refine ⟨ps_ret h, fun ss O w HB σ H D A f q => ?_⟩
  unfold wRetV at w
  cases hs : ss[i]? with
  | none => rw [hs] at w; cases w
  | some s =>
    rw [hs] at w
    have hn : s ≠ .no := fun z => by
      subst z
      cases w
    obtain ⟨v, e1, hv⟩ := own_val A f hs hn
    refine ⟨v, e1, q (.rt s) ?_ v H (f.trans fz_le) hv⟩
    cases s with
    | no => exact absurd rfl hn
    | _ => exact w

/-! ### stores to names -/
def stor (ss : List SV) : SV → Prop
  | .dat d => noL d = true ∨ noMut ss = true
  | .bT _ => False
  | .bK _ _ => False
  | _ => True
theorem store_as {G : Wd} {HB H H1 : Hp} {σ : St} {ss : List SV} {i : Nat} {r : SV} {v : V} (A : AS G σ H ss) (f : Same HB (fz σ ss H)) (s1 : Same H H1) (hv : Val G H H1 v r) (hst : stor ss r) :
    AS G (σ.set i (some v)) H1 (ss.set i r) ∧ Same HB (fz (σ.set i (some v)) (ss.set i r) H1) := by
  have A1 := A.same s1
  have f1 := f.trans (fz_same (σ := σ) (ss := ss) s1)
  cases r with
  | no =>
    obtain ⟨A2, f2⟩ := A1.setN (x := some v) (i := i) (s := .no) rfl fun _ _ => trivial
    exact ⟨A2, f1.trans f2⟩
  | dat d =>
    obtain ⟨A2, f2⟩ := A1.setD (i := i) (tp_fz A s1 hst hv)
    exact ⟨A2, f1.trans f2⟩
  | lst ds =>
    obtain ⟨p, xs, rfl, n, e, t, z⟩ := hv
    obtain ⟨A2, f2⟩ := A.set (s := .lst ds) (i := i) (v := .ref p) s1 ⟨p, xs, rfl, e, t, z⟩ fun _ p' e' => by cases e'; exact n
    exact ⟨A2, f.trans f2⟩
  | dT kvs =>
    obtain ⟨p, xs, rfl, n, e, t⟩ := hv
    obtain ⟨A2, f2⟩ := A.set (s := .dT kvs) (i := i) (v := .ref p) s1 ⟨p, xs, rfl, e, t⟩ fun _ p' e' => by cases e'; exact n
    exact ⟨A2, f.trans f2⟩
  | dK kvs =>
    obtain ⟨p, xs, rfl, n, e, t⟩ := hv
    obtain ⟨A2, f2⟩ := A.set (s := .dK kvs) (i := i) (v := .ref p) s1 ⟨p, xs, rfl, e, t⟩ fun _ p' e' => by cases e'; exact n
    exact ⟨A2, f.trans f2⟩
  | bT kvs => exact False.elim hst
  | bK p kvs => exact False.elim hst
def wAsg (i : Nat) (We : WE) : WS := fun ss O => We ss fun r => stor ss r ∧ O (.nx (ss.set i r))
theorem ev_asg {i : Nat} (h : Ev (gd X) te We) : Rn (gd X) E (tAsg te (gName i)) (wAsg i We) := by
  intro ss O w HB σ H D A f q
  refine h ss _ w σ H A _ fun r v H1 hr s1 hv => ?_
  obtain ⟨A2, f2⟩ := store_as (i := i) A f s1 hv hr.1
  exact q _ hr.2 _ _ A2 f2
theorem js_asg {i : Nat} (h : JE X e te We) (hp : PE X e te → PS X st (tAsg te (gName i))) : JS X E st (tAsg te (gName i)) (wAsg i We) := ⟨hp h.pe, ev_asg h.ev⟩
theorem js_asg' {i : Nat} (h : Ev (gd X) te We) (hp : PS X st (tAsg te (gName i))) : JS X E st (tAsg te (gName i)) (wAsg i We) := ⟨hp, ev_asg h⟩
theorem AS.move {G : Wd} {H : Hp} {σ : St} {ss : List SV} {i j : Nat} {ds : List D} {p : Addr} (A : AS G σ H ss) (hij : i ≠ j) (hs : ss[j]? = some (.lst ds)) (e1 : σ[j]? = some (some (.ref p))) :
    AS G (σ.set i (some (.ref p))) H ((ss.set j .no).set i (.lst ds)) ∧ Same (fz σ ss H) (fz (σ.set i (some (.ref p))) ((ss.set j .no).set i (.lst ds)) H) := by
  have low : ∀ (k : Nat) (t' : SV), ((ss.set j .no).set i (.lst ds))[k]? = some t' → (k = i ∧ t' = .lst ds ∧ i < σ.length) ∨ (k ≠ i ∧ t' = .no) ∨ (i ≠ k ∧ k ≠ j ∧ ss[k]? = some t') := fun k t' e => by
    rcases get_set e with ⟨e2, e3, hl⟩ | ⟨e2, e3⟩
    · rw [List.length_set, ← A.len] at hl
      exact .inl ⟨e2.symm, e3, hl⟩
    · rcases get_set e3 with ⟨c1, c2, _⟩ | ⟨c1, c2⟩
      · exact .inr (.inl ⟨Ne.symm e2, c2⟩)
      · exact .inr (.inr ⟨e2, Ne.symm c1, c2⟩)
  have f : Same (fz σ ss H) (fz (σ.set i (some (.ref p))) ((ss.set j .no).set i (.lst ds)) H) := fz_of (Same.refl H) fun b ⟨l, t2, c1, c2, c3⟩ => by
    rcases low l t2 c1 with ⟨d1, d2, hl⟩ | ⟨d1, d2⟩ | ⟨d1, d2, d3⟩
    · rw [d1, List.getElem?_set_self hl] at c3
      cases c3
      exact .inl ⟨j, _, hs, rfl, e1⟩
    · rw [d2] at c2
      cases c2
    · rw [List.getElem?_set_ne d1] at c3
      exact .inl ⟨l, t2, d3, c2, c3⟩
  refine ⟨⟨by rw [List.length_set, List.length_set, List.length_set, A.len], fun k t' e => ?_, fun k l p' t' u' b1 b2 m1 m2 b3 b4 => ?_⟩, f⟩
  · rcases low k t' e with ⟨d1, d2, hl⟩ | ⟨d1, d2⟩ | ⟨d1, d2, d3⟩
    · obtain ⟨p2, xs, e2, h2, t, z⟩ := A.slot j _ hs
      rw [e1] at e2
      cases e2
      rw [d1, d2, List.getElem?_set_self hl]
      exact ⟨p, xs, rfl, h2, t, z⟩
    · rw [d2]
      trivial
    · rw [List.getElem?_set_ne d1]
      exact (A.slot k t' d3).mono f (Same.refl H)
  · rcases low k t' b1 with ⟨d1, d2, hl⟩ | ⟨d1, d2⟩ | ⟨d1, d2, d3⟩
    · rw [d1, List.getElem?_set_self hl] at b3
      cases b3
      rcases low l u' b2 with ⟨g1, g2, _⟩ | ⟨g1, g2⟩ | ⟨g1, g2, g3⟩
      · rw [d1, g1]
      · rw [g2] at m2
        cases m2
      · rw [List.getElem?_set_ne g1] at b4
        exact absurd (A.sep l j _ _ _ g3 hs m2 rfl b4 e1) g2
    · rw [d2] at m1
      cases m1
    · rw [List.getElem?_set_ne d1] at b3
      rcases low l u' b2 with ⟨g1, g2, hl⟩ | ⟨g1, g2⟩ | ⟨g1, g2, g3⟩
      · rw [g1, List.getElem?_set_self hl] at b4
        cases b4
        exact absurd (A.sep k j _ _ _ d3 hs m1 rfl b3 e1) d2
      · rw [g2] at m2
        cases m2
      · rw [List.getElem?_set_ne g1] at b4
        exact A.sep k l p' t' u' d3 g3 m1 m2 b3 b4
/-- x = y: an own list goes over -/
def wMove (i j : Nat) : WS := fun ss O => i ≠ j ∧ match ss[j]? with
  | some (.dat d) => O (.nx (ss.set i (.dat d)))
  | some (.lst ds) => O (.nx ((ss.set j .no).set i (.lst ds)))
  | _ => False
theorem js_move {i j : Nat} (h : PS X st (tAsg (tVar j) (gName i))) : JS X E st (tAsg (tVar j) (gName i)) (wMove i j) := by
  refine ⟨h, fun ss O w HB σ H D A f q => ?_⟩
  obtain ⟨hij, w⟩ := w
  cases hs : ss[j]? with
  | none => rw [hs] at w; cases w
  | some s =>
    rw [hs] at w
    have hx := A.slot j s hs
    cases s with
    | dat d =>
      obtain ⟨v, e1, t⟩ := hx
      obtain ⟨A2, f2⟩ := A.setD (i := i) t
      exact ⟨v, e1, q _ w _ _ A2 (f.trans f2)⟩
    | lst ds =>
      obtain ⟨p, xs, e1, h2, t, z⟩ := hx
      obtain ⟨A2, f2⟩ := A.move hij hs e1
      exact ⟨_, e1, q _ w _ _ A2 (f.trans f2)⟩
    | no => exact False.elim w
    | _ => exact False.elim w

/-! ### if, for, while -/
def wIf (Wc : WE) (Wa Wb : WS) : WS := fun ss O => Wc ss (bb fun k => if k = true then Wa ss O else Wb ss O)
theorem js_if {Wa Wb : WS} (hc : JT X c tc Wc) (ha : JB X E body t Wa) (hb : JB X E orelse u Wb) : JS X E (.If c body orelse pos) (tIfS tc t u) (wIf Wc Wa Wb) := by
  refine ⟨ps_if hc.pt ha.ps hb.ps, fun ss O w HB σ H D A f q => ?_⟩
  refine hc.ev ss _ w σ H A _ fun k H1 hk s1 => ?_
  have f1 := f.trans (fz_same (σ := σ) (ss := ss) s1)
  cases k with
  | true =>
    rw [if_pos rfl] at hk ⊢
    exact ha.ev ss O hk HB σ H1 D (A.same s1) f1 q
  | false =>
    rw [if_neg (by decide)] at hk ⊢
    exact hb.ev ss O hk HB σ H1 D (A.same s1) f1 q
def forRun (T : WG) (Wb : WS) : List ID → List SV → (Out → Prop) → Prop
  | [], ss, O => O (.nx ss)
  | id :: ids, ss, O => T id ss fun ss1 => Wb ss1 (nxt (fun ss2 => forRun T Wb ids ss2 O) O)
def wFor (Wi : WI) (T : WG) (Wb : WS) : WS := fun ss O => Wi ss fun fr ids => forRun T Wb ids (freeze ss fr) O
theorem item_same {G : Wd} {Hb H H' : Hp} {v : V} {id : ID} (h : ItemV G Hb H H' v id) : Same H H' := by
  cases id with
  | one d => rw [h.1]; exact Same.refl _
  | two d e => obtain ⟨T', x', y', _, n, e3, _⟩ := h; rw [e3]; exact same_new n
theorem js_for {wi : TI} {g : TG} {T : WG} {sl : List Nat} {Wi : WI} (hp : PassesOwn (model X.prog X.w) X.A X.env X.xe) (hc : X.calm = true) (hi : JI X tg a wi Wi) (hg : JG X tg g T sl) (hb : JB X E body tb Wb)
    (hs : ∀ x, foldedSetIterable a X.env x = pure x := by intro _; rfl) : JS X E (.For tg a body [] pos) (tFor wi g tb) (wFor Wi T Wb) := by
  refine ⟨ps_for hp hc hi.pi hg.pg hb.ps hs, fun ss O w HB σ H D A f q => ?_⟩
  refine hi.ev ss _ w σ H A _ fun J H1 fr ids hr s1 it => ?_
  obtain ⟨A1, f1⟩ := (A.same s1).freeze fr
  have fB : Same HB (fz σ (freeze ss fr) H1) := f.trans ((fz_same s1).trans f1)
  refine for_it it (fun k σ' H' => ∃ ss', AS (gd X) σ' H' ss' ∧ Same (fz σ (freeze ss fr) H1) (fz σ' ss' H') ∧ forRun T Wb (ids.drop k) ss' O) ⟨_, A1, Same.refl _, hr⟩ (fun k σ' H' _ ⟨ss', _, f', _⟩ => f'.trans fz_le) ?_ ?_
  · rintro i x σ2 H2 H3 hlt ⟨ss2, A2, f2, run⟩ ⟨id, hid, iv⟩
    have hdrop : ids.drop i = id :: ids.drop (i + 1) := by
      have hl := (List.getElem?_eq_some_iff.mp hid).1
      have e := (List.getElem?_eq_some_iff.mp hid).2
      rw [List.drop_eq_getElem_cons hl, e]
    rw [hdrop] at run
    refine hg.ev id ss2 _ run σ2 H2 A2 _ f2 x H3 iv _ fun ss3 σ3 hK A3 f3 _ => ?_
    refine hb.ev ss3 _ hK (fz σ (freeze ss fr) H1) σ3 H3 _ A3 (f2.trans f3) fun o ho => ?_
    cases o with
    | nx ss4 => exact fun σ4 H4 A4 f4 => ⟨ss4, A4, f4, ho⟩
    | rt r => exact (q (.rt r) ho).base fB
    | xc C => exact (q (.xc C) ho).base fB
  · rintro σ2 H2 ⟨ss2, A2, f2, run⟩
    rw [List.drop_length] at run
    exact q _ run σ2 H2 A2 (fB.trans f2)
def wWhile (Wc : WE) (Wb : WS) : WS := fun ss O => ∃ I : Nat → List SV → Prop, (∃ n, I n ss) ∧ ∀ n ss, I n ss → Wc ss (bb fun k => if k = true then Wb ss (nxt (fun ss' => ∃ m, m < n ∧ I m ss') O) else O (.nx ss))
theorem js_while (hp : PassesOwn (model X.prog X.w) X.A X.env X.xe) (hc : JT X c tc Wc) (hb : JB X E body tb Wb) : JS X E (.While c body [] pos) (tWhile tc tb) (wWhile Wc Wb) := by
  refine ⟨ps_while hp hc.pt hb.ps, fun ss O w HB σ H D A f q => ?_⟩
  obtain ⟨I, ⟨n, i0⟩, step⟩ := w
  refine ⟨fun n σ H => ∃ ss, I n ss ∧ AS (gd X) σ H ss ∧ Same HB (fz σ ss H), ⟨n, ss, i0, A, f⟩, ?_⟩
  rintro n σ H ⟨ss, i1, A, f⟩
  refine hc.ev ss _ (step n ss i1) σ H A _ fun k H1 hk s1 => ?_
  have f1 := f.trans (fz_same (σ := σ) (ss := ss) s1)
  cases k with
  | true =>
    rw [if_pos rfl] at hk ⊢
    refine ⟨fun σ' H' => ∃ m, m < n ∧ ∃ ss, I m ss ∧ AS (gd X) σ' H' ss ∧ Same HB (fz σ' ss H'), fun _ _ h => h, ?_⟩
    refine hb.ev ss _ hk HB σ H1 _ (A.same s1) f1 fun o ho => ?_
    cases o with
    | nx ss' =>
      obtain ⟨m, hm, im⟩ := ho
      exact fun σ' H' A' f' => ⟨m, hm, ss', im, A', f'⟩
    | rt r => exact q (.rt r) ho
    | xc C => exact q (.xc C) ho
  | false =>
    rw [if_neg (by decide)] at hk ⊢
    exact q _ hk σ H1 (A.same s1) f1

/-! ### own lists changed -/
theorem mut_as {G : Wd} {HB H : Hp} {σ : St} {ss : List SV} {i : Nat} {s s' : SV} {p : Addr} {o : HO} (A : AS G σ H ss) (f : Same HB (fz σ ss H)) (hs : ss[i]? = some s) (hm : s.mut = true) (hp : σ[i]? = some (some (.ref p))) (hm' : s'.mut = true)
    (h : ∀ F, SlotOk G F (upd H p o) (some (some (.ref p))) s') : AS G σ (upd H p o) (ss.set i s') ∧ Same HB (fz σ (ss.set i s') (upd H p o)) ∧ Kt H (upd H p o) := by
  obtain ⟨A2, f2⟩ := A.mutate hs hm hp hm' h
  obtain ⟨o1, e1, e2⟩ := A.mutThere ⟨i, s, hs, hm, hp⟩
  exact ⟨A2, f.trans f2, kt_mut fun ob u z => e2 ob u (by rw [e1] at z; exact Option.some.inj z)⟩
def wApp (j : Nat) (We : WE) : WS := fun ss O => match ss[j]? with
  | some (.lst ds) => We ss (dd fun d => noL d = true ∧ ds.length < sizeLine ∧ O (.nx (ss.set j (.lst (ds ++ [d])))))
  | _ => False
theorem at_lst {R : List D → Prop} {x : Option SV} (w : match x with
  | some (.lst ds) => R ds
  | _ => False) : ∃ ds, x = some (.lst ds) ∧ R ds := by
  cases x with
  | none => exact False.elim w
  | some s =>
    cases s with
    | lst ds => exact ⟨ds, rfl, w⟩
    | _ => exact False.elim w
def tAppT (K : PySem.W.Frag) (j : Nat) (te : TE) : TS := tDrop (tBM K "list" rAppend (tVar j) (tCons te tNil))
theorem js_app {j : Nat} (hp : PS X st (tAppT X.K j te)) (h : Ev (gd X) te We) : JS X E st (tAppT X.K j te) (wApp j We) := by
  refine ⟨hp, fun ss O w HB σ H D A f q => ?_⟩
  obtain ⟨ds, hs, w⟩ := at_lst w
  obtain ⟨p, xs, e1, hp, t, z⟩ := A.slot j _ hs
  refine ⟨_, e1, .inl ⟨rfl, xs, .inl (.inl hp)⟩, ?_⟩
  refine (h ss _ w).use A fun d v H1 hd s1 t1 => ?_
  obtain ⟨zd, hl, ho⟩ := hd
  have hp1 : H1 p = some (.lst xs) := s1 _ _ hp
  refine ⟨p, xs, v, rfl, rfl, hp1, by rw [t.len]; exact hl, ?_⟩
  have kt : Kt H1 (upd H1 p (.lst (xs ++ [v]))) := kt_mut fun ob u z => by
    rw [hp1] at z
    cases z
  obtain ⟨A2, f2, _⟩ := mut_as (s' := .lst (ds ++ [d])) (o := .lst (xs ++ [v])) (A.same s1) (f.trans (fz_same s1)) hs rfl e1 rfl fun F =>
    ⟨p, _, rfl, upd_same, ((t.same s1).kt kt z).append (TpAll.one (t1.kt kt zd)), noLs_append z (noLs_one zd)⟩
  exact q _ ho _ _ A2 f2
def wExt (j : Nat) (We : WE) : WS := fun ss O => match ss[j]? with
  | some (.lst ds) => We ss fun r => match r with
    | .lst es => ds.length + es.length ≤ sizeLine ∧ O (.nx (ss.set j (.lst (ds ++ es))))
    | _ => False
  | _ => False
def tExtT (K : PySem.W.Frag) (j : Nat) (te : TE) : TS := tDrop (tBM K "list" rExtend (tVar j) (tCons te tNil))
theorem js_ext {j : Nat} (hp : PS X st (tExtT X.K j te)) (h : Ev (gd X) te We) : JS X E st (tExtT X.K j te) (wExt j We) := by
  refine ⟨hp, fun ss O w HB σ H D A f q => ?_⟩
  obtain ⟨ds, hs, w⟩ := at_lst w
  obtain ⟨p, xs, e1, hp, t, z⟩ := A.slot j _ hs
  refine ⟨_, e1, .inl ⟨rfl, xs, .inl (.inl hp)⟩, ?_⟩
  refine h ss _ w σ H A _ fun r v H1 hd s1 hv => ?_
  cases r with
  | lst es =>
    obtain ⟨hl, ho⟩ := hd
    obtain ⟨p2, ys, rfl, n, e2, t2, z2⟩ := hv
    have hp1 : H1 p = some (.lst xs) := s1 _ _ hp
    refine ⟨p, p2, xs, ys, rfl, rfl, hp1, e2, by rw [t.len, t2.len]; exact hl, ?_⟩
    have kt : Kt H1 (upd H1 p (.lst (xs ++ ys))) := kt_mut fun ob u z => by
      rw [hp1] at z
      cases z
    obtain ⟨A2, f2, _⟩ := mut_as (s' := .lst (ds ++ es)) (o := .lst (xs ++ ys)) (A.same s1) (f.trans (fz_same s1)) hs rfl e1 rfl fun F =>
      ⟨p, _, rfl, upd_same, ((t.same s1).kt kt z).append (t2.kt kt z2), noLs_append z z2⟩
    exact q _ ho _ _ A2 f2
  | _ => exact False.elim hd
/-- x = l.pop() -/
def wPop (i j : Nat) : WS := fun ss O => i ≠ j ∧ match ss[j]? with
  | some (.lst ds) => ∃ d, ds[ds.length - 1]? = some d ∧ O (.nx ((ss.set j (.lst ds.dropLast)).set i (.dat d)))
  | _ => False
theorem tpAll_dropLast {K : PySem.W.Frag} {H : Hp} {vs : List V} {ds : List Ab.D} (t : TpAll K H vs ds) : TpAll K H vs.dropLast ds.dropLast := by
  rw [List.dropLast_eq_take, List.dropLast_eq_take, t.len]
  exact t.take _
theorem js_pop {i j : Nat} (hp : PS X st (tAsg (tBM0 X.K "list" rPop (tVar j)) (gName i))) : JS X E st (tAsg (tBM0 X.K "list" rPop (tVar j)) (gName i)) (wPop i j) := by
  refine ⟨hp, fun ss O w HB σ H D A f q => ?_⟩
  obtain ⟨hij, w⟩ := w
  obtain ⟨ds, hs, w⟩ := at_lst w
  obtain ⟨d, hd, ho⟩ := w
  obtain ⟨p, xs, e1, hp, t, z⟩ := A.slot j _ hs
  obtain ⟨v, hv, tv⟩ := t.get hd
  have zd : noL d = true := noLs_mem z d (List.mem_of_getElem? hd)
  refine ⟨_, e1, .inl ⟨rfl, xs, .inl (.inl hp)⟩, p, xs, v, rfl, rfl, hp, by rw [t.len]; exact hv, ?_⟩
  have kt : Kt H (upd H p (.lst xs.dropLast)) := kt_mut fun ob u z => by
    rw [hp] at z
    cases z
  obtain ⟨A2, f2, _⟩ := mut_as (s' := .lst ds.dropLast) (o := .lst xs.dropLast) A f hs rfl e1 rfl fun F =>
    ⟨p, _, rfl, upd_same, (tpAll_dropLast t).kt kt (noLs_sub (fun d h => List.dropLast_subset _ h) z), noLs_sub (fun d h => List.dropLast_subset _ h) z⟩
  obtain ⟨A3, f3⟩ := A2.setD (i := i) (v := v) (d := d) ((tv.kt kt zd).kt (kt_fz A2) zd)
  exact q _ ho _ _ A3 (f2.trans f3)
/-- l[i] = v -/
def wSetI (j : Nat) (We Wi : WE) : WS := fun ss O => match ss[j]? with
  | some (.lst ds) => We ss (dd fun d => noL d = true ∧ Wi ss (dd fun x => match x with
    | .int k => ∃ m, ixN ds.length k = some m ∧ O (.nx (ss.set j (.lst (ds.set m d))))
    | _ => False))
  | _ => False
theorem noLs_set {ds : List Ab.D} {d : Ab.D} {m : Nat} (h : noLs ds = true) (hd : noL d = true) : noLs (ds.set m d) = true := noLs_all fun e he => by
  rcases List.mem_or_eq_of_mem_set he with h1 | h1
  · exact noLs_mem h e h1
  · rw [h1]; exact hd
theorem js_setI {j : Nat} {ti : TE} {Wi : WE} (hp : PS X st (tAsg te (gSub (tVar j) ti rSetL))) (h : Ev (gd X) te We) (h2 : Ev (gd X) ti Wi) : JS X E st (tAsg te (gSub (tVar j) ti rSetL)) (wSetI j We Wi) := by
  refine ⟨hp, fun ss O w HB σ H D A f q => ?_⟩
  obtain ⟨ds, hs, w⟩ := at_lst w
  obtain ⟨p, xs, e1, hp, t, z⟩ := A.slot j _ hs
  refine (h ss _ w).use A fun d v H1 hd s1 t1 => ?_
  obtain ⟨zd, w2⟩ := hd
  refine ⟨_, e1, ?_⟩
  refine (h2 ss _ w2).use (A.same s1) fun x u H2 hx s2 t2 => ?_
  cases x with
  | int k =>
    obtain ⟨m, hm, ho⟩ := hx
    cases t2
    have s12 := s1.trans s2
    have hp2 : H2 p = some (.lst xs) := s12 _ _ hp
    refine ⟨p, xs, k, m, rfl, rfl, hp2, by rw [t.len]; exact hm, ?_⟩
    have kt : Kt H2 (upd H2 p (.lst (xs.set m v))) := kt_mut fun ob u z => by
      rw [hp2] at z
      cases z
    obtain ⟨A2, f2, _⟩ := mut_as (s' := .lst (ds.set m d)) (o := .lst (xs.set m v)) (A.same s12) (f.trans (fz_same s12)) hs rfl e1 rfl fun F =>
      ⟨p, _, rfl, upd_same, ((t.same s12).kt kt z).set m ((t1.same s2).kt kt zd), noLs_set z zd⟩
    exact q _ ho _ _ A2 f2
  | _ => exact False.elim hx
end

/-! ### defs -/
def initSS (n : Nat) (ds : List D) : List SV := ds.map .dat ++ List.replicate (n - ds.length) .no
theorem as_start {G : Wd} {H : Hp} {N : List Str} {vs : List V} {ds : List D} (t : TpAll G.K H vs ds) : AS G (L2.start N vs) H (initSS N.length ds) ∧ fz (L2.start N vs) (initSS N.length ds) H = H := by
  have nm : ∀ (i : Nat) (s : SV), (initSS N.length ds)[i]? = some s → s.mut = false := fun i s e => by
    have hm := List.mem_of_getElem? e
    unfold initSS at hm
    rcases List.mem_append.mp hm with h | h
    · obtain ⟨d, _, rfl⟩ := List.mem_map.mp h
      rfl
    · rw [List.eq_of_mem_replicate h]
      rfl
  have hf : fz (L2.start N vs) (initSS N.length ds) H = H := by
    funext b
    refine fz_not fun ⟨i, s, e1, e2, _⟩ => ?_
    rw [nm i s e1] at e2
    cases e2
  refine ⟨⟨?_, fun i s e => ?_, fun i j p s u e1 e2 m1 m2 _ _ => ?_⟩, hf⟩
  · unfold L2.start initSS
    simp [t.len]
  · rw [hf]
    unfold initSS at e
    unfold L2.start
    by_cases hi : i < ds.length
    · rw [List.getElem?_append_left (by simpa using hi), List.getElem?_map] at e
      rw [List.getElem?_append_left (by rw [List.length_map, t.len]; exact hi), List.getElem?_map]
      cases hd : ds[i]? with
      | none => rw [hd] at e; cases e
      | some d =>
        rw [hd] at e
        have e : SV.dat d = s := Option.some.inj e
        subst e
        obtain ⟨v, h1, h2⟩ := t.get hd
        rw [h1]
        exact ⟨v, rfl, h2⟩
    · rw [List.getElem?_append_right (by rw [List.length_map]; omega)] at e
      have := List.mem_of_getElem? e
      rw [List.eq_of_mem_replicate this]
      trivial
  · rw [nm i s e1] at m1
    cases m1
section
variable {P : Program} {w : World} {K : PySem.W.Frag} {mg : Str → Option Value} {base : Heap}
/-- a def that raises nothing -/
theorem fn_ok {x qual : Str} {st : Stmt} {f : Addr} {fd : FuncData} {N ps : List Str} {k : Nat} {S : List D → (SV → Prop) → Prop} {W : WS} (F : Fun K x qual st f fd) (sc : FnScope N ps (defScope st))
    (hb : ∀ (cdv : Value) (A : Around) (outer : List Env) (s : Shared) (H : Hp) (E : XK), Room k (A.deeper (envOfC qual (defScope st) s.heap.objs.size f cdv)) →
      ∃ tb, JB (cxOf CX0 P w K mg base N qual (defScope st) f cdv A outer s H E).nox E0 (defBody st) tb W)
    (hS : ∀ ds R, S ds R → ds.length = ps.length ∧ W (initSS N.length ds) fun o => match o with
      | .rt r => R r
      | .nx _ => R (.dat .none)
      | .xc _ => False) : FnOk P w K mg base CX0 (k + 1) f fd ps (spD ⟨P, w, K⟩ S) := by
  refine F.ok sc (fun vs H Q E h => ?_) fun cdv A outer s H vs Q E hr h => ?_
  · obtain ⟨ds, R, t, hs, _⟩ := h
    rw [t.len]
    exact (hS ds R hs).1
  · obtain ⟨ds, R, t, hs, q⟩ := h
    obtain ⟨tb, j⟩ := hb cdv A outer s H E hr
    refine ⟨tb, j.ps, ?_⟩
    obtain ⟨A0, f0⟩ := as_start (G := ⟨P, w, K⟩) (N := N) t
    refine j.ev _ _ (hS ds R hs).2 H _ H _ A0 (by
      have : fz (L2.start N vs) (initSS N.length ds) H = H := f0
      rw [this]
      exact Same.refl H) fun o ho => ?_
    cases o with
    | nx ss => exact fun σ' H' _ f => q (.dat .none) .non H' ho (f.trans fz_le) .non
    | rt r => exact fun v H' f hv => q r v H' ho f hv
    | xc C => exact False.elim ho
end
end Ab

set_option Elab.async false
set_option linter.all false
set_option maxRecDepth 100000
set_option maxHeartbeats 1000000
/-! Ab7: tuple.index, methods of known tuples; enumerate(tuple). -/
namespace Ab
open PySem PySem.Spec L2
open PyProof.Rows hiding St
open RT (ItvT iRevA pi_revA)

/-! ### methods of a known tuple -/
section
variable {X : Cx} {o e a b : Expr} {es : List Expr} {to ta tb : TE} {t : TA} {name : Str} {apos cpos : Pos} {id : String} {r : V → List V → Hp → VK → Prop} {Wa Wb : WE}
theorem tk_is {pn : List (Addr × Obj)} {sg : St} {Hh : Hp} {st : Shared} {p : Addr} {xs : List V} (iv : Inv X pn sg Hh st) (h : TK Hh p xs) :
    st.TypeIs (.ref p) "tuple" ∧ ∀ a, Value.ref p = .ref a → ∃ ob, st.heap.get? a = some ob ∧ ob.dict = Option.none := by
  obtain ⟨ob, hd, e⟩ := h
  obtain ⟨g, _, _, _, o2, g2, c2, _⟩ := (show ObjOk X.prog X.w Hh st.heap p (.frz ob (.tup xs)) from iv.hok p _ e)
  refine ⟨⟨o2, g2, c2⟩, fun a q => ?_⟩
  cases q
  exact ⟨ob, g, hd⟩
def tBMK (r : V → List V → Hp → VK → Prop) (to : TE) (t : TA) : TE := fun σ H Q => to σ H fun x H1 => (∃ p xs, x = .ref p ∧ TK H1 p xs) ∧ t σ H1 fun vs H2 => r x vs H2 Q
theorem pe_bmK (slot : Slot "tuple" name id) (hty : typeOf (.builtin id) = pure (.type "method_descriptor")) (hm : MtR X id r) (ho : PE X o to) (ha : PA X (e :: es) t)
    (hbase : attributeBase o name X.env (eval o X.env) = eval o X.env := by rfl)
    (hfew : ((backTo cpos (starEach (e :: es) X.env)).all (fun x => !x.1) && (backToKw cpos (keywordEach [] X.env)).all (fun x => x.1.isSome) && decide ((e :: es).length + ([] : List Keyword).length + (if ([] : List Keyword).isEmpty then 0 else 1) < 30)) = true := by rfl)
    (hline : (apos.endLine == cpos.line) = true := by rfl) (hs : starEach (e :: es) X.env = (false, eval e X.env) :: starEach es X.env := by rfl) (hplain : (backTo cpos (starEach es X.env)).any (·.1) = false := by rfl) :
    PE X (.Call (.Attribute o name apos) (e :: es) [] cpos) (tBMK r to t) := by
  refine ⟨fun pn st sg Hh Qq iv h => ?_⟩
  refine wpAny_Call_method_late hbase hfew hline rfl (thn (ho.run pn st sg Hh _ iv h) fun v s1 ⟨x, H1, i1, r1, ty, q1⟩ => ?_)
  obtain ⟨p, xs, rfl, kx⟩ := ty
  cases r1
  obtain ⟨h1, h2⟩ := tk_is i1 kx
  refine ⟨"tuple", id, PySem.F.plainAttrs_tuple, slot, hty, h1, h2, ?_⟩
  have hA := ha.run cpos pn s1 sg H1 _ i1 q1
  rw [hs] at hA ⊢
  refine Calls.callWith_builtin (by show (false || (backTo cpos (starEach es X.env)).any (·.1)) = false; rw [hplain] <;> rfl) (Calls.evalArgs_plain ?_)
  exact thn hA fun us s2 ⟨vs, H2, i2, r2, q2⟩ => hm pn s2 sg H2 (.ref p) vs (.ref p) us Qq i2 rfl r2 q2

/-! ### t.index(x) -/
def rIndexT (K : PySem.W.Frag) : V → List V → Hp → VK → Prop := fun x xs H Q => ∃ (a : Addr) (y : V) (d : PyData) (ds : List PyData) (j : Nat) (z : PyData), x = V.ref a ∧ xs = [y] ∧ Dp K H (V.ref a) (.tuple ds) ∧ Dp K H y d ∧
  SeqAt.shaped (.tuple ds) = true ∧ SeqAt.shaped d = true ∧ ds[j]? = some z ∧ PyData.eqv z d = true ∧ (∀ (m : Nat) (z' : PyData), m < j → ds[m]? = some z' → PyData.eqv z' d = false) ∧ Q (.int (j : Nat)) H
theorem mt_indexT (hu : X.A.units + 65 < cLine) : MtR X "tuple.index" (rIndexT X.K) := by
  intro pn st sg Hh x xs v us Qq iv rx rxs h
  obtain ⟨a, y, d, ds, j, z, rfl, rfl, hl, hy, sl, sd, hz, hzj, hno, q⟩ := h
  cases rx
  obtain ⟨uy, rfl, ry⟩ := rxs.one
  obtain ⟨bs, r1⟩ := Dp.reads iv d y uy hy ry
  have hxs : PyData.canLayAll0 ds = true := SeqAt.canLay_of_shaped sl
  have hroom : X.A.units + 1 + min (PyData.depthAll ds) d.depth < cLine := room_in_shaped sd hu
  cases hl with
  | tup hs ha =>
    obtain ⟨its, rv, pl, hlen⟩ := iv.tuple hs
    obtain ⟨⟨cls, dd, dt, sls⟩, ho, hc, n, hdt⟩ := pl
    simp only at hc hdt
    subst hc hdt
    obtain ⟨as, h4⟩ := Dp.readsAll iv ds _ its ha rv
    have hn : its.length = ds.length := SeqAt.ReadsAll.length ds its as h4
    have hmap : its.map (SeqAt.readOf st.heap) = ds := SeqAt.readsAll_map ds its as hxs h4
    obtain ⟨hjd, _⟩ := List.getElem?_eq_some_iff.mp hz
    have hj : j < its.toArray.size := by
      rw [List.size_toArray, hn]
      exact hjd
    have at_ : ∀ (m : Nat) (hm : m < its.toArray.size) (z' : PyData), ds[m]? = some z' → SeqAt.readOf st.heap its.toArray[m] = z' := fun m hm z' hz' => by
      have hml : m < its.length := by simpa using hm
      rw [← hmap, List.getElem?_map, List.getElem?_eq_getElem hml] at hz'
      have e1 : SeqAt.readOf st.heap its[m] = z' := Option.some.inj (show some (SeqAt.readOf st.heap its[m]) = some z' from hz')
      simpa using e1
    refine call_meets PySem.F.slot_tuple_index ⟨_, ho, rfl⟩ PySem.F.entry_tuple_index (PySem.F.args_tuple_index_2 _ _)
      (TI.tuple_indexAt a its.toArray n dd sls uy (fun u => PyData.eqv (SeqAt.readOf st.heap u) d) j hj ?_ ?_)
      ⟨ho, SeqAt.items_eqAt (vs := its.toArray) (show ReadsAll st.heap its.toArray.toList ds as from h4) r1 hxs (SeqAt.canLay_of_shaped sd) hroom, ⟨.int (j : Nat), Hh, iv.tok _, ⟨_, rfl⟩, q⟩⟩
    · show PyData.eqv (SeqAt.readOf st.heap its.toArray[j]) d = true
      rw [at_ j hj z hz]
      exact hzj
    · intro m hm hmj
      have hmd : m < ds.length := by
        rw [← hn]
        simpa using hm
      have hz' : ds[m]? = some ds[m] := List.getElem?_eq_getElem hmd
      show PyData.eqv (SeqAt.readOf st.heap its.toArray[m]) d = false
      rw [at_ m hm _ hz']
      exact hno m _ hmj hz'
def idxD (ds : List D) (d : D) (R : SV → Prop) : Prop := ∃ (j : Nat) (z : D), ds[j]? = some z ∧ PyData.eqv z d = true ∧ (∀ (m : Nat) (z' : D), m < j → ds[m]? = some z' → PyData.eqv z' d = false) ∧ R (.dat (.int (j : Nat)))
def wIdxT (Wa : WE) (Wr : WA) : WE := fun ss R => Wa ss (dd fun x => match x with
  | .tuple ds => Wr ss fun es => match es with
    | [d] => SeqAt.shaped (.tuple ds) = true ∧ SeqAt.shaped d = true ∧ idxD ds d R
    | _ => False
  | _ => False)
theorem je_idxT {as : List Expr} {Wr : WA} (ae : PE X e (tBMK (rIndexT X.K) ta t)) (ha : JE X a ta Wa) (hr : JA X as t Wr) : JE X e (tBMK (rIndexT X.K) ta t) (wIdxT Wa Wr) := by
  refine ⟨ae, fun ss R w σ H A Q q => ?_⟩
  refine (ha.ev ss _ w).use A fun d v H1 hd s1 t1 => ?_
  cases d with
  | tuple ds =>
    cases t1 with
    | tup k t1 =>
      refine ⟨⟨_, _, rfl, k⟩, ?_⟩
      refine hr.ev ss _ hd σ H1 (A.same s1) _ fun es vs H2 hes s2 t2 => ?_
      cases t2 with
      | nil => exact False.elim hes
      | cons h1 h2 =>
        cases h2 with
        | cons _ _ => exact False.elim hes
        | nil =>
          obtain ⟨sh1, sh2, j, z, hz, e1, e2, hr⟩ := hes
          exact ⟨_, _, _, ds, j, z, rfl, rfl, .tup (k.same s2).sq (TpAll.dp (t1.same s2)), h1.dp, sh1, sh2, hz, e1, e2, q _ _ H2 hr (s1.trans s2) (.int _)⟩
  | _ => exact False.elim hd
/-- l.index(x) -/
def wIdxL (Wa : WE) (Wr : WA) : WE := fun ss R => Wa ss (dd fun x => match x with
  | .list ds => Wr ss fun es => match es with
    | [d] => SeqAt.shaped (.list ds) = true ∧ SeqAt.shaped d = true ∧ idxD ds d R
    | _ => False
  | _ => False)
theorem je_idxL {as : List Expr} {Wr : WA} (ae : PE X e (tBM X.K "list" (rIndexD X.K) ta t)) (ha : JE X a ta Wa) (hr : JA X as t Wr) : JE X e (tBM X.K "list" (rIndexD X.K) ta t) (wIdxL Wa Wr) := by
  refine ⟨ae, fun ss R w σ H A Q q => ?_⟩
  refine (ha.ev ss _ w).use A fun d v H1 hd s1 t1 => ?_
  cases d with
  | list ds =>
    cases t1 with
    | lst k t1 =>
      refine ⟨.inl ⟨rfl, _, k⟩, ?_⟩
      refine hr.ev ss _ hd σ H1 (A.same s1) _ fun es vs H2 hes s2 t2 => ?_
      cases t2 with
      | nil => exact False.elim hes
      | cons h1 h2 =>
        cases h2 with
        | cons _ _ => exact False.elim hes
        | nil =>
          obtain ⟨sh1, sh2, j, z, hz, e1, e2, hr⟩ := hes
          exact ⟨_, _, _, ds, j, z, rfl, rfl, .lst (sq_same s2 k) (TpAll.dp (t1.same s2)), h1.dp, sh1, sh2, hz, e1, e2, q _ _ H2 hr (s1.trans s2) (.int _)⟩
  | _ => exact False.elim hd
end

/-! ### enumerate(tuple) -/
section
variable {prog : Program} {w : World} {A : Around} {E : Value → Shared → Prop} {s : Shared}
set_option maxHeartbeats 1000000 in
theorem meets_enumB {v : Value} {o : Obj} {Hp : Heap → Prop} (B : Begins v o Hp) :
    Meets (Builtin.«enumerate.__new__» ⟨[.type "enumerate", v], []⟩) (fun _ R s => Hp s.heap ∧
      R (.ok (.ret (.ref (s.heap.push o).objs.size))) { s with heap := (s.heap.push o).push { cls := .type "enumerate", data := .fields #[.none, .bool false, .ref s.heap.objs.size, rawInt 0, .none, .none] } }) :=
  .of_wp fun prog w A R s h => by
    obtain ⟨hp, g, d, tk, os⟩ := s; obtain ⟨h1, h⟩ := h
    have hsub := sub_enumerate
    have q1 : ∀ {A' : Around} {E : Value → Shared → Prop} {Q : Value → Shared → Prop}, Q (.ref hp.objs.size) ⟨hp.push o, g, d, tk, os⟩ → wpAny (model prog w) A' (pyIter v) Q E ⟨hp, g, d, tk, os⟩ :=
      fun q => B.iter prog w _ _ ⟨hp, g, d, tk, os⟩ _ h1 q
    wp_walk using q1
    refine wpAny_stack_any fun st => wpAny_pure ?_
    split
    · rename_i c _ _ _ _ _
      cases (c == Value.type "enumerate")
      · wp_walk using q1
        exact ⟨_, rfl, h⟩
      · wp_walk using q1
        exact ⟨_, rfl, h⟩
    · wp_walk using q1
      exact ⟨_, rfl, h⟩
theorem call_enumT {t : Addr} {items : Array Value} {Q : Value → Shared → Prop} (ht : s.heap.IsTuple t items)
    (h : ∀ h', IsEnum h' (s.heap.objs.size + 1) s.heap.objs.size 0 .none → h'.IsTupleIter s.heap.objs.size t 0 → (∀ b o, s.heap.get? b = some o → h'.get? b = some o) → Q (.ref (s.heap.objs.size + 1)) { s with heap := h' }) :
    wpAny (model prog w) A (call (.type "enumerate") [.ref t]) Q E s := by
  refine callType_new F.called_enumerate (by decide) (F.typeCall_enumerate_1 _) (F.newCall_enumerate_1 _) (fun obj => F.args_object_init_2 obj _) F.entry_enumerate_new
    (meets_enumB (begins_tuple t items)) ⟨ht, ?_⟩
  have hz : (s.heap.push { cls := .type "tuple_iterator", data := .fields #[.ref t, .int 0 0] }).objs.size = s.heap.objs.size + 1 := Heap.size_push ..
  show _ ∧ _
  rw [hz]
  have he : IsEnum ((s.heap.push { cls := .type "tuple_iterator", data := .fields #[.ref t, .int 0 0] }).push { cls := .type "enumerate", data := .fields #[.none, .bool false, .ref s.heap.objs.size, rawInt 0, .none, .none] }) (s.heap.objs.size + 1) s.heap.objs.size 0 .none := by
    have := Heap.get?_push_size (s.heap.push { cls := .type "tuple_iterator", data := .fields #[.ref t, .int 0 0] }) (o := { cls := .type "enumerate", data := .fields #[.none, .bool false, .ref s.heap.objs.size, rawInt 0, .none, .none] }) rfl
    rw [hz] at this
    exact this
  exact ⟨⟨_, he, rfl⟩, h _ he ⟨_, Heap.get?_push_of_some _ (Heap.get?_push_size _ rfl), rfl, rfl⟩ fun b o x => Heap.get?_push_of_some _ (Heap.get?_push_of_some _ x)⟩
end
def IteT (K : PySem.W.Frag) (a : Addr) : It :=
  ⟨fun i H => ∃ (xs : List V) (x : V), SqT K H a xs ∧ xs[i]? = some x, fun i H v H' => ∃ T x, v = .ref T ∧ H T = Option.none ∧ H' = upd H T (.tup [.int (i : Nat), x]) ∧ ∀ xs, SqT K H a xs → xs[i]? = some x, fun i H => ∃ xs : List V, SqT K H a xs ∧ xs.length ≤ i⟩
theorem enum_apart {h : Heap} {e it a : Addr} {i : Int} {j : Nat} {old : Value} {items : Array Value} (he : IsEnum h e it i old) (hit : h.IsTupleIter it a j) (ht : h.IsTuple a items) : a ≠ it ∧ e ≠ a := by
  obtain ⟨o1, g1, c1, _⟩ := hit
  obtain ⟨o2, g2, c2, _⟩ := ht
  refine ⟨fun z => ?_, fun z => ?_⟩
  · subst z
    rw [g1] at g2
    cases g2
    rw [c1] at c2
    exact absurd c2 (by decide)
  · subst z
    rw [he] at g2
    cases g2
    exact absurd (show Value.type "enumerate" = Value.type "tuple" from c2) (by decide)
theorem enum_endT {P : Program} {w : World} {A : Around} {E : Value → Shared → Prop} {s : Shared} {e it t : Addr} {i : Nat} {items : Array Value} {old : Value} {Q : Option Value → Shared → Prop} (hh : A.handled = Option.none)
    (he : IsEnum s.heap e it i old) (hit : s.heap.IsTupleIter it t i) (ht : s.heap.IsTuple t items) (hx : items[i]? = Option.none)
    (hQ : ∀ h', Heap.ExtBut it s.heap h' → Q Option.none { s with heap := h' }) : wpAny (model P w) A (pyNext (.ref e)) Q E s := by
  have hT : s.TypeIs (.ref e) "enumerate" := ⟨_, he, rfl⟩
  unfold pyNext
  refine wpAny_bind (wpAny_attempt (wpAny_callSpecial?_slot (name := Str.ofString "__next__") hT F.slot_enumerate_next
    (wpAny_call_entry F.slot_enumerate_next hT F.entry_enumerate_next ?_ (F.args_enumerate_next_1 _))))
  show wpAny _ _ (field (.ref e) 2 >>= _) _ _ _
  refine wpAny_bind (wpAny_field he rfl (x := .ref it) rfl ?_)
  refine wpAny_bind (wpAny_nextOf_tuple_end (show A.in1.handled = Option.none from hh) hit ht hx fun h' x he' hx' => ?_)
  obtain ⟨o, ho, hc⟩ := hx'
  refine wpAny_bind (wpAny_isInstance (T := "StopIteration") (b := true) ⟨o, ho, hc⟩ isSubtype_stop ?_)
  exact wpAny_pure (hQ _ he')
theorem turn_enumT {P : Program} {w : World} {K : PySem.W.Frag} {elts : List Expr} {kk : Nat} {tpos : Pos} (a e it : Addr) :
    Turn P w K (.Tuple elts kk tpos) (IteT K a) [e, it] e (fun i h => (∃ old, IsEnum h e it ((i : Nat) : Int) old) ∧ h.IsTupleIter it a i ∧ e ≠ it) where
  mem := by simp
  obj := fun i h sv b hb => by
    obtain ⟨⟨old, he⟩, ⟨o, ho, hc, hd⟩, _⟩ := sv
    have e' : b = e ∨ b = it := by simpa using hb
    rcases e' with z | z
    · rw [z]; exact ⟨_, he, fun v q => nomatch q⟩
    · rw [z]; exact ⟨o, ho, fun v q => by rw [hd] at q; cases q⟩
  keep := fun i h h' sv k => let ⟨⟨old, he⟩, hi, hne⟩ := sv; ⟨⟨old, k e (by simp) _ he⟩, hi.at fun o q => k it (by simp) o q, hne⟩
  item := by
    intro X hP hw hK hc i pn st sg Hh E iv hf sv hg
    subst hP hw hK
    obtain ⟨⟨old, he⟩, hit, hne⟩ := sv
    obtain ⟨xs, x, hq, hx⟩ := hg
    obtain ⟨its, rv, p, hz⟩ := iv.tuple hq
    have ht : st.heap.IsTuple a its.toArray := p
    obtain ⟨hai, hea⟩ := enum_apart he hit ht
    have hi : i < its.toArray.size := by
      rw [List.size_toArray, ← rv.length]
      exact (List.getElem?_eq_some_iff.mp hx).1
    obtain ⟨u, hu, ru⟩ := rv.get hx
    have hel : e < st.heap.objs.size := Heap.lt_size he
    have hil : it < st.heap.objs.size := by obtain ⟨_, q, _⟩ := hit; exact Heap.lt_size q
    refine wpAny_pyNext_enum_itemD (Draws.tuple (A := X.A.in1) (iv.ok.hd hc) it a hai its.toArray) he ⟨hit, ht⟩ hi hne (by simp [hne, hea]) fun x' h' tk hp ho hst hT hsz hk => ?_
    have hp : its.toArray[i]? = some x' := hp
    have hux : x' = u := by
      have : its.toArray[i]? = some u := by simpa using hu
      rw [this] at hp
      exact (Option.some.inj hp).symm
    subst hux
    refine ⟨_, rfl, wpAny_letOwnedTupleGo_enum (s := { st with heap := h', toks := tk + 1 }) ho fun h'' he' sb => ?_⟩
    have hT2 : h''.get? st.heap.objs.size = some { cls := .type "tuple", data := .seq #[.int i tk, x'] } := (sb.2 _ (Nat.ne_of_gt hel)).trans hT
    have new : ObjOk X.prog X.w (upd Hh st.heap.objs.size (.tup [.int (i : Nat), x])) h'' st.heap.objs.size (.tup [.int (i : Nat), x]) :=
      ⟨by show 2 ≤ sizeLine; decide, [.int i tk, x'], .cons ⟨_, rfl⟩ (.cons ru .nil), ⟨_, hT2, rfl, _, rfl⟩⟩
    have i1 : Inv X pn sg (upd Hh st.heap.objs.size (.tup [.int (i : Nat), x])) { st with heap := h'', toks := tk + 1 } :=
      iv.turnedNew (ch := [e, it]) (fun b ob hb q => (sb.2 b (fun z => hb (by simp [z]))).trans (hk b ob (fun z => hb (by simp [z])) (fun z => hb (by simp [z])) q)) hf (Nat.le_refl _) new
    refine ⟨.ref st.heap.objs.size, _, i1, rfl, ⟨_, x, rfl, iv.hok.fresh (Nat.le_refl _), rfl, fun ys hy => by rw [iv.tuple_inj hy hq]; exact hx⟩, ⟨⟨x', ?_⟩, hst.1.at fun o q => (sb.2 it (Ne.symm hne)).trans q, hne⟩, fun b hb => ?_⟩
    · have e1 : ((i + 1 : Nat) : Int) = (i : Int) + 1 := by omega
      rw [e1]; exact he'
    · have hb' : b < st.heap.objs.size := by
        have e' : b = e ∨ b = it := by simpa using hb
        rcases e' with z | z
        · rw [z]; exact hel
        · rw [z]; exact hil
      rw [upd_ne (Nat.ne_of_lt hb')]
      exact (hf b hb).1
  done := by
    intro X hP hw hK hc i pn st sg Hh E iv hf sv hg
    subst hP hw hK
    obtain ⟨⟨old, he⟩, hit, hne⟩ := sv
    obtain ⟨xs, hq, hx⟩ := hg
    obtain ⟨its, rv, p, hz⟩ := iv.tuple hq
    have ht : st.heap.IsTuple a its.toArray := p
    obtain ⟨hai, hea⟩ := enum_apart he hit ht
    obtain ⟨f0, f1, f2, f3, f4, f5⟩ := hf it (by simp)
    have hl := rv.length
    refine enum_endT (iv.ok.hd hc) he hit ht (by simp; omega) fun h' eb => ⟨rfl, iv.turned (t' := st.toks) (fun b o hb q => eb b o hb q) f0 f1 f3 f4 f5⟩
  self := fun A i s Q E sv h => let ⟨⟨_, he⟩, _⟩ := sv; wpAny_pyIter_enum he h
def iEnumT (K : PySem.W.Frag) (te : TE) : TI := fun σ H R => te σ H fun x H1 => ∃ a xs, x = .ref a ∧ SqT K H1 a xs ∧ R (IteT K a) H1
theorem pi_enumT {X : Cx} {e : Expr} {te : TE} {p pos tpos : Pos} {elts : List Expr} {kk : Nat} (hg : Gl X "enumerate") (hm : X.mg "enumerate" = Option.none) (ha : PE X e te) (na : starEach [e] X.env = (false, eval e X.env) :: starEach [] X.env := by rfl) :
    PI X (.Tuple elts kk tpos) (.Call (.Name "enumerate" p) [e] [] pos) (iEnumT X.K te) := by
  refine ⟨fun pn st sg Hh R iv h => ?_⟩
  refine Call_ (ld_blt iv hg hm boot_enumerate (PyProof.Rows.callWith_type1 (one_arg ha iv h (fun v s1 x H1 i1 r1 q1 => ?_) na) na))
  obtain ⟨a, xs, rfl, hq, q⟩ := q1
  obtain rfl : v = Value.ref a := r1
  obtain ⟨its, rv, p', hz⟩ := i1.tuple hq
  refine call_enumT (show s1.heap.IsTuple a its.toArray from p') fun h' he hit hk => wpAny_pyIter_enum he ?_
  have i2 : Inv X pn sg H1 { s1 with heap := h' } := i1.kept (t' := s1.toks) hk
  refine ⟨s1.heap.objs.size + 1, [s1.heap.objs.size + 1, s1.heap.objs.size], _, _, H1, rfl, i2, turn_enumT a (s1.heap.objs.size + 1) s1.heap.objs.size, ⟨⟨.none, he⟩, hit, Nat.succ_ne_self _⟩, fun b hb => ?_, q⟩
  have e' : b = s1.heap.objs.size + 1 ∨ b = s1.heap.objs.size := by simpa using hb
  have hle : s1.heap.objs.size ≤ b := by
    rcases e' with z | z
    · rw [z]; exact Nat.le_add_right _ _
    · rw [z]; exact Nat.le_refl _
  exact i1.fpOk hle (i1.hok.fresh hle)
theorem walk_enumT {K : PySem.W.Frag} {a : Addr} {xs : List V} : Walk (IteT K a) xs.length (fun H => SqT K H a xs) (YPair (fun i => some (.int (i : Nat))) (fun i => xs[i]?)) := by
  refine ⟨fun i _ hi q => ⟨xs, xs[i], q, by simp [hi]⟩, fun _ q => ⟨xs, q, Nat.le_refl _⟩, fun i H v H' _ q y => ?_⟩
  obtain ⟨T, x, h1, h2, h3, h4⟩ := y
  exact ⟨T, .int (i : Nat), x, h1, h2, h3, rfl, h4 xs q⟩
def enums (ds : List D) : List ID := (List.range ds.length).map fun k => .two (.int (k : Nat)) (ds.getD k .none)
theorem iter_enumT {G : Wd} {Hb : Hp} {p : Addr} {xs : List V} {ds : List D} (h : TK Hb p xs) (t : TpAll G.K Hb xs ds) : IterOk G (IteT G.K p) Hb (enums ds) := by
  have hl := t.len
  have w := (walk_enumT (K := G.K) (a := p) (xs := xs)).mono (G' := fun H => Same Hb H) (Y' := fun i H x H' => ∃ id, (enums ds)[i]? = some id ∧ ItemV G Hb H H' x id) (fun H s => (h.same s).sq) fun i H x H' hi _ y => by
    obtain ⟨T, a, b, h1, h2, h3, h4, h5⟩ := y
    have h4 := Option.some.inj h4
    subst h4
    obtain ⟨d, e1, e2⟩ := t.getV h5
    refine ⟨.two (.int (i : Nat)) d, ?_, T, _, b, h1, h2, h3, .int _, e2⟩
    unfold enums
    rw [List.getElem?_map, List.getElem?_range (by omega)]
    show some (ID.two (.int (i : Nat)) (ds.getD i .none)) = _
    rw [List.getD_eq_getElem?_getD, e1]
    rfl
  unfold IterOk
  rw [show (enums ds).length = xs.length by unfold enums; rw [List.length_map, List.length_range, hl]]
  exact w
def wiEnum (Wa : WE) : WI := fun ss R => Wa ss (dd fun d => match d with
  | .tuple ds => (noLs ds = true ∨ noMut ss = true) ∧ R Option.none (enums ds)
  | _ => False)
theorem ji_enum {X : Cx} {a : Expr} {ta : TE} {Wa : WE} {elts : List Expr} {kk : Nat} {p pos tpos : Pos} (hg : Gl X "enumerate") (hm : X.mg "enumerate" = Option.none) (ha : JE X a ta Wa) (na : starEach [a] X.env = (false, eval a X.env) :: starEach [] X.env := by rfl) :
    JI X (.Tuple elts kk tpos) (.Call (.Name "enumerate" p) [a] [] pos) (iEnumT X.K ta) (wiEnum Wa) := by
  refine ⟨pi_enumT hg hm ha.pe na, fun ss R w σ H A Q q => ?_⟩
  refine (ha.ev ss _ w).use A fun d v H1 hd s1 t1 => ?_
  cases d with
  | tuple ds =>
    cases t1 with
    | tup k t => exact ⟨_, _, rfl, k.sq, q _ H1 Option.none _ hd.2 s1 (iter_enumT (kt_fz (A.same s1) _ _ k) (tpAll_fz A s1 hd.1 t))⟩
  | _ => exact False.elim hd
end Ab

set_option Elab.async false
set_option linter.all false
set_option maxRecDepth 100000
set_option maxHeartbeats 1000000
/-! Ab8: built-in functions. -/
namespace Ab
open PySem PySem.Spec L2
open PyProof.Rows hiding St

section
variable {X : Cx} {e a b : Expr} {es : List Expr} {te ta tb : TE} {t : TA} {Wa Wb : WE} {Wr : WA} {r : List V → Hp → VK → Prop} {op : List D → (SV → Prop) → Prop} {p pos : Pos} {x : Str}
theorem je_callB {id : String} (c : JC X (.builtin id) r op) (hg : Gl X x) (hm : X.mg x = Option.none) (hv : bootBuiltins x = some (.builtin id)) (ha : JA X (e :: es) t Wr) (hn : x ≠ "__name__" := by decide) (hdb : (x == ("__debug__" : Str)) = false := by decide)
    (he : starEach (e :: es) X.env = (false, eval e X.env) :: starEach es X.env := by rfl) (hpl : (backTo pos (starEach es X.env)).any (·.1) = false := by rfl) : JE X (.Call (.Name x p) (e :: es) [] pos) (tCB r t) (wCB op Wr) :=
  ⟨pe_callB c.pr hg hm hv ha.pa hn hdb he hpl, ev_cb c ha⟩
theorem je_callTy {T : String} (c : JC X (.type T) r op) (hg : Gl X x) (hm : X.mg x = Option.none) (hv : bootBuiltins x = some (.type T)) (ha : JA X (e :: es) t Wr) (hn : x ≠ "__name__" := by decide) (hdb : (x == ("__debug__" : Str)) = false := by decide)
    (he : starEach (e :: es) X.env = (false, eval e X.env) :: starEach es X.env := by rfl) (hpl : (backTo pos (starEach es X.env)).any (·.1) = false := by rfl) : JE X (.Call (.Name x p) (e :: es) [] pos) (tCB r t) (wCB op Wr) :=
  ⟨pe_callTy c.pr hg hm hv ha.pa hn hdb he hpl, ev_cb c ha⟩

/-! ### len -/
def lenL : List D → (SV → Prop) → Prop
  | [.list ds], R => R (.dat (.int ds.length))
  | [.tuple ds], R => R (.dat (.int ds.length))
  | [.str z], R => z.length ≤ sizeLine ∧ R (.dat (.int z.length))
  | _, _ => False
theorem one_tp {K : PySem.W.Frag} {H : Hp} {vs : List V} {d : D} (t : TpAll K H vs [d]) : ∃ v, vs = [v] ∧ Tp K H v d := by
  cases t with
  | cons h1 h2 =>
    cases h2
    exact ⟨_, rfl, h1⟩
theorem two_tp {K : PySem.W.Frag} {H : Hp} {vs : List V} {d e : D} (t : TpAll K H vs [d, e]) : ∃ v u, vs = [v, u] ∧ Tp K H v d ∧ Tp K H u e := by
  cases t with
  | cons h1 h2 =>
    obtain ⟨u, rfl, h3⟩ := one_tp h2
    exact ⟨_, _, rfl, h1, h3⟩
/-- one argument -/
def on1 (g : D → (SV → Prop) → Prop) : List D → (SV → Prop) → Prop
  | [d], R => g d R
  | _, _ => False
theorem on1_of {g : D → (SV → Prop) → Prop} {ds : List D} {R : SV → Prop} (h : on1 g ds R) : ∃ d, ds = [d] ∧ g d R := by
  cases ds with
  | nil => exact False.elim h
  | cons d ds =>
    cases ds with
    | nil => exact ⟨d, rfl, h⟩
    | cons _ _ => exact False.elim h
def on2 (g : D → D → (SV → Prop) → Prop) : List D → (SV → Prop) → Prop
  | [d, e], R => g d e R
  | _, _ => False
theorem on2_of {g : D → D → (SV → Prop) → Prop} {ds : List D} {R : SV → Prop} (h : on2 g ds R) : ∃ d e, ds = [d, e] ∧ g d e R := by
  cases ds with
  | nil => exact False.elim h
  | cons d ds =>
    cases ds with
    | nil => exact False.elim h
    | cons e ds =>
      cases ds with
      | nil => exact ⟨d, e, rfl, h⟩
      | cons _ _ => exact False.elim h
def lenD : D → (SV → Prop) → Prop
  | .list ds, R => R (.dat (.int ds.length))
  | .tuple ds, R => R (.dat (.int ds.length))
  | .str z, R => z.length ≤ sizeLine ∧ R (.dat (.int z.length))
  | _, _ => False
def rLen2 (K : PySem.W.Frag) : List V → Hp → VK → Prop := fun xs H Q => (∃ p ys, xs = [.ref p] ∧ (SqL K H p ys ∨ SqT K H p ys) ∧ Q (.int ys.length) H) ∨ ∃ z, xs = [.str z] ∧ z.length ≤ sizeLine ∧ Q (.int z.length) H
theorem jc_len : JC X (.builtin "len") (rLen2 X.K) (on1 lenD) := by
  refine ⟨call_len_seq.or call_len_str, fun ds R w0 H vs t0 Q q => ?_⟩
  obtain ⟨d, rfl, w⟩ := on1_of w0
  obtain ⟨v, rfl, t⟩ := one_tp t0
  cases d with
  | list ds =>
    cases t with
    | lst k t => exact .inl ⟨_, _, rfl, .inl k, by rw [t.len]; exact q _ _ H w (Same.refl H) (.int _)⟩
  | tuple ds =>
    cases t with
    | tup k t => exact .inl ⟨_, _, rfl, .inr k.sq, by rw [t.len]; exact q _ _ H w (Same.refl H) (.int _)⟩
  | str z =>
    cases t
    exact .inr ⟨z, rfl, w.1, q _ _ H w.2 (Same.refl H) (.int _)⟩
  | _ => exact False.elim w

/-! ### tuple(x), list(x) -/
def wTupleOf (Wa : WE) : WE := fun ss R => Wa ss (dd fun d => match d with
  | .list ds => R (.dat (.tuple ds))
  | .tuple ds => R (.dat (.tuple ds))
  | _ => False)
theorem je_tupleOf (hg : Gl X "tuple") (hm : X.mg "tuple" = Option.none) (ha : JE X a ta Wa) (na : starEach [a] X.env = (false, eval a X.env) :: starEach [] X.env := by rfl) :
    JE X (.Call (.Name "tuple" p) [a] [] pos) (tThen ta (kTupK X.K)) (wTupleOf Wa) := by
  refine ⟨pe_tupleK hg hm ha.pe na, fun ss R w σ H A Q q => ?_⟩
  refine (ha.ev ss _ w).use A fun d v H1 hd s1 t1 => ?_
  cases d with
  | list ds =>
    cases t1 with
    | lst k t =>
      refine .inl ⟨_, _, rfl, k, fun u H2 n nt => ?_⟩
      have s2 := nt.same n
      exact q _ _ H2 hd (s1.trans s2) (.tup nt.tk (t.same s2))
  | tuple ds =>
    cases t1 with
    | tup k t => exact .inr ⟨_, _, rfl, k.sq, q _ _ H1 hd s1 (.tup k t)⟩
  | _ => exact False.elim hd
def newL (ds : List D) (R : SV → Prop) : Prop := (noLs ds = true ∧ R (.lst ds)) ∨ R (.dat (.list ds))
def listD : D → (SV → Prop) → Prop
  | .list ds, R => newL ds R
  | .tuple ds, R => newL ds R
  | _, _ => False
theorem ev_newL {R : SV → Prop} {H : Hp} {l : Addr} {ys : List V} {ds : List D} (w : newL ds R) (n : H l = Option.none) (t : TpAll X.K H ys ds) {Q : VK} (q : ∀ c v H', R c → Same H H' → Val (gd X) H H' v c → Q v H') : Q (.ref l) (upd H l (.lst ys)) := by
  rcases w with ⟨z, hr⟩ | hr
  · obtain ⟨s4, vl⟩ := val_lst (G := gd X) (Same.refl H) n t z
    exact q _ _ _ hr s4 vl
  · exact q _ _ _ hr (same_new n) (.lst (.inl (.inl upd_same)) (t.same (same_new n)))
theorem jc_list : JC X (.type "list") (fun xs H Q => ∃ p ys, xs = [.ref p] ∧ (SqL X.K H p ys ∨ SqT X.K H p ys) ∧ ∀ l, H l = Option.none → Q (.ref l) (upd H l (.lst ys))) (on1 listD) := by
  refine ⟨call_list_of, fun ds R w0 H vs t0 Q q => ?_⟩
  obtain ⟨d, rfl, w⟩ := on1_of w0
  obtain ⟨v, rfl, t⟩ := one_tp t0
  cases d with
  | list ds =>
    cases t with
    | lst k t => exact ⟨_, _, rfl, .inl k, fun l n => ev_newL (X := X) w n t q⟩
  | tuple ds =>
    cases t with
    | tup k t => exact ⟨_, _, rfl, .inr k.sq, fun l n => ev_newL (X := X) w n t q⟩
  | _ => exact False.elim w

/-! ### ranges as tuples and lists -/
abbrev WR := List SV → (Int → Int → Prop) → Prop
structure JR (X : Cx) (e : Expr) (t : St → Hp → (Int → Int → Hp → Prop) → Prop) (W : WR) : Prop where
  pr : PRg X e t
  ev : ∀ ss R, W ss R → ∀ σ H, AS (gd X) σ H ss → ∀ Q : Int → Int → Hp → Prop, (∀ i j H', R i j → Same H H' → Q i j H') → t σ H Q
def int1 (R : Int → Prop) : SV → Prop
  | .dat (.int i) => R i
  | _ => False
theorem int1_tp {G : Wd} {H H' : Hp} {v : V} {s : SV} {R : Int → Prop} (h : int1 R s) (q : Val G H H' v s) : ∃ i, R i ∧ v = .int i := by
  cases s with
  | dat d =>
    cases d with
    | int b => cases q; exact ⟨b, h, rfl⟩
    | _ => exact False.elim h
  | _ => exact False.elim h
def wR1 (Wa : WE) : WR := fun ss R => Wa ss (int1 fun i => R 0 i)
def wR2 (Wa Wb : WE) : WR := fun ss R => Wa ss (int1 fun i => Wb ss (int1 fun j => R i j))
theorem jr_1 (hg : Gl X "range") (hm : X.mg "range" = Option.none) (ha : JE X a ta Wa) (na : starEach [a] X.env = (false, eval a X.env) :: starEach [] X.env := by rfl) : JR X (.Call (.Name "range" p) [a] [] pos) (tRg1 ta) (wR1 Wa) := by
  refine ⟨prg_1 hg hm ha.pe na, fun ss R w σ H A Q q => ?_⟩
  refine ha.ev ss _ w σ H A _ fun s v H1 hs s1 vs => ?_
  obtain ⟨i, hi, rfl⟩ := int1_tp hs vs
  exact ⟨i, rfl, q _ _ H1 hi s1⟩
theorem jr_2 (hg : Gl X "range") (hm : X.mg "range" = Option.none) (ha : JE X a ta Wa) (hb : JE X b tb Wb) (na : starEach [a, b] X.env = (false, eval a X.env) :: starEach [b] X.env := by rfl)
    (nb : starEach [b] X.env = (false, eval b X.env) :: starEach [] X.env := by rfl) (hp : (backTo pos (starEach [b] X.env)).any (·.1) = false := by rfl) : JR X (.Call (.Name "range" p) [a, b] [] pos) (tRg2 ta tb) (wR2 Wa Wb) := by
  refine ⟨prg_2 hg hm ha.pe hb.pe na nb hp, fun ss R w σ H A Q q => ?_⟩
  refine ha.ev ss _ w σ H A _ fun s v H1 hs s1 vs => ?_
  obtain ⟨i, hi, rfl⟩ := int1_tp hs vs
  refine hb.ev ss _ hi σ H1 (A.same s1) _ fun s u H2 hs s2 vs => ?_
  obtain ⟨j, hj, rfl⟩ := int1_tp hs vs
  exact ⟨i, j, rfl, rfl, q _ _ H2 hj (s1.trans s2)⟩
def rgI (a b : Int) : List Int := (List.range (b - a).toNat).map fun k => a + (k : Nat)
theorem rgV_eq (a b : Int) : rgV a b = (rgI a b).map V.int := by
  unfold rgI rgV
  rw [List.map_map]
  rfl
def rgD (a b : Int) : List D := (rgI a b).map PyData.int
theorem noLs_ints (l : List Int) : noLs (l.map PyData.int) = true := noLs_map _ (fun _ => rfl) l
def wTupRg (Wr : WR) : WE := fun ss R => Wr ss fun a b => RgOk a b ∧ R (.dat (.tuple (rgD a b)))
theorem je_tupRg {t : St → Hp → (Int → Int → Hp → Prop) → Prop} {Wr : WR} (hc : X.calm = true) (hg : Gl X "tuple") (hm : X.mg "tuple" = Option.none) (he : JR X e t Wr) (na : starEach [e] X.env = (false, eval e X.env) :: starEach [] X.env := by rfl) :
    JE X (.Call (.Name "tuple" p) [e] [] pos) (tTupRgK t) (wTupRg Wr) := by
  refine ⟨pe_tupRgK hc hg hm he.pr na, fun ss R w σ H A Q q => ?_⟩
  refine he.ev ss _ w σ H A _ fun i j H1 hr s1 => ?_
  refine ⟨hr.1, fun u H2 n nt => q _ _ H2 hr.2 (s1.trans (nt.same n)) (.tup nt.tk ?_)⟩
  rw [rgV_eq]
  exact tpAll_ints _
def wLstRg (Wr : WR) : WE := fun ss R => Wr ss fun a b => RgOk a b ∧ R (.lst (rgD a b))
theorem je_lstRg {t : St → Hp → (Int → Int → Hp → Prop) → Prop} {Wr : WR} (hc : X.calm = true) (hg : Gl X "list") (hm : X.mg "list" = Option.none) (he : JR X e t Wr) (na : starEach [e] X.env = (false, eval e X.env) :: starEach [] X.env := by rfl) :
    JE X (.Call (.Name "list" p) [e] [] pos) (tLstRg t) (wLstRg Wr) := by
  refine ⟨pe_listRg hc hg hm he.pr na, fun ss R w σ H A Q q => ?_⟩
  refine he.ev ss _ w σ H A _ fun i j H1 hr s1 => ?_
  refine ⟨hr.1, fun u n => ?_⟩
  have t : TpAll X.K H1 (rgV i j) (rgD i j) := by
    rw [rgV_eq]
    exact tpAll_ints _
  obtain ⟨s2, vl⟩ := val_lst (G := gd X) s1 n t (noLs_ints _)
  exact q _ _ _ hr.2 s2 vl

/-! ### abs, min, max, int, all, any -/
def absD : D → (SV → Prop) → Prop
  | .int i, R => R (.dat (.int (if i < 0 then -i else i)))
  | _, _ => False
theorem jc_abs : JC X (.builtin "abs") (fun xs H Q => ∃ i, xs = [.int i] ∧ Q (.int (if i < 0 then -i else i)) H) (on1 absD) := by
  refine ⟨call_abs, fun ds R w0 H vs t0 Q q => ?_⟩
  obtain ⟨d, rfl, w⟩ := on1_of w0
  obtain ⟨v, rfl, t⟩ := one_tp t0
  cases d with
  | int i => cases t; exact ⟨i, rfl, q _ _ H w (Same.refl H) (.int _)⟩
  | _ => exact False.elim w
theorem jc_min2 (hc : X.calm = true) : JC X (.builtin "min") (fun xs H Q => ∃ i j, xs = [.int i, .int j] ∧ Q (.int (if j < i then j else i)) H) (on2 (onI fun i j R => R (.dat (.int (if j < i then j else i))))) := by
  refine ⟨call_min2 hc, fun ds R w H vs t Q q => ?_⟩
  obtain ⟨d, e, rfl, w⟩ := on2_of w
  obtain ⟨v, u, rfl, t1, t2⟩ := two_tp t
  obtain ⟨i, j, rfl, rfl, h⟩ := onI_of w t1 t2
  exact ⟨i, j, rfl, q _ _ H h (Same.refl H) (.int _)⟩
theorem jc_max2 (hc : X.calm = true) : JC X (.builtin "max") (fun xs H Q => ∃ i j, xs = [.int i, .int j] ∧ Q (.int (if j > i then j else i)) H) (on2 (onI fun i j R => R (.dat (.int (if j > i then j else i))))) := by
  refine ⟨call_max2 hc, fun ds R w H vs t Q q => ?_⟩
  obtain ⟨d, e, rfl, w⟩ := on2_of w
  obtain ⟨v, u, rfl, t1, t2⟩ := two_tp t
  obtain ⟨i, j, rfl, rfl, h⟩ := onI_of w t1 t2
  exact ⟨i, j, rfl, q _ _ H h (Same.refl H) (.int _)⟩
def intD : D → (SV → Prop) → Prop
  | .int i, R => R (.dat (.int i))
  | .bool b, R => R (.dat (.int (if b then 1 else 0)))
  | _, _ => False
theorem jc_int : JC X (.type "int") (fun xs H Q => (∃ i, xs = [.int i] ∧ Q (.int i) H) ∨ ∃ k, xs = [.bl k] ∧ Q (.int (if k then 1 else 0)) H) (on1 intD) := by
  refine ⟨call_int1, fun ds R w0 H vs t0 Q q => ?_⟩
  obtain ⟨d, rfl, w⟩ := on1_of w0
  obtain ⟨v, rfl, t⟩ := one_tp t0
  cases d with
  | int i => cases t; exact .inl ⟨i, rfl, q _ _ H w (Same.refl H) (.int _)⟩
  | bool i => cases t; exact .inr ⟨i, rfl, q _ _ H w (Same.refl H) (.int _)⟩
  | _ => exact False.elim w
def boolsOf : List D → Option (List Bool)
  | [] => some []
  | .bool b :: ds => (boolsOf ds).map fun l => b :: l
  | _ => Option.none
theorem boolsOf_eq : ∀ {ds : List D} {l : List Bool}, boolsOf ds = some l → ds = l.map PyData.bool
  | [], l, h => by
    cases h
    rfl
  | d :: ds, l, h => by
    cases d with
    | bool i =>
      have h : (boolsOf ds).map (fun l => i :: l) = some l := h
      rw [Option.map_eq_some_iff] at h
      obtain ⟨m, hm, rfl⟩ := h
      rw [boolsOf_eq hm]
      rfl
    | _ => cases h
theorem boolsOf_map : ∀ (l : List Bool), boolsOf (l.map PyData.bool) = some l
  | [] => rfl
  | i :: l => by
    show (boolsOf (l.map PyData.bool)).map (fun m => i :: m) = some (i :: l)
    rw [boolsOf_map l]
    rfl
def onBs (g : List Bool → Bool) : D → (SV → Prop) → Prop
  | .list ds, R => ∃ l, boolsOf ds = some l ∧ R (.dat (.bool (g l)))
  | _, _ => False
theorem onBs_of {g : List Bool → Bool} {d : D} {R : SV → Prop} {K : PySem.W.Frag} {H : Hp} {v : V} (w : onBs g d R) (t : Tp K H v d) : ∃ a l, v = .ref a ∧ SqL K H a (l.map V.bl) ∧ R (.dat (.bool (g l))) := by
  cases d with
  | list ds =>
    obtain ⟨l, e, hr⟩ := w
    have e := boolsOf_eq e
    subst e
    cases t with
    | lst k t =>
      have z := t.bools
      subst z
      exact ⟨_, l, rfl, k, hr⟩
  | _ => exact False.elim w
theorem jc_all (hc : X.calm = true) : JC X (.builtin "all") (rAll X.K) (on1 (onBs fun l => l.all id)) := by
  refine ⟨cr_all hc, fun ds R w0 H vs t0 Q q => ?_⟩
  obtain ⟨d, rfl, w⟩ := on1_of w0
  obtain ⟨v, rfl, t⟩ := one_tp t0
  obtain ⟨a, l, rfl, k, hr⟩ := onBs_of w t
  exact ⟨a, l, rfl, k, q _ _ H hr (Same.refl H) (.bl _)⟩
theorem jc_any (hc : X.calm = true) : JC X (.builtin "any") (rAny X.K) (on1 (onBs fun l => l.any id)) := by
  refine ⟨cr_any hc, fun ds R w0 H vs t0 Q q => ?_⟩
  obtain ⟨d, rfl, w⟩ := on1_of w0
  obtain ⟨v, rfl, t⟩ := one_tp t0
  obtain ⟨a, l, rfl, k, hr⟩ := onBs_of w t
  exact ⟨a, l, rfl, k, q _ _ H hr (Same.refl H) (.bl _)⟩

/-! ### isinstance -/
def tyN : D → String
  | .none => "NoneType"
  | .bool _ => "bool"
  | .int _ => "int"
  | .str _ => "str"
  | .list _ => "list"
  | .tuple _ => "tuple"
  | .dict _ => "dict"
theorem tyX_of {K : PySem.W.Frag} {H : Hp} {v : V} {d : D} (t : Tp K H v d) : TyX K H v (.type (tyN d)) := by
  cases t with
  | non => exact .base .non
  | bl b => exact .base (.bl b)
  | int i => exact .base (.int i)
  | str x => exact .base (.str x)
  | lst k t =>
    rcases k with (k | ⟨o, k⟩) | k
    · exact .base (.lst k)
    · exact .base (.frz k)
    · obtain ⟨o, its, n, h1, h2, _⟩ := k
      exact .kList h1 h2
  | tup k t =>
    obtain ⟨o, _, k⟩ := k
    exact .fTuple k
def isiS (n t : String) : Bool := t == n || (n == "int" && t == "bool")
def isiD (n : String) (d : D) : Bool := isiS n (tyN d)
def wIsi (n : String) (Wa : WE) : WE := fun ss R => Wa ss (dd fun d => R (.dat (.bool (isiD n d))))
theorem kit_int : ∀ d : D, kitB (tyN d) "int" = some (isiD "int" d)
  | .none => (by decide +kernel : kitB "NoneType" "int" = some (isiS "int" "NoneType"))
  | .bool _ => (by decide +kernel : kitB "bool" "int" = some (isiS "int" "bool"))
  | .int _ => (by decide +kernel : kitB "int" "int" = some (isiS "int" "int"))
  | .str _ => (by decide +kernel : kitB "str" "int" = some (isiS "int" "str"))
  | .list _ => (by decide +kernel : kitB "list" "int" = some (isiS "int" "list"))
  | .tuple _ => (by decide +kernel : kitB "tuple" "int" = some (isiS "int" "tuple"))
  | .dict _ => (by decide +kernel : kitB "dict" "int" = some (isiS "int" "dict"))
theorem kit_bool : ∀ d : D, kitB (tyN d) "bool" = some (isiD "bool" d)
  | .none => (by decide +kernel : kitB "NoneType" "bool" = some (isiS "bool" "NoneType"))
  | .bool _ => (by decide +kernel : kitB "bool" "bool" = some (isiS "bool" "bool"))
  | .int _ => (by decide +kernel : kitB "int" "bool" = some (isiS "bool" "int"))
  | .str _ => (by decide +kernel : kitB "str" "bool" = some (isiS "bool" "str"))
  | .list _ => (by decide +kernel : kitB "list" "bool" = some (isiS "bool" "list"))
  | .tuple _ => (by decide +kernel : kitB "tuple" "bool" = some (isiS "bool" "tuple"))
  | .dict _ => (by decide +kernel : kitB "dict" "bool" = some (isiS "bool" "dict"))
theorem kit_tuple : ∀ d : D, kitB (tyN d) "tuple" = some (isiD "tuple" d)
  | .none => (by decide +kernel : kitB "NoneType" "tuple" = some (isiS "tuple" "NoneType"))
  | .bool _ => (by decide +kernel : kitB "bool" "tuple" = some (isiS "tuple" "bool"))
  | .int _ => (by decide +kernel : kitB "int" "tuple" = some (isiS "tuple" "int"))
  | .str _ => (by decide +kernel : kitB "str" "tuple" = some (isiS "tuple" "str"))
  | .list _ => (by decide +kernel : kitB "list" "tuple" = some (isiS "tuple" "list"))
  | .tuple _ => (by decide +kernel : kitB "tuple" "tuple" = some (isiS "tuple" "tuple"))
  | .dict _ => (by decide +kernel : kitB "dict" "tuple" = some (isiS "tuple" "dict"))
theorem kit_str : ∀ d : D, kitB (tyN d) "str" = some (isiD "str" d)
  | .none => (by decide +kernel : kitB "NoneType" "str" = some (isiS "str" "NoneType"))
  | .bool _ => (by decide +kernel : kitB "bool" "str" = some (isiS "str" "bool"))
  | .int _ => (by decide +kernel : kitB "int" "str" = some (isiS "str" "int"))
  | .str _ => (by decide +kernel : kitB "str" "str" = some (isiS "str" "str"))
  | .list _ => (by decide +kernel : kitB "list" "str" = some (isiS "str" "list"))
  | .tuple _ => (by decide +kernel : kitB "tuple" "str" = some (isiS "str" "tuple"))
  | .dict _ => (by decide +kernel : kitB "dict" "str" = some (isiS "str" "dict"))
theorem kit_list : ∀ d : D, kitB (tyN d) "list" = some (isiD "list" d)
  | .none => (by decide +kernel : kitB "NoneType" "list" = some (isiS "list" "NoneType"))
  | .bool _ => (by decide +kernel : kitB "bool" "list" = some (isiS "list" "bool"))
  | .int _ => (by decide +kernel : kitB "int" "list" = some (isiS "list" "int"))
  | .str _ => (by decide +kernel : kitB "str" "list" = some (isiS "list" "str"))
  | .list _ => (by decide +kernel : kitB "list" "list" = some (isiS "list" "list"))
  | .tuple _ => (by decide +kernel : kitB "tuple" "list" = some (isiS "list" "tuple"))
  | .dict _ => (by decide +kernel : kitB "dict" "list" = some (isiS "list" "dict"))
def tIsi (K : PySem.W.Frag) (n : String) (ta : TE) : TE := tCB (rIsi K) (tCons ta (tCons (tC (.ty n)) tNil))
theorem je_isi {n : String} {y : Str} {p2 : Pos} (hn : ∀ d, kitB (tyN d) n = some (isiD n d)) (hg : Gl X "isinstance") (hm : X.mg "isinstance" = Option.none) (hg2 : Gl X y) (hm2 : X.mg y = Option.none) (hv2 : bootBuiltins y = some (.type n))
    (ha : JE X a ta Wa) (hd2 : (y == ("__debug__" : Str)) = false := by decide) (hn2 : y ≠ "__name__" := by decide) (he : starEach [a, .Name y p2] X.env = (false, eval a X.env) :: starEach [.Name y p2] X.env := by rfl) (he2 : starEach [.Name y p2] X.env = (false, eval (.Name y p2) X.env) :: starEach [] X.env := by rfl)
    (hpl : (backTo pos (starEach [.Name y p2] X.env)).any (·.1) = false := by rfl) :
    JE X (.Call (.Name "isinstance" p) [a, .Name y p2] [] pos) (tIsi X.K n ta) (wIsi n Wa) := by
  refine ⟨pe_callB call_isi hg hm boot_isinstance (pa_cons ha.pe (pa_cons (pe_bltn (v := .ty n) hg2 hm2 hv2 rfl hn2 hd2) pa_nil he2) he) (by decide) (by decide) he hpl, fun ss R w σ H A Q q => ?_⟩
  refine (ha.ev ss _ w).use A fun d v H1 hd s1 t1 => ?_
  exact ⟨v, .ty n, .type (tyN d), .type n, isiD n d, rfl, .ty n, tyX_of t1, kit_ty (hn d), q _ _ H1 hd s1 (.bl _)⟩
end
end Ab

set_option Elab.async false
set_option linter.all false
set_option maxRecDepth 100000
set_option maxHeartbeats 1000000
/-! Ab9: the rules as the printed derivations name them. -/
namespace Ab
open PySem PySem.Spec L2
open PyProof.Rows hiding St

theorem hu4 {A : Around} {k : Nat} (hr : Room k A) : A.units + 64 < cLine := by
  have := hr.un
  omega
theorem hu5 {A : Around} {k : Nat} (hr : Room k A) : A.units + 65 < cLine := by
  have := hr.un
  omega
section
variable {X : Cx} {E : XK} {e a b o : Expr} {es : List Expr} {te ta tb : TE} {t : TA} {We Wa Wb : WE} {Wr : WA} {p pos cpos apos pos' : Pos} {x : Str}
theorem je_def {P : Program} {w : World} {K : PySem.W.Frag} {k j : Nat} {f : Addr} {fd : FuncData} {ps : List Str} {S : List D → (SV → Prop) → Prop} (F : FnOk X.prog X.w X.K X.mg X.base CX0 k f fd ps (spD (gd X) S)) (hr : Room j X.A) (hm : X.mg x = some (.ref f)) (hk : PySem.W.keepIn X.K (.ref f) = true) (hb : Binds X.K fd ps [])
    (ha : JA X (e :: es) t Wr) (hj : k ≤ j := by decide) (hg : Gl X x := by rfl) (hdb : (x == ("__debug__" : Str)) = false := by decide) (he : starEach (e :: es) X.env = (false, eval e X.env) :: starEach es X.env := by rfl) (hpl : (backTo pos (starEach es X.env)).any (·.1) = false := by rfl) :
    JE X (.Call (.Name x p) (e :: es) [] pos) (tCall (spD (gd X) S) [] E0 t) (wCB S Wr) :=
  je_call (pe_call F (hr.mono hj) hg hm hk hb .nil pass0 ha.pa hdb he hpl) ha
theorem js_set {i : Nat} (hN : X.N.Nodup) (h : JE X e te We) (hi : X.N[i]? = some x := by rfl) (hx : Loc X.env.scope x := by first | exact Or.inl rfl | exact Or.inr rfl) (hs : swapsWith e (some (.Name x pos')) pos.line X.env = pure false := by rfl)
    (hf : X.fn x = true ∨ X.env.scope.names.lookup x = some .local := by first | exact .inl rfl | exact .inr rfl) : JS X E (.Assign [.Name x pos'] e pos) (tAsg te (gName i)) (wAsg i We) :=
  js_asg' h.ev (ps_set hN hi hx h.pe hs hf)
theorem js_setMv {i j : Nat} (hN : X.N.Nodup) (h : PE X e (tVar j)) (hi : X.N[i]? = some x := by rfl) (hx : Loc X.env.scope x := by first | exact Or.inl rfl | exact Or.inr rfl) (hs : swapsWith e (some (.Name x pos')) pos.line X.env = pure false := by rfl)
    (hf : X.fn x = true ∨ X.env.scope.names.lookup x = some .local := by first | exact .inl rfl | exact .inr rfl) : JS X E (.Assign [.Name x pos'] e pos) (tAsg (tVar j) (gName i)) (wMove i j) :=
  js_move (ps_set hN hi hx h hs hf)
/-- what a comprehension's parts read like, whatever its block -/
abbrev BF (α : Type) := Shared → Hp → Addr → List (Str × Addr) → List Addr → α
abbrev BF.at0 {α : Type} (X : Cx) (f : BF α) : α := f X.s_0 X.H_0 0 [] []
theorem js_setLc {i : Nat} {elt tg iter : Expr} {ifs : List Expr} {scope : Scope} {own : List (Str × Nat)} {spos : Pos} {wi : TI} {g : BF TG} {tt : BF TT} {tf : BF TE} {W : WI} {T : WG} {Wt : WE} {sl : List Nat}
    (hN : X.N.Nodup) (hi : JI X tg iter wi W) (ok : BlkOk X.N X.env.scope scope own)
    (hg : ∀ (s : Shared) (H : Hp) (C : Addr) (cl : List (Str × Addr)) (fp : List Addr), JG (X.blk s H scope (compEnvC scope cl C X.env) fp) tg (g s H C cl fp) T sl)
    (ht : ∀ (s : Shared) (H : Hp) (C : Addr) (cl : List (Str × Addr)) (fp : List Addr), JTs (X.blk s H scope (compEnvC scope cl C X.env) fp) ifs (tt s H C cl fp) Wt)
    (he : ∀ (s : Shared) (H : Hp) (C : Addr) (cl : List (Str × Addr)) (fp : List Addr), JE (X.blk s H scope (compEnvC scope cl C X.env) fp) elt (tf s H C cl fp) We)
    (hsl : ∀ k ∈ sl, k ∈ own.map (·.2) := by decide) (hc : X.calm = true := by rfl) (hy : X.N[i]? = some x := by rfl) (hyl : X.env.scope.names.lookup x = some .local := by rfl)
    (hsw : swapsWith (.ListComp elt [⟨tg, iter, ifs, 0⟩] scope pos) (some (.Name x pos')) spos.line X.env = pure true := by exact sw_true rfl rfl rfl (by decide +kernel)) (hs : ∀ x, foldedSetIterable iter X.env x = pure x := by intro _; rfl)
    (e1 : ∀ s H C cl fp, g s H C cl fp = BF.at0 X g := by intros; rfl) (e2 : ∀ s H C cl fp, tt s H C cl fp = BF.at0 X tt := by intros; rfl) (e3 : ∀ s H C cl fp, tf s H C cl fp = BF.at0 X tf := by intros; rfl) :
    JS X E (.Assign [.Name x pos'] (.ListComp elt [⟨tg, iter, ifs, 0⟩] scope pos) spos) (tAsg (tLc wi (BF.at0 X g) (BF.at0 X tt) (BF.at0 X tf) (own.map (·.2))) (gName i)) (wAsg i (wLc W T Wt We (own.map (·.2)))) := by
  have hg' := fun s H C cl fp => e1 s H C cl fp ▸ hg s H C cl fp
  have ht' := fun s H C cl fp => e2 s H C cl fp ▸ ht s H C cl fp
  have he' := fun s H C cl fp => e3 s H C cl fp ▸ he s H C cl fp
  exact js_asg' (je_lc (pos := pos) hc hN hi ok hg' ht' he' hsl hs).ev (ps_setLc hc hN hy hyl hsw hi.pi ok (fun s H C cl fp => (hg' s H C cl fp).pg) (fun s H C cl fp => (ht' s H C cl fp).pts) (fun s H C cl fp => (he' s H C cl fp).pe) hs)
/-- a comprehension as a value -/
theorem je_lcV {elt tg iter : Expr} {ifs : List Expr} {scope : Scope} {own : List (Str × Nat)} {wi : TI} {g : BF TG} {tt : BF TT} {tf : BF TE} {W : WI} {T : WG} {Wt : WE} {sl : List Nat}
    (hN : X.N.Nodup) (hi : JI X tg iter wi W) (ok : BlkOk X.N X.env.scope scope own)
    (hg : ∀ (s : Shared) (H : Hp) (C : Addr) (cl : List (Str × Addr)) (fp : List Addr), JG (X.blk s H scope (compEnvC scope cl C X.env) fp) tg (g s H C cl fp) T sl)
    (ht : ∀ (s : Shared) (H : Hp) (C : Addr) (cl : List (Str × Addr)) (fp : List Addr), JTs (X.blk s H scope (compEnvC scope cl C X.env) fp) ifs (tt s H C cl fp) Wt)
    (he : ∀ (s : Shared) (H : Hp) (C : Addr) (cl : List (Str × Addr)) (fp : List Addr), JE (X.blk s H scope (compEnvC scope cl C X.env) fp) elt (tf s H C cl fp) We)
    (hsl : ∀ k ∈ sl, k ∈ own.map (·.2) := by decide) (hc : X.calm = true := by rfl) (hs : ∀ x, foldedSetIterable iter X.env x = pure x := by intro _; rfl)
    (e1 : ∀ s H C cl fp, g s H C cl fp = BF.at0 X g := by intros; rfl) (e2 : ∀ s H C cl fp, tt s H C cl fp = BF.at0 X tt := by intros; rfl) (e3 : ∀ s H C cl fp, tf s H C cl fp = BF.at0 X tf := by intros; rfl) :
    JE X (.ListComp elt [⟨tg, iter, ifs, 0⟩] scope pos) (tLc wi (BF.at0 X g) (BF.at0 X tt) (BF.at0 X tf) (own.map (·.2))) (wLc W T Wt We (own.map (·.2))) :=
  je_lc hc hN hi ok (fun s H C cl fp => e1 s H C cl fp ▸ hg s H C cl fp) (fun s H C cl fp => e2 s H C cl fp ▸ ht s H C cl fp) (fun s H C cl fp => e3 s H C cl fp ▸ he s H C cl fp) hsl hs

/-! ### methods of lists -/
theorem js_append {j : Nat} (hv : PE X o (tVar j)) (h : JE X a te We) (hbase : attributeBase o "append" X.env (eval o X.env) = eval o X.env := by rfl)
    (hfew : ((backTo cpos (starEach [a] X.env)).all (fun x => !x.1) && (backToKw cpos (keywordEach [] X.env)).all (fun x => x.1.isSome) && decide ([a].length + ([] : List Keyword).length + (if ([] : List Keyword).isEmpty then 0 else 1) < 30)) = true := by rfl)
    (hline : (apos.endLine == cpos.line) = true := by rfl) (hs : starEach [a] X.env = (false, eval a X.env) :: starEach [] X.env := by rfl) (hplain : (backTo cpos (starEach [] X.env)).any (·.1) = false := by rfl)
    (hs2 : swapsWith (.Call (.Attribute o "append" apos) [a] [] cpos) none pos.line X.env = pure false := by rfl) : JS X E (.Expr (.Call (.Attribute o "append" apos) [a] [] cpos) pos) (tAppT X.K j te) (wApp j We) :=
  js_app (ps_expr (pe_bm PySem.F.plainAttrs_list PySem.F.slot_list_append PySem.F.type_list_append mt_append hv (pa_cons h.pe pa_nil hs) hbase hfew hline hs hplain) hs2) h.ev
theorem js_extend {j : Nat} (hv : PE X o (tVar j)) (h : JE X a te We) (hbase : attributeBase o "extend" X.env (eval o X.env) = eval o X.env := by rfl)
    (hfew : ((backTo cpos (starEach [a] X.env)).all (fun x => !x.1) && (backToKw cpos (keywordEach [] X.env)).all (fun x => x.1.isSome) && decide ([a].length + ([] : List Keyword).length + (if ([] : List Keyword).isEmpty then 0 else 1) < 30)) = true := by rfl)
    (hline : (apos.endLine == cpos.line) = true := by rfl) (hs : starEach [a] X.env = (false, eval a X.env) :: starEach [] X.env := by rfl) (hplain : (backTo cpos (starEach [] X.env)).any (·.1) = false := by rfl)
    (hs2 : swapsWith (.Call (.Attribute o "extend" apos) [a] [] cpos) none pos.line X.env = pure false := by rfl) : JS X E (.Expr (.Call (.Attribute o "extend" apos) [a] [] cpos) pos) (tExtT X.K j te) (wExt j We) :=
  js_ext (ps_expr (pe_bm PySem.F.plainAttrs_list PySem.F.slot_list_extend PySem.F.type_list_extend mt_extend hv (pa_cons h.pe pa_nil hs) hbase hfew hline hs hplain) hs2) h.ev
theorem js_setPop {i j : Nat} (hN : X.N.Nodup) (hv : PE X o (tVar j)) (hbase : attributeBase o "pop" X.env (eval o X.env) = eval o X.env := by rfl) (hline : (apos.endLine == cpos.line) = true := by rfl) (hi : X.N[i]? = some x := by rfl) (hx : Loc X.env.scope x := by first | exact Or.inl rfl | exact Or.inr rfl)
    (hs : swapsWith (.Call (.Attribute o "pop" apos) [] [] cpos) (some (.Name x pos')) pos.line X.env = pure false := by rfl) (hf : X.fn x = true ∨ X.env.scope.names.lookup x = some .local := by first | exact .inl rfl | exact .inr rfl) :
    JS X E (.Assign [.Name x pos'] (.Call (.Attribute o "pop" apos) [] [] cpos) pos) (tAsg (tBM0 X.K "list" rPop (tVar j)) (gName i)) (wPop i j) :=
  js_pop (ps_set hN hi hx (pe_bm0 PySem.F.plainAttrs_list PySem.F.slot_list_pop PySem.F.type_list_pop mt_pop hv hbase hline) hs hf)
theorem js_setIt {j : Nat} (hv : PE X o (tVar j)) (he : JE X e te We) (hi : JE X a ta Wa)
    (ha : ∀ v, assign (.Subscript o a pos') X.env v = (do
      let ov ← holding [v] (eval o X.env)
      let iv ← holding [v, ov] (eval a X.env)
      standAt pos'
      holding [v, ov, iv] (setItem ov iv v)
      release [v, ov, iv] []) := by intro _; rfl)
    (hs : swapsWithSole [.Subscript o a pos'] e pos.line X.env = pure false := by rfl) (hw : swappedStores [.Subscript o a pos'] e X.env = pure none := by rfl)
    (h1 : (assignEach [.Subscript o a pos'] X.env).map (·.2) = [assign (.Subscript o a pos') X.env] := by rfl) : JS X E (.Assign [.Subscript o a pos'] e pos) (tAsg te (gSub (tVar j) ta rSetL)) (wSetI j We Wa) :=
  js_setI (ps_asg he.pe (pg_sub hv hi.pe set_list ha) hs hw h1) he.ev hi.ev
theorem je_indexT (hu : X.A.units + 65 < cLine) (ha : JE X o ta Wa) (hr : JA X (e :: es) t Wr) (hbase : attributeBase o "index" X.env (eval o X.env) = eval o X.env := by rfl)
    (hfew : ((backTo cpos (starEach (e :: es) X.env)).all (fun x => !x.1) && (backToKw cpos (keywordEach [] X.env)).all (fun x => x.1.isSome) && decide ((e :: es).length + ([] : List Keyword).length + (if ([] : List Keyword).isEmpty then 0 else 1) < 30)) = true := by rfl)
    (hline : (apos.endLine == cpos.line) = true := by rfl) (hs : starEach (e :: es) X.env = (false, eval e X.env) :: starEach es X.env := by rfl) (hplain : (backTo cpos (starEach es X.env)).any (·.1) = false := by rfl) :
    JE X (.Call (.Attribute o "index" apos) (e :: es) [] cpos) (tBMK (rIndexT X.K) ta t) (wIdxT Wa Wr) :=
  je_idxT (pe_bmK PySem.F.slot_tuple_index PySem.F.type_tuple_index (mt_indexT hu) ha.pe hr.pa hbase hfew hline hs hplain) ha hr
theorem je_indexL (hu : X.A.units + 65 < cLine) (ha : JE X o ta Wa) (hr : JA X (e :: es) t Wr) (hbase : attributeBase o "index" X.env (eval o X.env) = eval o X.env := by rfl)
    (hfew : ((backTo cpos (starEach (e :: es) X.env)).all (fun x => !x.1) && (backToKw cpos (keywordEach [] X.env)).all (fun x => x.1.isSome) && decide ((e :: es).length + ([] : List Keyword).length + (if ([] : List Keyword).isEmpty then 0 else 1) < 30)) = true := by rfl)
    (hline : (apos.endLine == cpos.line) = true := by rfl) (hs : starEach (e :: es) X.env = (false, eval e X.env) :: starEach es X.env := by rfl) (hplain : (backTo cpos (starEach es X.env)).any (·.1) = false := by rfl) :
    JE X (.Call (.Attribute o "index" apos) (e :: es) [] cpos) (tBM X.K "list" (rIndexD X.K) ta t) (wIdxL Wa Wr) :=
  je_idxL (pe_bm PySem.F.plainAttrs_list PySem.F.slot_list_index PySem.F.type_list_index (mt_indexD hu) ha.pe hr.pa hbase hfew hline hs hplain) ha hr

/-! ### a, b, c = a list -/
def tUn3 (K : PySem.W.Frag) (te : TE) (i j k : Nat) : TS := tAsg te (gUnl K 3 (gCons (gName i) (gCons (gName j) (gCons (gName k) gNil))))
def wUn3 (We : WE) (i j k : Nat) : WS := fun ss O => We ss (dd fun d => match d with
  | .list [x, y, z] => (noL x = true ∧ noL y = true ∧ noL z = true) ∧ O (.nx (((ss.set i (.dat x)).set j (.dat y)).set k (.dat z)))
  | _ => False)
theorem ev_un3 {i j k : Nat} (h : Ev (gd X) te We) : Rn (gd X) E (tUn3 X.K te i j k) (wUn3 We i j k) := by
  intro ss O w HB σ H D A f q
  refine (h ss _ w).use A fun d v H1 hd s1 t1 => ?_
  cases d with
  | list ds =>
    cases ds with
    | nil => exact False.elim hd
    | cons x ds =>
      cases ds with
      | nil => exact False.elim hd
      | cons y ds =>
        cases ds with
        | nil => exact False.elim hd
        | cons z ds =>
          cases ds with
          | cons _ _ => exact False.elim hd
          | nil =>
            obtain ⟨⟨zx, zy, zz⟩, ho⟩ := hd
            cases t1 with
            | lst kq t1 =>
              cases t1 with
              | cons tx t1 =>
                cases t1 with
                | cons ty t1 =>
                  cases t1 with
                  | cons tz t1 =>
                    cases t1
                    have A1 := A.same s1
                    have f1 := f.trans (fz_same (σ := σ) (ss := ss) s1)
                    obtain ⟨A2, f2⟩ := A1.setD (i := i) (tx.kt (kt_fz A1) zx)
                    obtain ⟨A3, f3⟩ := A2.setD (i := j) (ty.kt (kt_fz A2) zy)
                    obtain ⟨A4, f4⟩ := A3.setD (i := k) (tz.kt (kt_fz A3) zz)
                    have fin := q _ ho _ _ A4 (f1.trans (f2.trans (f3.trans f4)))
                    exact ⟨_, _, rfl, kq, rfl, _, _, rfl, _, _, rfl, _, _, rfl, rfl, fin⟩
  | _ => exact False.elim hd
theorem js_un3 {i j k : Nat} {x1 x2 x3 : Str} {p1 p2 p3 pt : Pos} {kk : Nat} (hN : X.N.Nodup) (h : JE X e te We) (hi : X.N[i]? = some x1 := by rfl) (hj : X.N[j]? = some x2 := by rfl) (hk : X.N[k]? = some x3 := by rfl)
    (l1 : Loc X.env.scope x1 := by first | exact Or.inl rfl | exact Or.inr rfl) (l2 : Loc X.env.scope x2 := by first | exact Or.inl rfl | exact Or.inr rfl) (l3 : Loc X.env.scope x3 := by first | exact Or.inl rfl | exact Or.inr rfl)
    (f1 : X.fn x1 = true ∨ X.env.scope.names.lookup x1 = some .local := by first | exact .inl rfl | exact .inr rfl) (f2 : X.fn x2 = true ∨ X.env.scope.names.lookup x2 = some .local := by first | exact .inl rfl | exact .inr rfl) (f3 : X.fn x3 = true ∨ X.env.scope.names.lookup x3 = some .local := by first | exact .inl rfl | exact .inr rfl)
    (hc : X.calm = true := by rfl) (hs : swapsWithSole [.Tuple [.Name x1 p1, .Name x2 p2, .Name x3 p3] kk pt] e pos.line X.env = pure false := by rfl) (hw : swappedStores [.Tuple [.Name x1 p1, .Name x2 p2, .Name x3 p3] kk pt] e X.env = pure none := by rfl) :
    JS X E (.Assign [.Tuple [.Name x1 p1, .Name x2 p2, .Name x3 p3] kk pt] e pos) (tUn3 X.K te i j k) (wUn3 We i j k) :=
  ⟨ps_asg h.pe (pg_unl hc (pgs_cons (pg_name hN hi l1 f1) (pgs_cons (pg_name hN hj l2 f2) (pgs_cons (pg_name hN hk l3 f3) pgs_nil)))) hs hw, ev_un3 h.ev⟩
end
section
variable {X : Cx} {e a b o tg : Expr} {es : List Expr} {te ta tb : TE} {t : TA} {We Wa Wb : WE} {Wr : WA} {p pos cpos apos pos' : Pos} {x : Str} {wi wi' : TI}
theorem pi_or (h : PI X tg e wi) (h' : PI X tg e wi') : PI X tg e (fun σ H R => wi σ H R ∨ wi' σ H R) :=
  ⟨fun pn st sg Hh R iv q => q.elim (h.run pn st sg Hh R iv) (h'.run pn st sg Hh R iv)⟩
theorem pe_or2 {t1 t2 : TE} (h : PE X e t1) (h' : PE X e t2) : PE X e (fun σ H Q => t1 σ H Q ∨ t2 σ H Q) :=
  ⟨fun pn st sg Hh Q iv q => q.elim (h.run pn st sg Hh Q iv) (h'.run pn st sg Hh Q iv)⟩
def iSeq (K : PySem.W.Frag) (te : TE) : TI := fun σ H R => iList K te σ H R ∨ iTup K te σ H R
theorem ji_var {i : Nat} (h : PE X e (tVar i)) : JI X tg e (iSeq X.K (tVar i)) (wiVar i) := by
  refine ⟨pi_or (pi_list h) (pi_tup h), fun ss R w σ H A Q q => ?_⟩
  have jl := (ji_varL (tg := tg) h).ev ss R
  have jt := (ji_varT (tg := tg) h).ev ss R
  unfold wiVar at w
  cases hs : ss[i]? with
  | none => rw [hs] at w; exact False.elim w
  | some s =>
    rw [hs] at w jl jt
    cases s with
    | dat d =>
      cases d with
      | list ds => exact .inl (jl w σ H A Q q)
      | tuple ds => exact .inr (jt w σ H A Q q)
      | _ => exact False.elim w
    | lst ds => exact .inl (jl w σ H A Q q)
    | _ => exact False.elim w
def wiE (Wa : WE) : WI := fun ss R => Wa ss fun s => match s with
  | .lst ds => R Option.none (ones ds)
  | .dat (.list ds) => noMut ss = true ∧ R Option.none (ones ds)
  | .dat (.tuple ds) => (noLs ds = true ∨ noMut ss = true) ∧ R Option.none (ones ds)
  | _ => False
def iSeqE (K : PySem.W.Frag) (te : TE) : TI := fun σ H R => te σ H fun x H1 => ∃ a, x = .ref a ∧ (((∃ xs, SqL K H1 a xs) ∧ R (Itl K a) H1) ∨ ((∃ xs, SqT K H1 a xs) ∧ R (Itt K a) H1))
theorem pi_seqE (he : PE X e te) : PI X tg e (iSeqE X.K te) := by
  refine ⟨fun pn st sg Hh R iv h => ?_⟩
  refine thn (he.run pn st sg Hh _ iv h) fun v s1 ⟨x, H1, i1, r1, q1⟩ => ?_
  obtain ⟨a, rfl, q1⟩ := q1
  cases r1
  have fp1 : ∀ b ∈ [s1.heap.objs.size], FpOk X pn H1 b := fun b hb => by
    obtain rfl : b = s1.heap.objs.size := by simpa using hb
    exact i1.fpOk (Nat.le_refl _) (i1.hok.fresh (Nat.le_refl _))
  rcases q1 with ⟨⟨xs, hq⟩, q⟩ | ⟨⟨xs, hq⟩, q⟩
  · obtain ⟨its, rv, pl, hz⟩ := i1.list hq
    exact wpAny_pyIter_list pl.isList ⟨s1.heap.objs.size, [s1.heap.objs.size], _, _, H1, rfl, i1.kept (t' := s1.toks) fun b ob q' => Heap.get?_push_of_some _ q', turn_list a _, ⟨_, Heap.get?_push_size _ rfl, rfl, rfl⟩, fp1, q⟩
  · obtain ⟨its, rv, pl, hz⟩ := i1.tuple hq
    exact wpAny_pyIter_tuple (show s1.heap.IsTuple a its.toArray from pl) ⟨s1.heap.objs.size, [s1.heap.objs.size], _, _, H1, rfl, i1.kept (t' := s1.toks) fun b ob q' => Heap.get?_push_of_some _ q', turn_tuple a _, ⟨_, Heap.get?_push_size _ rfl, rfl, rfl⟩, fp1, q⟩
theorem ji_exp (ha : JE X a ta Wa) : JI X tg a (iSeqE X.K ta) (wiE Wa) := by
  refine ⟨pi_seqE ha.pe, fun ss R w σ H A Q q => ?_⟩
  refine ha.ev ss _ w σ H A _ fun s v H1 hs s1 vs => ?_
  cases s with
  | lst ds =>
    obtain ⟨p, xs, rfl, n, e1, t, z⟩ := vs
    refine ⟨p, rfl, .inl ⟨⟨xs, .inl (.inl e1)⟩, q _ H1 Option.none _ hs s1 (iter_list (xs := xs) (.inl (.inl ?_)) (t.kt (kt_fz (A.same s1)) z))⟩⟩
    show fz σ ss H1 p = _
    rw [new_fz A n]
    exact e1
  | dat d =>
    cases d with
    | list ds =>
      cases vs with
      | lst k t =>
        refine ⟨_, rfl, .inl ⟨⟨_, k⟩, q _ H1 Option.none _ hs.2 s1 ?_⟩⟩
        show IterOk _ _ (fz σ ss H1) _
        rw [fz_noMut hs.1]
        exact iter_list k t
    | tuple ds =>
      cases vs with
      | tup k t => exact ⟨_, rfl, .inr ⟨⟨_, k.sq⟩, q _ H1 Option.none _ hs.2 s1 (iter_tk (kt_fz (A.same s1) _ _ k) (tpAll_fz A s1 hs.1 t))⟩⟩
    | _ => exact False.elim hs
  | _ => exact False.elim hs
/-- x.index(y), x a list or a tuple -/
def wIdx (Wa : WE) (Wr : WA) : WE := fun ss R => wIdxT Wa Wr ss R ∨ wIdxL Wa Wr ss R
def tIdx (K : PySem.W.Frag) (ta : TE) (t : TA) : TE := fun σ H Q => tBMK (rIndexT K) ta t σ H Q ∨ tBM K "list" (rIndexD K) ta t σ H Q
theorem je_index (hu : X.A.units + 65 < cLine) (ha : JE X o ta Wa) (hr : JA X (e :: es) t Wr) (hbase : attributeBase o "index" X.env (eval o X.env) = eval o X.env := by rfl)
    (hfew : ((backTo cpos (starEach (e :: es) X.env)).all (fun x => !x.1) && (backToKw cpos (keywordEach [] X.env)).all (fun x => x.1.isSome) && decide ((e :: es).length + ([] : List Keyword).length + (if ([] : List Keyword).isEmpty then 0 else 1) < 30)) = true := by rfl)
    (hline : (apos.endLine == cpos.line) = true := by rfl) (hs : starEach (e :: es) X.env = (false, eval e X.env) :: starEach es X.env := by rfl) (hplain : (backTo cpos (starEach es X.env)).any (·.1) = false := by rfl) :
    JE X (.Call (.Attribute o "index" apos) (e :: es) [] cpos) (tIdx X.K ta t) (wIdx Wa Wr) := by
  have j1 := je_indexT (cpos := cpos) (apos := apos) hu ha hr hbase hfew hline hs hplain
  have j2 := je_indexL (cpos := cpos) (apos := apos) hu ha hr hbase hfew hline hs hplain
  exact ⟨pe_or2 j1.pe j2.pe, fun ss R w σ H A Q q => w.elim (fun w => .inl (j1.ev ss R w σ H A Q q)) (fun w => .inr (j2.ev ss R w σ H A Q q))⟩
end

/-! ### defs that keep a promise -/
def fin (R : SV → Prop) : Out → Prop := fun o => match o with
  | .rt r => R r
  | .nx _ => R (.dat .none)
  | .xc _ => False
structure DefOk (P : Program) (w : World) (K : PySem.W.Frag) (mg : Str → Option Value) (base : Heap) (k : Nat) (x : Str) (ps : List Str) (S : List D → (SV → Prop) → Prop) : Prop where
  ex : ∃ f fd, FnOk P w K mg base CX0 k f fd ps (spD ⟨P, w, K⟩ S) ∧ mg x = some (.ref f) ∧ PySem.W.keepIn K (.ref f) = true ∧ Binds K fd ps []
section
variable {P : Program} {w : World} {K : PySem.W.Frag} {mg : Str → Option Value} {base : Heap}
theorem def_ok {x : Str} {st : Stmt} {f : Addr} {fd : FuncData} {N ps : List Str} {k : Nat} {S : List D → (SV → Prop) → Prop} {W : WS} (F : Fun K x x st f fd) (hm : mg x = some (.ref f)) (hb : Binds K fd ps []) (sc : FnScope N ps (defScope st))
    (h : ∀ (cdv : Value) (A : Around) (outer : List Env) (s : Shared) (H : Hp) (E : XK), Room k (A.deeper (envOfC x (defScope st) s.heap.objs.size f cdv)) →
      ∃ tb, JB (cxOf CX0 P w K mg base N x (defScope st) f cdv A outer s H E).nox E0 (defBody st) tb W)
    (hS : ∀ ds R, S ds R → ds.length = ps.length ∧ W (initSS N.length ds) (fin R)) : DefOk P w K mg base (k + 1) x ps S :=
  ⟨f, fd, fn_ok F sc h hS, hm, F.kp, hb⟩
end
section
variable {X : Cx} {e : Expr} {es : List Expr} {t : TA} {Wr : WA} {p pos : Pos} {x : Str}
theorem je_fn {k j : Nat} {ps : List Str} {S : List D → (SV → Prop) → Prop} (d : DefOk X.prog X.w X.K X.mg X.base k x ps S) (hr : Room j X.A) (ha : JA X (e :: es) t Wr) (hj : k ≤ j := by decide) (hg : Gl X x := by rfl) (hdb : (x == ("__debug__" : Str)) = false := by decide)
    (he : starEach (e :: es) X.env = (false, eval e X.env) :: starEach es X.env := by rfl) (hpl : (backTo pos (starEach es X.env)).any (·.1) = false := by rfl) : JE X (.Call (.Name x p) (e :: es) [] pos) (tCall (spD (gd X) S) [] E0 t) (wCB S Wr) := by
  obtain ⟨f, fd, F, hm, hk, hb⟩ := d.ex
  exact je_def (P := X.prog) (w := X.w) (K := X.K) F hr hm hk hb ha hj hg hdb he hpl
end
end Ab

set_option Elab.async false
set_option linter.all false
set_option maxRecDepth 100000
set_option maxHeartbeats 1000000
/-! Ab10: t[::-1]. -/
namespace Ab
open PySem PySem.Spec L2
open PyProof.Rows hiding St
section
variable {prog : Program} {w : World} {A : Around} {E : Value → Shared → Prop} {s : Shared}
theorem adjust_back (n : Nat) : Builtin.Slice.sliceAdjust Option.none Option.none (-1) (n : Int) = ((n : Int) - 1, -1) := by
  unfold Builtin.Slice.sliceAdjust
  simp
theorem places_back (n : Nat) : Builtin.Slice.slicePlaces ((n : Int) - 1) (-1) (-1) = n := by
  unfold Builtin.Slice.slicePlaces
  rw [if_neg (by decide)]
  by_cases h : 0 < n
  · rw [if_pos (by omega)]
    have e : ((n : Int) - 1 - -1 - 1) / - -1 + 1 = n := by
      rw [show (- -1 : Int) = 1 by decide, Int.ediv_one]
      omega
    rw [e]
    rfl
  · have : n = 0 := by omega
    subst this
    rfl
theorem pick_back (xs : Array Value) : ((List.range xs.size).filterMap fun (m : Nat) => xs[(((xs.size : Nat) : Int) - 1 + (m : Int) * -1).toNat]?).toArray = xs.toList.reverse.toArray := by
  congr 1
  refine List.ext_getElem? fun i => ?_
  have hf : (List.range xs.size).filterMap (fun (m : Nat) => xs[(((xs.size : Nat) : Int) - 1 + (m : Int) * -1).toNat]?) = (List.range xs.size).map fun m => xs.toList.getD (xs.size - 1 - m) .none := by
    have gen : ∀ l : List Nat, (∀ m ∈ l, m < xs.size) → l.filterMap (fun (m : Nat) => xs[(((xs.size : Nat) : Int) - 1 + (m : Int) * -1).toNat]?) = l.map fun m => xs.toList.getD (xs.size - 1 - m) .none := by
      intro l
      induction l with
      | nil => intro _; rfl
      | cons m l ih =>
        intro hl
        have hm : m < xs.size := hl m List.mem_cons_self
        have e : (((xs.size : Nat) : Int) - 1 + (m : Int) * -1).toNat = xs.size - 1 - m := by omega
        have hz : xs.size - 1 - m < xs.toList.length := by
          rw [Array.length_toList]
          omega
        have e2 : xs[(((xs.size : Nat) : Int) - 1 + (m : Int) * -1).toNat]? = some (xs.toList.getD (xs.size - 1 - m) .none) := by
          rw [e, List.getD_eq_getElem?_getD, List.getElem?_eq_getElem hz, ← Array.getElem?_toList, List.getElem?_eq_getElem hz]
          rfl
        rw [List.filterMap_cons]
        simp only [e2]
        rw [ih fun k hk => hl k (List.mem_cons_of_mem _ hk)]
        rfl
    exact gen _ fun m hm => List.mem_range.mp hm
  rw [hf, List.getElem?_map]
  by_cases hi : i < xs.size
  · have hl : xs.size - 1 - i < xs.toList.length := by
      rw [Array.length_toList]
      omega
    rw [List.getElem?_range hi, List.getElem?_reverse (by rw [Array.length_toList]; exact hi), Array.length_toList]
    show some (xs.toList.getD (xs.size - 1 - i) .none) = _
    rw [List.getD_eq_getElem?_getD, List.getElem?_eq_getElem hl]
    rfl
  · rw [List.getElem?_eq_none (by rw [List.length_range]; omega), List.getElem?_eq_none (by rw [List.length_reverse, Array.length_toList]; omega)]
    rfl
theorem getItem_tuple_back {t sl : Addr} {items : Array Value} {vl vu vs : Value} {Q : Value → Shared → Prop} (ht : IsTup s.heap t items) (hs : s.heap.IsSliceOf sl vl vu vs) (pl : IsPart vl Option.none) (pu : IsPart vu Option.none) (ps : IsPart vs (some (-1)))
    (h : Q (.ref s.heap.objs.size) { s with heap := s.heap.push { cls := .type "tuple", data := .seq items.toList.reverse.toArray } })
    (hsz : items.size ≤ sizeLine) : wpAny (model prog w) A (getItem (.ref t) (.ref sl)) Q E s := by
  have htake : sizeOk (.seq items.toList.reverse.toArray) := by
    show items.toList.reverse.toArray.size ≤ sizeLine
    rw [List.size_toArray, List.length_reverse, Array.length_toList]
    exact hsz
  cases pl
  cases pu
  obtain ⟨tks, rfl⟩ : ∃ tk, vs = .int (-1) tk := by
    cases ps
    exact ⟨_, rfl⟩
  obtain ⟨os, hos, hcs, hds⟩ := id hs
  have hTs : s.TypeIs (.ref sl) "slice" := ⟨os, hos, hcs⟩
  unfold getItem
  try with_reducible refine wpAny_holding ?_
  first | refine wpAny_bind (wpAny_pure ?_) | skip
  refine wpAny_bind (wpAny_sequenceKey ht.typeIs (by decide) ?_)
  refine wpAny_bind (wpAny_callSpecial?_slot (name := Str.ofString "__getitem__") ht.typeIs PyProof.Rows.slot_tuple_getitem
    (wpAny_call_entry PyProof.Rows.slot_tuple_getitem ht.typeIs entry_tuple_getitem ?_ (args_tuple_getitem _ _)))
  show wpAny _ _ (Builtin.Tuple.tupleItemsOf (.ref t) >>= _) _ _ s
  refine wpAny_bind (tupleItemsOf_ ht ?_)
  refine wpAny_bind (wpAny_typeOf hTs ?_)
  rw [if_pos (by decide)]
  refine wpAny_bind ?_
  unfold Builtin.Slice.sliceApplied Builtin.Slice.sliceFields
  refine wpAny_bind (wpAny_bind (wpAny_field hos hds (x := .none) rfl (wpAny_bind (wpAny_field hos hds (x := .none) rfl (wpAny_bind (wpAny_field hos hds (x := .int (-1) tks) rfl (wpAny_pure ?_)))))))
  refine wpAny_bind (slicePart_int ?_)
  show wpAny _ _ (if ((-1 : Int) == 0) = true then _ else _) _ _ s
  rw [if_neg (by decide)]
  refine wpAny_bind (slicePart_none (wpAny_bind (slicePart_none (wpAny_bind (wpAny_pure ?_)))))
  show wpAny _ _ (match Builtin.Slice.sliceAdjust Option.none Option.none (-1) ((items.size : Nat) : Int) with | (lo, hi) => pure (lo, (-1 : Int), Builtin.Slice.slicePlaces lo hi (-1))) _ _ s
  rw [adjust_back]
  show wpAny _ _ (pure (((items.size : Nat) : Int) - 1, (-1 : Int), Builtin.Slice.slicePlaces (((items.size : Nat) : Int) - 1) (-1) (-1))) _ _ s
  rw [places_back]
  refine wpAny_pure ?_
  have hno : ¬ (((((items.size : Nat) : Int) - 1) == 0 && (-1 : Int) == 1 && items.size == items.size) = true) := by
    rw [show ((-1 : Int) == 1) = false by decide, Bool.and_false, Bool.false_and]
    decide
  show wpAny _ _ (if ((((items.size : Nat) : Int) - 1) == 0 && (-1 : Int) == 1 && items.size == items.size) = true then _ else _) _ _ s
  rw [if_neg hno, pick_back]
  first
    | exact wpAny_bind (m := Builtin.Tuple.tupleExact _) (wpAny_newObj_type (wpAny_pure ⟨_, rfl, wpAny_pure h⟩) htake)
    | exact wpAny_bind (m := Builtin.Tuple.tupleExact _) (wpAny_newObj_type (wpAny_bind (wpAny_pure (wpAny_pure ⟨_, rfl, wpAny_pure h⟩))) htake)
    | exact wpAny_bind (wpAny_bind (m := Builtin.Tuple.tupleExact _) (wpAny_newObj_type (wpAny_pure (wpAny_pure ⟨_, rfl, wpAny_pure h⟩)) htake))
    | exact wpAny_bind (wpAny_bind (m := Builtin.Tuple.tupleExact _) (wpAny_newObj_type (wpAny_pure ⟨_, rfl, wpAny_pure h⟩) htake))
end
section
variable {X : Cx} {e : Expr} {te : TE} {We : WE} {k : Nat} {p1 p2 p3 pos : Pos}
def tRevT (K : PySem.W.Frag) (te : TE) : TE := fun σ H Q => te σ H fun x H1 => ∃ a xs, x = .ref a ∧ SqT K H1 a xs ∧ ∀ p H2, H1 p = Option.none → NewT H1 p xs.reverse H2 → Q (.ref p) H2
theorem pe_revT (he : PE X e te) : PE X (.Subscript e (.Slice none none (some (.UnaryOp .USub (.Constant (.int 1) k p1) p2)) p3) pos) (tRevT X.K te) := by
  refine ⟨fun pn st sg Hh Qq iv h => ?_⟩
  refine Subscript_ (thn (he.run pn st sg Hh _ iv h) fun v s1 ⟨x, H1, i1, r1, q1⟩ => ?_)
  obtain ⟨a, xs, rfl, hx, q⟩ := q1
  cases r1
  have hst : PO X (some (.UnaryOp .USub (.Constant (.int 1) k p1) p2)) (tPart (tUn (rU fun i => .int (-i)) (tC (.int 1)))) := po_some (pe_un un_neg pe_int)
  refine wpAny_Slice (thn (po_none.run pn s1 sg H1 (fun o Hx => o = Option.none ∧ Hx = H1) i1 ⟨rfl, rfl⟩) fun vl s2 ⟨l, H2, i2, pl, el, e2⟩ => ?_)
  subst el e2
  refine thn (po_none.run pn s2 sg H2 (fun o Hx => o = Option.none ∧ Hx = H2) i2 ⟨rfl, rfl⟩) fun vu s3 ⟨u, H3, i3, pu, eu, e3⟩ => ?_
  subst eu e3
  refine thn (hst.run pn s3 sg H3 (fun o Hx => o = some (-1) ∧ Hx = H3) i3 ⟨1, rfl, -1, rfl, rfl, rfl⟩) fun vs s4 ⟨o, H4, i4, ps, eo, e4⟩ => ?_
  subst eo e4
  have i5 : Inv X pn sg H4 { s4 with heap := s4.heap.push { cls := .type "slice", data := .fields #[vl, vu, vs] } } := i4.kept (t' := s4.toks) fun b ob q => Heap.get?_push_of_some _ q
  obtain ⟨its, r, ht, hz⟩ := i5.tuple hx
  show wpAny (model X.prog X.w) X.A (subscriptTail e (.Slice none none (some (.UnaryOp .USub (.Constant (.int 1) k p1) p2)) p3) (.ref a) (.ref s4.heap.objs.size)) (EP X pn sg Qq) X.xe { s4 with heap := s4.heap.push { cls := .type "slice", data := .fields #[vl, vu, vs] } }
  refine tail_any (ops := [.ref a, .ref s4.heap.objs.size]) ht.typeIs (PyProof.Rows.slot_tuple_getitem.lookup) ?_ (by with_unfolding_all rfl)
  refine getItem_tuple_back ht (Heap.IsSliceOf.new _ vl vu vs) pl pu ps ?_ (by rw [List.size_toArray, ← r.length]; exact hz)
  obtain ⟨H6, n6, i6⟩ := inv_tupK (xs := xs.reverse) (its := its.reverse) (tk := s4.toks) i5 (by rw [List.length_reverse]; exact hz) r.reverse
  exact ⟨.ref _, H6, i6, rfl, q _ _ (inv_fresh i5) n6⟩
def wRevT (We : WE) : WE := fun ss R => We ss (dd fun d => match d with
  | .tuple ds => R (.dat (.tuple ds.reverse))
  | _ => False)
theorem je_revT (he : JE X e te We) : JE X (.Subscript e (.Slice none none (some (.UnaryOp .USub (.Constant (.int 1) k p1) p2)) p3) pos) (tRevT X.K te) (wRevT We) := by
  refine ⟨pe_revT he.pe, fun ss R w σ H A Q q => ?_⟩
  refine (he.ev ss _ w).use A fun d v H1 hd s1 t1 => ?_
  cases d with
  | tuple ds =>
    cases t1 with
    | tup kk t =>
      refine ⟨_, _, rfl, kk.sq, fun p H2 n nt => ?_⟩
      have s2 := nt.same n
      exact q _ _ H2 hd (s1.trans s2) (.tup nt.tk (t.reverse.same s2))
  | _ => exact False.elim hd
end
end Ab

set_option Elab.async false
set_option linter.all false
set_option maxRecDepth 100000
set_option maxHeartbeats 1000000
/-! Ab11: min, sorted, of data. -/
namespace Ab
open PySem PySem.Spec L2
open PyProof.Rows hiding St
section
variable {X : Cx}
theorem Vals.back {xs : List V} {us : List Value} (h : Vals xs us) : ∀ {i : Nat} {u : Value}, us[i]? = some u → ∃ x, xs[i]? = some x ∧ RelV x u := by
  induction h with
  | nil => intro i u e; simp at e
  | cons r t ih =>
    intro i u e
    cases i with
    | zero =>
      have e := Option.some.inj e
      subst e
      exact ⟨_, rfl, r⟩
    | succ i =>
      obtain ⟨x, h1, h2⟩ := ih (i := i) (u := u) (by simpa using e)
      exact ⟨x, by simpa using h1, h2⟩
theorem reads_at {h : Heap} {its : List Value} {ds : List PyData} {as : List Addr} (hc : PyData.canLayAll0 ds = true) (r : ReadsAll h its ds as) {i : Nat} {u : Value} (hu : its[i]? = some u) : ds[i]? = some (SeqAt.readOf h u) := by
  rw [← SeqAt.readsAll_map ds its as hc r, List.getElem?_map, hu]
  rfl
theorem readsAll_keep {h h' : Heap} (hk : ∀ b o, h.get? b = some o → h'.get? b = some o) : ∀ {its : List Value} {ds : List PyData} {as : List Addr}, ReadsAll h its ds as → ReadsAll h' its ds as
  | _, _, _, .nil => .nil
  | _, _, _, .cons r rs => .cons (PySem.W.reads_keeps hk r) (readsAll_keep hk rs)
theorem canLay_mem : ∀ {l : List PyData}, PyData.canLayAll0 l = true → ∀ {y : PyData}, y ∈ l → y.canLay0 = true
  | z :: l, hz, y, hy => by
    rw [PyData.canLayAll0, Bool.and_eq_true] at hz
    rcases List.mem_cons.mp hy with e | e
    · rw [e]; exact hz.1
    · exact canLay_mem hz.2 e
theorem minD_mem (d : PyData) : ∀ (ds : List PyData), PySem.W.minD d ds ∈ d :: ds := by
  intro ds
  unfold PySem.W.minD
  induction ds generalizing d with
  | nil => exact List.mem_singleton.mpr rfl
  | cons y ds ih =>
    rw [List.foldl_cons]
    by_cases h : PySem.W.dataLt y d = true
    · rw [if_pos h]
      exact List.mem_cons_of_mem _ (ih y)
    · rw [if_neg h]
      rcases List.mem_cons.mp (ih d) with e | e
      · rw [e]; exact List.mem_cons_self
      · exact List.mem_cons_of_mem _ (List.mem_cons_of_mem _ e)
def rMinD (K : PySem.W.Frag) : List V → Hp → VK → Prop := fun vs H Q => ∃ (a : Addr) (xs : List V) (d : PyData) (ds : List PyData), vs = [V.ref a] ∧ (SqL K H a xs ∨ SqT K H a xs) ∧ DpAll K H xs (d :: ds) ∧
  PySem.W.AlikeAll (d :: ds) ∧ PyData.canLayAll0 (d :: ds) = true ∧ PyData.depthAll (d :: ds) ≤ 60 ∧ ∀ (i : Nat) (v : V), xs[i]? = some v → (d :: ds)[i]? = some (PySem.W.minD d ds) → Q v H
theorem cr_minD {k : Nat} (hc : X.calm = true) (hr : Room k X.A) : CallR X (.builtin "min") (rMinD X.K) := by
  intro pn st sg Hh vs us Qq iv r h
  obtain ⟨a, xs, d, ds, rfl, hs, hd, hal, hcl, hdp, q⟩ := h
  have hu : X.A.units + 1 + PyData.depthAll (d :: ds) < cLine := by
    have := hr.un
    omega
  have fin : ∀ (its : List Value) (as : List Addr), Vals xs its → ReadsAll st.heap its (d :: ds) as → ∀ (i : Nat) (v : Value) (h' : Heap) (tk : Nat) (bs : List Addr), its.toArray[i]? = some v → Reads h' v (PySem.W.minD d ds) bs → (∀ b o, st.heap.get? b = some o → h'.get? b = some o) → EP X pn sg Qq v { st with heap := h', toks := tk } := fun its as rv ra i v h' tk bs hi hrd hk => by
    have hi : its[i]? = some v := by simpa using hi
    obtain ⟨x, hx, rx⟩ := Vals.back rv hi
    have ra' : ReadsAll h' its (d :: ds) as := readsAll_keep hk ra
    have e := reads_at hcl ra' hi
    have hm : PyData.canLay0 (PySem.W.minD d ds) = true := canLay_mem hcl (minD_mem d ds)
    rw [SeqAt.readOf_eq hm hrd] at e
    exact ⟨x, Hh, iv.kept hk, rx, q i x hx e⟩
  rcases hs with hs | hs
  · obtain ⟨its, rv, pl, hz⟩ := iv.list hs
    rw [Vals.ref1 r]
    obtain ⟨as, ra⟩ := Dp.readsAll iv _ _ its hd rv
    exact PySem.W.min_list_data (iv.ok.hd hc) pl.isList (by simpa using ra) hal hu (fin its as rv ra)
  · obtain ⟨its, rv, pl, hz⟩ := iv.tuple hs
    rw [Vals.ref1 r]
    obtain ⟨as, ra⟩ := Dp.readsAll iv _ _ its hd rv
    exact PySem.W.min_tuple_data (iv.ok.hd hc) (show st.heap.IsTuple a its.toArray from pl) (by simpa using ra) hal hu (fin its as rv ra)
/-- what min asks of the items -/
def MinOk (ds : List D) : Prop := PySem.W.AlikeAll ds ∧ PyData.canLayAll0 ds = true ∧ PyData.depthAll ds ≤ 60
def minDs : List D → (SV → Prop) → Prop
  | [], _ => False
  | d :: ds, R => MinOk (d :: ds) ∧ R (.dat (PySem.W.minD d ds))
def minD1 : D → (SV → Prop) → Prop
  | .list ds, R => minDs ds R
  | .tuple ds, R => minDs ds R
  | _, _ => False
theorem jc_min {k : Nat} (hc : X.calm = true) (hr : Room k X.A) : JC X (.builtin "min") (rMinD X.K) (on1 minD1) := by
  refine ⟨cr_minD hc hr, fun ds R w0 H vs t0 Q q => ?_⟩
  obtain ⟨d, rfl, w⟩ := on1_of w0
  obtain ⟨v, rfl, t⟩ := one_tp t0
  have go : ∀ (a : Addr) (xs : List V) (ds : List D), (SqL X.K H a xs ∨ SqT X.K H a xs) → TpAll X.K H xs ds → minDs ds R → rMinD X.K [.ref a] H Q := fun a xs ds hs t w => by
    cases ds with
    | nil => exact False.elim w
    | cons d ds =>
      obtain ⟨⟨w1, w2, w3⟩, hr⟩ := w
      refine ⟨a, xs, d, ds, rfl, hs, t.dp, w1, w2, w3, fun i v hv hd => ?_⟩
      obtain ⟨e, h1, h2⟩ := t.getV hv
      rw [hd] at h1
      cases h1
      exact q _ v H hr (Same.refl H) h2
  cases d with
  | list ds => cases t with | lst k t => exact go _ _ ds (.inl k) t w
  | tuple ds => cases t with | tup k t => exact go _ _ ds (.inr k.sq) t w
  | _ => exact False.elim w
end
end Ab

set_option Elab.async false
set_option linter.all false
set_option maxRecDepth 100000
set_option maxHeartbeats 1000000
/-! Ab12: dicts: keys that are tuples of ints, keys that are ints. -/
namespace Ab
open PySem PySem.Spec L2
open PyProof.Rows hiding St

/-! ### tables -/
section
variable {κ : Type} [DecidableEq κ]
def gL (kvs : List (κ × D)) (k : κ) : Option D := (kvs.find? fun kv => decide (kv.1 = k)).map (·.2)
def pL (kvs : List (κ × D)) (k : κ) (d : D) : List (κ × D) := if (gL kvs k).isSome = true then kvs.map (fun kv => if kv.1 = k then (kv.1, d) else kv) else kvs ++ [(k, d)]
theorem gL_pos {p : κ × D} {r : List (κ × D)} {k : κ} (e : p.1 = k) : gL (p :: r) k = some p.2 := by simp [gL, List.find?_cons, e]
theorem gL_neg {p : κ × D} {r : List (κ × D)} {k : κ} (e : ¬ p.1 = k) : gL (p :: r) k = gL r k := by simp [gL, List.find?_cons, e]
theorem gL_none {kvs : List (κ × D)} {k : κ} : gL kvs k = none ↔ k ∉ kvs.map (·.1) := by
  induction kvs with
  | nil => simp [gL]
  | cons p r ih =>
    by_cases e : p.1 = k
    · rw [gL_pos e]; simp [e]
    · rw [gL_neg e, ih, List.map_cons, List.mem_cons, not_or]
      exact ⟨fun h => ⟨fun z => e z.symm, h⟩, fun h => h.2⟩
theorem gL_mem {kvs : List (κ × D)} {k : κ} {d : D} (h : gL kvs k = some d) : (k, d) ∈ kvs := by
  induction kvs with
  | nil => simp [gL] at h
  | cons p r ih =>
    by_cases e : p.1 = k
    · rw [gL_pos e] at h
      cases h
      rw [← e]
      exact List.mem_cons_self
    · rw [gL_neg e] at h
      exact List.mem_cons_of_mem _ (ih h)
theorem pL_new {kvs : List (κ × D)} {k : κ} (d : D) (h : gL kvs k = none) : pL kvs k d = kvs ++ [(k, d)] := by
  unfold pL
  rw [h]
  exact if_neg (by decide)
theorem gL_snoc {k j : κ} {d : D} : ∀ {kvs : List (κ × D)}, gL kvs k = none → gL (kvs ++ [(k, d)]) j = if j = k then some d else gL kvs j
  | [], _ => by
    by_cases e : k = j
    · rw [if_pos e.symm]; exact gL_pos (p := (k, d)) e
    · rw [if_neg (fun z => e z.symm)]; exact gL_neg (p := (k, d)) e
  | p :: r, hn => by
    rw [List.cons_append]
    have hk : ¬ p.1 = k := fun z => by rw [gL_pos z] at hn; cases hn
    rw [gL_neg hk] at hn
    have ih := gL_snoc (k := k) (j := j) (d := d) hn
    by_cases e : p.1 = j
    · rw [gL_pos e, gL_pos e, if_neg (fun z => hk (e.trans z))]
    · rw [gL_neg e, gL_neg e, ih]
theorem gL_rep {k j : κ} {d : D} : ∀ kvs : List (κ × D), gL (kvs.map fun kv => if kv.1 = k then (kv.1, d) else kv) j = (gL kvs j).map fun x => if j = k then d else x
  | [] => rfl
  | p :: r => by
    have ih := gL_rep (k := k) (j := j) (d := d) r
    rw [List.map_cons]
    by_cases h : p.1 = k
    · rw [if_pos h]
      by_cases e : p.1 = j
      · rw [gL_pos (p := (p.1, d)) e, gL_pos e, Option.map_some, if_pos (e.symm.trans h)]
      · rw [gL_neg (p := (p.1, d)) e, gL_neg e, ih]
    · rw [if_neg h]
      by_cases e : p.1 = j
      · rw [gL_pos (p := p) e, gL_pos e, Option.map_some, if_neg (fun z => h (e.trans z))]
      · rw [gL_neg (p := p) e, gL_neg e, ih]
theorem gL_pL (kvs : List (κ × D)) (k j : κ) (d : D) : gL (pL kvs k d) j = if j = k then some d else gL kvs j := by
  unfold pL
  by_cases a : (gL kvs k).isSome = true
  · rw [if_pos a, gL_rep]
    by_cases e : j = k
    · obtain ⟨x, hx⟩ := Option.isSome_iff_exists.mp a
      rw [if_pos e, e, hx, Option.map_some, if_pos rfl]
    · rw [if_neg e]
      cases gL kvs j with
      | none => rfl
      | some x => rw [Option.map_some, if_neg e]
  · rw [if_neg a]
    refine gL_snoc ?_
    cases q : gL kvs k with
    | none => rfl
    | some x => rw [q] at a; exact (a rfl).elim
theorem keys_rep {k : κ} {d : D} (kvs : List (κ × D)) : (kvs.map fun kv => if kv.1 = k then (kv.1, d) else kv).map (·.1) = kvs.map (·.1) := by
  rw [List.map_map]
  refine List.map_congr_left fun kv _ => ?_
  show (if kv.1 = k then (kv.1, d) else kv).1 = kv.1
  split <;> rfl
end

section
variable {P : Program} {w : World} {K : PySem.W.Frag} {X : Cx} {pins : List (Addr × Obj)} {σ : St} {H : Hp} {s : Shared} {a b : Addr} {A : Around} {E : Value → Shared → Prop}
theorem items_int {P : Program} {w : World} : ∀ {ks : List Int} {us : List Value}, Vals (ks.map V.int) us → ItemsAre (PySem.intKind P w) ks us
  | [], _, r => by rw [List.map_nil] at r; cases r; exact .nil
  | k :: ks, _, r => by
    rw [List.map_cons] at r
    cases r with
    | cons h t =>
      obtain ⟨t', rfl⟩ := h
      exact .cons (by show Value.isInt k (.int k t') = true; unfold Value.isInt; exact decide_eq_true rfl) (items_int t)
theorem keyI_of {ks : List Int} (iv : Inv X pins σ H s) (e : TK H b (ks.map V.int)) : (tupleKind (PySem.intKind X.prog X.w)).is s.heap ks b := by
  obtain ⟨its, r, pt, z⟩ := iv.tuple (e.sq (K := X.K))
  obtain ⟨o, h1, h2, n, h3⟩ := pt
  exact ⟨o, its.toArray, n, h1, h2, h3, by simpa using items_int (P := X.prog) (w := X.w) r⟩
/-- the keys are known tuples -/
def KyT (H : Hp) (L : List (List Int × Addr × Value)) : Prop := ∀ x ∈ L, TK H x.2.1 (x.1.map V.int)
theorem KvT.ky {L : List (List Int × Addr × Value)} {kvs : List (List Int × D)} (h : KvT K H L kvs) : KyT H L := by
  induction h with
  | nil => intro x hx; cases hx
  | cons h1 h2 h3 h4 _ ih =>
    intro x hx
    rcases List.mem_cons.mp hx with e | hx
    · rw [e]; exact h1
    · exact ih x hx
theorem KvT.len {L : List (List Int × Addr × Value)} {kvs : List (List Int × D)} (h : KvT K H L kvs) : L.length = kvs.length := by
  induction h with
  | nil => rfl
  | cons _ _ _ _ _ ih => rw [List.length_cons, List.length_cons, ih]
theorem KvT.keys {L : List (List Int × Addr × Value)} {kvs : List (List Int × D)} (h : KvT K H L kvs) : L.map (·.1) = kvs.map (·.1) := by
  induction h with
  | nil => rfl
  | cons _ _ _ _ _ ih => rw [List.map_cons, List.map_cons, ih]
theorem KvT.val {L : List (List Int × Addr × Value)} {kvs : List (List Int × D)} (h : KvT K H L kvs) (k : List Int) :
    (gL kvs k = none ∧ atKey L k = none) ∨ ∃ d p v, gL kvs k = some d ∧ atKey L k = some p ∧ RelV v p.2 ∧ Tp K H v d ∧ noL d = true := by
  induction h with
  | nil => exact .inl ⟨rfl, rfl⟩
  | @cons k' b u v d L kvs h1 h2 h3 h4 _ ih =>
    by_cases e : k' = k
    · exact .inr ⟨d, (b, u), v, gL_pos (p := (k', d)) e, by simp [atKey, List.find?_cons, e], h2, h3, h4⟩
    · rcases ih with ⟨i1, i2⟩ | ⟨d', p, v', i1, i2, i3⟩
      · exact .inl ⟨by rw [gL_neg (p := (k', d)) e]; exact i1, by simpa [atKey, List.find?_cons, e] using i2⟩
      · exact .inr ⟨d', p, v', by rw [gL_neg (p := (k', d)) e]; exact i1, by simpa [atKey, List.find?_cons, e] using i2, i3⟩
theorem KvT.isSome {L : List (List Int × Addr × Value)} {kvs : List (List Int × D)} (h : KvT K H L kvs) (k : List Int) : (atKey L k).isSome = (gL kvs k).isSome := by
  rcases h.val k with ⟨e1, e2⟩ | ⟨d, p, v, e1, e2, _⟩
  · rw [e1, e2]; rfl
  · rw [e1, e2]; rfl
theorem KvT.append {L M : List (List Int × Addr × Value)} {kvs kws : List (List Int × D)} (h : KvT K H L kvs) (q : KvT K H M kws) : KvT K H (L ++ M) (kvs ++ kws) := by
  induction h with
  | nil => exact q
  | cons h1 h2 h3 h4 _ ih => exact .cons h1 h2 h3 h4 ih
theorem KvT.repl {L : List (List Int × Addr × Value)} {kvs : List (List Int × D)} (h : KvT K H L kvs) (k : List Int) {v : V} {u : Value} {d : D} (rv : RelV v u) (t : Tp K H v d) (n : noL d = true) :
    KvT K H (L.map (putAt k u)) (kvs.map fun kv => if kv.1 = k then (kv.1, d) else kv) := by
  induction h with
  | nil => exact .nil
  | @cons k' b u' v' d' L kvs h1 h2 h3 h4 _ ih =>
    rw [List.map_cons, List.map_cons]
    unfold putAt
    by_cases e : k' = k
    · rw [if_pos (show (k', b, u').1 = k from e), if_pos (show (k', d').1 = k from e)]
      exact .cons h1 rv t n ih
    · rw [if_neg (show ¬ (k', b, u').1 = k from e), if_neg (show ¬ (k', d').1 = k from e)]
      exact .cons h1 h2 h3 h4 ih
theorem KvT.put {L : List (List Int × Addr × Value)} {kvs : List (List Int × D)} (h : KvT K H L kvs) (k : List Int) {v : V} {u : Value} {d : D} (hb : TK H b (k.map V.int)) (rv : RelV v u) (t : Tp K H v d) (n : noL d = true) :
    KvT K H (storedH L k b u) (pL kvs k d) := by
  unfold storedH pL
  rw [h.isSome k]
  by_cases q : (gL kvs k).isSome = true
  · rw [if_pos q, if_pos q]
    exact h.repl k rv t n
  · rw [if_neg q, if_neg q]
    exact h.append (.cons hb rv t n .nil)
theorem raw_ok {h : Heap} {L : List (List Int × Addr × Value)} (r : RawT P w h a L) : ObjOk P w H h a (DTo P w a L) :=
  ⟨r, let ⟨_, _, o, _, _, e, _⟩ := r; ⟨o, e⟩, fun h1 h2 r k => let ⟨z, y, o, es, ep, e, c⟩ := r; ⟨z, y, o, es, ep, k _ e, c⟩⟩
theorem dto_rd {L : List (List Int × Addr × Value)} (iv : Inv X pins σ H s) (e : H a = some (DTo X.prog X.w a L)) (ky : KyT H L) :
    L.length ≤ sizeLine ∧ (a == sysModules) = false ∧ s.heap.DictOfH (tupleKind (PySem.intKind X.prog X.w)) a L := by
  obtain ⟨⟨z, y, o, es, ep, h1, h2, h3, h4, h5⟩, _⟩ := iv.hok a _ e
  exact ⟨z, y, o, es, ep, h1, h2, h3, h4, fun x hx => keyI_of iv (ky x hx), h5⟩
theorem dto_ne {H : Hp} {a b : Addr} {L : List (List Int × Addr × Value)} {xs : List V} (e : H a = some (DTo P w a L)) (t : TK H b xs) : b ≠ a := fun z => by
  obtain ⟨o, _, e2⟩ := t
  rw [z, e] at e2
  cases e2
theorem dto_set {L : List (List Int × Addr × Value)} {k : List Int} {u : Value} {Q : Unit → Shared → Prop} (hu : A.units + 1 < cLine) (iv : Inv X pins σ H s) (e : H a = some (DTo X.prog X.w a L)) (ky : KyT H L) (hb : TK H b (k.map V.int)) (hz : L.length < sizeLine)
    (h : ∀ s', Inv X pins σ (upd H a (DTo X.prog X.w a (storedH L k b u))) s' → Q () s') : wpAny (model X.prog X.w) A (setItem (.ref a) (.ref b) u) Q E s := by
  obtain ⟨z, hd, dd⟩ := dto_rd iv e ky
  refine wpAny_setItem_heap (hsz := z) (tupleKind_room_in1 hu) (keyI_of iv hb) dd fun h' dd' hs => h _ ?_
  obtain ⟨q, es, ep, hq, h2, h3, h4, _, h5⟩ := dd'
  have hl := PySem.storedH_length L k b u
  exact d_write iv (by rw [e]; exact True.intro) hs ⟨q, hq⟩ (raw_ok ⟨by omega, hd, q, es, ep, hq, h2, h3, h4, h5⟩)
end

/-! ### rules over expressions -/
def tDGT (P : Program) (w : World) (td ty : TE) : TE := fun σ H Q => td σ H fun x H1 => ty σ H1 fun y H2 => ∃ (a b : Addr) (L : List (List Int × Addr × Value)) (k : List Int) (p : Addr × Value) (v : V),
  x = .ref a ∧ y = .ref b ∧ H2 a = some (DTo P w a L) ∧ KyT H2 L ∧ TK H2 b (k.map V.int) ∧ atKey L k = some p ∧ RelV v p.2 ∧ Q v H2
def tDIT (P : Program) (w : World) (neg : Bool) (ty td : TE) : TE := fun σ H Q => ty σ H fun y H1 => td σ H1 fun x H2 => ∃ (a b : Addr) (L : List (List Int × Addr × Value)) (k : List Int),
  x = .ref a ∧ y = .ref b ∧ H2 a = some (DTo P w a L) ∧ KyT H2 L ∧ TK H2 b (k.map V.int) ∧ Q (.bl (neg != (atKey L k).isSome)) H2
def tDPT (P : Program) (w : World) (td ty tv : TE) : TS := fun D σ H => tv σ H fun v H1 => td σ H1 fun x H2 => ty σ H2 fun y H3 => ∃ (a b : Addr) (L : List (List Int × Addr × Value)) (k : List Int),
  x = .ref a ∧ y = .ref b ∧ H3 a = some (DTo P w a L) ∧ KyT H3 L ∧ TK H3 b (k.map V.int) ∧ L.length < sizeLine ∧ ∀ u, RelV v u → D.nx σ (upd H3 a (DTo P w a (storedH L k b u)))
section
variable {X : Cx} {o i e value a b : Expr} {pos pos' tpos : Pos} {td ty tv : TE}
theorem pe_dgT (hu : X.A.units + 1 < cLine) (ho : PE X o td) (hi : PE X i ty) (hs : NoSl i) : PE X (.Subscript o i pos) (tDGT X.prog X.w td ty) := by
  refine ⟨fun pins s σ H Q I h => ?_⟩
  refine subD_of PySem.F.slot_dict_getitem.lookup hs (thn (ho.run pins s σ H _ I h) fun u s1 ⟨x, H1, I1, rx, q1⟩ => thn (hi.run pins s1 σ H1 _ I1 q1) fun iv s2 ⟨y, H2, I2, ry, a, b, L, k, p, v, ex, ey, e, ky, tk, hp, rv, q2⟩ => ?_)
  subst ex ey
  obtain rfl : u = Value.ref a := rx
  obtain rfl : iv = Value.ref b := ry
  obtain ⟨z, hd, dd⟩ := dto_rd I2 e ky
  exact ⟨dd.typeIs, wpAny_getItem_heap (tupleKind_room_in1 hu) (keyI_of I2 tk) dd hp ⟨v, H2, I2.tok _, rv, q2⟩⟩
theorem pc_diT (hu : X.A.units + 1 < cLine) (hi : PE X i ty) (ho : PE X o td) : PC X .In i o (tDIT X.prog X.w false ty td) := by
  refine ⟨fun pins s σ H Q I h => ?_⟩
  refine thn (hi.run pins s σ H _ I h) fun iv s1 ⟨y, H1, I1, ry, q1⟩ => thn (ho.run pins s1 σ H1 _ I1 q1) fun u s2 ⟨x, H2, I2, rx, a, b, L, k, ex, ey, e, ky, tk, q2⟩ => ?_
  subst ex ey
  obtain rfl : u = Value.ref a := rx
  obtain rfl : iv = Value.ref b := ry
  obtain ⟨z, hd, dd⟩ := dto_rd I2 e ky
  refine wpAny_in_heap (tupleKind_room_in1 hu) (keyI_of I2 tk) hd dd ⟨.bl (atKey L k).isSome, H2, I2.tok _, rfl, ?_⟩
  simpa using q2
theorem pc_dnT (hu : X.A.units + 1 < cLine) (hi : PE X i ty) (ho : PE X o td) : PC X .NotIn i o (tDIT X.prog X.w true ty td) := by
  refine ⟨fun pins s σ H Q I h => ?_⟩
  refine thn (hi.run pins s σ H _ I h) fun iv s1 ⟨y, H1, I1, ry, q1⟩ => thn (ho.run pins s1 σ H1 _ I1 q1) fun u s2 ⟨x, H2, I2, rx, a, b, L, k, ex, ey, e, ky, tk, q2⟩ => ?_
  subst ex ey
  obtain rfl : u = Value.ref a := rx
  obtain rfl : iv = Value.ref b := ry
  obtain ⟨z, hd, dd⟩ := dto_rd I2 e ky
  refine wpAny_notIn_heap (tupleKind_room_in1 hu) (keyI_of I2 tk) hd dd ⟨.bl (!(atKey L k).isSome), H2, I2.tok _, rfl, ?_⟩
  simpa using q2
theorem ps_dpT (hu : X.A.units + 1 < cLine) (ho : PE X o td) (hi : PE X i ty) (hv : PE X value tv) (hs : swapsWith value (some (.Subscript o i pos')) pos.line X.env = pure false) :
    PS X (.Assign [.Subscript o i pos'] value pos) (tDPT X.prog X.w td ty tv) := by
  refine ⟨fun pins s σ H D I h => ?_⟩
  refine wpAny_Assign_Subscript (thn (hv.run pins s σ H _ I h) fun r s1 ⟨v, H1, I1, rv, q1⟩ => thn (ho.run pins s1 σ H1 _ I1 q1) fun u s2 ⟨x, H2, I2, rx, q2⟩ => thn (hi.run pins s2 σ H2 _ I2 q2) fun iv s3 ⟨y, H3, I3, ry, a, b, L, k, ex, ey, e, ky, tk, hz, q3⟩ => ?_) hs
  subst ex ey
  obtain rfl : u = Value.ref a := rx
  obtain rfl : iv = Value.ref b := ry
  exact dto_set hu I3 e ky tk hz fun s4 I4 => ⟨σ, _, I4, q3 r rv⟩
end
end Ab

set_option Elab.async false
set_option linter.all false
set_option maxRecDepth 100000
set_option maxHeartbeats 1000000
/-! Ab13: dicts in expressions and statements; sorted, list, len. -/
namespace Ab
open PySem PySem.Spec L2
open PyProof.Rows hiding St

section
variable {K : PySem.W.Frag} {H : Hp}
theorem key_tp {v : V} {ks : List Int} (t : Tp K H v (.tuple (ks.map PyData.int))) : ∃ b, v = .ref b ∧ TK H b (ks.map V.int) := by
  cases t with
  | tup k t => exact ⟨_, rfl, by rw [← TpAll.ints t]; exact k⟩
theorem key_di {k : List Int} {b : Addr} (t : TK H b (k.map V.int)) : Tp K H (.ref b) (.tuple (k.map PyData.int)) := .tup t (tpAll_ints k)
theorem noL_key (k : List Int) : noL (.tuple (k.map PyData.int)) = true := noLs_map PyData.int (fun _ => rfl) k
theorem KyT.mono {H' : Hp} {L : List (List Int × Addr × Value)} (s : Kt H H') (h : KyT H L) : KyT H' L := fun x hx => s _ _ (h x hx)
theorem KvK.len {L : List (Key × V)} {kvs : List (Int × D)} (h : KvK K H L kvs) : L.length = kvs.length := by
  induction h with
  | nil => rfl
  | cons _ _ _ ih => rw [List.length_cons, List.length_cons, ih]
theorem KvK.keys {L : List (Key × V)} {kvs : List (Int × D)} (h : KvK K H L kvs) : L.map (·.1) = kvs.map fun kv => Sum.inl kv.1 := by
  induction h with
  | nil => rfl
  | cons _ _ _ ih => rw [List.map_cons, List.map_cons, ih]
theorem KvK.val {L : List (Key × V)} {kvs : List (Int × D)} (h : KvK K H L kvs) (k : Int) :
    (gL kvs k = none ∧ valV L (Sum.inl k) = none) ∨ ∃ d v, gL kvs k = some d ∧ valV L (Sum.inl k) = some v ∧ Tp K H v d ∧ noL d = true := by
  induction h with
  | nil => exact .inl ⟨rfl, rfl⟩
  | @cons k' v d L kvs h1 h2 _ ih =>
    by_cases e : k' = k
    · exact .inr ⟨d, v, gL_pos (p := (k', d)) e, valV_pos (p := ((Sum.inl k' : Key), v)) (by rw [e]), h1, h2⟩
    · have e' : ¬ ((Sum.inl k' : Key) = Sum.inl k) := fun z => e (Sum.inl.inj z)
      rcases ih with ⟨i1, i2⟩ | ⟨d', v', i1, i2, i3⟩
      · exact .inl ⟨by rw [gL_neg (p := (k', d)) e]; exact i1, by rw [valV_neg (p := ((Sum.inl k' : Key), v)) e']; exact i2⟩
      · exact .inr ⟨d', v', by rw [gL_neg (p := (k', d)) e]; exact i1, by rw [valV_neg (p := ((Sum.inl k' : Key), v)) e']; exact i2, i3⟩
theorem KvK.repl {L : List (Key × V)} {kvs : List (Int × D)} (h : KvK K H L kvs) (k : Int) {v : V} {d : D} (t : Tp K H v d) (n : noL d = true) :
    KvK K H (L.map fun kv => if kv.1 = Sum.inl k then (kv.1, v) else kv) (kvs.map fun kv => if kv.1 = k then (kv.1, d) else kv) := by
  induction h with
  | nil => exact .nil
  | @cons k' v' d' L kvs h1 h2 _ ih =>
    rw [List.map_cons, List.map_cons]
    by_cases e : k' = k
    · rw [if_pos (show ((Sum.inl k' : Key), v').1 = Sum.inl k from congrArg Sum.inl e), if_pos (show (k', d').1 = k from e)]
      exact .cons t n ih
    · rw [if_neg (show ¬ ((Sum.inl k' : Key), v').1 = Sum.inl k from fun z => e (Sum.inl.inj z)), if_neg (show ¬ (k', d').1 = k from e)]
      exact .cons h1 h2 ih
theorem KvK.append {L M : List (Key × V)} {kvs kws : List (Int × D)} (h : KvK K H L kvs) (q : KvK K H M kws) : KvK K H (L ++ M) (kvs ++ kws) := by
  induction h with
  | nil => exact q
  | cons h1 h2 _ ih => exact .cons h1 h2 ih
theorem KvK.put {L : List (Key × V)} {kvs : List (Int × D)} (h : KvK K H L kvs) (k : Int) {v : V} {d : D} (t : Tp K H v d) (n : noL d = true) : KvK K H (putK L (Sum.inl k) v) (pL kvs k d) := by
  unfold putK pL
  rw [valV_any]
  rcases h.val k with ⟨e1, e2⟩ | ⟨d', v', e1, e2, _⟩
  · rw [e1, e2]
    exact h.append (.cons t n .nil)
  · rw [e1, e2]
    exact h.repl k t n
end

/-! ### d[k], k in d, d[k] = v, d a name -/
def wDGet (j : Nat) (Wk : WE) : WE := fun ss R => match ss[j]? with
  | some (.dT kvs) => Wk ss (dd fun k => ∃ ks d, k = .tuple (ks.map PyData.int) ∧ gL kvs ks = some d ∧ R (.dat d))
  | some (.dK kvs) => Wk ss (dd fun k => ∃ i d, k = .int i ∧ gL kvs i = some d ∧ R (.dat d))
  | some (.bT kvs) => Wk ss (dd fun k => ∃ ks d, k = .tuple (ks.map PyData.int) ∧ gL kvs ks = some d ∧ R (.dat d))
  | some (.bK _ kvs) => Wk ss (dd fun k => ∃ i d, k = .int i ∧ gL kvs i = some d ∧ R (.dat d))
  | _ => False
def wDIn (neg : Bool) (j : Nat) (Wk : WE) : WE := fun ss R => match ss[j]? with
  | some (.dT kvs) => Wk ss (dd fun k => ∃ ks, k = .tuple (ks.map PyData.int) ∧ R (.dat (.bool (neg != (gL kvs ks).isSome))))
  | some (.dK kvs) => Wk ss (dd fun k => ∃ i, k = .int i ∧ R (.dat (.bool (neg != (gL kvs i).isSome))))
  | _ => False
def wDPut (j : Nat) (We Wk : WE) : WS := fun ss O => match ss[j]? with
  | some (.dT kvs) => We ss (dd fun d => noL d = true ∧ Wk ss (dd fun k => ∃ ks, k = .tuple (ks.map PyData.int) ∧ kvs.length < sizeLine ∧ O (.nx (ss.set j (.dT (pL kvs ks d))))))
  | some (.dK kvs) => We ss (dd fun d => noL d = true ∧ Wk ss (dd fun k => ∃ i, k = .int i ∧ kvs.length < sizeLine ∧ O (.nx (ss.set j (.dK (pL kvs i d))))))
  | _ => False
theorem at_d {R : List (List Int × D) → Prop} {S : List (Int × D) → Prop} {x : Option SV} (w : match x with
  | some (.dT kvs) => R kvs
  | some (.dK kvs) => S kvs
  | _ => False) : (∃ kvs, x = some (.dT kvs) ∧ R kvs) ∨ ∃ kvs, x = some (.dK kvs) ∧ S kvs := by
  cases x with
  | none => exact False.elim w
  | some s =>
    cases s with
    | dT kvs => exact .inl ⟨kvs, rfl, w⟩
    | dK kvs => exact .inr ⟨kvs, rfl, w⟩
    | _ => exact False.elim w
theorem at_b {R : List (List Int × D) → Prop} {S : List (Int × D) → Prop} {x : Option SV} (w : match x with
  | some (.dT kvs) => R kvs
  | some (.dK kvs) => S kvs
  | some (.bT kvs) => R kvs
  | some (.bK _ kvs) => S kvs
  | _ => False) : ((∃ kvs, x = some (.dT kvs) ∧ R kvs) ∨ ∃ kvs, x = some (.dK kvs) ∧ S kvs) ∨ (∃ kvs, x = some (.bT kvs) ∧ R kvs) ∨ ∃ p kvs, x = some (.bK p kvs) ∧ S kvs := by
  cases x with
  | none => exact False.elim w
  | some s =>
    cases s with
    | dT kvs => exact .inl (.inl ⟨kvs, rfl, w⟩)
    | dK kvs => exact .inl (.inr ⟨kvs, rfl, w⟩)
    | bT kvs => exact .inr (.inl ⟨kvs, rfl, w⟩)
    | bK p kvs => exact .inr (.inr ⟨p, kvs, rfl, w⟩)
    | _ => exact False.elim w
def tDG2 (P : Program) (w : World) (j : Nat) (ty : TE) : TE := fun σ H Q => tDGT P w (tVar j) ty σ H Q ∨ tDGet (tVar j) ty σ H Q
def tDI2 (P : Program) (w : World) (neg : Bool) (ty : TE) (j : Nat) : TE := fun σ H Q => tDIT P w neg ty (tVar j) σ H Q ∨ (bif neg then tDNotIn ty (tVar j) else tDIn ty (tVar j)) σ H Q
def tDP2 (P : Program) (w : World) (j : Nat) (ty tv : TE) : TS := fun D σ H => tDPT P w (tVar j) ty tv D σ H ∨ sDPut (tVar j) ty tv D σ H
section
variable {X : Cx} {E : XK} {o i e value : Expr} {pos pos' : Pos} {ty tv : TE} {Wk We : WE} {j : Nat}
theorem ev_dGet (hi : Ev (gd X) ty Wk) : Ev (gd X) (tDG2 X.prog X.w j ty) (wDGet j Wk) := by
  intro ss R w σ H A Q q
  rcases at_b w with (⟨kvs, hs, w⟩ | ⟨kvs, hs, w⟩) | ⟨kvs, hs, w⟩ | ⟨pb, kvs, hs, w⟩
  rotate_left 2
  · obtain ⟨p, L, e1, hp, kv⟩ := A.slot j _ hs
    refine .inl ⟨_, e1, ?_⟩
    refine (hi ss _ w).use A fun k v H1 hk s1 t1 => ?_
    obtain ⟨ks, d, rfl, hg, hr⟩ := hk
    obtain ⟨b, rfl, tk⟩ := key_tp t1
    have sf : Same (fz σ ss H) H1 := fun a o e => s1 _ _ (fz_le _ _ e)
    have kv1 := kv.kt (kt_of_same sf)
    rcases kv1.val ks with ⟨z, _⟩ | ⟨d', p', v', e2, e3, rv, tv, nv⟩
    · rw [hg] at z; cases z
    · rw [hg] at e2
      cases e2
      exact ⟨p, b, L, ks, p', v', rfl, rfl, sf _ _ hp, kv1.ky, tk, e3, rv, q _ _ H1 hr s1 tv⟩
  · obtain ⟨o, L, e1, hp, kv⟩ := A.slot j _ hs
    refine .inr ⟨_, e1, ?_⟩
    refine (hi ss _ w).use A fun k v H1 hk s1 t1 => ?_
    obtain ⟨i, d, rfl, hg, hr⟩ := hk
    cases t1
    have sf : Same (fz σ ss H) H1 := fun a o e => s1 _ _ (fz_le _ _ e)
    have kv1 := kv.kt (kt_of_same sf)
    rcases kv1.val i with ⟨z, _⟩ | ⟨d', v', e2, e3, tv, nv⟩
    · rw [hg] at z; cases z
    · rw [hg] at e2
      cases e2
      exact ⟨pb, v', rfl, .inl ⟨L, Sum.inl i, .inr ⟨o, sf _ _ hp⟩, rfl, e3.symm⟩, q _ _ H1 hr s1 tv⟩
  · obtain ⟨p, L, e1, hp, kv⟩ := A.slot j _ hs
    refine .inl ⟨_, e1, ?_⟩
    refine (hi ss _ w).use A fun k v H1 hk s1 t1 => ?_
    obtain ⟨ks, d, rfl, hg, hr⟩ := hk
    obtain ⟨b, rfl, tk⟩ := key_tp t1
    have kv1 := kv.kt (kt_of_same s1)
    rcases kv1.val ks with ⟨z, _⟩ | ⟨d', p', v', e2, e3, rv, tv, nv⟩
    · rw [hg] at z; cases z
    · rw [hg] at e2
      cases e2
      exact ⟨p, b, L, ks, p', v', rfl, rfl, s1 _ _ hp, kv1.ky, tk, e3, rv, q _ _ H1 hr s1 tv⟩
  · obtain ⟨p, L, e1, hp, kv⟩ := A.slot j _ hs
    refine .inr ⟨_, e1, ?_⟩
    refine (hi ss _ w).use A fun k v H1 hk s1 t1 => ?_
    obtain ⟨i, d, rfl, hg, hr⟩ := hk
    cases t1
    have kv1 := kv.kt (kt_of_same s1)
    rcases kv1.val i with ⟨z, _⟩ | ⟨d', v', e2, e3, tv, nv⟩
    · rw [hg] at z; cases z
    · rw [hg] at e2
      cases e2
      exact ⟨p, v', rfl, by rw [← e3]; exact DGet.k (k := Sum.inl i) (s1 _ _ hp), q _ _ H1 hr s1 tv⟩
theorem je_dGet (hu : X.A.units + 1 < cLine) (ho : PE X o (tVar j)) (hi : JE X i ty Wk) (hs : NoSl i := by intro _ _; rfl) : JE X (.Subscript o i pos) (tDG2 X.prog X.w j ty) (wDGet j Wk) :=
  ⟨pe_or2 (pe_dgT hu ho hi.pe hs) (pe_dget hu ho hi.pe hs), ev_dGet hi.ev⟩
theorem ev_dIn {neg : Bool} (hi : Ev (gd X) ty Wk) : Ev (gd X) (tDI2 X.prog X.w neg ty j) (wDIn neg j Wk) := by
  intro ss R w σ H A Q q
  rcases at_d w with ⟨kvs, hs, w⟩ | ⟨kvs, hs, w⟩
  · obtain ⟨p, L, e1, hp, kv⟩ := A.slot j _ hs
    refine .inl ?_
    refine (hi ss _ w).use A fun k v H1 hk s1 t1 => ?_
    obtain ⟨ks, rfl, hr⟩ := hk
    obtain ⟨b, rfl, tk⟩ := key_tp t1
    have kv1 := kv.kt (kt_of_same s1)
    refine ⟨_, e1, p, b, L, ks, rfl, rfl, s1 _ _ hp, kv1.ky, tk, ?_⟩
    rw [kv1.isSome]
    exact q _ _ H1 hr s1 (.bl _)
  · obtain ⟨p, L, e1, hp, kv⟩ := A.slot j _ hs
    refine .inr ?_
    have key : ∀ i v H1, Same H H1 → Tp X.K H1 v (.int i) → DGet H1 p v (valV L (Sum.inl i)) ∧ (valV L (Sum.inl i)).isSome = (gL kvs i).isSome := fun i v H1 s1 t1 => by
      cases t1
      have kv1 := kv.kt (kt_of_same s1)
      refine ⟨DGet.k (k := Sum.inl i) (s1 _ _ hp), ?_⟩
      rcases kv1.val i with ⟨z1, z2⟩ | ⟨d', v', e2, e3, _⟩
      · rw [z1, z2]; rfl
      · rw [e2, e3]; rfl
    have et : ∀ b : Bool, (true != b) = !b := fun b => by cases b <;> rfl
    have ef : ∀ b : Bool, (false != b) = b := fun b => by cases b <;> rfl
    cases neg with
    | true =>
      refine (hi ss _ w).use A fun k v H1 hk s1 t1 => ?_
      obtain ⟨i, rfl, hr⟩ := hk
      obtain ⟨g1, g2⟩ := key i v H1 s1 t1
      refine ⟨_, e1, p, _, rfl, g1, ?_⟩
      rw [g2]
      rw [et] at hr
      exact q _ _ H1 hr s1 (.bl _)
    | false =>
      refine (hi ss _ w).use A fun k v H1 hk s1 t1 => ?_
      obtain ⟨i, rfl, hr⟩ := hk
      obtain ⟨g1, g2⟩ := key i v H1 s1 t1
      refine ⟨_, e1, p, _, rfl, g1, ?_⟩
      rw [g2]
      rw [ef] at hr
      exact q _ _ H1 hr s1 (.bl _)
theorem pc_or {op : CmpOp} {a b : Expr} {t u : TE} (h : PC X op a b t) (h' : PC X op a b u) : PC X op a b (fun σ H Q => t σ H Q ∨ u σ H Q) :=
  ⟨fun pins s σ H Q I w => w.elim (fun w => h.run pins s σ H Q I w) (fun w => h'.run pins s σ H Q I w)⟩
theorem pc_dIn (hu : X.A.units + 1 < cLine) (ho : PE X o (tVar j)) (hi : PE X i ty) : PC X .In i o (tDI2 X.prog X.w false ty j) := pc_or (pc_diT hu hi ho) (pc_din hu hi ho)
theorem pc_dNotIn (hu : X.A.units + 1 < cLine) (ho : PE X o (tVar j)) (hi : PE X i ty) : PC X .NotIn i o (tDI2 X.prog X.w true ty j) := pc_or (pc_dnT hu hi ho) (pc_dnotin hu hi ho)
theorem je_dIn (hu : X.A.units + 1 < cLine) (ho : PE X o (tVar j)) (hi : JE X i ty Wk) (h1 : behindInMarks .In o = false := by rfl) : JE X (.Compare i [.In] [o] pos) (tDI2 X.prog X.w false ty j) (wDIn false j Wk) :=
  ⟨pe_cmp (pc_dIn hu ho hi.pe) h1, ev_dIn hi.ev⟩
theorem je_dNotIn (hu : X.A.units + 1 < cLine) (ho : PE X o (tVar j)) (hi : JE X i ty Wk) (h1 : behindInMarks .NotIn o = false := by rfl) : JE X (.Compare i [.NotIn] [o] pos) (tDI2 X.prog X.w true ty j) (wDIn true j Wk) :=
  ⟨pe_cmp (pc_dNotIn hu ho hi.pe) h1, ev_dIn hi.ev⟩
theorem jt_dIn (hu : X.A.units + 1 < cLine) (ho : PE X o (tVar j)) (hi : JE X i ty Wk) (h1 : behindInMarks .In o = false := by rfl) : JT X (.Compare i [.In] [o] pos) (tB (tDI2 X.prog X.w false ty j)) (wDIn false j Wk) :=
  ⟨pt_cmp (pc_dIn hu ho hi.pe) h1, ev_tB (ev_dIn hi.ev)⟩
theorem jt_dNotIn (hu : X.A.units + 1 < cLine) (ho : PE X o (tVar j)) (hi : JE X i ty Wk) (h1 : behindInMarks .NotIn o = false := by rfl) : JT X (.Compare i [.NotIn] [o] pos) (tB (tDI2 X.prog X.w true ty j)) (wDIn true j Wk) :=
  ⟨pt_cmp (pc_dNotIn hu ho hi.pe) h1, ev_tB (ev_dIn hi.ev)⟩
theorem ps_or {st : Stmt} {t u : TS} (h : PS X st t) (h' : PS X st u) : PS X st (fun D σ H => t D σ H ∨ u D σ H) :=
  ⟨fun pins s σ H D I w => w.elim (fun w => h.run pins s σ H D I w) (fun w => h'.run pins s σ H D I w)⟩
theorem js_dPut (hu : X.A.units + 1 < cLine) (ho : PE X o (tVar j)) (hv : JE X value tv We) (hi : JE X i ty Wk) (hs : swapsWith value (some (.Subscript o i pos')) pos.line X.env = pure false := by rfl) :
    JS X E (.Assign [.Subscript o i pos'] value pos) (tDP2 X.prog X.w j ty tv) (wDPut j We Wk) := by
  refine ⟨ps_or (ps_dpT hu ho hi.pe hv.pe hs) (ps_dput hu ho hi.pe hv.pe hs), fun ss O w HB σ H D A f q => ?_⟩
  rcases at_d w with ⟨kvs, hs, w⟩ | ⟨kvs, hs, w⟩
  · obtain ⟨p, L, e1, hp, kv⟩ := A.slot j _ hs
    refine .inl ?_
    refine (hv.ev ss _ w).use A fun d v H1 hd s1 t1 => ?_
    obtain ⟨zd, w2⟩ := hd
    refine ⟨_, e1, ?_⟩
    refine (hi.ev ss _ w2).use (A.same s1) fun k u H2 hk s2 t2 => ?_
    obtain ⟨ks, rfl, hl, ho⟩ := hk
    obtain ⟨b, rfl, tk⟩ := key_tp t2
    have s12 := s1.trans s2
    have hp2 : H2 p = some (DTo X.prog X.w p L) := s12 _ _ hp
    have kv2 := kv.kt (kt_of_same s12)
    refine ⟨p, b, L, ks, rfl, rfl, hp2, kv2.ky, tk, by rw [kv.len]; exact hl, fun u ru => ?_⟩
    have kt : Kt H2 (upd H2 p (DTo X.prog X.w p (storedH L ks b u))) := kt_mut fun ob u z => by
      rw [hp2] at z
      cases z
    obtain ⟨A2, f2, _⟩ := mut_as (s' := .dT (pL kvs ks d)) (o := DTo X.prog X.w p (storedH L ks b u)) (A.same s12) (f.trans (fz_same s12)) hs rfl e1 rfl fun F =>
      ⟨p, _, rfl, upd_same, (kv2.put ks tk ru (t1.same s2) zd).kt kt⟩
    exact q _ ho _ _ A2 f2
  · obtain ⟨p, L, e1, hp, kv⟩ := A.slot j _ hs
    refine .inr ?_
    refine (hv.ev ss _ w).use A fun d v H1 hd s1 t1 => ?_
    obtain ⟨zd, w2⟩ := hd
    refine ⟨_, e1, ?_⟩
    refine (hi.ev ss _ w2).use (A.same s1) fun k u H2 hk s2 t2 => ?_
    obtain ⟨i, rfl, hl, ho⟩ := hk
    cases t2
    have s12 := s1.trans s2
    have hp2 : H2 p = some (.dK L) := s12 _ _ hp
    have kv2 := kv.kt (kt_of_same s12)
    have kt : Kt H2 (upd H2 p (.dK (putK L (Sum.inl i) v))) := kt_mut fun ob u z => by
      rw [hp2] at z
      cases z
    refine ⟨p, _, rfl, DPut.k (k := Sum.inl i) hp2 (by rw [kv.len]; exact hl), ?_⟩
    obtain ⟨A2, f2, _⟩ := mut_as (s' := .dK (pL kvs i d)) (o := .dK (putK L (Sum.inl i) v)) (A.same s12) (f.trans (fz_same s12)) hs rfl e1 rfl fun F =>
      ⟨p, _, rfl, upd_same, (kv2.put i (t1.same s2) zd).kt kt⟩
    exact q _ ho _ _ A2 f2
end
end Ab

set_option Elab.async false
set_option linter.all false
set_option maxRecDepth 100000
set_option maxHeartbeats 1000000
/-! Ab14: dict displays; d.get(k); sorted, list, len of dicts; sorted of lists. -/
namespace Ab
open PySem PySem.Spec L2
open PyProof.Rows hiding St

/-! ### {} and {k: v} -/
def tD0T (P : Program) (w : World) : TE := fun _ H Q => ∀ p, H p = Option.none → Q (.ref p) (upd H p (DTo P w p []))
def tD0 (P : Program) (w : World) : TE := fun σ H Q => tD0T P w σ H Q ∨ tDNewK σ H Q
def wD0 : WE := fun _ R => R (.dT []) ∨ R (.dK [])
def tD1 (P : Program) (w : World) (tk tv : TE) : TE := fun σ H Q => ∀ p, H p = Option.none → tk σ (upd H p (DTo P w p [])) fun x H1 => tv σ H1 fun y H2 => ∃ (b : Addr) (k : List Int), x = .ref b ∧ H2 p = some (DTo P w p []) ∧ TK H2 b (k.map V.int) ∧
  ∀ u, RelV y u → Q (.ref p) (upd H2 p (DTo P w p [(k, b, u)]))
def wD1 (Wk Wv : WE) : WE := fun ss R => Wk ss (dd fun k => ∃ ks, k = .tuple (ks.map PyData.int) ∧ Wv ss (dd fun d => noL d = true ∧ R (.dT [(ks, d)])))
section
variable {P : Program} {w : World}
theorem raw_new (h : Heap) (hb : sysModules < h.objs.size) : RawT P w (h.push { cls := .type "dict", data := .dict #[] }) h.objs.size [] :=
  ⟨Nat.zero_le _, beq_eq_false_iff_ne.mpr (Ne.symm (Nat.ne_of_lt hb)), _, #[], 0, Heap.get?_push_size _ rfl, ⟨rfl, rfl, rfl⟩, rfl, rfl, List.nodup_nil⟩
end
section
variable {X : Cx} {k v o a : Expr} {pos apos cpos p : Pos} {tk tv to te : TE} {Wk Wv Wo We : WE}
theorem pe_d0T : PE X (.Dict [] [] pos) (tD0T X.prog X.w) := ⟨fun pins s σ H Q I h =>
  wpAny_Dict_empty ⟨.ref s.heap.objs.size, _, I.laid (a := s.heap.objs.size) (o := DTo X.prog X.w s.heap.objs.size []) (t' := s.toks) (fun _ _ q => Heap.get?_push_of_some _ q) (Nat.le_refl _) (raw_ok (raw_new s.heap I.big)), rfl, h _ (I.hok.fresh (Nat.le_refl _))⟩⟩
theorem je_d0 : JE X (.Dict [] [] pos) (tD0 X.prog X.w) wD0 := by
  refine ⟨pe_or2 pe_d0T pe_dnewK, fun ss R w σ H A Q q => ?_⟩
  rcases w with w | w
  · exact .inl fun p n => q _ _ _ w (same_new n) ⟨p, [], rfl, n, upd_same, .nil⟩
  · exact .inr fun p n => q _ _ _ w (same_new n) ⟨p, [], rfl, n, upd_same, .nil⟩
theorem pe_d1 (hu : X.A.units + 1 < cLine) (hk : PE X k tk) (hv : PE X v tv) : PE X (.Dict [some k] [v] pos) (tD1 X.prog X.w tk tv) := by
  refine ⟨fun pins s σ H Q I q => ?_⟩
  have hn := I.hok.fresh (Nat.le_refl s.heap.objs.size)
  have I1 := I.laid (a := s.heap.objs.size) (o := DTo X.prog X.w s.heap.objs.size []) (h' := s.heap.push { cls := .type "dict", data := .dict #[] }) (t' := s.toks) (fun _ _ q => Heap.get?_push_of_some _ q) (Nat.le_refl _) (raw_ok (raw_new s.heap I.big))
  refine wpAny_Dict_any rfl rfl (by simp) (show 1 ≤ 15 by decide) (pairTrees_cons_walk (thn (hk.run pins _ σ _ _ I1 (q _ hn)) fun xk s1 ⟨x, H1, I2, rx, q1⟩ => thn (hv.run pins s1 σ H1 _ I2 q1) fun yv s2 ⟨y, H2, I3, ry, b, ks, ex, e, tkk, q2⟩ => ?_))
  subst ex
  obtain rfl : xk = Value.ref b := rx
  refine pairTrees_nil_walk ?_
  obtain ⟨z, hd, dd⟩ := dto_rd (L := []) I3 e (fun _ h => nomatch h)
  refine wpAny_storeAllH (knd := tupleKind (PySem.intKind X.prog X.w)) (d := s.heap.objs.size) (show X.A.units < cLine by omega) [(.ref b, yv)] [(ks, b, yv)] [] s2 _ ⟨rfl, rfl, keyI_of I3 tkk, True.intro⟩ dd (show 0 + 1 ≤ sizeLine by decide) fun h' tk' dd' hs => ?_
  obtain ⟨ob, es, ep, hq, h2, h3, h4, _, h5⟩ := dd'
  refine ⟨.ref s.heap.objs.size, _, d_write (t' := tk') I3 (by rw [e]; exact True.intro) hs ⟨ob, hq⟩ (raw_ok (L := [(ks, b, yv)]) ⟨show 1 ≤ sizeLine by decide, hd, ob, es, ep, hq, h2, h3, h4, h5⟩), rfl, q2 yv ry⟩
theorem je_d1 (hu : X.A.units + 1 < cLine) (hk : JE X k tk Wk) (hv : JE X v tv Wv) : JE X (.Dict [some k] [v] pos) (tD1 X.prog X.w tk tv) (wD1 Wk Wv) := by
  refine ⟨pe_d1 hu hk.pe hv.pe, fun ss R w σ H A Q q => ?_⟩
  intro p n
  have s0 : Same H (upd H p (DTo X.prog X.w p [])) := same_new n
  refine (hk.ev ss _ w).use (A.same s0) fun kd x H1 hd s1 t1 => ?_
  obtain ⟨ks, rfl, w2⟩ := hd
  refine (hv.ev ss _ w2).use (A.same (s0.trans s1)) fun d y H2 hd2 s2 t2 => ?_
  obtain ⟨b, rfl, tkk⟩ := key_tp t1
  have hp2 : H2 p = some (DTo X.prog X.w p []) := s2 _ _ (s1 _ _ upd_same)
  have tk2 := tkk.same s2
  refine ⟨b, ks, rfl, hp2, tk2, fun u ru => ?_⟩
  have kt : Kt H2 (upd H2 p (DTo X.prog X.w p [(ks, b, u)])) := kt_mut fun ob u z => by
    rw [hp2] at z
    cases z
  have sm : Same H (upd H2 p (DTo X.prog X.w p [(ks, b, u)])) := fun c ob e => by
    rw [upd_ne (ne_of_none e n)]
    exact (s0.trans (s1.trans s2)) _ _ e
  exact q (.dT [(ks, d)]) _ _ hd2.2 sm ⟨p, _, rfl, n, upd_same, .cons (kt _ _ tk2) ru (t2.kt kt hd2.1) hd2.1 .nil⟩

/-! ### d.get(k), d a value -/
def tDM (P : Program) (w : World) (to ty : TE) : TE := fun σ H Q => to σ H fun x H1 => ∃ (a : Addr) (L : List (List Int × Addr × Value)), x = .ref a ∧ H1 a = some (DTo P w a L) ∧ KyT H1 L ∧ ty σ H1 fun y H2 => ∃ (b : Addr) (ks : List Int) (v : V),
  y = .ref b ∧ H2 a = some (DTo P w a L) ∧ KyT H2 L ∧ TK H2 b (ks.map V.int) ∧ RelV v (((atKey L ks).map (·.2)).getD .none) ∧ Q v H2
def wDM (Wo Wk : WE) : WE := fun ss R => Wo ss fun s => match s with
  | .dT kvs => Wk ss (dd fun k => ∃ ks, k = .tuple (ks.map PyData.int) ∧ R (.dat ((gL kvs ks).getD .none)))
  | _ => False
theorem je_dGetM (hu : X.A.units + 1 < cLine) (ho : JE X o to Wo) (hk : JE X k tk Wk) (hbase : attributeBase o "get" X.env (eval o X.env) = eval o X.env := by rfl)
    (hfew : ((backTo cpos (starEach [k] X.env)).all (fun x => !x.1) && (backToKw cpos (keywordEach [] X.env)).all (fun x => x.1.isSome) && decide (([k] : List Expr).length + ([] : List Keyword).length + (if ([] : List Keyword).isEmpty then 0 else 1) < 30)) = true := by rfl)
    (hline : (apos.endLine == cpos.line) = true := by rfl) (htr : backTo cpos (starEach [k] X.env) = [(false, eval k X.env)] := by rfl) :
    JE X (.Call (.Attribute o "get" apos) [k] [] cpos) (tDM X.prog X.w to tk) (wDM Wo Wk) := by
  refine ⟨⟨fun pins s σ H Q I h => ?_⟩, fun ss R w σ H A Q q => ?_⟩
  · refine wpAny_Call_method hbase hfew hline PySem.F.plainAttrs_dict PySem.F.slot_dict_get PySem.F.type_dict_get (thn (ho.pe.run pins s σ H _ I h) fun u s1 ⟨x, H1, I1, rx, a, L, ex, e, ky, q1⟩ => ?_)
    subst ex
    obtain rfl : u = Value.ref a := rx
    obtain ⟨z, hd, dd⟩ := dto_rd I1 e ky
    refine ⟨dd.typeIs, fun b q => ?_, ?_⟩
    · cases q
      obtain ⟨ob, _, _, h1, h2, _⟩ := dd
      exact ⟨ob, h1, h2.2.1⟩
    rw [htr]
    refine Calls.callWith_builtin rfl (Calls.evalArgs_plain (Calls.spliced_cons (thn (hk.pe.run pins s1 σ H1 _ I1 q1) fun iv s2 ⟨y, H2, I2, ry, b, ks, v, ey, e2, ky2, tkk, rv, q2⟩ => Calls.spliced_nil ?_)))
    subst ey
    obtain rfl : iv = Value.ref b := ry
    obtain ⟨z2, hd2, dd2⟩ := dto_rd I2 e2 ky2
    exact call_meetsIn PySem.F.slot_dict_get dd2.typeIs PySem.F.entry_dict_get (PySem.F.args_dict_get_2 _ _) (meetsH_dict_get (tupleKind (PySem.intKind X.prog X.w)) a b hd2) ⟨tupleKind_room_in1 hu, ks, L, keyI_of I2 tkk, dd2, v, H2, I2.tok _, rv, q2⟩
  · refine ho.ev ss _ w σ H A _ fun r x H1 hr s1 hv => ?_
    cases r with
    | dT kvs =>
      obtain ⟨p, L, rfl, n, hp, kv⟩ := hv
      refine ⟨p, L, rfl, hp, kv.ky, ?_⟩
      refine (hk.ev ss _ hr).use (A.same s1) fun kd y H2 hk2 s2 t2 => ?_
      obtain ⟨ks, rfl, h2⟩ := hk2
      obtain ⟨b, rfl, tkk⟩ := key_tp t2
      have kv2 := kv.kt (kt_of_same s2)
      rcases kv2.val ks with ⟨e1, e2⟩ | ⟨d, p', v, e1, e2, rv, tv, nv⟩
      · refine ⟨b, ks, .non, rfl, s2 _ _ hp, kv2.ky, tkk, by rw [e2]; exact rfl, q _ _ H2 h2 (s1.trans s2) ?_⟩
        rw [e1]
        exact .non
      · refine ⟨b, ks, v, rfl, s2 _ _ hp, kv2.ky, tkk, by rw [e2]; exact rv, q _ _ H2 h2 (s1.trans s2) ?_⟩
        rw [e1]
        exact tv
    | _ => exact False.elim hr
end

/-! ### built-in functions of a dict -/
/-- what a slot or a value holds -/
def HV (G : Wd) (H : Hp) (v : V) : SV → Prop
  | .dT kvs => ∃ p L, v = .ref p ∧ H p = some (DTo G.P G.w p L) ∧ KvT G.K H L kvs
  | .dK kvs => ∃ p L, v = .ref p ∧ H p = some (.dK L) ∧ KvK G.K H L kvs
  | _ => False
structure JD (X : Cx) (f : Value) (r : List V → Hp → VK → Prop) (op : SV → (SV → Prop) → Prop) : Prop where
  pr : CallR X f r
  ev : ∀ s R, op s R → ∀ H v, HV (gd X) H v s → ∀ Q : VK, (∀ c v H', R c → Same H H' → Val (gd X) H H' v c → Q v H') → r [v] H Q
  dc : ∀ s R, op s R → s.mut = true ∧ ∀ ds, s ≠ .lst ds
theorem JD.or {X : Cx} {f : Value} {r r' : List V → Hp → VK → Prop} {o o' : SV → (SV → Prop) → Prop} (h : JD X f r o) (h' : JD X f r' o') : JD X f (fun vs H Q => r vs H Q ∨ r' vs H Q) (fun s R => o s R ∨ o' s R) :=
  ⟨h.pr.or h'.pr, fun s R w H v t Q q => w.elim (fun w => .inl (h.ev s R w H v t Q q)) (fun w => .inr (h'.ev s R w H v t Q q)), fun s R w => w.elim (h.dc s R) (h'.dc s R)⟩
def wBV (op : SV → (SV → Prop) → Prop) (j : Nat) : WE := fun ss R => match ss[j]? with
  | some s => op s R
  | none => False
def wBE (op : SV → (SV → Prop) → Prop) (We : WE) : WE := fun ss R => We ss fun s => op s R
section
variable {X : Cx} {r : List V → Hp → VK → Prop} {op : SV → (SV → Prop) → Prop} {f : Value} {te : TE} {We : WE} {j : Nat}
theorem ev_bV (c : JD X f r op) : Ev (gd X) (tCB r (tCons (tVar j) tNil)) (wBV op j) := by
  intro ss R w σ H A Q q
  unfold wBV at w
  cases hs : ss[j]? with
  | none => rw [hs] at w; cases w
  | some s =>
    rw [hs] at w
    have hx := A.slot j s hs
    obtain ⟨m, nl⟩ := c.dc s R w
    cases s with
    | no => cases m
    | dat d => cases m
    | lst ds => exact absurd rfl (nl ds)
    | dT kvs =>
      obtain ⟨p, L, e1, hp, kv⟩ := hx
      exact ⟨_, e1, c.ev _ R w H _ ⟨p, L, rfl, hp, kv⟩ Q q⟩
    | dK kvs =>
      obtain ⟨p, L, e1, hp, kv⟩ := hx
      exact ⟨_, e1, c.ev _ R w H _ ⟨p, L, rfl, hp, kv⟩ Q q⟩
    | bT kvs => cases m
    | bK p kvs => cases m
theorem ev_bE (c : JD X f r op) (h : Ev (gd X) te We) : Ev (gd X) (tCB r (tCons te tNil)) (wBE op We) := by
  intro ss R w σ H A Q q
  refine h ss _ w σ H A _ fun s v H1 hs s1 hv => ?_
  obtain ⟨m, nl⟩ := c.dc s R hs
  cases s with
  | no => cases m
  | dat d => cases m
  | lst ds => exact absurd rfl (nl ds)
  | dT kvs =>
    obtain ⟨p, L, rfl, n, hp, kv⟩ := hv
    exact c.ev _ R hs H1 _ ⟨p, L, rfl, hp, kv⟩ Q fun c v H' hc s2 vc => q c v H' hc (s1.trans s2) (vc.base s1)
  | dK kvs =>
    obtain ⟨p, L, rfl, n, hp, kv⟩ := hv
    exact c.ev _ R hs H1 _ ⟨p, L, rfl, hp, kv⟩ Q fun c v H' hc s2 vc => q c v H' hc (s1.trans s2) (vc.base s1)
  | bT kvs => cases m
  | bK p kvs => cases m
variable {e : Expr} {x : Str} {p pos : Pos} {id : String}
theorem je_bVB (c : JD X (.builtin id) r op) (hv : PE X e (tVar j)) (hg : Gl X x) (hm : X.mg x = Option.none) (hb : bootBuiltins x = some (.builtin id)) (hn : x ≠ "__name__" := by decide) (hdb : (x == ("__debug__" : Str)) = false := by decide)
    (he : starEach [e] X.env = (false, eval e X.env) :: starEach [] X.env := by rfl) (hpl : (backTo pos (starEach [] X.env)).any (·.1) = false := by rfl) : JE X (.Call (.Name x p) [e] [] pos) (tCB r (tCons (tVar j) tNil)) (wBV op j) :=
  ⟨pe_callB c.pr hg hm hb (pa_cons hv pa_nil he) hn hdb he hpl, ev_bV c⟩
theorem je_bVT {T : String} (c : JD X (.type T) r op) (hv : PE X e (tVar j)) (hg : Gl X x) (hm : X.mg x = Option.none) (hb : bootBuiltins x = some (.type T)) (hn : x ≠ "__name__" := by decide) (hdb : (x == ("__debug__" : Str)) = false := by decide)
    (he : starEach [e] X.env = (false, eval e X.env) :: starEach [] X.env := by rfl) (hpl : (backTo pos (starEach [] X.env)).any (·.1) = false := by rfl) : JE X (.Call (.Name x p) [e] [] pos) (tCB r (tCons (tVar j) tNil)) (wBV op j) :=
  ⟨pe_callTy c.pr hg hm hb (pa_cons hv pa_nil he) hn hdb he hpl, ev_bV c⟩
theorem je_bEB (c : JD X (.builtin id) r op) (h : JE X e te We) (hg : Gl X x) (hm : X.mg x = Option.none) (hb : bootBuiltins x = some (.builtin id)) (hn : x ≠ "__name__" := by decide) (hdb : (x == ("__debug__" : Str)) = false := by decide)
    (he : starEach [e] X.env = (false, eval e X.env) :: starEach [] X.env := by rfl) (hpl : (backTo pos (starEach [] X.env)).any (·.1) = false := by rfl) : JE X (.Call (.Name x p) [e] [] pos) (tCB r (tCons te tNil)) (wBE op We) :=
  ⟨pe_callB c.pr hg hm hb (pa_cons h.pe pa_nil he) hn hdb he hpl, ev_bE c h.ev⟩
theorem je_bET {T : String} (c : JD X (.type T) r op) (h : JE X e te We) (hg : Gl X x) (hm : X.mg x = Option.none) (hb : bootBuiltins x = some (.type T)) (hn : x ≠ "__name__" := by decide) (hdb : (x == ("__debug__" : Str)) = false := by decide)
    (he : starEach [e] X.env = (false, eval e X.env) :: starEach [] X.env := by rfl) (hpl : (backTo pos (starEach [] X.env)).any (·.1) = false := by rfl) : JE X (.Call (.Name x p) [e] [] pos) (tCB r (tCons te tNil)) (wBE op We) :=
  ⟨pe_callTy c.pr hg hm hb (pa_cons h.pe pa_nil he) hn hdb he hpl, ev_bE c h.ev⟩
end

/-! ### list(d), len(d) -/
def keyD (k : List Int) : D := .tuple (k.map PyData.int)
def keysD (kvs : List (List Int × D)) : List D := kvs.map fun kv => keyD kv.1
section
variable {X : Cx} {pins : List (Addr × Obj)} {σ : St} {H : Hp} {s : Shared}
theorem kvT_keys {K : PySem.W.Frag} {L : List (List Int × Addr × Value)} {kvs : List (List Int × D)} (h : KvT K H L kvs) : TpAll K H (L.map fun x => V.ref x.2.1) (keysD kvs) := by
  induction h with
  | nil => exact .nil
  | cons h1 _ _ _ _ ih => exact .cons (key_di h1) ih
theorem noLs_keys (kvs : List (List Int × D)) : noLs (keysD kvs) = true := noLs_map (fun kv : List Int × D => keyD kv.1) (fun kv => noL_key kv.1) kvs
/-- what collects the keys of such a dict gives them -/
theorem keys_of {es : Array DictEntry} {L : List (List Int × Addr × Value)} {P : Program} {w : World} {acc : Array Value} (he : es.toList = L.map (entryOfKey (tupleKind (PySem.intKind P w))))
    (it : ItemsOf (fun i v => ∃ en : DictEntry, es[i]? = some en ∧ v = en.key) acc es.size) : acc.toList = (L.map fun x => x.2.1).map Value.ref := by
  have l1 : es.size = L.length := size_of_entries he
  have ea : acc.toList = L.map fun x => Value.ref x.2.1 := by
    have hl : acc.toList.length = L.length := by rw [Array.length_toList, it.1]; exact l1
    apply List.ext_getElem?
    intro j
    rw [List.getElem?_map]
    cases hj : acc.toList[j]? with
    | none =>
      have h1 := List.getElem?_eq_none_iff.mp hj
      rw [List.getElem?_eq_none (by omega)]
      all_goals rfl
    | some v =>
      obtain ⟨en, hen, hv⟩ := it.2 j v (by rw [← Array.getElem?_toList]; exact hj)
      have qe := entry_at he j
      rw [hen] at qe
      cases hb : L[j]? with
      | none =>
        rw [hb] at qe
        exact nomatch (show some en = Option.none from qe)
      | some b =>
        rw [hb] at qe
        have e2 : en = entryOfKey (tupleKind (PySem.intKind P w)) b := Option.some.inj qe
        rw [hv, e2]
        all_goals rfl
  rw [ea, List.map_map]
  all_goals rfl
def rListDT (P : Program) (w : World) : List V → Hp → VK → Prop := fun vs H Q => ∃ (a : Addr) (L : List (List Int × Addr × Value)), vs = [V.ref a] ∧ H a = some (DTo P w a L) ∧ ∀ p, H p = Option.none → Q (.ref p) (upd H p (.lst (L.map fun x => V.ref x.2.1)))
theorem cr_listDT (hc : X.calm = true) : CallR X (.type "list") (rListDT X.prog X.w) := by
  intro pins s σ H xs us Q I r h
  obtain ⟨d, L, rfl, hd, q⟩ := h
  obtain ⟨u, rfl, rx⟩ := r.one
  cases rx
  obtain ⟨⟨z, hs, o, es, ep, ho, hx, hdt, he, hn⟩, _⟩ := I.hok d _ hd
  have l1 : es.size = L.length := size_of_entries he
  refine PySem.W.kdl_call (kdl_raw hs hx hdt) (I.ok.hd hc) ho (by omega) fun h' tk acc' c' kp e it => ?_
  have eb := keys_of he it
  have rv : Vals (L.map fun x => V.ref x.2.1) acc'.toList := by
    rw [eb, show (L.map fun x => V.ref x.2.1) = (L.map fun x => x.2.1).map V.ref by rw [List.map_map]; rfl]
    exact vals_refs _
  refine ⟨.ref s.heap.objs.size, _, I.laid (t' := tk) (o := .lst (L.map fun x => V.ref x.2.1)) kp (Nat.le_refl _) ?_, rfl, q _ (I.hok.fresh (Nat.le_refl _))⟩
  exact ⟨by rw [List.length_map]; exact z, acc'.toList, c', rv, by rw [Array.toArray_toList]; exact e⟩
def listDT : SV → (SV → Prop) → Prop
  | .dT kvs, R => R (.lst (keysD kvs))
  | _, _ => False
theorem jd_list (hc : X.calm = true) : JD X (.type "list") (rListDT X.prog X.w) listDT := by
  refine ⟨cr_listDT hc, fun s R w H v hv Q q => ?_, fun s R w => ?_⟩
  · cases s with
    | dT kvs =>
      obtain ⟨p, L, rfl, hp, kv⟩ := hv
      refine ⟨p, L, rfl, hp, fun l n => ?_⟩
      obtain ⟨s4, vl⟩ := val_lst (G := gd X) (Same.refl H) n (kvT_keys kv) (noLs_keys kvs)
      exact q _ _ _ w s4 vl
    | _ => exact False.elim w
  · cases s with
    | dT kvs => exact ⟨rfl, fun _ h => nomatch h⟩
    | _ => exact False.elim w
def rLenDT (P : Program) (w : World) : List V → Hp → VK → Prop := fun vs H Q => ∃ (a : Addr) (L : List (List Int × Addr × Value)), vs = [V.ref a] ∧ H a = some (DTo P w a L) ∧ KyT H L ∧ Q (.int ((L.length : Nat) : Int)) H
theorem cr_lenDT : CallR X (.builtin "len") (rLenDT X.prog X.w) := by
  intro pins s σ H xs us Q I r h
  obtain ⟨d, L, rfl, hd, ky, q⟩ := h
  obtain ⟨u, rfl, rx⟩ := r.one
  cases rx
  obtain ⟨z, hs, dd⟩ := dto_rd I hd ky
  exact call_len_dictH hs dd (by rw [sizeLine_eq] at z; omega) ⟨.int ((L.length : Nat) : Int), H, I.tok _, ⟨_, rfl⟩, q⟩
def lenDT : SV → (SV → Prop) → Prop
  | .dT kvs, R => R (.dat (.int ((kvs.length : Nat) : Int)))
  | _, _ => False
theorem jd_len : JD X (.builtin "len") (rLenDT X.prog X.w) lenDT := by
  refine ⟨cr_lenDT, fun s R w H v hv Q q => ?_, fun s R w => ?_⟩
  · cases s with
    | dT kvs =>
      obtain ⟨p, L, rfl, hp, kv⟩ := hv
      refine ⟨p, L, rfl, hp, kv.ky, ?_⟩
      rw [kv.len]
      exact q _ _ H w (Same.refl H) (.int _)
    | _ => exact False.elim w
  · cases s with
    | dT kvs => exact ⟨rfl, fun _ h => nomatch h⟩
    | _ => exact False.elim w
end
end Ab

set_option Elab.async false
set_option linter.all false
set_option maxRecDepth 100000
set_option maxHeartbeats 1000000
/-! Ab15: sorted, of lists of data and of dicts. -/
namespace Ab
open PySem PySem.Spec L2
open PyProof.Rows hiding St

theorem hu1 {A : Around} {k : Nat} (hr : Room k A) : A.units + 1 < cLine := by
  have := hr.un
  omega
def srt (ds : List D) : List D := ds.mergeSort (PySem.W.dataLe false id)
structure SortOk (ds : List D) : Prop where
  al : PySem.W.AllAlike ds
  so : PySem.W.Sortable ds
  le : ds.length ≤ sizeLine
  dp : ∀ d ∈ ds, d.depth ≤ 50
  nl : noLs ds = true
section
variable {K : PySem.W.Frag} {H : Hp} {X : Cx} {pins : List (Addr × Obj)} {σ : St} {s : Shared}
mutual
theorem reads_none {h : Heap} : ∀ {d : D} {v : Value} {as : List Addr}, noL d = true → Reads h v d as → as = []
  | .none, _, _, _, r => by cases r; rfl
  | .bool _, _, _, _, r => by cases r; rfl
  | .int _, _, _, _, r => by cases r; rfl
  | .str _, _, _, _, r => by cases r; rfl
  | .list _, _, _, n, _ => by cases n
  | .tuple ds, _, _, n, r => by
    cases r with
    | tuple _ _ _ r => exact reads_nones n r
  | .dict _, _, _, n, _ => by cases n
theorem reads_nones {h : Heap} : ∀ {ds : List D} {vs : List Value} {as : List Addr}, noLs ds = true → ReadsAll h vs ds as → as = []
  | [], _, _, _, r => by cases r; rfl
  | d :: ds, _, _, n, r => by
    cases r with
    | cons r1 r2 =>
      have n2 : noL d = true ∧ noLs ds = true := by
        have : (noL d && noLs ds) = true := n
        rwa [Bool.and_eq_true] at this
      rw [reads_none n2.1 r1, reads_nones n2.2 r2]
      rfl
end
theorem each_of (I : Inv X pins σ H s) : ∀ {ds : List D} {xs : List V} {vs : List Value}, TpAll X.K H xs ds → Vals xs vs → PySem.W.EachIs (fun u (b : V × D) => (RelV b.1 u ∧ Tp X.K H b.1 b.2) ∧ ∃ as, Reads s.heap u b.2 as) vs (xs.zip ds)
  | [], _, _, t, r => by cases t; cases r; exact .nil
  | d :: ds, _, _, t, r => by
    cases t with
    | cons t1 t2 =>
      cases r with
      | cons r1 r2 => exact .cons ⟨⟨r1, t1⟩, Dp.reads I d _ _ t1.dp r1⟩ (each_of I t2 r2)
theorem each_vals : ∀ {out : List Value} {bs : List (V × D)}, PySem.W.EachIs (fun u (b : V × D) => RelV b.1 u ∧ Tp K H b.1 b.2) out bs → Vals (bs.map (·.1)) out ∧ TpAll K H (bs.map (·.1)) (bs.map (·.2))
  | _, _, .nil => ⟨.nil, .nil⟩
  | _, _, .cons h t => by
    obtain ⟨h1, h2⟩ := each_vals t
    exact ⟨.cons h.1 h1, .cons h.2 h2⟩
theorem zip_data {xs : List V} {ds : List D} (h : xs.length = ds.length) : (xs.zip ds).map (·.2) = ds := List.map_snd_zip (by rw [h]; exact Nat.le_refl _)
theorem srt_zip {xs : List V} {ds : List D} (h : xs.length = ds.length) : ((xs.zip ds).mergeSort (PySem.W.dataLe false (·.2))).map (·.2) = srt ds := by
  have e := List.map_mergeSort (r := PySem.W.dataLe false fun b : V × D => b.2) (s := PySem.W.dataLe false id) (f := fun b : V × D => b.2) (l := xs.zip ds) (fun a _ b _ => rfl)
  rw [e, zip_data h]
  rfl
theorem srt_length (ds : List D) : (srt ds).length = ds.length := List.length_mergeSort _
/-- what stands behind a sort -/
theorem sort_back {vs out : List Value} {xs : List V} {ds : List D} (t : TpAll X.K H xs ds) (eo : PySem.W.EachIs (fun u (b : V × D) => RelV b.1 u ∧ Tp X.K H b.1 b.2) out ((xs.zip ds).mergeSort (PySem.W.dataLe false (·.2)))) :
    ∃ ys, Vals ys out ∧ TpAll X.K H ys (srt ds) ∧ ys.length = ds.length := by
  obtain ⟨h1, h2⟩ := each_vals eo
  rw [srt_zip t.len] at h2
  exact ⟨_, h1, h2, by rw [h2.len, srt_length]⟩
theorem bounds_of {A : Around} {n : Nat} {xs : List V} {ds : List D} (ok : SortOk ds) (hu : A.units + n + 50 < cLine) : ∀ b ∈ xs.zip ds, A.units + n + b.2.depth < cLine := fun b hb => by
  have := ok.dp b.2 (List.of_mem_zip hb).2
  omega
def rSortL (K : PySem.W.Frag) : List V → Hp → VK → Prop := fun vs H Q => ∃ (a : Addr) (xs : List V) (ds : List D), vs = [V.ref a] ∧ SqL K H a xs ∧ TpAll K H xs ds ∧ SortOk ds ∧ ∀ p ys, H p = Option.none → TpAll K H ys (srt ds) → Q (.ref p) (upd H p (.lst ys))
theorem cr_sortL {k : Nat} (hr : Room k X.A) : CallR X (.builtin "sorted") (rSortL X.K) := by
  intro pins s σ H vs us Q I r h
  obtain ⟨a, xs, ds, rfl, hs, t, ok, q⟩ := h
  have hu : X.A.units + 2 + 50 < cLine := by
    have := hr.un
    omega
  obtain ⟨its, rv, pl, hz⟩ := I.list hs
  rw [Vals.ref1 r]
  have ea := each_of I t rv
  have eb : (xs.zip ds).length = ds.length := by rw [List.length_zip, t.len, Nat.min_self]
  refine PySem.W.sorted_data (R := fun u (b : V × D) => RelV b.1 u ∧ Tp X.K H b.1 b.2) (enc := (·.2)) (bs := xs.zip ds) pl.isList (ea.mono fun _ _ h => h.1) (ea.mono fun _ _ h => h.2) (by rw [zip_data t.len]; exact ok.al) (by rw [zip_data t.len]; exact ok.so)
    (by rw [eb]; exact ok.le) (bounds_of ok hu) fun out ho eo => ?_
  obtain ⟨ys, h1, h2, h3⟩ := sort_back (vs := its) t eo
  obtain ⟨c, hc⟩ := PyProof.Rows.sortedAll_at s.heap its out.toArray
  refine ⟨.ref (s.heap.objs.size + 1), _, I.laid (t' := s.toks) (a := s.heap.objs.size + 1) (o := .lst ys) (fun _ _ => PyProof.Rows.sortedAll_old) (Nat.le_succ _) ⟨by rw [h3]; exact ok.le, out, c, h1, hc⟩, rfl, q _ _ (I.hok.fresh (Nat.le_succ _)) h2⟩
def sortedD : D → (SV → Prop) → Prop
  | .list ds, R => SortOk ds ∧ R (.lst (srt ds))
  | _, _ => False
theorem srt_perm (ds : List D) : (srt ds).Perm ds := List.mergeSort_perm ds _
theorem noLs_srt {ds : List D} (h : noLs ds = true) : noLs (srt ds) = true := noLs_sub (fun d hd => (srt_perm ds).mem_iff.mp hd) h
theorem ev_srt {R : SV → Prop} {H : Hp} {ds : List D} {p : Addr} {ys : List V} (ok : SortOk ds) (w : R (.lst (srt ds))) (n : H p = Option.none) (t : TpAll X.K H ys (srt ds)) {Q : VK} (q : ∀ c v H', R c → Same H H' → Val (gd X) H H' v c → Q v H') : Q (.ref p) (upd H p (.lst ys)) := by
  obtain ⟨s4, vl⟩ := val_lst (G := gd X) (Same.refl H) n t (noLs_srt ok.nl)
  exact q _ _ _ w s4 vl
theorem jc_sorted {k : Nat} (hr : Room k X.A) : JC X (.builtin "sorted") (rSortL X.K) (on1 sortedD) := by
  refine ⟨cr_sortL hr, fun ds R w0 H vs t0 Q q => ?_⟩
  obtain ⟨d, rfl, w⟩ := on1_of w0
  obtain ⟨v, rfl, t⟩ := one_tp t0
  cases d with
  | list ds =>
    cases t with
    | lst k t => exact ⟨_, _, ds, rfl, k, t, w.1, fun p ys n ty => ev_srt w.1 w.2 n ty q⟩
  | _ => exact False.elim w

/-! ### sorted(d) -/
/-- a new list is sorted -/
theorem sort_new {A : Around} {E : Value → Shared → Prop} {vs : List Value} {xs : List V} {ds : List D} {Q : VK} (I : Inv X pins σ H s) (rv : Vals xs vs) (t : TpAll X.K H xs ds) (ok : SortOk ds) (hu : A.units + 1 + 50 < cLine)
    (q : ∀ p ys, H p = Option.none → TpAll X.K H ys (srt ds) → Q (.ref p) (upd H p (.lst ys))) :
    wpAny (model X.prog X.w) A (call (.builtin "list.sort") [.ref s.heap.objs.size]) (fun _ s' => EP X pins σ Q (.ref s.heap.objs.size) s') E { s with heap := s.heap.push { cls := .type "list", data := .seq vs.toArray } } := by
  have hoL : (s.heap.push (seqObj "list" vs.toArray 0)).get? s.heap.objs.size = some (seqObj "list" vs.toArray 0) := Heap.get?_push_size _ rfl
  have I1 : Inv X pins σ H { s with heap := s.heap.push (seqObj "list" vs.toArray 0) } := I.kept (t' := s.toks) fun _ _ q => Heap.get?_push_of_some _ q
  have ea := each_of I1 t rv
  have eb : (xs.zip ds).length = ds.length := by rw [List.length_zip, t.len, Nat.min_self]
  refine PySem.W.list_sort_data (R := fun u (b : V × D) => RelV b.1 u ∧ Tp X.K H b.1 b.2) (enc := (·.2)) (bs := xs.zip ds) (s := { s with heap := s.heap.push (seqObj "list" vs.toArray 0) }) hoL (ea.mono fun _ _ h => h.1) ?_ (by rw [zip_data t.len]; exact ok.al) (by rw [zip_data t.len]; exact ok.so)
    (by rw [eb]; exact ok.le) (bounds_of ok hu) fun out ho eo => ?_
  · refine (PySem.W.each_mem ea).mono fun u b ⟨⟨_, as, h⟩, hb⟩ => ⟨as, h, ?_⟩
    rw [reads_none (noLs_mem ok.nl _ (List.of_mem_zip hb).2) h]
    exact List.not_mem_nil
  · obtain ⟨ys, h1, h2, h3⟩ := sort_back (vs := vs) t eo
    obtain ⟨e', he'⟩ := PyProof.Rows.sortedHeap_at (vs := vs) (out := out.toArray) hoL
    refine ⟨.ref s.heap.objs.size, _, I.laid (t' := s.toks) (a := s.heap.objs.size) (o := .lst ys) (fun b u e => ?_) (Nat.le_refl _) ⟨by rw [h3]; exact ok.le, out, e', h1, he'⟩, rfl, q _ _ (I.hok.fresh (Nat.le_refl _)) h2⟩
    have hb : b < s.heap.objs.size := Heap.lt_size e
    rw [PyProof.Rows.sortedHeap_old (Nat.ne_of_lt hb) (by rw [size_push']; exact Nat.lt_succ_of_lt hb)]
    exact Heap.get?_push_of_some _ e
def rSortDT (P : Program) (w : World) (K : PySem.W.Frag) : List V → Hp → VK → Prop := fun vs H Q => ∃ (a : Addr) (L : List (List Int × Addr × Value)) (ds : List D), vs = [V.ref a] ∧ H a = some (DTo P w a L) ∧ TpAll K H (L.map fun x => V.ref x.2.1) ds ∧ SortOk ds ∧
  ∀ p ys, H p = Option.none → TpAll K H ys (srt ds) → Q (.ref p) (upd H p (.lst ys))
theorem cr_sortDT {k : Nat} (hc : X.calm = true) (hr : Room k X.A) : CallR X (.builtin "sorted") (rSortDT X.prog X.w X.K) := by
  intro pins s σ H vs us Q I r h
  obtain ⟨d, L, ds, rfl, hd, t, ok, q⟩ := h
  rw [Vals.ref1 r]
  have hu : X.A.in1.units + 1 + 50 < cLine := by
    have := hr.un
    show X.A.units + 1 + 1 + 50 < cLine
    omega
  obtain ⟨⟨z, hs, o, es, ep, ho, hx, hdt, he, hn⟩, _⟩ := I.hok d _ hd
  have l1 : es.size = L.length := size_of_entries he
  refine Calls.call_function_entry PyProof.Rows.kind_sorted PyProof.Rows.plain_sorted PyProof.Rows.entry_sorted (PyProof.Rows.args_sorted1 _) ?_
  unfold Builtin.«sorted»
  refine wpAny_bind (m := checkCount "sorted" 1 1 _) (wpAny_pure ?_)
  refine wpAny_bind (PySem.W.kdu_collect (A := X.A.in1) (kdl_raw hs hx hdt) (I.ok.hd hc) ho (by omega) fun h' tk acc hk it => ?_)
  have eb := keys_of he it
  have rv : Vals (L.map fun x => V.ref x.2.1) acc.toList := by
    rw [eb, show (L.map fun x => V.ref x.2.1) = (L.map fun x => x.2.1).map V.ref by rw [List.map_map]; rfl]
    exact vals_refs _
  have I1 : Inv X pins σ H { s with heap := h', toks := tk } := I.kept hk
  refine wpAny_bind (wpAny_newList ?_ (by rw [← rv.length, List.length_map]; exact z))
  refine wpAny_bind (wpAny_holding ?_)
  refine wpAny_mono (sort_new (s := { s with heap := h', toks := tk }) (A := X.A.in1) I1 rv t ok hu q) (fun _ s' x => ?_) fun _ _ e => e
  exact wpAny_pure ⟨_, rfl, x⟩
def rSortDK (K : PySem.W.Frag) : List V → Hp → VK → Prop := fun vs H Q => ∃ (a : Addr) (L : List (Key × V)) (ks : List Int), vs = [V.ref a] ∧ H a = some (.dK L) ∧ L.map (·.1) = ks.map Sum.inl ∧ SortOk (ks.map PyData.int) ∧
  ∀ p ys, H p = Option.none → TpAll K H ys (srt (ks.map PyData.int)) → Q (.ref p) (upd H p (.lst ys))
theorem cr_sortDK {k : Nat} (hc : X.calm = true) (hr : Room k X.A) : CallR X (.builtin "sorted") (rSortDK X.K) := by
  intro pins s σ H vs us Q I r h
  obtain ⟨d, L, ks, rfl, hd, hks, ok, q⟩ := h
  rw [Vals.ref1 r]
  have hu : X.A.in1.units + 1 + 50 < cLine := by
    have := hr.un
    show X.A.units + 1 + 1 + 50 < cLine
    omega
  obtain ⟨z, lo, vs, rel, dd⟩ := dk_rd I.hok (.inl hd)
  obtain ⟨ep, hat⟩ := dd.dictAt
  have hkeys : vs.map (·.1) = ks.map Sum.inl := rel.keys.symm.trans hks
  refine Calls.call_function_entry PyProof.Rows.kind_sorted PyProof.Rows.plain_sorted PyProof.Rows.entry_sorted (PyProof.Rows.args_sorted1 _) ?_
  unfold Builtin.«sorted»
  refine wpAny_bind (m := checkCount "sorted" 1 1 _) (wpAny_pure ?_)
  refine wpAny_bind (PySem.W.kdu_collect (A := X.A.in1) (PySem.W.kdl_dict (knd := mixKind X.prog X.w) (kvs := vs) (ep := ep) lo) (I.ok.hd hc) hat (by rw [← rel.length]; exact z) fun h' tk acc hk hacc => ?_)
  have hl : vs.length = ks.length := by
    have e := congrArg List.length hkeys
    rw [List.length_map, List.length_map] at e
    exact e
  have rv : Vals (ks.map V.int) acc.toList := by
    refine vals_of_at (by rw [List.length_map, ← hl, ← hacc.1]; simp) fun j x w h1 h2 => ?_
    obtain ⟨k, y, hky, hi⟩ := hacc.2 j w (by rw [← Array.getElem?_toList]; exact h2)
    have e3 : (vs.map (·.1))[j]? = some k := by rw [List.getElem?_map, hky]; rfl
    rw [hkeys, List.getElem?_map] at e3
    rw [List.getElem?_map] at h1
    cases e4 : ks[j]? with
    | none => rw [e4] at e3; cases e3
    | some i =>
      rw [e4] at e3 h1
      have e5 : Sum.inl i = k := Option.some.inj e3
      have e6 : V.int i = x := Option.some.inj h1
      subst e5
      subst e6
      exact keyIs_rel (k := Sum.inl i) hi
  have I1 : Inv X pins σ H { s with heap := h', toks := tk } := I.kept hk
  refine wpAny_bind (wpAny_newList ?_ (by rw [← rv.length, List.length_map, ← hl, ← rel.length]; exact z))
  refine wpAny_bind (wpAny_holding ?_)
  refine wpAny_mono (sort_new (s := { s with heap := h', toks := tk }) (A := X.A.in1) I1 rv (tpAll_ints ks) ok hu q) (fun _ s' x => ?_) fun _ _ e => e
  exact wpAny_pure ⟨_, rfl, x⟩
def intsD (kvs : List (Int × D)) : List D := (kvs.map (·.1)).map PyData.int
def sortDd : SV → (SV → Prop) → Prop
  | .dT kvs, R => SortOk (keysD kvs) ∧ R (.lst (srt (keysD kvs)))
  | .dK kvs, R => SortOk (intsD kvs) ∧ R (.lst (srt (intsD kvs)))
  | _, _ => False
theorem jd_sorted {k : Nat} (hc : X.calm = true) (hr : Room k X.A) : JD X (.builtin "sorted") (fun vs H Q => rSortDT X.prog X.w X.K vs H Q ∨ rSortDK X.K vs H Q) sortDd := by
  refine ⟨(cr_sortDT hc hr).or (cr_sortDK hc hr), fun s R w H v hv Q q => ?_, fun s R w => ?_⟩
  · cases s with
    | dT kvs =>
      obtain ⟨p, L, rfl, hp, kv⟩ := hv
      exact .inl ⟨p, L, _, rfl, hp, kvT_keys kv, w.1, fun p ys n ty => ev_srt w.1 w.2 n ty q⟩
    | dK kvs =>
      obtain ⟨p, L, rfl, hp, kv⟩ := hv
      exact .inr ⟨p, L, kvs.map fun kv : Int × D => kv.1, rfl, hp, by rw [kv.keys, List.map_map]; rfl, w.1, fun p ys n ty => ev_srt (ds := intsD kvs) w.1 w.2 n ty q⟩
    | _ => exact False.elim w
  · cases s with
    | dT kvs => exact ⟨rfl, fun _ h => nomatch h⟩
    | dK kvs => exact ⟨rfl, fun _ h => nomatch h⟩
    | _ => exact False.elim w
end
end Ab

set_option Elab.async false
set_option linter.all false
set_option maxRecDepth 100000
set_option maxHeartbeats 1000000
/-! Ab16: a, b, c = a tuple. -/
namespace Ab
open PySem PySem.Spec L2
open PyProof.Rows hiding St
section
variable {X : Cx} {E : XK} {e a b o : Expr} {es : List Expr} {te ta tb : TE} {t : TA} {We Wa Wb : WE} {Wr : WA} {p pos cpos apos pos' : Pos} {x : Str}
def tUn3T (K : PySem.W.Frag) (te : TE) (i j k : Nat) : TS := tAsg te (gTup K 3 (gCons (gName i) (gCons (gName j) (gCons (gName k) gNil))))
def wUn3T (We : WE) (i j k : Nat) : WS := fun ss O => We ss (dd fun d => match d with
  | .tuple [x, y, z] => (noL x = true ∧ noL y = true ∧ noL z = true) ∧ O (.nx (((ss.set i (.dat x)).set j (.dat y)).set k (.dat z)))
  | _ => False)
theorem ev_un3T {i j k : Nat} (h : Ev (gd X) te We) : Rn (gd X) E (tUn3T X.K te i j k) (wUn3T We i j k) := by
  intro ss O w HB σ H D A f q
  refine (h ss _ w).use A fun d v H1 hd s1 t1 => ?_
  cases d with
  | tuple ds =>
    cases ds with
    | nil => exact False.elim hd
    | cons x ds =>
      cases ds with
      | nil => exact False.elim hd
      | cons y ds =>
        cases ds with
        | nil => exact False.elim hd
        | cons z ds =>
          cases ds with
          | cons _ _ => exact False.elim hd
          | nil =>
            obtain ⟨⟨zx, zy, zz⟩, ho⟩ := hd
            cases t1 with
            | tup kq t1 =>
              cases t1 with
              | cons tx t1 =>
                cases t1 with
                | cons ty t1 =>
                  cases t1 with
                  | cons tz t1 =>
                    cases t1
                    have A1 := A.same s1
                    have f1 := f.trans (fz_same (σ := σ) (ss := ss) s1)
                    obtain ⟨A2, f2⟩ := A1.setD (i := i) (tx.kt (kt_fz A1) zx)
                    obtain ⟨A3, f3⟩ := A2.setD (i := j) (ty.kt (kt_fz A2) zy)
                    obtain ⟨A4, f4⟩ := A3.setD (i := k) (tz.kt (kt_fz A3) zz)
                    have fin := q _ ho _ _ A4 (f1.trans (f2.trans (f3.trans f4)))
                    exact ⟨_, _, rfl, kq.sq, rfl, _, _, rfl, _, _, rfl, _, _, rfl, rfl, fin⟩
  | _ => exact False.elim hd
theorem js_un3T {i j k : Nat} {x1 x2 x3 : Str} {p1 p2 p3 pt : Pos} {kk : Nat} (hN : X.N.Nodup) (h : JE X e te We) (hi : X.N[i]? = some x1 := by rfl) (hj : X.N[j]? = some x2 := by rfl) (hk : X.N[k]? = some x3 := by rfl)
    (l1 : Loc X.env.scope x1 := by first | exact Or.inl rfl | exact Or.inr rfl) (l2 : Loc X.env.scope x2 := by first | exact Or.inl rfl | exact Or.inr rfl) (l3 : Loc X.env.scope x3 := by first | exact Or.inl rfl | exact Or.inr rfl)
    (f1 : X.fn x1 = true ∨ X.env.scope.names.lookup x1 = some .local := by first | exact .inl rfl | exact .inr rfl) (f2 : X.fn x2 = true ∨ X.env.scope.names.lookup x2 = some .local := by first | exact .inl rfl | exact .inr rfl) (f3 : X.fn x3 = true ∨ X.env.scope.names.lookup x3 = some .local := by first | exact .inl rfl | exact .inr rfl)
    (hc : X.calm = true := by rfl) (hs : swapsWithSole [.Tuple [.Name x1 p1, .Name x2 p2, .Name x3 p3] kk pt] e pos.line X.env = pure false := by rfl) (hw : swappedStores [.Tuple [.Name x1 p1, .Name x2 p2, .Name x3 p3] kk pt] e X.env = pure none := by rfl) :
    JS X E (.Assign [.Tuple [.Name x1 p1, .Name x2 p2, .Name x3 p3] kk pt] e pos) (tUn3T X.K te i j k) (wUn3T We i j k) :=
  ⟨ps_asg h.pe (pg_tup hc (pgs_cons (pg_name hN hi l1 f1) (pgs_cons (pg_name hN hj l2 f2) (pgs_cons (pg_name hN hk l3 f3) pgs_nil)))) hs hw, ev_un3T h.ev⟩
end
end Ab

set_option Elab.async false
set_option linter.all false
set_option maxRecDepth 100000
set_option maxHeartbeats 4000000
/-! Ab17: sorted(set(..)), len(set(..)) of ints. -/
namespace Ab
open PySem PySem.Spec L2 PyProof.Rows
section
variable {P : Program} {w : World} {A : Around} {E : Value → Shared → Prop} {s : Shared}
set_option maxRecDepth 100000 in
set_option maxHeartbeats 3200000 in
theorem call_set_lstI {l : Addr} {items : Array Value} (ns : List Int) {Q : Value → Shared → Prop} (hh : A.handled = none) (hl : s.heap.IsList l items) (hit : IntsAre items.toList ns) (hb : ns.length + 1 < scanBound)
    (h : ∀ (h' : Heap) (tk c : Nat), SetR w h' s.heap.objs.size (fun j => decide (j ∈ ns)) c → c ≤ ns.length → (∀ b o, s.heap.get? b = some o → h'.get? b = some o) → Q (.ref s.heap.objs.size) { s with heap := h', toks := tk }) :
    wpAny (model P w) A (call (.type "set") [.ref l]) Q E s := by
  have hisz : items.size = ns.length := by
    have q := IntsAre.length hit
    rw [Array.length_toList] at q
    exact q
  obtain ⟨c, tl, hmro⟩ := F.called_set.mro
  have hmade := F.called_set.made
  have hsub := F.called_set.sub
  refine wpAny_call (codeAny_of_tree ?_)
  show wpAny _ _ (callAny (.type "set") _) _ _ _
  refine wpAny_pure ⟨Code.quiet_builtin _ (by decide +kernel), codeAny_builtin F.entry_type_call ?_⟩
  rw [Around.under_plain (weight_type_call_type "set" [.ref l] []) rfl]
  have h1 := F.called_set.notType
  have h2 := F.called_set.canCreate
  have hct := F.typeCall_set_1 (.ref l)
  repeat (any_goals (first | assumption | wp_step))

  refine codeAny_mono (code_set_led1 (.ref l) (E := E) (Q₁ := fun obj s₁ => obj = .ref s.heap.objs.size ∧ s₁ = { s with heap := s.heap.push { cls := .type "set", dict := none, data := .set #[] 0 (.fresh 0 0 (!w.params.followText "set-order")) } }) ⟨rfl, rfl⟩) fun r s₁ hr => ?_
  cases r with
  | error e => exact hr
  | ok fl =>
    cases fl with
    | ret obj =>
      obtain ⟨rfl, rfl⟩ := hr
      have hS : (s.heap.push { cls := .type "set", dict := none, data := .set #[] 0 (.fresh 0 0 (!w.params.followText "set-order")) }).get? s.heap.objs.size = some { cls := .type "set", dict := none, data := .set #[] 0 (.fresh 0 0 (!w.params.followText "set-order")) } := Heap.get?_push_size _ rfl
      have hT : Shared.TypeIs { s with heap := s.heap.push { cls := .type "set", dict := none, data := .set #[] 0 (.fresh 0 0 (!w.params.followText "set-order")) } } (.ref s.heap.objs.size) "set" := ⟨_, hS, rfl⟩
      have hli := F.called_set.init.lookup
      have hbi := F.called_set.init.bind (.ref s.heap.objs.size)
      repeat (any_goals (first | assumption | wp_step))

      refine codeAny_mono (codeAny_call_builtin (R := wants (fun r s₂ => r = .none ∧ ∃ h' tk c, s₂ = { s with heap := h', toks := tk } ∧ SetR w h' s.heap.objs.size (fun j => decide (j ∈ ns)) c ∧ c ≤ ns.length ∧
          (∀ b o, s.heap.get? b = some o → h'.get? b = some o)) E) F.called_set.init.plain F.entry_set_init (check_set_init_1 hT ?_)) fun r₂ s₂ hr₂ => ?_
      · obtain ⟨ol, hol, hcl, nl, hdl⟩ := hl
        obtain ⟨ocls, odict, odata, oslots⟩ := ol
        simp only at hcl hdl
        subst hcl; subst hdl
        have hol' : (s.heap.push { cls := .type "set", dict := none, data := .set #[] 0 (.fresh 0 0 (!w.params.followText "set-order")) }).get? l = some { cls := .type "list", dict := odict, data := .seq items nl, slots := oslots } := Heap.get?_push_of_some _ hol
        have hsls := F.sub_list_set
        have hslf := F.sub_list_frozenset
        have hne : (Value.type "list" == Value.type "dict") = false := by decide
        have hl1 : (s.heap.push { cls := .type "set", dict := none, data := .set #[] 0 (.fresh 0 0 (!w.params.followText "set-order")) }).IsList l items := ⟨_, hol', rfl, nl, rfl⟩
        unfold Builtin.«set.__init__» noKeywords Builtin.Frozenset.updateFrom
        generalize hPI : pyIter = PI
        wp_walk
        subst hPI

        refine wpAny_pyIter_list hl1 ?_
        refine wpAny_bind (wpAny_runValue ?_)
        have hlS : l < s.heap.objs.size := Heap.lt_size hol
        have hh3 : A.in1.in1.in1.handled = none := by simp [hh]
        have hz1 : (s.heap.push { cls := .type "set", dict := none, data := .set #[] 0 (.fresh 0 0 (!w.params.followText "set-order")) }).objs.size = s.heap.objs.size + 1 := Heap.size_push ..
        have hneI : l ≠ (s.heap.push { cls := .type "set", dict := none, data := .set #[] 0 (.fresh 0 0 (!w.params.followText "set-order")) }).objs.size := by
          rw [Heap.size_push]; exact Nat.ne_of_lt (Nat.lt_succ_of_lt hlS)
        have hSf : s.heap.objs.size ∉ [(s.heap.push { cls := .type "set", dict := none, data := .set #[] 0 (.fresh 0 0 (!w.params.followText "set-order")) }).objs.size, l] := by
          rw [Heap.size_push]; simp only [List.mem_cons, List.mem_singleton, List.not_mem_nil, or_false, not_or]
          exact ⟨Nat.ne_of_lt (Nat.lt_succ_self _), Nat.ne_of_gt hlS⟩
        have hval : ∀ (i : Nat) (v : Value), items[i]? = some v → ∃ k t, ns[i]? = some k ∧ v = .int k t := fun i v hv => by
          have hi : i < ns.length := by rw [← hisz]; exact (Array.getElem?_eq_some_iff.mp hv).1
          obtain ⟨t, e⟩ := PyProof.Rows.IntsAre.int_at hit i v (by rw [Array.getElem?_toList]; exact hv)
          refine ⟨ns[i], t, List.getElem?_eq_getElem hi, ?_⟩
          rw [e, List.getD_eq_getElem?_getD, List.getElem?_eq_getElem hi] <;> rfl
        refine set_update_ints ((Walks.list hh3 _ l hneI items).toS) s.heap.objs.size
          hSf ns hisz hb hval (items.size - 0) 0 _ (by omega) (Nat.zero_le _)
          ⟨⟨_, Heap.get?_push_size _ rfl, rfl, rfl⟩, (hl1.push _)⟩ ?hS0 ?hR
        case hS0 =>
          have hget : ((s.heap.push { cls := .type "set", dict := none, data := .set #[] 0 (.fresh 0 0 (!w.params.followText "set-order")) }).push { cls := .type "list_iterator", data := .fields #[.ref l, .int 0 0] }).get? s.heap.objs.size
              = some { cls := .type "set", dict := none, data := .set #[] 0 (.fresh 0 0 (!w.params.followText "set-order")) } := Heap.get?_push_of_some _ hS
          exact ⟨0, Nat.le_refl 0, setR_new_at hget⟩
        case hR =>
          intro s' c' hm hc' hS'
          obtain ⟨h', g2, d', tk', os'⟩ := s'
          have eg : g2 = s.gens := hm.gens
          have ed : d' = s.drawn := hm.drawn
          have eo : os' = s.os := hm.os
          subst eg; subst ed; subst eo
          show wpAny _ _ _ _ _ _
          refine wpAny_pure ?_
          show wpAny _ _ (ret Value.none) _ _ _
          rw [hisz] at hc'
          refine wpAny_pure ⟨rfl, h', tk', c', rfl, hS', hc', fun b o e => ?_⟩
          have hb0 : b < s.heap.objs.size := Heap.lt_size e
          have hb1 : b ≠ s.heap.objs.size := Nat.ne_of_lt hb0
          have hb2 : b ≠ (s.heap.push { cls := .type "set", dict := none, data := .set #[] 0 (.fresh 0 0 (!w.params.followText "set-order")) }).objs.size := by
            rw [Heap.size_push]; exact Nat.ne_of_lt (Nat.lt_succ_of_lt hb0)
          exact hm.heap b o (by simp only [List.mem_cons, List.mem_singleton, List.not_mem_nil, or_false, not_or]; exact ⟨hb1, hb2⟩) (Heap.get?_push_of_some _ (Heap.get?_push_of_some _ e))

      · cases r₂ with
        | error e => exact hr₂
        | ok fl₂ =>
          cases fl₂ with
          | ret r =>
            obtain ⟨rfl, h', tk, c', rfl, hS', hc', hk'⟩ := hr₂
            repeat (any_goals (first | assumption | wp_step))
            exact h _ _ _ hS' hc' hk'
          | _ => exact hr₂.elim
    | _ => exact hr.elim

end
end Ab
namespace Ab
open PySem PySem.Spec L2
open PyProof.Rows hiding St
/-- a set's members, each once -/
def MemI (ns ms : List Int) : Prop := ms.Nodup ∧ ∀ k, k ∈ ms ↔ k ∈ ns
theorem setR_mem {w : World} {h : Heap} {a : Addr} {ns : List Int} {c : Nat} (R : SetR w h a (fun j => decide (j ∈ ns)) c) : ∃ ms, MemI ns ms ∧ ms.length = c := by
  obtain ⟨o, es, ep, t, ho, hex, hd, g, nd, hm, hb, hf, hn, hr, hl⟩ := R
  refine ⟨_, ⟨nd, fun k => ?_⟩, by rw [List.length_map, Array.length_toList]; exact hn⟩
  rw [← hm k, decide_eq_true_iff]
def SqI (K : PySem.W.Frag) (H : Hp) (x : V) (ns : List Int) : Prop := ∃ l, x = V.ref l ∧ (SqL K H l (ns.map V.int) ∨ SqT K H l (ns.map V.int))
def tSortSet (K : PySem.W.Frag) (ta : TE) : TE := fun σ H Q => ta σ H fun x H1 => ∃ ns, SqI K H1 x ns ∧ ns.length + 1 < scanBound ∧ (∀ ms, MemI ns ms → ms.length < 64) ∧
  ∀ (ms : List Int) (p : Addr), ms.Pairwise (· < ·) → (∀ k, k ∈ ms ↔ k ∈ ns) → H1 p = Option.none → Q (.ref p) (upd H1 p (.lst (ms.map V.int)))
def tLenSet (K : PySem.W.Frag) (ta : TE) : TE := fun σ H Q => ta σ H fun x H1 => ∃ ns, SqI K H1 x ns ∧ ns.length + 1 < scanBound ∧ ∀ ms, MemI ns ms → Q (.int ms.length) H1
section
variable {X : Cx} {pins : List (Addr × Obj)} {σ : St} {H : Hp} {s : Shared}
theorem set_made {x : V} {v : Value} {ns : List Int} {Q : Value → Shared → Prop} (hc : X.calm = true) (I : L2.Inv X pins σ H s) (h : SqI X.K H x ns) (r : RelV x v) (hb : ns.length + 1 < scanBound)
    (q : ∀ (h' : Heap) (tk c : Nat), SetR X.w h' s.heap.objs.size (fun j => decide (j ∈ ns)) c → c ≤ ns.length → (∀ b o, s.heap.get? b = some o → h'.get? b = some o) → Q (.ref s.heap.objs.size) { s with heap := h', toks := tk }) :
    wpAny (model X.prog X.w) X.A (call (.type "set") [v]) Q X.xe s := by
  obtain ⟨l, rfl, hl⟩ := h
  cases r
  rcases hl with hl | hl
  · obtain ⟨its, rv, pl, hz⟩ := I.list hl
    exact call_set_lstI ns (I.ok.hd hc) pl.isList (by simpa using ints_of_vals rv) hb q
  · obtain ⟨its, rv, pl, hz⟩ := I.tuple hl
    exact call_set_tupI ns (I.ok.hd hc) (show s.heap.IsTuple l its.toArray from pl) (by simpa using ints_of_vals rv) hb q
theorem sorted_back {ns : List Int} {a : Addr} {c : Nat} {Q : VK} (hc : X.calm = true) (I : L2.Inv X pins σ H s) (hS : SetR X.w s.heap a (fun j => decide (j ∈ ns)) c) (h64 : ∀ ms, MemI ns ms → ms.length < 64)
    (q : ∀ (ms : List Int) (p : Addr), ms.Pairwise (· < ·) → (∀ k, k ∈ ms ↔ k ∈ ns) → H p = Option.none → Q (.ref p) (upd H p (.lst (ms.map V.int)))) :
    wpAny (model X.prog X.w) X.A (call (.builtin "sorted") [.ref a]) (EP X pins σ Q) X.xe s := by
  obtain ⟨ms, hm, hcm⟩ := setR_mem hS
  refine sorted_set hS (I.ok.hd hc) (by rw [← hcm]; exact h64 ms hm) fun s' p out cc ks k1 hgn hos hz hout hI hpw hmem hlen => ?_
  have hn : H p = Option.none := I.hok.fresh hz
  have hfew : ks.length ≤ sizeLine := by
    rw [hlen, ← hcm, sizeLine_eq]
    have := h64 ms hm
    omega
  have J : L2.Inv X pins σ (upd H p (.lst (ks.map V.int))) { s with heap := s'.heap, gens := s'.gens, drawn := s'.drawn, toks := s'.toks } :=
    I.call (ch := []) (Un.laid k1 hz hn) (I.hok.laid k1 hz ⟨by rw [List.length_map]; exact hfew, out.toList, cc, vals_of_ints hI, by rw [Array.toArray_toList]; exact hout⟩) (by rw [hgn]; exact I.bare) (fun _ z => nomatch z)
  have e : s' = { s with heap := s'.heap, gens := s'.gens, drawn := s'.drawn, toks := s'.toks } := by
    cases s'
    cases s
    cases hos
    rfl
  rw [e]
  refine ⟨.ref p, _, J, rfl, q ks p hpw (fun k => ?_) hn⟩
  rw [hmem k, decide_eq_true_iff]
theorem pe_sortSet {a : Expr} {ta : TE} {p p2 q pos : Pos} (hc : X.calm = true) (hg : Gl X "sorted") (hm : X.mg "sorted" = Option.none) (hg2 : Gl X "set") (hm2 : X.mg "set" = Option.none) (ha : PE X a ta)
    (na : starEach [a] X.env = (false, eval a X.env) :: starEach [] X.env := by rfl) : PE X (.Call (.Name "sorted" p) [.Call (.Name "set" p2) [a] [] q] [] pos) (tSortSet X.K ta) := by
  refine ⟨fun pins s σ H Q I h => ?_⟩
  refine Call_ (ld_blt I hg hm PyProof.Rows.boot_sorted ?_)
  refine PyProof.Rows.callWith_builtin1 (PyProof.Rows.args_cons ?_ rfl) rfl rfl
  refine Call_ (ld_blt I hg2 hm2 PyProof.Rows.boot_set ?_)
  refine PyProof.Rows.callWith_type1 (PyProof.Rows.args_cons (thn (ha.run pins s σ H _ I h) fun v s1 ⟨x, H1, I1, r1, q1⟩ => PyProof.Rows.args_nil ?_) na) na rfl
  obtain ⟨ns, hq, hb, h64, q1⟩ := q1
  refine set_made hc I1 hq r1 hb fun h' tk c hS hcl hk => ?_
  refine PyProof.Rows.args_nil ?_
  have I2 : L2.Inv X pins σ H1 { s1 with heap := h', toks := tk } := I1.kept hk
  exact sorted_back hc I2 hS (fun ms hm => h64 ms hm) q1
theorem pe_lenSet {a : Expr} {ta : TE} {p p2 q pos : Pos} (hc : X.calm = true) (hg : Gl X "len") (hm : X.mg "len" = Option.none) (hg2 : Gl X "set") (hm2 : X.mg "set" = Option.none) (ha : PE X a ta)
    (na : starEach [a] X.env = (false, eval a X.env) :: starEach [] X.env := by rfl) : PE X (.Call (.Name "len" p) [.Call (.Name "set" p2) [a] [] q] [] pos) (tLenSet X.K ta) := by
  refine ⟨fun pins s σ H Q I h => ?_⟩
  refine Call_ (ld_blt I hg hm PySem.boot_len ?_)
  refine PyProof.Rows.callWith_builtin1 (PyProof.Rows.args_cons ?_ rfl) rfl rfl
  refine Call_ (ld_blt I hg2 hm2 PyProof.Rows.boot_set ?_)
  refine PyProof.Rows.callWith_type1 (PyProof.Rows.args_cons (thn (ha.run pins s σ H _ I h) fun v s1 ⟨x, H1, I1, r1, q1⟩ => PyProof.Rows.args_nil ?_) na) na rfl
  obtain ⟨ns, hq, hb, q1⟩ := q1
  refine set_made hc I1 hq r1 hb fun h' tk c hS hcl hk => ?_
  refine PyProof.Rows.args_nil ?_
  obtain ⟨ms, hmi, hcm⟩ := setR_mem hS
  obtain ⟨o, es, ep, t, ho, hex, hd, _, _, _, _, hf, hn, _⟩ := hS
  have I2 : L2.Inv X pins σ H1 { s1 with heap := h', toks := tk } := I1.kept hk
  have hcb : c < 2 ^ 63 := by
    unfold scanBound at hb
    omega
  refine call_len_set ho hex hd hf (by rw [hn]; omega) ⟨.int ms.length, H1, I2.tok _, ⟨_, by rw [hn, hcm]⟩, q1 ms hmi⟩
end

/-! ### by data -/
def intsIn : D → (List Int → Prop) → Prop
  | .list ds, R => ∃ ns, ds = ns.map PyData.int ∧ R ns
  | .tuple ds, R => ∃ ns, ds = ns.map PyData.int ∧ R ns
  | _, _ => False
theorem intsIn_sq {K : PySem.W.Frag} {H : Hp} {v : V} {d : D} {R : List Int → Prop} (w : intsIn d R) (t : Tp K H v d) : ∃ ns, SqI K H v ns ∧ R ns := by
  cases d with
  | list ds =>
    obtain ⟨ns, rfl, h⟩ := w
    cases t with
    | lst k t =>
      refine ⟨ns, ⟨_, rfl, .inl ?_⟩, h⟩
      rw [← TpAll.ints t]
      exact k
  | tuple ds =>
    obtain ⟨ns, rfl, h⟩ := w
    cases t with
    | tup k t =>
      refine ⟨ns, ⟨_, rfl, .inr ?_⟩, h⟩
      rw [← TpAll.ints t]
      exact k.sq
  | _ => exact False.elim w
def wSortSet (We : WE) : WE := fun ss R => We ss (dd fun d => intsIn d fun ns => ns.length ≤ 4000 ∧ (∀ ms, MemI ns ms → ms.length < 64) ∧ ∀ ms : List Int, ms.Pairwise (· < ·) → (∀ k, k ∈ ms ↔ k ∈ ns) → R (.lst (ms.map PyData.int)))
def wLenSet (We : WE) : WE := fun ss R => We ss (dd fun d => intsIn d fun ns => ns.length ≤ 4000 ∧ ∀ ms, MemI ns ms → R (.dat (.int ms.length)))
section
variable {X : Cx} {a : Expr} {ta : TE} {We : WE} {p p2 q pos : Pos} {k : Nat}
theorem je_sortSet (hc : X.calm = true) (hr : Room k X.A) (hg : Gl X "sorted") (hm : X.mg "sorted" = Option.none) (hg2 : Gl X "set") (hm2 : X.mg "set" = Option.none) (ha : JE X a ta We)
    (na : starEach [a] X.env = (false, eval a X.env) :: starEach [] X.env := by rfl) : JE X (.Call (.Name "sorted" p) [.Call (.Name "set" p2) [a] [] q] [] pos) (tSortSet X.K ta) (wSortSet We) := by
  refine ⟨pe_sortSet hc hg hm hg2 hm2 ha.pe na, fun ss R w σ H A Q q => ?_⟩
  refine (ha.ev ss _ w).use A fun d v H1 hd s1 t1 => ?_
  obtain ⟨ns, h1, h2, h3, h4⟩ := intsIn_sq hd t1
  refine ⟨ns, h1, by unfold scanBound; omega, h3, fun ms p hp hm n => ?_⟩
  obtain ⟨s4, vl⟩ := val_lst (G := gd X) (Same.refl H1) n (tpAll_ints ms) (noLs_map PyData.int (fun _ => rfl) ms)
  exact q _ _ _ (h4 ms hp hm) (s1.trans s4) (vl.base s1)
theorem je_lenSet (hc : X.calm = true) (hr : Room k X.A) (hg : Gl X "len") (hm : X.mg "len" = Option.none) (hg2 : Gl X "set") (hm2 : X.mg "set" = Option.none) (ha : JE X a ta We)
    (na : starEach [a] X.env = (false, eval a X.env) :: starEach [] X.env := by rfl) : JE X (.Call (.Name "len" p) [.Call (.Name "set" p2) [a] [] q] [] pos) (tLenSet X.K ta) (wLenSet We) := by
  refine ⟨pe_lenSet hc hg hm hg2 hm2 ha.pe na, fun ss R w σ H A Q q => ?_⟩
  refine (ha.ev ss _ w).use A fun d v H1 hd s1 t1 => ?_
  obtain ⟨ns, h1, h2, h3⟩ := intsIn_sq hd t1
  exact ⟨ns, h1, by unfold scanBound; omega, fun ms hm => q _ _ H1 (h3 ms hm) s1 (.int _)⟩
end
end Ab

set_option Elab.async false
set_option linter.all false
set_option maxRecDepth 100000
set_option maxHeartbeats 2000000
/-! Ab18: any(list of bools) while an exception is handled. -/
namespace Ab
open PySem PySem.Spec L2
open PyProof.Rows hiding St
section
variable {prog : Program} {w : World} {A : Around} {E : Value → Shared → Prop} {s : Shared}
theorem pyNext_list_end_hot {it l x1 : Addr} {i : Nat} {items : Array Value} {Q : Option Value → Shared → Prop} (hot : HotX.HotAt A x1 s.heap) (hne : x1 ≠ it)
    (hit : s.heap.IsListIter it l i) (hl : s.heap.IsList l items) (hx : items[i]? = Option.none)
    (hQ : ∀ h', (∀ b o, b ≠ it → s.heap.get? b = some o → h'.get? b = some o) → Q Option.none { s with heap := h' }) : wpAny (model prog w) A (pyNext (.ref it)) Q E s := by
  obtain ⟨o, ho, hc, hd⟩ := id hit
  obtain ⟨ol, hol, _, nl, hdl⟩ := hl
  obtain ⟨hh, o1, vs1, h1, d1, c1⟩ := hot
  unfold pyNext
  refine wpAny_bind (wpAny_attempt (wpAny_callSpecial?_slot (name := Str.ofString "__next__") hit.typeIs slot_listiter_next
    (wpAny_call_entry slot_listiter_next hit.typeIs entry_listiter_next ?_ (args_listiter_next _))))
  show wpAny _ _ (field (.ref it) 0 >>= _) _ _ s
  refine wpAny_bind (wpAny_field ho hd (x := .ref l) rfl ?_)
  show wpAny _ _ (if (Value.ref l == Value.none) = true then _ else _) _ _ s
  rw [if_neg (show ¬ ((Value.ref l == Value.none) = true) from Bool.false_ne_true)]
  show wpAny _ _ (field (.ref it) 1 >>= _) _ _ s
  refine wpAny_bind (wpAny_field ho hd (x := .int i 0) rfl ?_)
  show wpAny _ _ (seqItems? (.ref l) >>= _) _ _ s
  refine wpAny_bind (wpAny_seqItems hol hdl ?_)
  simp only [Int.toNat_natCast, hx]
  refine wpAny_bind (wpAny_rule (wpAny_bind (wpAny_setField ho hd (by simp) ?_)))
  show wpAny _ _ (newExc (.type "StopIteration") [] >>= _) _ _ _
  refine wpAny_bind ?_
  simp only [newExc, newTuple]
  refine wpAny_bind (wpAny_newObj_type ?_ (by size_fits))
  refine wpAny_bind (m := firstArgMember _ _) (wpAny_of_eq (a := Value.none) (by first | rfl | (simp only [firstArgMember]; rfl)) ?_)
  refine wpAny_newObj_type ?_ (by size_fits)
  have h1' := (Heap.get?_update_other s.heap (Obj.mapFields (·.setIfInBounds 0 Value.none)) (Ne.symm hne)).trans h1
  refine HotX.raiseNew_hot ⟨hh, o1, vs1, Heap.get?_push_of_some _ (Heap.get?_push_of_some _ h1'), d1, c1⟩ (Nat.ne_of_lt (Heap.lt_size (Heap.get?_push_of_some _ h1'))) (Heap.get?_push_size _ rfl) rfl (by first | (simp; done) | (simp; omega) | (simp only [Array.size_append]; simp; omega)) ?_
  refine wpAny_bind (wpAny_isInstance (T := "StopIteration") (b := true) ⟨_, Heap.get?_update_self _ (Heap.get?_push_size _ rfl) rfl, rfl⟩ isSubtype_stop ?_)
  refine wpAny_pure (hQ _ fun b o hb e => ?_)
  have e' := (Heap.get?_update_other s.heap (Obj.mapFields (·.setIfInBounds 0 Value.none)) (Ne.symm hb)).trans e
  rw [Heap.get?_update_other _ _ (Nat.ne_of_gt (Heap.lt_size (Heap.get?_push_of_some _ e')))]
  exact Heap.get?_push_of_some _ (Heap.get?_push_of_some _ e')
theorem walks_listH {x1 : Addr} {o1 : Obj} {vs1 : Array Value} (hh : A.handled = some (.ref x1)) (d1 : o1.data = .fields vs1) (c1 : vs1[2]? = some .none) (I ax : Addr) (hx : x1 ≠ I) (hne : ax ≠ I) (items : Array Value) :
    Walks prog w A I [I, ax, x1] [I] items.size (fun i v => items[i]? = some v) (fun i h => h.IsListIter I ax i ∧ h.IsList ax items ∧ h.get? x1 = some o1) where
  sub := fun b hb => by simp at hb; simp [hb]
  frame := fun _ _ _ st hk => ⟨st.1.at fun o e => hk I (by simp) o e, st.2.1.at fun o e => hk ax (by simp) o e, hk x1 (by simp) _ st.2.2⟩
  item := fun i s Q E hi st hQ => by
    refine wpAny_pyNext_list_item st.1 st.2.1 (x := items[i]) (by simp [hi]) fun h' hit' hs' => ?_
    exact hQ _ h' s.toks (by simp [hi]) ⟨hit', st.2.1.extBut hs'.extBut hne, hs'.extBut _ _ hx st.2.2⟩ fun b o hb e => hs'.extBut b o (fun h => hb (by simp [h])) e
  done := fun s Q E st hQ => pyNext_list_end_hot ⟨hh, o1, vs1, st.2.2, d1, c1⟩ hx st.1 st.2.1 (by simp) fun h' he' => hQ h' s.toks fun b o hb e => he' b o (fun h => hb (by simp [h])) e
  self := fun _ _ _ _ st hQ => wpAny_pyIter_listiter st.1 hQ
end
section
variable {X : Cx}
theorem cr_anyH (hc : L2H.HotC X) : CallR X (.builtin "any") (rAny X.K) := by
  intro pins s σ H vs us Q I r h
  obtain ⟨a, bs, rfl, hs, q⟩ := h
  obtain ⟨its, rv, hl, _⟩ := I.list hs
  rw [Vals.ref1 r]
  have hb := rv.bls
  obtain ⟨p, ⟨hh, v1, e1, c1⟩, hp⟩ := hc
  have hx1 := (I.pin p (List.mem_append_left _ hp)).1
  refine call_any_walk (iter_any hl.isList fun s₂ e2 st hne => ?_)
  subst e2
  refine ⟨_, _, _, _, _, _, _, rfl, walks_listH (A := X.A.in1) hh e1 c1 _ a (Nat.ne_of_lt (Heap.lt_size hx1)) hne its.toArray, ⟨st.1, st.2, Heap.get?_push_of_some _ hx1⟩, truth_bools hb, fun h' tk hk => ?_⟩
  refine ⟨.bl _, H, I.kept fun b o eo => hk b o (fun hmem => ?_) (Heap.get?_push_of_some _ eo), ?_, q⟩
  · rcases List.mem_cons.mp hmem with e1 | hmem
    · exact absurd (e1 ▸ Heap.lt_size eo) (Nat.lt_irrefl _)
    · cases hmem
  · show Value.bool _ = Value.bool _
    rw [← L2.any_range, hb, List.size_toArray, List.length_map]
end
end Ab

set_option Elab.async false
set_option linter.all false
set_option maxRecDepth 100000
set_option maxHeartbeats 2000000
/-! Ab19: defs that may raise; try .. except C as e. -/
namespace Ab
open PySem PySem.Spec L2
open PyProof.Rows hiding St

/-- arguments, what of the result, which classes may fly -/
abbrev SX := List D → (SV → Prop) → (Addr → Prop) → Prop
def spX (G : Wd) (S : SX) : Sp := fun vs H Q E => ∃ ds R XC, TpAll G.K H vs ds ∧ S ds R XC ∧ (∀ r v H', R r → Same H H' → Val G H H' v r → Q v H') ∧ ∀ C H', XC C → Same H H' → E (.ref C) Option.none H'
def finX (R : SV → Prop) (XC : Addr → Prop) : Out → Prop
  | .rt r => R r
  | .nx _ => R (.dat .none)
  | .xc C => XC C
theorem takes0N {X : Cx} : L2N.Takes X (fun _ _ _ _ => False) := fun _ _ x => by
  obtain ⟨_, _, _, _, _, _, _, _, _, _, _, _, _, _, _, _, z⟩ := x
  exact z.elim
structure DefOkX (P : Program) (w : World) (K : PySem.W.Frag) (mg : Str → Option Value) (base : Heap) (k : Nat) (x : Str) (ps : List Str) (S : SX) : Prop where
  ex : ∃ f fd, FnOk P w K mg base (L2N.CX P w) k f fd ps (spX ⟨P, w, K⟩ S) ∧ mg x = some (.ref f) ∧ PySem.W.keepIn K (.ref f) = true ∧ Binds K fd ps []
section
variable {P : Program} {w : World} {K : PySem.W.Frag} {mg : Str → Option Value} {base : Heap}
theorem def_okX {x : Str} {st : Stmt} {f : Addr} {fd : FuncData} {N ps : List Str} {k : Nat} {S : SX} {W : WS} (F : Fun K x x st f fd) (hm : mg x = some (.ref f)) (hb : Binds K fd ps []) (sc : FnScope N ps (defScope st))
    (h : ∀ (cdv : Value) (A : Around) (outer : List Env) (s : Shared) (H : Hp) (E : XK), Room k (A.deeper (envOfC x (defScope st) s.heap.objs.size f cdv)) →
      ∃ tb, JB (cxOf (L2N.CX P w) P w K mg base N x (defScope st) f cdv A outer s H E) E (defBody st) tb W)
    (hS : ∀ ds R XC, S ds R XC → ds.length = ps.length ∧ W (initSS N.length ds) (finX R XC)) : DefOkX P w K mg base (k + 1) x ps S := by
  refine ⟨f, fd, ?_, hm, F.kp, hb⟩
  obtain ⟨oc, od, kV, doc, pm, an, cdv, ct, osl, rfl, lk, hcd⟩ := F.ex
  refine fn_of lk hcd sc (fun vs H Q E hs => ?_) fun A outer s H vs Q E hr hsp => ?_
  · obtain ⟨ds, R, XC, t, h2, _⟩ := hs
    rw [t.len]
    exact (hS ds R XC h2).1
  · obtain ⟨ds, R, XC, t, hs, q, qx⟩ := hsp
    obtain ⟨tb, j⟩ := h cdv A outer s H E hr
    refine ⟨tb, j.ps, ?_⟩
    obtain ⟨A0, f0⟩ := as_start (G := ⟨P, w, K⟩) (N := N) t
    refine j.ev _ _ (hS ds R XC hs).2 H _ H _ A0 (by
      have : fz (L2.start N vs) (initSS N.length ds) H = H := f0
      rw [this]
      exact Same.refl H) fun o ho => ?_
    cases o with
    | nx ss => exact fun σ' H' _ f => q (.dat .none) .non H' ho (f.trans fz_le) .non
    | rt r => exact fun v H' f hv => q r v H' ho f hv
    | xc C => exact fun H' f => qx C H' ho f
theorem CX_false {outer : List Env} {H : Hp} {s s' : Shared} {u : Value} (c : L2N.CX P w outer H s E0 u s') : False := by
  obtain ⟨_, _, _, _, _, _, _, _, _, _, _, _, z⟩ := c
  exact z
/-- where it raises nothing -/
theorem DefOkX.calm {k : Nat} {x : Str} {ps : List Str} {S : SX} {S0 : List D → (SV → Prop) → Prop} (d : DefOkX P w K mg base k x ps S) (h : ∀ ds R, S0 ds R → S ds R fun _ => False) : DefOk P w K mg base k x ps S0 := by
  obtain ⟨f, fd, F, hm, hk, hb⟩ := d.ex
  have up : ∀ vs H Q (E : XK), spD ⟨P, w, K⟩ S0 vs H Q E → spX ⟨P, w, K⟩ S vs H Q E0 := fun vs H Q E ⟨ds, R, t, hs, q⟩ => ⟨ds, R, fun _ => False, t, h _ _ hs, q, fun _ _ z => z.elim⟩
  refine ⟨f, fd, ⟨fun vs H Q E hs => F.len vs H Q E0 (up vs H Q E hs), fun A outer s H args us vs Q E hr he hbd hv hs => ?_⟩, hm, hk, hb⟩
  refine codeAny_mono (F.run A outer s H args us vs Q E0 hr he hbd hv (up vs H Q E hs)) fun r s' hq => ?_
  cases r with
  | error e => exact (CX_false hq).elim
  | ok fl =>
    cases fl with
    | ret u => exact hq
    | next => exact False.elim hq
    | brk => exact False.elim hq
    | cont => exact False.elim hq
end

/-! ### raise C('m') -/
/-- what is known of an own exception class -/
structure ExF (K : PySem.W.Frag) (mg : Str → Option Value) (x : Str) (C : Addr) : Prop where
  g : mg x = some (.ref C)
  e : PySem.W.excIn K C [.type "ValueError", .type "Exception", .type "BaseException", .type "object"] "ValueError.__new__" = true
  k : PySem.W.keepIn K (.ref C) = true
  b : PySem.W.subIn K (.ref C) (.type "BaseException") = some true
  t : PySem.W.typeIn K (.ref C) = some (.type "type")
def wRaise (C : Addr) : WS := fun _ O => O (.xc C)
section
variable {X : Cx} {E : XK} {e : Expr} {es : List Expr} {t : TA} {Wr : WA} {p p2 pos pos2 : Pos} {x : Str}
theorem js_raise {C : Addr} {m : Str} {j : Nat} (F : ExF X.K X.mg x C) (tk : L2N.Takes X (fun cls d _ H => E cls d H)) (hc : X.calm = true := by rfl) (hg : Gl X x := by rfl) (hdb : (x == ("__debug__" : Str)) = false := by decide) :
    JS X E (.Raise (some (.Call (.Name x p) [.Constant (.str m) j p2] [] pos)) none pos2) (fun _ _ H => E (.ref C) Option.none H) (wRaise C) :=
  ⟨L2N.ps_raise (t := fun _ H Q => Q (.ref C) Option.none H) hc tk (L2N.pmk_own PySem.F.excBase_ValueError F.e F.g F.k (raises_own F.b F.t) hg hdb), fun ss O w HB σ H D A f q => q (.xc C) w H (f.trans fz_le)⟩
/-- f(..), dropped, that may raise, in a def that may raise -/
def wCX (S : SX) (Wr : WA) : WS := fun ss O => Wr ss fun ds => S ds (fun _ => O (.nx ss)) fun C => O (.xc C)
theorem js_callX {k j : Nat} {ps : List Str} {S : SX} (d : DefOkX X.prog X.w X.K X.mg X.base k x ps S) (hr : Room j X.A) (tk : L2N.Takes X (fun cls d _ H => E cls d H)) (ha : JA X (e :: es) t Wr) (hj : k ≤ j := by decide) (hg : Gl X x := by rfl)
    (hdb : (x == ("__debug__" : Str)) = false := by decide) (he : starEach (e :: es) X.env = (false, eval e X.env) :: starEach es X.env := by rfl) (hpl : (backTo pos (starEach es X.env)).any (·.1) = false := by rfl)
    (hs : swapsWith (.Call (.Name x p) (e :: es) [] pos) none pos2.line X.env = pure false := by rfl) :
    JS X E (.Expr (.Call (.Name x p) (e :: es) [] pos) pos2) (tDrop (tCall (spX (gd X) S) [] E t)) (wCX S Wr) := by
  obtain ⟨f, fd, F, hm, hk, hb⟩ := d.ex
  refine ⟨ps_expr (pe_call F (hr.mono hj) hg hm hk hb .nil (L2N.passes_call tk fun _ _ _ _ h => h) ha.pa hdb he hpl) hs, fun ss O w HB σ H D A f q => ?_⟩
  refine ha.ev ss _ w σ H A _ fun ds vs H1 hds s1 t1 => ?_
  rw [List.append_nil]
  refine ⟨ds, _, _, t1, hds, fun r v H' hr s2 hv => ?_, fun C H' hC s2 => ?_⟩
  · have s12 := s1.trans s2
    exact q (.nx ss) hr σ H' (A.same s12) (f.trans (fz_same s12))
  · exact q (.xc C) hC H' (f.trans (fz_le.trans (s1.trans s2)))
end

/-! ### the body of a try -/
structure RX (X : Cx) (body : List Stmt) (tb : WX → TS) (Wb : WS) : Prop where
  ps : ∀ (W : WX) (pn : List (Addr × Obj)) (xe : Value → Shared → Prop), L2N.Takes (X.tr pn xe) W → PSs (X.tr pn xe) body (tb W)
  ev : ∀ ss O, Wb ss O → ∀ HB σ H D (W : WX), AS (gd X) σ H ss → Same HB (fz σ ss H) → (∀ ss', O (.nx ss') → PostOut (gd X) HB E0 D (.nx ss')) → (∀ r, O (.rt r) → PostOut (gd X) HB E0 D (.rt r)) →
    (∀ C, O (.xc C) → ∀ H', AS (gd X) σ H' ss → Same HB (fz σ ss H') → W (.ref C) Option.none σ H') → tb W D σ H
section
variable {X : Cx} {e c : Expr} {es : List Expr} {t : TA} {Wr : WA} {p p2 pos pos2 : Pos} {x : Str}
theorem rx_call {k j : Nat} {ps : List Str} {S : SX} (d : DefOkX X.prog X.w X.K X.mg X.base k x ps S) (hr : Room j X.A) (ha : ∀ pn xe, JA (X.tr pn xe) (e :: es) t Wr) (hj : k ≤ j := by decide) (hg : Gl X x := by rfl)
    (hdb : (x == ("__debug__" : Str)) = false := by decide) (he : starEach (e :: es) X.env = (false, eval e X.env) :: starEach es X.env := by rfl) (hpl : (backTo pos (starEach es X.env)).any (·.1) = false := by rfl)
    (hs : swapsWith (.Call (.Name x p) (e :: es) [] pos) none pos2.line X.env = pure false := by rfl) :
    RX X [.Expr (.Call (.Name x p) (e :: es) [] pos) pos2] (fun W => tDrop (tCallS (spX (gd X) S) (L2.WE W) t)) (wCX S Wr) := by
  obtain ⟨f, fd, F, hm, hk, hb⟩ := d.ex
  refine ⟨fun W pn xe tk => pss_one (ps_expr (pe_callS (X := X.tr pn xe) F (hr.mono hj) hg hm hk hb (fun σ => L2N.passAt tk σ) (ha pn xe).pa hdb he hpl) hs), fun ss O w HB σ H D W A f qn _ qx => ?_⟩
  refine (ha [] fun _ _ => False).ev ss _ w σ H A _ fun ds vs H1 hds s1 t1 => ?_
  refine ⟨ds, _, _, t1, hds, fun r v H' hr s2 hv => ?_, fun C H' hC s2 => ?_⟩
  · have s12 := s1.trans s2
    exact qn ss hr σ H' (A.same s12) (f.trans (fz_same s12))
  · have s12 := s1.trans s2
    exact qx C hC H' (A.same s12) (f.trans (fz_same s12))
theorem rx_if {tc : TT} {Wc : WE} {body orelse : List Stmt} {ta tb : WX → TS} {Wa Wb : WS} (hc : ∀ pn xe, JT (X.tr pn xe) c tc Wc) (ha : RX X body ta Wa) (hb : RX X orelse tb Wb) : RX X [.If c body orelse pos] (fun W => tIfS tc (ta W) (tb W)) (wIf Wc Wa Wb) := by
  refine ⟨fun W pn xe tk => pss_one (ps_if (hc pn xe).pt (ha.ps W pn xe tk) (hb.ps W pn xe tk)), fun ss O w HB σ H D W A f qn qr qx => ?_⟩
  refine (hc [] fun _ _ => False).ev ss _ w σ H A _ fun k H1 hk s1 => ?_
  have f1 := f.trans (fz_same (σ := σ) (ss := ss) s1)
  cases k with
  | true =>
    rw [if_pos rfl] at hk ⊢
    exact ha.ev ss O hk HB σ H1 D W (A.same s1) f1 qn qr qx
  | false =>
    rw [if_neg (by decide)] at hk ⊢
    exact hb.ev ss O hk HB σ H1 D W (A.same s1) f1 qn qr qx
end

/-! ### the suite -/
/-- under a condition -/
theorem pss_when {X : Cx} {st : List Stmt} {t : TS} {p : Prop} (h : p → PSs X st t) : PSs X st (fun D σ H => p ∧ t D σ H) :=
  ⟨fun pins s σ H D I hw => (h hw.1).run pins s σ H D I hw.2⟩
/-- an expression of the suite that tells a bool -/
structure JH (X : Cx) (a : Addr) (i : Nat) (e : Expr) (te : TE) (b : Bool) : Prop where
  pe : PE X e te
  ev : ∀ (σ : St) (H : Hp) (Q : VK), σ[i]? = some (some (.ref a)) → Q (.bl b) H → te σ H Q
def tIsE (K : PySem.W.Frag) (D a : Addr) (i : Nat) (c : V) : TE := tCB (rIsE K D a) (tCons (tVar i) (tCons (tC c) tNil))
section
variable {X : Cx} {a D : Addr} {oe : Obj} {pn : List (Addr × Obj)} {x y : Str} {i : Nat} {p p1 p2 pos : Pos}
theorem jh_is {c : V} {cv : Value} {b : Bool} (C : ExcC X.K D) (hz : Zc (.ref D) none oe) (hf : ∃ vs, oe.data = .fields vs) (hg : Gl X "isinstance") (hm : X.mg "isinstance" = Option.none) (hx : X.N[i]? = some x) (hv : Vis X.env.scope x)
    (hc : PE (X.suite a ((a, oe) :: pn)) (.Name y p2) (tC c)) (hcv : ∀ u, RelV c u → u = cv) (hk : PySem.W.kitOne X.K (.ref D) cv = some b) (hd : (x == ("__debug__" : Str)) = false := by decide) (hcd : (x == ("__classdict__" : Str)) = false := by decide)
    (he : starEach [.Name x p1, .Name y p2] X.env = (false, eval (.Name x p1) X.env) :: starEach [.Name y p2] X.env := by rfl) (he2 : starEach [.Name y p2] X.env = (false, eval (.Name y p2) X.env) :: starEach [] X.env := by rfl)
    (hpl : (backTo pos (starEach [.Name y p2] X.env)).any (·.1) = false := by rfl) :
    JH (X.suite a ((a, oe) :: pn)) a i (.Call (.Name "isinstance" p) [.Name x p1, .Name y p2] [] pos) (tIsE X.K D a i c) b := by
  refine ⟨pe_callB (X := X.suite a ((a, oe) :: pn)) (call_isE C hz hf) hg hm boot_isinstance (pa_cons (X := X.suite a ((a, oe) :: pn)) (pe_var hx hv hd hcd) (pa_cons (X := X.suite a ((a, oe) :: pn)) hc pa_nil he2) he) (by decide) (by decide) he hpl, fun σ H Q e q => ?_⟩
  exact ⟨_, e, c, cv, b, rfl, hcv, hk, q⟩
end
def tSuite (K : PySem.W.Frag) (j : Nat) (t1 t2 t3 t4 t5 : TE) : TS := tSeq (tAsg (tLst (tCons t1 (tCons t2 (tCons t3 tNil)))) (gName j)) (tRet (tAndV t4 (tAndV t5 (tNotV (tCB (rAny K) (tCons (tVar j) tNil))))))
section
variable {X : Cx} {a : Addr} {i j : Nat} {e1 e2 e3 e4 e5 : Expr} {t1 t2 t3 t4 t5 : TE} {n : Str} {p1 p2 p3 p4 p5 p6 p7 p8 p9 : Pos}
theorem pss_suite (hot : L2H.HotC X) (hN : X.N.Nodup) (hj : X.N[j]? = some n) (hl : Loc X.env.scope n) (hv : Vis X.env.scope n) (hg : Gl X "any") (hm : X.mg "any" = Option.none) (h1 : JH X a i e1 t1 false) (h2 : JH X a i e2 t2 false) (h3 : JH X a i e3 t3 false) (h4 : JH X a i e4 t4 true) (h5 : JH X a i e5 t5 true)
    (hf : X.fn n = true ∨ X.env.scope.names.lookup n = some .local)
    (hs : swapsWith (.List [e1, e2, e3] p2) (some (.Name n p1)) p3.line X.env = pure false := by rfl) (hd : (n == ("__debug__" : Str)) = false := by decide) (hcd : (n == ("__classdict__" : Str)) = false := by decide)
    (na1 : starEach [e1, e2, e3] X.env = (false, eval e1 X.env) :: starEach [e2, e3] X.env := by rfl) (na2 : starEach [e2, e3] X.env = (false, eval e2 X.env) :: starEach [e3] X.env := by rfl) (na3 : starEach [e3] X.env = (false, eval e3 X.env) :: starEach [] X.env := by rfl) :
    PSs X [.Assign [.Name n p1] (.List [e1, e2, e3] p2) p3, .Return (some (.BoolOp .And [e4, e5, .UnaryOp .Not (.Call (.Name "any" p4) [.Name n p5] [] p6) p7] p8)) p9] (tSuite X.K j t1 t2 t3 t4 t5) :=
  pss_cons (ps_set hN hj hl (pe_lst (pa_cons h1.pe (pa_cons h2.pe (pa_cons h3.pe pa_nil na3) na2) na1)) hs hf)
    (pss_one (ps_ret (pe_and h4.pe (pe_and h5.pe (pe_one (pe_not (pe_callB (cr_anyH hot) hg hm (by decide +kernel) (pa_cons (pe_var hj hv hd hcd) pa_nil))))))))
theorem tSuite_go {K : PySem.W.Frag} (h1 : JH X a i e1 t1 false) (h2 : JH X a i e2 t2 false) (h3 : JH X a i e3 t3 false) (h4 : JH X a i e4 t4 true) (h5 : JH X a i e5 t5 true) {σ : St} {H : Hp} {D : Ends} (hi : σ[i]? = some (some (.ref a))) (hij : i ≠ j) (hj : j < σ.length)
    (q : ∀ v H', Same H H' → v = .bl true → D.rt v H') : tSuite K j t1 t2 t3 t4 t5 D σ H := by
  refine h1.ev _ _ _ hi (h2.ev _ _ _ hi (h3.ev _ _ _ hi ⟨by show 3 ≤ sizeLine; rw [sizeLine_eq]; omega, fun p hp => ?_⟩))
  have hi' : (σ.set j (some (.ref p)))[i]? = some (some (.ref a)) := by rw [List.getElem?_set_ne (Ne.symm hij)]; exact hi
  have hj' : (σ.set j (some (.ref p)))[j]? = some (some (.ref p)) := List.getElem?_set_self hj
  refine h4.ev _ _ _ hi' ⟨true, rfl, ?_⟩
  rw [if_pos rfl]
  refine h5.ev _ _ _ hi' ⟨true, rfl, ?_⟩
  rw [if_pos rfl]
  exact ⟨_, hj', p, [false, false, false], rfl, .inl (.inl upd_same), false, rfl, q _ _ (same_new hp) rfl⟩
end

/-! ### try .. except C as e -/
def wTry (len : Nat) (C : Addr) (dr : D) (Wb : WS) : WS := fun ss O => ss.length = len ∧ Wb ss fun o => match o with
  | .nx ss' => O (.nx ss')
  | .rt r => O (.rt r)
  | .xc C' => C' = C ∧ O (.rt (.dat dr))
section
variable {X : Cx} {E : XK} {x n : Str} {i len : Nat} {body suite : List Stmt} {b₀ : Stmt} {np pos pos' : Pos} {tb : WX → TS} {ts : Addr → TS} {C cN : Addr} {dr : D} {Wb : WS}
theorem js_try (hs : X.stack = X.env :: X.outer) (hf : X.env.frame = some X.env.locals) (hN : X.N.Nodup) (hi : X.N[i]? = some n) (hln : X.env.kindOf n = some .local) (hc : Names X x (.ref cN)) (hb : RX X body tb Wb) (he : PySem.W.exmOne X.K (.ref C) (.ref cN) = some true)
    (hsu : ∀ (a : Addr) (oe : Obj) (pn : List (Addr × Obj)), L2N.Zn (.ref C) none oe → (∃ vs, oe.data = .fields vs) → PSs (X.suite a ((a, oe) :: pn)) (b₀ :: suite) (ts a))
    (hev : ∀ (ss : List SV) (a : Addr) (σ : St) (H : Hp) (D : Ends), AS (gd X) σ H ss → ss.length = len → (∀ v H', Same H H' → Tp X.K H' v dr → D.rt v H') → ts a D (σ.set i (some (.ref a))) H) :
    JS X E (.Try body [.ExceptHandler (some (.Name x np)) (some n) (b₀ :: suite) pos'] [] [] pos) (fun D σ H => tb (L2.wAs X.K (.ref cN) i (fun a cls d D σ H => (cls = .ref C ∧ d = none) ∧ ts a D σ H) (fun _ _ _ _ => False) D) D σ H) (wTry len C dr Wb) := by
  refine ⟨L2N.ps_try_as hs hf hN hi hln hc takes0N (fun W pn xe tk _ => hb.ps W pn xe tk) fun a oe cls d pn hz hd => pss_when fun h => ?_, fun ss O w HB σ H D A f q => ?_⟩
  · obtain ⟨h1, h2⟩ := h
    subst h1 h2
    exact hsu a oe pn hz hd
  · obtain ⟨hl, w⟩ := w
    refine hb.ev ss _ w HB σ H D _ A f (fun ss' ho => (q (.nx ss') ho)) (fun r ho => q (.rt r) ho) fun C' hC H' A' f' => ?_
    obtain ⟨rfl, ho⟩ := hC
    refine ⟨true, he, fun _ a ha => ⟨⟨rfl, rfl⟩, hev ss a σ H' _ A' hl fun v H2 s2 t2 => ?_⟩, fun z => nomatch z⟩
    exact q _ ho v H2 (f'.trans (fz_le.trans s2)) t2
end
end Ab

set_option Elab.async false
set_option linter.all false
set_option maxRecDepth 100000
set_option maxHeartbeats 2000000
/-! Ab20: the suite of the laws' try; d.get(k, e). -/
namespace Ab
open PySem PySem.Spec L2
open PyProof.Rows hiding St

/-! ### facts of classes -/
section
variable {K : PySem.W.Frag} {D C : Addr} {b : Bool}
theorem kit_own (hc : PySem.W.isClsIn K C = true) (ht : PySem.W.typeIn K (.ref C) = some (.type "type")) (hs : PySem.W.subIn K (.ref D) (.ref C) = some b) (hd : decide (D = C) = false) : PySem.W.kitOne K (.ref D) (.ref C) = some b := by
  have hne : D ≠ C := of_decide_eq_false hd
  have e1 : ((Value.ref D == Value.ref C) = true) ↔ False := ⟨fun z => hne (Value.ref.inj (beq_iff_eq.mp z)), False.elim⟩
  have e2 : ((PySem.W.clsIn K C).isSome && PySem.W.typeIn K (.ref C) == some (.type "type")) = true := by
    rw [ht, show (PySem.W.clsIn K C).isSome = true from hc]
    rfl
  unfold PySem.W.kitOne PySem.W.kitCls
  rw [if_neg e1.mp]
  show (if ((PySem.W.clsIn K C).isSome && PySem.W.typeIn K (.ref C) == some (.type "type")) = true then PySem.W.subIn K (.ref D) (.ref C) else none) = some b
  rw [if_pos e2]
  exact hs
theorem kit_blt {T : String} (hm : PySem.W.kitMeta T = true) (hs : PySem.W.subIn K (.ref D) (.type T) = some b) : PySem.W.kitOne K (.ref D) (.type T) = some b := by
  unfold PySem.W.kitOne PySem.W.kitCls
  rw [if_neg (by intro z; exact nomatch (beq_iff_eq.mp z))]
  show (if PySem.W.kitMeta T = true then PySem.W.subIn K (.ref D) (.type T) else none) = some b
  rw [if_pos hm]
  exact hs
theorem exm_own (h1 : PySem.W.subIn K (.ref C) (.type "BaseException") = some true) (hc : PySem.W.isClsIn K C = true) (ht : PySem.W.typeIn K (.ref C) = some (.type "type")) (hs : PySem.W.subIn K (.ref D) (.ref C) = some b) : PySem.W.exmOne K (.ref D) (.ref C) = some b := by
  have e1 : (PySem.W.subIn K (.ref C) (.type "BaseException") == some true) = true := by rw [h1]; rfl
  have e2 : ((PySem.W.clsIn K C).isSome && PySem.W.typeIn K (.ref C) == some (.type "type")) = true := by
    rw [ht, show (PySem.W.clsIn K C).isSome = true from hc]
    rfl
  show (if (PySem.W.subIn K (.ref C) (.type "BaseException") == some true) = true then (if ((PySem.W.clsIn K C).isSome && PySem.W.typeIn K (.ref C) == some (.type "type")) = true then PySem.W.subIn K (.ref D) (.ref C) else none) else none) = some b
  rw [if_pos e1, if_pos e2]
  exact hs
end
/-! ### isinstance of the caught -/
structure IsF (X : Cx) (D : Addr) (y : Str) (c : V) (b : Bool) : Prop where
  pe : ∀ (a : Addr) (q : List (Addr × Obj)) (p2 : Pos), PE (X.suite a q) (.Name y p2) (tC c)
  k : ∃ cv, (∀ u, RelV c u → u = cv) ∧ PySem.W.kitOne X.K (.ref D) cv = some b
section
variable {X : Cx} {D C : Addr} {y : Str} {b : Bool}
theorem isF_own (hm : X.mg y = some (.ref C)) (k : PySem.W.kitOne X.K (.ref D) (.ref C) = some b) (hg : Gl X y := by rfl) (hd : (y == ("__debug__" : Str)) = false := by decide) : IsF X D y (.ref C) b :=
  ⟨fun a q p2 => pe_glob (X := X.suite a q) (v := .ref C) hg hm rfl hd, ⟨_, fun u h => h, k⟩⟩
theorem isF_blt {T : String} (hm : X.mg y = Option.none) (k : PySem.W.kitOne X.K (.ref D) (.type T) = some b) (hv : bootBuiltins y = some (.type T)) (hg : Gl X y := by rfl) (hd : (y == ("__debug__" : Str)) = false := by decide) (hn : y ≠ "__name__" := by decide) : IsF X D y (.ty T) b :=
  ⟨fun a q p2 => pe_bltn (X := X.suite a q) (v := .ty T) hg hm hv rfl hn hd, ⟨_, fun u h => h, k⟩⟩
theorem IsF.jh {c : V} (F : IsF X D y c b) {a : Addr} {oe : Obj} {pn : List (Addr × Obj)} {i : Nat} {x : Str} {p p1 p2 pos : Pos} (C : ExcC X.K D) (hz : Zc (.ref D) none oe) (hf : ∃ vs, oe.data = .fields vs) (hg : Gl X "isinstance") (hm : X.mg "isinstance" = Option.none) (hx : X.N[i]? = some x)
    (hv : Vis X.env.scope x) (hd : (x == ("__debug__" : Str)) = false) (hcd : (x == ("__classdict__" : Str)) = false) : JH (X.suite a ((a, oe) :: pn)) a i (.Call (.Name "isinstance" p) [.Name x p1, .Name y p2] [] pos) (tIsE X.K D a i c) b := by
  obtain ⟨cv, h1, h2⟩ := F.k
  exact jh_is (p := p) (p1 := p1) (pos := pos) C hz hf hg hm hx hv (F.pe a _ p2) h1 h2 hd hcd
theorem IsF.go {c : V} (F : IsF X D y c b) {a : Addr} {i : Nat} {σ : St} {H : Hp} {Q : VK} (e : σ[i]? = some (some (.ref a))) (q : Q (.bl b) H) : tIsE X.K D a i c σ H Q := by
  obtain ⟨cv, h1, h2⟩ := F.k
  exact ⟨_, e, c, cv, b, rfl, h1, h2, q⟩
end
section
variable {X : Cx} {E : XK} {x n m y1 y2 y3 y4 y5 : Str} {c1 c2 c3 c4 c5 : V} {i j len : Nat} {body : List Stmt} {tb : WX → TS} {C cN : Addr} {Wb : WS} {np pos pos' : Pos} {p1 p2 p3 p4 p5 p6 p7 p8 p9 a1 a2 a3 a4 b1 b2 b3 b4 d1 d2 d3 d4 e1 e2 e3 e4 f1 f2 f3 f4 : Pos}
theorem js_try5 (hs : X.stack = X.env :: X.outer) (hf : X.env.frame = some X.env.locals) (hN : X.N.Nodup) (hi : X.N[i]? = some n) (hln : X.env.kindOf n = some .local) (hc : Names X x (.ref cN)) (hb : RX X body tb Wb) (he : PySem.W.exmOne X.K (.ref C) (.ref cN) = some true) (hE : ExcC X.K C)
    (hgi : Gl X "isinstance") (hmi : X.mg "isinstance" = Option.none) (hga : Gl X "any") (hma : X.mg "any" = Option.none) (F1 : IsF X C y1 c1 false) (F2 : IsF X C y2 c2 false) (F3 : IsF X C y3 c3 false) (F4 : IsF X C y4 c4 true) (F5 : IsF X C y5 c5 true)
    (hj : X.N[j]? = some m) (hl : Loc X.env.scope m) (hv : Vis X.env.scope m) (hvn : Vis X.env.scope n) (hff : X.fn m = true ∨ X.env.scope.names.lookup m = some .local) (hij : i ≠ j) (hil : i < len) (hjl : j < len)
    (hd : (n == ("__debug__" : Str)) = false) (hcd : (n == ("__classdict__" : Str)) = false) (hd' : (m == ("__debug__" : Str)) = false) (hcd' : (m == ("__classdict__" : Str)) = false)
    (hsw : swapsWith (.List [.Call (.Name "isinstance" a1) [.Name n a2, .Name y1 a3] [] a4, .Call (.Name "isinstance" b1) [.Name n b2, .Name y2 b3] [] b4, .Call (.Name "isinstance" d1) [.Name n d2, .Name y3 d3] [] d4] p2) (some (.Name m p1)) p3.line X.env = pure false) :
    JS X E (.Try body [.ExceptHandler (some (.Name x np)) (some n)
      [.Assign [.Name m p1] (.List [.Call (.Name "isinstance" a1) [.Name n a2, .Name y1 a3] [] a4, .Call (.Name "isinstance" b1) [.Name n b2, .Name y2 b3] [] b4, .Call (.Name "isinstance" d1) [.Name n d2, .Name y3 d3] [] d4] p2) p3,
       .Return (some (.BoolOp .And [.Call (.Name "isinstance" e1) [.Name n e2, .Name y4 e3] [] e4, .Call (.Name "isinstance" f1) [.Name n f2, .Name y5 f3] [] f4, .UnaryOp .Not (.Call (.Name "any" p4) [.Name m p5] [] p6) p7] p8)) p9] pos'] [] [] pos)
      (fun D σ H => tb (L2.wAs X.K (.ref cN) i (fun a cls d D σ H => (cls = .ref C ∧ d = none) ∧ tSuite X.K j (tIsE X.K C a i c1) (tIsE X.K C a i c2) (tIsE X.K C a i c3) (tIsE X.K C a i c4) (tIsE X.K C a i c5) D σ H) (fun _ _ _ _ => False) D) D σ H)
      (wTry len C (.bool true) Wb) := by
  have hsu : ∀ (a : Addr) (oe : Obj) (pn : List (Addr × Obj)), L2N.Zn (.ref C) none oe → (∃ vs, oe.data = .fields vs) → PSs (X.suite a ((a, oe) :: pn)) [.Assign [.Name m p1] (.List [.Call (.Name "isinstance" a1) [.Name n a2, .Name y1 a3] [] a4, .Call (.Name "isinstance" b1) [.Name n b2, .Name y2 b3] [] b4, .Call (.Name "isinstance" d1) [.Name n d2, .Name y3 d3] [] d4] p2) p3,
       .Return (some (.BoolOp .And [.Call (.Name "isinstance" e1) [.Name n e2, .Name y4 e3] [] e4, .Call (.Name "isinstance" f1) [.Name n f2, .Name y5 f3] [] f4, .UnaryOp .Not (.Call (.Name "any" p4) [.Name m p5] [] p6) p7] p8)) p9]
      (tSuite X.K j (tIsE X.K C a i c1) (tIsE X.K C a i c2) (tIsE X.K C a i c3) (tIsE X.K C a i c4) (tIsE X.K C a i c5)) := fun a oe pn hz hdd => by
    obtain ⟨vs, hvs⟩ := hdd
    exact pss_suite (X := X.suite a ((a, oe) :: pn)) ⟨(a, oe), ⟨rfl, vs, hvs, hz.2.2 vs hvs⟩, List.mem_cons_self⟩ hN hj hl hv hga hma (F1.jh hE hz.zc ⟨vs, hvs⟩ hgi hmi hi hvn hd hcd) (F2.jh hE hz.zc ⟨vs, hvs⟩ hgi hmi hi hvn hd hcd) (F3.jh hE hz.zc ⟨vs, hvs⟩ hgi hmi hi hvn hd hcd)
      (F4.jh hE hz.zc ⟨vs, hvs⟩ hgi hmi hi hvn hd hcd) (F5.jh hE hz.zc ⟨vs, hvs⟩ hgi hmi hi hvn hd hcd) hff hsw hd' hcd'
  exact js_try (E := E) (pos := pos) (pos' := pos') (np := np) (C := C) (dr := .bool true) hs hf hN hi hln hc hb he hsu fun ss a σ H D A hl q => by
    have hls : σ.length = ss.length := A.len
    have hi2 : (σ.set i (some (.ref a)))[i]? = some (some (.ref a)) := List.getElem?_set_self (by omega)
    have hjj : j < (σ.set i (some (.ref a))).length := by rw [List.length_set]; omega
    refine F1.go hi2 (F2.go hi2 (F3.go hi2 ⟨by show 3 ≤ sizeLine; rw [sizeLine_eq]; omega, fun p hp => ?_⟩))
    have hi' : ((σ.set i (some (.ref a))).set j (some (.ref p)))[i]? = some (some (.ref a)) := by rw [List.getElem?_set_ne (Ne.symm hij)]; exact hi2
    have hj' : ((σ.set i (some (.ref a))).set j (some (.ref p)))[j]? = some (some (.ref p)) := List.getElem?_set_self hjj
    refine F4.go hi' ⟨true, rfl, ?_⟩
    rw [if_pos rfl]
    refine F5.go hi' ⟨true, rfl, ?_⟩
    rw [if_pos rfl]
    exact ⟨_, hj', p, [false, false, false], rfl, .inl (.inl upd_same), false, rfl, q _ _ (same_new hp) (.bl true)⟩
end

/-! ### d.get(k, e), d a name -/
def tDG3 (P : Program) (w : World) (j : Nat) (ty td : TE) : TE := fun σ H Q => ∃ (a : Addr) (L : List (List Int × Addr × Value)), σ[j]? = some (some (.ref a)) ∧ H a = some (DTo P w a L) ∧ KyT H L ∧ ty σ H fun y H2 => ∃ (b : Addr) (ks : List Int), y = .ref b ∧
  td σ H2 fun z H3 => ∃ v, H3 a = some (DTo P w a L) ∧ KyT H3 L ∧ TK H3 b (ks.map V.int) ∧ (∀ u, RelV z u → RelV v (((atKey L ks).map (·.2)).getD u)) ∧ Q v H3
def wDG3 (j : Nat) (Wk Wd : WE) : WE := fun ss R => match ss[j]? with
  | some (.dT kvs) => Wk ss (dd fun k => ∃ ks, k = .tuple (ks.map PyData.int) ∧ Wd ss (dd fun d => R (.dat ((gL kvs ks).getD d))))
  | _ => False
section
variable {X : Cx} {o k e : Expr} {tk te : TE} {Wk We : WE} {j : Nat} {cpos apos : Pos}
theorem je_dGet3 (hu : X.A.units + 1 < cLine) (ho : PE X o (tVar j)) (hk : JE X k tk Wk) (he : JE X e te We) (hbase : attributeBase o "get" X.env (eval o X.env) = eval o X.env := by rfl)
    (hfew : ((backTo cpos (starEach [k, e] X.env)).all (fun x => !x.1) && (backToKw cpos (keywordEach [] X.env)).all (fun x => x.1.isSome) && decide (([k, e] : List Expr).length + ([] : List Keyword).length + (if ([] : List Keyword).isEmpty then 0 else 1) < 30)) = true := by rfl)
    (hline : (apos.endLine == cpos.line) = true := by rfl) (htr : backTo cpos (starEach [k, e] X.env) = [(false, eval k X.env), (false, eval e X.env)] := by rfl) :
    JE X (.Call (.Attribute o "get" apos) [k, e] [] cpos) (tDG3 X.prog X.w j tk te) (wDG3 j Wk We) := by
  refine ⟨⟨fun pins s σ H Q I h => ?_⟩, fun ss R w σ H A Q q => ?_⟩
  · obtain ⟨a, L, es, e0, ky0, q0⟩ := h
    refine wpAny_Call_method hbase hfew hline PySem.F.plainAttrs_dict PySem.F.slot_dict_get PySem.F.type_dict_get (thn (ho.run pins s σ H (fun v H1 => v = .ref a ∧ H1 = H) I ⟨_, es, rfl, rfl⟩) fun u s1 ⟨x, H1, I1, rx, ex, e1⟩ => ?_)
    subst ex
    obtain rfl : u = Value.ref a := rx
    subst e1
    obtain ⟨z, hd, dd⟩ := dto_rd I1 e0 ky0
    refine ⟨dd.typeIs, fun b q => ?_, ?_⟩
    · cases q
      obtain ⟨ob, _, _, h1, h2, _⟩ := dd
      exact ⟨ob, h1, h2.2.1⟩
    rw [htr]
    refine Calls.callWith_builtin rfl (Calls.evalArgs_plain (Calls.spliced_cons (thn (hk.pe.run pins s1 σ H1 _ I1 q0) fun iv s2 ⟨y, H2, I2, ry, b, ks, ey, q1⟩ => Calls.spliced_cons (thn (he.pe.run pins s2 σ H2 _ I2 q1) fun dv s3 ⟨z2, H3, I3, rz, v, e3, ky3, tkk, rv, q2⟩ => Calls.spliced_nil ?_))))
    subst ey
    obtain rfl : iv = Value.ref b := ry
    obtain ⟨z3, hd3, dd3⟩ := dto_rd I3 e3 ky3
    exact call_meetsIn PySem.F.slot_dict_get dd3.typeIs PySem.F.entry_dict_get (PySem.F.args_dict_get_3 _ _ _) (meetsH_dict_get_default (tupleKind (PySem.intKind X.prog X.w)) a b hd3 dv) ⟨tupleKind_room_in1 hu, ks, L, keyI_of I3 tkk, dd3, v, H3, I3.tok _, rv _ rz, q2⟩
  · unfold wDG3 at w
    cases hs : ss[j]? with
    | none => rw [hs] at w; cases w
    | some s =>
      rw [hs] at w
      cases s with
      | dT kvs =>
        obtain ⟨p, L, e1, hp, kv⟩ := A.slot j _ hs
        refine ⟨p, L, e1, hp, kv.ky, ?_⟩
        refine (hk.ev ss _ w).use A fun kd y H2 hk2 s2 t2 => ?_
        obtain ⟨ks, rfl, h2⟩ := hk2
        obtain ⟨b, rfl, tkk⟩ := key_tp t2
        refine ⟨b, ks, rfl, ?_⟩
        refine (he.ev ss _ h2).use (A.same s2) fun d z H3 hr s3 t3 => ?_
        have s23 := s2.trans s3
        have kv3 := kv.kt (kt_of_same s23)
        rcases kv3.val ks with ⟨e1, e2⟩ | ⟨d', p', v, e1, e2, rv, tv, nv⟩
        · refine ⟨z, s23 _ _ hp, kv3.ky, tkk.same s3, fun u ru => by rw [e2]; exact ru, q _ _ H3 hr s23 ?_⟩
          rw [e1]
          exact t3
        · refine ⟨v, s23 _ _ hp, kv3.ky, tkk.same s3, fun u ru => by rw [e2]; exact rv, q _ _ H3 hr s23 ?_⟩
          rw [e1]
          exact tv
      | _ => exact False.elim w
end
end Ab

set_option Elab.async false
set_option linter.all false
set_option maxRecDepth 100000
set_option maxHeartbeats 2000000
/-! Ab21: zip of a list and a tuple, of two lists, of two tuples. -/
namespace RZ
open PySem
open PySem.Sem (wp)
section
variable {prog : Program} {w : World} {A : Around} {E : Value → Shared → Prop} {s : Shared}
theorem zipM_next_item {z TI TO i1 i2 l1 l2 : Addr} {k1 k2 : Nat} {xs ys : Array Value} {x y a b : Value} {Q : Value → Shared → Prop} (D : ZipApart z TI TO i1 i2 l1 l2)
    (hz : IsZip s.heap z TI TO .none) (hTI : IsPair s.heap TI (.ref i1) (.ref i2)) (hTO : IsPair s.heap TO a b)
    (h1 : s.heap.IsListIter i1 l1 k1) (h2 : s.heap.IsTupleIter i2 l2 k2) (hl1 : s.heap.IsList l1 xs) (hl2 : s.heap.IsTuple l2 ys) (hx : xs[k1]? = some x) (hy : ys[k2]? = some y)
    (hQ : ∀ h', IsZip h' z TI TO (rawInt s.heap.objs.size) → IsPair h' TO x y → h'.IsListIter i1 l1 (k1 + 1) → h'.IsTupleIter i2 l2 (k2 + 1) → IsPair h' s.heap.objs.size x y → h'.objs.size = s.heap.objs.size + 1 →
      (∀ c o, c ≠ z → c ≠ TO → c ≠ i1 → c ≠ i2 → s.heap.get? c = some o → h'.get? c = some o) → Q (.ref s.heap.objs.size) { s with heap := h' }) :
    wpAny (model prog w) A (Builtin.«zip.__next__» ⟨[.ref z], []⟩) (fun fin s' => ∃ v, fin = .done (.ret v) ∧ Q v s') E s := by
  show wpAny _ _ (field (.ref z) 2 >>= _) _ _ _
  refine wpAny_bind (wpAny_field hz rfl (x := .bool false) rfl ?_)
  show wpAny _ _ (field (.ref z) 3 >>= _) _ _ _
  refine wpAny_bind (wpAny_field hz rfl (x := .ref TI) rfl ?_)
  refine wpAny_bind (wpAny_seqItems hTI rfl ?_)
  show wpAny _ _ (Builtin.SmallTypes.ownedTupleIsFree (.ref z) >>= _) _ _ _
  refine wpAny_bind ?_
  unfold Builtin.SmallTypes.ownedTupleIsFree
  refine wpAny_bind (wpAny_field hz rfl (x := .none) rfl (wpAny_pure ?_))
  simp only [if_true]
  refine wpAny_bind (wpAny_rule ?_)
  refine wpAny_bind (wpAny_field hz rfl (x := .ref TO) rfl ?_)
  refine wpAny_bind (wpAny_setField_rec hz (by simp) fun h₁ hz₁ hs₁ => ?_)
  replace hz₁ : IsZip h₁ z TI TO .ellipsis := hz₁
  refine wpAny_bind ?_
  simp only [List.zipIdx_cons, List.zipIdx_nil, List.forIn_cons, List.forIn_nil]

  refine wpAny_bind (wpAny_bind (wpAny_onRaise ?_))
  show wpAny _ _ (Builtin.SmallTypes.nextOf (.ref i1) >>= _) _ _ _
  refine wpAny_bind (wpAny_nextOf_list_item (h1.extBut hs₁.extBut D.i1z) (hl1.extBut hs₁.extBut D.l1z) hx fun h₂ h1₂ hs₂ => wpAny_pure ?_)
  have hTO₂ : IsPair h₂ TO a b := hs₂.extBut _ _ D.TOi1 (hs₁.extBut _ _ D.TOz hTO)
  refine wpAny_bind (wpAny_seqItems hTO₂ rfl ?_)
  refine wpAny_bind (wpAny_updateSeq_pair hTO₂ fun h₃ hTO₃ hs₃ => ?_)
  replace hTO₃ : IsPair h₃ TO x b := hTO₃
  refine wpAny_bind (wpAny_letGo (wpAny_pure ?_))

  refine wpAny_bind (wpAny_bind (wpAny_onRaise ?_))
  show wpAny _ _ (Builtin.SmallTypes.nextOf (.ref i2) >>= _) _ _ _
  refine wpAny_bind (RZ.nextOf_tuple_item (((h2.extBut hs₁.extBut D.i2z).extBut hs₂.extBut D.i12.symm).extBut hs₃.extBut D.TOi2.symm)
    (((hl2.extBut hs₁.extBut D.l2z).extBut hs₂.extBut D.l2i1).extBut hs₃.extBut D.l2TO) hy fun h₄ h2₄ hs₄ => wpAny_pure ?_)
  have hTO₄ : IsPair h₄ TO x b := hs₄.extBut _ _ D.TOi2 hTO₃
  refine wpAny_bind (wpAny_seqItems hTO₄ rfl ?_)
  refine wpAny_bind (wpAny_updateSeq_pair hTO₄ fun h₅ hTO₅ hs₅ => ?_)
  replace hTO₅ : IsPair h₅ TO x y := hTO₅
  refine wpAny_bind (wpAny_letGo (wpAny_pure (wpAny_pure ?_)))

  refine wpAny_bind (wpAny_seqItems hTO₅ rfl ?_)
  refine wpAny_bind (wpAny_newTuple ?_)
  have hsz : h₅.objs.size = s.heap.objs.size := by rw [hs₅.1, hs₄.1, hs₃.1, hs₂.1, hs₁.1]
  have hz₅ : IsZip h₅ z TI TO .ellipsis := hs₅.extBut _ _ D.TOz.symm (hs₄.extBut _ _ D.i2z.symm (hs₃.extBut _ _ D.TOz.symm (hs₂.extBut _ _ D.i1z.symm hz₁)))
  have hk₅ : ∀ c o, c ≠ z → c ≠ TO → c ≠ i1 → c ≠ i2 → s.heap.get? c = some o → h₅.get? c = some o := fun c o c1 c2 c3 c4 e =>
    hs₅.extBut _ _ c2 (hs₄.extBut _ _ c4 (hs₃.extBut _ _ c2 (hs₂.extBut _ _ c3 (hs₁.extBut _ _ c1 e))))
  have h1₅ : h₅.IsListIter i1 l1 (k1 + 1) := ((h1₂.extBut hs₃.extBut D.TOi1.symm).extBut hs₄.extBut D.i12).extBut hs₅.extBut D.TOi1.symm
  have h2₅ : h₅.IsTupleIter i2 l2 (k2 + 1) := h2₄.extBut hs₅.extBut D.TOi2.symm
  have hzlt : z < h₅.objs.size := Heap.lt_size hz₅
  have hTOlt : TO < h₅.objs.size := Heap.lt_size hTO₅
  have hi1lt : i1 < h₅.objs.size := by obtain ⟨_, e, _⟩ := h1₅; exact Heap.lt_size e
  have hi2lt : i2 < h₅.objs.size := by obtain ⟨_, e, _⟩ := h2₅; exact Heap.lt_size e
  show wpAny _ _ (Builtin.SmallTypes.ownedTupleHandOut (.ref z) (.ref h₅.objs.size) >>= _) _ _ _
  refine wpAny_bind ?_
  unfold Builtin.SmallTypes.ownedTupleHandOut
  have hz₆ : IsZip (h₅.push { cls := .type "tuple", data := .seq #[x, y] }) z TI TO .ellipsis := Heap.get?_push_of_some _ hz₅
  refine wpAny_bind (wpAny_setField_rec hz₆ (by simp) fun h₇ hz₇ hs₇ => ?_)
  replace hz₇ : IsZip h₇ z TI TO (rawInt h₅.objs.size) := hz₇
  refine wpAny_setField_rec hz₇ (by simp) fun h₈ hz₈ hs₈ => ?_
  replace hz₈ : IsZip h₈ z TI TO (rawInt h₅.objs.size) := hz₈
  have up : ∀ c o, c ≠ z → h₅.get? c = some o → h₈.get? c = some o := fun c o c1 e => hs₈.extBut _ _ c1 (hs₇.extBut _ _ c1 (Heap.get?_push_of_some _ e))
  have hT₈ : IsPair h₈ h₅.objs.size x y := hs₈.extBut _ _ (Nat.ne_of_gt hzlt) (hs₇.extBut _ _ (Nat.ne_of_gt hzlt) (Heap.get?_push_size _ rfl))
  have hz8 : h₈.objs.size = h₅.objs.size + 1 := by rw [hs₈.1, hs₇.1, Heap.size_push]
  rw [hsz] at hz₈ hT₈ hz8
  refine wpAny_pure ⟨_, rfl, ?_⟩
  show Q (.ref h₅.objs.size) _
  rw [hsz]
  exact hQ h₈ hz₈ (up _ _ D.TOz hTO₅) (h1₅.at fun o e => up _ o D.i1z e) (h2₅.at fun o e => up _ o D.i2z e) hT₈ hz8 fun c o c1 c2 c3 c4 e => up c o c1 (hk₅ c o c1 c2 c3 c4 e)

theorem zipM_next_end {z TI TO i1 i2 l1 l2 : Addr} {k1 k2 : Nat} {xs ys : Array Value} {a b : Value} {Q : Fin → Shared → Prop} (hh : A.handled = none) (D : ZipApart z TI TO i1 i2 l1 l2)
    (hz : IsZip s.heap z TI TO .none) (hTI : IsPair s.heap TI (.ref i1) (.ref i2)) (hTO : IsPair s.heap TO a b)
    (h1 : s.heap.IsListIter i1 l1 k1) (h2 : s.heap.IsTupleIter i2 l2 k2) (hl1 : s.heap.IsList l1 xs) (hl2 : s.heap.IsTuple l2 ys) (hend : xs[k1]? = none ∨ ys[k2]? = none)
    (hE : ∀ h' e, (∀ c o, c ≠ z → c ≠ TO → c ≠ i1 → c ≠ i2 → s.heap.get? c = some o → h'.get? c = some o) → (∃ o, h'.get? e = some o ∧ o.cls = .type "StopIteration") → E (.ref e) { s with heap := h' }) :
    wpAny (model prog w) A (Builtin.«zip.__next__» ⟨[.ref z], []⟩) Q E s := by
  show wpAny _ _ (field (.ref z) 2 >>= _) _ _ _
  refine wpAny_bind (wpAny_field hz rfl (x := .bool false) rfl ?_)
  show wpAny _ _ (field (.ref z) 3 >>= _) _ _ _
  refine wpAny_bind (wpAny_field hz rfl (x := .ref TI) rfl ?_)
  refine wpAny_bind (wpAny_seqItems hTI rfl ?_)
  show wpAny _ _ (Builtin.SmallTypes.ownedTupleIsFree (.ref z) >>= _) _ _ _
  refine wpAny_bind ?_
  unfold Builtin.SmallTypes.ownedTupleIsFree
  refine wpAny_bind (wpAny_field hz rfl (x := .none) rfl (wpAny_pure ?_))
  simp only [if_true]
  refine wpAny_bind (wpAny_rule ?_)
  refine wpAny_bind (wpAny_field hz rfl (x := .ref TO) rfl ?_)
  refine wpAny_bind (wpAny_setField_rec hz (by simp) fun h₁ hz₁ hs₁ => ?_)
  replace hz₁ : IsZip h₁ z TI TO .ellipsis := hz₁
  refine wpAny_bind ?_
  simp only [List.zipIdx_cons, List.zipIdx_nil, List.forIn_cons, List.forIn_nil]
  refine wpAny_bind (wpAny_bind (wpAny_onRaise ?_))
  show wpAny _ _ (Builtin.SmallTypes.nextOf (.ref i1) >>= _) _ _ _
  cases hx : xs[k1]? with
  | none =>
    refine wpAny_bind (wpAny_nextOf_list_end hh (h1.extBut hs₁.extBut D.i1z) (hl1.extBut hs₁.extBut D.l1z) hx fun h₂ e hs₂ he => ?_)
    obtain ⟨oe, hoe, hce⟩ := he
    have hz₂ : IsZip h₂ z TI TO .ellipsis := hs₂ _ _ D.i1z.symm hz₁
    have hez : e ≠ z := fun x => by subst x; rw [hz₂] at hoe; cases hoe; simp at hce
    refine wpAny_setField_rec hz₂ (by simp) fun h₃ _ hs₃ => hE h₃ e (fun c o c1 _ c3 _ x => hs₃.extBut _ _ c1 (hs₂ _ _ c3 (hs₁.extBut _ _ c1 x))) ⟨oe, hs₃.extBut _ _ hez hoe, hce⟩
  | some x =>
    have hy : ys[k2]? = none := by rcases hend with h | h; rw [hx] at h; cases h; exact h
    refine wpAny_bind (wpAny_nextOf_list_item (h1.extBut hs₁.extBut D.i1z) (hl1.extBut hs₁.extBut D.l1z) hx fun h₂ h1₂ hs₂ => wpAny_pure ?_)
    have hTO₂ : IsPair h₂ TO a b := hs₂.extBut _ _ D.TOi1 (hs₁.extBut _ _ D.TOz hTO)
    refine wpAny_bind (wpAny_seqItems hTO₂ rfl ?_)
    refine wpAny_bind (wpAny_updateSeq_pair hTO₂ fun h₃ hTO₃ hs₃ => ?_)
    refine wpAny_bind (wpAny_letGo (wpAny_pure ?_))
    refine wpAny_bind (wpAny_bind (wpAny_onRaise ?_))
    show wpAny _ _ (Builtin.SmallTypes.nextOf (.ref i2) >>= _) _ _ _
    refine wpAny_bind (RZ.nextOf_tuple_end hh (((h2.extBut hs₁.extBut D.i2z).extBut hs₂.extBut D.i12.symm).extBut hs₃.extBut D.TOi2.symm)
      (((hl2.extBut hs₁.extBut D.l2z).extBut hs₂.extBut D.l2i1).extBut hs₃.extBut D.l2TO) hy fun h₄ e hs₄ he => ?_)
    obtain ⟨oe, hoe, hce⟩ := he
    have hz₄ : IsZip h₄ z TI TO .ellipsis := hs₄ _ _ D.i2z.symm (hs₃.extBut _ _ D.TOz.symm (hs₂.extBut _ _ D.i1z.symm hz₁))
    have hez : e ≠ z := fun x => by subst x; rw [hz₄] at hoe; cases hoe; simp at hce
    refine wpAny_setField_rec hz₄ (by simp) fun h₅ _ hs₅ => hE h₅ e (fun c o c1 c2 c3 c4 x => hs₅.extBut _ _ c1 (hs₄ _ _ c4 (hs₃.extBut _ _ c2 (hs₂.extBut _ _ c3 (hs₁.extBut _ _ c1 x))))) ⟨oe, hs₅.extBut _ _ hez hoe, hce⟩

theorem pyNext_zipM_item {z TI TO i1 i2 l1 l2 : Addr} {k1 k2 : Nat} {xs ys : Array Value} {x y a b : Value} {Q : Option Value → Shared → Prop} (D : ZipApart z TI TO i1 i2 l1 l2)
    (hz : IsZip s.heap z TI TO .none) (hTI : IsPair s.heap TI (.ref i1) (.ref i2)) (hTO : IsPair s.heap TO a b)
    (h1 : s.heap.IsListIter i1 l1 k1) (h2 : s.heap.IsTupleIter i2 l2 k2) (hl1 : s.heap.IsList l1 xs) (hl2 : s.heap.IsTuple l2 ys) (hx : xs[k1]? = some x) (hy : ys[k2]? = some y)
    (hQ : ∀ h', IsZip h' z TI TO (rawInt s.heap.objs.size) → IsPair h' TO x y → h'.IsListIter i1 l1 (k1 + 1) → h'.IsTupleIter i2 l2 (k2 + 1) → IsPair h' s.heap.objs.size x y → h'.objs.size = s.heap.objs.size + 1 →
      (∀ c o, c ≠ z → c ≠ TO → c ≠ i1 → c ≠ i2 → s.heap.get? c = some o → h'.get? c = some o) → Q (some (.ref s.heap.objs.size)) { s with heap := h' }) :
    wpAny (model prog w) A (pyNext (.ref z)) Q E s := by
  have hT : s.TypeIs (.ref z) "zip" := ⟨_, hz, rfl⟩
  unfold pyNext
  exact wpAny_bind (wpAny_attempt (wpAny_callSpecial?_slot (name := Str.ofString "__next__") hT F.slot_zip_next
    (wpAny_call_entry F.slot_zip_next hT F.entry_zip_next
      (zipM_next_item D hz hTI hTO h1 h2 hl1 hl2 hx hy fun h' a1 a2 a3 a4 a5 a6 a7 => wpAny_pure (hQ h' a1 a2 a3 a4 a5 a6 a7)) (F.args_zip_next_1 _))))

theorem pyNext_zipM_end {z TI TO i1 i2 l1 l2 : Addr} {k1 k2 : Nat} {xs ys : Array Value} {a b : Value} {Q : Option Value → Shared → Prop} (hh : A.handled = none) (D : ZipApart z TI TO i1 i2 l1 l2)
    (hz : IsZip s.heap z TI TO .none) (hTI : IsPair s.heap TI (.ref i1) (.ref i2)) (hTO : IsPair s.heap TO a b)
    (h1 : s.heap.IsListIter i1 l1 k1) (h2 : s.heap.IsTupleIter i2 l2 k2) (hl1 : s.heap.IsList l1 xs) (hl2 : s.heap.IsTuple l2 ys) (hend : xs[k1]? = none ∨ ys[k2]? = none)
    (hQ : ∀ h', (∀ c o, c ≠ z → c ≠ TO → c ≠ i1 → c ≠ i2 → s.heap.get? c = some o → h'.get? c = some o) → Q none { s with heap := h' }) : wpAny (model prog w) A (pyNext (.ref z)) Q E s := by
  have hT : s.TypeIs (.ref z) "zip" := ⟨_, hz, rfl⟩
  unfold pyNext
  refine wpAny_bind (wpAny_attempt (wpAny_callSpecial?_slot (name := Str.ofString "__next__") hT F.slot_zip_next
    (wpAny_call_entry F.slot_zip_next hT F.entry_zip_next (zipM_next_end hh D hz hTI hTO h1 h2 hl1 hl2 hend fun h' e hk he => ?_) (F.args_zip_next_1 _))))
  obtain ⟨o, ho, hc⟩ := he
  refine wpAny_bind (wpAny_isInstance (T := "StopIteration") (b := true) ⟨o, ho, hc⟩ isSubtype_stop ?_)
  exact wpAny_pure (hQ _ hk)
end
abbrev zipMH1 (h : Heap) (l1 : Addr) : Heap := h.push { cls := .type "list_iterator", data := .fields #[.ref l1, .int 0 0] }
abbrev zipMH2 (h : Heap) (l1 l2 : Addr) : Heap := (zipMH1 h l1).push { cls := .type "tuple_iterator", data := .fields #[.ref l2, .int 0 0] }
abbrev zipMH3 (h : Heap) (l1 l2 : Addr) : Heap := (zipMH2 h l1 l2).push { cls := .type "tuple", data := .seq #[.ref h.objs.size, .ref (zipMH1 h l1).objs.size] }
abbrev zipMH4 (h : Heap) (l1 l2 : Addr) : Heap := (zipMH3 h l1 l2).push { cls := .type "tuple", data := .seq #[.none, .none] }
abbrev zipMH5 (h : Heap) (l1 l2 : Addr) : Heap := (zipMH4 h l1 l2).push { cls := .type "zip", data := .fields #[.none, .bool false, .bool false, .ref (zipMH2 h l1 l2).objs.size, .ref (zipMH3 h l1 l2).objs.size] }

theorem meets_zipM_new (l1 l2 : Addr) (xs ys : Array Value) :
    Meets (Builtin.«zip.__new__» ⟨[.type "zip", .ref l1, .ref l2], []⟩) (fun _ R s => s.heap.IsList l1 xs ∧ s.heap.IsTuple l2 ys ∧
      R (.ok (.ret (.ref (zipMH4 s.heap l1 l2).objs.size))) { s with heap := zipMH5 s.heap l1 l2 }) :=
  .of_wp fun prog w A R s h => by
    obtain ⟨hp, g, d, tk, os⟩ := s; obtain ⟨hl1, hl2, h⟩ := h
    have hsub := sub_zip
    have hL1 : Heap.IsList (Shared.heap ⟨hp, g, d, tk, os⟩) l1 xs := hl1
    have hL2 : Heap.IsTuple (Shared.heap ⟨hp.push { cls := .type "list_iterator", data := .fields #[.ref l1, .int 0 0] }, g, d, tk, os⟩) l2 ys := Heap.IsTuple.push hl2 _
    wp_walk using wpAny_pyIter_list hL1, wpAny_pyIter_tuple hL2
    exact ⟨_, rfl, h⟩

section
variable {prog : Program} {w : World} {A : Around} {E : Value → Shared → Prop} {s : Shared}
theorem call_zipM {l1 l2 : Addr} {xs ys : Array Value} {Q : Value → Shared → Prop} (hl1 : s.heap.IsList l1 xs) (hl2 : s.heap.IsTuple l2 ys)
    (h : ∀ h', IsZip h' (s.heap.objs.size + 4) (s.heap.objs.size + 2) (s.heap.objs.size + 3) .none → IsPair h' (s.heap.objs.size + 2) (.ref s.heap.objs.size) (.ref (s.heap.objs.size + 1)) →
      IsPair h' (s.heap.objs.size + 3) .none .none → h'.IsListIter s.heap.objs.size l1 0 → h'.IsTupleIter (s.heap.objs.size + 1) l2 0 → h'.objs.size = s.heap.objs.size + 5 →
      (∀ c o, s.heap.get? c = some o → h'.get? c = some o) → Q (.ref (s.heap.objs.size + 4)) { s with heap := h' }) :
    wpAny (model prog w) A (call (.type "zip") [.ref l1, .ref l2]) Q E s := by
  refine callType_new F.called_zip (by decide) (F.typeCall_zip_2 _ _) (F.newCall_zip_2 _ _) (fun obj => F.args_object_init_3 obj _ _) F.entry_zip_new
    (meets_zipM_new l1 l2 xs ys) ⟨hl1, hl2, ?_⟩
  have z1 : (zipMH1 s.heap l1).objs.size = s.heap.objs.size + 1 := Heap.size_push ..
  have z2 : (zipMH2 s.heap l1 l2).objs.size = s.heap.objs.size + 2 := by rw [Heap.size_push, z1]
  have z3 : (zipMH3 s.heap l1 l2).objs.size = s.heap.objs.size + 3 := by rw [Heap.size_push, z2]
  have z4 : (zipMH4 s.heap l1 l2).objs.size = s.heap.objs.size + 4 := by rw [Heap.size_push, z3]
  have z5 : (zipMH5 s.heap l1 l2).objs.size = s.heap.objs.size + 5 := by rw [Heap.size_push, z4]
  have g5 : (zipMH5 s.heap l1 l2).get? (zipMH4 s.heap l1 l2).objs.size = some _ := Heap.get?_push_size _ rfl
  have g4 : (zipMH5 s.heap l1 l2).get? (zipMH3 s.heap l1 l2).objs.size = some _ := Heap.get?_push_of_some _ (Heap.get?_push_size _ rfl)
  have g3 : (zipMH5 s.heap l1 l2).get? (zipMH2 s.heap l1 l2).objs.size = some _ := Heap.get?_push_of_some _ (Heap.get?_push_of_some _ (Heap.get?_push_size _ rfl))
  have g2 : (zipMH5 s.heap l1 l2).get? (zipMH1 s.heap l1).objs.size = some _ := Heap.get?_push_of_some _ (Heap.get?_push_of_some _ (Heap.get?_push_of_some _ (Heap.get?_push_size _ rfl)))
  have g1 : (zipMH5 s.heap l1 l2).get? s.heap.objs.size = some _ := Heap.get?_push_of_some _ (Heap.get?_push_of_some _ (Heap.get?_push_of_some _ (Heap.get?_push_of_some _ (Heap.get?_push_size _ rfl))))
  show _ ∧ _
  rw [z2, z3, z4] at g5
  rw [z1, z2] at g3
  rw [z3] at g4
  rw [z1] at g2
  rw [z4]
  exact ⟨⟨_, g5, rfl⟩, h _ g5 g3 g4 ⟨_, g1, rfl, rfl⟩ ⟨_, g2, rfl, rfl⟩ z5 fun c o x =>
    Heap.get?_push_of_some _ (Heap.get?_push_of_some _ (Heap.get?_push_of_some _ (Heap.get?_push_of_some _ (Heap.get?_push_of_some _ x))))⟩
end
end RZ
namespace RZ
open PySem PySem.Spec PyProof.Rows L2
def ItzM (K : PySem.W.Frag) (a b : Addr) : It :=
  ⟨fun i H => ∃ (xs ys : List V) (x y : V), SqL K H a xs ∧ SqT K H b ys ∧ xs[i]? = some x ∧ ys[i]? = some y,
    fun i H v H' => ∃ T x y, v = .ref T ∧ H T = none ∧ H' = upd H T (.tup [x, y]) ∧ (∀ xs, SqL K H a xs → xs[i]? = some x) ∧ ∀ ys, SqT K H b ys → ys[i]? = some y,
    fun i H => ∃ xs ys : List V, SqL K H a xs ∧ SqT K H b ys ∧ (xs.length ≤ i ∨ ys.length ≤ i)⟩
theorem turn_zipM {P : Program} {w : World} {K : PySem.W.Frag} {elts : List Expr} {kk : Nat} {tpos : Pos} {a b z TI TO i1 i2 : Addr} (D : ZipApart z TI TO i1 i2 a b) :
    Turn P w K (.Tuple elts kk tpos) (ItzM K a b) [z, TI, TO, i1, i2] z (fun i h => IsZip h z TI TO .none ∧ IsPair h TI (.ref i1) (.ref i2) ∧ (∃ x y, IsPair h TO x y) ∧ h.IsListIter i1 a i ∧ h.IsTupleIter i2 b i) where
  mem := by simp
  obj := fun i h st c hc => by
    obtain ⟨hz, hTI, ⟨x, y, hTO⟩, ⟨o1, e1, _, d1⟩, ⟨o2, e2, _, d2⟩⟩ := st
    have e' : c = z ∨ c = TI ∨ c = TO ∨ c = i1 ∨ c = i2 := by simpa using hc
    rcases e' with q | q | q | q | q
    · rw [q]; exact ⟨_, hz, fun v q => nomatch q⟩
    · rw [q]; exact ⟨_, hTI, fun v q => nomatch q⟩
    · rw [q]; exact ⟨_, hTO, fun v q => nomatch q⟩
    · rw [q]; exact ⟨o1, e1, fun v q => by rw [d1] at q; cases q⟩
    · rw [q]; exact ⟨o2, e2, fun v q => by rw [d2] at q; cases q⟩
  keep := fun i h h' st k => by
    obtain ⟨hz, hTI, ⟨x, y, hTO⟩, h1, h2⟩ := st
    exact ⟨k z (by simp) _ hz, k TI (by simp) _ hTI, ⟨x, y, k TO (by simp) _ hTO⟩, h1.at fun o q => k i1 (by simp) o q, h2.at fun o q => k i2 (by simp) o q⟩
  item := by
    intro X hP hw hK hc i pins s σ H E I hf st hg
    subst hP hw hK
    obtain ⟨hz, hTI, ⟨x0, y0, hTO⟩, h1, h2⟩ := st
    obtain ⟨xs, ys, x, y, hqx, hqy, hx, hy⟩ := hg
    obtain ⟨its, rv, p, _⟩ := I.list hqx
    obtain ⟨its2, rv2, p2, _⟩ := I.tuple hqy
    obtain ⟨u, hu, ru⟩ := rv.get hx
    obtain ⟨u2, hu2, ru2⟩ := rv2.get hy
    have hzl : z < s.heap.objs.size := Heap.lt_size hz
    refine pyNext_zipM_item D hz hTI hTO h1 h2 p.isList p2 (x := u) (y := u2) (by simpa using hu) (by simpa using hu2) fun h' z' TO' h1' h2' hT hsz hk => ?_
    refine ⟨_, rfl, wpAny_letOwnedTupleGo_zip (s := { s with heap := h' }) z' fun h'' z'' sb => ?_⟩
    have hT2 : h''.get? s.heap.objs.size = some { cls := .type "tuple", data := .seq #[u, u2] } := (sb.2 _ (Nat.ne_of_gt hzl)).trans hT
    have new : ObjOk X.prog X.w (upd H s.heap.objs.size (.tup [x, y])) h'' s.heap.objs.size (.tup [x, y]) :=
      ⟨by show 2 ≤ sizeLine; decide, [u, u2], .cons ru (.cons ru2 .nil), ⟨_, hT2, rfl, _, rfl⟩⟩
    have I1 : Inv X pins σ (upd H s.heap.objs.size (.tup [x, y])) { s with heap := h'' } :=
      I.turnedNew (t' := s.toks) (ch := [z, TI, TO, i1, i2]) (fun c o hb q => (sb.2 c (fun q' => hb (by simp [q']))).trans (hk c o (fun q' => hb (by simp [q'])) (fun q' => hb (by simp [q'])) (fun q' => hb (by simp [q'])) (fun q' => hb (by simp [q'])) q)) hf (Nat.le_refl _) new
    refine ⟨.ref s.heap.objs.size, _, I1, rfl, ⟨_, x, y, rfl, I.hok.fresh (Nat.le_refl _), rfl, fun l hl => by rw [I.list_inj hl hqx]; exact hx, fun l hl => by rw [I.tuple_inj hl hqy]; exact hy⟩, ⟨z'', ?_, ⟨u, u2, ?_⟩, ?_, ?_⟩, fun c hcm => ?_⟩
    · exact (sb.2 _ D.TIz).trans (hk _ _ D.TIz D.TITO D.TIi1 D.TIi2 hTI)
    · exact (sb.2 _ D.TOz).trans TO'
    · exact h1'.at fun o q => (sb.2 _ D.i1z).trans q
    · exact h2'.at fun o q => (sb.2 _ D.i2z).trans q
    · have hlt : c < s.heap.objs.size := by
        have e' : c = z ∨ c = TI ∨ c = TO ∨ c = i1 ∨ c = i2 := by simpa using hcm
        rcases e' with q | q | q | q | q
        · rw [q]; exact hzl
        · rw [q]; exact Heap.lt_size hTI
        · rw [q]; exact Heap.lt_size hTO
        · rw [q]; obtain ⟨_, e1, _⟩ := h1; exact Heap.lt_size e1
        · rw [q]; obtain ⟨_, e2, _⟩ := h2; exact Heap.lt_size e2
      rw [upd_ne (Nat.ne_of_lt hlt)]
      exact (hf c hcm).1
  done := by
    intro X hP hw hK hc i pins s σ H E I hf st hg
    subst hP hw hK
    obtain ⟨hz, hTI, ⟨x0, y0, hTO⟩, h1, h2⟩ := st
    obtain ⟨xs, ys, hqx, hqy, hend⟩ := hg
    obtain ⟨its, rv, p, _⟩ := I.list hqx
    obtain ⟨its2, rv2, p2, _⟩ := I.tuple hqy
    have l1 := rv.length
    have l2 := rv2.length
    have he : its.toArray[i]? = none ∨ its2.toArray[i]? = none := by
      rcases hend with q | q
      · exact .inl (by simp; omega)
      · exact .inr (by simp; omega)
    exact pyNext_zipM_end (I.ok.hd hc) D hz hTI hTO h1 h2 p.isList p2 he fun h' hk => ⟨rfl, I.turnedL (t' := s.toks) (ch := [z, TI, TO, i1, i2]) (fun c o hb q =>
      hk c o (fun q' => hb (by simp [q'])) (fun q' => hb (by simp [q'])) (fun q' => hb (by simp [q'])) (fun q' => hb (by simp [q'])) q) hf⟩
  self := fun A i s Q E st h => wpAny_pyIter_zip st.1 h

def iZipM (K : PySem.W.Frag) (ta : TA) : TI := fun σ H R => ta σ H fun vs H1 => ∃ a b xs ys, vs = [.ref a, .ref b] ∧ ((SqL K H1 a xs ∧ SqL K H1 b ys ∧ R (Itz K a b) H1) ∨ (SqT K H1 a xs ∧ SqT K H1 b ys ∧ R (ItzT K a b) H1) ∨ (SqL K H1 a xs ∧ SqT K H1 b ys ∧ R (ItzM K a b) H1))
theorem pi_zipM {X : Cx} {e e2 : Expr} {ta : TA} {p pos tpos : Pos} {elts : List Expr} {kk : Nat} (hg : Gl X "zip") (hm : X.mg "zip" = none) (ha : PA X [e, e2] ta)
    (hs : starEach [e, e2] X.env = (false, eval e X.env) :: starEach [e2] X.env := by rfl) (hpl : (backTo pos (starEach [e2] X.env)).any (·.1) = false := by rfl) :
    PI X (.Tuple elts kk tpos) (.Call (.Name "zip" p) [e, e2] [] pos) (iZipM X.K ta) := by
  refine ⟨fun pins s σ H R I h => ?_⟩
  refine Call_ (ld_blt I hg hm PyProof.Rows.boot_zip (PyProof.Rows.callWith_type1 (thn (ha.run pos pins s σ H _ I h) fun us s1 ⟨vs, H1, I1, r1, q1⟩ => ?_) hs hpl))
  obtain ⟨a, b, xs, ys, ex, q1⟩ := q1
  subst ex
  cases r1 with
  | cons r rr =>
    cases rr with
    | cons r' rr =>
      cases rr
      cases r
      cases r'
      have fresh5 : ∀ c, c ∈ [s1.heap.objs.size + 4, s1.heap.objs.size + 2, s1.heap.objs.size + 3, s1.heap.objs.size, s1.heap.objs.size + 1] → FpOk X pins H1 c := fun c hcm => by
        have e' : c = s1.heap.objs.size + 4 ∨ c = s1.heap.objs.size + 2 ∨ c = s1.heap.objs.size + 3 ∨ c = s1.heap.objs.size ∨ c = s1.heap.objs.size + 1 := by simpa using hcm
        have hle : s1.heap.objs.size ≤ c := by
          rcases e' with z | z | z | z | z
          · rw [z]; exact Nat.le_add_right _ _
          · rw [z]; exact Nat.le_add_right _ _
          · rw [z]; exact Nat.le_add_right _ _
          · rw [z]; exact Nat.le_refl _
          · rw [z]; exact Nat.le_add_right _ _
        exact I1.fpOk hle (I1.hok.fresh hle)
      rcases q1 with ⟨hqx, hqy, q⟩ | ⟨hqx, hqy, q⟩ | ⟨hqx, hqy, q⟩
      · obtain ⟨its, rv, p1, _⟩ := I1.list hqx
        obtain ⟨its2, rv2, p2, _⟩ := I1.list hqy
        refine call_zip_2 p1.isList p2.isList fun h' hz hTI hTO h1 h2 hsz hk => wpAny_pyIter_zip hz ?_
        have I2 : Inv X pins σ H1 { s1 with heap := h' } := I1.kept (t' := s1.toks) hk
        exact ⟨s1.heap.objs.size + 4, [s1.heap.objs.size + 4, s1.heap.objs.size + 2, s1.heap.objs.size + 3, s1.heap.objs.size, s1.heap.objs.size + 1], _, _, H1, rfl, I2, turn_zip (PySem.W.ktu_apart s1.heap.objs.size a b p1.lt p2.lt), ⟨hz, hTI, ⟨_, _, hTO⟩, h1, h2⟩, fresh5, q⟩
      · obtain ⟨its, rv, p1, _⟩ := I1.tuple hqx
        obtain ⟨its2, rv2, p2, _⟩ := I1.tuple hqy
        obtain ⟨o1, ho1, _⟩ := id p1
        obtain ⟨o2, ho2, _⟩ := id p2
        refine call_zipT (show s1.heap.IsTuple a its.toArray from p1) (show s1.heap.IsTuple b its2.toArray from p2) fun h' hz hTI hTO h1 h2 hsz hk => wpAny_pyIter_zip hz ?_
        have I2 : Inv X pins σ H1 { s1 with heap := h' } := I1.kept (t' := s1.toks) hk
        exact ⟨s1.heap.objs.size + 4, [s1.heap.objs.size + 4, s1.heap.objs.size + 2, s1.heap.objs.size + 3, s1.heap.objs.size, s1.heap.objs.size + 1], _, _, H1, rfl, I2, turn_zipT (PySem.W.ktu_apart s1.heap.objs.size a b (Heap.lt_size ho1) (Heap.lt_size ho2)), ⟨hz, hTI, ⟨_, _, hTO⟩, h1, h2⟩, fresh5, q⟩
      · obtain ⟨its, rv, p1, _⟩ := I1.list hqx
        obtain ⟨its2, rv2, p2, _⟩ := I1.tuple hqy
        obtain ⟨o2, ho2, _⟩ := id p2
        refine call_zipM p1.isList (show s1.heap.IsTuple b its2.toArray from p2) fun h' hz hTI hTO h1 h2 hsz hk => wpAny_pyIter_zip hz ?_
        have I2 : Inv X pins σ H1 { s1 with heap := h' } := I1.kept (t' := s1.toks) hk
        exact ⟨s1.heap.objs.size + 4, [s1.heap.objs.size + 4, s1.heap.objs.size + 2, s1.heap.objs.size + 3, s1.heap.objs.size, s1.heap.objs.size + 1], _, _, H1, rfl, I2, turn_zipM (PySem.W.ktu_apart s1.heap.objs.size a b p1.lt (Heap.lt_size ho2)), ⟨hz, hTI, ⟨_, _, hTO⟩, h1, h2⟩, fresh5, q⟩
end RZ

set_option Elab.async false
set_option linter.all false
set_option maxRecDepth 100000
set_option maxHeartbeats 2000000
/-! Ab22: for a, b in zip(a name's list, e). -/
namespace Ab
open PySem PySem.Spec L2
open PyProof.Rows hiding St
def zips (ds es : List D) : List ID := List.zipWith ID.two ds es
theorem walk_zipM {K : PySem.W.Frag} {a b : Addr} {xs ys : List V} {n : Nat} (hn : n = min xs.length ys.length) : Walk (RZ.ItzM K a b) n (fun H => SqL K H a xs ∧ SqT K H b ys) (YPair (fun i => xs[i]?) (fun i => ys[i]?)) := by
  subst hn
  refine ⟨fun i _ hi q => ?_, fun _ q => ⟨xs, ys, q.1, q.2, by omega⟩, fun i H v H' _ q y => ?_⟩
  · have h1 : i < xs.length := by omega
    have h2 : i < ys.length := by omega
    exact ⟨xs, ys, xs[i], ys[i], q.1, q.2, by simp [h1], by simp [h2]⟩
  · obtain ⟨T, x, z, h1, h2, h3, h4, h5⟩ := y
    exact ⟨T, x, z, h1, h2, h3, h4 xs q.1, h5 ys q.2⟩
theorem iterZ {G : Wd} {J : It} {Hb : Hp} {Gp : Hp → Prop} {n : Nat} {xs ys : List V} {ds es : List D} (w : Walk J n Gp (YPair (fun i => xs[i]?) (fun i => ys[i]?))) (hG : ∀ H, Same Hb H → Gp H) (t1 : TpAll G.K Hb xs ds) (t2 : TpAll G.K Hb ys es)
    (hn : n = min ds.length es.length) : IterOk G J Hb (zips ds es) := by
  have w2 := w.mono (G' := fun H => Same Hb H) (Y' := fun i H x H' => ∃ id, (zips ds es)[i]? = some id ∧ ItemV G Hb H H' x id) hG fun i H x H' hi _ y => by
    obtain ⟨T, a, b, h1, h2, h3, h4, h5⟩ := y
    obtain ⟨d, e1, e2⟩ := t1.getV h4
    obtain ⟨e, f1, f2⟩ := t2.getV h5
    refine ⟨.two d e, ?_, T, a, b, h1, h2, h3, e2, f2⟩
    unfold zips
    rw [List.getElem?_zipWith, e1, f1]
  unfold IterOk
  rw [show (zips ds es).length = n by unfold zips; rw [List.length_zipWith, hn]]
  exact w2
def wiZip (i : Nat) (Wb : WE) : WI := fun ss R => match ss[i]? with
  | some (.lst ds) => Wb ss fun s => match s with
    | .dat (.tuple es) => noLs es = true ∧ R (some i) (zips ds es)
    | .lst es => R (some i) (zips ds es)
    | _ => False
  | some (.dat (.list ds)) => Wb ss fun s => match s with
    | .dat (.tuple es) => noLs es = true ∧ R Option.none (zips ds es)
    | .lst es => R Option.none (zips ds es)
    | _ => False
  | _ => False
section
variable {X : Cx} {a b : Expr} {tb : TE} {Wb : WE} {elts : List Expr} {kk : Nat} {p pos tpos : Pos} {i : Nat}
theorem ji_zip (hg : Gl X "zip") (hm : X.mg "zip" = Option.none) (ha : PE X a (tVar i)) (hb : JE X b tb Wb) (na : starEach [a, b] X.env = (false, eval a X.env) :: starEach [b] X.env := by rfl) (nb : starEach [b] X.env = (false, eval b X.env) :: starEach [] X.env := by rfl)
    (hpl : (backTo pos (starEach [b] X.env)).any (·.1) = false := by rfl) :
    JI X (.Tuple elts kk tpos) (.Call (.Name "zip" p) [a, b] [] pos) (RZ.iZipM X.K (tCons (tVar i) (tCons tb tNil))) (wiZip i Wb) := by
  refine ⟨RZ.pi_zipM hg hm (pa_cons ha (pa_cons hb.pe pa_nil nb) na) na hpl, fun ss R w σ H A Q q => ?_⟩
  unfold wiZip at w
  -- the second, then the walk; F: the state with the list frozen
  have go : ∀ (fr : Option Nat) (ds : List D) (v : V), σ[i]? = some (some v) → Tp X.K (fz σ (freeze ss fr) H) v (.list ds) → (Wb ss fun s => match s with
      | .dat (.tuple es) => noLs es = true ∧ R fr (zips ds es)
      | .lst es => R fr (zips ds es)
      | _ => False) → RZ.iZipM X.K (tCons (tVar i) (tCons tb tNil)) σ H Q := by
    intro fr ds v e1 t w
    cases t with
    | lst k t =>
      rename_i p1 xs
      refine ⟨_, e1, ?_⟩
      obtain ⟨A0, f0⟩ := A.freeze fr
      refine hb.ev ss _ w σ H A _ fun s u H1 hs s1 hv => ?_
      have A1 := A0.same s1
      have sF : Same (fz σ (freeze ss fr) H) (fz σ (freeze ss fr) H1) := fz_same s1
      have k1 : SqL X.K (fz σ (freeze ss fr) H1) p1 xs := sq_same sF k
      have t1 := TpAll.same sF t
      cases s with
      | dat d =>
        cases d with
        | tuple es =>
          cases hv with
          | tup kt t2 =>
            rename_i p2 ys
            have kt1 := kt_fz A1 _ _ kt
            have t2' := t2.kt (kt_fz A1) hs.1
            refine ⟨p1, p2, xs, ys, rfl, .inr (.inr ⟨sq_same fz_le k1, kt.sq, q _ H1 fr _ hs.2 s1 ?_⟩)⟩
            exact iterZ (walk_zipM (n := min xs.length ys.length) rfl) (fun H2 s2 => ⟨sq_same s2 k1, (kt1.same s2).sq⟩) t1 t2' (by rw [t1.len, t2'.len])
        | _ => exact False.elim hs
      | lst es =>
        obtain ⟨p2, ys, rfl, n, e2, t2, z⟩ := hv
        have e2' : fz σ (freeze ss fr) H1 p2 = some (.lst ys) := (new_fz A0 n).trans e2
        have k2 : SqL X.K (fz σ (freeze ss fr) H1) p2 ys := .inl (.inl e2')
        have t2' := t2.kt (kt_fz A1) z
        refine ⟨p1, p2, xs, ys, rfl, .inl ⟨sq_same fz_le k1, sq_same fz_le k2, q _ H1 fr _ hs s1 ?_⟩⟩
        exact iterZ (L2.walk_zip (n := min xs.length ys.length) rfl) (fun H2 s2 => ⟨sq_same s2 k1, sq_same s2 k2⟩) t1 t2' (by rw [t1.len, t2'.len])
      | _ => exact False.elim hs
  cases hss : ss[i]? with
  | none => rw [hss] at w; cases w
  | some s =>
    rw [hss] at w
    have hi : i < ss.length := (List.getElem?_eq_some_iff.mp hss).1
    cases s with
    | dat d =>
      cases d with
      | list ds =>
        obtain ⟨v, e1, t⟩ := A.slot i _ hss
        exact go Option.none ds v e1 t w
      | _ => cases w
    | lst ds =>
      obtain ⟨A2, f⟩ := A.freeze (some i)
      have e3 : freeze ss (some i) = ss.set i (.dat (.list ds)) := freeze_lst hss
      obtain ⟨v, e4, t4⟩ := A2.slot i (.dat (.list ds)) (by rw [e3, List.getElem?_set_self hi])
      exact go (some i) ds v e4 t4 w
    | _ => cases w
end
end Ab

set_option Elab.async false
set_option linter.all false
set_option maxRecDepth 100000
set_option maxHeartbeats 4000000
/-! Ab28: t * k, sorted(t), str(i), names of ints; [x for x in it if c] of any data; lists that are let go; defs that call themselves. -/
namespace Ab
open PySem PySem.Spec L2
open PyProof.Rows hiding St

/-! ### t * k -/
theorem tuple_mul1W (l : Addr) (items : Array Value) (n : Nat) (dd : Option Addr) (sl : Array (Option Value)) (x : Int) (u : Tok) (c0 : (decide (x < -(2 ^ 63)) || decide (x ≥ 2 ^ 63)) = false) (c1 : (items.isEmpty || x == 1) = true) :
    Meets (Builtin.«tuple.__mul__» ⟨[.ref l, .int x u], []⟩) (fun _ R s => s.heap.get? l = some { cls := .type "tuple", dict := dd, data := .seq items n, slots := sl } ∧
      R (.ok (.ret (Value.ref l))) s) :=
  .of_wp fun prog w A R s h => by
    obtain ⟨hp, g, d, tk, os⟩ := s
    obtain ⟨hl, h⟩ := h
    have f1 := AutoSeq1.idx_int
    wp_walk using wpAny_loadPart' hl
    refine wpAny_ite_false (decide_eq_false (by rw [c0]; exact Bool.false_ne_true)) ?_
    wp_walk using wpAny_loadPart' hl
    exact ⟨_, rfl, h⟩
def rRepK (K : PySem.W.Frag) : R2 := fun x y H Q => ∃ l k xs, x = .ref l ∧ y = .int k ∧ SqT K H l xs ∧ 1 ≤ k ∧ k ≤ 1000 ∧ xs.length ≤ 1000 ∧ ((xs = [] ∨ k = 1) → Q (.ref l) H) ∧ (xs ≠ [] → 2 ≤ k → ∀ p H2, H p = Option.none → NewT H p (List.replicate k.toNat xs).flatten H2 → Q (.ref p) H2)
section
variable {X : Cx}
theorem op_repK : OpR X (binaryOp .Mult) (rRepK X.K) := by
  intro pins s σ H x y v u Q I rx ry h
  obtain ⟨l, k, xs, rfl, rfl, hT, h1, h2, hz, qa, qb⟩ := h
  cases rx
  obtain ⟨t, rfl⟩ := ry
  obtain ⟨its, r, ⟨⟨cls, dd, data, sl⟩, ho, hc, n, hd⟩, hs⟩ := I.tuple hT
  simp only at hc hd
  subst hc hd
  have hle : its.length = xs.length := r.length.symm
  have hsz0 : its.toArray.size = xs.length := by rw [List.size_toArray, hle]
  have c0 : (decide (k < -(2 ^ 63)) || decide (k ≥ 2 ^ 63)) = false := by
    rw [decide_eq_false (by omega), decide_eq_false (by omega)] <;> rfl
  by_cases hsame : xs = [] ∨ k = 1
  · have c1 : (its.toArray.isEmpty || k == 1) = true := by
      rcases hsame with e | e
      · have : its = [] := List.length_eq_zero_iff.mp (by rw [hle, e]; rfl)
        rw [this]
        rfl
      · rw [e]
        simp
    exact wpAny_binaryOp_repeat_ref (T := "tuple") (U := "int") (by decide) ⟨_, ho, rfl⟩ (fun s' => typeIs_int s' k t) noFill_tuple_mul PySem.F.fills_int_mul PySem.F.slot_int_rmul repeat_tuple PySem.F.slot_int_index.lookup
      (call_meets PySem.F.slot_int_rmul (typeIs_int s k t) PySem.F.entry_int_rmul (PySem.F.args_int_rmul_2 _ _) (int_rmul_tuple k t l its.toArray n dd sl)
        ⟨ho, rfl, ⟨_, ho, rfl⟩, call_meets PySem.F.slot_tuple_mul ⟨_, ho, rfl⟩ PySem.F.entry_tuple_mul (PySem.F.args_tuple_mul_2 _ _) (tuple_mul1W l its.toArray n dd sl k t c0 c1) ⟨ho, .ref l, H, I, rfl, qa hsame⟩⟩)
  have hne : xs ≠ [] := fun e => hsame (.inl e)
  have hk2 : 2 ≤ k := by
    have : k ≠ 1 := fun e => hsame (.inr e)
    omega
  have hn : its ≠ [] := fun e => hne (by
    rw [e] at hle
    exact List.eq_nil_of_length_eq_zero hle.symm)
  have hi : its.toArray.isEmpty = false := by
    cases its with
    | nil => exact absurd rfl hn
    | cons a b => rfl
  have hm : ((its.toArray.size : Nat) : Int) * k ≤ 1000000 := by
    rw [hsz0]
    have a1 : ((xs.length : Nat) : Int) * k ≤ 1000 * k := Int.mul_le_mul_of_nonneg_right (by omega) (by omega)
    omega
  have flen : (List.replicate k.toNat its).flatten.length ≤ sizeLine := by
    rw [PyProof.Rows.lm_len_rep_flat, hle, sizeLine_eq]
    have a1 : k.toNat * xs.length ≤ 1000 * 1000 := Nat.mul_le_mul (by omega) hz
    omega
  have c1 : (its.toArray.isEmpty || k == 1) = false := by
    rw [hi, Bool.false_or]
    exact beq_eq_false_iff_ne.mpr (by omega)
  have c2 : (decide (k ≤ 0) || its.toArray.isEmpty) = false := by
    rw [hi, Bool.or_false]
    exact decide_eq_false (by omega)
  have c4 : Builtin.Tuple.tupleTooMany (((its.toArray.size : Nat) : Int) * k) = false := by
    unfold Builtin.Tuple.tupleTooMany
    rw [sizeLine_eq]
    exact decide_eq_false (by omega)
  refine wpAny_binaryOp_repeat_ref (T := "tuple") (U := "int") (by decide) ⟨_, ho, rfl⟩ (fun s' => typeIs_int s' k t) noFill_tuple_mul PySem.F.fills_int_mul PySem.F.slot_int_rmul repeat_tuple PySem.F.slot_int_index.lookup
    (call_meets PySem.F.slot_int_rmul (typeIs_int s k t) PySem.F.entry_int_rmul (PySem.F.args_int_rmul_2 _ _) (int_rmul_tuple k t l its.toArray n dd sl)
      ⟨ho, rfl, ⟨_, ho, rfl⟩, call_meets PySem.F.slot_tuple_mul ⟨_, ho, rfl⟩ PySem.F.entry_tuple_mul (PySem.F.args_tuple_mul_2 _ _) (tuple_mulW l its.toArray n dd sl k t c0 c1 c2 (by omega) c4 (by rw [size_rep, List.size_toArray]; exact flen)) ⟨ho, ?_⟩⟩)
  rw [size_rep]
  obtain ⟨H2, n2, i2⟩ := inv_tupK (xs := (List.replicate k.toNat xs).flatten) (its := (List.replicate k.toNat its).flatten) (tk := s.toks) I (by rw [PyProof.Rows.lm_len_rep_flat, sizeLine_eq]; have a1 : k.toNat * xs.length ≤ 1000 * 1000 := Nat.mul_le_mul (by omega) hz; omega) (r.rep k.toNat)
  exact ⟨.ref s.heap.objs.size, H2, i2, rfl, qb hne hk2 _ _ (inv_fresh I) n2⟩
def mulT : D → D → (SV → Prop) → Prop
  | .tuple ds, .int k, R => 1 ≤ k ∧ k ≤ 1000 ∧ ds.length ≤ 1000 ∧ R (.dat (.tuple (List.replicate k.toNat ds).flatten))
  | _, _, _ => False
theorem tpAll_rep {K : PySem.W.Frag} {H : Hp} {xs : List V} {ds : List D} (t : TpAll K H xs ds) : ∀ k : Nat, TpAll K H (List.replicate k xs).flatten (List.replicate k ds).flatten
  | 0 => .nil
  | k + 1 => by
    rw [List.replicate_succ, List.replicate_succ, List.flatten_cons, List.flatten_cons]
    exact t.append (tpAll_rep t k)
theorem jo_mulT : JO X (binaryOp .Mult) (rRepK X.K) (dop mulT) := jo_dop op_repK fun d e R w H x y hx hy Q q => by
  cases d with
  | tuple ds =>
    cases e with
    | int k =>
      obtain ⟨w1, w2, w3, w4⟩ := w
      cases hy
      cases hx with
      | tup k1 t1 =>
        have hl := t1.len
        have t2 := tpAll_rep t1 k.toNat
        refine ⟨_, k, _, rfl, rfl, k1.sq, w1, w2, by rw [hl]; exact w3, fun hs => ?_, fun _ _ p H2 n nt => ?_⟩
        · refine q _ _ H w4 (Same.refl H) ?_
          rcases hs with e | e
          · have e2 : ds = [] := List.length_eq_zero_iff.mp (by rw [← hl, e]; rfl)
            have e3 : (List.replicate k.toNat ds).flatten = [] := by
              rw [e2]
              simp
            rw [e3]
            rw [e2] at t1
            exact .tup k1 t1
          · have e3 : (List.replicate k.toNat ds).flatten = ds := by
              rw [e]
              simp
            rw [e3]
            exact .tup k1 t1
        · have s2 := nt.same n
          exact q _ _ H2 w4 s2 (.tup nt.tk (t2.same s2))
    | _ => cases w
  | _ => cases w

/-! ### sorted(t) -/
def rSortTu (K : PySem.W.Frag) : List V → Hp → VK → Prop := fun vs H Q => ∃ (a : Addr) (xs : List V) (ds : List D), vs = [V.ref a] ∧ SqT K H a xs ∧ TpAll K H xs ds ∧ SortOk ds ∧ ∀ p ys, H p = Option.none → TpAll K H ys (srt ds) → Q (.ref p) (upd H p (.lst ys))
theorem cr_sortTu {k : Nat} (hr : Room k X.A) : CallR X (.builtin "sorted") (rSortTu X.K) := by
  intro pins s σ H vs us Q I r h
  obtain ⟨a, xs, ds, rfl, hs, t, ok, q⟩ := h
  rw [Vals.ref1 r]
  have hu : X.A.in1.units + 1 + 50 < cLine := by
    have := hr.un
    show X.A.units + 1 + 1 + 50 < cLine
    omega
  obtain ⟨its, rv, ⟨o, ho, hc, n, hd⟩, hz⟩ := I.tuple hs
  refine Calls.call_function_entry PyProof.Rows.kind_sorted PyProof.Rows.plain_sorted PyProof.Rows.entry_sorted (PyProof.Rows.args_sorted1 _) ?_
  unfold Builtin.«sorted»
  refine wpAny_bind (m := checkCount "sorted" 1 1 _) (wpAny_pure ?_)
  refine wpAny_bind (wpAny_collect_seq (A := X.A.in1) a (.inr rfl) ho hc hd (fun h' hk => ?_) (by rw [List.size_toArray, ← rv.length, t.len]; exact ok.le))
  have I1 : Inv X pins σ H { s with heap := h' } := I.kept (t' := s.toks) hk
  have rv' : Vals xs its.toArray.toList := rv
  refine wpAny_bind (wpAny_newList ?_ (by rw [← rv'.length, t.len]; exact ok.le))
  refine wpAny_bind (wpAny_holding ?_)
  refine wpAny_mono (sort_new (s := { s with heap := h' }) (A := X.A.in1) I1 rv' t ok hu q) (fun _ s' x => ?_) fun _ _ e => e
  exact wpAny_pure ⟨_, rfl, x⟩
def sortedT : D → (SV → Prop) → Prop
  | .tuple ds, R => SortOk ds ∧ R (.lst (srt ds))
  | _, _ => False
theorem jc_sortedT {k : Nat} (hr : Room k X.A) : JC X (.builtin "sorted") (rSortTu X.K) (on1 sortedT) := by
  refine ⟨cr_sortTu hr, fun ds R w0 H vs t0 Q q => ?_⟩
  obtain ⟨d, rfl, w⟩ := on1_of w0
  obtain ⟨v, rfl, t⟩ := one_tp t0
  cases d with
  | tuple ds =>
    cases t with
    | tup k t => exact ⟨_, _, ds, rfl, k.sq, t, w.1, fun p ys n ty => ev_srt w.1 w.2 n ty q⟩
  | _ => exact False.elim w

/-! ### str(i) -/
def strD : D → (SV → Prop) → Prop
  | .int i, R => i.natAbs.log2 < 1920 ∧ R (.dat (.str (toString i)))
  | _, _ => False
theorem jc_str : JC X (.type "str") (fun xs H Q => ∃ i, xs = [V.int i] ∧ i.natAbs.log2 < 1920 ∧ Q (.str (toString i)) H) (on1 strD) := by
  refine ⟨call_str_int, fun ds R w0 H vs t0 Q q => ?_⟩
  obtain ⟨d, rfl, w⟩ := on1_of w0
  obtain ⟨v, rfl, t⟩ := one_tp t0
  cases d with
  | int i =>
    cases t
    exact ⟨i, rfl, w.1, q _ _ H w.2 (Same.refl H) (.str _)⟩
  | _ => exact False.elim w

/-! ### a name of an int -/
theorem je_cst {x : Str} {i : Int} {p : Pos} (h : ∃ t, X.mg x = some (.int i t)) (hg : Gl X x := by rfl) (hd : (x == ("__debug__" : Str)) = false := by decide) : JE X (.Name x p) (tC (.int i)) (wC (.int i)) := by
  obtain ⟨t, ht⟩ := h
  exact je_C (pe_glob hg ht ⟨t, rfl⟩ hd) fun _ => .int i

/-! ### a list that is let go -/
def frzO (j : Nat) (O : Out → Prop) : Out → Prop
  | .nx ss => O (.nx (freeze ss (some j)))
  | .rt r => O (.rt r)
  | .xc C => O (.xc C)
def wFrz (j : Nat) (W : WS) : WS := fun ss O => W ss (frzO j O)
theorem js_frz {E : XK} {st : Stmt} {ts : TS} {W : WS} (j : Nat) (h : JS X E st ts W) : JS X E st ts (wFrz j W) := by
  refine ⟨h.ps, fun ss O w HB σ H D A f q => h.ev ss _ w HB σ H D A f fun o ho => ?_⟩
  cases o with
  | nx ss' =>
    intro σ' H' A' f'
    obtain ⟨A2, f2⟩ := A'.freeze (some j)
    exact q _ ho σ' H' A2 (f'.trans f2)
  | rt r => exact q (.rt r) ho
  | xc C => exact q (.xc C) ho
end

/-! ### [x for x in it if c], x any data -/
def lcRunF (i : Nat) (Wt : WE) (ss0 : List SV) : List D → List D → (List D → Prop) → Prop
  | [], acc, K => K acc
  | d :: ds, acc, K => Wt (ss0.set i (.dat d)) (bb fun b => if b = true then acc.length < sizeLine ∧ lcRunF i Wt ss0 ds (acc ++ [d]) K else lcRunF i Wt ss0 ds acc K)
def wLcF (W : WI) (i : Nat) (Wt : WE) (vs : List Nat) : WE := fun ss R => W ss fun fr ids => ∃ ds, ids = ones ds ∧ lcRunF i Wt (wipeSS (freeze ss fr) vs) ds [] fun es => R (.dat (.list es))
theorem ev_lcF {G : Wd} {ss : List SV} {R : SV → Prop} {wi : TI} {tt : TT} {i : Nat} {vs : List Nat} {W : WI} {Wt : WE}
    (hi : ∀ ss R, W ss R → ∀ σ H, AS G σ H ss → ∀ Q : It → Hp → Prop, (∀ J H1 fr ids, R fr ids → Same H H1 → IterOk G J (fz σ (freeze ss fr) H1) ids → Q J H1) → wi σ H Q)
    (ht : ∀ ss R, Wt ss (bb R) → ∀ σ H, AS G σ H ss → ∀ Q : Bool → Hp → Prop, (∀ b H', R b → Same H H' → Q b H') → tt σ H Q)
    (hsl : i ∈ vs) (hil : i < ss.length) (w : wLcF W i Wt vs ss R) : EvQ G (tLc wi (gName i) tt (tVar i) vs) ss R := by
  intro σ H A Q q
  refine hi ss _ w σ H A _ fun J H1 fr ids hr s1 it D hD => ?_
  obtain ⟨ds, rfl, hr⟩ := hr
  obtain ⟨A1, f1⟩ := (A.same s1).freeze fr
  refine lc_it (vs := vs) it (fun k H' => Same H1 H' ∧ ∃ xs acc, H' D = some (.lst xs) ∧ TpAll G.K (fz σ (freeze ss fr) H1) xs acc ∧ lcRunF i Wt (wipeSS (freeze ss fr) vs) (ds.drop k) acc fun es => R (.dat (.list es)))
    ⟨same_new hD, [], [], upd_same, .nil, hr⟩ (fun i H' _ p => fz_le.trans p.1) ?_ ?_
  · rintro j x H2 H3 hlt ⟨s2, xs, acc, eD, ta, run⟩ ⟨id, hid, iv⟩
    unfold ones at hid
    rw [List.getElem?_map] at hid
    cases hdj : ds[j]? with
    | none => rw [hdj] at hid; cases hid
    | some d =>
    rw [hdj] at hid
    cases hid
    obtain ⟨rfl, tx⟩ := iv
    have hdrop : ds.drop j = d :: ds.drop (j + 1) := by
      have hl := (List.getElem?_eq_some_iff.mp hdj).1
      have e := (List.getElem?_eq_some_iff.mp hdj).2
      rw [List.drop_eq_getElem_cons hl, e]
    rw [hdrop] at run
    obtain ⟨A2, f2⟩ := (A1.same s2).wipe vs
    have fb : Same (fz σ (freeze ss fr) H1) (fz (wipe σ vs) (wipeSS (freeze ss fr) vs) H3) := (fz_same s2).trans f2
    obtain ⟨A3, f3⟩ := A2.setD (i := i) (tx.same fb)
    have hw : wipe ((wipe σ vs).set i (some x)) vs = wipe σ vs := by rw [wipe_set hsl, wipe_wipe]
    refine ⟨hw, ?_⟩
    refine ht _ _ run _ H3 A3 _ fun b H4 hb s4 => ?_
    cases b with
    | false =>
      rw [if_neg (by decide)] at hb ⊢
      exact ⟨s2.trans s4, xs, acc, s4 _ _ eD, ta, hb⟩
    | true =>
      rw [if_pos rfl] at hb ⊢
      obtain ⟨hlen, run2⟩ := hb
      have hlx : i < (wipe σ vs).length := by
        have l2 := A2.len
        have l1 := A.len
        rw [l2]
        have l3 : (wipeSS (freeze ss fr) vs).length = (wipe σ vs).length := l2.symm
        have l4 := A1.len
        have l5 : (wipe σ vs).length = σ.length := wipe_length σ vs
        omega
      refine ⟨x, by rw [List.getElem?_set_self hlx], xs, s4 _ _ eD, by rw [ta.len]; exact hlen, fun b o e => ?_, xs ++ [x], acc ++ [d], upd_same, ta.append (TpAll.one tx), run2⟩
      have hne : b ≠ D := ne_of_none e hD
      rw [upd_ne hne]
      exact s4 _ _ (s2 _ _ e)
  · rintro H2 ⟨s2, xs, acc, eD, ta, run⟩
    have hln : (ones ds).length = ds.length := List.length_map _
    rw [hln, List.drop_length] at run
    exact q (.dat (.list acc)) _ H2 run (s1.trans s2) (.lst (.inl (.inl eD)) (ta.same (fz_le.trans s2)))
theorem je_lcF {X : Cx} {tg iter : Expr} {x : Str} {px : Pos} {ifs : List Expr} {scope : Scope} {own : List (Str × Nat)} {pos : Pos} {wi : TI} {tt : BF TT} {i : Nat} {W : WI} {Wt : WE}
    (hN : X.N.Nodup) (hi : JI X tg iter wi W) (ok : BlkOk X.N X.env.scope scope own)
    (hg : ∀ (s : Shared) (H : Hp) (C : Addr) (cl : List (Str × Addr)) (fp : List Addr), PG (X.blk s H scope (compEnvC scope cl C X.env) fp) tg (gName i))
    (ht : ∀ (s : Shared) (H : Hp) (C : Addr) (cl : List (Str × Addr)) (fp : List Addr), JTs (X.blk s H scope (compEnvC scope cl C X.env) fp) ifs (tt s H C cl fp) Wt)
    (he : ∀ (s : Shared) (H : Hp) (C : Addr) (cl : List (Str × Addr)) (fp : List Addr), PE (X.blk s H scope (compEnvC scope cl C X.env) fp) (.Name x px) (tVar i))
    (hsl : i ∈ own.map (·.2) := by decide) (hc : X.calm = true := by rfl) (hs : ∀ x, foldedSetIterable iter X.env x = pure x := by intro _; rfl)
    (e2 : ∀ s H C cl fp, tt s H C cl fp = BF.at0 X tt := by intros; rfl) :
    JE X (.ListComp (.Name x px) [⟨tg, iter, ifs, 0⟩] scope pos) (tLc wi (gName i) (BF.at0 X tt) (tVar i) (own.map (·.2))) (fun ss R => i < ss.length ∧ wLcF W i Wt (own.map (·.2)) ss R) := by
  have ht' := fun s H C cl fp => e2 s H C cl fp ▸ ht s H C cl fp
  exact ⟨pe_lc hc hN hi.pi ok hg (fun s H C cl fp => (ht' s H C cl fp).pts) he hs, fun ss R w => ev_lcF (G := gd X) hi.ev (ht' X.s_0 X.H_0 0 [] []).ev hsl w.1 w.2⟩
def wLcG (W : WI) (i : Nat) (Wt : WE) (vs : List Nat) : WE := fun ss R => i < ss.length ∧ wLcF W i Wt vs ss R

/-! ### a def that calls itself -/
section
variable {P : Program} {w : World} {K : PySem.W.Frag} {mg : Str → Option Value} {base : Heap}
theorem def_none {x : Str} {st : Stmt} {f : Addr} {fd : FuncData} {ps : List Str} {k : Nat} {S : List D → (SV → Prop) → Prop} (F : Fun K x x st f fd) (hm : mg x = some (.ref f)) (hb : Binds K fd ps []) (hS : ∀ ds R, ¬ S ds R) : DefOk P w K mg base k x ps S :=
  ⟨f, fd, ⟨fun vs H Q E ⟨ds, R, _, h, _⟩ => (hS ds R h).elim, fun A outer s H args us vs Q E _ _ _ _ ⟨ds, R, _, h, _⟩ => (hS ds R h).elim⟩, hm, F.kp, hb⟩
end
end Ab

set_option Elab.async false
set_option linter.all false
set_option maxRecDepth 100000
set_option maxHeartbeats 2000000
/-! Ab29: sep.join(l); try .. except C: return True. -/
namespace Ab
open PySem PySem.Spec L2
open PyProof.Rows hiding St
section
variable {X : Cx} {o e : Expr} {to te : TE} {Wo We : WE} {apos pos : Pos}
def rJoinS (K : PySem.W.Frag) : V → List V → Hp → VK → Prop := fun x xs H Q => ∃ a p, ∃ ys : List Str, x = .str a ∧ xs = [.ref p] ∧ (SqL K H p (ys.map V.str) ∨ SqT K H p (ys.map V.str)) ∧ (ys.map (·.length)).sum + ys.length * a.length ≤ 16777216 ∧ Q (.str (Txt.join a ys)) H
theorem tpAll_strs {K : PySem.W.Frag} {H : Hp} : ∀ {ys : List Str} {xs : List V}, TpAll K H xs (ys.map PyData.str) → xs = ys.map V.str
  | [], _, h => by cases h; rfl
  | y :: ys, _, h => by
    cases h with
    | cons h1 h2 =>
      cases h1
      rw [tpAll_strs h2]
      rfl
def wJoin (Wo We : WE) : WE := fun ss R => Wo ss (dd fun d => ∃ a, d = .str a ∧ We ss (dd fun e => ∃ ys : List Str, e = .list (ys.map PyData.str) ∧ (ys.map (·.length)).sum + ys.length * a.length ≤ 16777216 ∧ R (.dat (.str (Txt.join a ys)))))
theorem je_join (ho : JE X o to Wo) (he : JE X e te We) (hs : starEach [e] X.env = [(false, eval e X.env)] := by rfl) (hbase : attributeBase o "join" X.env (eval o X.env) = eval o X.env := by rfl) (hline : (apos.endLine == pos.line) = true := by rfl) :
    JE X (.Call (.Attribute o "join" apos) [e] [] pos) (tM1 (rJoinS X.K) to te) (wJoin Wo We) := by
  refine ⟨pe_join ho.pe he.pe hs hbase hline, fun ss R w σ H A Q q => ?_⟩
  refine (ho.ev ss _ w).use A fun d v H1 hd s1 t1 => ?_
  obtain ⟨a, rfl, hd⟩ := hd
  cases t1
  refine ⟨⟨a, rfl⟩, ?_⟩
  refine (he.ev ss _ hd).use (A.same s1) fun d2 v2 H2 hd2 s2 t2 => ?_
  obtain ⟨ys, rfl, hz, hr⟩ := hd2
  cases t2 with
  | lst k t =>
    have e := tpAll_strs t
    subst e
    exact ⟨a, _, ys, rfl, rfl, .inl k, hz, q _ _ H2 hr (s1.trans s2) (.str _)⟩
end
theorem kit_self {K : PySem.W.Frag} {C : Addr} : PySem.W.kitOne K (.ref C) (.ref C) = some true := by
  unfold PySem.W.kitOne
  rw [if_pos (beq_self_eq_true _)]
/-! ### try .. except C: return True -/
def wTryP (C : Addr) (Wb : WS) : WS := fun ss O => Wb ss fun o => match o with
  | .nx ss' => O (.nx ss')
  | .rt r => O (.rt r)
  | .xc C' => C' = C ∧ O (.rt (.dat (.bool true)))
section
variable {X : Cx} {E : XK} {x : Str} {body : List Stmt} {np pos pos' p1 p2 : Pos} {j : Nat} {tb : WX → TS} {C cN : Addr} {Wb : WS}
theorem js_tryP (hs : X.stack = X.env :: X.outer) (hf : X.env.frame = some X.env.locals) (hc : Names X x (.ref cN)) (hb : RX X body tb Wb) (he : PySem.W.exmOne X.K (.ref C) (.ref cN) = some true) :
    JS X E (.Try body [.ExceptHandler (some (.Name x np)) none [.Return (some (.Constant (.bool true) j p1)) p2] pos'] [] [] pos) (fun D σ H => tb (L2.wMany X.K (fun _ _ _ _ => False) D [(.ref cN, fun _ _ _ => tRet (tC (.bl true)))]) D σ H) (wTryP C Wb) := by
  refine ⟨L2N.ps_try_many hs hf takes0N (fun W pn xe tk _ => hb.ps W pn xe tk) (.cons hc (fun a oe cls d pn _ _ => pss_one (ps_ret pe_bl)) .nil), fun ss O w HB σ H D A f q => ?_⟩
  refine hb.ev ss _ w HB σ H D _ A f (fun ss' ho => (q (.nx ss') ho)) (fun r ho => q (.rt r) ho) fun C' hC H' A' f' => ?_
  obtain ⟨rfl, ho⟩ := hC
  refine ⟨true, he, fun _ a ha => ?_, fun z => nomatch z⟩
  exact q _ ho _ H' (f'.trans fz_le) (.bl true)
end
end Ab

set_option Elab.async false
set_option linter.all false
set_option maxRecDepth 100000
set_option maxHeartbeats 4000000
/-! Ab30: texts: split, in, int, slices; l[::-1]; x = f(..) that may raise; a try's suite that ends in a choice. -/
namespace Ab
open PySem PySem.Spec L2
open PyProof.Rows hiding St
section
variable {X : Cx} {o e a : Expr} {to te ta : TE} {Wo We Wa : WE} {apos pos p2 : Pos}
/-! ### a.split(b) -/
theorem strs_tp {K : PySem.W.Frag} {H : Hp} : ∀ ys : List Str, TpAll K H (ys.map V.str) (ys.map PyData.str)
  | [] => .nil
  | y :: ys => .cons (.str y) (strs_tp ys)
theorem noLs_strs (ys : List Str) : noLs (ys.map PyData.str) = true := noLs_map PyData.str (fun _ => rfl) ys
def wSplit (Wo We : WE) : WE := fun ss R => Wo ss (dd fun d => ∃ a, d = .str a ∧ We ss (dd fun e => ∃ b, e = .str b ∧ (b.length == 0) = false ∧ a.length + 2 ≤ sizeLine ∧ R (.lst ((Txt.split a b).map PyData.str))))
theorem je_split (ho : JE X o to Wo) (he : JE X e te We) (hs : starEach [e] X.env = [(false, eval e X.env)] := by rfl) (hbase : attributeBase o "split" X.env (eval o X.env) = eval o X.env := by rfl) (hline : (apos.endLine == pos.line) = true := by rfl) :
    JE X (.Call (.Attribute o "split" apos) [e] [] pos) (tM1 (fun x xs H Q => ∃ a b, x = .str a ∧ xs = [.str b] ∧ (b.length == 0) = false ∧ a.length + 2 ≤ sizeLine ∧ rNewStrs (Txt.split a b) H Q) to te) (wSplit Wo We) := by
  refine ⟨pe_split ho.pe he.pe hs hbase hline, fun ss R w σ H A Q q => ?_⟩
  refine (ho.ev ss _ w).use A fun d v H1 hd s1 t1 => ?_
  obtain ⟨a, rfl, hd⟩ := hd
  cases t1
  refine ⟨⟨a, rfl⟩, ?_⟩
  refine (he.ev ss _ hd).use (A.same s1) fun d2 v2 H2 hd2 s2 t2 => ?_
  obtain ⟨b, rfl, hb, hz, hr⟩ := hd2
  cases t2
  refine ⟨a, b, rfl, rfl, hb, hz, fun p hp => ?_⟩
  obtain ⟨s4, vl⟩ := val_lst (G := gd X) (s1.trans s2) hp (strs_tp _) (noLs_strs (Txt.split a b))
  exact q _ _ _ hr s4 vl
/-! ### w not in s -/
def notInS : D → D → (SV → Prop) → Prop
  | .str i, .str j, R => R (.dat (.bool (!(!(Builtin.Str.occurrences j i 0 j.length 1).isEmpty))))
  | _, _, _ => False
theorem jo_notInS : JO X (compareOp .NotIn) (fun x y H Q => ∃ i j, x = .str i ∧ y = .str j ∧ Q (.bl (!(!(Builtin.Str.occurrences j i 0 j.length 1).isEmpty))) H) (dop notInS) := jo_dop op_notIn_str fun d e R w H x y hx hy Q q => by
  cases d with
  | str i =>
    cases e with
    | str j =>
      cases hx
      cases hy
      exact ⟨i, j, rfl, rfl, q _ _ H w (Same.refl H) (.bl _)⟩
    | _ => cases w
  | _ => cases w
theorem je_cstS {x : Str} {s : Str} {p : Pos} (h : ∃ t, X.mg x = some (.str s t)) (hg : Gl X x := by rfl) (hd : (x == ("__debug__" : Str)) = false := by decide) : JE X (.Name x p) (tC (.str s)) (wC (.str s)) := by
  obtain ⟨t, ht⟩ := h
  exact je_C (pe_glob hg ht ⟨t, rfl⟩ hd) fun _ => .str s
/-! ### int(text) -/
def intS : D → (SV → Prop) → Prop
  | .str a, R => ∃ n, PySem.intText? a = some n ∧ a.length ≤ 640 ∧ R (.dat (.int n))
  | _, _ => False
theorem jc_intS : JC X (.type "int") (fun xs H Q => ∃ a n, xs = [V.str a] ∧ PySem.intText? a = some n ∧ a.length ≤ 640 ∧ Q (.int n) H) (on1 intS) := by
  refine ⟨call_int_str, fun ds R w0 H vs t0 Q q => ?_⟩
  obtain ⟨d, rfl, w⟩ := on1_of w0
  obtain ⟨v, rfl, t⟩ := one_tp t0
  cases d with
  | str a =>
    cases t
    obtain ⟨n, h1, h2, hr⟩ := w
    exact ⟨a, n, rfl, h1, h2, q _ _ H hr (Same.refl H) (.int n)⟩
  | _ => exact False.elim w
/-! ### s[lo:hi] of a text -/
def wSlS (Wa : WE) (Wl Wh : WP) : WE := fun ss R => Wa ss (dd fun d => Wl ss fun lo => Wh ss fun hi => ∃ z, d = .str z ∧ z.length ≤ sizeLine ∧ R (.dat (.str (cutS z lo hi))))
theorem je_sliceS {lo hi : Option Expr} {tl th : TO} {Wl Wh : WP} (ha : JE X a ta Wa) (hl : JP X lo tl Wl) (hh : JP X hi th Wh) : JE X (.Subscript a (.Slice lo hi Option.none p2) pos) (tSl rSlS ta tl th) (wSlS Wa Wl Wh) := by
  refine ⟨pe_slice sl_str ha.pe hl.po hh.po, fun ss R w σ H A Q q => ?_⟩
  refine (ha.ev ss _ w).use A fun d v H1 hd s1 t1 => ?_
  refine hl.ev ss _ hd σ H1 (A.same s1) _ fun i H2 hi s2 => ?_
  refine hh.ev ss _ hi σ H2 (A.same (s1.trans s2)) _ fun j H3 hj s3 => ?_
  have s13 := s1.trans (s2.trans s3)
  obtain ⟨z, rfl, hz, hr⟩ := hj
  cases t1
  exact ⟨z, rfl, hz, q _ _ H3 hr s13 (.str _)⟩
/-! ### l[::-1] -/
def wRevL (We : WE) : WE := fun ss R => We ss (dd fun d => ∃ ds, d = .list ds ∧ noLs ds = true ∧ R (.lst ds.reverse))
theorem tpAll_rev {K : PySem.W.Frag} {H : Hp} {xs : List V} {ds : List D} (t : TpAll K H xs ds) : TpAll K H xs.reverse ds.reverse := by
  induction ds generalizing xs with
  | nil => cases t; exact .nil
  | cons d ds ih =>
    cases t with
    | cons h1 h2 =>
      rw [List.reverse_cons, List.reverse_cons]
      exact (ih h2).append (TpAll.one h1)
theorem je_revL {k : Nat} {p1 p3 p4 : Pos} (he : JE X e te We) : JE X (.Subscript e (.Slice none none (some (.UnaryOp .USub (.Constant (.int 1) k p1) p3)) p4) pos) (tRevL X.K te) (wRevL We) := by
  refine ⟨pe_revL he.pe, fun ss R w σ H A Q q => ?_⟩
  refine (he.ev ss _ w).use A fun d v H1 hd s1 t1 => ?_
  obtain ⟨ds, rfl, z, hr⟩ := hd
  cases t1 with
  | lst k t =>
    refine ⟨_, _, rfl, k, fun p hp => ?_⟩
    obtain ⟨s4, vl⟩ := val_lst (G := gd X) s1 hp (tpAll_rev t) (noLs_sub (fun d hd => List.mem_reverse.mp hd) z)
    exact q _ _ _ hr s4 vl
end
/-! ### x = f(..), f may raise -/
def wSX (i : Nat) (S : SX) (Wr : WA) : WS := fun ss O => Wr ss fun ds => S ds (fun r => stor ss r ∧ O (.nx (ss.set i r))) fun C => O (.xc C)
section
variable {X : Cx} {E : XK} {e : Expr} {es : List Expr} {t : TA} {Wr : WA} {p p2 pos pos2 pos' : Pos} {x y : Str}
theorem js_setX {k j i : Nat} {ps : List Str} {S : SX} (hN : X.N.Nodup) (d : DefOkX X.prog X.w X.K X.mg X.base k x ps S) (hr : Room j X.A) (tk : L2N.Takes X (fun cls d _ H => E cls d H)) (ha : JA X (e :: es) t Wr) (hj : k ≤ j := by decide) (hg : Gl X x := by rfl)
    (hdb : (x == ("__debug__" : Str)) = false := by decide) (he : starEach (e :: es) X.env = (false, eval e X.env) :: starEach es X.env := by rfl) (hpl : (backTo pos (starEach es X.env)).any (·.1) = false := by rfl)
    (hi : X.N[i]? = some y := by rfl) (hx : Loc X.env.scope y := by first | exact Or.inl rfl | exact Or.inr rfl) (hs : swapsWith (.Call (.Name x p) (e :: es) [] pos) (some (.Name y pos')) pos2.line X.env = pure false := by rfl)
    (hf : X.fn y = true ∨ X.env.scope.names.lookup y = some .local := by first | exact .inl rfl | exact .inr rfl) :
    JS X E (.Assign [.Name y pos'] (.Call (.Name x p) (e :: es) [] pos) pos2) (tAsg (tCall (spX (gd X) S) [] E t) (gName i)) (wSX i S Wr) := by
  obtain ⟨f, fd, F, hm, hk, hb⟩ := d.ex
  refine ⟨ps_set hN hi hx (pe_call F (hr.mono hj) hg hm hk hb .nil (L2N.passes_call tk fun _ _ _ _ h => h) ha.pa hdb he hpl) hs hf, fun ss O w HB σ H D A f q => ?_⟩
  refine ha.ev ss _ w σ H A _ fun ds vs H1 hds s1 t1 => ?_
  rw [List.append_nil]
  refine ⟨ds, _, _, t1, hds, fun r v H' hr s2 hv => ?_, fun C H' hC s2 => ?_⟩
  · have s12 := s1.trans s2
    obtain ⟨A2, f2⟩ := store_as (i := i) A f s12 (hv.base s1) hr.1
    exact q (.nx _) hr.2 _ _ A2 f2
  · exact q (.xc C) hC H' (f.trans (fz_le.trans (s1.trans s2)))
end
/-! ### the body of a try: x = f(..) -/
section
variable {X : Cx} {e : Expr} {es : List Expr} {t : TA} {Wr : WA} {p p2 pos pos2 pos' : Pos} {x y : Str}
theorem rx_set {k j i : Nat} {ps : List Str} {S : SX} (hN : X.N.Nodup) (d : DefOkX X.prog X.w X.K X.mg X.base k x ps S) (hr : Room j X.A) (ha : ∀ pn xe, JA (X.tr pn xe) (e :: es) t Wr) (hj : k ≤ j := by decide) (hg : Gl X x := by rfl)
    (hdb : (x == ("__debug__" : Str)) = false := by decide) (he : starEach (e :: es) X.env = (false, eval e X.env) :: starEach es X.env := by rfl) (hpl : (backTo pos (starEach es X.env)).any (·.1) = false := by rfl)
    (hi : X.N[i]? = some y := by rfl) (hx : Loc X.env.scope y := by first | exact Or.inl rfl | exact Or.inr rfl) (hs : swapsWith (.Call (.Name x p) (e :: es) [] pos) (some (.Name y pos')) pos2.line X.env = pure false := by rfl)
    (hf : X.fn y = true ∨ X.env.scope.names.lookup y = some .local := by first | exact .inl rfl | exact .inr rfl) :
    RX X [.Assign [.Name y pos'] (.Call (.Name x p) (e :: es) [] pos) pos2] (fun W => tAsg (tCallS (spX (gd X) S) (L2.WE W) t) (gName i)) (wSX i S Wr) := by
  obtain ⟨f, fd, F, hm, hk, hb⟩ := d.ex
  refine ⟨fun W pn xe tk => pss_one (ps_set (X := X.tr pn xe) hN hi hx (pe_callS (X := X.tr pn xe) F (hr.mono hj) hg hm hk hb (fun σ => L2N.passAt tk σ) (ha pn xe).pa hdb he hpl) hs hf), fun ss O w HB σ H D W A f qn _ qx => ?_⟩
  refine (ha [] fun _ _ => False).ev ss _ w σ H A _ fun ds vs H1 hds s1 t1 => ?_
  refine ⟨ds, _, _, t1, hds, fun r v H' hr s2 hv => ?_, fun C H' hC s2 => ?_⟩
  · have s12 := s1.trans s2
    obtain ⟨A2, f2⟩ := store_as (i := i) A f s12 (hv.base s1) hr.1
    exact qn _ hr.2 _ _ A2 f2
  · have s12 := s1.trans s2
    exact qx C hC H' (A.same s12) (f.trans (fz_same s12))
end
/-! ### the suite that ends in a choice -/
def tPick (K : PySem.W.Frag) (g : Nat) : TE := tOp (rIx K) (tLst (tCons (tTupK tNil) (tCons (tC .non) tNil))) (tCB (fun xs H Q => (∃ i, xs = [V.int i] ∧ Q (.int i) H) ∨ ∃ k, xs = [V.bl k] ∧ Q (.int (if k then 1 else 0)) H) (tCons (tVar g) tNil))
def tSuite6 (K : PySem.W.Frag) (j g : Nat) (t1 t2 t3 t4 t5 : TE) : TS := tSeq (tAsg (tLst (tCons t1 (tCons t2 (tCons t3 tNil)))) (gName j)) (tSeq (tAsg (tAndV t4 (tAndV t5 (tNotV (tCB (rAny K) (tCons (tVar j) tNil))))) (gName g)) (tRet (tPick K g)))
section
variable {X : Cx} {E : XK} {x n m u y1 y2 y3 y4 y5 : Str} {c1 c2 c3 c4 c5 : V} {i j g len kk kj : Nat} {body : List Stmt} {tb : WX → TS} {C cN : Addr} {Wb : WS} {np pos pos' : Pos} {p1 p2 p3 p4 p5 p6 p7 p8 p9 q1 q2 q3 q4 q5 q6 q7 q8 q9 a1 a2 a3 a4 b1 b2 b3 b4 d1 d2 d3 d4 e1 e2 e3 e4 f1 f2 f3 f4 : Pos}
theorem js_try6 (hs : X.stack = X.env :: X.outer) (hf : X.env.frame = some X.env.locals) (hN : X.N.Nodup) (hi : X.N[i]? = some n) (hln : X.env.kindOf n = some .local) (hc : Names X x (.ref cN)) (hb : RX X body tb Wb) (he : PySem.W.exmOne X.K (.ref C) (.ref cN) = some true) (hE : ExcC X.K C)
    (hgi : Gl X "isinstance") (hmi : X.mg "isinstance" = Option.none) (hga : Gl X "any") (hma : X.mg "any" = Option.none) (hgn : Gl X "int") (hmn : X.mg "int" = Option.none) (F1 : IsF X C y1 c1 false) (F2 : IsF X C y2 c2 false) (F3 : IsF X C y3 c3 false) (F4 : IsF X C y4 c4 true) (F5 : IsF X C y5 c5 true)
    (hj : X.N[j]? = some m) (hl : Loc X.env.scope m) (hv : Vis X.env.scope m) (hvn : Vis X.env.scope n) (hff : X.fn m = true ∨ X.env.scope.names.lookup m = some .local) (hij : i ≠ j) (hil : i < len) (hjl : j < len)
    (hgj : X.N[g]? = some u) (hlg : Loc X.env.scope u) (hvg : Vis X.env.scope u) (hfg : X.fn u = true ∨ X.env.scope.names.lookup u = some .local) (hgl : g < len) (hig : i ≠ g) (hjg : j ≠ g)
    (hd : (n == ("__debug__" : Str)) = false) (hcd : (n == ("__classdict__" : Str)) = false) (hd' : (m == ("__debug__" : Str)) = false) (hcd' : (m == ("__classdict__" : Str)) = false) (hdu : (u == ("__debug__" : Str)) = false) (hcdu : (u == ("__classdict__" : Str)) = false)
    (hsw : swapsWith (.List [.Call (.Name "isinstance" a1) [.Name n a2, .Name y1 a3] [] a4, .Call (.Name "isinstance" b1) [.Name n b2, .Name y2 b3] [] b4, .Call (.Name "isinstance" d1) [.Name n d2, .Name y3 d3] [] d4] p2) (some (.Name m p1)) p3.line X.env = pure false)
    (hsw2 : swapsWith (.BoolOp .And [.Call (.Name "isinstance" e1) [.Name n e2, .Name y4 e3] [] e4, .Call (.Name "isinstance" f1) [.Name n f2, .Name y5 f3] [] f4, .UnaryOp .Not (.Call (.Name "any" p4) [.Name m p5] [] p6) p7] p8) (some (.Name u q1)) p9.line X.env = pure false) :
    JS X E (.Try body [.ExceptHandler (some (.Name x np)) (some n)
      [.Assign [.Name m p1] (.List [.Call (.Name "isinstance" a1) [.Name n a2, .Name y1 a3] [] a4, .Call (.Name "isinstance" b1) [.Name n b2, .Name y2 b3] [] b4, .Call (.Name "isinstance" d1) [.Name n d2, .Name y3 d3] [] d4] p2) p3,
       .Assign [.Name u q1] (.BoolOp .And [.Call (.Name "isinstance" e1) [.Name n e2, .Name y4 e3] [] e4, .Call (.Name "isinstance" f1) [.Name n f2, .Name y5 f3] [] f4, .UnaryOp .Not (.Call (.Name "any" p4) [.Name m p5] [] p6) p7] p8) p9,
       .Return (some (.Subscript (.List [.Tuple [] kk q2, .Constant .none kj q3] q4) (.Call (.Name "int" q5) [.Name u q6] [] q7) q8)) q9] pos'] [] [] pos)
      (fun D σ H => tb (L2.wAs X.K (.ref cN) i (fun a cls d D σ H => (cls = .ref C ∧ d = none) ∧ tSuite6 X.K j g (tIsE X.K C a i c1) (tIsE X.K C a i c2) (tIsE X.K C a i c3) (tIsE X.K C a i c4) (tIsE X.K C a i c5) D σ H) (fun _ _ _ _ => False) D) D σ H)
      (wTry len C .none Wb) := by
  have hsu : ∀ (a : Addr) (oe : Obj) (pn : List (Addr × Obj)), L2N.Zn (.ref C) none oe → (∃ vs, oe.data = .fields vs) → PSs (X.suite a ((a, oe) :: pn)) [.Assign [.Name m p1] (.List [.Call (.Name "isinstance" a1) [.Name n a2, .Name y1 a3] [] a4, .Call (.Name "isinstance" b1) [.Name n b2, .Name y2 b3] [] b4, .Call (.Name "isinstance" d1) [.Name n d2, .Name y3 d3] [] d4] p2) p3,
       .Assign [.Name u q1] (.BoolOp .And [.Call (.Name "isinstance" e1) [.Name n e2, .Name y4 e3] [] e4, .Call (.Name "isinstance" f1) [.Name n f2, .Name y5 f3] [] f4, .UnaryOp .Not (.Call (.Name "any" p4) [.Name m p5] [] p6) p7] p8) p9,
       .Return (some (.Subscript (.List [.Tuple [] kk q2, .Constant .none kj q3] q4) (.Call (.Name "int" q5) [.Name u q6] [] q7) q8)) q9]
      (tSuite6 X.K j g (tIsE X.K C a i c1) (tIsE X.K C a i c2) (tIsE X.K C a i c3) (tIsE X.K C a i c4) (tIsE X.K C a i c5)) := fun a oe pn hz hdd => by
    obtain ⟨vs, hvs⟩ := hdd
    have hot : L2H.HotC (X.suite a ((a, oe) :: pn)) := ⟨(a, oe), ⟨rfl, vs, hvs, hz.2.2 vs hvs⟩, List.mem_cons_self⟩
    have h1 := F1.jh (p := a1) (p1 := a2) (p2 := a3) (pos := a4) hE hz.zc ⟨vs, hvs⟩ hgi hmi hi hvn hd hcd (a := a) (pn := pn)
    have h2 := F2.jh (p := b1) (p1 := b2) (p2 := b3) (pos := b4) hE hz.zc ⟨vs, hvs⟩ hgi hmi hi hvn hd hcd (a := a) (pn := pn)
    have h3 := F3.jh (p := d1) (p1 := d2) (p2 := d3) (pos := d4) hE hz.zc ⟨vs, hvs⟩ hgi hmi hi hvn hd hcd (a := a) (pn := pn)
    have h4 := F4.jh (p := e1) (p1 := e2) (p2 := e3) (pos := e4) hE hz.zc ⟨vs, hvs⟩ hgi hmi hi hvn hd hcd (a := a) (pn := pn)
    have h5 := F5.jh (p := f1) (p1 := f2) (p2 := f3) (pos := f4) hE hz.zc ⟨vs, hvs⟩ hgi hmi hi hvn hd hcd (a := a) (pn := pn)
    exact pss_cons (ps_set (X := X.suite a ((a, oe) :: pn)) hN hj hl (pe_lst (pa_cons h1.pe (pa_cons h2.pe (pa_cons h3.pe pa_nil)))) hsw hff)
      (pss_cons (ps_set (X := X.suite a ((a, oe) :: pn)) hN hgj hlg (pe_and h4.pe (pe_and h5.pe (pe_one (pe_not (pe_callB (X := X.suite a ((a, oe) :: pn)) (cr_anyH hot) hga hma (by decide +kernel) (pa_cons (pe_var (X := X.suite a ((a, oe) :: pn)) hj hv hd' hcd') pa_nil)))))) hsw2 hfg)
        (pss_one (ps_ret (pe_ix (X := X.suite a ((a, oe) :: pn)) ix_seq (pe_lst (pa_cons (pe_tupK pa_nil) (pa_cons pe_non pa_nil))) (pe_callTy (X := X.suite a ((a, oe) :: pn)) call_int1 hgn hmn PySem.Pv.boot_int (pa_cons (pe_var (X := X.suite a ((a, oe) :: pn)) hgj hvg hdu hcdu) pa_nil)) (by intro _ _; rfl)))))
  exact js_try (E := E) (pos := pos) (pos' := pos') (np := np) (C := C) (dr := .none) hs hf hN hi hln hc hb he hsu fun ss a σ H D A hl q => by
    have hls : σ.length = ss.length := A.len
    have hi2 : (σ.set i (some (.ref a)))[i]? = some (some (.ref a)) := List.getElem?_set_self (by omega)
    have hjj : j < (σ.set i (some (.ref a))).length := by rw [List.length_set]; omega
    refine F1.go hi2 (F2.go hi2 (F3.go hi2 ⟨by show 3 ≤ sizeLine; rw [sizeLine_eq]; omega, fun p hp => ?_⟩))
    have hi' : ((σ.set i (some (.ref a))).set j (some (.ref p)))[i]? = some (some (.ref a)) := by rw [List.getElem?_set_ne (Ne.symm hij)]; exact hi2
    have hj' : ((σ.set i (some (.ref a))).set j (some (.ref p)))[j]? = some (some (.ref p)) := List.getElem?_set_self hjj
    refine F4.go hi' ⟨true, rfl, ?_⟩
    rw [if_pos rfl]
    refine F5.go hi' ⟨true, rfl, ?_⟩
    rw [if_pos rfl]
    refine ⟨_, hj', p, [false, false, false], rfl, .inl (.inl upd_same), false, rfl, ?_⟩
    have hgl2 : g < ((σ.set i (some (.ref a))).set j (some (.ref p))).length := by rw [List.length_set, List.length_set]; omega
    have hg' : (((σ.set i (some (.ref a))).set j (some (.ref p))).set g (some (.bl true)))[g]? = some (some (.bl true)) := List.getElem?_set_self hgl2
    refine ⟨by show 0 ≤ sizeLine; exact Nat.zero_le _, fun p2 H2 n2 nt => ⟨by show 2 ≤ sizeLine; rw [sizeLine_eq]; omega, fun p3 n3 => ?_⟩⟩
    refine ⟨_, hg', .inr ⟨true, rfl, .inl ⟨p3, [.ref p2, .non], 1, .non, rfl, rfl, .inl (.inl upd_same), rfl, ?_⟩⟩⟩
    exact q _ _ ((same_new hp).trans ((nt.same n2).trans (same_new n3))) .non
end
end Ab

set_option Elab.async false
set_option linter.all false
set_option maxRecDepth 100000
set_option maxHeartbeats 2000000
/-! Ab31: l + m, lists read only (Ab25's, without sets of tuples). -/
namespace Ab
open PySem PySem.Spec L2
open PyProof.Rows hiding St
def rCatS (K : PySem.W.Frag) : R2 := fun x y H Q => ∃ l b xs zs, x = .ref l ∧ y = .ref b ∧ SqL K H l xs ∧ SqL K H b zs ∧ xs.length + zs.length ≤ sizeLine ∧ ∀ p, H p = Option.none → Q (.ref p) (upd H p (.lst (xs ++ zs)))
section
variable {X : Cx}
theorem op_catS : OpR X (binaryOp .Add) (rCatS X.K) := by
  intro pins s σ H x y v u Q I rx ry h
  obtain ⟨l, b, xs, zs, rfl, rfl, hl, hb, hz, q⟩ := h
  cases rx
  cases ry
  obtain ⟨its, r1, p1, _⟩ := I.list hl
  obtain ⟨its2, r2, p2, _⟩ := I.list hb
  have l1 := r1.length
  have l2 := r2.length
  obtain ⟨⟨cls, dd, data, sl⟩, ho, hc, n, hd⟩ := id p1.isList
  obtain ⟨⟨cls2, dd2, data2, sl2⟩, ho2, hc2, n2, hd2⟩ := id p2.isList
  simp only at hc hd hc2 hd2
  subst hc hd hc2 hd2
  have e : its.toArray ++ its2.toArray = (its ++ its2).toArray := by simp
  refine concat_meets ⟨_, ho, rfl⟩ ⟨_, ho2, rfl⟩ noFill_list_add seq_list_add PySem.F.slot_list_add PySem.F.entry_list_add (PySem.F.args_list_add_2 _ _) (list_addW l b its.toArray its2.toArray n n2 dd dd2 sl sl2 (by rw [List.size_toArray, List.size_toArray]; omega)) ⟨ho, ho2, ?_⟩
  rw [e]
  exact ⟨.ref _, _, I.lnew (t' := s.toks) (r1.append r2) (by rw [List.length_append]; omega), rfl, q _ I.fresh⟩
def catL : D → D → (SV → Prop) → Prop
  | .list a, .list b, R => a.length + b.length ≤ sizeLine ∧ noLs (a ++ b) = true ∧ R (.lst (a ++ b))
  | _, _, _ => False
theorem jo_cat : JO X (binaryOp .Add) (rCatS X.K) (dop catL) := jo_dop op_catS fun d e R w H x y hx hy Q q => by
  cases d with
  | list a =>
    cases e with
    | list b =>
      obtain ⟨w1, w2, w3⟩ := w
      cases hx with
      | lst k1 t1 =>
        cases hy with
        | lst k2 t2 =>
          refine ⟨_, _, _, _, rfl, rfl, k1, k2, by rw [t1.len, t2.len]; exact w1, fun p n => ?_⟩
          obtain ⟨s2, vl⟩ := val_lst (G := gd X) (Same.refl H) n (t1.append t2) w2
          exact q _ _ _ w3 s2 vl
    | _ => cases w
  | _ => cases w
end
end Ab

set_option Elab.async false
set_option linter.all false
set_option maxRecDepth 100000
set_option maxHeartbeats 1000000
/-! Sp1: data and its laws; how comprehensions and loops run. -/
namespace Ab
open PySem PySem.Spec
open Mt (T IsT)

/-! ### data without bools -/
mutual
def pureD : D → Bool
  | .none => true
  | .bool _ => false
  | .int _ => true
  | .str _ => true
  | .list ds => pureDs ds
  | .tuple ds => pureDs ds
  | .dict _ => false
def pureDs : List D → Bool
  | [] => true
  | d :: ds => pureD d && pureDs ds
end
mutual
theorem eqv_pure : ∀ {d e : D}, pureD d = true → pureD e = true → (PyData.eqv d e = true ↔ d = e)
  | .none, e, _, he => by cases e <;> simp_all [PyData.eqv, pureD]
  | .bool _, _, h, _ => by simp [pureD] at h
  | .int i, e, _, he => by cases e <;> simp_all [PyData.eqv, pureD]
  | .str i, e, _, he => by cases e <;> simp_all [PyData.eqv, pureD]
  | .dict _, _, h, _ => by simp [pureD] at h
  | .list ds, e, h, he => by
    cases e with
    | list es =>
      rw [PyData.eqv]
      rw [pureD] at h he
      rw [eqvAll_pure h he]
      exact ⟨fun h => by rw [h], fun h => by cases h; rfl⟩
    | _ => simp_all [PyData.eqv, pureD]
  | .tuple ds, e, h, he => by
    cases e with
    | tuple es =>
      rw [PyData.eqv]
      rw [pureD] at h he
      rw [eqvAll_pure h he]
      exact ⟨fun h => by rw [h], fun h => by cases h; rfl⟩
    | _ => simp_all [PyData.eqv, pureD]
theorem eqvAll_pure : ∀ {ds es : List D}, pureDs ds = true → pureDs es = true → (PyData.eqvAll ds es = true ↔ ds = es)
  | [], [], _, _ => by simp [PyData.eqvAll]
  | [], _ :: _, _, _ => by simp [PyData.eqvAll]
  | _ :: _, [], _, _ => by simp [PyData.eqvAll]
  | d :: ds, e :: es, h, he => by
    rw [pureDs, Bool.and_eq_true] at h he
    rw [PyData.eqvAll, Bool.and_eq_true, eqv_pure h.1 he.1, eqvAll_pure h.2 he.2, List.cons.injEq]
end
theorem eqv_dec {d e : D} (h : pureD d = true) (he : pureD e = true) {p : Prop} [Decidable p] (hp : d = e ↔ p) : PyData.eqv d e = decide p := by
  rw [Bool.eq_iff_iff, eqv_pure h he, hp, decide_eq_true_iff]
theorem pureDs_map {α : Type} (f : α → D) (l : List α) (h : ∀ a ∈ l, pureD (f a) = true) : pureDs (l.map f) = true := by
  induction l with
  | nil => rfl
  | cons a l ih =>
    rw [List.map_cons, pureDs, h a List.mem_cons_self, ih fun b hb => h b (List.mem_cons_of_mem _ hb)]
    rfl
/-- how deep it may be for == -/
def Sh (d : D) (k : Nat) : Prop := d.canLay0 = true ∧ d.depth ≤ k
theorem Sh.ok {d : D} {k : Nat} (h : Sh d k) (hk : k ≤ 64) : SeqAt.shaped d = true := by
  unfold SeqAt.shaped
  rw [h.1, decide_eq_true (Nat.le_trans h.2 hk)]
  rfl
theorem Sh.mono {d : D} {k j : Nat} (h : Sh d k) (hk : k ≤ j) : Sh d j := ⟨h.1, Nat.le_trans h.2 hk⟩
theorem shAll {α : Type} (f : α → D) (l : List α) {k : Nat} (h : ∀ a ∈ l, Sh (f a) k) : PyData.canLayAll0 (l.map f) = true ∧ PyData.depthAll (l.map f) ≤ k := by
  induction l with
  | nil => exact ⟨rfl, Nat.zero_le _⟩
  | cons a l ih =>
    obtain ⟨i1, i2⟩ := ih fun b hb => h b (List.mem_cons_of_mem _ hb)
    obtain ⟨j1, j2⟩ := h a List.mem_cons_self
    refine ⟨?_, ?_⟩
    · rw [List.map_cons, PyData.canLayAll0, j1, i1]
      rfl
    · rw [List.map_cons, PyData.depthAll]
      exact Nat.max_le.mpr ⟨j2, i2⟩
theorem Sh.tup {α : Type} (f : α → D) (l : List α) {k : Nat} (h : ∀ a ∈ l, Sh (f a) k) : Sh (.tuple (l.map f)) (k + 1) := by
  obtain ⟨i1, i2⟩ := shAll f l h
  exact ⟨by rw [PyData.canLay0]; exact i1, by rw [PyData.depth]; omega⟩
theorem Sh.lst {α : Type} (f : α → D) (l : List α) {k : Nat} (h : ∀ a ∈ l, Sh (f a) k) : Sh (.list (l.map f)) (k + 1) := by
  obtain ⟨i1, i2⟩ := shAll f l h
  exact ⟨by rw [PyData.canLay0]; exact i1, by rw [PyData.depth]; omega⟩
theorem Sh.int (i : Int) : Sh (.int i) 0 := ⟨by rw [PyData.canLay0], by rw [PyData.depth]; exact Nat.le_refl 0⟩
theorem Sh.none : Sh .none 0 := ⟨by rw [PyData.canLay0], by rw [PyData.depth]; exact Nat.le_refl 0⟩
theorem Sh.bool (b : Bool) : Sh (.bool b) 0 := ⟨by rw [PyData.canLay0], by rw [PyData.depth]; exact Nat.le_refl 0⟩

/-! ### turns as data -/
def eN (n : Nat) : D := .int (n : Nat)
def eT (t : T) : D := .tuple (t.map eN)
theorem eN_inj {a b : Nat} (h : eN a = eN b) : a = b := by
  have : (a : Int) = b := by
    injection h
  omega
theorem map_inj {α β : Type} {f : α → β} (hf : ∀ a b, f a = f b → a = b) : ∀ {l m : List α}, l.map f = m.map f → l = m
  | [], [], _ => rfl
  | [], _ :: _, h => by simp at h
  | _ :: _, [], h => by simp at h
  | a :: l, b :: m, h => by
    rw [List.map_cons, List.map_cons] at h
    injection h with h1 h2
    rw [hf _ _ h1, map_inj hf h2]
theorem eT_inj {a b : T} (h : eT a = eT b) : a = b := by
  injection h with h
  exact map_inj (fun _ _ => eN_inj) h
theorem pure_eN (n : Nat) : pureD (eN n) = true := rfl
theorem pure_eT (t : T) : pureD (eT t) = true := by
  unfold eT
  rw [pureD]
  exact pureDs_map _ _ fun _ _ => rfl
theorem noL_eT (t : T) : noL (eT t) = true := noLs_map (fun n => .int (n : Nat)) (fun _ => rfl) t
theorem sh_eT (t : T) : Sh (eT t) 1 := Sh.tup eN t fun a _ => Sh.int a
theorem shaped_eT (t : T) : SeqAt.shaped (eT t) = true := (sh_eT t).ok (by decide)
theorem eqv_eT (a b : T) : PyData.eqv (eT a) (eT b) = decide (a = b) := eqv_dec (pure_eT a) (pure_eT b) ⟨eT_inj, fun h => by rw [h]⟩
theorem shaped_int (i : Int) : SeqAt.shaped (.int i) = true := (Sh.int i).ok (by decide)
theorem eqv_int (i j : Int) : PyData.eqv (.int i) (.int j) = decide (i = j) := by
  rw [PyData.eqv]
  exact Bool.eq_iff_iff.mpr (by simp)
theorem len_line {n : Nat} (h : n ≤ 1000000) : n ≤ sizeLine := by
  have := sizeLine_eq
  omega

/-! ### comprehensions -/
theorem lc_map {α : Type} {T : WG} {We : WE} {ss0 : List SV} {K : List D → Prop} (g : α → ID) (f : α → D) : ∀ (l : List α) (acc : List D), acc.length + l.length ≤ sizeLine → (∀ x ∈ l, noL (f x) = true) →
    (∀ x ∈ l, ∀ R : D → Prop, R (f x) → T (g x) ss0 fun ss1 => We ss1 (dd R)) → K (acc ++ l.map f) → lcRun T wYes We ss0 (l.map g) acc K
  | [], acc, _, _, _, hk => by
    rw [List.map_nil, List.append_nil] at hk
    exact hk
  | x :: l, acc, hz, hn, h, hk => by
    show T (g x) ss0 fun ss1 => wYes ss1 (bb fun b => if b = true then We ss1 (dd fun e => noL e = true ∧ acc.length < sizeLine ∧ lcRun T wYes We ss0 (l.map g) (acc ++ [e]) K) else lcRun T wYes We ss0 (l.map g) acc K)
    simp only [wYes, bb, if_true]
    have hz' : acc.length + (l.length + 1) ≤ sizeLine := hz
    refine h x List.mem_cons_self _ ⟨hn x List.mem_cons_self, by omega, ?_⟩
    refine lc_map g f l (acc ++ [f x]) (by rw [List.length_append, List.length_singleton]; omega) (fun y hy => hn y (List.mem_cons_of_mem _ hy)) (fun y hy => h y (List.mem_cons_of_mem _ hy)) ?_
    rw [List.append_assoc]
    exact hk
theorem lc_filter {α : Type} {T : WG} {Wt We : WE} {ss0 : List SV} {K : List D → Prop} (g : α → ID) (p : α → Bool) (f : α → D) : ∀ (l : List α) (acc : List D), acc.length + l.length ≤ sizeLine → (∀ x ∈ l, p x = true → noL (f x) = true) →
    (∀ x ∈ l, ∀ (A : D → Prop) (B : Prop), (p x = true → A (f x)) → (p x = false → B) → T (g x) ss0 fun ss1 => Wt ss1 (bb fun b => if b = true then We ss1 (dd A) else B)) → K (acc ++ (l.filter p).map f) → lcRun T Wt We ss0 (l.map g) acc K
  | [], acc, _, _, _, hk => by
    rw [List.filter_nil, List.map_nil, List.append_nil] at hk
    exact hk
  | x :: l, acc, hz, hn, h, hk => by
    have hz' : acc.length + (l.length + 1) ≤ sizeLine := hz
    refine h x List.mem_cons_self (fun e => noL e = true ∧ acc.length < sizeLine ∧ lcRun T Wt We ss0 (l.map g) (acc ++ [e]) K) _ (fun hp => ⟨hn x List.mem_cons_self hp, by omega, ?_⟩) fun hp => ?_
    · refine lc_filter g p f l (acc ++ [f x]) (by rw [List.length_append, List.length_singleton]; omega) (fun y hy => hn y (List.mem_cons_of_mem _ hy)) (fun y hy => h y (List.mem_cons_of_mem _ hy)) ?_
      rw [List.filter_cons_of_pos hp, List.map_cons] at hk
      rw [List.append_assoc]
      exact hk
    · refine lc_filter g p f l acc (by omega) (fun y hy => hn y (List.mem_cons_of_mem _ hy)) (fun y hy => h y (List.mem_cons_of_mem _ hy)) ?_
      rw [List.filter_cons_of_neg (by rw [hp]; decide)] at hk
      exact hk
/-- items that are told by what holds of them -/
theorem lc_pick {α β : Type} {T : WG} {We : WE} {ss0 : List SV} {K : List D → Prop} (g : α → ID) (P : β → Prop) (f : β → D) (hn : ∀ b, noL (f b) = true) : ∀ (l : List α) (acc : List D), acc.length + l.length ≤ sizeLine →
    (∀ x ∈ l, ∀ R : D → Prop, (∀ b, P b → R (f b)) → T (g x) ss0 fun ss1 => We ss1 (dd R)) → (∀ bs : List β, bs.length = l.length → (∀ b ∈ bs, P b) → K (acc ++ bs.map f)) → lcRun T wYes We ss0 (l.map g) acc K
  | [], acc, _, _, hk => by
    have := hk [] rfl (by simp)
    rw [List.map_nil, List.append_nil] at this
    exact this
  | x :: l, acc, hz, h, hk => by
    show T (g x) ss0 fun ss1 => wYes ss1 (bb fun b => if b = true then We ss1 (dd fun e => noL e = true ∧ acc.length < sizeLine ∧ lcRun T wYes We ss0 (l.map g) (acc ++ [e]) K) else lcRun T wYes We ss0 (l.map g) acc K)
    simp only [wYes, bb, if_true]
    have hz' : acc.length + (l.length + 1) ≤ sizeLine := hz
    refine h x List.mem_cons_self _ fun b hb => ⟨hn b, by omega, ?_⟩
    refine lc_pick g P f hn l (acc ++ [f b]) (by rw [List.length_append, List.length_singleton]; omega) (fun y hy => h y (List.mem_cons_of_mem _ hy)) fun bs hl hbs => ?_
    rw [List.append_assoc]
    exact hk (b :: bs) (by rw [List.length_cons, List.length_cons, hl]) fun c hc => (List.mem_cons.mp hc).elim (fun e => by rw [e]; exact hb) (hbs c)
/-- a loop: what holds of the slots by what has been walked -/
theorem for_inv {α : Type} {T : WG} {Wb : WS} {O : Out → Prop} (g : α → ID) (I : List α → List SV → Prop) : ∀ (post pre : List α) (ss : List SV), I pre ss →
    (∀ (a : List α) (x : α) (b : List α) ss, pre ++ post = a ++ x :: b → I a ss → ∀ K : List SV → Prop, (∀ ss2, I (a ++ [x]) ss2 → K ss2) → T (g x) ss fun ss1 => Wb ss1 (nxt K O)) → (∀ ss, I (pre ++ post) ss → O (.nx ss)) → forRun T Wb (post.map g) ss O
  | [], pre, ss, h0, _, hd => by
    rw [List.append_nil] at hd
    exact hd ss h0
  | x :: post, pre, ss, h0, hs, hd => by
    refine hs pre x post ss rfl h0 (fun ss2 => forRun T Wb (post.map g) ss2 O) fun ss2 hi => ?_
    refine for_inv g I post (pre ++ [x]) ss2 hi (fun a x' b ss e hi => hs a x' b ss ?_ hi) ?_
    · rw [← e, List.append_assoc]
      rfl
    · rw [List.append_assoc]
      exact hd
/-- .. from its start -/
theorem for_all {α : Type} {T : WG} {Wb : WS} {O : Out → Prop} {ss : List SV} (g : α → ID) (I : List α → List SV → Prop) (l : List α) (h0 : I [] ss)
    (hs : ∀ (a : List α) (x : α) (b : List α) ss, l = a ++ x :: b → I a ss → ∀ K : List SV → Prop, (∀ ss2, I (a ++ [x]) ss2 → K ss2) → T (g x) ss fun ss1 => Wb ss1 (nxt K O)) (hd : ∀ ss, I l ss → O (.nx ss)) : forRun T Wb (l.map g) ss O :=
  for_inv g I l [] ss h0 hs hd
end Ab

set_option Elab.async false
set_option linter.all false
set_option maxRecDepth 100000
set_option maxHeartbeats 1000000
/-! Sd: what the defs promise. -/
namespace Ab
open PySem PySem.Spec
open Mt (T IsT)
abbrev SP := List D → (SV → Prop) → Prop
def S_still : SP := fun ds R => ∃ n : Nat, ds = [eN n] ∧ n ≤ 6 ∧ R (.dat (eT (Mt.still n)))
def S_times : SP := fun ds R => ∃ (n : Nat) (a b : T), ds = [eT a, eT b] ∧ n ≤ 6 ∧ IsT n a ∧ IsT n b ∧ R (.dat (eT (Mt.times a b)))
def S_back : SP := fun ds R => ∃ (n : Nat) (a : T), ds = [eT a] ∧ n ≤ 6 ∧ IsT n a ∧ R (.dat (eT (Mt.back a)))
def S_order_of : SP := fun ds R => ∃ (n : Nat) (a : T), ds = [eT a] ∧ n ≤ 6 ∧ IsT n a ∧ R (.dat (eN (Mt.ord n a)))
def S_power : SP := fun ds R => ∃ (n : Nat) (a : T) (m : Int), ds = [eT a, .int m] ∧ n ≤ 6 ∧ IsT n a ∧ R (.dat (eT (Mt.pw n a (m % (Mt.ord n a : Nat)).toNat)))
/-! the law's own -/
def cell (ns : List Int) (k : Nat) : Int := ns.getD k 0
def mixed (ns : List Int) (k : Nat) : Nat :=
  let x := ((cell ns k + 7919 * (k : Nat) + 1) * 48271 % 2147483647).toNat
  (x * x + 7 * x + k) % 2147483629
def drawn (m k : Nat) : Nat :=
  let x := (m + 104729 * k + 17) * 69621 % 2147483647
  (x * x + 3 * x + k) % 2147483629
def eL (ns : List Int) : D := .list (ns.map PyData.int)
def S_Lcell_at : SP := fun ds R => ∃ (ns : List Int) (k : Nat), ds = [eL ns, eN k] ∧ R (.dat (.int (cell ns k)))
def S_Lmixed : SP := fun ds R => ∃ (ns : List Int) (k : Nat), ds = [eL ns, eN k] ∧ R (.dat (eN (mixed ns k)))
def S_Ldrawn : SP := fun ds R => ∃ (m k : Nat), ds = [eN m, eN k] ∧ R (.dat (eN (drawn m k)))
/-- some turn -/
def S_Lturn : SP := fun ds R => ∃ (m n : Nat), ds = [eN m, eN n] ∧ 1 ≤ n ∧ n ≤ 6 ∧ ∀ t, IsT n t → R (.dat (eT t))
def eR (ts : List T) : D := .tuple (ts.map eT)
def S_Lrow : SP := fun ds R => ∃ (m n : Nat), ds = [eN m, eN n] ∧ 1 ≤ n ∧ n ≤ 6 ∧ ∀ ts : List T, ts.length ≤ 6 → (∀ t ∈ ts, IsT n t) → R (.dat (eR ts))
def S_Ltimes : SP := S_times
def S_Lback : SP := S_back
def S_Loften : SP := fun ds R => ∃ (n : Nat) (a : T) (m : Int), ds = [eT a, .int m] ∧ n ≤ 6 ∧ IsT n a ∧ m.natAbs ≤ 1000 ∧ R (.dat (eT (Mt.often n a m)))
def S_law : SP := fun ds R => ∃ ns : List Int, ds = [eL ns] ∧ ns.length ≤ 63 ∧ R (.dat (.bool true))
def w_still : WS := (wRet (wTupRg (wR1 (wVar 0))))
def w_times : WS := (wRet (wTupleOf (wLc (wiVar 0) (gN 2) wYes (wOp (dop ixD) (wVar 1) (wVar 2)) [2])))
def w_back : WS := (wRet (wTupleOf (wLc (wiR1 (wCons (wCB (on1 lenD) (wCons (wVar 0) wNil)) wNil)) (gN 1) wYes (wIdx (wVar 0) (wCons (wVar 1) wNil)) [1])))
def w_order_of : WS := (wSeq (wAsg 1 (wC (.int 1)))
 (wSeq (wMove 2 0)
 (wSeq (wWhile (wOp (dop neD) (wVar 2) (wCB S_still (wCons (wCB (on1 lenD) (wCons (wVar 0) wNil)) wNil)))
 (wSeq (wAsg 2 (wCB S_times (wCons (wVar 2) (wCons (wVar 0) wNil))))
 (wAsg 1 (wOp addS (wVar 1) (wC (.int 1))))))
 (wRetV 1))))
def w_power : WS := (wSeq (wAsg 2 (wCB S_still (wCons (wCB (on1 lenD) (wCons (wVar 0) wNil)) wNil)))
 (wSeq (wFor (wiR1 (wCons (wOp (dop modD) (wVar 1) (wCB S_order_of (wCons (wVar 0) wNil))) wNil)) (gN 3)
 (wAsg 2 (wCB S_times (wCons (wVar 2) (wCons (wVar 0) wNil)))))
 (wRetV 2)))
def w_Lcell_at : WS := (wSeq (wIf (wOp (dop ltD) (wVar 1) (wCB (on1 lenD) (wCons (wVar 0) wNil)))
 (wRet (wOp (dop ixD) (wVar 0) (wVar 1)))
 wNx)
 (wRet (wC (.int 0))))
def w_Lmixed : WS := (wSeq (wAsg 2 (wOp (dop modD) (wOp (dop mulI) (wOp addS (wOp addS (wCB S_Lcell_at (wCons (wVar 0) (wCons (wVar 1) wNil))) (wOp (dop mulI) (wC (.int 7919)) (wVar 1))) (wC (.int 1))) (wC (.int 48271))) (wC (.int 2147483647))))
 (wRet (wOp (dop modD) (wOp addS (wOp addS (wOp (dop mulI) (wVar 2) (wVar 2)) (wOp (dop mulI) (wC (.int 7)) (wVar 2))) (wVar 1)) (wC (.int 2147483629)))))
def w_Ldrawn : WS := (wSeq (wAsg 2 (wOp (dop modD) (wOp (dop mulI) (wOp addS (wOp addS (wVar 0) (wOp (dop mulI) (wC (.int 104729)) (wVar 1))) (wC (.int 17))) (wC (.int 69621))) (wC (.int 2147483647))))
 (wRet (wOp (dop modD) (wOp addS (wOp addS (wOp (dop mulI) (wVar 2) (wVar 2)) (wOp (dop mulI) (wC (.int 3)) (wVar 2))) (wVar 1)) (wC (.int 2147483629)))))
def w_Lturn : WS := (wSeq (wAsg 2 (wLstRg (wR1 (wVar 1))))
 (wSeq (wIf (wOp (dop eqD) (wOp (dop modD) (wVar 0) (wC (.int 3))) (wC (.int 0)))
 (wSeq (wAsg 3 (wOp (dop modD) (wOp (dop divD) (wVar 0) (wC (.int 3))) (wVar 1)))
 (wSeq (wAsg 4 (wOp (dop modD) (wOp (dop divD) (wVar 0) (wC (.int 18))) (wVar 1)))
 (wSeq (wSetI 2 (wVar 4) (wVar 3))
 (wSeq (wSetI 2 (wVar 3) (wVar 4))
 (wRet (wTupleOf (wVar 2)))))))
 wNx)
 (wSeq (wIf (wOp (dop eqD) (wOp (dop modD) (wVar 0) (wC (.int 3))) (wC (.int 1)))
 (wSeq (wAsg 5 (wOp addS (wC (.int 1)) (wOp (dop modD) (wOp (dop divD) (wVar 0) (wC (.int 3))) (wVar 1))))
 (wSeq (wAsg 6 (wOp (dop modD) (wOp (dop divD) (wVar 0) (wC (.int 18))) (wVar 1)))
 (wSeq (wFor (wiR1 (wCons (wVar 5) wNil)) (gN 7)
 (wSetI 2 (wOp (dop modD) (wOp addS (wVar 6) (wOp (dop modD) (wOp addS (wVar 7) (wC (.int 1))) (wVar 5))) (wVar 1)) (wOp (dop modD) (wOp addS (wVar 6) (wVar 7)) (wVar 1))))
 (wRet (wTupleOf (wVar 2))))))
 wNx)
 (wSeq (wAsg 8 (wLst wNil))
 (wSeq (wFor (wiR1 (wCons (wVar 1) wNil)) (gN 7)
 (wSeq (wAsg 9 (wOp (dop modD) (wCB S_Ldrawn (wCons (wVar 0) (wCons (wVar 7) wNil))) (wOp addS (wCB (on1 lenD) (wCons (wVar 8) wNil)) (wC (.int 1)))))
 (wAsg 8 (wOp addS (wOp addS (wSl (wVar 8) (fun _ R => R Option.none) (wPart (wVar 9))) (wLst (wCons (wVar 7) wNil))) (wSl (wVar 8) (wPart (wVar 9)) (fun _ R => R Option.none))))))
 (wRet (wTupleOf (wVar 8))))))))
def w_Lrow : WS := (wRet (wTupleOf (wLc (wiR1 (wCons (wOp (dop ixD) (wTup (wCons (wC (.int 1)) (wCons (wC (.int 1)) (wCons (wC (.int 2)) (wCons (wC (.int 2)) (wCons (wC (.int 3)) (wCons (wC (.int 0)) (wCons (wC (.int 6)) wNil)))))))) (wOp (dop modD) (wVar 0) (wC (.int 7)))) wNil)) (gN 2) wYes (wCB S_Lturn (wCons (wCB S_Ldrawn (wCons (wVar 0) (wCons (wVar 2) wNil))) (wCons (wVar 1) wNil))) [2])))
def w_Ltimes : WS := (wRet (wTupleOf (wLc (wiVar 0) (gN 2) wYes (wOp (dop ixD) (wVar 1) (wVar 2)) [2])))
def w_Lback : WS := (wSeq (wAsg 1 (wCB (on1 listD) (wCons (wVar 0) wNil)))
 (wSeq (wFor (wiEnum (wVar 0)) (gP 2 3)
 (wSetI 1 (wVar 2) (wVar 3)))
 (wRet (wTupleOf (wVar 1)))))
def w_Loften : WS := (wSeq (wAsg 2 (wTupRg (wR1 (wCB (on1 lenD) (wCons (wVar 0) wNil)))))
 (wSeq (wFor (wiR1 (wCons (wCB (on1 absD) (wCons (wVar 1) wNil)) wNil)) (gN 3)
 (wIf (wOp (dop gtD) (wVar 1) (wC (.int 0)))
 (wAsg 2 (wCB S_Ltimes (wCons (wVar 2) (wCons (wVar 0) wNil))))
 (wAsg 2 (wCB S_Ltimes (wCons (wVar 2) (wCons (wCB S_Lback (wCons (wVar 0) wNil)) wNil))))))
 (wRetV 2)))
end Ab

set_option Elab.async false
set_option linter.all false
set_option maxRecDepth 100000
set_option maxHeartbeats 1000000
namespace Ab
open PySem PySem.Spec
open Mt (T IsT)
/-! ### small facts -/
theorem rgI_nat (n : Nat) : rgD 0 (n : Nat) = (List.range n).map eN := by
  unfold rgD rgI
  rw [List.map_map, show ((n : Int) - 0).toNat = n by omega]
  refine List.map_congr_left fun k _ => ?_
  show PyData.int (0 + (k : Nat)) = eN k
  rw [Int.zero_add]
  rfl
theorem rgOk_nat {n : Nat} (h : n ≤ 1000) : L2.RgOk 0 (n : Nat) := L2.RgOk.of_le (by omega) (by omega) (by omega) (by omega)
theorem rangeIds_nat (n : Nat) : rangeIds 0 (n : Nat) = (List.range n).map fun k => ID.one (eN k) := by
  unfold rangeIds
  rw [show ((n : Int) - 0).toNat = n by omega]
  refine List.map_congr_left fun k _ => ?_
  show ID.one (.int (0 + (k : Nat))) = _
  rw [Int.zero_add]
  rfl
theorem ix_map {α : Type} {f : α → D} {l : List α} {p : Nat} {x : α} (h : l[p]? = some x) : L2.atI (l.map f) (p : Nat) = some (f x) :=
  L2.atI_nat (by rw [List.getElem?_map, h]; rfl)
theorem ix_app {n p : Nat} {b : T} (hb : IsT n b) (hp : p < n) : L2.atI (b.map eN) (p : Nat) = some (eN (Mt.app b p)) := ix_map (Mt.app_get (by rw [hb.len]; exact hp))
theorem line_of {n : Nat} (h : n ≤ 1000000) : n ≤ sizeLine := len_line h
/-! ### still, times, back -/
theorem sp_still : ∀ ds R, S_still ds R → ds.length = 1 ∧ w_still (initSS 1 ds) (fin R) := by
  rintro ds R ⟨n, rfl, hn, hr⟩
  refine ⟨rfl, ?_⟩
  show L2.RgOk 0 (n : Nat) ∧ R (.dat (.tuple (rgD 0 (n : Nat))))
  rw [rgI_nat]
  exact ⟨rgOk_nat (by omega), hr⟩
theorem run_times {n : Nat} {a b : T} {K : List D → Prop} {s : SV} (hn : n ≤ 6) (ha : IsT n a) (hb : IsT n b) (hk : K ((Mt.times a b).map eN)) :
    lcRun (gN 2) wYes (wOp (dop ixD) (wVar 1) (wVar 2)) [.dat (eT a), .dat (eT b), s] (ones (a.map eN)) [] K := by
  unfold ones
  rw [List.map_map]
  refine lc_map _ (fun p => eN (Mt.app b p)) a [] ?_ (fun _ _ => rfl) (fun p hp Q hq => ?_) ?_
  · rw [ha.len]
    exact line_of (by simp; omega)
  · show ∃ d, L2.atI (b.map eN) ((p : Nat) : Int) = some d ∧ Q d
    exact ⟨_, ix_app hb (ha.lt p hp), hq⟩
  · rw [List.nil_append]
    unfold Mt.times at hk
    rw [List.map_map] at hk
    exact hk
theorem sp_times : ∀ ds R, S_times ds R → ds.length = 2 ∧ w_times (initSS 3 ds) (fin R) := by
  rintro ds R ⟨n, a, b, rfl, hn, ha, hb, hr⟩
  exact ⟨rfl, run_times hn ha hb hr⟩
theorem sp_Ltimes : ∀ ds R, S_Ltimes ds R → ds.length = 2 ∧ w_Ltimes (initSS 3 ds) (fin R) := sp_times
theorem idxD_nat {l : List Nat} {p : Nat} {R : SV → Prop} (h : p ∈ l) (hr : R (.dat (eN (l.idxOf p)))) : idxD (l.map eN) (eN p) R := by
  have hl : l.idxOf p < l.length := List.idxOf_lt_length_of_mem h
  refine ⟨l.idxOf p, eN p, ?_, ?_, fun m z hm hz => ?_, hr⟩
  · rw [List.getElem?_map, List.getElem?_eq_getElem hl]
    show some (eN l[l.idxOf p]) = _
    rw [List.getElem_idxOf]
  · show PyData.eqv (.int _) (.int _) = true
    rw [eqv_int]
    exact decide_eq_true rfl
  · rw [List.getElem?_map, Option.map_eq_some_iff] at hz
    obtain ⟨x, hx, rfl⟩ := hz
    show PyData.eqv (.int _) (.int _) = false
    rw [eqv_int]
    refine decide_eq_false fun e => ?_
    have e : x = p := by omega
    subst e
    have h2 := (List.getElem?_eq_some_iff.mp hx)
    have := List.not_of_lt_findIdx (p := fun y => y == x) (xs := l) (i := m) hm
    obtain ⟨hm2, h3⟩ := h2
    rw [h3] at this
    simp at this
theorem sp_back : ∀ ds R, S_back ds R → ds.length = 1 ∧ w_back (initSS 2 ds) (fin R) := by
  rintro ds R ⟨n, a, rfl, hn, ha, hr⟩
  refine ⟨rfl, ?_⟩
  show -(2 ^ 62) ≤ (((a.map eN).length : Nat) : Int) ∧ (((a.map eN).length : Nat) : Int) < 2 ^ 62 ∧ lcRun (gN 1) wYes (wIdx (wVar 0) (wCons (wVar 1) wNil)) [.dat (eT a), .no] (rangeIds 0 ((a.map eN).length : Nat)) [] fun es => R (.dat (.tuple es))
  rw [List.length_map, ha.len, rangeIds_nat]
  refine ⟨by omega, by omega, lc_map _ (fun p => eN (a.idxOf p)) (List.range n) [] ?_ (fun _ _ => rfl) (fun p hp Q hq => ?_) ?_⟩
  · exact line_of (by simp; omega)
  · refine Or.inl ?_
    show SeqAt.shaped (eT a) = true ∧ SeqAt.shaped (eN p) = true ∧ idxD (a.map eN) (eN p) (dd Q)
    exact ⟨shaped_eT a, shaped_int _, idxD_nat (ha.mem (List.mem_range.mp hp)) hq⟩
  · rw [List.nil_append]
    unfold Mt.back at hr
    rw [ha.len] at hr
    unfold eT at hr
    rw [List.map_map] at hr
    exact hr
/-! ### order_of, power -/
theorem len_eT {n : Nat} {a : T} (ha : IsT n a) : ((a.map eN).length : Nat) = n := by
  rw [List.length_map, ha.len]
theorem len_arg {n : Nat} {a : T} (ha : IsT n a) : [PyData.int ((a.map eN).length : Nat)] = [eN n] := by
  rw [len_eT ha]
  rfl
theorem not_eq {p : Prop} [Decidable p] : (!decide p) = decide (¬ p) := by
  by_cases h : p <;> simp [h]
/-- a test by a law -/
theorem if_dec {p : Prop} [Decidable p] {A B : Prop} (h1 : p → A) (h2 : ¬ p → B) : if decide p = true then A else B := by
  by_cases h : p
  · rw [if_pos (decide_eq_true h)]
    exact h1 h
  · rw [if_neg (by rw [decide_eq_false h]; decide)]
    exact h2 h
theorem if_nd {p : Prop} [Decidable p] {A B : Prop} (h1 : ¬ p → A) (h2 : p → B) : if (!decide p) = true then A else B := by
  by_cases h : p
  · rw [decide_eq_true h]
    exact h2 h
  · rw [decide_eq_false h]
    exact h1 h
theorem pw_succ (n : Nat) (a : T) (k : Nat) : Mt.pw n a (k + 1) = Mt.times (Mt.pw n a k) a := rfl
theorem sp_order_of : ∀ ds R, S_order_of ds R → ds.length = 1 ∧ w_order_of (initSS 3 ds) (fin R) := by
  rintro ds R ⟨n, a, rfl, hn, ha, hr⟩
  refine ⟨rfl, ?_⟩
  obtain ⟨o1, o2, o3, o4⟩ := Mt.ord_spec ha hn
  refine ⟨.inl rfl, by decide, ?_⟩
  refine ⟨fun m ss => ∃ k : Nat, 1 ≤ k ∧ k ≤ Mt.ord n a ∧ m + k = Mt.ord n a ∧ ss = [.dat (eT a), .dat (eN k), .dat (eT (Mt.pw n a k))], ⟨Mt.ord n a - 1, 1, Nat.le_refl 1, o2, by omega, ?_⟩, ?_⟩
  · rw [show Mt.pw n a 1 = a from Mt.still_times ha]
    rfl
  · rintro m ss ⟨k, hk1, hk2, hk3, rfl⟩
    refine ⟨n, len_arg ha, hn, ?_⟩
    refine ⟨shaped_eT _, shaped_eT _, ?_⟩
    rw [eqv_eT]
    refine if_nd (fun hne => ?_) fun he => ?_
    · refine ⟨n, _, a, rfl, hn, ha.pw k, ha, .inl (noL_eT _), .inl rfl, m - 1, ?_⟩
      have hk : k ≠ Mt.ord n a := fun z => hne (by rw [z]; exact o1)
      exact ⟨by omega, k + 1, by omega, by omega, by omega, rfl⟩
    · have hk : k = Mt.ord n a := by
        rcases Nat.lt_or_ge k (Mt.ord n a) with h | h
        · exact absurd he (o4 k hk1 h)
        · omega
      subst hk
      exact hr
theorem sp_power : ∀ ds R, S_power ds R → ds.length = 2 ∧ w_power (initSS 4 ds) (fin R) := by
  rintro ds R ⟨n, a, m, rfl, hn, ha, hr⟩
  refine ⟨rfl, ?_⟩
  obtain ⟨o1, o2, o3, o4⟩ := Mt.ord_spec ha hn
  refine ⟨n, len_arg ha, hn, ?_⟩
  refine ⟨.inl (noL_eT _), n, a, rfl, hn, ha, ?_⟩
  generalize hj : m % (Mt.ord n a : Nat) = j at hr
  have hj0 : 0 ≤ j := by
    rw [← hj]
    exact Int.emod_nonneg _ (by omega)
  have hj1 : j < 61 := by
    have : m % (Mt.ord n a : Nat) < (Mt.ord n a : Nat) := Int.emod_lt_of_pos _ (by omega)
    omega
  obtain ⟨k, rfl⟩ : ∃ k : Nat, j = k := ⟨j.toNat, by omega⟩
  refine ⟨by show (0 : Int) < (Mt.ord n a : Nat); omega, ?_⟩
  show -(2 ^ 62) ≤ m % (Mt.ord n a : Nat) ∧ m % (Mt.ord n a : Nat) < 2 ^ 62 ∧ forRun (gN 3) (wAsg 2 (wCB S_times (wCons (wVar 2) (wCons (wVar 0) wNil)))) (rangeIds 0 (m % (Mt.ord n a : Nat))) [.dat (eT a), .dat (.int m), .dat (eT (Mt.still n)), .no] (nxt (fun ss => wRetV 2 ss (fin R)) (fin R))
  rw [hj, rangeIds_nat]
  refine ⟨by omega, by omega, for_all _ (fun pre ss => ∃ s, ss = [.dat (eT a), .dat (.int m), .dat (eT (Mt.pw n a pre.length)), s]) (List.range k) ⟨_, rfl⟩ ?_ ?_⟩
  · rintro pre x post ss e ⟨s, rfl⟩ K hK
    refine ⟨n, _, a, rfl, hn, ha.pw _, ha, .inl (noL_eT _), hK _ ⟨.dat (eN x), ?_⟩⟩
    rw [List.length_append]
    rfl
  · rintro ss ⟨s, rfl⟩
    rw [List.length_range]
    exact hr
/-- a test that two turns are not the same, where they are -/
theorem ne_no {a b : T} {A B : Prop} (e : a = b) (h : B) : SeqAt.shaped (eT a) = true ∧ SeqAt.shaped (eT b) = true ∧ (if (!PyData.eqv (eT a) (eT b)) = true then A else B) := by
  refine ⟨shaped_eT _, shaped_eT _, ?_⟩
  rw [eqv_eT]
  exact if_nd (fun z => absurd e z) fun _ => h
theorem noL_map_rg (n : Nat) : noL (.tuple (rgD 0 (n : Nat))) = true := by
  rw [rgI_nat]
  exact noL_eT (Mt.still n)
end Ab

set_option Elab.async false
set_option linter.all false
set_option maxRecDepth 100000
set_option maxHeartbeats 1000000
namespace Ab
open PySem PySem.Spec
open Mt (T IsT)
/-! ### the law's own helpers -/
theorem sp_Lcell_at : ∀ ds R, S_Lcell_at ds R → ds.length = 2 ∧ w_Lcell_at (initSS 2 ds) (fin R) := by
  rintro ds R ⟨ns, k, rfl, hr⟩
  refine ⟨rfl, ?_⟩
  show if decide (((k : Nat) : Int) < ((ns.map PyData.int).length : Nat)) = true then ∃ d, L2.atI (ns.map PyData.int) (k : Nat) = some d ∧ R (.dat d) else R (.dat (.int 0))
  refine if_dec (fun h => ?_) fun h => ?_
  · have hk : k < ns.length := by
      rw [List.length_map] at h
      omega
    refine ⟨.int ns[k], ix_map (List.getElem?_eq_getElem hk), ?_⟩
    have e : cell ns k = ns[k] := by
      unfold cell
      rw [List.getD_eq_getElem?_getD, List.getElem?_eq_getElem hk]
      rfl
    rw [e] at hr
    exact hr
  · have hk : ns.length ≤ k := by
      rw [List.length_map] at h
      omega
    have e : cell ns k = 0 := by
      unfold cell
      rw [List.getD_eq_getElem?_getD, List.getElem?_eq_none hk]
      rfl
    rw [e] at hr
    exact hr
theorem cmul_l {i j : Int} (h1 : -1000000000000000 < i) (h2 : i < 1000000000000000) : L2.CMul i j := .inl ⟨by omega, by omega⟩
theorem cmul_r {i j : Int} (h1 : -1000000000000000 < j) (h2 : j < 1000000000000000) : L2.CMul i j := .inr ⟨by omega, by omega⟩
theorem mod_lt {a : Int} {b : Int} (hb : 0 < b) : 0 ≤ a % b ∧ a % b < b := ⟨Int.emod_nonneg _ (by omega), Int.emod_lt_of_pos _ hb⟩
theorem sp_Lmixed : ∀ ds R, S_Lmixed ds R → ds.length = 2 ∧ w_Lmixed (initSS 3 ds) (fin R) := by
  rintro ds R ⟨ns, k, rfl, hr⟩
  refine ⟨rfl, ?_⟩
  refine ⟨ns, k, rfl, cmul_l (by decide) (by decide), cmul_r (by decide) (by decide), by show (0 : Int) < 2147483647; decide, .inl rfl, ?_⟩
  have hx := mod_lt (a := (cell ns k + 7919 * (k : Nat) + 1) * 48271) (b := 2147483647) (by decide)
  unfold mixed at hr
  generalize hxe : (cell ns k + 7919 * (k : Nat) + 1) * 48271 % 2147483647 = x at hx hr
  show L2.CMul _ _ ∧ _
  simp only [hxe]
  obtain ⟨j, rfl⟩ : ∃ j : Nat, x = j := ⟨x.toNat, by omega⟩
  exact ⟨cmul_l (by omega) (by omega), cmul_l (by decide) (by decide), by show (0 : Int) < 2147483629; decide, hr⟩
theorem sp_Ldrawn : ∀ ds R, S_Ldrawn ds R → ds.length = 2 ∧ w_Ldrawn (initSS 3 ds) (fin R) := by
  rintro ds R ⟨m, k, rfl, hr⟩
  refine ⟨rfl, ?_⟩
  refine ⟨cmul_l (by decide) (by decide), cmul_r (by decide) (by decide), by show (0 : Int) < 2147483647; decide, .inl rfl, ?_⟩
  have hx : (m + 104729 * k + 17) * 69621 % 2147483647 < 2147483647 := Nat.mod_lt _ (by decide)
  exact ⟨cmul_l (by omega) (by omega), cmul_l (by decide) (by decide), by show (0 : Int) < 2147483629; decide, hr⟩
end Ab

set_option Elab.async false
set_option linter.all false
set_option maxRecDepth 100000
set_option maxHeartbeats 1000000
namespace Ab
open PySem PySem.Spec
open Mt (T IsT)
/-! ### drawn turns -/
def isTb (n : Nat) (l : List Nat) : Bool := l.length == n && l.all (fun x => decide (x < n)) && decide l.Nodup
theorem isTb_ok {n : Nat} {l : List Nat} (h : isTb n l = true) : IsT n l := by
  unfold isTb at h
  rw [Bool.and_eq_true, Bool.and_eq_true] at h
  exact ⟨by simpa using h.1.1, fun x hx => by simpa using List.all_eq_true.mp h.1.2 x hx, by simpa using h.2⟩
def swapT (n i j : Nat) : List Nat := ((List.range n).set i j).set j i
theorem swap_ok : ∀ n < 7, ∀ i < n, ∀ j < n, isTb n (swapT n i j) = true := by decide +kernel
def cycF (n many shift : Nat) (l : List Nat) (k : Nat) : List Nat := l.set ((shift + k) % n) ((shift + (k + 1) % many) % n)
def cycT (n many shift : Nat) : List Nat := (List.range many).foldl (cycF n many shift) (List.range n)
theorem cyc_ok : ∀ n < 7, ∀ many < 7, many ≤ n → 1 ≤ many → ∀ shift < n, isTb n (cycT n many shift) = true := by decide +kernel
theorem ixN_nat {n i : Nat} (h : i < n) : L2.ixN n (i : Nat) = some i := by
  unfold L2.ixN
  rw [if_pos (by omega), if_pos (by omega)]
  simp
theorem map_set {l : List Nat} {i v : Nat} : (l.map eN).set i (eN v) = (l.set i v).map eN := by
  rw [List.map_set]
theorem cyc_len (n many shift : Nat) : ∀ (ks : List Nat) (l : List Nat), (ks.foldl (cycF n many shift) l).length = l.length
  | [], l => rfl
  | k :: ks, l => by
    rw [List.foldl_cons, cyc_len n many shift ks]
    unfold cycF
    rw [List.length_set]
/-- an item put in at a place -/
theorem put_ok {k at_ : Nat} {l : List Nat} (h : IsT k l) (ha : at_ ≤ k) : IsT (k + 1) (l.take at_ ++ [k] ++ l.drop at_) := by
  have hp : (l.take at_ ++ [k] ++ l.drop at_).Perm (k :: l) := by
    rw [List.append_assoc]
    have := List.perm_middle (a := k) (l₁ := l.take at_) (l₂ := l.drop at_)
    rw [List.take_append_drop] at this
    exact this
  refine ⟨by rw [hp.length_eq, List.length_cons, h.len], fun x hx => ?_, ?_⟩
  · rcases List.mem_cons.mp (hp.mem_iff.mp hx) with e | e
    · omega
    · have := h.lt x e
      omega
  · refine hp.nodup_iff.mpr (List.nodup_cons.mpr ⟨fun hk => ?_, h.nd⟩)
    have := h.lt k hk
    omega
theorem cut_take {α : Type} {l : List α} {a : Nat} (h : a ≤ l.length) : cut l Option.none (some (a : Nat)) = l.take a := by
  unfold cut
  rw [HT.sIx_none, HT.sIx_nat, List.drop_zero, Nat.sub_zero, Nat.min_eq_left h]
theorem cut_drop {α : Type} {l : List α} {a : Nat} (h : a ≤ l.length) : cut l (some (a : Nat)) Option.none = l.drop a := by
  unfold cut
  rw [HT.sIx_none, HT.sIx_nat, Nat.min_eq_left h]
  exact List.take_of_length_le (by rw [List.length_drop]; omega)
theorem sp_Lturn : ∀ ds R, S_Lturn ds R → ds.length = 2 ∧ w_Lturn (initSS 10 ds) (fin R) := by
  rintro ds R ⟨m, n, rfl, hn1, hn, hr⟩
  refine ⟨rfl, ?_⟩
  refine ⟨rgOk_nat (by omega), trivial, by show (0 : Int) < 3; decide, shaped_int _, shaped_int _, ?_⟩
  have one_lt : m / 3 % n < n := Nat.mod_lt _ (by omega)
  have two_lt : m / 18 % n < n := Nat.mod_lt _ (by omega)
  have c3 : L2.CDiv (m : Nat) 3 := ⟨by decide, by decide⟩
  have c18 : L2.CDiv (m : Nat) 18 := ⟨by decide, by decide⟩
  have hn0 : (0 : Int) < (n : Nat) := by omega
  rw [eqv_int, rgI_nat]
  refine if_dec (fun _ => ?_) fun _ => ?_
  · -- two points exchanged
    refine ⟨c3, hn0, .inl rfl, c18, hn0, .inl rfl, ?_⟩
    show noL (eN (m / 18 % n)) = true ∧ ∃ i, L2.ixN ((List.range n).map eN).length ((m / 3 % n : Nat) : Int) = some i ∧ _
    refine ⟨rfl, m / 3 % n, ixN_nat (by rw [List.length_map, List.length_range]; exact one_lt), ?_⟩
    show noL (eN (m / 3 % n)) = true ∧ ∃ i, L2.ixN (((List.range n).map eN).set (m / 3 % n) (eN (m / 18 % n))).length ((m / 18 % n : Nat) : Int) = some i ∧ _
    refine ⟨rfl, m / 18 % n, ixN_nat (by rw [List.length_set, List.length_map, List.length_range]; exact two_lt), ?_⟩
    show R (.dat (.tuple ((((List.range n).map eN).set (m / 3 % n) (eN (m / 18 % n))).set (m / 18 % n) (eN (m / 3 % n)))))
    rw [map_set, map_set]
    exact hr _ (isTb_ok (swap_ok n (by omega) _ one_lt _ two_lt))
  · refine ⟨by show (0 : Int) < 3; decide, shaped_int _, shaped_int _, ?_⟩
    rw [eqv_int]
    refine if_dec (fun _ => ?_) fun _ => ?_
    · -- a ring
      refine ⟨c3, hn0, .inl rfl, c18, hn0, .inl rfl, ?_⟩
      generalize hm : 1 + m / 3 % n = many
      generalize hs : m / 18 % n = shift at two_lt
      have hmi : (1 : Int) + (m : Nat) / 3 % (n : Nat) = (many : Nat) := by
        rw [← hm]
        rfl
      have hsi : ((m : Nat) : Int) / 18 % (n : Nat) = (shift : Nat) := by
        rw [← hs]
        rfl
      show -(2 ^ 62) ≤ (1 : Int) + (m : Nat) / 3 % (n : Nat) ∧ (1 : Int) + (m : Nat) / 3 % (n : Nat) < 2 ^ 62 ∧ forRun (gN 7) _ (rangeIds 0 ((1 : Int) + (m : Nat) / 3 % (n : Nat))) [.dat (eN m), .dat (eN n), .lst ((List.range n).map eN), .no, .no, .dat (.int ((1 : Int) + (m : Nat) / 3 % (n : Nat))), .dat (.int (((m : Nat) : Int) / 18 % (n : Nat))), .no, .no, .no] _
      rw [hmi, hsi, rangeIds_nat]
      refine ⟨by omega, by omega, for_all _ (fun pre ss => ∃ s, ss = [.dat (eN m), .dat (eN n), .lst ((pre.foldl (cycF n many shift) (List.range n)).map eN), .no, .no, .dat (eN many), .dat (eN shift), s, .no, .no]) (List.range many) ⟨_, rfl⟩ ?_ ?_⟩
      · rintro pre k post ss e ⟨s, rfl⟩ K hK
        have hm0 : (0 : Int) < (many : Nat) := by omega
        refine ⟨hm0, hn0, rfl, hn0, ?_⟩
        have hlt : (shift + k) % n < n := Nat.mod_lt _ (by omega)
        show ∃ i, L2.ixN ((pre.foldl (cycF n many shift) (List.range n)).map eN).length (((shift + k) % n : Nat) : Int) = some i ∧ _
        refine ⟨(shift + k) % n, ixN_nat (by rw [List.length_map, cyc_len, List.length_range]; exact hlt), hK _ ⟨.dat (eN k), ?_⟩⟩
        rw [List.foldl_append]
        show [SV.dat (eN m), .dat (eN n), .lst (((pre.foldl (cycF n many shift) (List.range n)).map eN).set ((shift + k) % n) (eN ((shift + (k + 1) % many) % n))), .no, .no, .dat (eN many), .dat (eN shift), .dat (eN k), .no, .no] = _
        rw [map_set]
        rfl
      · rintro ss ⟨s, rfl⟩
        exact hr _ (isTb_ok (cyc_ok n (by omega) many (by omega) (by omega) (by omega) shift two_lt))
    · -- points put in one by one
      refine ⟨Nat.zero_le _, .inl ⟨rfl, trivial, ?_⟩⟩
      show -(2 ^ 62) ≤ ((n : Nat) : Int) ∧ ((n : Nat) : Int) < 2 ^ 62 ∧ forRun (gN 7) _ (rangeIds 0 (n : Nat)) [.dat (eN m), .dat (eN n), .lst ((List.range n).map eN), .no, .no, .no, .no, .no, .lst [], .no] _
      rw [rangeIds_nat]
      refine ⟨by omega, by omega, for_all _ (fun pre ss => ∃ l s t, IsT pre.length l ∧ ss = [.dat (eN m), .dat (eN n), .lst ((List.range n).map eN), .no, .no, .no, .no, s, .lst (l.map eN), t]) (List.range n) ⟨[], _, _, ⟨rfl, (by simp), List.nodup_nil⟩, rfl⟩ ?_ ?_⟩
      · rintro pre k post ss e ⟨l, s, t, hl, rfl⟩ K hK
        have hk : k = pre.length ∧ pre.length < n := by
          have h1 := congrArg List.length e
          have h2 : (List.range n)[pre.length]? = some k := by
            rw [e, List.getElem?_append_right (Nat.le_refl _), Nat.sub_self]
            rfl
          rw [List.length_range, List.length_append, List.length_cons] at h1
          rw [List.getElem?_range (by omega)] at h2
          exact ⟨(Option.some.inj h2).symm, by omega⟩
        obtain ⟨hk, hkn⟩ := hk
        subst hk
        refine ⟨m, pre.length, rfl, ?_⟩
        have hll : ((l.map eN).length : Nat) = pre.length := by rw [List.length_map, hl.len]
        show (0 : Int) < (((l.map eN).length : Nat) : Int) + 1 ∧ (noL (.int (((drawn m pre.length : Nat) : Int) % ((((l.map eN).length : Nat) : Int) + 1))) = true ∨ _) ∧ _
        rw [hll]
        refine ⟨by omega, .inl rfl, ?_⟩
        generalize ha : drawn m pre.length % (pre.length + 1) = a
        have hai : ((drawn m pre.length : Nat) : Int) % ((pre.length : Nat) + 1) = (a : Nat) := by
          rw [← ha]
          rfl
        have hal : a ≤ pre.length := by
          have := Nat.mod_lt (drawn m pre.length) (show 0 < pre.length + 1 by omega)
          omega
        have zl : noLs (l.map eN) = true := noLs_map eN (fun _ => rfl) l
        rw [hai]
        refine .inl ⟨zl, Nat.succ_le_of_lt ?_, .inl ⟨rfl, ?_, .inl ⟨zl, ?_, trivial, ?_⟩⟩⟩
        · exact line_of (by decide)
        · refine line_of ?_
          have := cut_len (l.map eN) Option.none (some (a : Nat))
          rw [List.length_map, hl.len] at this
          rw [List.length_singleton]
          omega
        · refine line_of ?_
          have h1 := cut_len (l.map eN) Option.none (some (a : Nat))
          have h2 := cut_len (l.map eN) (some (a : Nat)) Option.none
          rw [List.length_map, hl.len] at h1 h2
          rw [List.length_append, List.length_singleton]
          omega
        · rw [cut_take (by rw [List.length_map, hl.len]; exact hal), cut_drop (by rw [List.length_map, hl.len]; exact hal), ← List.map_take, ← List.map_drop]
          refine hK _ ⟨l.take a ++ [pre.length] ++ l.drop a, .dat (eN pre.length), .dat (eN a), ?_, ?_⟩
          · rw [List.length_append]
            exact put_ok hl hal
          · rw [List.map_append, List.map_append]
            rfl
      · rintro ss ⟨l, s, t, hl, rfl⟩
        rw [List.length_range] at hl
        exact hr l hl
theorem row_many : ∀ r < 7, ∃ c, ([1, 1, 2, 2, 3, 0, 6] : List Nat)[r]? = some c ∧ c ≤ 6 := by decide
theorem sp_Lrow : ∀ ds R, S_Lrow ds R → ds.length = 2 ∧ w_Lrow (initSS 3 ds) (fin R) := by
  rintro ds R ⟨m, n, rfl, hn1, hn, hr⟩
  refine ⟨rfl, ?_⟩
  obtain ⟨c, hc, hc6⟩ := row_many (m % 7) (Nat.mod_lt _ (by decide))
  refine ⟨line_of (by decide), by show (0 : Int) < 7; decide, eN c, ix_map (f := eN) hc, ?_⟩
  show -(2 ^ 62) ≤ ((c : Nat) : Int) ∧ ((c : Nat) : Int) < 2 ^ 62 ∧ lcRun (gN 2) wYes (wCB S_Lturn (wCons (wCB S_Ldrawn (wCons (wVar 0) (wCons (wVar 2) wNil))) (wCons (wVar 1) wNil))) [.dat (eN m), .dat (eN n), .no] (rangeIds 0 (c : Nat)) [] fun es => R (.dat (.tuple es))
  rw [rangeIds_nat]
  refine ⟨by omega, by omega, lc_pick _ (IsT n) eT noL_eT (List.range c) [] ?_ (fun k hk Q hq => ?_) fun ts hl hts => ?_⟩
  · rw [List.length_range]
    exact line_of (by simp; omega)
  · exact ⟨m, k, rfl, drawn m k, n, rfl, hn1, hn, fun t ht => hq t ht⟩
  · rw [List.nil_append]
    exact hr ts (by rw [hl, List.length_range]; exact hc6) hts
theorem enums_eT {n : Nat} {a : T} (ha : IsT n a) : enums (a.map eN) = (List.range n).map fun k => ID.two (eN k) (eN (Mt.app a k)) := by
  unfold enums
  rw [List.length_map, ha.len]
  refine List.map_congr_left fun k hk => ?_
  have hk : k < n := List.mem_range.mp hk
  rw [List.getD_eq_getElem?_getD, List.getElem?_map, Mt.app_get (by rw [ha.len]; exact hk)]
  rfl
theorem range_at {n : Nat} {pre post : List Nat} {k : Nat} (e : List.range n = pre ++ k :: post) : k = pre.length ∧ pre.length < n := by
  have h1 := congrArg List.length e
  have h2 : (List.range n)[pre.length]? = some k := by
    rw [e, List.getElem?_append_right (Nat.le_refl _), Nat.sub_self]
    rfl
  rw [List.length_range, List.length_append, List.length_cons] at h1
  rw [List.getElem?_range (by omega)] at h2
  exact ⟨(Option.some.inj h2).symm, by omega⟩
theorem app_set {l : List Nat} {i v : Nat} (h : i < l.length) (x : Nat) : Mt.app (l.set i v) x = if x = i then v else Mt.app l x := by
  unfold Mt.app
  rw [List.getD_eq_getElem?_getD, List.getD_eq_getElem?_getD]
  by_cases e : x = i
  · rw [if_pos e, e, List.getElem?_set_self h]
    rfl
  · rw [if_neg e, List.getElem?_set_ne (Ne.symm e)]
theorem sp_Lback : ∀ ds R, S_Lback ds R → ds.length = 1 ∧ w_Lback (initSS 4 ds) (fin R) := by
  rintro ds R ⟨n, a, rfl, hn, ha, hr⟩
  refine ⟨rfl, ?_⟩
  refine .inl ⟨noLs_map eN (fun _ => rfl) a, trivial, ?_⟩
  show (noLs (a.map eN) = true ∨ _) ∧ forRun (gP 2 3) (wSetI 1 (wVar 2) (wVar 3)) (enums (a.map eN)) [.dat (eT a), .lst (a.map eN), .no, .no] _
  rw [enums_eT ha]
  refine ⟨.inl (noLs_map eN (fun _ => rfl) a), for_all _ (fun pre ss => ∃ (l : List Nat) (s t : SV), l.length = n ∧ (∀ q, q < pre.length → Mt.app l (Mt.app a q) = q) ∧ ss = [.dat (eT a), .lst (l.map eN), s, t]) (List.range n) ⟨a, _, _, ha.len, by simp, rfl⟩ ?_ ?_⟩
  · rintro pre k post ss e ⟨l, s, t, hl, hq, rfl⟩ K hK
    obtain ⟨rfl, hk⟩ := range_at e
    have hlt : Mt.app a pre.length < l.length := by
      rw [hl]
      exact ha.app_lt hk
    show noL (eN pre.length) = true ∧ ∃ i, L2.ixN (l.map eN).length ((Mt.app a pre.length : Nat) : Int) = some i ∧ _
    refine ⟨rfl, _, ixN_nat (by rw [List.length_map]; exact hlt), hK _ ⟨l.set (Mt.app a pre.length) pre.length, .dat (eN pre.length), .dat (eN (Mt.app a pre.length)), by rw [List.length_set, hl], fun q hq2 => ?_, ?_⟩⟩
    · rw [List.length_append, List.length_singleton] at hq2
      have get := app_set (v := pre.length) hlt
      rw [get]
      by_cases h : q = pre.length
      · rw [h, if_pos rfl]
      · rw [if_neg fun z => h (ha.inj (by omega) hk z)]
        exact hq q (by omega)
    · show [SV.dat (eT a), .lst ((l.map eN).set (Mt.app a pre.length) (eN pre.length)), .dat (eN pre.length), .dat (eN (Mt.app a pre.length))] = _
      rw [map_set]
  · rintro ss ⟨l, s, t, hl, hq, rfl⟩
    rw [List.length_range] at hq
    have e : l = Mt.back a := by
      refine Mt.ext_app hl ((Mt.len_back a).trans ha.len) fun p hp => ?_
      rw [Mt.app_back (by rw [ha.len]; exact hp)]
      have := hq (a.idxOf p) (ha.idx_lt hp)
      rw [ha.app_idx hp] at this
      exact this
    rw [e]
    exact hr
theorem abs_nat (m : Int) : (if m < 0 then -m else m) = (m.natAbs : Nat) := by
  by_cases h : m < 0
  · rw [if_pos h]
    omega
  · rw [if_neg h]
    omega
theorem sp_Loften : ∀ ds R, S_Loften ds R → ds.length = 2 ∧ w_Loften (initSS 4 ds) (fin R) := by
  rintro ds R ⟨n, a, m, rfl, hn, ha, hm, hr⟩
  refine ⟨rfl, ?_⟩
  show L2.RgOk 0 ((a.map eN).length : Nat) ∧ (noL (.tuple (rgD 0 ((a.map eN).length : Nat))) = true ∨ _) ∧ -(2 ^ 62) ≤ (if m < 0 then -m else m) ∧ (if m < 0 then -m else m) < 2 ^ 62 ∧ forRun (gN 3) _ (rangeIds 0 (if m < 0 then -m else m)) [.dat (eT a), .dat (.int m), .dat (.tuple (rgD 0 ((a.map eN).length : Nat))), .no] _
  rw [len_eT ha, rgI_nat, abs_nat, rangeIds_nat]
  have hb := ha.back
  refine ⟨rgOk_nat (by omega), .inl (noL_eT (Mt.still n)), by omega, by omega, for_all _ (fun pre ss => ∃ s, ss = [.dat (eT a), .dat (.int m), .dat (eT (if m > 0 then Mt.pw n a pre.length else Mt.pw n (Mt.back a) pre.length)), s]) (List.range m.natAbs) ⟨.no, ?_⟩ ?_ ?_⟩
  · rw [show (if m > 0 then Mt.pw n a ([] : List Nat).length else Mt.pw n (Mt.back a) ([] : List Nat).length) = Mt.still n by split <;> rfl]
    rfl
  · rintro pre k post ss e ⟨s, rfl⟩ K hK
    show if decide ((0 : Int) < m) = true then _ else _
    refine if_dec (fun h => ?_) fun h => ?_
    · refine ⟨n, _, a, rfl, hn, ?_, ha, .inl (noL_eT _), hK _ ⟨.dat (eN k), ?_⟩⟩
      · rw [if_pos h]
        exact ha.pw _
      · rw [if_pos h, if_pos h, List.length_append]
        rfl
    · refine ⟨n, a, rfl, hn, ha, n, _, Mt.back a, rfl, hn, ?_, hb, .inl (noL_eT _), hK _ ⟨.dat (eN k), ?_⟩⟩
      · rw [if_neg h]
        exact hb.pw _
      · rw [if_neg h, if_neg h, List.length_append]
        rfl
  · rintro ss ⟨s, rfl⟩
    rw [List.length_range]
    exact hr
theorem eR_inj {a b : List T} (h : eR a = eR b) : a = b := by
  injection h with h
  exact map_inj (fun _ _ => eT_inj) h
theorem pure_eR (ts : List T) : pureD (eR ts) = true := by
  unfold eR
  rw [pureD]
  exact pureDs_map _ _ fun t _ => pure_eT t
theorem noL_eR (ts : List T) : noL (eR ts) = true := noLs_map eT noL_eT ts
theorem shaped_eR (ts : List T) : SeqAt.shaped (eR ts) = true := (Sh.tup eT ts (k := 1) fun t _ => sh_eT t).ok (by decide)
theorem eqv_eR (a b : List T) : PyData.eqv (eR a) (eR b) = decide (a = b) := eqv_dec (pure_eR a) (pure_eR b) ⟨eR_inj, fun h => by rw [h]⟩
end Ab

set_option linter.all false
set_option maxRecDepth 100000
/-! Mtp: all turns of a few points. -/
namespace Mt
def perms : Nat → List T
  | 0 => [[]]
  | n + 1 => (perms n).flatMap fun l => (List.range (n + 1)).map fun i => l.take i ++ [n] ++ l.drop i
theorem mem_perms : ∀ {n : Nat} {a : T}, IsT n a → a ∈ perms n
  | 0, a, h => by
    have : a = [] := List.length_eq_zero_iff.mp h.len
    rw [this]
    exact List.mem_singleton.mpr rfl
  | n + 1, a, h => by
    have hm : n ∈ a := h.mem (by omega)
    obtain ⟨s, t, rfl⟩ := List.append_of_mem hm
    have hl := h.len
    rw [List.length_append, List.length_cons] at hl
    have hp : (s ++ n :: t).Perm (n :: (s ++ t)) := List.perm_middle
    have hnd := List.nodup_cons.mp (hp.nodup_iff.mp h.nd)
    have hst : IsT n (s ++ t) := by
      refine ⟨by rw [List.length_append]; omega, fun x hx => ?_, hnd.2⟩
      have h1 := h.lt x (hp.mem_iff.mpr (List.mem_cons_of_mem _ hx))
      have h2 : x ≠ n := fun e => hnd.1 (e ▸ hx)
      omega
    have ih := mem_perms hst
    show s ++ n :: t ∈ (perms n).flatMap _
    refine List.mem_flatMap.mpr ⟨s ++ t, ih, List.mem_map.mpr ⟨s.length, List.mem_range.mpr (by omega), ?_⟩⟩
    rw [List.take_left', List.drop_left' rfl]
    · simp
    · rfl
/-- a law of all turns of at most six points, by going through them -/
def allT (f : Nat → T → Bool) (m : Nat) : Bool := (List.range (m + 1)).all fun n => (perms n).all (f n)
theorem allT_ok {f : Nat → T → Bool} {m n : Nat} {a : T} (h : allT f m = true) (hn : n ≤ m) (ha : IsT n a) : f n a = true :=
  List.all_eq_true.mp (List.all_eq_true.mp h n (List.mem_range.mpr (by omega))) a (mem_perms ha)
end Mt

set_option linter.all false
set_option maxRecDepth 100000
/-! Mth3: rings and what is odd. -/
namespace Mt
/-! ### rings -/
def orb (a : T) (p : Nat) : Nat → Nat
  | 0 => p
  | k + 1 => app a (orb a p k)
def per (a : T) (p : Nat) : Nat := (((List.range a.length).find? fun k => orb a p (k + 1) == p).getD 0) + 1
def ring (a : T) (p : Nat) : List Nat := (List.range (per a p)).map (orb a p)
theorem orb_lt {n : Nat} {a : T} (h : IsT n a) {p : Nat} (hp : p < n) : ∀ k, orb a p k < n
  | 0 => hp
  | k + 1 => h.app_lt (orb_lt h hp k)
theorem orb_pw {n : Nat} {a : T} (h : IsT n a) {p : Nat} (hp : p < n) : ∀ k, app (pw n a k) p = orb a p k
  | 0 => app_still hp
  | k + 1 => by
    show app (times (pw n a k) a) p = app a (orb a p k)
    rw [app_times (by rw [(h.pw k).len]; exact hp), orb_pw h hp k]
theorem per_spec {n : Nat} {a : T} (h : IsT n a) {p : Nat} (hp : p < n) : orb a p (per a p) = p ∧ 1 ≤ per a p ∧ per a p ≤ n ∧ ∀ k, 1 ≤ k → k < per a p → orb a p k ≠ p := by
  obtain ⟨d, d1, d2, d3⟩ := comes_back h hp
  rw [orb_pw h hp] at d3
  unfold per
  rw [h.len]
  cases hf : (List.range n).find? (fun k => orb a p (k + 1) == p) with
  | none =>
    have := List.find?_eq_none.mp hf (d - 1) (List.mem_range.mpr (by omega))
    rw [show d - 1 + 1 = d by omega] at this
    exact absurd (beq_iff_eq.mpr d3) this
  | some k =>
    have h1 := List.find?_some hf
    have h2 := List.mem_range.mp (List.mem_of_find?_eq_some hf)
    refine ⟨beq_iff_eq.mp h1, by simp, Nat.succ_le_of_lt h2, fun j j1 j2 e => ?_⟩
    have j2 : j < k + 1 := j2
    obtain ⟨_, as, bs, e1, e2⟩ := List.find?_eq_some_iff_append.mp hf
    have hk : k = as.length := by
      have := congrArg (fun l => l[as.length]?) e1
      rw [List.getElem?_append_right (Nat.le_refl _), Nat.sub_self] at this
      have h3 : as.length < n := by
        have := congrArg List.length e1
        rw [List.length_range, List.length_append, List.length_cons] at this
        omega
      rw [List.getElem?_range h3] at this
      simpa using this.symm
    have h4 : j - 1 ∈ as := by
      have h5 : as = List.range as.length := by
        have := congrArg (List.take as.length) e1
        rw [List.take_left', List.take_range] at this
        · have h3 : as.length ≤ n := by
            have := congrArg List.length e1
            rw [List.length_range, List.length_append] at this
            omega
          rw [Nat.min_eq_left h3] at this
          exact this.symm
        · rfl
      rw [h5]
      exact List.mem_range.mpr (by omega)
    have := e2 (j - 1) h4
    rw [show j - 1 + 1 = j by omega, e] at this
    simp at this
def minL : List Nat → Nat
  | [] => 0
  | x :: xs => xs.foldl min x
def ringHead (a : T) (p : Nat) : Bool := decide (1 < (ring a p).length) && decide (minL (ring a p) = p)
def ringsT (a : T) : List (List Nat) := ((List.range a.length).filter (ringHead a)).map (ring a)
def isOdd (a : T) : Bool := decide (((ringsT a).filter fun r => decide (r.length % 2 = 0)).length % 2 = 1)
/-! the law's own -/
def chase (a : T) : Nat → Nat → List Nat → List Nat → List Nat × List Nat
  | 0, _, met, ring => (met, ring)
  | f + 1, at_, met, ring => if at_ ∈ met then (met, ring) else chase a f (app a at_) (met ++ [at_]) (ring ++ [at_])
def lstep (a : T) (s : List Nat × List (List Nat)) (p : Nat) : List Nat × List (List Nat) :=
  let r := chase a (a.length + 1 - s.1.length) p s.1 []
  (r.1, if 1 < r.2.length then s.2 ++ [r.2] else s.2)
def lringsT (a : T) : List (List Nat) := ((List.range a.length).foldl (lstep a) ([], [])).2
def crossN (a : T) (i : Nat) : Nat := ((List.range i).filter fun j => decide (app a i < app a j)).length
def crossed (a : T) : Bool := decide (((List.range a.length).foldl (fun c i => c + crossN a i) 0) % 2 = 1)
theorem rings_same6 : allT (fun _ a => decide (ringsT a = lringsT a)) 6 = true := by decide +kernel
theorem odd_crossed6 : allT (fun _ a => isOdd a == crossed a) 6 = true := by decide +kernel
/-! two neighbours exchanged -/
def tr (n k : Nat) : T := ((List.range n).set k (k + 1)).set (k + 1) k
theorem tr_isT6 : ∀ n < 7, ∀ k < n - 1, (tr n k).length == n && (tr n k).all (fun x => decide (x < n)) && decide (tr n k).Nodup = true := by decide +kernel
theorem tr_cross6 : allT (fun n a => (List.range (n - 1)).all fun k => crossed (times a (tr n k)) == !crossed a) 6 = true := by decide +kernel
def dec (n : Nat) : Nat → T → List Nat → List Nat
  | 0, _, acc => acc
  | f + 1, a, acc => match (List.range (n - 1)).find? fun k => decide (a.idxOf (k + 1) < a.idxOf k) with
    | some k => dec n f (times a (tr n k)) (k :: acc)
    | none => acc
def redo (n : Nat) (t : T) (w : List Nat) : T := w.foldl (fun t k => times t (tr n k)) t
theorem dec_ok6 : allT (fun n a => decide (redo n (still n) (dec n 15 a []) = a) && (dec n 15 a []).all fun k => decide (k < n - 1)) 6 = true := by decide +kernel
theorem tr_isT {n k : Nat} (hn : n ≤ 6) (hk : k < n - 1) : IsT n (tr n k) := by
  have h := tr_isT6 n (by omega) k hk
  rw [Bool.and_eq_true, Bool.and_eq_true] at h
  exact ⟨by simpa using h.1.1, fun x hx => by simpa using List.all_eq_true.mp h.1.2 x hx, by simpa using h.2⟩
theorem redo_isT {n : Nat} (hn : n ≤ 6) : ∀ (w : List Nat) (t : T), IsT n t → (∀ k ∈ w, k < n - 1) → IsT n (redo n t w)
  | [], t, ht, _ => ht
  | k :: w, t, ht, hw => redo_isT hn w _ (ht.times (tr_isT hn (hw k List.mem_cons_self))) fun j hj => hw j (List.mem_cons_of_mem _ hj)
theorem redo_times {n : Nat} (hn : n ≤ 6) : ∀ (w : List Nat) (a t : T), IsT n a → IsT n t → (∀ k ∈ w, k < n - 1) → redo n (times a t) w = times a (redo n t w)
  | [], _, _, _, _, _ => rfl
  | k :: w, a, t, ha, ht, hw => by
    have hk := tr_isT hn (hw k List.mem_cons_self)
    show redo n (times (times a t) (tr n k)) w = times a (redo n (times t (tr n k)) w)
    rw [times_assoc ha ht, redo_times hn w a _ ha (ht.times hk) fun j hj => hw j (List.mem_cons_of_mem _ hj)]
theorem redo_cross {n : Nat} (hn : n ≤ 6) : ∀ (w : List Nat) (t : T), IsT n t → (∀ k ∈ w, k < n - 1) → crossed (redo n t w) = (crossed t != decide (w.length % 2 = 1))
  | [], t, _, _ => by
    show crossed t = (crossed t != false)
    cases crossed t <;> rfl
  | k :: w, t, ht, hw => by
    have hk := hw k List.mem_cons_self
    show crossed (redo n (times t (tr n k)) w) = _
    rw [redo_cross hn w _ (ht.times (tr_isT hn hk)) fun j hj => hw j (List.mem_cons_of_mem _ hj)]
    have h1 := List.all_eq_true.mp (allT_ok tr_cross6 hn ht) k (List.mem_range.mpr hk)
    rw [beq_iff_eq.mp h1, List.length_cons]
    rcases Nat.mod_two_eq_zero_or_one w.length with e | e
    · have : (w.length + 1) % 2 = 1 := by omega
      rw [e, this]
      cases crossed t <;> rfl
    · have : (w.length + 1) % 2 = 0 := by omega
      rw [e, this]
      cases crossed t <;> rfl
theorem still_not_crossed6 : ∀ n < 7, crossed (still n) = false := by decide +kernel
theorem crossed_times {n : Nat} {a b : T} (hn : n ≤ 6) (ha : IsT n a) (hb : IsT n b) : crossed (times a b) = (crossed a != crossed b) := by
  have h := allT_ok dec_ok6 hn hb
  rw [Bool.and_eq_true] at h
  have e := of_decide_eq_true h.1
  have hw : ∀ k ∈ dec n 15 b [], k < n - 1 := fun k hk => of_decide_eq_true (List.all_eq_true.mp h.2 k hk)
  generalize dec n 15 b [] = w at e hw
  have h1 := redo_cross hn w _ ha hw
  have h2 := redo_cross hn w _ (IsT.still n) hw
  rw [e, still_not_crossed6 n (by omega)] at h2
  have h3 := redo_times hn w a _ ha (IsT.still n) hw
  rw [times_still ha, e] at h3
  rw [← h3, h1, h2]
  cases crossed a <;> cases decide (w.length % 2 = 1) <;> rfl
theorem odd_is {n : Nat} {a : T} (hn : n ≤ 6) (ha : IsT n a) : isOdd a = crossed a := beq_iff_eq.mp (allT_ok odd_crossed6 hn ha)
theorem rings_are {n : Nat} {a : T} (hn : n ≤ 6) (ha : IsT n a) : ringsT a = lringsT a := of_decide_eq_true (allT_ok rings_same6 hn ha)
end Mt

set_option Elab.async false
set_option linter.all false
set_option maxRecDepth 100000
set_option maxHeartbeats 1000000
/-! S30: rings (K03 without its law). -/
namespace Ab
open PySem PySem.Spec
open Mt (T IsT)
def S_ring_from : SP := fun ds R => ∃ (n : Nat) (a : T) (p : Nat), ds = [eT a, eN p] ∧ n ≤ 6 ∧ IsT n a ∧ p < n ∧ R (.dat (eT (Mt.ring a p)))
def S_rings : SP := fun ds R => ∃ (n : Nat) (a : T), ds = [eT a] ∧ n ≤ 6 ∧ IsT n a ∧ R (.dat (eR (Mt.ringsT a)))
def S_is_odd : SP := fun ds R => ∃ (n : Nat) (a : T), ds = [eT a] ∧ n ≤ 6 ∧ IsT n a ∧ R (.dat (.bool (Mt.isOdd a)))
def S_Lrings : SP := fun ds R => ∃ (n : Nat) (a : T), ds = [eT a] ∧ n ≤ 6 ∧ IsT n a ∧ R (.dat (eR (Mt.lringsT a)))
def S_Lcrossed : SP := fun ds R => ∃ (n : Nat) (a : T), ds = [eT a] ∧ n ≤ 6 ∧ IsT n a ∧ R (.dat (.bool (Mt.crossed a)))
def w_ring_from : WS := (wSeq (wAsg 2 (wLst (wCons (wVar 1) wNil)))
 (wSeq (wWhile (wOp (dop neD) (wOp (dop ixD) (wVar 0) (wOp (dop ixD) (wVar 2) (wNeg (wC (.int 1))))) (wVar 1))
 (wApp 2 (wOp (dop ixD) (wVar 0) (wOp (dop ixD) (wVar 2) (wNeg (wC (.int 1)))))))
 (wRet (wTupleOf (wVar 2)))))
def w_rings : WS := (wSeq (wAsg 1 (wLst wNil))
 (wSeq (wFor (wiR1 (wCons (wCB (on1 lenD) (wCons (wVar 0) wNil)) wNil)) (gN 2)
 (wSeq (wAsg 3 (wCB S_ring_from (wCons (wVar 0) (wCons (wVar 2) wNil))))
 (wIf (wAnd (wOp (dop gtD) (wCB (on1 lenD) (wCons (wVar 3) wNil)) (wC (.int 1))) (wOp (dop eqD) (wCB (on1 minD1) (wCons (wVar 3) wNil)) (wVar 2)))
 (wApp 1 (wVar 3))
 wNx)))
 (wRet (wTupleOf (wVar 1)))))
def w_is_odd : WS := (wRet (wOp (dop eqD) (wOp (dop modD) (wCB (on1 lenD) (wCons (wLc (wiE (wCB S_rings (wCons (wVar 0) wNil))) (gN 1) (wOp (dop eqD) (wOp (dop modD) (wCB (on1 lenD) (wCons (wVar 1) wNil)) (wC (.int 2))) (wC (.int 0))) (wVar 1) [1]) wNil)) (wC (.int 2))) (wC (.int 1))))
def w_Lrings : WS := (wSeq (wAsg 1 (wLst wNil))
 (wSeq (wAsg 2 (wLst wNil))
 (wSeq (wFor (wiR1 (wCons (wCB (on1 lenD) (wCons (wVar 0) wNil)) wNil)) (gN 3)
 (wSeq (wAsg 4 (wLst wNil))
 (wSeq (wMove 5 3)
 (wSeq (wWhile (wOp (dop (inL true)) (wVar 5) (wVar 1))
 (wSeq (wApp 1 (wVar 5))
 (wSeq (wApp 4 (wVar 5))
 (wAsg 5 (wOp (dop ixD) (wVar 0) (wVar 5))))))
 (wIf (wOp (dop gtD) (wCB (on1 lenD) (wCons (wVar 4) wNil)) (wC (.int 1)))
 (wApp 2 (wTupleOf (wVar 4)))
 wNx)))))
 (wRet (wTupleOf (wVar 2))))))
def w_Lcrossed : WS := (wSeq (wAsg 1 (wC (.int 0)))
 (wSeq (wFor (wiR1 (wCons (wCB (on1 lenD) (wCons (wVar 0) wNil)) wNil)) (gN 2)
 (wAsg 1 (wOp addS (wVar 1) (wCB (on1 lenD) (wCons (wLc (wiR1 (wCons (wVar 2) wNil)) (gN 3) (wOp (dop gtD) (wOp (dop ixD) (wVar 0) (wVar 3)) (wOp (dop ixD) (wVar 0) (wVar 2))) (wVar 3) [3]) wNil)))))
 (wRet (wOp (dop eqD) (wOp (dop modD) (wVar 1) (wC (.int 2))) (wC (.int 1))))))
theorem atI_negL {α : Type} {l : List α} {i : Int} {j : Nat} {x : α} (h : l[j]? = some x) (hi : i = (j : Int) - l.length) : L2.atI l i = some x := by
  have hj := (List.getElem?_eq_some_iff.mp h).1
  unfold L2.atI L2.ixN
  rw [if_neg (by omega), if_pos (by omega), show (i + (l.length : Int)).toNat = j by omega]
  exact h
theorem ring_nat {a : T} {p : Nat} {n : Nat} (k : Nat) (hk : 1 ≤ k) : L2.atI (((List.range k).map (Mt.orb a p)).map eN) (-1) = some (eN (Mt.orb a p (k - 1))) := by
  refine atI_negL (j := k - 1) ?_ ?_
  · rw [List.getElem?_map, List.getElem?_map, List.getElem?_range (by omega)]
    rfl
  · rw [List.length_map, List.length_map, List.length_range]
    omega
theorem sp_ring_from : ∀ ds R, S_ring_from ds R → ds.length = 2 ∧ w_ring_from (initSS 3 ds) (fin R) := by
  rintro ds R ⟨n, a, p, rfl, hn, ha, hp, hr⟩
  refine ⟨rfl, ?_⟩
  obtain ⟨r1, r2, r3, r4⟩ := Mt.per_spec ha hp
  refine ⟨line_of (by simp), .inl ⟨rfl, trivial, ?_⟩⟩
  refine ⟨fun m ss => ∃ k : Nat, 1 ≤ k ∧ k ≤ Mt.per a p ∧ m + k = Mt.per a p ∧ ss = [.dat (eT a), .dat (eN p), .lst (((List.range k).map (Mt.orb a p)).map eN)], ⟨Mt.per a p - 1, 1, Nat.le_refl 1, r2, by omega, rfl⟩, ?_⟩
  rintro m ss ⟨k, hk1, hk2, hk3, rfl⟩
  have h1 := ring_nat (a := a) (p := p) (n := n) k hk1
  have hlt := Mt.orb_lt ha hp (k - 1)
  have h2 : Mt.app a (Mt.orb a p (k - 1)) = Mt.orb a p k := by
    obtain ⟨j, rfl⟩ : ∃ j, k = j + 1 := ⟨k - 1, by omega⟩
    rfl
  have h3 := ix_app ha hlt
  rw [h2] at h3
  refine ⟨_, h1, _, h3, shaped_int _, shaped_int _, ?_⟩
  show if (!PyData.eqv (.int ((Mt.orb a p k : Nat) : Int)) (.int ((p : Nat) : Int))) = true then _ else _
  rw [eqv_int]
  refine if_nd (fun hne => ?_) fun he => ?_
  · refine ⟨_, h1, _, h3, rfl, ?_, m - 1, ?_⟩
    · rw [List.length_map, List.length_map, List.length_range]
      have := sizeLine_eq
      omega
    · have hk : k ≠ Mt.per a p := fun z => hne (by rw [z, r1])
      refine ⟨by omega, k + 1, by omega, by omega, by omega, ?_⟩
      rw [List.range_succ, List.map_append, List.map_append]
      rfl
  · have hk : k = Mt.per a p := by
      rcases Nat.lt_or_ge k (Mt.per a p) with h | h
      · exact absurd (show Mt.orb a p k = p by omega) (r4 k hk1 h)
      · omega
    subst hk
    exact hr
theorem minD_nat (x : Nat) (xs : List Nat) : PySem.W.minD (eN x) (xs.map eN) = eN (Mt.minL (x :: xs)) := by
  show PySem.W.minD (.int (x : Nat)) (xs.map eN) = .int ((xs.foldl min x : Nat) : Int)
  rw [show xs.map eN = (xs.map fun n => ((n : Nat) : Int)).map PyData.int by rw [List.map_map]; rfl, PySem.W.minD_ints]
  congr 1
  induction xs generalizing x with
  | nil => rfl
  | cons y ys ih =>
    rw [List.map_cons, List.foldl_cons, List.foldl_cons, show min ((x : Nat) : Int) ((y : Nat) : Int) = ((min x y : Nat) : Int) by omega]
    exact ih _
theorem minOk_nat (l : List Nat) : MinOk (l.map eN) := by
  obtain ⟨h1, h2⟩ := shAll eN l (k := 0) fun a _ => Sh.int a
  refine ⟨⟨fun x hx y hy => ?_, fun x hx => ?_⟩, h1, by omega⟩
  · obtain ⟨a, _, rfl⟩ := List.mem_map.mp hx
    obtain ⟨b, _, rfl⟩ := List.mem_map.mp hy
    rfl
  · obtain ⟨a, _, rfl⟩ := List.mem_map.mp hx
    exact fun z => nomatch z
theorem ring_cons (a : T) (p : Nat) : ∃ xs, Mt.ring a p = p :: xs := by
  refine ⟨(List.range (Mt.per a p - 1)).map fun k => Mt.orb a p (k + 1), ?_⟩
  unfold Mt.ring
  have h : Mt.per a p = (Mt.per a p - 1) + 1 := by
    unfold Mt.per
    rfl
  rw [h, List.range_succ_eq_map, List.map_cons, List.map_map]
  rfl
theorem filter_succ (f : Nat → Bool) (k : Nat) : (List.range (k + 1)).filter f = (List.range k).filter f ++ (if f k = true then [k] else []) := by
  rw [List.range_succ, List.filter_append]
  congr 1
  cases h : f k <;> simp [h]
theorem rings_len (a : T) (k : Nat) : (((List.range k).filter (Mt.ringHead a)).map (Mt.ring a)).length ≤ k := by
  rw [List.length_map]
  exact Nat.le_trans (List.length_filter_le _ _) (by rw [List.length_range]; exact Nat.le_refl _)
theorem sp_rings : ∀ ds R, S_rings ds R → ds.length = 1 ∧ w_rings (initSS 4 ds) (fin R) := by
  rintro ds R ⟨n, a, rfl, hn, ha, hr⟩
  refine ⟨rfl, ?_⟩
  refine ⟨Nat.zero_le _, .inl ⟨rfl, trivial, ?_⟩⟩
  show -(2 ^ 62) ≤ (((a.map eN).length : Nat) : Int) ∧ (((a.map eN).length : Nat) : Int) < 2 ^ 62 ∧ forRun (gN 2) _ (rangeIds 0 ((a.map eN).length : Nat)) [.dat (eT a), .lst [], .no, .no] _
  rw [len_eT ha, rangeIds_nat]
  refine ⟨by omega, by omega, for_all _ (fun pre ss => ∃ s t, ss = [.dat (eT a), .lst ((((List.range pre.length).filter (Mt.ringHead a)).map (Mt.ring a)).map eT), s, t]) (List.range n) ⟨_, _, rfl⟩ ?_ ?_⟩
  · rintro pre k post ss e ⟨s, t, rfl⟩ K hK
    obtain ⟨rfl, hk⟩ := range_at e
    have hlen := rings_len a pre.length
    have go : ∀ b, Mt.ringHead a pre.length = b → K [.dat (eT a), .lst ((((List.range pre.length).filter (Mt.ringHead a)).map (Mt.ring a) ++ (if b = true then [Mt.ring a pre.length] else [])).map eT), .dat (eN pre.length), .dat (eT (Mt.ring a pre.length))] := fun b hb => by
      refine hK _ ⟨.dat (eN pre.length), .dat (eT (Mt.ring a pre.length)), ?_⟩
      rw [List.length_append, List.length_singleton, filter_succ, hb, List.map_append (f := Mt.ring a)]
      cases b <;> rfl
    refine ⟨n, a, pre.length, rfl, hn, ha, hk, .inl (noL_eT _), ?_⟩
    obtain ⟨xs, hx⟩ := ring_cons a pre.length
    have hh : Mt.ringHead a pre.length = (decide (1 < (Mt.ring a pre.length).length) && decide (Mt.minL (Mt.ring a pre.length) = pre.length)) := rfl
    rw [hx] at hh go ⊢
    show if decide ((1 : Int) < (((pre.length :: xs).map eN).length : Nat)) = true then _ else _
    refine if_dec (fun h1 => ?_) fun h1 => ?_
    · have h1' : 1 < (pre.length :: xs).length := by
        rw [List.length_map] at h1
        omega
      rw [decide_eq_true h1', Bool.true_and] at hh
      refine ⟨minOk_nat (pre.length :: xs), ?_⟩
      rw [minD_nat]
      refine ⟨shaped_int _, shaped_int _, ?_⟩
      show if PyData.eqv (.int ((Mt.minL (pre.length :: xs) : Nat) : Int)) (.int ((pre.length : Nat) : Int)) = true then _ else _
      rw [eqv_int]
      refine if_dec (fun h2 => ?_) fun h2 => ?_
      · rw [decide_eq_true (show Mt.minL (pre.length :: xs) = pre.length by omega)] at hh
        have g := go true hh
        refine ⟨noL_eT _, ?_, ?_⟩
        · rw [List.length_map]
          have := sizeLine_eq
          omega
        · rw [if_pos rfl, List.map_append] at g
          exact g
      · rw [decide_eq_false (show ¬ Mt.minL (pre.length :: xs) = pre.length by omega)] at hh
        have g := go false hh
        rw [if_neg (by decide), List.append_nil] at g
        exact g
    · have h1' : ¬ 1 < (pre.length :: xs).length := by
        rw [List.length_map] at h1
        omega
      rw [decide_eq_false h1', Bool.false_and] at hh
      have g := go false hh
      rw [if_neg (by decide), List.append_nil] at g
      exact g
  · rintro ss ⟨s, t, rfl⟩
    rw [List.length_range]
    unfold Mt.ringsT at hr
    rw [ha.len] at hr
    exact hr
theorem ones_map' {α : Type} (f : α → D) (l : List α) : ones (l.map f) = l.map fun x => ID.one (f x) := by
  unfold ones
  rw [List.map_map]
  rfl
theorem mod2_nat (k : Nat) : ((k : Nat) : Int) % 2 = ((k % 2 : Nat) : Int) := rfl
theorem noLs_eT (rs : List T) : noLs (rs.map eT) = true := noLs_map eT noL_eT rs
theorem sp_is_odd : ∀ ds R, S_is_odd ds R → ds.length = 1 ∧ w_is_odd (initSS 2 ds) (fin R) := by
  rintro ds R ⟨n, a, rfl, hn, ha, hr⟩
  refine ⟨rfl, ?_⟩
  refine ⟨n, a, rfl, hn, ha, .inl (noLs_eT _), ?_⟩
  show lcRun (gN 1) _ (wVar 1) [.dat (eT a), .no] (ones ((Mt.ringsT a).map eT)) [] _
  rw [ones_map']
  have hl : (Mt.ringsT a).length ≤ 6 := by
    have := rings_len a n
    unfold Mt.ringsT
    rw [ha.len]
    omega
  refine lc_filter _ (fun r => decide (r.length % 2 = 0)) eT (Mt.ringsT a) [] (line_of (by simp; omega)) (fun r _ _ => noL_eT r) (fun r _ A B hA hB => ?_) ?_
  · refine ⟨by show (0 : Int) < 2; decide, shaped_int _, shaped_int _, ?_⟩
    show if PyData.eqv (.int ((((r.map eN).length : Nat) : Int) % 2)) (.int 0) = true then _ else _
    rw [eqv_int, List.length_map, mod2_nat]
    refine if_dec (fun h => hA (decide_eq_true (by omega))) fun h => hB (decide_eq_false (by omega))
  · refine ⟨by show (0 : Int) < 2; decide, shaped_int _, shaped_int _, ?_⟩
    show R (.dat (.bool (PyData.eqv (.int (((([] : List D) ++ ((Mt.ringsT a).filter fun r => decide (r.length % 2 = 0)).map eT).length : Nat) % 2)) (.int 1))))
    rw [eqv_int, List.nil_append, List.length_map, mod2_nat]
    have e : decide (((((Mt.ringsT a).filter fun r => decide (r.length % 2 = 0)).length % 2 : Nat) : Int) = 1) = Mt.isOdd a := by
      unfold Mt.isOdd
      exact decide_eq_decide.mpr (by omega)
    rw [e]
    exact hr
theorem sp_Lcrossed : ∀ ds R, S_Lcrossed ds R → ds.length = 1 ∧ w_Lcrossed (initSS 4 ds) (fin R) := by
  rintro ds R ⟨n, a, rfl, hn, ha, hr⟩
  refine ⟨rfl, ?_⟩
  refine ⟨.inl rfl, ?_⟩
  show -(2 ^ 62) ≤ (((a.map eN).length : Nat) : Int) ∧ (((a.map eN).length : Nat) : Int) < 2 ^ 62 ∧ forRun (gN 2) _ (rangeIds 0 ((a.map eN).length : Nat)) [.dat (eT a), .dat (eN 0), .no, .no] _
  rw [len_eT ha, rangeIds_nat]
  refine ⟨by omega, by omega, for_all _ (fun pre ss => ∃ s, ss = [.dat (eT a), .dat (eN (pre.foldl (fun c i => c + Mt.crossN a i) 0)), s, .no]) (List.range n) ⟨_, rfl⟩ ?_ ?_⟩
  · rintro pre k post ss e ⟨s, rfl⟩ K hK
    obtain ⟨rfl, hk⟩ := range_at e
    generalize hc : pre.foldl (fun c i => c + Mt.crossN a i) 0 = c
    show -(2 ^ 62) ≤ ((pre.length : Nat) : Int) ∧ ((pre.length : Nat) : Int) < 2 ^ 62 ∧ lcRun (gN 3) _ (wVar 3) [.dat (eT a), .dat (eN c), .dat (eN pre.length), .no] (rangeIds 0 (pre.length : Nat)) [] _
    rw [rangeIds_nat]
    refine ⟨by omega, by omega, lc_filter _ (fun j => decide (Mt.app a pre.length < Mt.app a j)) eN (List.range pre.length) [] ?_ (fun _ _ _ => rfl) (fun j hj A B hA hB => ?_) ?_⟩
    · rw [List.length_range]
      exact line_of (by simp; omega)
    · have hj : j < pre.length := List.mem_range.mp hj
      refine ⟨_, ix_app ha (show j < n by omega), _, ix_app ha hk, ?_⟩
      show if decide (((Mt.app a pre.length : Nat) : Int) < ((Mt.app a j : Nat) : Int)) = true then _ else _
      exact if_dec (fun h => hA (decide_eq_true (by omega))) fun h => hB (decide_eq_false (by omega))
    · refine ⟨.inl rfl, ?_⟩
      show K [.dat (eT a), .dat (.int (((c : Nat) : Int) + ((([] : List D) ++ ((List.range pre.length).filter fun j => decide (Mt.app a pre.length < Mt.app a j)).map eN).length : Nat))), .dat (eN pre.length), .no]
      rw [List.nil_append, List.length_map]
      refine hK _ ⟨.dat (eN pre.length), ?_⟩
      rw [List.foldl_append, hc]
      rfl
  · rintro ss ⟨s, rfl⟩
    refine ⟨by show (0 : Int) < 2; decide, shaped_int _, shaped_int _, ?_⟩
    generalize hc : (List.range n).foldl (fun c i => c + Mt.crossN a i) 0 = c
    show R (.dat (.bool (PyData.eqv (.int (((c : Nat) : Int) % 2)) (.int 1))))
    rw [eqv_int, mod2_nat]
    have e : decide (((c % 2 : Nat) : Int) = 1) = Mt.crossed a := by
      unfold Mt.crossed
      rw [ha.len, hc]
      exact decide_eq_decide.mpr (by omega)
    rw [e]
    exact hr
theorem any_eN (l : List Nat) (x : Nat) : (l.map eN).any (fun z => PyData.eqv z (eN x)) = decide (x ∈ l) := by
  rw [List.any_map, Bool.eq_iff_iff, List.any_eq_true, decide_eq_true_iff]
  constructor
  · rintro ⟨y, hy, h⟩
    have h : PyData.eqv (.int ((y : Nat) : Int)) (.int ((x : Nat) : Int)) = true := h
    rw [eqv_int] at h
    have : y = x := by
      have := of_decide_eq_true h
      omega
    rw [← this]
    exact hy
  · intro h
    refine ⟨x, h, ?_⟩
    show PyData.eqv (.int ((x : Nat) : Int)) (.int ((x : Nat) : Int)) = true
    rw [eqv_int]
    exact decide_eq_true rfl
theorem shaped_lN (l : List Nat) : SeqAt.shaped (.list (l.map eN)) = true := (Sh.lst eN l (k := 0) fun a _ => Sh.int a).ok (by decide)
theorem chase_in {a : T} {m at_ : Nat} {met ring : List Nat} (hm : 1 ≤ m) (h : at_ ∈ met) : Mt.chase a m at_ met ring = (met, ring) := by
  obtain ⟨j, rfl⟩ : ∃ j, m = j + 1 := ⟨m - 1, by omega⟩
  show (if at_ ∈ met then (met, ring) else _) = _
  rw [if_pos h]
theorem chase_out {a : T} {m at_ : Nat} {met ring : List Nat} (h : at_ ∉ met) : Mt.chase a (m + 1) at_ met ring = Mt.chase a m (Mt.app a at_) (met ++ [at_]) (ring ++ [at_]) := by
  show (if at_ ∈ met then (met, ring) else _) = _
  rw [if_neg h]
structure Met (n : Nat) (l : List Nat) : Prop where
  nd : l.Nodup
  lt : ∀ x ∈ l, x < n
theorem Met.len {n : Nat} {l : List Nat} (h : Met n l) : l.length ≤ n := Mt.pigeon n l h.lt h.nd
theorem Met.add {n : Nat} {l : List Nat} {x : Nat} (h : Met n l) (hx : x < n) (hn : x ∉ l) : Met n (l ++ [x]) := by
  refine ⟨?_, fun y hy => ?_⟩
  · rw [List.nodup_append]
    exact ⟨h.nd, by simp, fun y hy z hz e => hn (by rw [List.mem_singleton.mp hz] at e; rw [← e]; exact hy)⟩
  · rcases List.mem_append.mp hy with hy | hy
    · exact h.lt y hy
    · rw [List.mem_singleton.mp hy]; exact hx
theorem chase_met {n : Nat} {a : T} (ha : IsT n a) : ∀ (m at_ : Nat) (met ring : List Nat), Met n met → at_ < n → Met n (Mt.chase a m at_ met ring).1
  | 0, _, _, _, h, _ => h
  | m + 1, at_, met, ring, h, hat => by
    by_cases hi : at_ ∈ met
    · rw [chase_in (by omega) hi]
      exact h
    · rw [chase_out hi]
      exact chase_met ha m _ _ _ (h.add hat hi) (ha.app_lt hat)
theorem sp_Lrings : ∀ ds R, S_Lrings ds R → ds.length = 1 ∧ w_Lrings (initSS 6 ds) (fin R) := by
  rintro ds R ⟨n, a, rfl, hn, ha, hr⟩
  refine ⟨rfl, ?_⟩
  refine ⟨Nat.zero_le _, .inl ⟨rfl, trivial, Nat.zero_le _, .inl ⟨rfl, trivial, ?_⟩⟩⟩
  show -(2 ^ 62) ≤ (((a.map eN).length : Nat) : Int) ∧ (((a.map eN).length : Nat) : Int) < 2 ^ 62 ∧ forRun (gN 3) _ (rangeIds 0 ((a.map eN).length : Nat)) [.dat (eT a), .lst [], .lst [], .no, .no, .no] _
  rw [len_eT ha, rangeIds_nat]
  refine ⟨by omega, by omega, for_all _ (fun pre ss => ∃ (met : List Nat) (found : List (List Nat)) (s t u : SV), pre.foldl (Mt.lstep a) ([], []) = (met, found) ∧ Met n met ∧ found.length ≤ pre.length ∧ ss = [.dat (eT a), .lst (met.map eN), .lst (found.map eT), s, t, u]) (List.range n) ⟨[], [], _, _, _, rfl, ⟨List.nodup_nil, by simp⟩, Nat.le_refl _, rfl⟩ ?_ ?_⟩
  · rintro pre p post ss e ⟨met, found, s, t, u, hf, hmet, hfl, rfl⟩ K hK
    obtain ⟨rfl, hk⟩ := range_at e
    have big : ∀ k : Nat, k ≤ 100 → k < sizeLine := fun k hk => by
      have := sizeLine_eq
      omega
    refine ⟨Nat.zero_le _, .inl ⟨rfl, trivial, by decide, ?_⟩⟩
    refine ⟨fun m ss => ∃ (met' ring : List Nat) (at_ : Nat), Met n met' ∧ at_ < n ∧ m + met'.length = n + 1 ∧ ring.length ≤ met'.length ∧ Mt.chase a m at_ met' ring = Mt.chase a (n + 1 - met.length) pre.length met [] ∧
      ss = [.dat (eT a), .lst (met'.map eN), .lst (found.map eT), .dat (eN pre.length), .lst (ring.map eN), .dat (eN at_)], ⟨n + 1 - met.length, met, [], pre.length, hmet, hk, by have := hmet.len; omega, Nat.zero_le _, rfl, rfl⟩, ?_⟩
    rintro m ss ⟨met', ring, at_, hm1, hat, hm2, hrl, hch, rfl⟩
    have hml := hm1.len
    have hap := ix_app ha hat
    refine ⟨shaped_int _, shaped_lN met', ?_⟩
    show if (!(met'.map eN).any fun z => PyData.eqv z (eN at_)) = true then _ else _
    rw [any_eN]
    refine if_nd (fun hno => ?_) fun hin => ?_
    · refine ⟨rfl, by rw [List.length_map]; exact big _ (by omega), rfl, by rw [List.length_map]; exact big _ (by omega), _, hap, .inl rfl, m - 1, by omega, met' ++ [at_], ring ++ [at_], Mt.app a at_, hm1.add hat hno, ha.app_lt hat, ?_, ?_, ?_, ?_⟩
      · rw [List.length_append, List.length_singleton]
        omega
      · rw [List.length_append, List.length_append]
        simp only [List.length_singleton]
        omega
      · rw [← hch]
        obtain ⟨j, rfl⟩ : ∃ j, m = j + 1 := ⟨m - 1, by omega⟩
        exact (chase_out hno).symm
      · rw [List.map_append, List.map_append]
        rfl
    · rw [chase_in (by omega) hin] at hch
      have hst : (pre ++ [pre.length]).foldl (Mt.lstep a) ([], []) = (met', if 1 < ring.length then found ++ [ring] else found) := by
        rw [List.foldl_append, hf]
        show ((Mt.chase a (a.length + 1 - met.length) pre.length met []).1, if 1 < (Mt.chase a (a.length + 1 - met.length) pre.length met []).2.length then found ++ [(Mt.chase a (a.length + 1 - met.length) pre.length met []).2] else found) = _
        rw [ha.len, ← hch]
      have hpl : (pre ++ [pre.length]).length = pre.length + 1 := by rw [List.length_append]; rfl
      show if decide ((1 : Int) < ((ring.map eN).length : Nat)) = true then _ else _
      refine if_dec (fun h => ?_) fun h => ?_
      · rw [List.length_map] at h
        rw [if_pos (show 1 < ring.length by omega)] at hst
        refine ⟨noL_eT ring, by rw [List.length_map]; exact big _ (by omega), hK _ ⟨met', found ++ [ring], .dat (eN pre.length), .lst (ring.map eN), .dat (eN at_), hst, hm1, by rw [List.length_append, List.length_singleton]; omega, ?_⟩⟩
        rw [List.map_append]
        rfl
      · rw [List.length_map] at h
        rw [if_neg (show ¬ 1 < ring.length by omega)] at hst
        exact hK _ ⟨met', found, .dat (eN pre.length), .lst (ring.map eN), .dat (eN at_), hst, hm1, by omega, rfl⟩
  · rintro ss ⟨met, found, s, t, u, hf, _, _, rfl⟩
    have e : found = Mt.lringsT a := by
      unfold Mt.lringsT
      rw [ha.len, hf]
    rw [e]
    exact hr
theorem eqv_bool (a b : Bool) : PyData.eqv (.bool a) (.bool b) = (a == b) := by rw [PyData.eqv]
end Ab

set_option Elab.async false
set_option linter.all false
set_option maxRecDepth 100000
set_option maxHeartbeats 1000000
/-! S10: words. -/
namespace Mt
def partT (row : List T) (p : Int) : T := if p < 0 then back (row.getD (-1 - p).toNat []) else row.getD p.toNat []
def doneT (n : Nat) (row : List T) (w : List Int) : T := w.foldl (fun t p => times t (partT row p)) (still n)
def Row (n : Nat) (row : List T) : Prop := ∀ t ∈ row, IsT n t
def Part (row : List T) (p : Int) : Prop := -(row.length : Int) ≤ p ∧ p < row.length
theorem getD_mem {row : List T} {i : Nat} (h : i < row.length) : row.getD i [] ∈ row := by
  rw [List.getD_eq_getElem?_getD, List.getElem?_eq_getElem h]
  exact List.getElem_mem h
theorem Row.part {n : Nat} {row : List T} (h : Row n row) {p : Int} (hp : Part row p) : IsT n (partT row p) := by
  obtain ⟨h1, h2⟩ := hp
  unfold partT
  by_cases h0 : p < 0
  · rw [if_pos h0]
    exact (h _ (getD_mem (by omega))).back
  · rw [if_neg h0]
    exact h _ (getD_mem (by omega))
theorem fold_isT {n : Nat} {row : List T} (h : Row n row) : ∀ (w : List Int) (t : T), IsT n t → (∀ p ∈ w, Part row p) → IsT n (w.foldl (fun t p => times t (partT row p)) t)
  | [], t, ht, _ => ht
  | p :: w, t, ht, hw => fold_isT h w _ (ht.times (h.part (hw p List.mem_cons_self))) fun q hq => hw q (List.mem_cons_of_mem _ hq)
theorem Row.done {n : Nat} {row : List T} (h : Row n row) {w : List Int} (hw : ∀ p ∈ w, Part row p) : IsT n (doneT n row w) := fold_isT h w _ (IsT.still n) hw
theorem fold_times {n : Nat} {row : List T} (h : Row n row) : ∀ (w : List Int) (t : T), IsT n t → (∀ p ∈ w, Part row p) → w.foldl (fun t p => times t (partT row p)) t = times t (doneT n row w)
  | [], t, ht, _ => (times_still ht).symm
  | p :: w, t, ht, hw => by
    have hp := h.part (hw p List.mem_cons_self)
    have hw' := fun q hq => hw q (List.mem_cons_of_mem _ hq)
    unfold doneT
    rw [List.foldl_cons, List.foldl_cons, fold_times h w _ (ht.times hp) hw', still_times hp, fold_times h w _ hp hw', times_assoc ht hp]
theorem done_append {n : Nat} {row : List T} (h : Row n row) {v w : List Int} (hv : ∀ p ∈ v, Part row p) (hw : ∀ p ∈ w, Part row p) : doneT n row (v ++ w) = times (doneT n row v) (doneT n row w) := by
  show (v ++ w).foldl _ _ = _
  rw [List.foldl_append]
  exact fold_times h w _ (h.done hv) hw
theorem done_one {n : Nat} {row : List T} (h : Row n row) {p : Int} (hp : Part row p) : doneT n row [p] = partT row p := still_times (h.part hp)
theorem part_back {n : Nat} {row : List T} (h : Row n row) {p : Int} (hp : Part row p) : partT row (-1 - p) = back (partT row p) := by
  obtain ⟨h1, h2⟩ := hp
  unfold partT
  by_cases h0 : p < 0
  · rw [if_pos h0, if_neg (by omega), back_back (h _ (getD_mem (by omega)))]
  · rw [if_neg h0, if_pos (by omega), show (-1 - (-1 - p)) = p by omega]
theorem Part.back {row : List T} {p : Int} (hp : Part row p) : Part row (-1 - p) := ⟨by have := hp.2; omega, by have := hp.1; omega⟩
theorem done_undone {n : Nat} {row : List T} (h : Row n row) : ∀ {w : List Int}, (∀ p ∈ w, Part row p) → doneT n row (w ++ w.reverse.map fun p => -1 - p) = still n
  | [], _ => rfl
  | p :: w, hw => by
    have hp := hw p List.mem_cons_self
    have hw' : ∀ q ∈ w, Part row q := fun q hq => hw q (List.mem_cons_of_mem _ hq)
    have ht := h.part hp
    have hu : ∀ q ∈ w.reverse.map (fun p => -1 - p), Part row q := fun q hq => by
      obtain ⟨r, hr, rfl⟩ := List.mem_map.mp hq
      exact (hw' r (List.mem_reverse.mp hr)).back
    have hpb : ∀ q ∈ [-1 - p], Part row q := fun q hq => by
      rw [List.mem_singleton.mp hq]
      exact hp.back
    have hp1 : ∀ q ∈ [p], Part row q := fun q hq => by
      rw [List.mem_singleton.mp hq]
      exact hp
    rw [List.reverse_cons, List.map_append, List.map_singleton, show p :: w ++ (w.reverse.map (fun p => -1 - p) ++ [-1 - p]) = [p] ++ ((w ++ w.reverse.map (fun p => -1 - p)) ++ [-1 - p]) by simp]
    rw [done_append h hp1 (fun q hq => ?_), done_append h (fun q hq => ?_) hpb, done_undone h hw', done_one h hp, done_one h hp.back, part_back h hp, still_times ht.back, times_back ht]
    · rcases List.mem_append.mp hq with hq | hq
      · exact hw' q hq
      · exact hu q hq
    · rcases List.mem_append.mp hq with hq | hq
      · rcases List.mem_append.mp hq with hq | hq
        · exact hw' q hq
        · exact hu q hq
      · exact hpb q hq
end Mt
namespace Ab
open PySem PySem.Spec
open Mt (T IsT)
def eW (w : List Int) : D := .tuple (w.map PyData.int)
def S_part_of : SP := fun ds R => ∃ (n : Nat) (row : List T) (p : Int), ds = [eR row, .int p] ∧ n ≤ 6 ∧ Mt.Row n row ∧ Mt.Part row p ∧ R (.dat (eT (Mt.partT row p)))
def S_done : SP := fun ds R => ∃ (n : Nat) (row : List T) (w : List Int), ds = [eR row, eN n, eW w] ∧ n ≤ 6 ∧ Mt.Row n row ∧ (∀ p ∈ w, Mt.Part row p) ∧ R (.dat (eT (Mt.doneT n row w)))
def S_Ldone : SP := S_done
def w_part_of : WS := (wSeq (wIf (wOp (dop ltD) (wVar 1) (wC (.int 0)))
 (wRet (wCB S_back (wCons (wOp (dop ixD) (wVar 0) (wOp (dop subD) (wNeg (wC (.int 1))) (wVar 1))) wNil)))
 wNx)
 (wRet (wOp (dop ixD) (wVar 0) (wVar 1))))
def w_done : WS := (wSeq (wAsg 3 (wCB S_still (wCons (wVar 1) wNil)))
 (wSeq (wFor (wiVar 2) (gN 4)
 (wAsg 3 (wCB S_times (wCons (wVar 3) (wCons (wCB S_part_of (wCons (wVar 0) (wCons (wVar 4) wNil))) wNil)))))
 (wRetV 3)))
def w_Ldone : WS := (wSeq (wAsg 3 (wTupRg (wR1 (wVar 1))))
 (wSeq (wFor (wiVar 2) (gN 4)
 (wSeq (wAsg 5 (wOp (dop ixD) (wVar 0) (wVar 4)))
 (wSeq (wIf (wOp (dop ltD) (wVar 4) (wC (.int 0)))
 (wAsg 5 (wCB S_Lback (wCons (wOp (dop ixD) (wVar 0) (wOp (dop subD) (wNeg (wC (.int 1))) (wVar 4))) wNil)))
 wNx)
 (wAsg 3 (wCB S_Ltimes (wCons (wVar 3) (wCons (wVar 5) wNil)))))))
 (wRetV 3)))
theorem atI_neg {α : Type} {l : List α} {i : Int} {j : Nat} {x : α} (h : l[j]? = some x) (hi : i = (j : Int) - l.length) : L2.atI l i = some x := by
  have hj := (List.getElem?_eq_some_iff.mp h).1
  unfold L2.atI L2.ixN
  rw [if_neg (by omega), if_pos (by omega), show (i + (l.length : Int)).toNat = j by omega]
  exact h
theorem row_get {row : List T} {i : Nat} (h : i < row.length) : row[i]? = some (row.getD i []) := by
  rw [List.getD_eq_getElem?_getD, List.getElem?_eq_getElem h]
  rfl
theorem row_at {row : List T} {p : Int} (h0 : 0 ≤ p) (h1 : p < row.length) : L2.atI (row.map eT) p = some (eT (row.getD p.toNat [])) := by
  have e : p = ((p.toNat : Nat) : Int) := by omega
  rw [e]
  exact ix_map (row_get (by omega))
theorem sp_part_of : ∀ ds R, S_part_of ds R → ds.length = 2 ∧ w_part_of (initSS 2 ds) (fin R) := by
  rintro ds R ⟨n, row, p, rfl, hn, hr, hp, h⟩
  refine ⟨rfl, ?_⟩
  obtain ⟨p1, p2⟩ := hp
  unfold Mt.partT at h
  refine if_dec (p := p < 0) (fun h0 => ?_) fun h0 => ?_
  · rw [if_pos h0] at h
    refine ⟨_, row_at (p := -1 - p) (by omega) (by omega), n, _, rfl, hn, hr _ (Mt.getD_mem (by omega)), h⟩
  · rw [if_neg h0] at h
    exact ⟨_, row_at (p := p) (by omega) (by omega), h⟩
theorem ones_map {α : Type} (f : α → D) (l : List α) : ones (l.map f) = l.map fun x => ID.one (f x) := by
  unfold ones
  rw [List.map_map]
  rfl
theorem sp_done : ∀ ds R, S_done ds R → ds.length = 3 ∧ w_done (initSS 5 ds) (fin R) := by
  rintro ds R ⟨n, row, w, rfl, hn, hr, hw, h⟩
  refine ⟨rfl, ?_⟩
  refine ⟨n, rfl, hn, .inl (noL_eT _), ?_⟩
  show forRun (gN 4) _ (ones (w.map PyData.int)) [.dat (eR row), .dat (eN n), .dat (eW w), .dat (eT (Mt.still n)), .no] _
  rw [ones_map]
  refine for_all _ (fun pre ss => ∃ s, ss = [.dat (eR row), .dat (eN n), .dat (eW w), .dat (eT (Mt.doneT n row pre)), s]) w ⟨_, rfl⟩ ?_ ?_
  · rintro pre p post ss e ⟨s, rfl⟩ K hK
    have hp : Mt.Part row p := hw p (by rw [e]; simp)
    have hpre : ∀ q ∈ pre, Mt.Part row q := fun q hq => hw q (by rw [e]; exact List.mem_append_left _ hq)
    refine ⟨n, row, p, rfl, hn, hr, hp, n, _, _, rfl, hn, hr.done hpre, hr.part hp, .inl (noL_eT _), hK _ ⟨.dat (.int p), ?_⟩⟩
    unfold Mt.doneT
    rw [List.foldl_append]
    rfl
  · rintro ss ⟨s, rfl⟩
    exact h
theorem sp_Ldone : ∀ ds R, S_Ldone ds R → ds.length = 3 ∧ w_Ldone (initSS 6 ds) (fin R) := by
  rintro ds R ⟨n, row, w, rfl, hn, hr, hw, h⟩
  refine ⟨rfl, ?_⟩
  refine ⟨rgOk_nat (by omega), .inl (noL_map_rg n), ?_⟩
  show forRun (gN 4) _ (ones (w.map PyData.int)) [.dat (eR row), .dat (eN n), .dat (eW w), .dat (.tuple (rgD 0 (n : Nat))), .no, .no] _
  rw [ones_map, rgI_nat]
  refine for_all _ (fun pre ss => ∃ s t, ss = [.dat (eR row), .dat (eN n), .dat (eW w), .dat (eT (Mt.doneT n row pre)), s, t]) w ⟨_, _, rfl⟩ ?_ ?_
  · rintro pre p post ss e ⟨s, t, rfl⟩ K hK
    have hp : Mt.Part row p := hw p (by rw [e]; simp)
    have hpre : ∀ q ∈ pre, Mt.Part row q := fun q hq => hw q (by rw [e]; exact List.mem_append_left _ hq)
    have hd := hr.done hpre
    have hpt := hr.part hp
    have e2 : Mt.doneT n row (pre ++ [p]) = Mt.times (Mt.doneT n row pre) (Mt.partT row p) := by
      unfold Mt.doneT
      rw [List.foldl_append]
      rfl
    by_cases h0 : p < 0
    · obtain ⟨p1, p2⟩ := hp
      have hg : L2.atI (row.map eT) p = some (eT (row.getD (row.length + p).toNat [])) :=
        atI_neg (j := (row.length + p).toNat) (by rw [List.getElem?_map, row_get (by omega)]; rfl) (by rw [List.length_map]; omega)
      refine ⟨_, hg, .inl (noL_eT _), ?_⟩
      refine if_dec (p := p < 0) (fun _ => ?_) fun z => absurd h0 z
      refine ⟨_, row_at (p := -1 - p) (by omega) (by omega), n, _, rfl, hn, hr _ (Mt.getD_mem (by omega)), .inl (noL_eT _), ?_⟩
      have e3 : Mt.partT row p = Mt.back (row.getD (-1 - p).toNat []) := by
        unfold Mt.partT
        rw [if_pos h0]
      rw [e3] at e2 hpt
      exact ⟨n, _, _, rfl, hn, hd, hpt, .inl (noL_eT _), hK _ ⟨.dat (.int p), _, by rw [e2]; rfl⟩⟩
    · obtain ⟨p1, p2⟩ := hp
      refine ⟨_, row_at (p := p) (by omega) (by omega), .inl (noL_eT _), ?_⟩
      refine if_dec (p := p < 0) (fun z => absurd z h0) fun _ => ?_
      have e3 : Mt.partT row p = row.getD p.toNat [] := by
        unfold Mt.partT
        rw [if_neg h0]
      rw [e3] at e2 hpt
      exact ⟨n, _, _, rfl, hn, hd, hpt, .inl (noL_eT _), hK _ ⟨.dat (.int p), _, by rw [e2]; rfl⟩⟩
  · rintro ss ⟨s, t, rfl⟩
    exact h
end Ab

set_option linter.all false
set_option maxRecDepth 100000
/-! Mth4: yards as sorted lists of turns; ladders. -/
namespace Mt
open Mt
/-! ### sorted lists -/
def SS (l : List T) : Prop := l.Pairwise (· < ·)
theorem SS.nodup {l : List T} (h : SS l) : l.Nodup := List.Pairwise.imp (S := fun a b => a ≠ b) (fun {a b} h e => by subst e; exact List.lt_irrefl a h) h
theorem ss_ext {a b : List T} (ha : SS a) (hb : SS b) (h : ∀ t, t ∈ a ↔ t ∈ b) : a = b :=
  List.Perm.eq_of_pairwise (le := (· < ·)) (fun x y _ _ h1 h2 => absurd h2 (List.lt_asymm h1)) ha hb ((List.perm_ext_iff_of_nodup ha.nodup hb.nodup).mpr h)
def leT (a b : T) : Bool := decide (a ≤ b)
def sortT (l : List T) : List T := l.mergeSort leT
theorem leT_trans (a b c : T) (h : leT a b = true) (h' : leT b c = true) : leT a c = true :=
  decide_eq_true (Std.le_trans (of_decide_eq_true h) (of_decide_eq_true h'))
theorem leT_total (a b : T) : (leT a b || leT b a) = true := by
  rcases List.le_total a b with h | h
  · rw [show leT a b = true from decide_eq_true h]; rfl
  · rw [show leT b a = true from decide_eq_true h, Bool.or_true]
theorem sortT_perm (l : List T) : (sortT l).Perm l := List.mergeSort_perm l _
theorem mem_sortT {l : List T} {t : T} : t ∈ sortT l ↔ t ∈ l := (sortT_perm l).mem_iff
theorem lt_of_le_ne {a b : T} (h : a ≤ b) (n : a ≠ b) : a < b := by
  by_cases q : a < b
  · exact q
  · exact absurd (List.le_antisymm h (List.not_lt.mp q)) n
theorem ss_sortT {l : List T} (h : l.Nodup) : SS (sortT l) := by
  have h1 := List.pairwise_mergeSort leT_trans leT_total l
  have h2 : (sortT l).Nodup := (sortT_perm l).nodup_iff.mpr h
  exact (List.Pairwise.and h1 h2).imp fun {a b} ⟨x, y⟩ => lt_of_le_ne (of_decide_eq_true x) y
theorem ss_of (L : List T) (P : T → Prop) : ∃ g, SS g ∧ ∀ t, t ∈ g ↔ (t ∈ L ∧ P t) := by
  have : ∃ l : List T, l.Nodup ∧ ∀ t, t ∈ l ↔ (t ∈ L ∧ P t) := by
    induction L with
    | nil => exact ⟨[], List.nodup_nil, fun t => by simp⟩
    | cons a L ih =>
      obtain ⟨l, h1, h2⟩ := ih
      by_cases h : P a ∧ a ∉ l
      · refine ⟨a :: l, List.nodup_cons.mpr ⟨h.2, h1⟩, fun t => ?_⟩
        rw [List.mem_cons, List.mem_cons, h2]
        constructor
        · rintro (rfl | ⟨x, y⟩)
          · exact ⟨.inl rfl, h.1⟩
          · exact ⟨.inr x, y⟩
        · rintro ⟨rfl | x, y⟩
          · exact .inl rfl
          · exact .inr ⟨x, y⟩
      · refine ⟨l, h1, fun t => ?_⟩
        rw [h2, List.mem_cons]
        constructor
        · rintro ⟨x, y⟩
          exact ⟨.inr x, y⟩
        · rintro ⟨rfl | x, y⟩
          · exact (h2 t).mp (Classical.byContradiction fun z => h ⟨y, z⟩)
          · exact ⟨x, y⟩
  obtain ⟨l, h1, h2⟩ := this
  exact ⟨sortT l, ss_sortT h1, fun t => by rw [mem_sortT, h2]⟩
/-- the turns of n points of which P holds, rising -/
noncomputable def setT (n : Nat) (P : T → Prop) : List T := Classical.choose (ss_of (perms n) fun t => IsT n t ∧ P t)
theorem ss_setT (n : Nat) (P : T → Prop) : SS (setT n P) := (Classical.choose_spec (ss_of (perms n) fun t => IsT n t ∧ P t)).1
theorem mem_setT {n : Nat} {P : T → Prop} {t : T} : t ∈ setT n P ↔ IsT n t ∧ P t := by
  refine ((Classical.choose_spec (ss_of (perms n) fun t => IsT n t ∧ P t)).2 t).trans ?_
  exact ⟨fun h => h.2, fun h => ⟨mem_perms h.1, h⟩⟩
theorem perms_len : ∀ n < 7, (perms n).length ≤ 720 := by decide +kernel
theorem turns_len {n : Nat} (hn : n ≤ 6) {l : List T} (h : l.Nodup) (hl : ∀ t ∈ l, IsT n t) : l.length ≤ 720 :=
  Nat.le_trans (List.Nodup.length_le_of_subset h fun t ht => mem_perms (hl t ht)) (perms_len n (by omega))

/-! ### yards -/
structure Yard (n : Nat) (g : List T) : Prop where
  ss : SS g
  is : ∀ t ∈ g, IsT n t
  one : still n ∈ g
  mul : ∀ a ∈ g, ∀ b ∈ g, times a b ∈ g
theorem Yard.len {n : Nat} {g : List T} (h : Yard n g) (hn : n ≤ 6) : g.length ≤ 720 := turns_len hn h.ss.nodup h.is
theorem pw_mem {n : Nat} {a : T} {P : T → Prop} (h1 : P (still n)) (hm : ∀ x, P x → P (times x a)) : ∀ k, P (pw n a k)
  | 0 => h1
  | k + 1 => hm _ (pw_mem h1 hm k)
theorem back_pw {n : Nat} {a : T} (ha : IsT n a) (hn : n ≤ 6) : back a = pw n a 59 :=
  right_cancel ha.back (ha.pw 59) ha (by rw [back_times ha]; exact (pw60 ha hn).symm)
theorem Yard.inv {n : Nat} {g : List T} (h : Yard n g) (hn : n ≤ 6) {a : T} (ha : a ∈ g) : back a ∈ g := by
  rw [back_pw (h.is a ha) hn]
  exact pw_mem (P := fun t => t ∈ g) h.one (fun x hx => h.mul x hx a ha) 59
/-- what words of some turns do -/
inductive Gen (n : Nat) (row : List T) : T → Prop
  | one : Gen n row (still n)
  | mul {t x : T} : Gen n row t → x ∈ row → Gen n row (times t x)
section
variable {n : Nat} {row : List T} {t u x : T}
theorem Gen.is (hr : Row n row) (h : Gen n row t) : IsT n t := by
  induction h with
  | one => exact IsT.still n
  | mul _ hx ih => exact ih.times (hr _ hx)
theorem Gen.times (hr : Row n row) (h : Gen n row t) (q : Gen n row u) : Gen n row (times t u) := by
  induction q with
  | one => rw [times_still (h.is hr)]; exact h
  | @mul u x q hx ih =>
    rw [← times_assoc (h.is hr) (q.is hr)]
    exact .mul ih hx
theorem Gen.of (hr : Row n row) (hx : x ∈ row) : Gen n row x := by
  have := Gen.mul (n := n) .one hx
  rwa [still_times (hr x hx)] at this
theorem Gen.back (hr : Row n row) (hn : n ≤ 6) (h : Gen n row t) : Gen n row (back t) := by
  rw [back_pw (h.is hr) hn]
  exact pw_mem (P := Gen n row) .one (fun x hx => hx.times hr h) 59
noncomputable def genT (n : Nat) (row : List T) : List T := setT n (Gen n row)
theorem mem_genT (hr : Row n row) : t ∈ genT n row ↔ Gen n row t := mem_setT.trans ⟨fun h => h.2, fun h => ⟨h.is hr, h⟩⟩
theorem gen_yard (hr : Row n row) : Yard n (genT n row) :=
  ⟨ss_setT n _, fun t h => (mem_setT.mp h).1, (mem_genT hr).mpr .one, fun a ha b hb => (mem_genT hr).mpr (((mem_genT hr).mp ha).times hr ((mem_genT hr).mp hb))⟩
/-- the least yard that has some turns -/
theorem gen_least (hr : Row n row) {g : List T} (hg : Yard n g) (h : ∀ x ∈ row, x ∈ g) (q : Gen n row t) : t ∈ g := by
  induction q with
  | one => exact hg.one
  | mul _ hx ih => exact hg.mul _ ih _ (h _ hx)
theorem gen_self {g : List T} (hg : Yard n g) : genT n g = g :=
  ss_ext (ss_setT n _) hg.ss fun t => (mem_genT hg.is).trans ⟨fun h => gen_least hg.is hg (fun _ h => h) h, fun h => .of hg.is h⟩
end

/-! ### rungs -/
def Fix (k : Nat) (t : T) : Prop := t.take k = List.range k
instance (k : Nat) (t : T) : Decidable (Fix k t) := inferInstanceAs (Decidable (t.take k = List.range k))
theorem fix_iff {n k : Nat} {t : T} (h : IsT n t) (hk : k ≤ n) : Fix k t ↔ ∀ p, p < k → app t p = p := by
  unfold Fix
  constructor
  · intro e p hp
    have e2 : (t.take k)[p]? = (List.range k)[p]? := by rw [e]
    rw [List.getElem?_take, if_pos hp, List.getElem?_range hp, app_get (by rw [h.len]; omega)] at e2
    exact Option.some.inj e2
  · intro e
    apply List.ext_getElem?
    intro i
    by_cases hi : i < k
    · rw [List.getElem?_take, if_pos hi, List.getElem?_range hi, app_get (by rw [h.len]; omega), e i hi]
    · rw [List.getElem?_eq_none (by rw [List.length_take, h.len]; omega), List.getElem?_eq_none (by rw [List.length_range]; omega)]
theorem fix_zero (t : T) : Fix 0 t := by
  show t.take 0 = List.range 0
  rfl
theorem fix_all {n : Nat} {t : T} (h : IsT n t) : Fix n t ↔ t = still n := by
  unfold Fix still
  rw [List.take_of_length_le (by rw [h.len]; exact Nat.le_refl _)]
theorem Fix.times {n k : Nat} {a b : T} (ha : IsT n a) (hb : IsT n b) (hk : k ≤ n) (h : Fix k a) (q : Fix k b) : Fix k (times a b) := by
  rw [fix_iff ha hk] at h
  rw [fix_iff hb hk] at q
  rw [fix_iff (ha.times hb) hk]
  intro p hp
  rw [app_times (by rw [ha.len]; omega), h p hp, q p hp]
theorem Fix.back {n k : Nat} {a : T} (ha : IsT n a) (hk : k ≤ n) (h : Fix k a) : Fix k (back a) := by
  rw [fix_iff ha hk] at h
  rw [fix_iff ha.back hk]
  intro p hp
  rw [app_back (by rw [ha.len]; omega), ← h p hp, ha.idx_app (by omega), h p hp]
/-- takes k to p, leaves what is less -/
def Goes (k p : Nat) (t : T) : Prop := Fix k t ∧ app t k = p
instance (k p : Nat) (t : T) : Decidable (Goes k p t) := inferInstanceAs (Decidable (_ ∧ _))
def best (g : List T) (k p : Nat) : Option T := g.find? fun t => decide (Goes k p t)
theorem best_some {g : List T} {k p : Nat} {r : T} (hs : SS g) : best g k p = some r ↔ r ∈ g ∧ Goes k p r ∧ ∀ t ∈ g, Goes k p t → r ≤ t := by
  unfold best
  constructor
  · intro h
    obtain ⟨h1, as, bs, rfl, h2⟩ := List.find?_eq_some_iff_append.mp h
    refine ⟨by simp, of_decide_eq_true h1, fun t ht hg => ?_⟩
    rcases List.mem_append.mp ht with ht | ht
    · have := h2 t ht
      simp [hg] at this
    · rcases List.mem_cons.mp ht with rfl | ht
      · exact Std.le_refl _
      · have := (List.pairwise_append.mp hs).2.1
        exact List.le_of_lt ((List.pairwise_cons.mp this).1 t ht)
  · rintro ⟨h1, h2, h3⟩
    cases hf : g.find? fun t => decide (Goes k p t) with
    | none => exact absurd (decide_eq_true h2) (List.find?_eq_none.mp hf r h1)
    | some u =>
      have hu := List.mem_of_find?_eq_some hf
      have hg : Goes k p u := by
        have := List.find?_some hf
        exact of_decide_eq_true this
      obtain ⟨h1', as, bs, rfl, h2'⟩ := List.find?_eq_some_iff_append.mp hf
      have h4 := h3 u hu hg
      congr 1
      refine List.le_antisymm ?_ h4
      rcases List.mem_append.mp h1 with ht | ht
      · have := h2' r ht
        simp [h2] at this
      · rcases List.mem_cons.mp ht with rfl | ht
        · exact Std.le_refl _
        · have := (List.pairwise_append.mp hs).2.1
          exact List.le_of_lt ((List.pairwise_cons.mp this).1 r ht)
theorem best_none {g : List T} {k p : Nat} : best g k p = none ↔ ∀ t ∈ g, ¬ Goes k p t := by
  unfold best
  rw [List.find?_eq_none]
  simp
abbrev Rung := List (Nat × T)
def rungT (n : Nat) (g : List T) (k : Nat) : Rung := (List.range n).filterMap fun p => (best g k p).map fun t => (p, t)
def ladT (n : Nat) (g : List T) : List Rung := (List.range n).map (rungT n g)
theorem mem_rungT {n k p : Nat} {g : List T} {r : T} : (p, r) ∈ rungT n g k ↔ p < n ∧ best g k p = some r := by
  unfold rungT
  rw [List.mem_filterMap]
  constructor
  · rintro ⟨q, hq, e⟩
    cases hb : best g k q with
    | none => rw [hb] at e; cases e
    | some u =>
      rw [hb] at e
      cases e
      exact ⟨List.mem_range.mp hq, hb⟩
  · rintro ⟨h1, h2⟩
    exact ⟨p, List.mem_range.mpr h1, by rw [h2]; rfl⟩
theorem rung_pts (n : Nat) (g : List T) (k : Nat) : (rungT n g k).Pairwise fun a b => a.1 < b.1 := by
  unfold rungT
  refine List.Pairwise.filterMap _ (R := fun a b : Nat => a < b) (fun a b hab x hx y hy => ?_) (List.pairwise_lt_range)
  cases h1 : best g k a with
  | none => rw [h1] at hx; cases hx
  | some u =>
    cases h2 : best g k b with
    | none => rw [h2] at hy; cases hy
    | some v =>
      rw [h1] at hx
      rw [h2] at hy
      cases hx
      cases hy
      exact hab

/-! ### all turns of a ladder -/
def turnsR (n : Nat) (rs : List Rung) : List T := rs.foldr (fun rung found => found.flatMap fun t => rung.map fun pr => times t pr.2) [still n]
def countR (rs : List Rung) : Nat := rs.foldl (fun c r => c * r.length) 1
theorem turns_count (n : Nat) : ∀ rs : List Rung, (turnsR n rs).length = rs.foldr (fun r c => c * r.length) 1
  | [] => rfl
  | r :: rs => by
    have ih := turns_count n rs
    show ((turnsR n rs).flatMap _).length = _ * r.length
    rw [List.length_flatMap, ← ih]
    generalize turnsR n rs = l
    induction l with
    | nil => simp
    | cons a l ih => rw [List.map_cons, List.sum_cons, ih, List.length_cons, List.length_map, Nat.succ_mul, Nat.add_comm]
theorem count_any : ∀ (rs : List Rung) (c : Nat), rs.foldl (fun c r => c * r.length) c = c * rs.foldr (fun r c => c * r.length) 1
  | [], c => (Nat.mul_one c).symm
  | r :: rs, c => by
    show rs.foldl _ (c * r.length) = c * (rs.foldr _ 1 * r.length)
    rw [count_any rs, Nat.mul_assoc, Nat.mul_comm r.length]
theorem turns_len_count (n : Nat) (rs : List Rung) : (turnsR n rs).length = countR rs := by
  rw [turns_count, countR, count_any, Nat.one_mul]
/-- the rungs from k on -/
def rungsFrom (n : Nat) (g : List T) (k : Nat) : List Rung := (List.range' k (n - k)).map (rungT n g)
theorem lad_from (n : Nat) (g : List T) : ladT n g = rungsFrom n g 0 := by
  unfold ladT rungsFrom
  rw [Nat.sub_zero, List.range_eq_range']
theorem rungs_step {n k : Nat} (g : List T) (hk : k < n) : rungsFrom n g k = rungT n g k :: rungsFrom n g (k + 1) := by
  unfold rungsFrom
  rw [show n - k = (n - (k + 1)) + 1 by omega, List.range'_succ]
  rfl
section
variable {n : Nat} {g : List T} (hy : Yard n g) (hn : n ≤ 6)
include hy hn
theorem turns_spec : ∀ (m k : Nat), k + m = n → (turnsR n (rungsFrom n g k)).Nodup ∧ ∀ t, t ∈ turnsR n (rungsFrom n g k) ↔ t ∈ g ∧ Fix k t
  | 0, k, e => by
    have hk : k = n := by omega
    subst hk
    have e0 : rungsFrom k g k = [] := by simp [rungsFrom]
    rw [e0]
    refine ⟨by simp [turnsR], fun t => ?_⟩
    show t ∈ [still k] ↔ _
    rw [List.mem_singleton]
    constructor
    · rintro rfl
      exact ⟨hy.one, (fix_all (IsT.still k)).mpr rfl⟩
    · rintro ⟨h1, h2⟩
      exact (fix_all (hy.is t h1)).mp h2
  | m + 1, k, e => by
    obtain ⟨nd, mem⟩ := turns_spec m (k + 1) (by omega)
    have hk : k < n := by omega
    rw [rungs_step g hk]
    show ((turnsR n (rungsFrom n g (k + 1))).flatMap fun t => (rungT n g k).map fun pr => times t pr.2).Nodup ∧ _
    have hr : ∀ p r, (p, r) ∈ rungT n g k → r ∈ g ∧ IsT n r ∧ Fix k r ∧ app r k = p ∧ best g k p = some r := fun p r h => by
      obtain ⟨_, h2⟩ := mem_rungT.mp h
      obtain ⟨h3, ⟨h4, h5⟩, _⟩ := (best_some hy.ss).mp h2
      exact ⟨h3, hy.is r h3, h4, h5, h2⟩
    have at_k : ∀ t p r, t ∈ turnsR n (rungsFrom n g (k + 1)) → (p, r) ∈ rungT n g k → app (times t r) k = p := fun t p r ht h => by
      obtain ⟨h1, h2⟩ := (mem t).mp ht
      have hT := hy.is t h1
      rw [app_times (by rw [hT.len]; exact hk), (fix_iff hT (by omega)).mp h2 k (by omega)]
      exact (hr p r h).2.2.2.1
    refine ⟨?_, fun t => ?_⟩
    · refine List.pairwise_flatMap.mpr ⟨fun t ht => ?_, ?_⟩
      · refine List.pairwise_map.mpr ((rung_pts n g k).imp_of_mem fun {a b} ha hb hab e => ?_)
        have h1 := at_k t a.1 a.2 ht ha
        have h2 := at_k t b.1 b.2 ht hb
        rw [e, h2] at h1
        omega
      · refine nd.imp_of_mem fun {a b} ha hb hab x hx y hy' e => ?_
        obtain ⟨⟨p, r⟩, h1, rfl⟩ := List.mem_map.mp hx
        obtain ⟨⟨p', r'⟩, h1', rfl⟩ := List.mem_map.mp hy'
        have q1 := at_k a p r ha h1
        have q2 := at_k b p' r' hb h1'
        simp only at e
        rw [e, q2] at q1
        subst q1
        have q3 := (hr _ _ h1).2.2.2.2
        rw [(hr _ _ h1').2.2.2.2] at q3
        cases q3
        exact hab (right_cancel (hy.is a ((mem a).mp ha).1) (hy.is b ((mem b).mp hb).1) (hr _ _ h1).2.1 e)
    · show t ∈ (turnsR n (rungsFrom n g (k + 1))).flatMap (fun t => (rungT n g k).map fun pr => times t pr.2) ↔ _
      rw [List.mem_flatMap]
      constructor
      · rintro ⟨h, hh, hx⟩
        obtain ⟨⟨p, r⟩, h1, rfl⟩ := List.mem_map.mp hx
        obtain ⟨g1, g2⟩ := (mem h).mp hh
        obtain ⟨r1, r2, r3, r4, _⟩ := hr p r h1
        have hH := hy.is h g1
        refine ⟨hy.mul _ g1 _ r1, Fix.times hH r2 (by omega) ?_ r3⟩
        rw [fix_iff hH (by omega)]
        intro q hq
        exact (fix_iff hH (by omega)).mp g2 q (by omega)
      · rintro ⟨h1, h2⟩
        have hT := hy.is t h1
        have hp : app t k < n := hT.app_lt hk
        cases hb : best g k (app t k) with
        | none => exact absurd ⟨h2, rfl⟩ (best_none.mp hb t h1)
        | some r =>
          obtain ⟨r1, ⟨r3, r4⟩, _⟩ := (best_some hy.ss).mp hb
          have r2 := hy.is r r1
          refine ⟨times t (back r), (mem _).mpr ⟨hy.mul _ h1 _ (hy.inv hn r1), ?_⟩, List.mem_map.mpr ⟨(app t k, r), mem_rungT.mpr ⟨hp, hb⟩, ?_⟩⟩
          · rw [fix_iff (hT.times r2.back) (by omega)]
            intro q hq
            rw [app_times (by rw [hT.len]; omega)]
            by_cases hqk : q = k
            · subst hqk
              rw [← r4, app_back (by rw [r2.len]; exact r2.app_lt hk), r2.idx_app hk]
            · rw [(fix_iff hT (by omega)).mp h2 q (by omega)]
              exact (fix_iff r2.back (by omega)).mp (r3.back r2 (by omega)) q (by omega)
          · show times (times t (back r)) r = t
            rw [times_assoc hT r2.back, back_times r2, times_still hT]
theorem turns_lad : sortT (turnsR n (ladT n g)) = g := by
  obtain ⟨h1, h2⟩ := turns_spec hy hn n 0 (by omega)
  rw [lad_from]
  exact ss_ext (ss_sortT h1) hy.ss fun t => by
    rw [mem_sortT, h2]
    exact ⟨fun h => h.1, fun h => ⟨h, fix_zero t⟩⟩
theorem turns_nodup : (turnsR n (ladT n g)).Nodup := by
  rw [lad_from]
  exact (turns_spec hy hn n 0 (by omega)).1
theorem count_lad : countR (ladT n g) = g.length := by
  rw [← turns_len_count n, ← (sortT_perm (turnsR n (ladT n g))).length_eq, turns_lad hy hn]
end
end Mt

set_option linter.all false
set_option maxRecDepth 100000
/-! Mth5: how the closure, the rungs are found. -/
namespace Mt
/-- while the closure under xs is sought: ex is still to be gone through -/
structure BInv (n : Nat) (xs : List T) (keys : List T) (ex : T → Prop) : Prop where
  nd : keys.Nodup
  gen : ∀ t ∈ keys, Gen n xs t
  one : still n ∈ keys
  clo : ∀ t ∈ keys, ¬ ex t → ∀ x ∈ xs, times t x ∈ keys
section
variable {n : Nat} {xs keys : List T} {ex ex' : T → Prop}
theorem BInv.mono (h : BInv n xs keys ex) (q : ∀ t ∈ keys, ex t → ex' t) : BInv n xs keys ex' :=
  ⟨h.nd, h.gen, h.one, fun t ht ne x hx => h.clo t ht (fun z => ne (q t ht z)) x hx⟩
theorem BInv.start (hn : ∀ t, t = still n → ex t) : BInv n xs [still n] ex :=
  ⟨by simp, fun t ht => by rw [List.mem_singleton.mp ht]; exact .one, List.mem_singleton.mpr rfl, fun t ht ne => absurd (hn t (List.mem_singleton.mp ht)) ne⟩
theorem BInv.add {u : T} (h : BInv n xs keys ex) (hu : u ∉ keys) (hg : Gen n xs u) (he : ex' u) (q : ∀ t ∈ keys, ex t → ex' t) : BInv n xs (keys ++ [u]) ex' := by
  refine ⟨?_, fun t ht => ?_, List.mem_append_left _ h.one, fun t ht ne x hx => ?_⟩
  · exact List.nodup_append.mpr ⟨h.nd, by simp, fun a ha b hb e => hu (by rw [← List.mem_singleton.mp hb, ← e]; exact ha)⟩
  · rcases List.mem_append.mp ht with ht | ht
    · exact h.gen t ht
    · rw [List.mem_singleton.mp ht]; exact hg
  · rcases List.mem_append.mp ht with ht | ht
    · exact List.mem_append_left _ (h.clo t ht (fun z => ne (q t ht z)) x hx)
    · rw [List.mem_singleton.mp ht] at ne
      exact absurd he ne
theorem BInv.all (h : BInv n xs keys ex) (q : ∀ t ∈ keys, ¬ ex t) {t : T} : t ∈ keys ↔ Gen n xs t := by
  refine ⟨h.gen t, fun g => ?_⟩
  induction g with
  | one => exact h.one
  | mul _ hx ih => exact h.clo _ ih (q _ ih) _ hx
theorem BInv.len (h : BInv n xs keys ex) (hn : n ≤ 6) (hr : Row n xs) : keys.length ≤ 720 := turns_len hn h.nd fun t ht => (h.gen t ht).is hr
end
/-- the parts of a row, as turns -/
def rgL (a b : Int) : List Int := (List.range (b - a).toNat).map fun k : Nat => a + (k : Int)
theorem mem_rgL {a b p : Int} : p ∈ rgL a b ↔ a ≤ p ∧ p < b := by
  unfold rgL
  rw [List.mem_map]
  constructor
  · rintro ⟨k, hk, rfl⟩
    have := List.mem_range.mp hk
    omega
  · rintro ⟨h1, h2⟩
    exact ⟨(p - a).toNat, List.mem_range.mpr (by omega), by omega⟩
def partsL (row : List T) : List Int := rgL (-(row.length : Int)) row.length
theorem mem_partsL {row : List T} {p : Int} : p ∈ partsL row ↔ Part row p := mem_rgL
def sides (row : List T) : List T := (partsL row).map (partT row)
theorem sides_row {n : Nat} {row : List T} (hr : Row n row) : Row n (sides row) := fun t ht => by
  obtain ⟨p, hp, rfl⟩ := List.mem_map.mp ht
  exact hr.part (mem_partsL.mp hp)
theorem gen_sides {n : Nat} {row : List T} (hr : Row n row) (hn : n ≤ 6) {t : T} : Gen n (sides row) t ↔ Gen n row t := by
  constructor
  · intro h
    induction h with
    | one => exact .one
    | @mul t x _ hx ih =>
      obtain ⟨p, hp, rfl⟩ := List.mem_map.mp hx
      obtain ⟨p1, p2⟩ := mem_partsL.mp hp
      refine ih.times hr ?_
      unfold partT
      split
      · exact (Gen.of hr (getD_mem (by omega))).back hr hn
      · exact Gen.of hr (getD_mem (by omega))
  · intro h
    induction h with
    | one => exact .one
    | @mul t x _ hx ih =>
      refine .mul ih ?_
      obtain ⟨i, hi, e⟩ := List.mem_iff_getElem.mp hx
      refine List.mem_map.mpr ⟨(i : Int), mem_partsL.mpr ⟨by omega, by omega⟩, ?_⟩
      unfold partT
      rw [if_neg (by omega), Int.toNat_natCast, List.getD_eq_getElem?_getD, List.getElem?_eq_getElem hi, e]
      rfl

/-! ### a rung found -/
/-- what has been found among the turns gone through -/
structure RInv (k : Nat) (pre : List T) (m : List (Nat × T)) : Prop where
  nd : (m.map (·.1)).Nodup
  ok : ∀ p r, (p, r) ∈ m ↔ r ∈ pre ∧ Goes k p r ∧ ∀ t ∈ pre, Goes k p t → r ≤ t
section
variable {k : Nat} {pre : List T} {m : List (Nat × T)} {t : T}
theorem RInv.skip (h : RInv k pre m) (q : ∀ p r, (p, r) ∈ m → Goes k p t → r ≤ t) (z : ∀ p, Goes k p t → p ∈ m.map (·.1)) : RInv k (pre ++ [t]) m := by
  refine ⟨h.nd, fun p r => ?_⟩
  constructor
  · intro hm
    obtain ⟨h1, h2, h3⟩ := (h.ok p r).mp hm
    refine ⟨List.mem_append_left _ h1, h2, fun u hu hg => ?_⟩
    rcases List.mem_append.mp hu with hu | hu
    · exact h3 u hu hg
    · rw [List.mem_singleton.mp hu] at hg ⊢
      exact q p r hm hg
  · rintro ⟨h1, h2, h3⟩
    have h3' : ∀ u ∈ pre, Goes k p u → r ≤ u := fun u hu => h3 u (List.mem_append_left _ hu)
    rcases List.mem_append.mp h1 with h1 | h1
    · exact (h.ok p r).mpr ⟨h1, h2, h3'⟩
    · have e := List.mem_singleton.mp h1
      obtain ⟨⟨p', r'⟩, hm, e2⟩ := List.mem_map.mp (z p (e ▸ h2))
      have e2 : p' = p := e2
      subst e2
      obtain ⟨g1, g2, g3⟩ := (h.ok p' r').mp hm
      have l1 := h3' r' g1 g2
      have l2 := q p' r' hm (e ▸ h2)
      rw [← e] at l2
      have : r = r' := List.le_antisymm l1 l2
      rw [this]
      exact hm
theorem RInv.fresh (h : RInv k pre m) {p : Nat} (hp : p ∉ m.map (·.1)) (hg : Goes k p t) : RInv k (pre ++ [t]) (m ++ [(p, t)]) := by
  have none_ : ∀ u ∈ pre, ¬ Goes k p u := by
    -- the least of those would be there
    intro u hu hgu
    have : ∃ r, r ∈ pre ∧ Goes k p r ∧ ∀ t ∈ pre, Goes k p t → r ≤ t := by
      have key : ∀ l : List T, (∃ u ∈ l, Goes k p u) → ∃ r, r ∈ l ∧ Goes k p r ∧ ∀ t ∈ l, Goes k p t → r ≤ t := by
        intro l
        induction l with
        | nil => rintro ⟨u, hu, _⟩; cases hu
        | cons a l ih =>
          rintro ⟨u, hu, hgu⟩
          by_cases hl : ∃ u ∈ l, Goes k p u
          · obtain ⟨r, r1, r2, r3⟩ := ih hl
            by_cases ha : Goes k p a ∧ a ≤ r
            · exact ⟨a, List.mem_cons_self, ha.1, fun t ht hgt => (List.mem_cons.mp ht).elim (fun e => e ▸ Std.le_refl _) fun ht => Std.le_trans ha.2 (r3 t ht hgt)⟩
            · refine ⟨r, List.mem_cons_of_mem _ r1, r2, fun t ht hgt => (List.mem_cons.mp ht).elim (fun e => ?_) fun ht => r3 t ht hgt⟩
              subst e
              rcases List.le_total r t with z | z
              · exact z
              · exact absurd ⟨hgt, z⟩ ha
          · rcases List.mem_cons.mp hu with e | hu
            · subst e
              exact ⟨u, List.mem_cons_self, hgu, fun t ht hgt => (List.mem_cons.mp ht).elim (fun e => e ▸ Std.le_refl _) fun ht => absurd ⟨t, ht, hgt⟩ hl⟩
            · exact absurd ⟨u, hu, hgu⟩ hl
      exact key pre ⟨u, hu, hgu⟩
    obtain ⟨r, r1, r2, r3⟩ := this
    exact hp (List.mem_map.mpr ⟨(p, r), (h.ok p r).mpr ⟨r1, r2, r3⟩, rfl⟩)
  refine ⟨?_, fun q r => ?_⟩
  · rw [List.map_append]
    exact List.nodup_append.mpr ⟨h.nd, by simp, fun a ha b hb e => hp (by
      have : b = p := by simpa using hb
      rw [← this, ← e]
      exact ha)⟩
  · rw [List.mem_append, List.mem_singleton]
    constructor
    · rintro (hm | e)
      · obtain ⟨h1, h2, h3⟩ := (h.ok q r).mp hm
        refine ⟨List.mem_append_left _ h1, h2, fun u hu hgu => ?_⟩
        rcases List.mem_append.mp hu with hu | hu
        · exact h3 u hu hgu
        · exfalso
          rw [List.mem_singleton.mp hu] at hgu
          have : p = q := hg.2.symm.trans hgu.2
          exact hp (this ▸ List.mem_map.mpr ⟨(q, r), hm, rfl⟩)
      · cases e
        refine ⟨by simp, hg, fun u hu hgu => ?_⟩
        rcases List.mem_append.mp hu with hu | hu
        · exact absurd hgu (none_ u hu)
        · rw [List.mem_singleton.mp hu]
          exact Std.le_refl _
    · rintro ⟨h1, h2, h3⟩
      rcases List.mem_append.mp h1 with h1 | h1
      · exact .inl ((h.ok q r).mpr ⟨h1, h2, fun u hu => h3 u (List.mem_append_left _ hu)⟩)
      · have e := List.mem_singleton.mp h1
        subst e
        exact .inr (by rw [show q = p from h2.2.symm.trans hg.2])
theorem RInv.less (h : RInv k pre m) {p : Nat} {r0 : T} (hm0 : (p, r0) ∈ m) (hg : Goes k p t) (hl : t < r0) : RInv k (pre ++ [t]) (m.map fun x => if x.1 = p then (x.1, t) else x) := by
  have uniq : ∀ q r r', (q, r) ∈ m → (q, r') ∈ m → r = r' := fun q r r' a b => by
    obtain ⟨a1, a2, a3⟩ := (h.ok q r).mp a
    obtain ⟨b1, b2, b3⟩ := (h.ok q r').mp b
    exact List.le_antisymm (a3 _ b1 b2) (b3 _ a1 a2)
  obtain ⟨z1, z2, z3⟩ := (h.ok p r0).mp hm0
  refine ⟨?_, fun q r => ?_⟩
  · rw [List.map_map, show ((fun x : Nat × T => x.1) ∘ fun x : Nat × T => if x.1 = p then (x.1, t) else x) = fun x : Nat × T => x.1 from funext fun x => by
      show (if x.1 = p then (x.1, t) else x).1 = x.1
      split <;> rfl]
    exact h.nd
  · rw [List.mem_map]
    constructor
    · rintro ⟨⟨q', r'⟩, hm, e⟩
      simp only at e
      by_cases hq : q' = p
      · rw [if_pos hq] at e
        cases e
        subst hq
        refine ⟨by simp, hg, fun u hu hgu => ?_⟩
        rcases List.mem_append.mp hu with hu | hu
        · exact Std.le_trans (List.le_of_lt hl) (z3 u hu hgu)
        · rw [List.mem_singleton.mp hu]
          exact Std.le_refl _
      · rw [if_neg hq] at e
        cases e
        obtain ⟨h1, h2, h3⟩ := (h.ok q r).mp hm
        refine ⟨List.mem_append_left _ h1, h2, fun u hu hgu => ?_⟩
        rcases List.mem_append.mp hu with hu | hu
        · exact h3 u hu hgu
        · rw [List.mem_singleton.mp hu] at hgu
          exact absurd (hgu.2.symm.trans hg.2) hq
    · rintro ⟨h1, h2, h3⟩
      by_cases hq : q = p
      · subst hq
        have ht := h3 t (by simp) hg
        rcases List.mem_append.mp h1 with h1 | h1
        · exfalso
          have h5 := z3 r h1 h2
          exact List.lt_irrefl t (Std.lt_of_lt_of_le hl (Std.le_trans h5 ht))
        · have e := List.mem_singleton.mp h1
          subst e
          exact ⟨(q, r0), hm0, by simp⟩
      · rcases List.mem_append.mp h1 with h1 | h1
        · exact ⟨(q, r), (h.ok q r).mpr ⟨h1, h2, fun u hu => h3 u (List.mem_append_left _ hu)⟩, by simp [hq]⟩
        · rw [List.mem_singleton.mp h1] at h2
          exact absurd (h2.2.symm.trans hg.2) hq
theorem fm_congr {α β : Type} {f g : α → Option β} : ∀ {l : List α}, (∀ x ∈ l, f x = g x) → l.filterMap f = l.filterMap g
  | [], _ => rfl
  | a :: l, h => by
    rw [List.filterMap_cons, List.filterMap_cons, h a List.mem_cons_self, fm_congr fun x hx => h x (List.mem_cons_of_mem _ hx)]
/-- all gone through: the rung -/
theorem RInv.rung {n : Nat} {g : List T} (h : RInv k pre m) (hy : Yard n g) (he : ∀ t, t ∈ pre ↔ t ∈ g) (hk : k < n) :
    rungT n g k = ((List.range n).filter fun p => decide (p ∈ m.map (·.1))).filterMap fun p => (m.find? fun x => decide (x.1 = p)).map fun x => (p, x.2) := by
  have hb : ∀ p r, best g k p = some r ↔ (p, r) ∈ m := fun p r => by
    rw [best_some hy.ss, h.ok]
    constructor
    · rintro ⟨a, b, c⟩
      exact ⟨(he r).mpr a, b, fun t ht => c t ((he t).mp ht)⟩
    · rintro ⟨a, b, c⟩
      exact ⟨(he r).mp a, b, fun t ht => c t ((he t).mpr ht)⟩
  have hf : ∀ p, best g k p = (m.find? fun x => decide (x.1 = p)).map (·.2) := fun p => by
    cases e : m.find? fun x => decide (x.1 = p) with
    | none =>
      cases e2 : best g k p with
      | none => rfl
      | some r =>
        have := List.find?_eq_none.mp e _ ((hb p r).mp e2)
        simp at this
    | some x =>
      have h1 := List.mem_of_find?_eq_some e
      have h2 : x.1 = p := by
        have := List.find?_some e
        exact of_decide_eq_true this
      exact (hb p x.2).mpr (by rw [← h2]; exact h1)
  unfold rungT
  rw [List.filterMap_filter]
  refine fm_congr fun p _ => ?_
  rw [hf]
  by_cases hp : p ∈ m.map (·.1)
  · rw [if_pos (decide_eq_true hp)]
    cases m.find? fun x => decide (x.1 = p) <;> rfl
  · rw [if_neg (by simpa using hp)]
    have : m.find? (fun x => decide (x.1 = p)) = none := List.find?_eq_none.mpr fun x hx e => hp (List.mem_map.mpr ⟨x, hx, of_decide_eq_true e⟩)
    rw [this]
    rfl
end
end Mt

set_option Elab.async false
set_option linter.all false
set_option maxRecDepth 100000
set_option maxHeartbeats 1000000
/-! S12: turns as keys, ladders as data; sorted turns. -/
namespace Ab
open PySem PySem.Spec
open Mt (T IsT)
/-! ### keys -/
def iT (t : T) : List Int := t.map fun n : Nat => (n : Int)
theorem iT_inj {a b : T} (h : iT a = iT b) : a = b := map_inj (f := fun n : Nat => (n : Int)) (fun x y (e : (x : Int) = y) => by omega) h
theorem eT_key (t : T) : eT t = .tuple ((iT t).map PyData.int) := by
  unfold eT iT
  rw [List.map_map]
  rfl
def mT (m : List (T × D)) : List (List Int × D) := m.map fun x => (iT x.1, x.2)
def keyT (m : List (T × D)) : List T := m.map fun x => x.1
theorem gL_mT (t : T) : ∀ m : List (T × D), gL (mT m) (iT t) = gL m t
  | [] => rfl
  | x :: m => by
    show gL ((iT x.1, x.2) :: mT m) (iT t) = _
    by_cases e : x.1 = t
    · rw [gL_pos (p := (iT x.1, x.2)) (congrArg iT e), gL_pos e]
    · rw [gL_neg (p := (iT x.1, x.2)) (fun z => e (iT_inj z)), gL_neg e, gL_mT t m]
theorem pL_mT (t : T) (d : D) (m : List (T × D)) : pL (mT m) (iT t) d = mT (pL m t d) := by
  unfold pL
  rw [gL_mT]
  split
  · unfold mT
    rw [List.map_map, List.map_map]
    refine List.map_congr_left fun x _ => ?_
    show (if iT x.1 = iT t then (iT x.1, d) else (iT x.1, x.2)) = (iT (if x.1 = t then (x.1, d) else x).1, (if x.1 = t then (x.1, d) else x).2)
    by_cases e : x.1 = t
    · rw [if_pos (congrArg iT e), if_pos e]
    · rw [if_neg (fun z => e (iT_inj z)), if_neg e]
  · unfold mT
    rw [List.map_append]
    rfl
theorem mT_len (m : List (T × D)) : (mT m).length = m.length := List.length_map _
theorem keysD_mT (m : List (T × D)) : keysD (mT m) = (keyT m).map eT := by
  unfold keysD mT keyT
  rw [List.map_map, List.map_map]
  refine List.map_congr_left fun x _ => ?_
  show keyD (iT x.1) = eT x.1
  rw [eT_key]
  rfl
theorem gL_key {m : List (T × D)} {t : T} : gL m t = Option.none ↔ t ∉ keyT m := gL_none
theorem gL_some {m : List (T × D)} {t : T} (h : t ∈ keyT m) : ∃ d, gL m t = some d := by
  cases e : gL m t with
  | none => exact absurd h (gL_key.mp e)
  | some d => exact ⟨d, rfl⟩
theorem keyT_new {m : List (T × D)} {t : T} (d : D) (h : t ∉ keyT m) : pL m t d = m ++ [(t, d)] := pL_new d (gL_key.mpr h)
theorem keyT_snoc (m : List (T × D)) (t : T) (d : D) : keyT (m ++ [(t, d)]) = keyT m ++ [t] := List.map_append
/-- points as keys -/
def mN (m : List (Nat × D)) : List (Int × D) := m.map fun x => ((x.1 : Int), x.2)
theorem gL_mN (t : Nat) : ∀ m : List (Nat × D), gL (mN m) (t : Int) = gL m t
  | [] => rfl
  | x :: m => by
    show gL (((x.1 : Int), x.2) :: mN m) (t : Int) = _
    by_cases e : x.1 = t
    · rw [gL_pos (p := ((x.1 : Int), x.2)) (by rw [e]), gL_pos e]
    · rw [gL_neg (p := ((x.1 : Int), x.2)) (fun z : (x.1 : Int) = t => e (by omega)), gL_neg e, gL_mN t m]
theorem pL_mN (t : Nat) (d : D) (m : List (Nat × D)) : pL (mN m) (t : Int) d = mN (pL m t d) := by
  unfold pL
  rw [gL_mN]
  split
  · unfold mN
    rw [List.map_map, List.map_map]
    refine List.map_congr_left fun x _ => ?_
    show (if (x.1 : Int) = t then ((x.1 : Int), d) else ((x.1 : Int), x.2)) = (((if x.1 = t then (x.1, d) else x).1 : Int), (if x.1 = t then (x.1, d) else x).2)
    by_cases e : x.1 = t
    · rw [if_pos (by rw [e]), if_pos e]
    · rw [if_neg (fun z : (x.1 : Int) = t => e (by omega)), if_neg e]
  · unfold mN
    rw [List.map_append]
    rfl
/-! ### ladders as data -/
def ePr (p : Nat × T) : D := .tuple [eN p.1, eT p.2]
def eRung (r : Mt.Rung) : D := .tuple (r.map ePr)
def eLad (rs : List Mt.Rung) : D := .tuple (rs.map eRung)
def eLT (ts : List T) : D := .list (ts.map eT)
theorem ePr_inj {a b : Nat × T} (h : ePr a = ePr b) : a = b := by
  have h1 := PyData.tuple.inj h
  injection h1 with h1 h2
  injection h2 with h2 _
  exact Prod.ext (eN_inj h1) (eT_inj h2)
theorem eRung_inj {a b : Mt.Rung} (h : eRung a = eRung b) : a = b := map_inj (fun _ _ => ePr_inj) (PyData.tuple.inj h)
theorem eLad_inj {a b : List Mt.Rung} (h : eLad a = eLad b) : a = b := map_inj (fun _ _ => eRung_inj) (PyData.tuple.inj h)
theorem pure_ePr (p : Nat × T) : pureD (ePr p) = true := by
  show pureD (.tuple [eN p.1, eT p.2]) = true
  rw [pureD, pureDs, pureDs, pure_eN, pure_eT]
  rfl
theorem pure_eRung (r : Mt.Rung) : pureD (eRung r) = true := by
  unfold eRung
  rw [pureD]
  exact pureDs_map _ _ fun _ _ => pure_ePr _
theorem pure_eLad (r : List Mt.Rung) : pureD (eLad r) = true := by
  unfold eLad
  rw [pureD]
  exact pureDs_map _ _ fun _ _ => pure_eRung _
theorem noL_ePr (p : Nat × T) : noL (ePr p) = true := by
  show (noL (eN p.1) && (noL (eT p.2) && true)) = true
  rw [noL_eT]
  rfl
theorem noL_eRung (r : Mt.Rung) : noL (eRung r) = true := noLs_map ePr noL_ePr r
theorem noL_eLad (r : List Mt.Rung) : noL (eLad r) = true := noLs_map eRung noL_eRung r
theorem noLs_eTs (rs : List T) : noLs (rs.map eT) = true := noLs_map eT noL_eT rs
theorem sh_ePr (p : Nat × T) : Sh (ePr p) 2 := by
  have h1 := Sh.int (p.1 : Nat)
  have h2 := sh_eT p.2
  refine ⟨?_, ?_⟩
  · show (PyData.tuple [eN p.1, eT p.2]).canLay0 = true
    rw [PyData.canLay0, PyData.canLayAll0, PyData.canLayAll0, PyData.canLayAll0, h2.1]
    rw [show (eN p.1).canLay0 = true from h1.1]
    rfl
  · show (PyData.tuple [eN p.1, eT p.2]).depth ≤ 2
    rw [PyData.depth, PyData.depthAll, PyData.depthAll, PyData.depthAll]
    have e1 : (eN p.1).depth ≤ 0 := h1.2
    have e2 := h2.2
    omega
theorem sh_eRung (r : Mt.Rung) : Sh (eRung r) 3 := Sh.tup ePr r fun _ _ => sh_ePr _
theorem sh_eLad (r : List Mt.Rung) : Sh (eLad r) 4 := Sh.tup eRung r fun _ _ => sh_eRung _
theorem shaped_eLad (r : List Mt.Rung) : SeqAt.shaped (eLad r) = true := (sh_eLad r).ok (by decide)
theorem eqv_eLad (a b : List Mt.Rung) : PyData.eqv (eLad a) (eLad b) = decide (a = b) := eqv_dec (pure_eLad a) (pure_eLad b) ⟨eLad_inj, fun h => by rw [h]⟩
theorem eLT_inj {a b : List T} (h : eLT a = eLT b) : a = b := map_inj (fun _ _ => eT_inj) (PyData.list.inj h)
theorem pure_eLT (ts : List T) : pureD (eLT ts) = true := by
  unfold eLT
  rw [pureD]
  exact pureDs_map _ _ fun _ _ => pure_eT _
theorem shaped_eLT (ts : List T) : SeqAt.shaped (eLT ts) = true := (Sh.lst eT ts (k := 1) fun t _ => sh_eT t).ok (by decide)
theorem eqv_eLT (a b : List T) : PyData.eqv (eLT a) (eLT b) = decide (a = b) := eqv_dec (pure_eLT a) (pure_eLT b) ⟨eLT_inj, fun h => by rw [h]⟩
/-! ### the order -/
theorem lex_ints : ∀ a b : List Int, HT.lexLt a b = decide (a < b)
  | [], [] => by simp [HT.lexLt]
  | [], _ :: _ => by simp [HT.lexLt]
  | _ :: _, [] => by simp [HT.lexLt]
  | x :: a, y :: b => by
    have ih := lex_ints a b
    rw [HT.lexLt_cons]
    by_cases e : x = y
    · subst e
      rw [if_pos rfl, ih]
      exact decide_eq_decide.mpr ⟨fun h => List.cons_lt_cons_iff.mpr (.inr ⟨rfl, h⟩), fun h => (List.cons_lt_cons_iff.mp h).elim (fun h => absurd h (by omega)) fun h => h.2⟩
    · rw [if_neg e]
      exact decide_eq_decide.mpr ⟨fun h => List.cons_lt_cons_iff.mpr (.inl h), fun h => (List.cons_lt_cons_iff.mp h).elim (fun h => h) fun h => absurd h.1 e⟩
theorem iT_lt : ∀ a b : T, iT a < iT b ↔ a < b
  | [], [] => by simp [iT]
  | [], _ :: _ => by simp [iT]
  | _ :: _, [] => by simp [iT]
  | x :: a, y :: b => by
    have ih := iT_lt a b
    show (x : Int) :: iT a < (y : Int) :: iT b ↔ _
    rw [List.cons_lt_cons_iff, List.cons_lt_cons_iff, ih]
    constructor
    · rintro (h | ⟨h, h2⟩)
      · exact .inl (by omega)
      · exact .inr ⟨by omega, h2⟩
    · rintro (h | ⟨h, h2⟩)
      · exact .inl (by omega)
      · exact .inr ⟨by omega, h2⟩
theorem lt_eT {a b : T} {R : SV → Prop} (h : R (.dat (.bool (decide (a < b))))) : ltD (eT a) (eT b) R := by
  refine ⟨iT a, iT b, ?_, ?_, ?_⟩
  · rw [show a.map eN = (iT a).map PyData.int from PyData.tuple.inj (eT_key a)]
    exact intsOf_map _
  · rw [show b.map eN = (iT b).map PyData.int from PyData.tuple.inj (eT_key b)]
    exact intsOf_map _
  · rw [lex_ints, show decide (iT a < iT b) = decide (a < b) from decide_eq_decide.mpr (iT_lt a b)]
    exact h
theorem dataLt_eT (a b : T) : PySem.W.dataLt (eT a) (eT b) = decide (a < b) := by
  rw [eT_key, eT_key, PySem.W.dataLt_tuple]
  show PySem.W.rowLt ((iT a).map PyData.int) ((iT b).map PyData.int) = _
  rw [PySem.W.dataLt_ints]
  exact decide_eq_decide.mpr (iT_lt a b)
theorem dataLe_eT (a b : T) : PySem.W.dataLe false id (eT a) (eT b) = Mt.leT a b := by
  show (!PySem.W.dataLt (eT b) (eT a)) = decide (a ≤ b)
  rw [dataLt_eT, not_eq]
  exact decide_eq_decide.mpr List.not_lt
theorem srt_eT (ts : List T) : srt (ts.map eT) = (Mt.sortT ts).map eT := by
  unfold srt Mt.sortT
  exact (List.map_mergeSort (r := Mt.leT) (s := PySem.W.dataLe false id) (f := eT) (l := ts) fun a _ b _ => (dataLe_eT a b).symm).symm
theorem alike_eT (a b : T) : PySem.W.alike (eT a) (eT b) = true := by
  rw [eT_key, eT_key, PySem.W.alike]
  exact PySem.W.alike_ints _ _
theorem sortOk_eT {n : Nat} {ts : List T} (hn : 1 ≤ n) (h : ∀ t ∈ ts, IsT n t) (hl : ts.length ≤ 1000000) : SortOk (ts.map eT) := by
  refine ⟨PySem.W.AllAlike.of alike_eT, .inl fun d hd => ?_, by rw [List.length_map]; exact line_of hl, fun d hd => ?_, noLs_eTs ts⟩
  · obtain ⟨t, ht, rfl⟩ := List.mem_map.mp hd
    have := (h t ht).len
    cases t with
    | nil => simp at this; omega
    | cons x r => exact ⟨eN x, r.map eN, rfl⟩
  · obtain ⟨t, ht, rfl⟩ := List.mem_map.mp hd
    have := (sh_eT t).2
    omega
/-! sorted points -/
def sortN (l : List Nat) : List Nat := l.mergeSort fun a b => decide (a ≤ b)
theorem srt_eN (l : List Nat) : srt (l.map eN) = (sortN l).map eN := by
  unfold srt sortN
  refine (List.map_mergeSort (r := fun a b : Nat => decide (a ≤ b)) (s := PySem.W.dataLe false id) (f := eN) (l := l) fun a _ b _ => ?_).symm
  show decide (a ≤ b) = (!PySem.W.dataLt (eN b) (eN a))
  rw [show PySem.W.dataLt (eN b) (eN a) = decide (((b : Nat) : Int) < ((a : Nat) : Int)) from PySem.W.dataLt_int _ _, not_eq]
  exact decide_eq_decide.mpr ⟨fun h => by omega, fun h => by omega⟩
theorem sortOk_eN {l : List Nat} (hl : l.length ≤ 1000000) : SortOk (l.map eN) := by
  refine ⟨PySem.W.AllAlike.of (enc := eN) fun a b => by rw [eN, eN, PySem.W.alike], .inr fun d hd => ?_, by rw [List.length_map]; exact line_of hl, fun d hd => ?_, noLs_map eN (fun _ => rfl) l⟩
  · obtain ⟨t, ht, rfl⟩ := List.mem_map.mp hd
    exact ⟨by simp [eN], fun xs => by simp [eN]⟩
  · obtain ⟨t, ht, rfl⟩ := List.mem_map.mp hd
    have := (Sh.int (t : Nat)).2
    have e : (eN t).depth ≤ 0 := this
    omega
theorem sortN_perm (l : List Nat) : (sortN l).Perm l := List.mergeSort_perm l _
theorem sortN_lt {l : List Nat} (h : l.Nodup) : (sortN l).Pairwise (· < ·) := by
  have h1 := List.pairwise_mergeSort (le := fun a b : Nat => decide (a ≤ b)) (fun a b c h h' => decide_eq_true (Nat.le_trans (of_decide_eq_true h) (of_decide_eq_true h')))
    (fun a b => by rcases Nat.le_total a b with h | h <;> simp [h]) l
  have h2 : (sortN l).Nodup := (sortN_perm l).nodup_iff.mpr h
  refine (List.Pairwise.and h1 h2).imp fun {a b} ⟨x, y⟩ => ?_
  have : a ≤ b := of_decide_eq_true x
  have : a ≠ b := y
  omega
/-- rising points are those of the range that are among them -/
theorem rising_filter {n : Nat} {l : List Nat} (h : l.Pairwise (· < ·)) (hl : ∀ x ∈ l, x < n) : l = (List.range n).filter fun p => decide (p ∈ l) := by
  refine List.Perm.eq_of_pairwise (le := (· < ·)) (fun x y _ _ h1 h2 => by omega) h (List.pairwise_lt_range.filter _) ?_
  refine (List.perm_ext_iff_of_nodup (h.imp fun {a b} h => by omega) ((List.nodup_range).filter _)).mpr fun x => ?_
  rw [List.mem_filter, List.mem_range]
  simp only [decide_eq_true_eq]
  exact ⟨fun q => ⟨hl x q, q⟩, fun q => q.2⟩
end Ab

set_option Elab.async false
set_option linter.all false
set_option maxRecDepth 100000
set_option maxHeartbeats 1000000
/-! S13: yards found. -/
namespace Ab
open PySem PySem.Spec
open Mt (T IsT Yard Row Gen genT ladT rungT)
def S_words_from : SP := fun ds R => ∃ (n : Nat) (row : List T), ds = [eR row, eN n] ∧ n ≤ 6 ∧ row.length ≤ 400 ∧ Row n row ∧ ∀ m : List (T × D), (keyT m).Nodup → (∀ t, t ∈ keyT m ↔ Gen n row t) → (∀ x ∈ m, ∃ w : List Int, x.2 = eW w) → R (.dT (mT m))
def S_rung_of : SP := fun ds R => ∃ (n k : Nat) (ts g : List T), ds = [eLT ts, eN k] ∧ n ≤ 6 ∧ k < n ∧ Yard n g ∧ (∀ t, t ∈ ts ↔ t ∈ g) ∧ R (.dat (eRung (rungT n g k)))
def S_ladder_by : SP := fun ds R => ∃ (n : Nat) (ts g : List T), ds = [eLT ts, eN n] ∧ n ≤ 6 ∧ Yard n g ∧ (∀ t, t ∈ ts ↔ t ∈ g) ∧ R (.dat (eLad (ladT n g)))
def S_ladder : SP := fun ds R => ∃ (n : Nat) (row : List T), ds = [eR row, eN n] ∧ n ≤ 6 ∧ row.length ≤ 400 ∧ Row n row ∧ R (.dat (eLad (ladT n (genT n row))))
def w_words_from : WS := (wSeq (wAsg 2 (wD1 (wCB S_still (wCons (wVar 1) wNil)) (wTup wNil)))
 (wSeq (wAsg 3 (wLst (wCons (wCB S_still (wCons (wVar 1) wNil)) wNil)))
 (wSeq (wWhile (wOp (dop gtD) (wCB (on1 lenD) (wCons (wVar 3) wNil)) (wC (.int 0)))
 (wSeq (wAsg 4 (wLst wNil))
 (wSeq (wFor (wiVar 3) (gN 5)
 (wFor (wiR2 (wCons (wNeg (wCB (on1 lenD) (wCons (wVar 0) wNil))) (wCons (wCB (on1 lenD) (wCons (wVar 0) wNil)) wNil))) (gN 6)
 (wSeq (wAsg 7 (wCB S_times (wCons (wVar 5) (wCons (wCB S_part_of (wCons (wVar 0) (wCons (wVar 6) wNil))) wNil))))
 (wIf (wDIn true 2 (wVar 7))
 (wSeq (wDPut 2 (wOp addS (wDGet 2 (wVar 5)) (wTup (wCons (wVar 6) wNil))) (wVar 7))
 (wApp 4 (wVar 7)))
 wNx))))
 (wMove 3 4))))
 (wRetV 2))))
def w_rung_of : WS := (wSeq (wAsg 2 wD0)
 (wSeq (wFor (wiVar 0) (gN 3)
 (wIf (wAnd (wOp (dop eqD) (wSl (wVar 3) (fun _ R => R Option.none) (wPart (wVar 1))) (wTupRg (wR1 (wVar 1)))) (wOr (wDIn true 2 (wOp (dop ixD) (wVar 3) (wVar 1))) (wOp (dop ltD) (wVar 3) (wDGet 2 (wOp (dop ixD) (wVar 3) (wVar 1))))))
 (wDPut 2 (wVar 3) (wOp (dop ixD) (wVar 3) (wVar 1)))
 wNx))
 (wRet (wTupleOf (wLc (wiE (wBV sortDd 2)) (gN 4) wYes (wTup (wCons (wVar 4) (wCons (wDGet 2 (wVar 4)) wNil))) [4])))))
def w_ladder_by : WS := (wRet (wTupleOf (wLc (wiR1 (wCons (wVar 1) wNil)) (gN 2) wYes (wCB S_rung_of (wCons (wVar 0) (wCons (wVar 2) wNil))) [2])))
def w_ladder : WS := (wRet (wCB S_ladder_by (wCons (wBE listDT (wCB S_words_from (wCons (wVar 0) (wCons (wVar 1) wNil)))) (wCons (wVar 1) wNil))))

/-! ### a rung -/
/-- points and turns as entries -/
def mR (m : List (Nat × T)) : List (Int × D) := mN (m.map fun x => (x.1, eT x.2))
theorem gL_mR (m : List (Nat × T)) (p : Nat) : gL (mR m) (p : Int) = (m.find? fun x => decide (x.1 = p)).map fun x => eT x.2 := by
  unfold mR
  rw [gL_mN]
  unfold gL
  rw [List.find?_map, Option.map_map]
  rfl
theorem pL_mR (m : List (Nat × T)) (p : Nat) (t : T) : pL (mR m) (p : Int) (eT t) = mR (if p ∈ m.map (·.1) then m.map (fun x => if x.1 = p then (x.1, t) else x) else m ++ [(p, t)]) := by
  unfold mR
  rw [pL_mN]
  congr 1
  unfold pL
  have hg : (gL (m.map fun x => (x.1, eT x.2)) p).isSome = decide (p ∈ m.map (·.1)) := by
    rw [Bool.eq_iff_iff, decide_eq_true_iff]
    constructor
    · intro h
      refine Classical.byContradiction fun z => ?_
      rw [gL_none.mpr (by rw [List.map_map]; exact z)] at h
      cases h
    · intro h
      cases e : gL (m.map fun x => (x.1, eT x.2)) p with
      | none =>
        have := gL_none.mp e
        rw [List.map_map] at this
        exact absurd h this
      | some d => rfl
  rw [hg]
  by_cases h : p ∈ m.map (·.1)
  · rw [if_pos (decide_eq_true h), if_pos h, List.map_map, List.map_map]
    refine List.map_congr_left fun x _ => ?_
    show (if x.1 = p then (x.1, eT t) else (x.1, eT x.2)) = ((if x.1 = p then (x.1, t) else x).1, eT (if x.1 = p then (x.1, t) else x).2)
    split <;> rfl
  · rw [if_neg (by simpa using h), if_neg h, List.map_append]
    rfl
theorem intsD_mR (m : List (Nat × T)) : intsD (mR m) = (m.map (·.1)).map eN := by
  unfold intsD mR mN
  rw [List.map_map, List.map_map, List.map_map, List.map_map]
  rfl
theorem mem_gL {k : Nat} {pre : List T} {m : List (Nat × T)} (h : Mt.RInv k pre m) {p : Nat} {r : T} (hm : (p, r) ∈ m) : gL (mR m) (p : Int) = some (eT r) := by
  rw [gL_mR]
  cases e : m.find? fun x => decide (x.1 = p) with
  | none =>
    have := List.find?_eq_none.mp e _ hm
    simp at this
  | some x =>
    have h1 := List.mem_of_find?_eq_some e
    have h2 : x.1 = p := by
      have := List.find?_some e
      exact of_decide_eq_true this
    obtain ⟨a1, a2, a3⟩ := (h.ok p r).mp hm
    obtain ⟨b1, b2, b3⟩ := (h.ok p x.2).mp (by rw [← h2]; exact h1)
    rw [List.le_antisymm (a3 _ b1 b2) (b3 _ a1 a2)]
    rfl
theorem cut_fix {n k : Nat} {t : T} (ht : IsT n t) (hk : k ≤ n) : PyData.tuple (cut (t.map eN) Option.none (some (k : Nat))) = eT (t.take k) := by
  rw [cut_take (by rw [List.length_map, ht.len]; exact hk), ← List.map_take]
  rfl
theorem eqv_fix (k : Nat) (t : T) : PyData.eqv (eT (t.take k)) (eT (Mt.still k)) = decide (Mt.Fix k t) := eqv_eT _ _
theorem noLs_ePr (r : Mt.Rung) : noLs (r.map ePr) = true := noLs_map ePr noL_ePr r
theorem sp_rung_of : ∀ ds R, S_rung_of ds R → ds.length = 2 ∧ w_rung_of (initSS 5 ds) (fin R) := by
  rintro ds R ⟨n, k, ts, g, rfl, hn, hk, hy, he, hr⟩
  refine ⟨rfl, ?_⟩
  have hT : ∀ t ∈ ts, IsT n t := fun t ht => hy.is t ((he t).mp ht)
  refine .inr ⟨trivial, ?_⟩
  show forRun (gN 3) _ (ones (ts.map eT)) [.dat (eLT ts), .dat (eN k), .dK [], .no, .no] _
  rw [ones_map]
  refine for_all _ (fun pre ss => ∃ (m : List (Nat × T)) (s : SV), Mt.RInv k pre m ∧ (∀ p ∈ m.map (·.1), p < n) ∧ ss = [.dat (eLT ts), .dat (eN k), .dK (mR m), s, .no]) ts
    ⟨[], .no, ⟨List.nodup_nil, fun p r => by simp⟩, by simp, rfl⟩ ?_ ?_
  · rintro pre t post ss e ⟨m, s, hm, hlt, rfl⟩ K hK
    have ht : IsT n t := hT t (by rw [e]; simp)
    have hix : L2.atI (t.map eN) (k : Nat) = some (eN (Mt.app t k)) := ix_app ht hk
    have hml : m.length ≤ n := by
      have := Mt.pigeon n (m.map (·.1)) hlt hm.nd
      rwa [List.length_map] at this
    refine ⟨rgOk_nat (by omega), ?_⟩
    rw [cut_fix ht (by omega), rgI_nat]
    refine ⟨shaped_eT _, shaped_eT (Mt.still k), ?_⟩
    show (if PyData.eqv (eT (t.take k)) (eT (Mt.still k)) = true then _ else _)
    rw [eqv_fix]
    refine if_dec (fun hf => ?_) fun hf => ?_
    · -- a turn that leaves the lesser points
      refine ⟨_, hix, _, rfl, ?_⟩
      by_cases hp : Mt.app t k ∈ m.map (·.1)
      · obtain ⟨⟨p0, r0⟩, hm0, e0⟩ := List.mem_map.mp hp
        have e0 : p0 = Mt.app t k := e0
        subst e0
        have hg := mem_gL hm hm0
        show (if (true != (gL (mR m) ((Mt.app t k : Nat) : Int)).isSome) = true then _ else _)
        rw [hg]
        show ∃ d, L2.atI (t.map eN) ((k : Nat) : Int) = some d ∧ _
        refine ⟨_, hix, _, eT r0, rfl, hg, lt_eT ?_⟩
        show (if decide (t < r0) = true then _ else _)
        refine if_dec (fun hl => ?_) fun hl => ?_
        · refine ⟨noL_eT t, _, hix, _, rfl, ?_, hK _ ⟨_, .dat (eT t), hm.less hm0 ⟨hf, rfl⟩ hl, ?_, ?_⟩⟩
          · show (mR m).length < _
            refine Nat.lt_of_le_of_lt (m := 1000) ?_ (by have := sizeLine_eq; omega)
            simp [mR, mN]
            omega
          · intro p hp'
            rw [List.map_map, show ((fun x : Nat × T => x.1) ∘ fun x : Nat × T => if x.1 = Mt.app t k then (x.1, t) else x) = fun x : Nat × T => x.1 from funext fun x => by
              show (if x.1 = Mt.app t k then (x.1, t) else x).1 = x.1
              split <;> rfl] at hp'
            exact hlt p hp'
          · show [_, _, SV.dK (pL (mR m) _ (eT t)), _, _] = _
            rw [pL_mR, if_pos hp]
        · refine hK _ ⟨m, _, hm.skip (fun p r hpr hg => ?_) (fun p hg => ?_), hlt, rfl⟩
          · have : p = Mt.app t k := hg.2.symm
            subst this
            have e2 := mem_gL hm hpr
            rw [hg.1 |> fun _ => mem_gL hm hm0] at e2
            rw [← eT_inj (Option.some.inj e2)]
            exact List.not_lt.mp hl
          · rw [← hg.2]
            exact hp
      · have hg : gL (mR m) ((Mt.app t k : Nat) : Int) = Option.none := by
          rw [gL_mR]
          have : m.find? (fun x => decide (x.1 = Mt.app t k)) = Option.none := List.find?_eq_none.mpr fun x hx e => hp (List.mem_map.mpr ⟨x, hx, of_decide_eq_true e⟩)
          rw [this]
          rfl
        show (if (true != (gL (mR m) ((Mt.app t k : Nat) : Int)).isSome) = true then _ else _)
        rw [hg]
        refine ⟨noL_eT t, _, hix, _, rfl, ?_, hK _ ⟨_, .dat (eT t), hm.fresh hp ⟨hf, rfl⟩, ?_, ?_⟩⟩
        · show (mR m).length < _
          refine Nat.lt_of_le_of_lt (m := 1000) ?_ (by have := sizeLine_eq; omega)
          simp [mR, mN]
          omega
        · intro p hp'
          rw [List.map_append] at hp'
          rcases List.mem_append.mp hp' with h | h
          · exact hlt p h
          · rw [List.mem_singleton.mp h]
            exact ht.app_lt hk
        · show [_, _, SV.dK (pL (mR m) _ (eT t)), _, _] = _
          rw [pL_mR, if_neg hp]
    · refine hK _ ⟨m, _, hm.skip (fun p r _ hg => absurd hg.1 hf) (fun p hg => absurd hg.1 hf), hlt, rfl⟩
  · rintro ss ⟨m, s, hm, hlt, rfl⟩
    have hml : m.length ≤ n := by
      have := Mt.pigeon n (m.map (·.1)) hlt hm.nd
      rwa [List.length_map] at this
    have e1 : intsD (mR m) = (m.map (·.1)).map eN := intsD_mR m
    refine ⟨by rw [e1]; exact sortOk_eN (by rw [List.length_map]; omega), ?_⟩
    show lcRun (gN 4) wYes (wTup (wCons (wVar 4) (wCons (wDGet 2 (wVar 4)) wNil))) [.dat (eLT ts), .dat (eN k), .dK (mR m), s, .no] (ones (srt (intsD (mR m)))) [] _
    rw [e1, srt_eN, ones_map]
    have e2 : sortN (m.map (·.1)) = (List.range n).filter fun p => decide (p ∈ m.map (·.1)) := by
      have h := rising_filter (n := n) (sortN_lt hm.nd) fun x hx => hlt x ((sortN_perm _).mem_iff.mp hx)
      rw [h]
      refine List.filter_congr fun p _ => decide_eq_decide.mpr (sortN_perm _).mem_iff
    rw [e2]
    have hfd : ∀ p ∈ (List.range n).filter (fun p => decide (p ∈ m.map (·.1))), ∃ r, (p, r) ∈ m ∧ (m.find? fun x => decide (x.1 = p)) = some (p, r) := fun p hp => by
      have hp2 : p ∈ m.map (·.1) := of_decide_eq_true (List.mem_filter.mp hp).2
      cases e : m.find? fun x => decide (x.1 = p) with
      | none =>
        obtain ⟨x, hx, e3⟩ := List.mem_map.mp hp2
        have := List.find?_eq_none.mp e x hx
        simp [e3] at this
      | some x =>
        have h1 := List.mem_of_find?_eq_some e
        have h2 : x.1 = p := by
          have := List.find?_some e
          exact of_decide_eq_true this
        refine ⟨x.2, by rw [← h2]; exact h1, ?_⟩
        rw [← h2]
    refine lc_map _ (fun p => ePr (p, ((m.find? fun x => decide (x.1 = p)).map (·.2)).getD [])) _ [] ?_ (fun p _ => noL_ePr _) (fun p hp Q hQ => ?_) ?_
    · refine line_of ?_
      have := List.length_filter_le (fun p => decide (p ∈ m.map (·.1))) (List.range n)
      rw [List.length_range] at this
      show 0 + _ ≤ _
      omega
    · obtain ⟨r, hr1, hr2⟩ := hfd p hp
      rw [hr2] at hQ
      refine ⟨_, eT r, rfl, mem_gL hm hr1, ?_, hQ⟩
      show 2 ≤ _
      have := sizeLine_eq
      omega
    · rw [List.nil_append]
      rw [hm.rung hy he hk] at hr
      have e4 : (((List.range n).filter fun p => decide (p ∈ m.map (·.1))).filterMap fun p => (m.find? fun x => decide (x.1 = p)).map fun x => (p, x.2)) = ((List.range n).filter fun p => decide (p ∈ m.map (·.1))).map fun p => (p, ((m.find? fun x => decide (x.1 = p)).map (·.2)).getD []) := by
        refine (Mt.fm_congr (g := some ∘ fun p => (p, ((m.find? fun x => decide (x.1 = p)).map (·.2)).getD [])) fun p hp => ?_).trans (congrFun List.filterMap_eq_map _)
        obtain ⟨r, hr1, hr2⟩ := hfd p hp
        show _ = some (p, ((m.find? fun x => decide (x.1 = p)).map (·.2)).getD [])
        rw [hr2]
        rfl
      rw [e4] at hr
      unfold eRung at hr
      rw [List.map_map] at hr
      exact hr
end Ab

set_option Elab.async false
set_option linter.all false
set_option maxRecDepth 100000
set_option maxHeartbeats 1000000
/-! S14: words from a row; ladders. -/
namespace Ab
open PySem PySem.Spec
open Mt (T IsT Yard Row Gen genT ladT rungT)
theorem rangeIds_rg (lo hi : Int) : rangeIds lo hi = (Mt.rgL lo hi).map fun p => ID.one (.int p) := by
  unfold rangeIds Mt.rgL
  rw [List.map_map]
  rfl
theorem noL_word (w : List Int) : noL (eW w) = true := noLs_map PyData.int (fun _ => rfl) w
/-- the words met -/
def Wd1 (m : List (T × D)) : Prop := ∀ x ∈ m, ∃ w : List Int, x.2 = eW w ∧ w.length ≤ m.length
theorem Wd1.get {m : List (T × D)} {t : T} {d : D} (h : Wd1 m) (g : gL m t = some d) : ∃ w : List Int, d = eW w ∧ w.length ≤ m.length := h _ (gL_mem g)
theorem Wd1.add {m : List (T × D)} {t : T} {w : List Int} {p : Int} (h : Wd1 m) (hw : w.length ≤ m.length) : Wd1 (m ++ [(t, eW (w ++ [p]))]) := fun x hx => by
  rcases List.mem_append.mp hx with hx | hx
  · obtain ⟨w, e, l⟩ := h x hx
    exact ⟨w, e, by rw [List.length_append]; omega⟩
  · rw [List.mem_singleton.mp hx]
    exact ⟨_, rfl, by rw [List.length_append, List.length_append]; simp; omega⟩
theorem keyT_len (m : List (T × D)) : (keyT m).length = m.length := List.length_map _
theorem sl1000 {k : Nat} (h : k ≤ 1000) : k < sizeLine := by
  have := sizeLine_eq
  omega
theorem sp_words_from : ∀ ds R, S_words_from ds R → ds.length = 2 ∧ w_words_from (initSS 8 ds) (fin R) := by
  rintro ds R ⟨n, row, rfl, hn, hl, hr, h⟩
  refine ⟨rfl, ?_⟩
  have hsr := Mt.sides_row hr
  have hmem : ∀ p, Mt.Part row p → Mt.partT row p ∈ Mt.sides row := fun p hp => List.mem_map.mpr ⟨p, Mt.mem_partsL.mpr hp, rfl⟩
  refine ⟨n, rfl, hn, iT (Mt.still n), eT_key _, Nat.zero_le _, rfl, trivial, ?_⟩
  refine ⟨n, rfl, hn, line_of (by simp), .inl ⟨noLs_one (noL_eT _), trivial, ?_⟩⟩
  refine ⟨fun k ss => ∃ (m : List (T × D)) (ring : List T) (s4 s5 s6 s7 : SV), Mt.BInv n (Mt.sides row) (keyT m) (fun t => t ∈ ring) ∧ (∀ t ∈ ring, t ∈ keyT m) ∧ Wd1 m ∧ k = 2 * (720 - m.length) + ring.length ∧
    ss = [.dat (eR row), .dat (eN n), .dT (mT m), .lst (ring.map eT), s4, s5, s6, s7], ⟨_, [(Mt.still n, eW [])], [Mt.still n], .no, .no, .no, .no, Mt.BInv.start fun t e => List.mem_singleton.mpr e, fun t ht => ht, ?_, rfl, rfl⟩, ?_⟩
  · intro x hx
    rw [List.mem_singleton.mp hx]
    exact ⟨[], rfl, Nat.zero_le _⟩
  rintro k ss ⟨m, ring, s4, s5, s6, s7, hb, hrk, hw, hk, rfl⟩
  show (if decide ((0 : Int) < (((ring.map eT).length : Nat) : Int)) = true then _ else _)
  refine if_dec (fun h0 => ?_) fun h0 => ?_
  · have hr0 : 0 < ring.length := by
      rw [List.length_map] at h0
      omega
    refine ⟨Nat.zero_le _, .inl ⟨rfl, trivial, ?_⟩⟩
    show forRun (gN 5) _ (ones (ring.map eT)) [.dat (eR row), .dat (eN n), .dT (mT m), .dat (eLT ring), .lst [], s5, s6, s7] _
    rw [ones_map]
    refine for_all _ (fun pre ss => ∃ (m' : List (T × D)) (more : List T) (s5 s6 s7 : SV), Mt.BInv n (Mt.sides row) (keyT m') (fun t => t ∈ more ∨ (t ∈ ring ∧ t ∉ pre)) ∧ (∀ t ∈ ring, t ∈ keyT m') ∧ (∀ t ∈ more, t ∈ keyT m') ∧ Wd1 m' ∧ m'.length = m.length + more.length ∧
      ss = [.dat (eR row), .dat (eN n), .dT (mT m'), .dat (eLT ring), .lst (more.map eT), s5, s6, s7]) ring ⟨m, [], s5, s6, s7, hb.mono fun t _ ht => .inr ⟨ht, List.not_mem_nil⟩, hrk, (fun t ht => nomatch ht), hw, rfl, rfl⟩ ?_ ?_
    · rintro pre t post ss e ⟨m1, more1, s5, s6, s7, hb1, hrk1, hmk1, hw1, hl1, rfl⟩ K hK
      have htr : t ∈ ring := by rw [e]; simp
      have ht : IsT n t := (hb1.gen t (hrk1 t htr)).is hsr
      have hrl : (row.map eT).length = row.length := List.length_map _
      refine ⟨⟨by omega, by omega, by omega, by omega⟩, ?_⟩
      show forRun (gN 6) _ (rangeIds (-(((row.map eT).length : Nat) : Int)) (((row.map eT).length : Nat) : Int)) [.dat (eR row), .dat (eN n), .dT (mT m1), .dat (eLT ring), .lst (more1.map eT), .dat (eT t), s6, s7] _
      rw [hrl, rangeIds_rg]
      refine for_all _ (fun qs ss => ∃ (m' : List (T × D)) (more : List T) (s6 s7 : SV), Mt.BInv n (Mt.sides row) (keyT m') (fun t => t ∈ more ∨ (t ∈ ring ∧ t ∉ pre)) ∧ (∀ t ∈ ring, t ∈ keyT m') ∧ (∀ t ∈ more, t ∈ keyT m') ∧ Wd1 m' ∧ m'.length = m.length + more.length ∧
        (∀ q ∈ qs, Mt.times t (Mt.partT row q) ∈ keyT m') ∧ ss = [.dat (eR row), .dat (eN n), .dT (mT m'), .dat (eLT ring), .lst (more.map eT), .dat (eT t), s6, s7]) (Mt.rgL (-(row.length : Int)) row.length) ⟨m1, more1, s6, s7, hb1, hrk1, hmk1, hw1, hl1, (fun q hq => nomatch hq), rfl⟩ ?_ ?_
      · rintro qs p post2 ss e2 ⟨m2, more2, s6, s7, hb2, hrk2, hmk2, hw2, hl2, hq2, rfl⟩ K hK
        have hp : Mt.Part row p := Mt.mem_partsL.mp (show p ∈ Mt.rgL (-(row.length : Int)) row.length by rw [e2]; simp)
        have hl720 : m2.length ≤ 720 := by
          have := hb2.len hn hsr
          rwa [keyT_len] at this
        have hpT := hr.part hp
        refine ⟨n, row, p, rfl, hn, hr, hp, n, _, _, rfl, hn, ht, hpT, .inl (noL_eT _), iT (Mt.times t (Mt.partT row p)), eT_key _, ?_⟩
        show (if (true != (gL (mT m2) (iT (Mt.times t (Mt.partT row p)))).isSome) = true then _ else _)
        rw [gL_mT]
        by_cases hin : Mt.times t (Mt.partT row p) ∈ keyT m2
        · obtain ⟨d, hd⟩ := gL_some hin
          rw [hd]
          refine hK _ ⟨m2, more2, .dat (.int p), .dat (eT (Mt.times t (Mt.partT row p))), hb2, hrk2, hmk2, hw2, hl2, fun q hq => ?_, rfl⟩
          rcases List.mem_append.mp hq with hq | hq
          · exact hq2 q hq
          · rw [List.mem_singleton.mp hq]
            exact hin
        · rw [gL_key.mpr hin]
          obtain ⟨d, hd⟩ := gL_some (hrk2 t htr)
          obtain ⟨w, rfl, hwl⟩ := hw2.get hd
          have hg' : gL (mT m2) (iT t) = some (eW w) := by rw [gL_mT]; exact hd
          refine ⟨iT t, eW w, eT_key t, hg', line_of (show 1 ≤ 1000000 by decide), ?_⟩
          have hwl2 : (w.map PyData.int).length = w.length := List.length_map _
          refine ⟨line_of (by simp; omega), ?_⟩
          have ew : PyData.tuple (w.map PyData.int ++ [.int p]) = eW (w ++ [p]) := by
            unfold eW
            rw [List.map_append]
            rfl
          show noL (PyData.tuple (w.map PyData.int ++ [.int p])) = true ∧ _
          rw [ew]
          have hmore : more2.length ≤ 720 := by omega
          refine ⟨noL_word _, iT (Mt.times t (Mt.partT row p)), eT_key _, sl1000 (by rw [mT_len]; omega), noL_eT _, sl1000 (by rw [List.length_map]; omega), ?_⟩
          refine hK _ ⟨m2 ++ [(Mt.times t (Mt.partT row p), eW (w ++ [p]))], more2 ++ [Mt.times t (Mt.partT row p)], .dat (.int p), .dat (eT (Mt.times t (Mt.partT row p))), ?_, fun u hu => ?_, fun u hu => ?_, hw2.add hwl, ?_, fun q hq => ?_, ?_⟩
          · rw [keyT_snoc]
            exact hb2.add hin ((hb2.gen t (hrk2 t htr)).mul (hmem p hp)) (.inl (by simp)) fun u _ hu => hu.elim (fun hu => .inl (List.mem_append_left _ hu)) .inr
          · rw [keyT_snoc]
            exact List.mem_append_left _ (hrk2 u hu)
          · rw [keyT_snoc]
            rcases List.mem_append.mp hu with hu | hu
            · exact List.mem_append_left _ (hmk2 u hu)
            · exact List.mem_append_right _ hu
          · rw [List.length_append, List.length_append, hl2, Nat.add_assoc]
            rfl
          · rw [keyT_snoc]
            rcases List.mem_append.mp hq with hq | hq
            · exact List.mem_append_left _ (hq2 q hq)
            · rw [List.mem_singleton.mp hq]
              exact List.mem_append_right _ (List.mem_singleton.mpr rfl)
          · show [_, _, SV.dT (pL (mT m2) (iT (Mt.times t (Mt.partT row p))) (eW (w ++ [p]))), _, SV.lst (more2.map eT ++ [eT (Mt.times t (Mt.partT row p))]), _, _, _] = _
            rw [pL_mT, keyT_new _ hin, List.map_append]
            rfl
      · rintro ss ⟨m2, more2, s6, s7, hb2, hrk2, hmk2, hw2, hl2, hq2, rfl⟩
        refine hK _ ⟨m2, more2, .dat (eT t), s6, s7, ?_, hrk2, hmk2, hw2, hl2, rfl⟩
        refine ⟨hb2.nd, hb2.gen, hb2.one, fun u hu ne x hx => ?_⟩
        by_cases hut : u = t
        · subst hut
          obtain ⟨q, hq, rfl⟩ := List.mem_map.mp hx
          exact hq2 q hq
        · refine hb2.clo u hu (fun z => ne (z.elim .inl fun z => .inr ⟨z.1, fun q => ?_⟩)) x hx
          rcases List.mem_append.mp q with q | q
          · exact z.2 q
          · exact hut (List.mem_singleton.mp q)
    · rintro ss ⟨m2, more2, s5, s6, s7, hb2, hrk2, hmk2, hw2, hl2, rfl⟩
      have hl720 : m2.length ≤ 720 := by
        have := hb2.len hn hsr
        rwa [keyT_len] at this
      refine ⟨by decide, 2 * (720 - m2.length) + more2.length, by omega, m2, more2, .no, s5, s6, s7, hb2.mono fun t ht z => z.elim (fun z => z) fun z => absurd z.1 z.2, hmk2, hw2, rfl, rfl⟩
  · have hr0 : ring = [] := by
      rw [List.length_map] at h0
      exact List.length_eq_zero_iff.mp (by omega)
    subst hr0
    refine h m hb.nd (fun t => (hb.all fun t _ => List.not_mem_nil).trans (Mt.gen_sides hr hn)) fun x hx => ?_
    obtain ⟨w, e, _⟩ := hw x hx
    exact ⟨w, e⟩
theorem sp_ladder_by : ∀ ds R, S_ladder_by ds R → ds.length = 2 ∧ w_ladder_by (initSS 3 ds) (fin R) := by
  rintro ds R ⟨n, ts, g, rfl, hn, hy, he, hr⟩
  refine ⟨rfl, ?_⟩
  refine ⟨by omega, by omega, ?_⟩
  show lcRun (gN 2) wYes (wCB S_rung_of (wCons (wVar 0) (wCons (wVar 2) wNil))) [.dat (eLT ts), .dat (eN n), .no] (rangeIds 0 (n : Nat)) [] _
  rw [rangeIds_nat]
  refine lc_map _ (fun k => eRung (rungT n g k)) (List.range n) [] (line_of (by simp; omega)) (fun k _ => noL_eRung _) (fun k hk Q hQ => ?_) ?_
  · exact ⟨n, k, ts, g, rfl, hn, List.mem_range.mp hk, hy, he, hQ⟩
  · rw [List.nil_append]
    unfold eLad ladT at hr
    rw [List.map_map] at hr
    exact hr
theorem sp_ladder : ∀ ds R, S_ladder ds R → ds.length = 2 ∧ w_ladder (initSS 2 ds) (fin R) := by
  rintro ds R ⟨n, row, rfl, hn, hl, hr, h⟩
  refine ⟨rfl, ?_⟩
  refine ⟨n, row, rfl, hn, hl, hr, fun m nd mem wd => ?_⟩
  show S_ladder_by [.list (keysD (mT m)), eN n] _
  rw [keysD_mT]
  exact ⟨n, keyT m, genT n row, rfl, hn, Mt.gen_yard hr, fun t => (mem t).trans (Mt.mem_genT hr).symm, h⟩
end Ab

set_option Elab.async false
set_option linter.all false
set_option maxRecDepth 100000
set_option maxHeartbeats 1000000
/-! S27: what is a turn, a row, a word, of any data. -/
namespace Ab
open PySem PySem.Spec
open Mt (T IsT Yard Row Gen genT)
/-- data of no great depth and width -/
inductive Od : Nat → D → Prop
  | none (k : Nat) : Od k .none
  | bool (k : Nat) (b : Bool) : Od k (.bool b)
  | int (k : Nat) (i : Int) : Od k (.int i)
  | str (k : Nat) (s : Str) : PyData.strOk s = true → Od k (.str s)
  | tup {k : Nat} {ds : List D} : ds.length ≤ 1000 → (∀ d ∈ ds, Od k d) → Od (k + 1) (.tuple ds)
  | lst {k : Nat} {ds : List D} : ds.length ≤ 1000 → (∀ d ∈ ds, Od k d) → Od (k + 1) (.list ds)
theorem Sh.strs {s : Str} (h : PyData.strOk s = true) : Sh (.str s) 0 := ⟨by rw [PyData.canLay0]; exact h, by rw [PyData.depth]; exact Nat.le_refl 0⟩
theorem Od.sh {k : Nat} {d : D} (h : Od k d) : Sh d k := by
  induction h with
  | none k => exact Sh.none.mono (Nat.zero_le _)
  | bool k b => exact (Sh.bool b).mono (Nat.zero_le _)
  | int k i => exact (Sh.int i).mono (Nat.zero_le _)
  | str k s h => exact (Sh.strs h).mono (Nat.zero_le _)
  | @tup k ds _ _ ih =>
    have := Sh.tup (fun d => d) ds (k := k) ih
    rwa [List.map_id'] at this
  | @lst k ds _ _ ih =>
    have := Sh.lst (fun d => d) ds (k := k) ih
    rwa [List.map_id'] at this
theorem Od.mono {k j : Nat} {d : D} (h : Od k d) (hj : k ≤ j) : Od j d := by
  induction h generalizing j with
  | none k => exact .none j
  | bool k b => exact .bool j b
  | int k i => exact .int j i
  | str k s h => exact .str j s h
  | tup h1 _ ih =>
    cases j with
    | zero => omega
    | succ j => exact .tup h1 fun d hd => ih d hd (by omega)
  | lst h1 _ ih =>
    cases j with
    | zero => omega
    | succ j => exact .lst h1 fun d hd => ih d hd (by omega)
theorem Od.tup_of {k : Nat} {ds : List D} (h : Od k (.tuple ds)) : ds.length ≤ 1000 ∧ ∀ d ∈ ds, Od k d := by
  cases h with
  | tup h1 h2 => exact ⟨h1, fun d hd => (h2 d hd).mono (Nat.le_succ _)⟩
def numB (lo hi : Int) : D → Bool
  | .int i => decide (lo ≤ i) && decide (i ≤ hi)
  | _ => false
theorem nums_of {n : Nat} : ∀ {ds : List D}, ds.all (numB 0 ((n : Int) - 1)) = true → ∃ ms : List Nat, ds = ms.map eN ∧ ∀ m ∈ ms, m < n
  | [], _ => ⟨[], rfl, fun _ h => nomatch h⟩
  | d :: ds, h => by
    rw [List.all_cons, Bool.and_eq_true] at h
    obtain ⟨ms, e, hm⟩ := nums_of h.2
    cases d with
    | int i =>
      have h1 := h.1
      unfold numB at h1
      rw [Bool.and_eq_true, decide_eq_true_iff, decide_eq_true_iff] at h1
      refine ⟨i.toNat :: ms, ?_, fun m hm' => ?_⟩
      · rw [List.map_cons, ← e]
        show _ = PyData.int ((i.toNat : Nat) : Int) :: _
        rw [Int.toNat_of_nonneg h1.1]
      · rcases List.mem_cons.mp hm' with z | z
        · omega
        · exact hm m z
    | _ => exact absurd h.1 (by simp [numB])
theorem all_nums {n : Nat} {ms : List Nat} (h : ∀ m ∈ ms, m < n) : (ms.map eN).all (numB 0 ((n : Int) - 1)) = true := by
  rw [List.all_eq_true]
  intro d hd
  obtain ⟨m, hm, rfl⟩ := List.mem_map.mp hd
  have := h m hm
  show (decide ((0 : Int) ≤ (m : Int)) && decide ((m : Int) ≤ (n : Int) - 1)) = true
  rw [decide_eq_true (by omega), decide_eq_true (by omega)]
  rfl
theorem perm_cover {α : Type} [DecidableEq α] : ∀ {s l : List α}, s.Nodup → (∀ x ∈ s, x ∈ l) → l.length ≤ s.length → s.Perm l
  | [], l, _, _, hl => by
    have : l = [] := List.length_eq_zero_iff.mp (Nat.le_zero.mp hl)
    rw [this]
  | a :: s, l, hn, hs, hl => by
    obtain ⟨h1, h2⟩ := List.nodup_cons.mp hn
    have ha := hs a List.mem_cons_self
    have hp := List.perm_cons_erase ha
    have hle := hp.length_eq
    rw [List.length_cons] at hle hl
    have ih := perm_cover (s := s) (l := l.erase a) h2 (fun x hx => by
      have hx2 := hp.mem_iff.mp (hs x (List.mem_cons_of_mem _ hx))
      rcases List.mem_cons.mp hx2 with z | z
      · exact absurd (z ▸ hx) h1
      · exact z) (by omega)
    exact (ih.cons a).trans hp.symm
def turnP (n : Nat) (d : D) : Prop := ∃ t : T, IsT n t ∧ d = eT t
theorem turnP_iff {n : Nat} {ms : List Nat} (hl : ms.length = n) (hm : ∀ m ∈ ms, m < n) : turnP n (.tuple (ms.map eN)) ↔ ms.Nodup := by
  constructor
  · rintro ⟨t, ht, e⟩
    have : ms = t := eT_inj (show eT ms = eT t from e)
    rw [this]
    exact ht.nd
  · intro h
    exact ⟨ms, ⟨hl, hm, h⟩, rfl⟩
theorem turnP_not {n : Nat} {d : D} (h : ∀ ds, d = .tuple ds → ¬ (ds.length = n ∧ ds.all (numB 0 ((n : Int) - 1)) = true)) : ¬ turnP n d := by
  rintro ⟨t, ht, rfl⟩
  exact h _ rfl ⟨(List.length_map _).trans ht.len, all_nums ht.lt⟩
def S_is_number : SP := fun ds R => ∃ (d : D) (lo hi : Int), ds = [d, .int lo, .int hi] ∧ R (.dat (.bool (numB lo hi d)))
def S_Lnumber : SP := S_is_number
def S_is_turn : SP := fun ds R => ∃ (d : D) (n k : Nat), ds = [d, eN n] ∧ n ≤ 6 ∧ k ≤ 50 ∧ Od k d ∧ ∀ b : Bool, (b = true ↔ turnP n d) → R (.dat (.bool b))
def S_Lis_turn : SP := S_is_turn
def w_is_number : WS := (wRet (wAnd (wIsi "int" (wVar 0)) (wAnd (wNot (wIsi "bool" (wVar 0))) (wChain (dop leD) (dop leD) (wVar 1) (wVar 0) (wVar 2)))))
def w_Lnumber : WS := (wRet (wAnd (wIsi "int" (wVar 0)) (wAnd (wNot (wIsi "bool" (wVar 0))) (wChain (dop leD) (dop leD) (wVar 1) (wVar 0) (wVar 2)))))
def w_is_turn : WS := (wSeq (wIf (wOr (wNot (wIsi "tuple" (wVar 0))) (wOp (dop neD) (wCB (on1 lenD) (wCons (wVar 0) wNil)) (wVar 1)))
 (wRet (wC (.bool false)))
 wNx)
 (wRet (wAnd (wCB (on1 (onBs fun l => l.all id)) (wCons (wLc (wiVar 0) (gN 2) wYes (wCB S_is_number (wCons (wVar 2) (wCons (wC (.int 0)) (wCons (wOp (dop subD) (wVar 1) (wC (.int 1))) wNil)))) [2]) wNil)) (wOp (dop eqD) (wLenSet (wVar 0)) (wVar 1)))))
def w_Lis_turn : WS := (wSeq (wIf (wOr (wNot (wIsi "tuple" (wVar 0))) (wOp (dop neD) (wCB (on1 lenD) (wCons (wVar 0) wNil)) (wVar 1)))
 (wRet (wC (.bool false)))
 wNx)
 (wRet (wAnd (wOp (dop eqD) (wLcG (wiVar 0) 2 (wNot (wCB S_Lnumber (wCons (wVar 2) (wCons (wC (.int 0)) (wCons (wOp (dop subD) (wVar 1) (wC (.int 1))) wNil))))) [2]) (wLst wNil)) (wOp (dop eqD) (wCB (on1 sortedT) (wCons (wVar 0) wNil)) (wLstRg (wR1 (wVar 1)))))))
theorem sp_is_number : ∀ ds R, S_is_number ds R → ds.length = 3 ∧ w_is_number (initSS 3 ds) (fin R) := by
  rintro ds R ⟨d, lo, hi, rfl, hr⟩
  refine ⟨rfl, ?_⟩
  cases d with
  | int i =>
    show if decide (lo ≤ i) = true then R (.dat (.bool (decide (i ≤ hi)))) else R (.dat (.bool false))
    have e : numB lo hi (.int i) = (decide (lo ≤ i) && decide (i ≤ hi)) := rfl
    rw [e] at hr
    refine if_dec (fun h => ?_) fun h => ?_
    · rw [decide_eq_true h] at hr
      exact hr
    · rw [decide_eq_false h] at hr
      exact hr
  | none => exact hr
  | bool b => exact hr
  | str s => exact hr
  | list l => exact hr
  | tuple l => exact hr
  | dict l => exact hr
theorem sp_Lnumber : ∀ ds R, S_Lnumber ds R → ds.length = 3 ∧ w_Lnumber (initSS 3 ds) (fin R) := sp_is_number
theorem ones_self (ds : List D) : ones ds = ds.map ID.one := rfl
theorem sp_is_turn : ∀ ds R, S_is_turn ds R → ds.length = 2 ∧ w_is_turn (initSS 3 ds) (fin R) := by
  rintro ds R ⟨d, n, k, rfl, hn, hk, hd, hr⟩
  refine ⟨rfl, ?_⟩
  have hno : (∀ ds, d = .tuple ds → ¬ (ds.length = n ∧ ds.all (numB 0 ((n : Int) - 1)) = true)) → R (.dat (.bool false)) := fun h => hr false ⟨(fun z => nomatch z), fun z => (turnP_not h z).elim⟩
  cases d with
  | tuple ds =>
    have hw := hd.tup_of
    refine ⟨shaped_int _, shaped_int _, ?_⟩
    show if (!PyData.eqv (.int ((ds.length : Nat) : Int)) (.int ((n : Nat) : Int))) = true then _ else _
    rw [eqv_int]
    refine if_nd (fun hne => hno fun ds' e h => hne (by cases e; omega)) fun heq => ?_
    have hl : ds.length = n := by omega
    show lcRun (gN 2) wYes (wCB S_is_number (wCons (wVar 2) (wCons (wC (.int 0)) (wCons (wOp (dop subD) (wVar 1) (wC (.int 1))) wNil)))) [.dat (.tuple ds), .dat (eN n), .no] (ones ds) [] _
    rw [ones_self]
    refine lc_map _ (fun d => PyData.bool (numB 0 ((n : Int) - 1) d)) ds [] (line_of (by show 0 + _ ≤ _; omega)) (fun d _ => rfl) (fun d hd Q hQ => ⟨d, 0, (n : Int) - 1, rfl, hQ⟩) ?_
    rw [List.nil_append]
    have e : ds.map (fun d => PyData.bool (numB 0 ((n : Int) - 1) d)) = (ds.map (numB 0 ((n : Int) - 1))).map PyData.bool := by
      rw [List.map_map]
      rfl
    refine ⟨ds.map (numB 0 ((n : Int) - 1)), by rw [e]; exact boolsOf_map _, ?_⟩
    show if ((ds.map (numB 0 ((n : Int) - 1))).all id) = true then _ else _
    have e2 : (ds.map (numB 0 ((n : Int) - 1))).all id = ds.all (numB 0 ((n : Int) - 1)) := by
      rw [List.all_map]
      rfl
    rw [e2]
    by_cases ha : ds.all (numB 0 ((n : Int) - 1)) = true
    · rw [if_pos ha]
      obtain ⟨ms, rfl, hm⟩ := nums_of ha
      rw [List.length_map] at hl
      have ei : ms.map eN = (ms.map fun m : Nat => (m : Int)).map PyData.int := by
        rw [List.map_map]
        rfl
      refine ⟨ms.map fun m : Nat => (m : Int), ei, by rw [List.length_map]; omega, fun us hus => ⟨shaped_int _, shaped_int _, ?_⟩⟩
      show R (.dat (.bool (PyData.eqv (.int ((us.length : Nat) : Int)) (.int ((n : Nat) : Int)))))
      rw [eqv_int]
      refine hr _ ?_
      rw [decide_eq_true_iff, turnP_iff hl hm]
      have hlm : (ms.map fun m : Nat => (m : Int)).length = n := (List.length_map _).trans hl
      constructor
      · intro hu
        have hp := perm_cover (s := us) (l := ms.map fun m : Nat => (m : Int)) hus.1 (fun x hx => (hus.2 x).mp hx) (by omega)
        have := hp.nodup_iff.mp hus.1
        exact List.Pairwise.of_map (S := fun a b : Int => a ≠ b) (fun m : Nat => (m : Int)) (fun a b hne e => hne (by rw [e])) this
      · intro hnd
        have : (ms.map fun m : Nat => (m : Int)).Nodup := List.pairwise_map.mpr (hnd.imp fun {a b} h e => h (by omega))
        have hp := (List.perm_ext_iff_of_nodup hus.1 this).mpr hus.2
        have := hp.length_eq
        omega
    · rw [if_neg ha]
      exact hno fun ds' e h => ha (by cases e; exact h.2)
  | none => exact hno fun _ e => nomatch e
  | bool b => exact hno fun _ e => nomatch e
  | int b => exact hno fun _ e => nomatch e
  | str s => exact hno fun _ e => nomatch e
  | list l => exact hno fun _ e => nomatch e
  | dict l => exact hno fun _ e => nomatch e
/-- those that do not answer -/
theorem lcF_run {i : Nat} {Wt : WE} {ss0 : List SV} {K : List D → Prop} (p : D → Bool) : ∀ (ds acc : List D), acc.length + ds.length ≤ sizeLine → (∀ d ∈ ds, ∀ R : SV → Prop, R (.dat (.bool (p d))) → Wt (ss0.set i (.dat d)) R) → K (acc ++ ds.filter p) → lcRunF i Wt ss0 ds acc K
  | [], acc, _, _, hk => by
    rw [List.filter_nil, List.append_nil] at hk
    exact hk
  | d :: ds, acc, hz, h, hk => by
    have hz' : acc.length + (ds.length + 1) ≤ sizeLine := hz
    refine h d List.mem_cons_self _ ?_
    show if p d = true then _ else _
    by_cases hp : p d = true
    · rw [if_pos hp]
      refine ⟨by omega, lcF_run p ds (acc ++ [d]) (by rw [List.length_append, List.length_singleton]; omega) (fun e he => h e (List.mem_cons_of_mem _ he)) ?_⟩
      rw [List.filter_cons_of_pos hp] at hk
      rw [List.append_assoc]
      exact hk
    · rw [if_neg hp]
      refine lcF_run p ds acc (by omega) (fun e he => h e (List.mem_cons_of_mem _ he)) ?_
      rw [List.filter_cons_of_neg hp] at hk
      exact hk
theorem eqv_nil (es : List D) : PyData.eqv (.list es) (.list []) = es.isEmpty := by
  cases es with
  | nil => rw [PyData.eqv, PyData.eqvAll]; rfl
  | cons e es => rw [PyData.eqv, PyData.eqvAll]; rfl
theorem filter_empty {p : D → Bool} {ds : List D} : (ds.filter fun d => !p d).isEmpty = ds.all p := by
  rw [Bool.eq_iff_iff, List.isEmpty_iff, List.filter_eq_nil_iff, List.all_eq_true]
  exact ⟨fun h d hd => by have := h d hd; simpa using this, fun h d hd => by rw [h d hd]; decide⟩
theorem Od.filter {k : Nat} {ds : List D} (h : ∀ d ∈ ds, Od k d) (p : D → Bool) (hk : k ≤ 50) : SeqAt.shaped (.list (ds.filter p)) = true := by
  have := Sh.lst (fun d => d) (ds.filter p) (k := k) fun d hd => (h d (List.mem_filter.mp hd).1).sh
  rw [List.map_id'] at this
  exact this.ok (by omega)
theorem sortN_range {n : Nat} {ms : List Nat} (hl : ms.length = n) (hm : ∀ m ∈ ms, m < n) : sortN ms = List.range n ↔ ms.Nodup := by
  constructor
  · intro e
    have := (sortN_perm ms).nodup_iff.mp (by rw [e]; exact List.nodup_range)
    exact this
  · intro h
    refine List.Perm.eq_of_pairwise (le := (· < ·)) (fun x y _ _ h1 h2 => by omega) (sortN_lt h) List.pairwise_lt_range ?_
    exact (sortN_perm ms).trans (perm_cover h (fun x hx => List.mem_range.mpr (hm x hx)) (by rw [List.length_range]; omega))
theorem eLN_inj {a b : List Nat} (h : PyData.list (a.map eN) = .list (b.map eN)) : a = b := map_inj (fun _ _ => eN_inj) (PyData.list.inj h)
theorem pure_eLN (a : List Nat) : pureD (.list (a.map eN)) = true := by
  rw [pureD]
  exact pureDs_map _ _ fun _ _ => rfl
theorem shaped_eLN (a : List Nat) : SeqAt.shaped (.list (a.map eN)) = true := (Sh.lst eN a (k := 0) fun t _ => Sh.int _).ok (by decide)
theorem sp_Lis_turn : ∀ ds R, S_Lis_turn ds R → ds.length = 2 ∧ w_Lis_turn (initSS 3 ds) (fin R) := by
  rintro ds R ⟨d, n, k, rfl, hn, hk, hd, hr⟩
  refine ⟨rfl, ?_⟩
  have hno : (∀ ds, d = .tuple ds → ¬ (ds.length = n ∧ ds.all (numB 0 ((n : Int) - 1)) = true)) → R (.dat (.bool false)) := fun h => hr false ⟨(fun z => nomatch z), fun z => (turnP_not h z).elim⟩
  cases d with
  | tuple ds =>
    have hw := hd.tup_of
    refine ⟨shaped_int _, shaped_int _, ?_⟩
    show if (!PyData.eqv (.int ((ds.length : Nat) : Int)) (.int ((n : Nat) : Int))) = true then _ else _
    rw [eqv_int]
    refine if_nd (fun hne => hno fun ds' e h => hne (by cases e; omega)) fun heq => ?_
    have hl : ds.length = n := by omega
    refine ⟨by show 2 < 3; decide, ds, rfl, ?_⟩
    refine lcF_run (fun d => !numB 0 ((n : Int) - 1) d) ds [] (line_of (by show 0 + _ ≤ _; omega)) (fun d hd Q hQ => ⟨d, 0, (n : Int) - 1, rfl, hQ⟩) ?_
    rw [List.nil_append]
    refine ⟨Nat.zero_le _, .inl ⟨rfl, Od.filter hw.2 _ hk, shaped_eLN [], ?_⟩⟩
    show if PyData.eqv (.list (ds.filter fun d => !numB 0 ((n : Int) - 1) d)) (.list []) = true then _ else _
    rw [eqv_nil, filter_empty]
    by_cases ha : ds.all (numB 0 ((n : Int) - 1)) = true
    · rw [if_pos ha]
      obtain ⟨ms, rfl, hm⟩ := nums_of ha
      rw [List.length_map] at hl
      refine ⟨sortOk_eN (by omega), ?_⟩
      rw [srt_eN]
      refine ⟨rgOk_nat (by omega), ?_⟩
      rw [rgI_nat]
      refine ⟨shaped_eLN (sortN ms), shaped_eLN (List.range n), ?_⟩
      show R (.dat (.bool (PyData.eqv (.list ((sortN ms).map eN)) (.list ((List.range n).map eN)))))
      rw [eqv_dec (p := sortN ms = List.range n) (pure_eLN _) (pure_eLN _) ⟨eLN_inj, fun e => by rw [e]⟩]
      refine hr _ ?_
      rw [decide_eq_true_iff, turnP_iff hl hm, sortN_range hl hm]
    · rw [if_neg ha]
      exact hno fun ds' e h => ha (by cases e; exact h.2)
  | none => exact hno fun _ e => nomatch e
  | bool b => exact hno fun _ e => nomatch e
  | int b => exact hno fun _ e => nomatch e
  | str s => exact hno fun _ e => nomatch e
  | list l => exact hno fun _ e => nomatch e
  | dict l => exact hno fun _ e => nomatch e
end Ab

set_option Elab.async false
set_option linter.all false
set_option maxRecDepth 100000
set_option maxHeartbeats 1000000
/-! S28: things spoilt. -/
namespace Ab
open PySem PySem.Spec
open Mt (T IsT Yard Row Gen genT)
theorem strOk_of (s : String) : PyData.strOk (Str.ofString s) = true := by
  unfold PyData.strOk
  rw [Str.ofString_eq_toList]
  show ((s.toList.map Char.toNat).toArray.all fun x => decide (x < 0x110000)) = true
  rw [List.all_toArray, List.all_map, List.all_eq_true]
  intro c _
  refine decide_eq_true ?_
  have := c.valid
  show c.val.toNat < 0x110000
  rcases this with h | h
  · have h : c.val.toNat < 0xd800 := h
    omega
  · exact h.2
/-- data that may be spoilt -/
inductive Gd : Nat → D → Prop
  | int (k : Nat) (i : Int) : i.natAbs ≤ 1000 → Gd k (.int i)
  | tup {k : Nat} {ds : List D} : ds.length ≤ 400 → (∀ d ∈ ds, Gd k d) → Gd (k + 1) (.tuple ds)
theorem Gd.od {k : Nat} {d : D} (h : Gd k d) : Od k d := by
  induction h with
  | int k i _ => exact .int k i
  | tup h1 _ ih => exact .tup (by omega) ih
theorem Gd.mono {k j : Nat} {d : D} (h : Gd k d) (hj : k ≤ j) : Gd j d := by
  induction h generalizing j with
  | int k i h => exact .int j i h
  | tup h1 _ ih =>
    cases j with
    | zero => omega
    | succ j => exact .tup h1 fun d hd => ih d hd (by omega)
theorem cut_memB {α : Type} {l : List α} {lo hi : Option Int} {x : α} (h : x ∈ cut l lo hi) : x ∈ l := List.mem_of_mem_drop (List.mem_of_mem_take h)
theorem cut_lenB {α : Type} (l : List α) (lo hi : Option Int) : (cut l lo hi).length ≤ l.length := by
  unfold cut
  rw [List.length_take, List.length_drop]
  omega
def S_Lsame : SP := fun ds R => ∃ b1 b2 : Bool, ds = [.bool b1, .bool b2] ∧ R (.dat (.bool (b1 == b2)))
def w_Lsame : WS := (wRet (wAnd (wIsi "bool" (wVar 0)) (wOp (dop eqD) (wVar 0) (wVar 1))))
theorem shaped_b (b : Bool) : SeqAt.shaped (.bool b) = true := (Sh.bool b).ok (by decide)
theorem eqv_b (a b : Bool) : PyData.eqv (.bool a) (.bool b) = (a == b) := by rw [PyData.eqv]
theorem sp_Lsame : ∀ ds R, S_Lsame ds R → ds.length = 2 ∧ w_Lsame (initSS 2 ds) (fin R) := by
  rintro ds R ⟨a, b, rfl, hr⟩
  refine ⟨rfl, shaped_b a, shaped_b b, ?_⟩
  show R (.dat (.bool (PyData.eqv (.bool a) (.bool b))))
  rw [eqv_b]
  exact hr
theorem ll6 {n : Nat} (h : Nat.ble n 1000000 = true) : n ≤ sizeLine := line_of (Nat.le_of_ble_eq_true h)
def odds : List D := [.int (-1), .int 0, .int 1, .int 2, .int 5, .int 6, .bool true, .bool false, .none, .str (PySem.Str.ofString ""), .str (PySem.Str.ofString "0"), .tuple [], .list [], .tuple [.int 0], .tuple [.int 0, .int 1], .tuple [.int 1, .int 0], .tuple [.int 0, .int 0], .tuple [.tuple [.int 0]], .tuple [.int 0, .tuple [.int 0]]]
theorem odds_ok : ∀ d ∈ odds, Od 2 d := by
  have i1 : ∀ (k : Nat) (l : List D), l.length ≤ 1000 → (∀ d ∈ l, ∃ i, d = .int i) → Od (k + 1) (.tuple l) := fun k l hl h => .tup hl fun d hd => by
    obtain ⟨i, rfl⟩ := h d hd
    exact .int k i
  unfold odds
  refine List.forall_mem_cons.mpr ⟨.int _ _, List.forall_mem_cons.mpr ⟨.int _ _, List.forall_mem_cons.mpr ⟨.int _ _, List.forall_mem_cons.mpr ⟨.int _ _, List.forall_mem_cons.mpr ⟨.int _ _, List.forall_mem_cons.mpr ⟨.int _ _, List.forall_mem_cons.mpr ⟨.bool _ _, List.forall_mem_cons.mpr ⟨.bool _ _, List.forall_mem_cons.mpr ⟨.none _, List.forall_mem_cons.mpr ⟨.str _ _ (strOk_of _), List.forall_mem_cons.mpr ⟨.str _ _ (strOk_of _), List.forall_mem_cons.mpr ⟨?_, List.forall_mem_cons.mpr ⟨?_, List.forall_mem_cons.mpr ⟨?_, List.forall_mem_cons.mpr ⟨?_, List.forall_mem_cons.mpr ⟨?_, List.forall_mem_cons.mpr ⟨?_, List.forall_mem_cons.mpr ⟨?_, List.forall_mem_cons.mpr ⟨?_, fun d hd => nomatch hd⟩⟩⟩⟩⟩⟩⟩⟩⟩⟩⟩⟩⟩⟩⟩⟩⟩⟩⟩
  · exact i1 1 [] (by decide) fun d hd => nomatch hd
  · exact .lst (by decide) fun d hd => nomatch hd
  · exact i1 1 _ (by decide) fun d hd => by simp at hd; exact ⟨_, hd⟩
  · exact i1 1 _ (by decide) fun d hd => by simp at hd; rcases hd with h | h <;> exact ⟨_, h⟩
  · exact i1 1 _ (by decide) fun d hd => by simp at hd; rcases hd with h | h <;> exact ⟨_, h⟩
  · exact i1 1 _ (by decide) fun d hd => by simp at hd; exact ⟨_, hd⟩
  · exact .tup (by decide) fun d hd => by
      rw [List.mem_singleton.mp hd]
      exact i1 0 _ (by decide) fun d hd => by simp at hd; exact ⟨_, hd⟩
  · refine .tup (by decide) fun d hd => ?_
    rcases List.mem_cons.mp hd with h | h
    · rw [h]; exact .int _ _
    · rw [List.mem_singleton.mp h]
      exact i1 0 _ (by decide) fun d hd => by simp at hd; exact ⟨_, hd⟩
def S_Lodd : SP := fun ds R => ∃ m : Nat, ds = [eN m] ∧ ∀ d, Od 2 d → R (.dat d)
def w_Lodd : WS := (wSeq (wAsg 1 (wLst (wCons (wNeg (wC (.int 1))) (wCons (wC (.int 0)) (wCons (wC (.int 1)) (wCons (wC (.int 2)) (wCons (wC (.int 5)) (wCons (wC (.int 6)) (wCons (wC (.bool true)) (wCons (wC (.bool false)) (wCons (wC .none) (wCons (wC (.str (PySem.Str.ofString ""))) (wCons (wC (.str (PySem.Str.ofString "0"))) (wCons (wTup wNil) (wCons (wLst wNil) (wCons (wTup (wCons (wC (.int 0)) wNil)) (wCons (wTup (wCons (wC (.int 0)) (wCons (wC (.int 1)) wNil))) (wCons (wTup (wCons (wC (.int 1)) (wCons (wC (.int 0)) wNil))) (wCons (wTup (wCons (wC (.int 0)) (wCons (wC (.int 0)) wNil))) (wCons (wTup (wCons (wTup (wCons (wC (.int 0)) wNil)) wNil)) (wCons (wTup (wCons (wC (.int 0)) (wCons (wTup (wCons (wC (.int 0)) wNil)) wNil))) wNil)))))))))))))))))))))
 (wRet (wOp (dop ixD) (wVar 1) (wOp (dop modD) (wVar 0) (wC (.int 19))))))
theorem get_odd (m : Nat) : ∃ d, L2.atI odds ((m : Int) % 19) = some d ∧ Od 2 d := by
  have hlt : m % 19 < odds.length := Nat.mod_lt _ (by decide)
  refine ⟨odds[m % 19], ?_, odds_ok _ (List.getElem_mem hlt)⟩
  exact L2.atI_nat (j := m % 19) (List.getElem?_eq_getElem hlt)
theorem sp_Lodd : ∀ ds R, S_Lodd ds R → ds.length = 1 ∧ w_Lodd (initSS 2 ds) (fin R) := by
  rintro ds R ⟨m, rfl, hr⟩
  refine ⟨rfl, ?_⟩
  refine ⟨ll6 rfl, ll6 rfl, .inr ?_⟩
  refine ⟨ll6 rfl, ll6 rfl, ll6 rfl, ll6 rfl, ll6 rfl, ll6 rfl, ll6 rfl, ll6 rfl, ll6 rfl, .inr ⟨.inr rfl, ?_⟩⟩
  obtain ⟨d, hd, ho⟩ := get_odd m
  exact ⟨by show (0 : Int) < 19; decide, d, hd, hr d ho⟩
/-! ### spoilt -/
def S_Lspoilt (j : Nat) : SP := fun ds R => ∃ (d : D) (m deep k : Nat), ds = [d, eN m, eN deep] ∧ deep < j ∧ Gd k d ∧ k ≤ 10 ∧ ∀ d', Od (k + 2) d' → R (.dat d')
theorem S0_Lspoilt : ∀ ds R, ¬ S_Lspoilt 0 ds R := fun ds R ⟨d, m, deep, k, _, h, _⟩ => by omega
def w_sp4 : WS := (wRet (wCB S_Lodd (wCons (wOp (dop divD) (wVar 1) (wC (.int 6))) wNil)))
def w_sp3 : WS := (wSeq (wIf (wAnd (wIsi "int" (wVar 0)) (wOp (dop eqD) (wOp (dop modD) (wOp (dop divD) (wVar 1) (wC (.int 6))) (wC (.int 2))) (wC (.int 0))))
 (wRet (wOp (dop ixD) (wLst (wCons (wCB (on1 strD) (wCons (wVar 0) wNil)) (wCons (wNeg (wVar 0)) (wCons (wOp addS (wVar 0) (wC (.int 1))) (wCons (wOp (dop eqD) (wVar 0) (wC (.int 1))) (wCons (wOp (dop subD) (wVar 0) (wC (.int 1))) wNil)))))) (wOp (dop modD) (wOp (dop divD) (wVar 1) (wC (.int 12))) (wC (.int 5)))))
 wNx) w_sp4)
def w_sp2 : WS := (wSeq (wIf (wAnd (wIsi "tuple" (wVar 0)) (wAnd (wOp (dop gtD) (wCB (on1 lenD) (wCons (wVar 0) wNil)) (wC (.int 0))) (wOp (dop eqD) (wOp (dop modD) (wOp (dop divD) (wVar 1) (wC (.int 6))) (wC (.int 2))) (wC (.int 0)))))
 (wRet (wOp (dop ixD) (wLst (wCons (wCB (on1 listD) (wCons (wVar 0) wNil)) (wCons (wSl (wVar 0) (fun _ R => R Option.none) (wPart (wNeg (wC (.int 1))))) (wCons (wOp addS (wVar 0) (wSl (wVar 0) (wPart (wNeg (wC (.int 1)))) (fun _ R => R Option.none))) (wCons (wSl (wVar 0) (wPart (wC (.int 1))) (fun _ R => R Option.none)) (wCons (wRevT (wVar 0)) (wCons (wOp (dop mulT) (wVar 0) (wC (.int 2))) wNil))))))) (wOp (dop modD) (wOp (dop divD) (wVar 1) (wC (.int 12))) (wC (.int 6)))))
 wNx) w_sp3)
def w_Lspoilt (j : Nat) : WS := (wSeq (wIf (wAnd (wOp (dop gtD) (wVar 2) (wC (.int 0))) (wAnd (wIsi "tuple" (wVar 0)) (wAnd (wOp (dop gtD) (wCB (on1 lenD) (wCons (wVar 0) wNil)) (wC (.int 0))) (wOp (dop gtD) (wOp (dop modD) (wVar 1) (wC (.int 6))) (wC (.int 0))))))
 (wSeq (wAsg 3 (wOp (dop modD) (wOp (dop divD) (wVar 1) (wC (.int 6))) (wCB (on1 lenD) (wCons (wVar 0) wNil))))
 (wSeq (wAsg 4 (wCB (S_Lspoilt j) (wCons (wOp (dop ixD) (wVar 0) (wVar 3)) (wCons (wOp (dop divD) (wOp (dop divD) (wVar 1) (wC (.int 6))) (wCB (on1 lenD) (wCons (wVar 0) wNil))) (wCons (wOp (dop subD) (wVar 2) (wC (.int 1))) wNil)))))
 (wRet (wOp addS (wOp addS (wSl (wVar 0) (fun _ R => R Option.none) (wPart (wVar 3))) (wTup (wCons (wVar 4) wNil))) (wSl (wVar 0) (wPart (wOp addS (wVar 3) (wC (.int 1)))) (fun _ R => R Option.none))))))
 wNx)
 w_sp2)
theorem cdv (i j : Int) (h : 0 < j) (h2 : j < 1073741824) : L2.CDiv i j := ⟨h, h2⟩
section
variable {R : SV → Prop} {d : D} {m deep k : Nat} {s3 s4 : SV}
theorem sp_sp4 (hr : ∀ d', Od (k + 2) d' → R (.dat d')) : w_sp4 [.dat d, .dat (eN m), .dat (eN deep), s3, s4] (fin R) :=
  ⟨cdv _ _ (by decide) (by decide), m / 6, rfl, fun d hd => hr d (hd.mono (by omega))⟩
theorem pick_list {l : List D} {i : Int} {n j : Nat} (hl : l.length = n) (hn : 0 < n) (hi : i = ((j % n : Nat) : Int)) (h : ∀ d ∈ l, R (.dat d)) : ∃ d, L2.atI l i = some d ∧ R (.dat d) := by
  have hlt : j % n < l.length := by rw [hl]; exact Nat.mod_lt _ hn
  refine ⟨l[j % n], ?_, h _ (List.getElem_mem hlt)⟩
  rw [hi]
  exact L2.atI_nat (List.getElem?_eq_getElem hlt)
theorem sp_sp3 (hg : Gd k d) (hr : ∀ d', Od (k + 2) d' → R (.dat d')) : w_sp3 [.dat d, .dat (eN m), .dat (eN deep), s3, s4] (fin R) := by
  cases hg with
  | tup h1 h2 => exact sp_sp4 hr
  | int k i hi =>
    refine ⟨cdv _ _ (by decide) (by decide), by show (0 : Int) < 2; decide, shaped_int _, shaped_int _, ?_⟩
    show if PyData.eqv (.int (((m : Nat) : Int) / 6 % 2)) (.int 0) = true then _ else _
    rw [eqv_int]
    refine if_dec (fun h => ?_) fun h => sp_sp4 hr
    have hlog : i.natAbs.log2 < 1920 := by
      by_cases h0 : i.natAbs = 0
      · rw [h0]; decide
      · refine (Nat.log2_lt h0).mpr (Nat.lt_of_le_of_lt hi ?_)
        exact Nat.lt_of_lt_of_le (show 1000 < 2 ^ 10 by decide) (Nat.pow_le_pow_right (by decide) (by decide))
    refine ⟨hlog, shaped_int _, shaped_int _, ll6 rfl, .inr ⟨cdv _ _ (by decide) (by decide), by show (0 : Int) < 5; decide, ?_⟩⟩
    refine pick_list (n := 5) (j := m / 12) rfl (by decide) rfl fun d hd => hr d ?_
    rcases List.mem_cons.mp hd with h | hd
    · rw [h]; exact .str _ _ (strOk_of _)
    · rcases List.mem_cons.mp hd with h | hd
      · rw [h]; exact .int _ _
      · rcases List.mem_cons.mp hd with h | hd
        · rw [h]; exact .int _ _
        · rcases List.mem_cons.mp hd with h | hd
          · rw [h]; exact .bool _ _
          · rw [List.mem_singleton.mp hd]; exact .int _ _
theorem sp_sp2 (hg : Gd k d) (hr : ∀ d', Od (k + 2) d' → R (.dat d')) : w_sp2 [.dat d, .dat (eN m), .dat (eN deep), s3, s4] (fin R) := by
  have h3 := fun s3 s4 => sp_sp3 (m := m) (deep := deep) (s3 := s3) (s4 := s4) hg hr
  cases hg with
  | int k i hi => exact h3 _ _
  | @tup k ds h1 h2 =>
    show if decide ((0 : Int) < ((ds.length : Nat) : Int)) = true then _ else _
    refine if_dec (fun hp => ?_) fun hp => h3 _ _
    refine ⟨cdv _ _ (by decide) (by decide), by show (0 : Int) < 2; decide, shaped_int _, shaped_int _, ?_⟩
    show if PyData.eqv (.int (((m : Nat) : Int) / 6 % 2)) (.int 0) = true then _ else _
    rw [eqv_int]
    refine if_dec (fun h => ?_) fun h => h3 _ _
    have hod : ∀ d ∈ ds, Od (k + 2) d := fun d hd => (h2 d hd).od.mono (by omega)
    have hc := cut_lenB ds (some (-1)) Option.none
    refine .inr ⟨line_of (by omega), by decide, by decide, by omega, ll6 rfl, .inr ⟨cdv _ _ (by decide) (by decide), by show (0 : Int) < 6; decide, ?_⟩⟩
    refine pick_list (n := 6) (j := m / 12) rfl (by decide) rfl fun d hd => hr d ?_
    rcases List.mem_cons.mp hd with h | hd
    · rw [h]; exact .lst (by omega) hod
    · rcases List.mem_cons.mp hd with h | hd
      · rw [h]; exact .tup (Nat.le_trans (cut_lenB _ _ _) (by omega)) fun d hd => hod d (cut_memB hd)
      · rcases List.mem_cons.mp hd with h | hd
        · rw [h]
          refine .tup (by rw [List.length_append]; omega) fun d hd => ?_
          rcases List.mem_append.mp hd with z | z
          · exact hod d z
          · exact hod d (cut_memB z)
        · rcases List.mem_cons.mp hd with h | hd
          · rw [h]; exact .tup (Nat.le_trans (cut_lenB _ _ _) (by omega)) fun d hd => hod d (cut_memB hd)
          · rcases List.mem_cons.mp hd with h | hd
            · rw [h]; exact .tup (by rw [List.length_reverse]; omega) fun d hd => hod d (List.mem_reverse.mp hd)
            · rw [List.mem_singleton.mp hd]
              have e : (List.replicate (2 : Int).toNat ds).flatten = ds ++ ds := by
                show (List.replicate 2 ds).flatten = _
                simp [List.replicate]
              rw [e]
              refine .tup (by rw [List.length_append]; omega) fun d hd => ?_
              rcases List.mem_append.mp hd with z | z
              · exact hod d z
              · exact hod d z
end
theorem sp_Lspoilt : ∀ j ds R, S_Lspoilt (j + 1) ds R → ds.length = 3 ∧ w_Lspoilt j (initSS 5 ds) (fin R) := by
  rintro j ds R ⟨d, m, deep, k, rfl, hj, hg, hk, hr⟩
  refine ⟨rfl, ?_⟩
  have h2 := fun s3 s4 => sp_sp2 (m := m) (deep := deep) (s3 := s3) (s4 := s4) hg hr
  show if decide ((0 : Int) < ((deep : Nat) : Int)) = true then _ else _
  refine if_dec (fun hd0 => ?_) fun _ => h2 _ _
  cases hg with
  | int k i hi => exact h2 _ _
  | @tup k ds h1 hm =>
    show if decide ((0 : Int) < ((ds.length : Nat) : Int)) = true then _ else _
    refine if_dec (fun hp => ?_) fun _ => h2 _ _
    refine ⟨by show (0 : Int) < 6; decide, ?_⟩
    show if decide ((0 : Int) < ((m : Nat) : Int) % 6) = true then _ else _
    refine if_dec (fun hm6 => ?_) fun _ => h2 _ _
    have hpn : 0 < ds.length := by omega
    have hlt : m / 6 % ds.length < ds.length := Nat.mod_lt _ hpn
    refine ⟨cdv _ _ (by decide) (by decide), hp, .inl rfl, ?_⟩
    refine ⟨ds[m / 6 % ds.length], L2.atI_nat (j := m / 6 % ds.length) (List.getElem?_eq_getElem hlt), cdv _ _ (by decide) (by decide), cdv _ _ hp (by show ((ds.length : Nat) : Int) < _; omega), ?_⟩
    refine ⟨ds[m / 6 % ds.length], m / 6 / ds.length, deep - 1, k, ?_, by omega, hm _ (List.getElem_mem hlt), by omega, fun d' hd' => ⟨.inr rfl, ?_⟩⟩
    · show [_, _, PyData.int (((deep : Nat) : Int) - 1)] = [_, _, PyData.int (((deep - 1 : Nat) : Nat) : Int)]
      rw [show ((deep : Nat) : Int) - 1 = ((deep - 1 : Nat) : Int) by omega]
      rfl
    have hc1 := cut_lenB ds Option.none (some (((m / 6 % ds.length : Nat)) : Int))
    have hc2 := cut_lenB ds (some ((((m / 6 % ds.length : Nat)) : Int) + 1)) Option.none
    refine ⟨ll6 rfl, line_of ?_, line_of ?_, hr _ ?_⟩
    · show (cut ds Option.none (some (((m / 6 % ds.length : Nat)) : Int))).length + 1 ≤ _
      omega
    · show (cut ds Option.none (some (((m / 6 % ds.length : Nat)) : Int)) ++ [d']).length + (cut ds (some ((((m / 6 % ds.length : Nat)) : Int) + 1)) Option.none).length ≤ _
      rw [List.length_append, List.length_singleton]
      omega
    · show Od (k + 1 + 2) (.tuple ((cut ds Option.none (some (((m / 6 % ds.length : Nat)) : Int)) ++ [d']) ++ cut ds (some ((((m / 6 % ds.length : Nat)) : Int) + 1)) Option.none))
      refine .tup (by rw [List.length_append, List.length_append, List.length_singleton]; omega) fun e he => ?_
      rcases List.mem_append.mp he with z | z
      · rcases List.mem_append.mp z with y | y
        · exact (hm e (cut_memB y)).od.mono (by omega)
        · rw [List.mem_singleton.mp y]
          exact hd'
      · exact (hm e (cut_memB z)).od.mono (by omega)
end Ab

set_option Elab.async false
set_option linter.all false
set_option maxRecDepth 100000
set_option maxHeartbeats 1000000
/-! S31: what is written, without its law. -/
namespace Ab
open PySem PySem.Spec
open Mt (T IsT)
theorem if_fW {b : Bool} {A B : Prop} (hb : b = false) (h : B) : if b = true then A else B := by
  subst hb
  exact h
theorem nx_goW {K : List SV → Prop} {O : Out → Prop} {ss ss' : List SV} (e : ss = ss') (h : K ss') : wNx ss (nxt K O) := by
  subst e
  exact h
theorem nx_goV {K : List SV → Prop} {O : Out → Prop} {ss ss' : List SV} (e : ss = ss') (h : K ss') : nxt K O (.nx ss) := by
  subst e
  exact h
/-! ### texts -/
def strI (i : Int) : Str := toString i
def sp1 : Str := PySem.Str.ofString " "
def sp3 : Str := PySem.Str.ofString " / "
def stillS : Str := PySem.Str.ofString "still"
def ringS (r : List Nat) : Str := Str.join sp1 (r.map fun p => strI (p : Nat))
def textS (rs : List (List Nat)) : Str := if rs = [] then stillS else Str.join sp3 (rs.map ringS)
theorem len_app (a b : Str) : (a ++ b).length = a.length + b.length := by
  show (a.cps ++ b.cps).size = _
  rw [Array.size_append]
  rfl
theorem ok_app {a b : Str} (ha : PyData.strOk a = true) (hb : PyData.strOk b = true) : PyData.strOk (a ++ b) = true := by
  unfold PyData.strOk at *
  show (a.cps ++ b.cps).all _ = true
  rw [Array.all_append, ha, hb]
  rfl
theorem strI_len : ∀ p < 6, (strI ((p : Nat) : Int)).length = 1 := by decide +kernel
theorem strI_ok (i : Int) : PyData.strOk (strI i) = true := strOk_of _
theorem join_ok {sep : Str} (hs : PyData.strOk sep = true) : ∀ {l : List Str}, (∀ x ∈ l, PyData.strOk x = true) → PyData.strOk (Str.join sep l) = true
  | [], _ => (by decide +kernel : PyData.strOk Str.empty = true)
  | [x], h => h x List.mem_cons_self
  | x :: y :: r, h => ok_app (ok_app (h x List.mem_cons_self) hs) (join_ok hs fun z hz => h z (List.mem_cons_of_mem _ hz))
theorem join_len (sep : Str) : ∀ (l : List Str) (c : Nat), (∀ x ∈ l, x.length ≤ c) → (Str.join sep l).length ≤ l.length * (c + sep.length)
  | [], c, _ => Nat.zero_le _
  | [x], c, h => by
    have := h x List.mem_cons_self
    show x.length ≤ 1 * (c + sep.length)
    omega
  | x :: y :: r, c, h => by
    have h1 := h x List.mem_cons_self
    have ih := join_len sep (y :: r) c fun z hz => h z (List.mem_cons_of_mem _ hz)
    show (x ++ sep ++ Str.join sep (y :: r)).length ≤ ((y :: r).length + 1) * (c + sep.length)
    rw [len_app, len_app, Nat.succ_mul]
    omega
theorem join_snoc (sep : Str) : ∀ (l : List Str) (x : Str), l ≠ [] → Str.join sep (l ++ [x]) = Str.join sep l ++ sep ++ x
  | [], _, h => absurd rfl h
  | [y], x, _ => rfl
  | y :: z :: r, x, _ => by
    show y ++ sep ++ Str.join sep ((z :: r) ++ [x]) = (y ++ sep ++ Str.join sep (z :: r)) ++ sep ++ x
    rw [join_snoc sep (z :: r) x (by simp)]
    have as : ∀ a b c : Str, a ++ b ++ c = a ++ (b ++ c) := fun a b c => by
      show (⟨a.cps ++ b.cps ++ c.cps⟩ : Str) = ⟨a.cps ++ (b.cps ++ c.cps)⟩
      rw [Array.append_assoc]
    simp only [as]
theorem join_pos (sep : Str) : ∀ {l : List Str}, l ≠ [] → (∀ x ∈ l, 0 < x.length) → 0 < (Str.join sep l).length
  | [], h, _ => absurd rfl h
  | [x], _, h => h x List.mem_cons_self
  | x :: y :: r, _, h => by
    show 0 < (x ++ sep ++ Str.join sep (y :: r)).length
    rw [len_app, len_app]
    have := h x List.mem_cons_self
    omega
theorem sum_le {l : List Str} {c : Nat} (h : ∀ x ∈ l, x.length ≤ c) : (l.map (·.length)).sum ≤ l.length * c := by
  induction l with
  | nil => exact Nat.zero_le _
  | cons x l ih =>
    have h1 := h x List.mem_cons_self
    have h2 := ih fun z hz => h z (List.mem_cons_of_mem _ hz)
    rw [List.map_cons, List.sum_cons, List.length_cons, Nat.succ_mul]
    omega
/-- rings of few points -/
def RgOkS (r : List Nat) : Prop := r ≠ [] ∧ r.length ≤ 6 ∧ ∀ p ∈ r, p < 6
theorem ring_parts {r : List Nat} (h : RgOkS r) : ∀ x ∈ r.map (fun p : Nat => strI (p : Nat)), x.length = 1 ∧ PyData.strOk x = true := fun x hx => by
  obtain ⟨p, hp, rfl⟩ := List.mem_map.mp hx
  exact ⟨strI_len p (h.2.2 p hp), strI_ok _⟩
theorem ringS_ok {r : List Nat} (h : RgOkS r) : PyData.strOk (ringS r) = true ∧ 0 < (ringS r).length ∧ (ringS r).length ≤ 12 := by
  have hp := ring_parts h
  refine ⟨join_ok (strOk_of _) fun x hx => (hp x hx).2, join_pos _ (fun e => h.1 (List.map_eq_nil_iff.mp e)) fun x hx => by rw [(hp x hx).1]; exact Nat.zero_lt_one, ?_⟩
  have := join_len sp1 (r.map fun p : Nat => strI (p : Nat)) 1 fun x hx => Nat.le_of_eq (hp x hx).1
  have e : sp1.length = 1 := by decide +kernel
  rw [List.length_map, e] at this
  have h6 := h.2.1
  unfold ringS
  omega
theorem rings_ok {n : Nat} {a : T} (hn : n ≤ 6) (ha : IsT n a) : (Mt.ringsT a).length ≤ 6 ∧ ∀ r ∈ Mt.ringsT a, RgOkS r := by
  constructor
  · unfold Mt.ringsT
    rw [List.length_map]
    refine Nat.le_trans (List.length_filter_le _ _) ?_
    rw [List.length_range, ha.len]
    exact hn
  · intro r hr
    obtain ⟨p, hp, rfl⟩ := List.mem_map.mp hr
    have hp := List.mem_range.mp (List.mem_filter.mp hp).1
    rw [ha.len] at hp
    obtain ⟨_, h1, h2, _⟩ := Mt.per_spec ha hp
    refine ⟨fun e => ?_, ?_, fun q hq => ?_⟩
    · have := congrArg List.length e
      unfold Mt.ring at this
      rw [List.length_map, List.length_range] at this
      simp at this
      omega
    · unfold Mt.ring
      rw [List.length_map, List.length_range]
      omega
    · unfold Mt.ring at hq
      obtain ⟨k, _, rfl⟩ := List.mem_map.mp hq
      have := Mt.orb_lt ha hp k
      omega
theorem textS_ok {rs : List (List Nat)} (h : ∀ r ∈ rs, RgOkS r) : PyData.strOk (textS rs) = true := by
  unfold textS
  split
  · exact strOk_of _
  · refine join_ok (strOk_of _) fun x hx => ?_
    obtain ⟨r, hr, rfl⟩ := List.mem_map.mp hx
    exact (ringS_ok (h r hr)).1
theorem shaped_str {s : Str} (h : PyData.strOk s = true) : SeqAt.shaped (.str s) = true := (Sh.strs h).ok (by decide)
theorem eqv_str (a b : Str) : PyData.eqv (.str a) (.str b) = decide (a = b) := by
  rw [PyData.eqv]
  exact Bool.eq_iff_iff.mpr (by simp)
theorem joinT (sep : Str) (l : List Str) : Txt.join sep l = Str.join sep l := TL.join_eq sep l
def S_text_of : SP := fun ds R => ∃ (n : Nat) (a : T), ds = [eT a] ∧ n ≤ 6 ∧ IsT n a ∧ R (.dat (.str (textS (Mt.ringsT a))))
def S_Lwritten : SP := S_text_of
def w_text_of : WS := (wSeq (wIf (wOp (dop eqD) (wCB (on1 lenD) (wCons (wCB S_rings (wCons (wVar 0) wNil)) wNil)) (wC (.int 0)))
 (wRet (wC (.str (PySem.Str.ofString "still"))))
 wNx)
 (wRet (wJoin (wC (.str (PySem.Str.ofString " / "))) (wLc (wiE (wCB S_rings (wCons (wVar 0) wNil))) (gN 1) wYes (wJoin (wC (.str (PySem.Str.ofString " "))) (wLc (wiVar 1) (gN 2) wYes (wCB (on1 strD) (wCons (wVar 2) wNil)) [2])) [1]))))
/-- a ring's text -/
theorem run_ring {i j : Nat} {ss : List SV} {r : List Nat} {R : D → Prop} (h : RgOkS r) (hT : ∀ p ∈ r, ∀ Q : D → Prop, Q (.str (strI ((p : Nat) : Int))) → (gN i) (.one (eN p)) ss fun ss1 => (wCB (on1 strD) (wCons (wVar j) wNil)) ss1 (dd Q))
    (hR : R (.str (ringS r))) : lcRun (gN i) wYes (wCB (on1 strD) (wCons (wVar j) wNil)) ss (ones (r.map eN)) [] fun es => ∃ ys : List Str, PyData.list es = .list (ys.map PyData.str) ∧ (ys.map (·.length)).sum + ys.length * sp1.length ≤ 16777216 ∧ R (.str (Txt.join sp1 ys)) := by
  rw [ones_map]
  have h6 := h.2.1
  refine lc_map _ (fun p : Nat => PyData.str (strI ((p : Nat) : Int))) r [] (line_of (by show 0 + _ ≤ _; omega)) (fun p _ => rfl) (fun p hp Q hQ => hT p hp Q hQ) ?_
  have e : r.map (fun p : Nat => PyData.str (strI ((p : Nat) : Int))) = (r.map fun p : Nat => strI ((p : Nat) : Int)).map PyData.str := by
    rw [List.map_map]
    rfl
  rw [List.nil_append, e]
  refine ⟨_, rfl, ?_, ?_⟩
  · have := sum_le (l := r.map fun p : Nat => strI ((p : Nat) : Int)) (c := 1) fun x hx => Nat.le_of_eq (ring_parts h x hx).1
    have e1 : sp1.length = 1 := by decide +kernel
    rw [e1]
    rw [List.length_map] at this ⊢
    omega
  · rw [joinT]
    exact hR
theorem log_small {p : Nat} (h : p < 6) : (((p : Nat) : Int)).natAbs.log2 < 1920 := by
  rw [Int.natAbs_natCast]
  by_cases h0 : p = 0
  · rw [h0]; decide
  · refine (Nat.log2_lt h0).mpr (Nat.lt_of_lt_of_le h ?_)
    exact Nat.le_trans (show 6 ≤ 2 ^ 3 by decide) (Nat.pow_le_pow_right (by decide) (by decide))
theorem sp_text_of : ∀ ds R, S_text_of ds R → ds.length = 1 ∧ w_text_of (initSS 3 ds) (fin R) := by
  rintro ds R ⟨n, a, rfl, hn, ha, hr⟩
  refine ⟨rfl, ?_⟩
  obtain ⟨hl, hok⟩ := rings_ok hn ha
  refine ⟨n, a, rfl, hn, ha, shaped_int _, shaped_int _, ?_⟩
  show if PyData.eqv (.int ((((Mt.ringsT a).map eT).length : Nat) : Int)) (.int 0) = true then _ else _
  rw [eqv_int, List.length_map]
  refine if_dec (fun h0 => ?_) fun h0 => ?_
  · have e : Mt.ringsT a = [] := List.length_eq_zero_iff.mp (by omega)
    have et : textS (Mt.ringsT a) = stillS := by rw [e]; rfl
    rw [et] at hr
    exact hr
  · have hne : Mt.ringsT a ≠ [] := fun e => h0 (by rw [e]; rfl)
    refine nx_goW rfl ?_
    refine ⟨sp3, rfl, n, a, rfl, hn, ha, .inl (noLs_eTs (Mt.ringsT a)), ?_⟩
    show lcRun (gN 1) wYes (wJoin (wC (.str sp1)) (wLc (wiVar 1) (gN 2) wYes (wCB (on1 strD) (wCons (wVar 2) wNil)) [2])) [.dat (eT a), .no, .no] (ones ((Mt.ringsT a).map eT)) [] _
    rw [ones_map]
    refine lc_map _ (fun r => PyData.str (ringS r)) (Mt.ringsT a) [] (line_of (by show 0 + _ ≤ _; omega)) (fun r _ => rfl) (fun r hr Q hQ => ?_) ?_
    · refine ⟨sp1, rfl, ?_⟩
      exact run_ring (R := Q) (hok r hr) (fun p hp Q hQ => ⟨log_small ((hok r hr).2.2 p hp), hQ⟩) hQ
    have e : (Mt.ringsT a).map (fun r => PyData.str (ringS r)) = ((Mt.ringsT a).map ringS).map PyData.str := by
      rw [List.map_map]
      rfl
    rw [List.nil_append, e]
    refine ⟨_, rfl, ?_, ?_⟩
    · have := sum_le (l := (Mt.ringsT a).map ringS) (c := 12) fun x hx => by
        obtain ⟨r, hr, rfl⟩ := List.mem_map.mp hx
        exact (ringS_ok (hok r hr)).2.2
      have e3 : sp3.length = 3 := by decide +kernel
      rw [e3]
      rw [List.length_map] at this ⊢
      omega
    · rw [joinT]
      have et : textS (Mt.ringsT a) = Str.join sp3 ((Mt.ringsT a).map ringS) := if_neg hne
      rw [et] at hr
      exact hr
/-! ### the law's text -/
def w_Lwritten : WS := (wSeq (wAsg 1 (wC (.str (PySem.Str.ofString ""))))
 (wSeq (wFor (wiE (wCB S_Lrings (wCons (wVar 0) wNil))) (gN 2)
 (wSeq (wIf (wOp (dop neD) (wVar 1) (wC (.str (PySem.Str.ofString ""))))
 (wAsg 1 (wOp addS (wVar 1) (wC (.str (PySem.Str.ofString " / ")))))
 wNx)
 (wAsg 1 (wOp addS (wVar 1) (wJoin (wC (.str (PySem.Str.ofString " "))) (wLc (wiVar 2) (gN 3) wYes (wCB (on1 strD) (wCons (wVar 3) wNil)) [3]))))))
 (wSeq (wIf (wOp (dop eqD) (wVar 1) (wC (.str (PySem.Str.ofString ""))))
 (wRet (wC (.str (PySem.Str.ofString "still"))))
 wNx)
 (wRetV 1))))
theorem str_nil {s : Str} : s = PySem.Str.ofString "" ↔ s.length = 0 := by
  have e : PySem.Str.ofString "" = Str.empty := by decide +kernel
  rw [e]
  constructor
  · rintro rfl
    rfl
  · intro h
    have : s.cps = #[] := Array.size_eq_zero_iff.mp h
    show s = ⟨#[]⟩
    rw [← this]
theorem app_nil (s : Str) : PySem.Str.ofString "" ++ s = s := by
  have e : PySem.Str.ofString "" = Str.empty := by decide +kernel
  rw [e]
  show (⟨#[] ++ s.cps⟩ : Str) = s
  rw [Array.empty_append]
theorem sp_Lwritten : ∀ ds R, S_Lwritten ds R → ds.length = 1 ∧ w_Lwritten (initSS 4 ds) (fin R) := by
  rintro ds R ⟨n, a, rfl, hn, ha, hr⟩
  refine ⟨rfl, ?_⟩
  have hre := Mt.rings_are hn ha
  obtain ⟨hl, hok⟩ := rings_ok hn ha
  refine ⟨.inl rfl, ?_⟩
  refine ⟨n, a, rfl, hn, ha, ?_⟩
  rw [← hre]
  refine ⟨.inl (noLs_eTs (Mt.ringsT a)), ?_⟩
  generalize Mt.ringsT a = rs at hl hok hr
  have rest : ∀ l : List (List Nat), (∀ r ∈ l, RgOkS r) → ∀ x ∈ l.map ringS, PyData.strOk x = true ∧ 0 < x.length ∧ x.length ≤ 12 := fun l hl x hx => by
    obtain ⟨r, hr, rfl⟩ := List.mem_map.mp hx
    exact ringS_ok (hl r hr)
  let tx := fun l : List (List Nat) => if l = [] then PySem.Str.ofString "" else Str.join sp3 (l.map ringS)
  have htx : ∀ l : List (List Nat), (∀ r ∈ l, RgOkS r) → PyData.strOk (tx l) = true ∧ (tx l).length ≤ l.length * 15 ∧ (tx l = PySem.Str.ofString "" ↔ l = []) := fun l hl => by
    by_cases h : l = []
    · subst h
      exact ⟨strOk_of _, by decide +kernel, ⟨fun _ => rfl, fun _ => rfl⟩⟩
    · have e : tx l = Str.join sp3 (l.map ringS) := if_neg h
      have r1 := rest l hl
      rw [e]
      refine ⟨join_ok (strOk_of _) fun x hx => (r1 x hx).1, ?_, ⟨fun z => ?_, fun z => absurd z h⟩⟩
      · have := join_len sp3 (l.map ringS) 12 fun x hx => (r1 x hx).2.2
        have e3 : sp3.length = 3 := by decide +kernel
        rw [e3, List.length_map] at this
        exact this
      · have := join_pos sp3 (fun e => h (List.map_eq_nil_iff.mp e)) fun x hx => (r1 x hx).2.1
        rw [str_nil.mp z] at this
        omega
  have snoc : ∀ (l : List (List Nat)) (r : List Nat), l ≠ [] → tx (l ++ [r]) = tx l ++ sp3 ++ ringS r := fun l r h => by
    have e1 : tx l = Str.join sp3 (l.map ringS) := if_neg h
    have e2 : tx (l ++ [r]) = Str.join sp3 ((l ++ [r]).map ringS) := if_neg (by simp)
    rw [e1, e2, List.map_append]
    exact join_snoc sp3 (l.map ringS) (ringS r) fun e => h (List.map_eq_nil_iff.mp e)
  show forRun (gN 2) _ (ones (rs.map eT)) [.dat (eT a), .dat (.str (PySem.Str.ofString "")), .no, .no] _
  rw [ones_map]
  refine for_all _ (fun pre ss => ∃ s2, ss = [.dat (eT a), .dat (.str (tx pre)), s2, .no]) rs ⟨_, rfl⟩ ?_ ?_
  · rintro pre r post ss e ⟨s2, rfl⟩ K hK
    have hpre : ∀ q ∈ pre, RgOkS q := fun q hq => hok q (by rw [e]; exact List.mem_append_left _ hq)
    have hr2 := hok r (by rw [e]; simp)
    have hpl : pre.length ≤ 6 := by
      have := congrArg List.length e
      rw [List.length_append] at this
      omega
    obtain ⟨t1, t2, t3⟩ := htx pre hpre
    obtain ⟨u1, u2, u3⟩ := ringS_ok hr2
    have e3 : sp3.length = 3 := by decide +kernel
    have body : ∀ (O : Out → Prop) (s : Str), s.length ≤ 100 → s ++ ringS r = tx (pre ++ [r]) → (wAsg 1 (wOp addS (wVar 1) (wJoin (wC (.str (PySem.Str.ofString " "))) (wLc (wiVar 2) (gN 3) wYes (wCB (on1 strD) (wCons (wVar 3) wNil)) [3])))) [.dat (eT a), .dat (.str s), .dat (eT r), .no] (nxt K O) := by
      intro O s hs he
      refine ⟨sp1, rfl, ?_⟩
      refine run_ring (i := 3) (j := 3) (ss := [SV.dat (eT a), .dat (.str s), .dat (eT r), .no]) (R := fun d => addS (.dat (.str s)) (.dat d) fun z => stor [SV.dat (eT a), .dat (.str s), .dat (eT r), .no] z ∧ nxt K O (.nx ([SV.dat (eT a), .dat (.str s), .dat (eT r), .no].set 1 z))) hr2 (fun p hp Q hQ => ⟨log_small (hr2.2.2 p hp), hQ⟩) ⟨line_of (by omega), .inl rfl, ?_⟩
      refine nx_goV ?_ (hK _ ⟨.dat (eT r), rfl⟩)
      show [_, SV.dat (.str (s ++ ringS r)), _, _] = _
      rw [he]
    refine ⟨shaped_str t1, shaped_str (strOk_of _), ?_⟩
    show if (!PyData.eqv (.str (tx pre)) (.str (PySem.Str.ofString ""))) = true then _ else _
    rw [eqv_str]
    refine if_nd (fun hne => ?_) fun he => ?_
    · have hp : pre ≠ [] := fun z => hne (t3.mpr z)
      refine ⟨line_of (by show (tx pre).length + sp3.length ≤ _; omega), .inl rfl, ?_⟩
      exact nx_goV rfl (body _ (tx pre ++ sp3) (by rw [len_app]; omega) (snoc pre r hp).symm)
    · have hp : pre = [] := t3.mp he
      subst hp
      exact nx_goW rfl (body _ (tx []) (by omega) (app_nil _))
  · rintro ss ⟨s2, rfl⟩
    obtain ⟨t1, t2, t3⟩ := htx rs hok
    refine ⟨shaped_str t1, shaped_str (strOk_of _), ?_⟩
    show if PyData.eqv (.str (tx rs)) (.str (PySem.Str.ofString "")) = true then _ else _
    rw [eqv_str]
    refine if_dec (fun h0 => ?_) fun h0 => ?_
    · have e : textS rs = stillS := if_pos (t3.mp h0)
      rw [e] at hr
      exact hr
    · have hne : rs ≠ [] := fun z => h0 (t3.mpr z)
      have e : textS rs = tx rs := (if_neg hne).trans (if_neg hne).symm
      rw [e] at hr
      exact hr
theorem od_T {n : Nat} {t : T} (hn : n ≤ 6) (ht : IsT n t) : Gd 1 (eT t) := .tup (by rw [List.length_map, ht.len]; omega) fun d hd => by
  obtain ⟨m, hm, rfl⟩ := List.mem_map.mp hd
  have := ht.lt m hm
  exact .int 0 _ (by show ((m : Nat) : Int).natAbs ≤ 1000; omega)
end Ab

set_option Elab.async false
set_option linter.all false
set_option maxRecDepth 100000
set_option maxHeartbeats 1000000
/-! S32: parts of a text, points, rings put back. -/
namespace Ab
open PySem PySem.Spec
open Mt (T IsT)
/-! ### the parts of a split -/
theorem spl_facts {S : List Nat} : ∀ (L : List Nat) (k : Nat) (acc : List Nat), TL.spl S k acc L ≠ [] ∧ (∀ p ∈ TL.spl S k acc L, ∀ c ∈ p, c ∈ acc ∨ c ∈ L) ∧ ((TL.spl S k acc L).map fun p => p.length + 1).sum ≤ acc.length + L.length + 1
  | [], k, acc => by
    rw [TL.spl_nil]
    refine ⟨by simp, fun p hp c hc => ?_, by simp⟩
    rw [List.mem_singleton.mp hp] at hc
    exact .inl hc
  | c :: r, 0, acc => by
    cases h : TL.pre S (c :: r) with
    | true =>
      rw [TL.spl_hit h]
      obtain ⟨a1, a2, a3⟩ := spl_facts (S := S) r (S.length - 1) []
      refine ⟨by simp, fun p hp d hd => ?_, ?_⟩
      · rcases List.mem_cons.mp hp with e | hp
        · rw [e] at hd; exact .inl hd
        · rcases a2 p hp d hd with h | h
          · exact nomatch h
          · exact .inr (List.mem_cons_of_mem _ h)
      · rw [List.map_cons, List.sum_cons, List.length_cons]
        rw [List.length_nil] at a3
        omega
    | false =>
      rw [TL.spl_miss h]
      obtain ⟨a1, a2, a3⟩ := spl_facts (S := S) r 0 (acc ++ [c])
      refine ⟨a1, fun p hp d hd => ?_, ?_⟩
      · rcases a2 p hp d hd with h | h
        · rcases List.mem_append.mp h with h | h
          · exact .inl h
          · rw [List.mem_singleton.mp h]; exact .inr List.mem_cons_self
        · exact .inr (List.mem_cons_of_mem _ h)
      · rw [List.length_append] at a3
        rw [List.length_cons]
        simp only [List.length_cons, List.length_nil] at a3
        omega
  | c :: r, k + 1, acc => by
    obtain ⟨a1, a2, a3⟩ := spl_facts (S := S) r k acc
    refine ⟨a1, fun p hp d hd => (a2 p hp d hd).imp id (List.mem_cons_of_mem _), ?_⟩
    rw [List.length_cons]
    exact Nat.le_trans a3 (by omega)
/-- words' lengths, and k for each -/
def tot (k : Nat) (ws : List Str) : Nat := (ws.map fun w => w.length + k).sum
theorem tot_nil (k : Nat) : tot k [] = 0 := rfl
theorem tot_cons (k : Nat) (w : Str) (ws : List Str) : tot k (w :: ws) = w.length + k + tot k ws := by unfold tot; rw [List.map_cons, List.sum_cons]
theorem tot_app (k : Nat) (a b : List Str) : tot k (a ++ b) = tot k a + tot k b := by unfold tot; rw [List.map_append, List.sum_append]
theorem tot_rev (k : Nat) : ∀ ws : List Str, tot k ws.reverse = tot k ws
  | [] => rfl
  | w :: ws => by rw [List.reverse_cons, tot_app, tot_cons, tot_cons, tot_nil, tot_rev k ws]; omega
theorem tot_sub {k : Nat} {a b : List Str} (h : a.Sublist b) : tot k a ≤ tot k b := by
  induction h with
  | slnil => exact Nat.le_refl _
  | cons x _ ih => rw [tot_cons]; omega
  | cons_cons x _ ih => rw [tot_cons, tot_cons]; omega
theorem tot_mem {k : Nat} {w : Str} : ∀ {ws : List Str}, w ∈ ws → w.length + k ≤ tot k ws
  | v :: ws, h => by
    rw [tot_cons]
    rcases List.mem_cons.mp h with e | h
    · rw [e]; omega
    · have := tot_mem (k := k) h
      omega
theorem tot_len (k : Nat) : ∀ ws : List Str, ws.length * k ≤ tot k ws
  | [] => by rw [tot_nil, List.length_nil]; omega
  | w :: ws => by
    have := tot_len k ws
    rw [tot_cons, List.length_cons, Nat.succ_mul]
    omega
theorem tot_add (k j : Nat) : ∀ ws : List Str, tot (k + j) ws = tot k ws + ws.length * j
  | [] => by rw [tot_nil, tot_nil, List.length_nil]; omega
  | w :: ws => by
    rw [tot_cons, tot_cons, tot_add k j ws, List.length_cons, Nat.succ_mul]
    omega
/-- what a join asks -/
theorem join_tot (k : Nat) : ∀ ws : List Str, (ws.map (·.length)).sum + ws.length * k = tot k ws
  | [] => by simp [tot_nil]
  | w :: ws => by
    have := join_tot k ws
    rw [tot_cons, List.map_cons, List.sum_cons, List.length_cons, Nat.succ_mul]
    omega
theorem join_le (sep : Str) : ∀ ws : List Str, (Str.join sep ws).length ≤ tot sep.length ws
  | [] => Nat.zero_le _
  | [x] => by
    rw [tot_cons, tot_nil]
    show x.length ≤ _
    omega
  | x :: y :: r => by
    have ih := join_le sep (y :: r)
    rw [tot_cons]
    show (x ++ sep ++ Str.join sep (y :: r)).length ≤ _
    rw [len_app, len_app]
    omega
theorem strOk_iff {x : Str} : PyData.strOk x = true ↔ ∀ c ∈ TL.tl x, c < 0x110000 := by
  unfold PyData.strOk
  rw [← Array.all_toList, List.all_eq_true]
  exact ⟨fun h c hc => of_decide_eq_true (h c hc), fun h c hc => decide_eq_true (h c hc)⟩
/-- a text that splits -/
structure Sep (y : Str) : Prop where
  ne : TL.tl y ≠ []
  kd : y.cps.all (· < 256) = true
theorem sep1 : Sep sp1 := ⟨by decide +kernel, by decide +kernel⟩
theorem sep3 : Sep sp3 := ⟨by decide +kernel, by decide +kernel⟩
section
variable {x y : Str} (h : Sep y)
theorem Sep.spl (h : Sep y) (x : Str) : (Txt.split x y).map TL.tl = TL.spl (TL.tl y) 0 [] (TL.tl x) := TL.split_spl x y h.ne (TL.kind_ok h.kd)
theorem Sep.noE (h : Sep y) : (y.length == 0) = false := by
  have := TL.len1 h.ne
  cases e : y.length == 0 with
  | false => rfl
  | true =>
    have := eq_of_beq e
    omega
theorem split_ne (h : Sep y) (x : Str) : Txt.split x y ≠ [] := fun e => by
  have := h.spl x
  rw [e] at this
  exact (spl_facts _ _ _).1 this.symm
theorem split_ok (h : Sep y) (hx : PyData.strOk x = true) : ∀ p ∈ Txt.split x y, PyData.strOk p = true := fun p hp => strOk_iff.mpr fun c hc => by
  have m : TL.tl p ∈ TL.spl (TL.tl y) 0 [] (TL.tl x) := by
    rw [← h.spl x]
    exact List.mem_map_of_mem hp
  rcases (spl_facts _ _ _).2.1 _ m c hc with z | z
  · exact nomatch z
  · exact strOk_iff.mp hx c z
theorem split_tot (h : Sep y) (x : Str) : tot 1 (Txt.split x y) ≤ x.length + 1 := by
  have := (spl_facts (S := TL.tl y) (TL.tl x) 0 []).2.2
  rw [← h.spl x, List.map_map, List.length_nil, ← TL.len_tl, Nat.zero_add] at this
  have e : (Txt.split x y).map ((fun p : List Nat => p.length + 1) ∘ TL.tl) = (Txt.split x y).map fun w => w.length + 1 := List.map_congr_left fun w _ => by
    show (TL.tl w).length + 1 = w.length + 1
    rw [TL.len_tl]
  rw [e] at this
  exact this
theorem split_len (h : Sep y) (x : Str) : (Txt.split x y).length ≤ x.length + 1 := by
  have := tot_len 1 (Txt.split x y)
  have := split_tot h x
  omega
theorem split_mem (h : Sep y) {p : Str} (hp : p ∈ Txt.split x y) : p.length ≤ x.length := by
  have := tot_mem (k := 1) hp
  have := split_tot h x
  omega
end
/-! ### figures -/
def figT : Str := PySem.Str.ofString "012345"
theorem one_of {w : Str} (h : w.length = 1) : ∃ c, w = ⟨#[c]⟩ := by
  rw [TL.len_tl] at h
  obtain ⟨c, e⟩ := List.length_eq_one_iff.mp h
  exact ⟨c, TL.ext_tl e⟩
def notIn (j i : Str) : Bool := !(!(Builtin.Str.occurrences j i 0 j.length 1).isEmpty)
theorem strI_sign : ∀ p < 6, TL.tl (strI ((p : Nat) : Int)) = [48 + p] := by decide +kernel
theorem strI_in : ∀ p < 6, notIn figT (strI ((p : Nat) : Int)) = false := by decide +kernel
theorem strI_num : ∀ p < 6, PySem.intText? (strI ((p : Nat) : Int)) = some ((p : Nat) : Int) := by decide +kernel
theorem figT_signs : TL.tl figT = [48, 49, 50, 51, 52, 53] := by decide +kernel
theorem strI_inj {p q : Nat} (hp : p < 6) (hq : q < 6) (e : strI (p : Nat) = strI (q : Nat)) : p = q := by
  have := congrArg TL.tl e
  rw [strI_sign p hp, strI_sign q hq] at this
  simp at this
  exact this
theorem word_cases (w : Str) : (∃ p < 6, w = strI ((p : Nat) : Int)) ∨ ((∀ p < 6, w ≠ strI ((p : Nat) : Int)) ∧ (w.length ≠ 1 ∨ notIn figT w = true)) := by
  by_cases h : ∃ p < 6, w = strI ((p : Nat) : Int)
  · exact .inl h
  refine .inr ⟨fun p hp e => h ⟨p, hp, e⟩, ?_⟩
  by_cases h1 : w.length = 1
  · refine .inr ?_
    obtain ⟨c, rfl⟩ := one_of h1
    unfold notIn
    rw [PySem.StrLaws.found_one]
    cases hd : decide (c ∈ figT.cps.toList) with
    | false => rfl
    | true =>
      have hm : c ∈ TL.tl figT := of_decide_eq_true hd
      rw [figT_signs] at hm
      have hc : 48 ≤ c ∧ c < 54 := by
        simp at hm
        omega
      refine absurd ⟨c - 48, by omega, TL.ext_tl ?_⟩ h
      rw [strI_sign (c - 48) (by omega)]
      show [c] = _
      congr 1
      omega
  · exact .inl h1
/-! ### points of a ring -/
def figOf (n : Nat) (w : Str) : Option Nat := (List.range n).find? fun p => decide (w = strI ((p : Nat) : Int))
theorem figOf_some {n p : Nat} (hn : n ≤ 6) (hp : p < n) : figOf n (strI ((p : Nat) : Int)) = some p := by
  unfold figOf
  cases h : (List.range n).find? (fun q => decide (strI ((p : Nat) : Int) = strI ((q : Nat) : Int))) with
  | none =>
    have := List.find?_eq_none.mp h p (List.mem_range.mpr hp)
    exact absurd (decide_eq_true rfl) this
  | some q =>
    have h0 : decide (strI ((p : Nat) : Int) = strI ((q : Nat) : Int)) = true := List.find?_some (p := fun q : Nat => decide (strI ((p : Nat) : Int) = strI ((q : Nat) : Int))) h
    have h1 := of_decide_eq_true h0
    have h2 := List.mem_range.mp (List.mem_of_find?_eq_some h)
    rw [strI_inj (by omega) (by omega) h1]
theorem figOf_none {n : Nat} {w : Str} (h : ∀ p < n, w ≠ strI ((p : Nat) : Int)) : figOf n w = none :=
  List.find?_eq_none.mpr fun p hp e => h p (List.mem_range.mp hp) (of_decide_eq_true e)
def pts (n : Nat) : List Str → Option (List Nat)
  | [] => some []
  | w :: ws => match figOf n w with
    | none => none
    | some p => match pts n ws with
      | none => none
      | some l => some (p :: l)
theorem pts_back {n : Nat} (hn : n ≤ 6) : ∀ {l : List Nat}, (∀ p ∈ l, p < n) → pts n (l.map fun p : Nat => strI (p : Nat)) = some l
  | [], _ => rfl
  | p :: l, h => by
    show (match figOf n (strI ((p : Nat) : Int)) with
    | none => none
    | some p => match pts n (l.map fun p : Nat => strI (p : Nat)) with
      | none => none
      | some l => some (p :: l)) = _
    rw [figOf_some hn (h p List.mem_cons_self), pts_back hn fun q hq => h q (List.mem_cons_of_mem _ hq)]
theorem pts_lt {n : Nat} : ∀ {ws : List Str} {l : List Nat}, pts n ws = some l → (∀ p ∈ l, p < n) ∧ l.length = ws.length
  | [], l, h => by
    cases h
    exact ⟨fun _ z => (nomatch z), rfl⟩
  | w :: ws, l, h => by
    unfold pts at h
    cases hf : figOf n w with
    | none => rw [hf] at h; exact nomatch h
    | some p =>
      rw [hf] at h
      cases hp : pts n ws with
      | none => rw [hp] at h; exact nomatch h
      | some l2 =>
        rw [hp] at h
        cases h
        obtain ⟨a, b⟩ := pts_lt hp
        refine ⟨fun q hq => ?_, by rw [List.length_cons, List.length_cons, b]⟩
        rcases List.mem_cons.mp hq with e | hq
        · rw [e]
          exact List.mem_range.mp (List.mem_of_find?_eq_some hf)
        · exact a q hq
/-! ### rings put into a turn -/
def rot (l : List Nat) : List Nat := l.drop 1 ++ l.take 1
def setAll (ps : List (Nat × Nat)) (f : List Nat) : List Nat := ps.foldl (fun f p => f.set p.1 p.2) f
def putR (f r : List Nat) : List Nat := setAll (r.zip (rot r)) f
theorem rot_mem {l : List Nat} {q : Nat} (h : q ∈ rot l) : q ∈ l := by
  rcases List.mem_append.mp h with h | h
  · exact List.mem_of_mem_drop h
  · exact List.mem_of_mem_take h
theorem setAll_len : ∀ (ps : List (Nat × Nat)) (f : List Nat), (setAll ps f).length = f.length
  | [], _ => rfl
  | p :: ps, f => by
    show (setAll ps (f.set p.1 p.2)).length = _
    rw [setAll_len ps, List.length_set]
theorem setAll_snoc (ps : List (Nat × Nat)) (p : Nat × Nat) (f : List Nat) : setAll (ps ++ [p]) f = (setAll ps f).set p.1 p.2 := by
  unfold setAll
  rw [List.foldl_append]
  rfl
theorem setAll_lt {n : Nat} : ∀ (ps : List (Nat × Nat)) (f : List Nat), (∀ p ∈ ps, p.2 < n) → (∀ q ∈ f, q < n) → ∀ q ∈ setAll ps f, q < n
  | [], _, _, hf => hf
  | p :: ps, f, hp, hf => setAll_lt ps _ (fun q hq => hp q (List.mem_cons_of_mem _ hq)) fun q hq => by
    rcases List.mem_or_eq_of_mem_set hq with h | h
    · exact hf q h
    · rw [h]; exact hp p List.mem_cons_self
theorem zip_rot {l : List Nat} {p : Nat × Nat} (h : p ∈ l.zip (rot l)) : p.1 ∈ l ∧ p.2 ∈ l := by
  obtain ⟨a, b⟩ := p
  have := List.of_mem_zip h
  exact ⟨this.1, rot_mem this.2⟩
theorem putR_len (f r : List Nat) : (putR f r).length = f.length := setAll_len _ _
theorem putR_lt {n : Nat} {f r : List Nat} (hr : ∀ p ∈ r, p < n) (hf : ∀ q ∈ f, q < n) : ∀ q ∈ putR f r, q < n := setAll_lt _ _ (fun p hp => hr _ (zip_rot hp).2) hf
theorem rings_put6 : Mt.allT (fun n a => decide ((Mt.ringsT a).foldl putR (Mt.still n) = a)) 6 = true := by decide +kernel
theorem rings_put {n : Nat} {a : T} (hn : n ≤ 6) (ha : IsT n a) : (Mt.ringsT a).foldl putR (Mt.still n) = a := of_decide_eq_true (Mt.allT_ok rings_put6 hn ha)
def putAll (n : Nat) : List Str → List Nat → Option (List Nat)
  | [], f => some f
  | s :: ss, f => match pts n (Txt.split s sp1) with
    | none => none
    | some l => putAll n ss (putR f l)
/-! ### a ring's text and a text's rings, split -/
theorem tl_sp1 : TL.tl sp1 = [32] := by decide +kernel
theorem tl_sp3 : TL.tl sp3 = [32, 47, 32] := by decide +kernel
theorem ring_split {r : List Nat} (h : RgOkS r) : Txt.split (ringS r) sp1 = r.map fun p : Nat => strI (p : Nat) := by
  unfold ringS
  rw [← joinT]
  refine TL.split_join tl_sp1 sep1.kd (fun e => h.1 (List.map_eq_nil_iff.mp e)) fun p hp => ?_
  obtain ⟨q, hq, rfl⟩ := List.mem_map.mp hp
  rw [strI_sign q (h.2.2 q hq)]
  intro z
  have := List.mem_singleton.mp z
  omega
theorem joinL_mem {S : List Nat} {c : Nat} : ∀ {ps : List (List Nat)}, c ∈ TL.joinL S ps → c ∈ S ∨ ∃ p ∈ ps, c ∈ p
  | [], h => nomatch h
  | [p], h => .inr ⟨p, List.mem_cons_self, h⟩
  | p :: q :: r, h => by
    rcases List.mem_append.mp (show c ∈ p ++ (S ++ TL.joinL S (q :: r)) from h) with h | h
    · exact .inr ⟨p, List.mem_cons_self, h⟩
    · rcases List.mem_append.mp h with h | h
      · exact .inl h
      · rcases joinL_mem h with h | ⟨x, hx, hc⟩
        · exact .inl h
        · exact .inr ⟨x, List.mem_cons_of_mem _ hx, hc⟩
theorem ring_signs {r : List Nat} (h : RgOkS r) {c : Nat} (hc : c ∈ TL.tl (ringS r)) : c = 32 ∨ (48 ≤ c ∧ c < 54) := by
  unfold ringS at hc
  rw [TL.tl_join, tl_sp1] at hc
  rcases joinL_mem hc with z | ⟨p, hp, z⟩
  · exact .inl (List.mem_singleton.mp z)
  · rw [List.map_map] at hp
    obtain ⟨q, hq, rfl⟩ := List.mem_map.mp hp
    have z : c ∈ TL.tl (strI ((q : Nat) : Int)) := z
    have h6 := h.2.2 q hq
    rw [strI_sign q h6] at z
    have := List.mem_singleton.mp z
    exact .inr (by omega)
/-- no stroke in a part: the separator does not begin in it -/
theorem no_pre3 {p q : List Nat} (h : 47 ∉ p) (hq : q.head? ≠ some 47) : ∀ i, i < p.length → TL.pre [32, 47, 32] ((p ++ q).drop i) = false := by
  intro i hi
  cases hp : TL.pre [32, 47, 32] ((p ++ q).drop i) with
  | false => rfl
  | true =>
    have e : ((p ++ q).drop i).take 3 = [32, 47, 32] := eq_of_beq hp
    have e2 := congrArg (fun l => l[1]?) e
    simp only [List.getElem?_take, List.getElem?_drop] at e2
    rw [if_pos (by omega)] at e2
    have e3 : (p ++ q)[i + 1]? = some 47 := e2
    by_cases h1 : i + 1 < p.length
    · rw [List.getElem?_append_left h1] at e3
      exact absurd (List.mem_of_getElem? e3) h
    · rw [List.getElem?_append_right (by omega), show i + 1 - p.length = 0 by omega] at e3
      rw [List.head?_eq_getElem?] at hq
      exact absurd e3 hq
theorem spl_join3 : ∀ {parts : List (List Nat)}, parts ≠ [] → (∀ p ∈ parts, 47 ∉ p) → TL.spl [32, 47, 32] 0 [] (TL.joinL [32, 47, 32] parts) = parts
  | [], h, _ => absurd rfl h
  | [p], _, hp => by
    show TL.spl [32, 47, 32] 0 [] p = [p]
    have := no_pre3 (q := []) (hp p List.mem_cons_self) (by simp)
    simp only [List.append_nil] at this
    rw [TL.spl_last this, List.nil_append]
  | p :: q :: r, _, hp => by
    show TL.spl [32, 47, 32] 0 [] (p ++ ([32, 47, 32] ++ TL.joinL [32, 47, 32] (q :: r))) = p :: q :: r
    rw [TL.spl_part (by simp) (no_pre3 (hp p List.mem_cons_self) (by simp)), List.nil_append, spl_join3 (by simp) fun z hz => hp z (List.mem_cons_of_mem _ hz)]
theorem text_split {rs : List (List Nat)} (hne : rs ≠ []) (h : ∀ r ∈ rs, RgOkS r) : Txt.split (Str.join sp3 (rs.map ringS)) sp3 = rs.map ringS := by
  refine TL.map_tl_inj ?_
  rw [sep3.spl, TL.tl_join, tl_sp3]
  refine spl_join3 (fun e => hne (List.map_eq_nil_iff.mp (List.map_eq_nil_iff.mp e))) fun p hp z => ?_
  rw [List.map_map] at hp
  obtain ⟨r, hr, rfl⟩ := List.mem_map.mp hp
  have := ring_signs (h r hr) (show 47 ∈ TL.tl (ringS r) from z)
  omega
theorem not_still {rs : List (List Nat)} (hne : rs ≠ []) (h : ∀ r ∈ rs, RgOkS r) : Str.join sp3 (rs.map ringS) ≠ stillS := fun e => by
  have e1 : 115 ∈ TL.tl stillS := by decide +kernel
  rw [← e, TL.tl_join, tl_sp3] at e1
  rcases joinL_mem e1 with z | ⟨p, hp, z⟩
  · simp at z
  · rw [List.map_map] at hp
    obtain ⟨r, hr, rfl⟩ := List.mem_map.mp hp
    have := ring_signs (h r hr) (show 115 ∈ TL.tl (ringS r) from z)
    omega
theorem putAll_rings {n : Nat} (hn : n ≤ 6) : ∀ {rs : List (List Nat)} (f : List Nat), (∀ r ∈ rs, RgOkS r ∧ ∀ p ∈ r, p < n) → putAll n (rs.map ringS) f = some (rs.foldl putR f)
  | [], f, _ => rfl
  | r :: rs, f, h => by
    obtain ⟨h1, h2⟩ := h r List.mem_cons_self
    show (match pts n (Txt.split (ringS r) sp1) with
    | none => none
    | some l => putAll n (rs.map ringS) (putR f l)) = _
    rw [ring_split h1, pts_back hn h2]
    exact putAll_rings hn _ fun q hq => h q (List.mem_cons_of_mem _ hq)
theorem ring_lt {n : Nat} {a : T} (ha : IsT n a) : ∀ r ∈ Mt.ringsT a, ∀ q ∈ r, q < n := fun r hr q hq => by
  obtain ⟨p, hp, rfl⟩ := List.mem_map.mp hr
  have hp := List.mem_range.mp (List.mem_filter.mp hp).1
  rw [ha.len] at hp
  unfold Mt.ring at hq
  obtain ⟨k, _, rfl⟩ := List.mem_map.mp hq
  exact Mt.orb_lt ha hp k
/-- a turn's text leads back -/
theorem back_of {n : Nat} {a : T} (hn : n ≤ 6) (ha : IsT n a) : (textS (Mt.ringsT a) = stillS ∧ a = Mt.still n) ∨ (textS (Mt.ringsT a) ≠ stillS ∧ putAll n (Txt.split (textS (Mt.ringsT a)) sp3) (Mt.still n) = some a) := by
  have hp := rings_put hn ha
  have hok := (rings_ok hn ha).2
  have hlt := ring_lt ha
  generalize Mt.ringsT a = rs at hp hok hlt
  by_cases h : rs = []
  · subst h
    exact .inl ⟨rfl, hp.symm⟩
  · have e : textS rs = Str.join sp3 (rs.map ringS) := if_neg h
    rw [e]
    refine .inr ⟨not_still h hok, ?_⟩
    rw [text_split h hok, putAll_rings hn _ fun r hr => ⟨hok r hr, hlt r hr⟩, hp]
theorem text_inj {n : Nat} {a b : T} (hn : n ≤ 6) (ha : IsT n a) (hb : IsT n b) (e : textS (Mt.ringsT a) = textS (Mt.ringsT b)) : a = b := by
  rcases back_of hn ha with ⟨a1, a2⟩ | ⟨a1, a2⟩
  · rcases back_of hn hb with ⟨b1, b2⟩ | ⟨b1, b2⟩
    · rw [a2, b2]
    · exact absurd (e ▸ a1) b1
  · rcases back_of hn hb with ⟨b1, b2⟩ | ⟨b1, b2⟩
    · exact absurd (e.symm ▸ b1) a1
    · rw [e, b2] at a2
      exact (Option.some.inj a2).symm
end Ab

set_option Elab.async false
set_option linter.all false
set_option maxRecDepth 100000
set_option maxHeartbeats 1000000
/-! S33: points of a ring, a text read. -/
namespace Ab
open PySem PySem.Spec
open Mt (T IsT)
theorem atI_natL {α : Type} {l : List α} {j : Nat} {x : α} (h : l[j]? = some x) : L2.atI l ((j : Nat) : Int) = some x := by
  have hj := (List.getElem?_eq_some_iff.mp h).1
  unfold L2.atI
  rw [ixN_nat hj]
  exact h
def ifS (o : Option (List Nat)) (A : List Nat → Prop) (B : Prop) : Prop := match o with
  | some l => A l
  | none => B
def SX_points_of (cx : Addr) : SX := fun ds R XC => ∃ (s : Str) (n : Nat), ds = [.str s, eN n] ∧ n ≤ 6 ∧ s.length ≤ 90000 ∧ ifS (pts n (Txt.split s sp1)) (fun l => R (.lst (l.map eN))) (XC cx)
def w_points_of (xNoText : Addr) : WS := (wSeq (wAsg 2 (wLst wNil))
 (wSeq (wFor (wiE (wSplit (wVar 0) (wC (.str (PySem.Str.ofString " "))))) (gN 3)
 (wSeq (wIf (wOr (wOp (dop neD) (wCB (on1 lenD) (wCons (wVar 3) wNil)) (wC (.int 1))) (wOr (wOp (dop notInS) (wVar 3) (wC (.str (PySem.Str.ofString "012345")))) (wOp (dop geD) (wCB (on1 intS) (wCons (wVar 3) wNil)) (wVar 1))))
 (wRaise xNoText)
 wNx)
 (wApp 2 (wCB (on1 intS) (wCons (wVar 3) wNil)))))
 (wRetV 2)))
def b_points (xNoText : Addr) : WS := (wSeq (wIf (wOr (wOp (dop neD) (wCB (on1 lenD) (wCons (wVar 3) wNil)) (wC (.int 1))) (wOr (wOp (dop notInS) (wVar 3) (wC (.str (PySem.Str.ofString "012345")))) (wOp (dop geD) (wCB (on1 intS) (wCons (wVar 3) wNil)) (wVar 1))))
 (wRaise xNoText)
 wNx)
 (wApp 2 (wCB (on1 intS) (wCons (wVar 3) wNil))))
theorem pts_cons (n : Nat) (w : Str) (ws : List Str) : pts n (w :: ws) = (figOf n w).bind fun p => (pts n ws).map (p :: ·) := by
  show (match figOf n w with
    | none => none
    | some p => match pts n ws with
      | none => none
      | some l => some (p :: l)) = _
  cases figOf n w with
  | none => rfl
  | some p => cases pts n ws <;> rfl
theorem run_points {cx : Addr} {n : Nat} {s : Str} {O : Out → Prop} (hn : n ≤ 6) : ∀ (ws : List Str) (acc : List Nat) (s3 : SV), (∀ w ∈ ws, w.length ≤ 90000) → acc.length + ws.length ≤ 200000 →
    ifS (pts n ws) (fun l => ∀ s3, O (.nx [.dat (.str s), .dat (eN n), .lst ((acc ++ l).map eN), s3])) (O (.xc cx)) →
    forRun (gN 3) (b_points cx) (ones (ws.map PyData.str)) [.dat (.str s), .dat (eN n), .lst (acc.map eN), s3] O
  | [], acc, s3, _, _, h => by
    have h2 : O (.nx [.dat (.str s), .dat (eN n), .lst ((acc ++ []).map eN), s3]) := h s3
    rw [List.append_nil] at h2
    exact h2
  | w :: ws, acc, s3, hw, hl, h => by
    have hwl := hw w List.mem_cons_self
    show b_points cx [.dat (.str s), .dat (eN n), .lst (acc.map eN), .dat (.str w)] (nxt (fun ss2 => forRun (gN 3) (b_points cx) (ones (ws.map PyData.str)) ss2 O) O)
    refine ⟨line_of (by omega), shaped_int _, shaped_int _, ?_⟩
    show if (!PyData.eqv (.int ((w.length : Nat) : Int)) (.int 1)) = true then _ else _
    rw [eqv_int]
    rw [pts_cons] at h
    rcases word_cases w with ⟨p, hp, rfl⟩ | ⟨hno, hc⟩
    · refine if_nd (fun hne => absurd (by rw [strI_len p hp]; rfl) hne) fun _ => ?_
      show if notIn figT (strI ((p : Nat) : Int)) = true then _ else _
      refine if_fW (strI_in p hp) ?_
      have h640 : (strI ((p : Nat) : Int)).length ≤ 640 := by rw [strI_len p hp]; decide
      refine ⟨((p : Nat) : Int), strI_num p hp, h640, ?_⟩
      show if decide (((n : Nat) : Int) ≤ ((p : Nat) : Int)) = true then _ else _
      refine if_dec (fun hge => ?_) fun hlt => ?_
      · have hf : figOf n (strI ((p : Nat) : Int)) = none := figOf_none fun q hq e => by
          have := strI_inj hp (by omega) e
          omega
        rw [hf] at h
        exact h
      · have hpn : p < n := by omega
        rw [figOf_some hn hpn] at h
        refine nx_goW rfl ?_
        have hacc : (acc.map eN).length < sizeLine := by
          rw [List.length_map]
          exact Nat.lt_of_lt_of_le (show acc.length < 1000000 by rw [List.length_cons] at hl; omega) (line_of (Nat.le_refl _))
        refine ⟨((p : Nat) : Int), strI_num p hp, h640, rfl, hacc, ?_⟩
        have e : acc.map eN ++ [PyData.int ((p : Nat) : Int)] = (acc ++ [p]).map eN := by rw [List.map_append]; rfl
        show forRun (gN 3) (b_points cx) (ones (ws.map PyData.str)) [.dat (.str s), .dat (eN n), .lst (acc.map eN ++ [PyData.int ((p : Nat) : Int)]), .dat (.str (strI ((p : Nat) : Int)))] O
        rw [e]
        refine run_points hn ws (acc ++ [p]) _ (fun v hv => hw v (List.mem_cons_of_mem _ hv)) (by rw [List.length_append, List.length_cons, List.length_nil]; rw [List.length_cons] at hl; omega) ?_
        cases hpt : pts n ws with
        | none =>
          rw [hpt] at h
          exact h
        | some l =>
          rw [hpt] at h
          have h2 : ∀ s3, O (.nx [.dat (.str s), .dat (eN n), .lst ((acc ++ p :: l).map eN), s3]) := h
          show ∀ s3, O (.nx [.dat (.str s), .dat (eN n), .lst (((acc ++ [p]) ++ l).map eN), s3])
          rw [List.append_assoc]
          exact h2
    · have hf : figOf n w = none := figOf_none fun q hq => hno q (by omega)
      rw [hf] at h
      refine if_nd (fun _ => h) fun h1 => ?_
      have h1 : w.length = 1 := by
        have : ((w.length : Nat) : Int) = 1 := h1
        omega
      rcases hc with hc | hc
      · exact absurd h1 hc
      · show if notIn figT w = true then _ else _
        rw [if_pos hc]
        exact h
theorem spX_points_of : ∀ xNoText ds R XC, SX_points_of xNoText ds R XC → ds.length = 2 ∧ w_points_of xNoText (initSS 4 ds) (finX R XC) := by
  rintro cx ds R XC ⟨s, n, rfl, hn, hl, h⟩
  refine ⟨rfl, ?_⟩
  refine ⟨line_of (Nat.zero_le _), .inl ⟨rfl, trivial, ?_⟩⟩
  refine ⟨s, rfl, sp1, rfl, sep1.noE, line_of (by omega), ?_⟩
  have hsl := split_len sep1 s
  refine run_points hn (Txt.split s sp1) [] _ (fun w hw => Nat.le_trans (split_mem sep1 hw) hl) (by rw [List.length_nil]; omega) ?_
  cases hp : pts n (Txt.split s sp1) with
  | none =>
    rw [hp] at h
    exact h
  | some l =>
    rw [hp] at h
    exact fun _ => h
/-! ### read -/
def SX_read (cx : Addr) : SX := fun ds R XC => ∃ (s : Str) (n : Nat), ds = [.str s, eN n] ∧ n ≤ 6 ∧ PyData.strOk s = true ∧ s.length ≤ 90000 ∧ (∀ t, IsT n t → textS (Mt.ringsT t) = s → R (.dat (eT t))) ∧ ((∀ t, IsT n t → textS (Mt.ringsT t) ≠ s) → XC cx)
def w_read (xNoText : Addr) : WS := (wSeq (wIf (wNot (wIsi "str" (wVar 0)))
 (wRaise xNoText)
 wNx)
 (wSeq (wAsg 2 (wCB (on1 listD) (wCons (wCB S_still (wCons (wVar 1) wNil)) wNil)))
 (wSeq (wIf (wOp (dop neD) (wVar 0) (wC (.str (PySem.Str.ofString "still"))))
 (wFor (wiE (wSplit (wVar 0) (wC (.str (PySem.Str.ofString " / "))))) (gN 3)
 (wSeq (wSX 4 (SX_points_of xNoText) (wCons (wVar 3) (wCons (wVar 1) wNil)))
 (wFor (wiZip 4 (wOp addS (wSl (wVar 4) (wPart (wC (.int 1))) (fun _ R => R Option.none)) (wSl (wVar 4) (fun _ R => R Option.none) (wPart (wC (.int 1)))))) (gP 5 6)
 (wSetI 2 (wVar 6) (wVar 5)))))
 wNx)
 (wSeq (wIf (wOr (wNot (wCB S_is_turn (wCons (wTupleOf (wVar 2)) (wCons (wVar 1) wNil)))) (wOp (dop neD) (wCB S_text_of (wCons (wTupleOf (wVar 2)) wNil)) (wVar 0)))
 (wRaise xNoText)
 wNx)
 (wRet (wTupleOf (wVar 2)))))))
def b_read (xNoText : Addr) : WS := (wSeq (wSX 4 (SX_points_of xNoText) (wCons (wVar 3) (wCons (wVar 1) wNil)))
 (wFor (wiZip 4 (wOp addS (wSl (wVar 4) (wPart (wC (.int 1))) (fun _ R => R Option.none)) (wSl (wVar 4) (fun _ R => R Option.none) (wPart (wC (.int 1)))))) (gP 5 6)
 (wSetI 2 (wVar 6) (wVar 5))))
def e_read (xNoText : Addr) : WS := (wSeq (wIf (wOr (wNot (wCB S_is_turn (wCons (wTupleOf (wVar 2)) (wCons (wVar 1) wNil)))) (wOp (dop neD) (wCB S_text_of (wCons (wTupleOf (wVar 2)) wNil)) (wVar 0)))
 (wRaise xNoText)
 wNx)
 (wRet (wTupleOf (wVar 2))))
theorem od_F {n : Nat} {f : List Nat} (hl : f.length = n) (hn : n ≤ 6) : Od 1 (eT f) := .tup (by rw [List.length_map]; omega) fun d hd => by
  obtain ⟨m, hm, rfl⟩ := List.mem_map.mp hd
  exact .int 0 _
theorem read_end {cx : Addr} {R : SV → Prop} {XC : Addr → Prop} {s : Str} {n : Nat} {f : List Nat} {s3 s4 s5 s6 : SV} (hn : n ≤ 6) (hs : PyData.strOk s = true) (hl : f.length = n)
    (hR : ∀ t, IsT n t → textS (Mt.ringsT t) = s → R (.dat (eT t))) (hX : (∀ t, IsT n t → textS (Mt.ringsT t) ≠ s) → XC cx) (hb : ∀ t, IsT n t → textS (Mt.ringsT t) = s → f = t) :
    e_read cx [.dat (.str s), .dat (eN n), .lst (f.map eN), s3, s4, s5, s6] (finX R XC) := by
  refine ⟨eT f, n, 1, rfl, hn, by decide, od_F hl hn, fun b hbt => ?_⟩
  show if (!b) = true then _ else _
  cases b with
  | false =>
    refine hX fun t ht e => ?_
    have := hb t ht e
    subst this
    exact nomatch hbt.mpr ⟨f, ht, rfl⟩
  | true =>
    obtain ⟨t, ht, e⟩ := hbt.mp rfl
    have := eT_inj e
    subst this
    refine ⟨n, f, rfl, hn, ht, shaped_str (textS_ok (rings_ok hn ht).2), shaped_str hs, ?_⟩
    show if (!PyData.eqv (.str (textS (Mt.ringsT f))) (.str s)) = true then _ else _
    rw [eqv_str]
    refine if_nd (fun hne => ?_) fun he => ?_
    · refine hX fun t ht2 e => hne ?_
      rw [hb t ht2 e]
      exact e
    · exact nx_goW rfl (hR f ht he)
theorem zips_rot (l r : List Nat) : zips (l.map eN) (r.map eN) = (l.zip r).map fun p => ID.two (eN p.1) (eN p.2) := by
  unfold zips
  rw [List.zipWith_map, List.zip, List.map_zipWith]
theorem run_read {cx : Addr} {n : Nat} {s : Str} {O : Out → Prop} (hn : n ≤ 6) : ∀ (ps : List Str) (f : List Nat) (s3 s4 s5 s6 : SV), (∀ p ∈ ps, p.length ≤ 90000) → f.length = n →
    ifS (putAll n ps f) (fun f' => ∀ s3 s4 s5 s6, f'.length = n → O (.nx [.dat (.str s), .dat (eN n), .lst (f'.map eN), s3, s4, s5, s6])) (O (.xc cx)) →
    forRun (gN 3) (b_read cx) (ones (ps.map PyData.str)) [.dat (.str s), .dat (eN n), .lst (f.map eN), s3, s4, s5, s6] O
  | [], f, s3, s4, s5, s6, _, hf, h => h s3 s4 s5 s6 hf
  | p :: ps, f, s3, s4, s5, s6, hp, hf, h => by
    have hpl := hp p List.mem_cons_self
    show b_read cx [.dat (.str s), .dat (eN n), .lst (f.map eN), .dat (.str p), s4, s5, s6] (nxt (fun ss2 => forRun (gN 3) (b_read cx) (ones (ps.map PyData.str)) ss2 O) O)
    refine ⟨p, n, rfl, hn, hpl, ?_⟩
    have e : putAll n (p :: ps) f = (match pts n (Txt.split p sp1) with
      | none => none
      | some l => putAll n ps (putR f l)) := rfl
    rw [e] at h
    cases hpt : pts n (Txt.split p sp1) with
    | none =>
      rw [hpt] at h
      exact h
    | some l =>
      rw [hpt] at h
      obtain ⟨hlt, hll⟩ := pts_lt hpt
      have hne : 1 ≤ l.length := by
        rw [hll]
        exact List.length_pos_iff.mpr (split_ne sep1 p)
      have hll2 : l.length ≤ 90001 := by
        rw [hll]
        have := split_len sep1 p
        omega
      refine ⟨trivial, ?_⟩
      have hno : noLs (l.map eN) = true := noLs_map (fun n : Nat => PyData.int (n : Nat)) (fun _ => rfl) l
      refine nx_goV (ss' := [.dat (.str s), .dat (eN n), .lst (f.map eN), .dat (.str p), .lst (l.map eN), s5, s6]) rfl ?_
      refine .inl ⟨hno, .inl ⟨hno, ?_⟩⟩
      have c1 : cut (l.map eN) (some 1) Option.none = (l.drop 1).map eN := by
        rw [show (1 : Int) = ((1 : Nat) : Int) from rfl, cut_drop (by rw [List.length_map]; exact hne), List.map_drop]
      have c2 : cut (l.map eN) Option.none (some 1) = (l.take 1).map eN := by
        rw [show (1 : Int) = ((1 : Nat) : Int) from rfl, cut_take (by rw [List.length_map]; exact hne), List.map_take]
      rw [c1, c2]
      refine ⟨line_of (by rw [List.length_map, List.length_map, List.length_drop, List.length_take]; omega), ?_⟩
      have e2 : (l.drop 1).map eN ++ (l.take 1).map eN = (rot l).map eN := by
        unfold rot
        rw [List.map_append]
      show forRun (gP 5 6) (wSetI 2 (wVar 6) (wVar 5)) (zips (l.map eN) ((l.drop 1).map eN ++ (l.take 1).map eN)) [.dat (.str s), .dat (eN n), .lst (f.map eN), .dat (.str p), .dat (.list (l.map eN)), s5, s6] (nxt (fun ss2 => forRun (gN 3) (b_read cx) (ones (ps.map PyData.str)) ss2 O) O)
      rw [e2, zips_rot]
      refine for_all _ (fun pre ss => ∃ s5 s6, ss = [.dat (.str s), .dat (eN n), .lst ((setAll pre f).map eN), .dat (.str p), .dat (.list (l.map eN)), s5, s6]) (l.zip (rot l)) ⟨_, _, rfl⟩ ?_ ?_
      · rintro pre q post ss eq ⟨s5, s6, rfl⟩ K hK
        obtain ⟨m1, m2⟩ := zip_rot (show q ∈ l.zip (rot l) by rw [eq]; simp)
        have hq1 := hlt _ m1
        have hlen : ((setAll pre f).map eN).length = n := by rw [List.length_map, setAll_len, hf]
        refine ⟨rfl, q.1, ?_, ?_⟩
        · rw [hlen]
          exact ixN_nat hq1
        · refine nx_goV ?_ (hK _ ⟨.dat (eN q.1), .dat (eN q.2), rfl⟩)
          show [_, _, SV.lst (((setAll pre f).map eN).set q.1 (eN q.2)), _, _, _, _] = _
          rw [map_set, ← setAll_snoc]
      · rintro ss ⟨s5, s6, rfl⟩
        show forRun (gN 3) (b_read cx) (ones (ps.map PyData.str)) [.dat (.str s), .dat (eN n), .lst ((putR f l).map eN), .dat (.str p), .dat (.list (l.map eN)), s5, s6] O
        exact run_read hn ps (putR f l) _ _ _ _ (fun v hv => hp v (List.mem_cons_of_mem _ hv)) (by rw [putR_len, hf]) h
theorem spX_read : ∀ xNoText ds R XC, SX_read xNoText ds R XC → ds.length = 2 ∧ w_read xNoText (initSS 7 ds) (finX R XC) := by
  rintro cx ds R XC ⟨s, n, rfl, hn, hs, hl, hR, hX⟩
  refine ⟨rfl, ?_⟩
  refine ⟨n, rfl, hn, .inl ⟨noLs_map (fun n : Nat => PyData.int (n : Nat)) (fun _ => rfl) (Mt.still n), trivial, ?_⟩⟩
  refine nx_goV (ss' := [.dat (.str s), .dat (eN n), .lst ((Mt.still n).map eN), .no, .no, .no, .no]) rfl ?_
  have hst : (Mt.still n).length = n := Mt.len_still n
  refine ⟨shaped_str hs, shaped_str (strOk_of _), ?_⟩
  show if (!PyData.eqv (.str s) (.str stillS)) = true then _ else _
  rw [eqv_str]
  refine if_nd (fun hne => ?_) fun he => ?_
  · refine ⟨s, rfl, sp3, rfl, sep3.noE, line_of (by omega), ?_⟩
    have hb : ∀ t, IsT n t → textS (Mt.ringsT t) = s → putAll n (Txt.split s sp3) (Mt.still n) = some t := fun t ht e => by
      rcases back_of hn ht with ⟨a1, _⟩ | ⟨_, a2⟩
      · exact absurd (e.symm.trans a1) hne
      · rw [e] at a2
        exact a2
    refine run_read hn (Txt.split s sp3) (Mt.still n) _ _ _ _ (fun p hp => Nat.le_trans (split_mem sep3 hp) hl) hst ?_
    cases hpa : putAll n (Txt.split s sp3) (Mt.still n) with
    | none =>
      refine hX fun t ht e => ?_
      have := hb t ht e
      rw [hpa] at this
      exact nomatch this
    | some f =>
      intro s3 s4 s5 s6 hf
      refine read_end hn hs hf hR hX fun t ht e => ?_
      have := hb t ht e
      rw [hpa] at this
      exact Option.some.inj this
  · refine nx_goW rfl ?_
    refine read_end hn hs hst hR hX fun t ht e => ?_
    rcases back_of hn ht with ⟨_, a2⟩ | ⟨a1, _⟩
    · exact a2.symm
    · exact absurd (e.trans he) a1
end Ab

set_option Elab.async false
set_option linter.all false
set_option maxRecDepth 100000
set_option maxHeartbeats 1000000
/-! S34: a text changed. -/
namespace Ab
open PySem PySem.Spec
open Mt (T IsT)
def S_Lchanged : SP := fun ds R => ∃ (s : Str) (m : Nat), ds = [.str s, eN m] ∧ PyData.strOk s = true ∧ s.length ≤ 2000 ∧ ∀ s', PyData.strOk s' = true → s'.length ≤ 4 * s.length + 40 → R (.dat (.str s'))
def w_Lchanged : WS := (wSeq (wAsg 2 (wSplit (wVar 0) (wC (.str (PySem.Str.ofString " ")))))
 (wSeq (wAsg 3 (wOp (dop modD) (wOp (dop divD) (wVar 1) (wC (.int 9))) (wCB (on1 lenD) (wCons (wVar 2) wNil))))
 (wSeq (wAsg 4 (wOp (dop modD) (wOp (dop divD) (wVar 1) (wC (.int 9))) (wOp addS (wCB (on1 lenD) (wCons (wVar 0) wNil)) (wC (.int 1)))))
 (wSeq (wAsg 5 (wOp (dop modD) (wVar 1) (wC (.int 9))))
 (wSeq (wIf (wOp (dop eqD) (wVar 5) (wC (.int 0)))
 (wRet (wOp addS (wSlS (wVar 0) (fun _ R => R Option.none) (wPart (wVar 4))) (wSlS (wVar 0) (wPart (wOp addS (wVar 4) (wC (.int 1)))) (fun _ R => R Option.none))))
 wNx)
 (wSeq (wIf (wOp (dop ltD) (wVar 5) (wC (.int 3)))
 (wSeq (wAsg 6 (wOp (dop ixD) (wC (.str (PySem.Str.ofString " 0123456/s-"))) (wOp (dop modD) (wOp (dop divD) (wVar 1) (wC (.int 7))) (wC (.int 11)))))
 (wRet (wOp addS (wOp addS (wSlS (wVar 0) (fun _ R => R Option.none) (wPart (wVar 4))) (wVar 6)) (wSlS (wVar 0) (wPart (wOp (dop subD) (wOp addS (wVar 4) (wVar 5)) (wC (.int 1)))) (fun _ R => R Option.none)))))
 wNx)
 (wSeq (wIf (wOp (dop eqD) (wVar 5) (wC (.int 3)))
 (wRet (wJoin (wC (.str (PySem.Str.ofString " "))) (wOp addS (wSl (wVar 2) (fun _ R => R Option.none) (wPart (wVar 3))) (wSl (wVar 2) (wPart (wOp addS (wVar 3) (wC (.int 1)))) (fun _ R => R Option.none)))))
 wNx)
 (wSeq (wIf (wOp (dop eqD) (wVar 5) (wC (.int 4)))
 (wRet (wJoin (wC (.str (PySem.Str.ofString " "))) (wOp addS (wOp addS (wSl (wVar 2) (fun _ R => R Option.none) (wPart (wVar 3))) (wSl (wVar 2) (wPart (wVar 3)) (wPart (wOp addS (wVar 3) (wC (.int 1)))))) (wSl (wVar 2) (wPart (wVar 3)) (fun _ R => R Option.none)))))
 wNx)
 (wSeq (wIf (wOp (dop eqD) (wVar 5) (wC (.int 5)))
 (wSeq (wAsg 7 (wOp addS (wSl (wVar 2) (wPart (wOp addS (wVar 3) (wC (.int 1)))) (wPart (wOp addS (wVar 3) (wC (.int 2))))) (wSl (wVar 2) (wPart (wVar 3)) (wPart (wOp addS (wVar 3) (wC (.int 1)))))))
 (wRet (wJoin (wC (.str (PySem.Str.ofString " "))) (wOp addS (wOp (dop catL) (wSl (wVar 2) (fun _ R => R Option.none) (wPart (wVar 3))) (wVar 7)) (wSl (wVar 2) (wPart (wOp addS (wVar 3) (wC (.int 2)))) (fun _ R => R Option.none))))))
 wNx)
 (wSeq (wIf (wOp (dop eqD) (wVar 5) (wC (.int 6)))
 (wSeq (wAsg 8 (wSplit (wC (.str (PySem.Str.ofString "still / 0 1 2 3 4 5 6 00 -1 a"))) (wC (.str (PySem.Str.ofString " ")))))
 (wRet (wJoin (wC (.str (PySem.Str.ofString " "))) (wOp addS (wOp addS (wSl (wVar 2) (fun _ R => R Option.none) (wPart (wVar 3))) (wLst (wCons (wOp (dop ixD) (wVar 8) (wOp (dop modD) (wOp (dop divD) (wVar 1) (wC (.int 7))) (wC (.int 12)))) wNil))) (wSl (wVar 2) (wPart (wOp addS (wVar 3) (wC (.int 1)))) (fun _ R => R Option.none))))))
 wNx)
 (wSeq (wIf (wOp (dop eqD) (wVar 5) (wC (.int 7)))
 (wRet (wJoin (wC (.str (PySem.Str.ofString " / "))) (wRevL (wSplit (wVar 0) (wC (.str (PySem.Str.ofString " / ")))))))
 wNx)
 (wRet (wOp addS (wOp addS (wVar 0) (wC (.str (PySem.Str.ofString " / ")))) (wCB (on1 strD) (wCons (wOp (dop modD) (wOp (dop divD) (wVar 1) (wC (.int 9))) (wC (.int 6))) wNil)))))))))))))))
def w_Lcb : WS := (wSeq (wIf (wOp (dop eqD) (wVar 5) (wC (.int 0)))
 (wRet (wOp addS (wSlS (wVar 0) (fun _ R => R Option.none) (wPart (wVar 4))) (wSlS (wVar 0) (wPart (wOp addS (wVar 4) (wC (.int 1)))) (fun _ R => R Option.none))))
 wNx)
 (wSeq (wIf (wOp (dop ltD) (wVar 5) (wC (.int 3)))
 (wSeq (wAsg 6 (wOp (dop ixD) (wC (.str (PySem.Str.ofString " 0123456/s-"))) (wOp (dop modD) (wOp (dop divD) (wVar 1) (wC (.int 7))) (wC (.int 11)))))
 (wRet (wOp addS (wOp addS (wSlS (wVar 0) (fun _ R => R Option.none) (wPart (wVar 4))) (wVar 6)) (wSlS (wVar 0) (wPart (wOp (dop subD) (wOp addS (wVar 4) (wVar 5)) (wC (.int 1)))) (fun _ R => R Option.none)))))
 wNx)
 (wSeq (wIf (wOp (dop eqD) (wVar 5) (wC (.int 3)))
 (wRet (wJoin (wC (.str (PySem.Str.ofString " "))) (wOp addS (wSl (wVar 2) (fun _ R => R Option.none) (wPart (wVar 3))) (wSl (wVar 2) (wPart (wOp addS (wVar 3) (wC (.int 1)))) (fun _ R => R Option.none)))))
 wNx)
 (wSeq (wIf (wOp (dop eqD) (wVar 5) (wC (.int 4)))
 (wRet (wJoin (wC (.str (PySem.Str.ofString " "))) (wOp addS (wOp addS (wSl (wVar 2) (fun _ R => R Option.none) (wPart (wVar 3))) (wSl (wVar 2) (wPart (wVar 3)) (wPart (wOp addS (wVar 3) (wC (.int 1)))))) (wSl (wVar 2) (wPart (wVar 3)) (fun _ R => R Option.none)))))
 wNx)
 (wSeq (wIf (wOp (dop eqD) (wVar 5) (wC (.int 5)))
 (wSeq (wAsg 7 (wOp addS (wSl (wVar 2) (wPart (wOp addS (wVar 3) (wC (.int 1)))) (wPart (wOp addS (wVar 3) (wC (.int 2))))) (wSl (wVar 2) (wPart (wVar 3)) (wPart (wOp addS (wVar 3) (wC (.int 1)))))))
 (wRet (wJoin (wC (.str (PySem.Str.ofString " "))) (wOp addS (wOp (dop catL) (wSl (wVar 2) (fun _ R => R Option.none) (wPart (wVar 3))) (wVar 7)) (wSl (wVar 2) (wPart (wOp addS (wVar 3) (wC (.int 2)))) (fun _ R => R Option.none))))))
 wNx)
 (wSeq (wIf (wOp (dop eqD) (wVar 5) (wC (.int 6)))
 (wSeq (wAsg 8 (wSplit (wC (.str (PySem.Str.ofString "still / 0 1 2 3 4 5 6 00 -1 a"))) (wC (.str (PySem.Str.ofString " ")))))
 (wRet (wJoin (wC (.str (PySem.Str.ofString " "))) (wOp addS (wOp addS (wSl (wVar 2) (fun _ R => R Option.none) (wPart (wVar 3))) (wLst (wCons (wOp (dop ixD) (wVar 8) (wOp (dop modD) (wOp (dop divD) (wVar 1) (wC (.int 7))) (wC (.int 12)))) wNil))) (wSl (wVar 2) (wPart (wOp addS (wVar 3) (wC (.int 1)))) (fun _ R => R Option.none))))))
 wNx)
 (wSeq (wIf (wOp (dop eqD) (wVar 5) (wC (.int 7)))
 (wRet (wJoin (wC (.str (PySem.Str.ofString " / "))) (wRevL (wSplit (wVar 0) (wC (.str (PySem.Str.ofString " / ")))))))
 wNx)
 (wRet (wOp addS (wOp addS (wVar 0) (wC (.str (PySem.Str.ofString " / ")))) (wCB (on1 strD) (wCons (wOp (dop modD) (wOp (dop divD) (wVar 1) (wC (.int 9))) (wC (.int 6))) wNil)))))))))))
theorem cut_map {α β : Type} (f : α → β) (l : List α) (lo hi : Option Int) : cut (l.map f) lo hi = (cut l lo hi).map f := by
  unfold cut
  rw [List.length_map, List.map_take, List.map_drop]
theorem cut_subl {α : Type} (l : List α) (lo hi : Option Int) : (cut l lo hi).Sublist l := (List.take_sublist _ _).trans (List.drop_sublist _ _)
theorem cutS_ok {s : Str} {lo hi : Option Int} (h : PyData.strOk s = true) : PyData.strOk (L2.cutS s lo hi) = true := strOk_iff.mpr fun c hc => strOk_iff.mp h c (List.mem_of_mem_drop (List.mem_of_mem_take hc))
/-- words that are put together of a text's words -/
structure Ws (c : Nat) (ys : List Str) : Prop where
  ok : ∀ y ∈ ys, PyData.strOk y = true
  le : tot 1 ys ≤ c
theorem Ws.app {c e : Nat} {a b : List Str} (h : Ws c a) (g : Ws e b) : Ws (c + e) (a ++ b) :=
  ⟨fun y hy => (List.mem_append.mp hy).elim (h.ok y) (g.ok y), by rw [tot_app]; exact Nat.add_le_add h.le g.le⟩
theorem Ws.cut {ws : List Str} {c : Nat} (h : Ws c ws) (lo hi : Option Int) : Ws c (cut ws lo hi) :=
  ⟨fun y hy => h.ok y (cut_mem hy), Nat.le_trans (tot_sub (cut_subl ws lo hi)) h.le⟩
theorem Ws.len {c : Nat} {ys : List Str} (h : Ws c ys) : ys.length ≤ c := by
  have := tot_len 1 ys
  have := h.le
  omega
/-- a slice of words -/
theorem slW {ws : List Str} {lo hi : Option Int} {R : SV → Prop} (h : R (.lst ((cut ws lo hi).map PyData.str))) : slD (.list (ws.map PyData.str)) lo hi R := .inl ⟨noLs_strs ws, by rw [cut_map]; exact h⟩
/-- lists of words put together -/
theorem addW {c e : Nat} {a b : List Str} {R : SV → Prop} (h : Ws c a) (g : Ws e b) (hc : c + e ≤ 100000) (hr : Ws (c + e) (a ++ b) → R (.lst ((a ++ b).map PyData.str))) : addS (.lst (a.map PyData.str)) (.lst (b.map PyData.str)) R := by
  have h1 := h.len
  have h2 := g.len
  refine ⟨line_of (by rw [List.length_map, List.length_map]; omega), ?_⟩
  rw [← List.map_append]
  exact hr (h.app g)
/-- the join of them -/
theorem join_give {R : D → Prop} {s : Str} {ys : List Str} {c : Nat} (h : Ws c ys) (hc : c ≤ 4 * s.length + 40) (hs : s.length ≤ 2000) (hr : ∀ s', PyData.strOk s' = true → s'.length ≤ 4 * s.length + 40 → R (.str s')) :
    ∃ zs : List Str, PyData.list (ys.map PyData.str) = .list (zs.map PyData.str) ∧ (zs.map (·.length)).sum + zs.length * sp1.length ≤ 16777216 ∧ R (.str (Txt.join sp1 zs)) := by
  have e1 : sp1.length = 1 := by decide +kernel
  have := h.le
  refine ⟨ys, rfl, ?_, ?_⟩
  · rw [e1, join_tot]
    omega
  · rw [joinT]
    refine hr _ (join_ok (strOk_of _) h.ok) ?_
    have := join_le sp1 ys
    rw [e1] at this
    omega
/-- what an expression gives -/
def Gv (W : WE) (ss : List SV) (x : SV) : Prop := ∀ R : SV → Prop, R x → W ss R
def Pv (W : WP) (ss : List SV) (o : Option Int) : Prop := ∀ R : Option Int → Prop, R o → W ss R
theorem ret_of {W : WE} {ss : List SV} {x : SV} {O : Out → Prop} (g : Gv W ss x) (h : O (.rt x)) : wRet W ss O := g _ h
theorem asg_of {W : WE} {ss : List SV} {x : SV} {i : Nat} {O : Out → Prop} (g : Gv W ss x) (h : stor ss x ∧ O (.nx (ss.set i x))) : wAsg i W ss O := g _ h
theorem pv_no {ss : List SV} : Pv (fun _ R => R Option.none) ss Option.none := fun _ h => h
theorem pv_of {W : WE} {ss : List SV} {i : Int} (g : Gv W ss (.dat (.int i))) : Pv (wPart W) ss (some i) := fun _ h => g _ h
theorem gv_var {ss : List SV} {i : Nat} {d : D} (h : ss[i]? = some (.dat d)) : Gv (wVar i) ss (.dat d) := fun R hr => by
  unfold wVar
  rw [h]
  exact hr
theorem gv_varL {ss : List SV} {i : Nat} {ds : List D} {R : SV → Prop} (h : ss[i]? = some (.lst ds)) (hr : R (.dat (.list ds))) : wVar i ss R := by
  unfold wVar
  rw [h]
  exact hr
theorem gv_plus {W : WE} {ss : List SV} {i j : Int} (g : Gv W ss (.dat (.int i))) : Gv (wOp addS W (wC (.int j))) ss (.dat (.int (i + j))) := fun _ h => g _ h
theorem gv_slice {ss : List SV} {i : Nat} {ws : List Str} {Wl Wh : WP} {lo hi : Option Int} (h : ss[i]? = some (.lst (ws.map PyData.str))) (pl : Pv Wl ss lo) (ph : Pv Wh ss hi) : Gv (wSl (wVar i) Wl Wh) ss (.lst ((cut ws lo hi).map PyData.str)) := fun R hr =>
  gv_varL h (pl _ (ph _ (slW hr)))
theorem gv_app {A B : WE} {ss : List SV} {a b : List Str} (ga : Gv A ss (.lst (a.map PyData.str))) (gb : Gv B ss (.lst (b.map PyData.str))) (hl : a.length + b.length ≤ 100000) : Gv (wOp addS A B) ss (.lst ((a ++ b).map PyData.str)) := fun R hr =>
  ga _ (gb _ ⟨line_of (by rw [List.length_map, List.length_map]; omega), by rw [← List.map_append]; exact hr⟩)
theorem gv_cat {A : WE} {ss : List SV} {i : Nat} {a b : List Str} (ga : Gv A ss (.lst (a.map PyData.str))) (h : ss[i]? = some (.lst (b.map PyData.str))) (hl : a.length + b.length ≤ 100000) : Gv (wOp (dop catL) A (wVar i)) ss (.lst ((a ++ b).map PyData.str)) := fun R hr =>
  ga _ (gv_varL h ⟨line_of (by rw [List.length_map, List.length_map]; omega), noLs_append (noLs_strs a) (noLs_strs b), by rw [← List.map_append]; exact hr⟩)
theorem gv_appT {A B : WE} {ss : List SV} {a b : Str} (ga : Gv A ss (.dat (.str a))) (gb : Gv B ss (.dat (.str b))) (hl : a.length + b.length ≤ 100000) : Gv (wOp addS A B) ss (.dat (.str (a ++ b))) := fun R hr =>
  ga _ (gb _ ⟨line_of (by omega), hr⟩)
theorem gv_join {W : WE} {ss : List SV} {s : Str} {ys : List Str} {c : Nat} {R : SV → Prop} (g : Gv W ss (.lst (ys.map PyData.str))) (h : Ws c ys) (hc : c ≤ 4 * s.length + 40) (hs : s.length ≤ 2000)
    (hr : ∀ s', PyData.strOk s' = true → s'.length ≤ 4 * s.length + 40 → R (.dat (.str s'))) : wRet (wJoin (wC (.str sp1)) W) ss (fin R) :=
  ⟨sp1, rfl, g _ (join_give (R := fun d => R (.dat d)) h hc hs hr)⟩
def someT : Str := PySem.Str.ofString "still / 0 1 2 3 4 5 6 00 -1 a"
def signT : Str := PySem.Str.ofString " 0123456/s-"
theorem some_twelve : (Txt.split someT sp1).length = 12 := by
  have := congrArg List.length (sep1.spl someT)
  rw [List.length_map] at this
  rw [this]
  decide +kernel
theorem sign_eleven : (TL.tl signT).length = 11 := by decide +kernel
/-- a text put together of two -/
theorem addT {a b : Str} {c : Nat} {R : SV → Prop} (h : a.length + b.length ≤ c) (hc : c ≤ 100000) (hr : (a ++ b).length ≤ c → R (.dat (.str (a ++ b)))) : addS (.dat (.str a)) (.dat (.str b)) R :=
  ⟨line_of (Nat.le_trans h (by omega)), hr (by rw [len_app]; exact h)⟩
section
variable {R : SV → Prop} {s : Str} {ws : List Str} {m at_ pl k : Nat} {s6 s7 s8 : SV}
theorem Lc_body (hs : PyData.strOk s = true) (hl : s.length ≤ 2000) (hW : Ws (s.length + 1) ws) (hr : ∀ s', PyData.strOk s' = true → s'.length ≤ 4 * s.length + 40 → R (.dat (.str s'))) :
    w_Lcb [.dat (.str s), .dat (eN m), .lst (ws.map PyData.str), .dat (eN at_), .dat (eN pl), .dat (eN k), .no, .no, .no] (fin R) := by
  have hcut := fun lo hi => L2.cutS_length s lo hi
  have hok := fun lo hi => cutS_ok (lo := lo) (hi := hi) hs
  have hsz : s.length ≤ sizeLine := line_of (by omega)
  refine ⟨shaped_int _, shaped_int _, ?_⟩
  show if PyData.eqv (.int ((k : Nat) : Int)) (.int 0) = true then _ else _
  rw [eqv_int]
  refine if_dec (fun h => ?_) fun h => nx_goW rfl ?_
  · refine ⟨s, rfl, hsz, s, rfl, hsz, addT (c := 2 * s.length) ?_ (by omega) fun hle => hr _ (ok_app (hok _ _) (hok _ _)) (by omega)⟩
    have := hcut Option.none (some ((pl : Nat) : Int))
    have := hcut (some (((pl : Nat) : Int) + 1)) Option.none
    omega
  show if decide (((k : Nat) : Int) < 3) = true then _ else _
  refine if_dec (fun h => ?_) fun h => nx_goW rfl ?_
  · have hix : m / 7 % 11 < (TL.tl signT).length := by rw [sign_eleven]; exact Nat.mod_lt _ (by decide)
    refine ⟨cdv _ _ (by decide) (by decide), by show (0 : Int) < 11; decide, (TL.tl signT)[m / 7 % 11], line_of (by decide +kernel), atI_natL (List.getElem?_eq_getElem hix), .inl rfl, ?_⟩
    have hc : PyData.strOk ⟨#[(TL.tl signT)[m / 7 % 11]]⟩ = true := strOk_iff.mpr fun c hc => by
      have hc : c ∈ [(TL.tl signT)[m / 7 % 11]] := hc
      rw [List.mem_singleton.mp hc]
      exact strOk_iff.mp (strOk_of _) _ (List.getElem_mem hix)
    have hc1 : (⟨#[(TL.tl signT)[m / 7 % 11]]⟩ : Str).length = 1 := rfl
    generalize (⟨#[(TL.tl signT)[m / 7 % 11]]⟩ : Str) = c at hc hc1
    have l1 := hcut Option.none (some ((pl : Nat) : Int))
    have l2 := hcut (some (((pl : Nat) : Int) + ((k : Nat) : Int) - 1)) Option.none
    refine ⟨s, rfl, hsz, addT (c := s.length + 1) (by omega) (by omega) fun h1 => ⟨s, rfl, hsz, addT (c := 2 * s.length + 1) ?_ (by omega) fun h2 => hr _ (ok_app (ok_app (hok _ _) hc) (hok _ _)) (by omega)⟩⟩
    omega
  refine ⟨shaped_int _, shaped_int _, ?_⟩
  show if PyData.eqv (.int ((k : Nat) : Int)) (.int 3) = true then _ else _
  rw [eqv_int]
  refine if_dec (fun h => ?_) fun h => nx_goW rfl ?_
  · have g1 := hW.cut Option.none (some ((at_ : Nat) : Int))
    have g2 := hW.cut (some (((at_ : Nat) : Int) + 1)) Option.none
    have l1 := g1.len
    have l2 := g2.len
    exact gv_join (gv_app (gv_slice rfl pv_no (pv_of (gv_var rfl))) (gv_slice rfl (pv_of (gv_plus (gv_var rfl))) pv_no) (by omega)) (g1.app g2) (by omega) hl hr
  refine ⟨shaped_int _, shaped_int _, ?_⟩
  show if PyData.eqv (.int ((k : Nat) : Int)) (.int 4) = true then _ else _
  rw [eqv_int]
  refine if_dec (fun h => ?_) fun h => nx_goW rfl ?_
  · have g1 := hW.cut Option.none (some ((at_ : Nat) : Int))
    have g2 := hW.cut (some ((at_ : Nat) : Int)) (some (((at_ : Nat) : Int) + 1))
    have g3 := hW.cut (some ((at_ : Nat) : Int)) Option.none
    have l1 := g1.len
    have l2 := g2.len
    have l3 := g3.len
    exact gv_join (gv_app (gv_app (gv_slice rfl pv_no (pv_of (gv_var rfl))) (gv_slice rfl (pv_of (gv_var rfl)) (pv_of (gv_plus (gv_var rfl)))) (by omega)) (gv_slice rfl (pv_of (gv_var rfl)) pv_no) (by rw [List.length_append]; omega)) ((g1.app g2).app g3) (by omega) hl hr
  refine ⟨shaped_int _, shaped_int _, ?_⟩
  show if PyData.eqv (.int ((k : Nat) : Int)) (.int 5) = true then _ else _
  rw [eqv_int]
  refine if_dec (fun h => ?_) fun h => nx_goW rfl ?_
  · have g1 := hW.cut (some (((at_ : Nat) : Int) + 1)) (some (((at_ : Nat) : Int) + 2))
    have g2 := hW.cut (some ((at_ : Nat) : Int)) (some (((at_ : Nat) : Int) + 1))
    have g3 := hW.cut Option.none (some ((at_ : Nat) : Int))
    have g4 := hW.cut (some (((at_ : Nat) : Int) + 2)) Option.none
    have l1 := g1.len
    have l2 := g2.len
    have l3 := g3.len
    have l4 := g4.len
    have l12 := (g1.app g2).len
    refine asg_of (gv_app (gv_slice rfl (pv_of (gv_plus (gv_var rfl))) (pv_of (gv_plus (gv_var rfl)))) (gv_slice rfl (pv_of (gv_var rfl)) (pv_of (gv_plus (gv_var rfl)))) (by omega)) ⟨trivial, nx_goV rfl ?_⟩
    exact gv_join (gv_app (gv_cat (gv_slice rfl pv_no (pv_of (gv_var rfl))) rfl (by omega)) (gv_slice rfl (pv_of (gv_plus (gv_var rfl))) pv_no) (by rw [List.length_append]; omega)) ((g3.app (g1.app g2)).app g4) (by omega) hl hr
  refine ⟨shaped_int _, shaped_int _, ?_⟩
  show if PyData.eqv (.int ((k : Nat) : Int)) (.int 6) = true then _ else _
  rw [eqv_int]
  refine if_dec (fun h => ?_) fun h => nx_goW rfl ?_
  · have hix : m / 7 % 12 < (Txt.split someT sp1).length := by rw [some_twelve]; exact Nat.mod_lt _ (by decide)
    have hso := split_ok sep1 (x := someT) (strOk_of _)
    have hsl : ∀ w ∈ Txt.split someT sp1, w.length ≤ 31 := fun w hw => Nat.le_trans (split_mem sep1 hw) (by decide +kernel)
    refine ⟨someT, rfl, sp1, rfl, sep1.noE, line_of (by decide +kernel), trivial, nx_goV rfl ?_⟩
    have hw := List.getElem_mem hix
    have hq := List.getElem?_eq_getElem hix
    generalize (Txt.split someT sp1)[m / 7 % 12] = w at hw hq
    have g1 := hW.cut Option.none (some ((at_ : Nat) : Int))
    have g2 : Ws 32 [w] := ⟨fun y hy => by rw [List.mem_singleton.mp hy]; exact hso w hw, by have := hsl w hw; rw [tot_cons, tot_nil]; omega⟩
    have g3 := hW.cut (some (((at_ : Nat) : Int) + 1)) Option.none
    have l1 := g1.len
    have l3 := g3.len
    have hat : L2.atI ((Txt.split someT sp1).map PyData.str) ((m / 7 % 12 : Nat) : Int) = some (.str w) := atI_natL (by rw [List.getElem?_map, hq]; rfl)
    exact gv_join (ys := cut ws Option.none (some ((at_ : Nat) : Int)) ++ [w] ++ cut ws (some (((at_ : Nat) : Int) + 1)) Option.none) (gv_app (gv_app (gv_slice rfl pv_no (pv_of (gv_var rfl)))
      (fun R hr => ⟨cdv _ _ (by decide) (by decide), by show (0 : Int) < 12; decide, .str w, hat, line_of (by show 1 ≤ _; decide), .inl ⟨rfl, hr⟩⟩) (by rw [List.length_singleton]; omega)) (gv_slice rfl (pv_of (gv_plus (gv_var rfl))) pv_no) (by rw [List.length_append, List.length_singleton]; omega)) ((g1.app g2).app g3) (by omega) hl hr
  refine ⟨shaped_int _, shaped_int _, ?_⟩
  show if PyData.eqv (.int ((k : Nat) : Int)) (.int 7) = true then _ else _
  rw [eqv_int]
  refine if_dec (fun h => ?_) fun h => nx_goW rfl ?_
  · refine ⟨sp3, rfl, s, rfl, sp3, rfl, sep3.noE, line_of (by omega), _, rfl, noLs_strs _, (Txt.split s sp3).reverse, ?_⟩
    have e3 : sp3.length = 3 := by decide +kernel
    have ht := split_tot sep3 s
    have ht3 : tot 3 (Txt.split s sp3).reverse ≤ 3 * (s.length + 1) := by
      have : tot 3 (Txt.split s sp3) = _ := tot_add 1 2 (Txt.split s sp3)
      have := tot_len 1 (Txt.split s sp3)
      rw [tot_rev]
      omega
    refine ⟨by rw [List.map_reverse], ?_, ?_⟩
    · rw [e3, join_tot]
      omega
    · rw [joinT]
      refine hr _ (join_ok (strOk_of _) fun y hy => split_ok sep3 hs y (List.mem_reverse.mp hy)) ?_
      have := join_le sp3 (Txt.split s sp3).reverse
      rw [e3] at this
      omega
  have h6 : m / 9 % 6 < 6 := Nat.mod_lt _ (by decide)
  have e3 : sp3.length = 3 := by decide +kernel
  have h1 := strI_len _ h6
  have g : Gv (wOp addS (wOp addS (wVar 0) (wC (.str sp3))) (wCB (on1 strD) (wCons (wOp (dop modD) (wOp (dop divD) (wVar 1) (wC (.int 9))) (wC (.int 6))) wNil))) [.dat (.str s), .dat (eN m), .lst (ws.map PyData.str), .dat (eN at_), .dat (eN pl), .dat (eN k), .no, .no, .no] (.dat (.str (s ++ sp3 ++ strI ((m / 9 % 6 : Nat) : Int)))) :=
    gv_appT (gv_appT (gv_var rfl) (fun _ h => h) (by omega)) (fun R hr => ⟨cdv _ _ (by decide) (by decide), by show (0 : Int) < 6; decide, log_small h6, hr⟩) (by rw [len_app]; omega)
  exact ret_of g (hr _ (ok_app (ok_app hs (strOk_of _)) (strI_ok _)) (by rw [len_app, len_app]; omega))
end
theorem sp_Lchanged : ∀ ds R, S_Lchanged ds R → ds.length = 2 ∧ w_Lchanged (initSS 9 ds) (fin R) := by
  rintro ds R ⟨s, m, rfl, hs, hl, hr⟩
  refine ⟨rfl, ?_⟩
  have hne := split_ne sep1 s
  have hW : Ws (s.length + 1) (Txt.split s sp1) := ⟨split_ok sep1 hs, split_tot sep1 s⟩
  refine ⟨s, rfl, sp1, rfl, sep1.noE, line_of (by omega), trivial, ?_⟩
  generalize Txt.split s sp1 = ws at hne hW
  have hpos : 0 < ws.length := List.length_pos_iff.mpr hne
  have ea : ((m : Nat) : Int) / 9 % (((ws.map PyData.str).length : Nat) : Int) = ((m / 9 % ws.length : Nat) : Int) := by rw [List.length_map]; rfl
  refine ⟨cdv _ _ (by decide) (by decide), by show (0 : Int) < ((ws.map PyData.str).length : Nat); rw [List.length_map]; omega, .inl rfl, ?_⟩
  refine ⟨cdv _ _ (by decide) (by decide), line_of (by omega), by show (0 : Int) < ((s.length : Nat) : Int) + 1; omega, .inl rfl, ?_⟩
  refine ⟨by show (0 : Int) < 9; decide, .inl rfl, ?_⟩
  show w_Lcb [.dat (.str s), .dat (eN m), .lst (ws.map PyData.str), .dat (.int (((m : Nat) : Int) / 9 % (((ws.map PyData.str).length : Nat) : Int))), .dat (eN (m / 9 % (s.length + 1))), .dat (eN (m % 9)), .no, .no, .no] (fin R)
  rw [ea]
  exact Lc_body hs hl hW hr
end Ab

set_option Elab.async false
set_option linter.all false
set_option maxRecDepth 100000
set_option maxHeartbeats 1000000
/-! K05: the law of what is read. -/
namespace Ab
open PySem PySem.Spec
open Mt (T IsT)
def S_Lfound : SP := fun ds R => ∃ (s : Str) (n : Nat), ds = [.str s, eN n] ∧ n ≤ 6 ∧ PyData.strOk s = true ∧ s.length ≤ 90000 ∧ (∀ t, IsT n t → textS (Mt.ringsT t) = s → R (.dat (eT t))) ∧ ((∀ t, IsT n t → textS (Mt.ringsT t) ≠ s) → R (.dat .none))
def w_Lfound (xNoText : Addr) : WS := (wSeq (wTry 6 xNoText .none (wSX 2 (SX_read xNoText) (wCons (wVar 0) (wCons (wVar 1) wNil))))
 (wRet (wOp (dop ixD) (wLst (wCons (wVar 2) (wCons (wTup wNil) wNil))) (wCB (on1 intD) (wCons (wOp (dop (isN false)) (wVar 2) (wC .none)) wNil)))))
theorem sp_Lfound : ∀ xNoText, ∀ ds R, S_Lfound ds R → ds.length = 2 ∧ w_Lfound xNoText (initSS 6 ds) (fin R) := by
  rintro cx ds R ⟨s, n, rfl, hn, hs, hl, h1, h2⟩
  refine ⟨rfl, rfl, s, n, rfl, hn, hs, hl, fun t ht e => ⟨.inl (noL_eT t), ?_⟩, fun hno => ⟨rfl, h2 hno⟩⟩
  refine ⟨line_of (by decide), line_of (show 2 ≤ 1000000 by decide), .inr ?_⟩
  exact ⟨eT t, rfl, h1 t ht e⟩
def w_law : WS := (wSeq (wAsg 1 (wOp addS (wC (.int 1)) (wOp (dop modD) (wCB S_Lmixed (wCons (wVar 0) (wCons (wC (.int 0)) wNil))) (wC (.int 6)))))
 (wSeq (wAsg 2 (wCB S_Lturn (wCons (wCB S_Lmixed (wCons (wVar 0) (wCons (wC (.int 1)) wNil))) (wCons (wVar 1) wNil))))
 (wSeq (wAsg 3 (wCB S_Lwritten (wCons (wVar 2) wNil)))
 (wSeq (wAsg 4 (wCB S_Lmixed (wCons (wVar 0) (wCons (wC (.int 2)) wNil))))
 (wSeq (wFor (wiR1 (wCons (wOp (dop modD) (wVar 4) (wC (.int 3))) wNil)) (gN 5)
 (wAsg 3 (wCB S_Lchanged (wCons (wVar 3) (wCons (wCB S_Ldrawn (wCons (wVar 4) (wCons (wVar 5) wNil))) wNil)))))
 (wSeq (wAsg 6 (wCB S_Lfound (wCons (wVar 3) (wCons (wVar 1) wNil))))
 (wSeq (wIf (wOp (dop eqD) (wVar 3) (wCB S_Lwritten (wCons (wVar 2) wNil)))
 (wRet (wAnd (wOp (dop eqD) (wVar 6) (wVar 2)) (wCB S_Lis_turn (wCons (wVar 6) (wCons (wVar 1) wNil)))))
 wNx)
 (wRet (wOr (wOp (dop (isN false)) (wVar 6) (wC .none)) (wAnd (wCB S_Lis_turn (wCons (wVar 6) (wCons (wVar 1) wNil))) (wOp (dop eqD) (wCB S_Lwritten (wCons (wVar 6) wNil)) (wVar 3))))))))))))
def w_lawE : WS := (wSeq (wIf (wOp (dop eqD) (wVar 3) (wCB S_Lwritten (wCons (wVar 2) wNil)))
 (wRet (wAnd (wOp (dop eqD) (wVar 6) (wVar 2)) (wCB S_Lis_turn (wCons (wVar 6) (wCons (wVar 1) wNil)))))
 wNx)
 (wRet (wOr (wOp (dop (isN false)) (wVar 6) (wC .none)) (wAnd (wCB S_Lis_turn (wCons (wVar 6) (wCons (wVar 1) wNil))) (wOp (dop eqD) (wCB S_Lwritten (wCons (wVar 6) wNil)) (wVar 3))))))
def bd : Nat → Nat
  | 0 => 100
  | k + 1 => 4 * bd k + 40
theorem text_len {n : Nat} {t : T} (hn : n ≤ 6) (ht : IsT n t) : (textS (Mt.ringsT t)).length ≤ 100 := by
  obtain ⟨h1, h2⟩ := rings_ok hn ht
  generalize Mt.ringsT t = rs at h1 h2
  unfold textS
  split
  · decide +kernel
  · have := join_len sp3 (rs.map ringS) 12 fun x hx => by
      obtain ⟨r, hr, rfl⟩ := List.mem_map.mp hx
      exact (ringS_ok (h2 r hr)).2.2
    have e3 : sp3.length = 3 := by decide +kernel
    rw [e3, List.length_map] at this
    omega
section
variable {R : SV → Prop} {ns : List Int} {n m : Nat} {t : T} {s : Str} {s5 : SV}
theorem lawE_turn (hr : R (.dat (.bool true))) (hn : n ≤ 6) (ht : IsT n t) (hs : PyData.strOk s = true) {u : T} (hu : IsT n u) (e : textS (Mt.ringsT u) = s) :
    w_lawE [.dat (eL ns), .dat (eN n), .dat (eT t), .dat (.str s), .dat (eN m), s5, .dat (eT u)] (fin R) := by
  refine ⟨n, t, rfl, hn, ht, shaped_str hs, shaped_str (textS_ok (rings_ok hn ht).2), ?_⟩
  show if PyData.eqv (.str s) (.str (textS (Mt.ringsT t))) = true then _ else _
  rw [eqv_str]
  refine if_dec (fun h => ?_) fun h => nx_goW rfl ?_
  · have hut : u = t := text_inj hn hu ht (e.trans h)
    refine ⟨shaped_eT u, shaped_eT t, ?_⟩
    show if PyData.eqv (eT u) (eT t) = true then _ else _
    rw [eqv_eT, if_pos (decide_eq_true hut)]
    refine ⟨eT u, n, 1, rfl, hn, by decide, od_F hu.len hn, fun b hb => ?_⟩
    have : b = true := hb.mpr ⟨u, hu, rfl⟩
    subst this
    exact hr
  · refine ⟨eT u, n, 1, rfl, hn, by decide, od_F hu.len hn, fun b hb => ?_⟩
    have : b = true := hb.mpr ⟨u, hu, rfl⟩
    subst this
    refine ⟨n, u, rfl, hn, hu, shaped_str (textS_ok (rings_ok hn hu).2), shaped_str hs, ?_⟩
    show R (.dat (.bool (PyData.eqv (.str (textS (Mt.ringsT u))) (.str s))))
    rw [eqv_str, decide_eq_true e]
    exact hr
theorem lawE_none (hr : R (.dat (.bool true))) (hn : n ≤ 6) (ht : IsT n t) (hs : PyData.strOk s = true) (hno : textS (Mt.ringsT t) ≠ s) :
    w_lawE [.dat (eL ns), .dat (eN n), .dat (eT t), .dat (.str s), .dat (eN m), s5, .dat .none] (fin R) := by
  refine ⟨n, t, rfl, hn, ht, shaped_str hs, shaped_str (textS_ok (rings_ok hn ht).2), ?_⟩
  show if PyData.eqv (.str s) (.str (textS (Mt.ringsT t))) = true then _ else _
  rw [eqv_str]
  refine if_dec (fun h => absurd h.symm hno) fun h => nx_goW rfl ?_
  exact hr
end
theorem sp_law : ∀ ds R, S_law ds R → ds.length = 1 ∧ w_law (initSS 7 ds) (fin R) := by
  rintro ds R ⟨ns, rfl, hns, hr⟩
  refine ⟨rfl, ?_⟩
  refine ⟨ns, 0, rfl, by show (0 : Int) < 6; decide, .inl rfl, ?_⟩
  have hlt := Nat.mod_lt (mixed ns 0) (show 0 < 6 by decide)
  have hni : (1 : Int) + (mixed ns 0 : Nat) % 6 = ((1 + mixed ns 0 % 6 : Nat) : Int) := rfl
  rw [hni]
  generalize hsz : 1 + mixed ns 0 % 6 = n
  have h1 : 1 ≤ n := by omega
  have hn : n ≤ 6 := by omega
  refine ⟨ns, 1, rfl, mixed ns 1, n, rfl, h1, hn, fun t ht => ⟨.inl (noL_eT t), ?_⟩⟩
  refine ⟨n, t, rfl, hn, ht, .inl rfl, ?_⟩
  refine ⟨ns, 2, rfl, .inl rfl, ?_⟩
  generalize mixed ns 2 = m
  have hm3 : m % 3 < 3 := Nat.mod_lt _ (by decide)
  refine ⟨by show (0 : Int) < 3; decide, by show -(2 ^ 62) ≤ ((m % 3 : Nat) : Int); omega, by show ((m % 3 : Nat) : Int) < 2 ^ 62; omega, ?_⟩
  show forRun (gN 5) _ (rangeIds 0 ((m % 3 : Nat) : Int)) [.dat (eL ns), .dat (eN n), .dat (eT t), .dat (.str (textS (Mt.ringsT t))), .dat (eN m), .no, .no] _
  rw [rangeIds_nat]
  refine for_all _ (fun pre ss => ∃ s s5, ss = [.dat (eL ns), .dat (eN n), .dat (eT t), .dat (.str s), .dat (eN m), s5, .no] ∧ PyData.strOk s = true ∧ s.length ≤ bd pre.length) (List.range (m % 3)) ⟨_, _, rfl, textS_ok (rings_ok hn ht).2, text_len hn ht⟩ ?_ ?_
  · rintro pre x post ss e ⟨s, s5, rfl, hs, hl⟩ K hK
    have hpl : pre.length ≤ 1 := by
      have := congrArg List.length e
      rw [List.length_range, List.length_append, List.length_cons] at this
      omega
    have hb : bd pre.length ≤ 440 := by
      have : pre.length = 0 ∨ pre.length = 1 := by omega
      rcases this with z | z <;> rw [z] <;> decide
    refine ⟨m, x, rfl, s, drawn m x, rfl, hs, by omega, fun s' hs' hl' => ⟨.inl rfl, ?_⟩⟩
    refine nx_goV rfl (hK _ ⟨s', .dat (eN x), rfl, hs', ?_⟩)
    rw [List.length_append]
    show s'.length ≤ 4 * bd pre.length + 40
    omega
  · rintro ss ⟨s, s5, rfl, hs, hl⟩
    have hb : bd (List.range (m % 3)).length ≤ 1800 := by
      rw [List.length_range]
      have : m % 3 = 0 ∨ m % 3 = 1 ∨ m % 3 = 2 := by omega
      rcases this with z | z | z <;> rw [z] <;> decide
    refine ⟨s, n, rfl, hn, hs, by omega, fun u hu e => ⟨.inl (noL_eT u), ?_⟩, fun hno => ⟨.inl rfl, ?_⟩⟩
    · exact lawE_turn hr hn ht hs hu e
    · exact lawE_none hr hn ht hs (hno t ht)
end Ab

set_option Elab.async false
set_option linter.all false
set_option maxRecDepth 100000
set_option maxHeartbeats 4000000
namespace Ab
open PySem PySem.Spec L2
open PyProof.Rows hiding St
def topS (i : Nat) : Stmt := PySem.Challenge.pw_turnyard_k05_whole_read.main.body.getD i (.Pass ⟨0, 0, 0, 0⟩)
structure Tx (mg : Str → Option Value) : Prop where
  z_all : mg "all" = Option.none
  z_any : mg "any" = Option.none
  z_bool : mg "bool" = Option.none
  z_int : mg "int" = Option.none
  z_isinstance : mg "isinstance" = Option.none
  z_len : mg "len" = Option.none
  z_list : mg "list" = Option.none
  z_min : mg "min" = Option.none
  z_range : mg "range" = Option.none
  z_set : mg "set" = Option.none
  z_sorted : mg "sorted" = Option.none
  z_str : mg "str" = Option.none
  z_tuple : mg "tuple" = Option.none
  z_zip : mg "zip" = Option.none
  c_FIGURES : ∃ t, mg "FIGURES" = some (.str (PySem.Str.ofString "012345") t)
structure Tc (K : PySem.W.Frag) (mg : Str → Option Value) (xNoText xNoTurn xNoNumber xNotWithin xYardError : Addr) : Prop where
  f : ExF K mg "NoText" xNoText
  e : ExcC K xNoText
  g_NoText : mg "NoText" = some (.ref xNoText)
  g_NoTurn : mg "NoTurn" = some (.ref xNoTurn)
  g_NoNumber : mg "NoNumber" = some (.ref xNoNumber)
  g_NotWithin : mg "NotWithin" = some (.ref xNotWithin)
  g_YardError : mg "YardError" = some (.ref xYardError)
  m_NoText : PySem.W.exmOne K (.ref xNoText) (.ref xNoText) = some true
  k_NoTurn : PySem.W.kitOne K (.ref xNoText) (.ref xNoTurn) = some false
  k_NoNumber : PySem.W.kitOne K (.ref xNoText) (.ref xNoNumber) = some false
  k_NotWithin : PySem.W.kitOne K (.ref xNoText) (.ref xNotWithin) = some false
  k_YardError : PySem.W.kitOne K (.ref xNoText) (.ref xYardError) = some true
  n_ValueError : mg "ValueError" = Option.none
  k_ValueError : PySem.W.kitOne K (.ref xNoText) (.type "ValueError") = some true
section
variable {P : Program} {w : World} {K : PySem.W.Frag} {mg : Str → Option Value} {base : Heap}
abbrev s_is_number : Stmt := topS 7
theorem sc_is_number : FnScope ["thing", "low", "high"] ["thing", "low", "high"] (defScope s_is_number) := ⟨rfl, rfl, rfl, by decide +kernel, rfl, by decide +kernel, by decide +kernel⟩
theorem ok_is_number {f : Addr} {fd : FuncData} (T : Tx mg) (F : Fun K "is_number" "is_number" s_is_number f fd) (hm : mg "is_number" = some (.ref f)) : DefOk P w K mg base 1 "is_number" ["thing", "low", "high"] S_is_number :=
  def_ok F hm (F.binds (ps := ["thing", "low", "high"]) fun _ _ _ _ _ _ us hl => match us, hl with | [_, _, _], _ => rfl) sc_is_number (fun cdv A outer s H E hr => ⟨_,
 (jb_one (js_ret (je_and (je_isi kit_int (by rfl) T.z_isinstance (by rfl) T.z_int (by decide +kernel) (je_var (pv 0))) (je_and (je_not (je_isi kit_bool (by rfl) T.z_isinstance (by rfl) T.z_bool (by decide +kernel) (je_var (pv 0)))) (je_one (je_chain jo_le jo_le (je_var (pv 1)) (je_var (pv 0)) (je_var (pv 2))))))))⟩) (sp_is_number)
abbrev s_is_turn : Stmt := topS 8
theorem sc_is_turn : FnScope ["thing", "size", "part"] ["thing", "size"] (defScope s_is_turn) := ⟨rfl, rfl, rfl, by decide +kernel, rfl, by decide +kernel, by decide +kernel⟩
theorem ok_is_turn {f : Addr} {fd : FuncData} (T : Tx mg) (F : Fun K "is_turn" "is_turn" s_is_turn f fd) (hm : mg "is_turn" = some (.ref f)) (d_is_number : DefOk P w K mg base 1 "is_number" ["thing", "low", "high"] S_is_number) : DefOk P w K mg base 2 "is_turn" ["thing", "size"] S_is_turn :=
  def_ok F hm (F.binds (ps := ["thing", "size"]) fun _ _ _ _ _ _ us hl => match us, hl with | [_, _], _ => rfl) sc_is_turn (fun cdv A outer s H E hr => ⟨_,
 (jb_cons (js_if (JW.jt (jw_or (jt_not (jt_val (je_isi kit_tuple (by rfl) T.z_isinstance (by rfl) T.z_tuple (by decide +kernel) (je_var (pv 0))) (fun h => pt_val h))) (jw_or1 (jt_cmp (jo_ne (hu4 hr)) (je_callB jc_len (by rfl) T.z_len (by decide +kernel) (ja_cons (je_var (pv 0)) ja_nil)) (je_var (pv 1))))))
 (jb_one (js_ret je_bl))
 jb_nil)
 (jb_one (js_ret (je_and (je_callB (jc_all rfl) (by rfl) T.z_all (by decide +kernel) (ja_cons (je_lcV (own := [("part", 2)]) sc_is_turn.nd (ji_var (pv 0)) (blkOk_by (N := ["thing", "size", "part"]) (sc := defScope s_is_turn) (by decide +kernel)) (fun _ _ _ _ _ => (jg_name (pg_name (i := 2) sc_is_turn.nd rfl (by first | exact Or.inl rfl | exact Or.inr rfl)))) (fun _ _ _ _ _ => jts_nil) (fun _ _ _ _ _ => (je_fn d_is_number hr (ja_cons (je_var (pv 2)) (ja_cons je_int (ja_cons (je_op jo_sub (je_var (pv 1)) je_int) ja_nil)))))) ja_nil)) (je_one (je_cmp (jo_eq (hu4 hr)) (je_lenSet rfl hr (by rfl) T.z_len (by rfl) T.z_set (je_var (pv 0))) (je_var (pv 1))))))))⟩) (sp_is_turn)
abbrev s_still : Stmt := topS 9
theorem sc_still : FnScope ["size"] ["size"] (defScope s_still) := ⟨rfl, rfl, rfl, by decide +kernel, rfl, by decide +kernel, by decide +kernel⟩
theorem ok_still {f : Addr} {fd : FuncData} (T : Tx mg) (F : Fun K "still" "still" s_still f fd) (hm : mg "still" = some (.ref f)) : DefOk P w K mg base 1 "still" ["size"] S_still :=
  def_ok F hm (F.binds (ps := ["size"]) fun _ _ _ _ _ _ us hl => match us, hl with | [_], _ => rfl) sc_still (fun cdv A outer s H E hr => ⟨_,
 (jb_one (js_ret (je_tupRg rfl (by rfl) T.z_tuple (jr_1 (by rfl) T.z_range (je_var (pv 0))))))⟩) (sp_still)
abbrev s_ring_from : Stmt := topS 10
theorem sc_ring_from : FnScope ["turn", "point", "found"] ["turn", "point"] (defScope s_ring_from) := ⟨rfl, rfl, rfl, by decide +kernel, rfl, by decide +kernel, by decide +kernel⟩
theorem ok_ring_from {f : Addr} {fd : FuncData} (T : Tx mg) (F : Fun K "ring_from" "ring_from" s_ring_from f fd) (hm : mg "ring_from" = some (.ref f)) : DefOk P w K mg base 1 "ring_from" ["turn", "point"] S_ring_from :=
  def_ok F hm (F.binds (ps := ["turn", "point"]) fun _ _ _ _ _ _ us hl => match us, hl with | [_, _], _ => rfl) sc_ring_from (fun cdv A outer s H E hr => ⟨_,
 (jb_cons (js_set sc_ring_from.nd (je_lst (ja_cons (je_var (pv 1)) ja_nil)))
 (jb_cons (js_while PassesOwn.never (jt_cmp (jo_ne (hu4 hr)) (je_ix (je_var (pv 0)) (je_ix (je_var (pv 2)) (je_neg je_int))) (je_var (pv 1)))
 (jb_one (js_append (pv 2) (je_ix (je_var (pv 0)) (je_ix (je_var (pv 2)) (je_neg je_int))))))
 (jb_one (js_ret (je_tupleOf (by rfl) T.z_tuple (je_var (pv 2)))))))⟩) (sp_ring_from)
abbrev s_rings : Stmt := topS 11
theorem sc_rings : FnScope ["turn", "found", "point", "ring"] ["turn"] (defScope s_rings) := ⟨rfl, rfl, rfl, by decide +kernel, rfl, by decide +kernel, by decide +kernel⟩
theorem ok_rings {f : Addr} {fd : FuncData} (T : Tx mg) (F : Fun K "rings" "rings" s_rings f fd) (hm : mg "rings" = some (.ref f)) (d_ring_from : DefOk P w K mg base 1 "ring_from" ["turn", "point"] S_ring_from) : DefOk P w K mg base 2 "rings" ["turn"] S_rings :=
  def_ok F hm (F.binds (ps := ["turn"]) fun _ _ _ _ _ _ us hl => match us, hl with | [_], _ => rfl) sc_rings (fun cdv A outer s H E hr => ⟨_,
 (jb_cons (js_set sc_rings.nd (je_lst ja_nil))
 (jb_cons (js_for PassesOwn.never rfl (ji_R1 (by rfl) T.z_range (ja_cons (je_callB jc_len (by rfl) T.z_len (by decide +kernel) (ja_cons (je_var (pv 0)) ja_nil)) ja_nil)) (jg_name (pg_name (i := 2) sc_rings.nd rfl (by first | exact Or.inl rfl | exact Or.inr rfl)))
 (jb_cons (js_set sc_rings.nd (je_fn d_ring_from hr (ja_cons (je_var (pv 0)) (ja_cons (je_var (pv 2)) ja_nil))))
 (jb_one (js_if (JW.jt (jw_and (jt_cmp jo_gt (je_callB jc_len (by rfl) T.z_len (by decide +kernel) (ja_cons (je_var (pv 3)) ja_nil)) je_int) (jw_and1 (jt_cmp (jo_eq (hu4 hr)) (je_callB (jc_min rfl hr) (by rfl) T.z_min (by decide +kernel) (ja_cons (je_var (pv 3)) ja_nil)) (je_var (pv 2))))))
 (jb_one (js_append (pv 1) (je_var (pv 3))))
 jb_nil))))
 (jb_one (js_ret (je_tupleOf (by rfl) T.z_tuple (je_var (pv 1)))))))⟩) (sp_rings)
abbrev s_text_of : Stmt := topS 13
theorem sc_text_of : FnScope ["turn", "ring", "point"] ["turn"] (defScope s_text_of) := ⟨rfl, rfl, rfl, by decide +kernel, rfl, by decide +kernel, by decide +kernel⟩
theorem ok_text_of {f : Addr} {fd : FuncData} (T : Tx mg) (F : Fun K "text_of" "text_of" s_text_of f fd) (hm : mg "text_of" = some (.ref f)) (d_rings : DefOk P w K mg base 2 "rings" ["turn"] S_rings) : DefOk P w K mg base 3 "text_of" ["turn"] S_text_of :=
  def_ok F hm (F.binds (ps := ["turn"]) fun _ _ _ _ _ _ us hl => match us, hl with | [_], _ => rfl) sc_text_of (fun cdv A outer s H E hr => ⟨_,
 (jb_cons (js_if (jt_cmp (jo_eq (hu4 hr)) (je_callB jc_len (by rfl) T.z_len (by decide +kernel) (ja_cons (je_fn d_rings hr (ja_cons (je_var (pv 0)) ja_nil)) ja_nil)) je_int)
 (jb_one (js_ret je_str))
 jb_nil)
 (jb_one (js_ret (je_join je_str (je_lcV (own := [("ring", 1)]) sc_text_of.nd (ji_exp (je_fn d_rings hr (ja_cons (je_var (pv 0)) ja_nil))) (blkOk_by (N := ["turn", "ring", "point"]) (sc := defScope s_text_of) (by decide +kernel)) (fun _ _ _ _ _ => (jg_name (pg_name (i := 1) sc_text_of.nd rfl (by first | exact Or.inl rfl | exact Or.inr rfl)))) (fun _ _ _ _ _ => jts_nil) (fun _ _ _ _ _ => (je_join je_str (je_lcV (own := [("point", 2)]) sc_text_of.nd (ji_var (pv 1)) (blkOk_by (N := ["turn", "ring", "point"]) (sc := (⟨.function, [(".0", .local), ("ring", .local)], false, false, []⟩ : Scope)) (by decide +kernel)) (fun _ _ _ _ _ => (jg_name (pg_name (i := 2) sc_text_of.nd rfl (by first | exact Or.inl rfl | exact Or.inr rfl)))) (fun _ _ _ _ _ => jts_nil) (fun _ _ _ _ _ => (je_callTy jc_str (by rfl) T.z_str (by decide +kernel) (ja_cons (je_var (pv 2)) ja_nil)))))))))))⟩) (sp_text_of)
abbrev s_points_of : Stmt := topS 16
theorem sc_points_of : FnScope ["piece", "size", "found", "word"] ["piece", "size"] (defScope s_points_of) := ⟨rfl, rfl, rfl, by decide +kernel, rfl, by decide +kernel, by decide +kernel⟩
theorem ok_points_of {f : Addr} {fd : FuncData} (T : Tx mg) {xNoText xNoTurn xNoNumber xNotWithin xYardError : Addr} (C : Tc K mg xNoText xNoTurn xNoNumber xNotWithin xYardError) (F : Fun K "points_of" "points_of" s_points_of f fd) (hm : mg "points_of" = some (.ref f)) : DefOkX P w K mg base 1 "points_of" ["piece", "size"] (SX_points_of xNoText) :=
  def_okX F hm (F.binds (ps := ["piece", "size"]) fun _ _ _ _ _ _ us hl => match us, hl with | [_, _], _ => rfl) sc_points_of (fun cdv A outer s H E hr => ⟨_,
 (jb_cons (js_set sc_points_of.nd (je_lst ja_nil))
 (jb_cons (js_for (L2.passes_of rfl) rfl (ji_exp (je_split (je_var (pv 0)) je_str)) (jg_name (pg_name (i := 3) sc_points_of.nd rfl (by first | exact Or.inl rfl | exact Or.inr rfl)))
 (jb_cons (js_if (JW.jt (jw_or (jt_cmp (jo_ne (hu4 hr)) (je_callB jc_len (by rfl) T.z_len (by decide +kernel) (ja_cons (je_var (pv 3)) ja_nil)) je_int) (jw_or (jt_cmp jo_notInS (je_var (pv 3)) (je_cstS T.c_FIGURES)) (jw_or1 (jt_cmp jo_ge (je_callTy jc_intS (by rfl) T.z_int (by decide +kernel) (ja_cons (je_var (pv 3)) ja_nil)) (je_var (pv 1)))))))
 (jb_one (js_raise C.f (L2N.takes_of rfl rfl rfl rfl)))
 jb_nil)
 (jb_one (js_append (pv 2) (je_callTy jc_intS (by rfl) T.z_int (by decide +kernel) (ja_cons (je_var (pv 3)) ja_nil))))))
 (jb_one (js_retV (pv 2)))))⟩) (spX_points_of xNoText)
abbrev s_read : Stmt := topS 17
theorem sc_read : FnScope ["text", "size", "found", "piece", "ring", "point", "goal"] ["text", "size"] (defScope s_read) := ⟨rfl, rfl, rfl, by decide +kernel, rfl, by decide +kernel, by decide +kernel⟩
theorem ok_read {f : Addr} {fd : FuncData} (T : Tx mg) {xNoText xNoTurn xNoNumber xNotWithin xYardError : Addr} (C : Tc K mg xNoText xNoTurn xNoNumber xNotWithin xYardError) (F : Fun K "read" "read" s_read f fd) (hm : mg "read" = some (.ref f)) (d_is_turn : DefOk P w K mg base 2 "is_turn" ["thing", "size"] S_is_turn) (d_still : DefOk P w K mg base 1 "still" ["size"] S_still) (d_text_of : DefOk P w K mg base 3 "text_of" ["turn"] S_text_of) (dX_points_of : DefOkX P w K mg base 1 "points_of" ["piece", "size"] (SX_points_of xNoText)) : DefOkX P w K mg base 4 "read" ["text", "size"] (SX_read xNoText) :=
  def_okX F hm (F.binds (ps := ["text", "size"]) fun _ _ _ _ _ _ us hl => match us, hl with | [_, _], _ => rfl) sc_read (fun cdv A outer s H E hr => ⟨_,
 (jb_cons (js_if (jt_not (jt_val (je_isi kit_str (by rfl) T.z_isinstance (by rfl) T.z_str (by decide +kernel) (je_var (pv 0))) (fun h => pt_val h)))
 (jb_one (js_raise C.f (L2N.takes_of rfl rfl rfl rfl)))
 jb_nil)
 (jb_cons (js_set sc_read.nd (je_callTy jc_list (by rfl) T.z_list (by decide +kernel) (ja_cons (je_fn d_still hr (ja_cons (je_var (pv 1)) ja_nil)) ja_nil)))
 (jb_cons (js_if (jt_cmp (jo_ne (hu4 hr)) (je_var (pv 0)) je_str)
 (jb_one (js_for (L2.passes_of rfl) rfl (ji_exp (je_split (je_var (pv 0)) je_str)) (jg_name (pg_name (i := 3) sc_read.nd rfl (by first | exact Or.inl rfl | exact Or.inr rfl)))
 (jb_cons (js_setX (i := 4) sc_read.nd dX_points_of hr (L2N.takes_of rfl rfl rfl rfl) (ja_cons (je_var (pv 3)) (ja_cons (je_var (pv 1)) ja_nil)))
 (jb_one (js_for (L2.passes_of rfl) rfl (ji_zip (by rfl) T.z_zip (pv 4) (je_op jo_add (je_slice (je_var (pv 4)) (jp_some je_int) jp_none) (je_slice (je_var (pv 4)) jp_none (jp_some je_int)))) (jg_pair rfl (pg_tup rfl (pgs_cons (pg_name (i := 5) sc_read.nd rfl (by first | exact Or.inl rfl | exact Or.inr rfl)) (pgs_cons (pg_name (i := 6) sc_read.nd rfl (by first | exact Or.inl rfl | exact Or.inr rfl)) pgs_nil))))
 (jb_one (js_setIt (pv 2) (je_var (pv 6)) (je_var (pv 5)))))))))
 jb_nil)
 (jb_cons (js_if (JW.jt (jw_or (jt_not (jt_val (je_fn d_is_turn hr (ja_cons (je_tupleOf (by rfl) T.z_tuple (je_var (pv 2))) (ja_cons (je_var (pv 1)) ja_nil))) (fun h => pt_val h))) (jw_or1 (jt_cmp (jo_ne (hu4 hr)) (je_fn d_text_of hr (ja_cons (je_tupleOf (by rfl) T.z_tuple (je_var (pv 2))) ja_nil)) (je_var (pv 0))))))
 (jb_one (js_raise C.f (L2N.takes_of rfl rfl rfl rfl)))
 jb_nil)
 (jb_one (js_ret (je_tupleOf (by rfl) T.z_tuple (je_var (pv 2)))))))))⟩) (spX_read xNoText)
abbrev s_Lcell_at : Stmt := topS 19
theorem sc_Lcell_at : FnScope ["_law_script", "_law_k"] ["_law_script", "_law_k"] (defScope s_Lcell_at) := ⟨rfl, rfl, rfl, by decide +kernel, rfl, by decide +kernel, by decide +kernel⟩
theorem ok_Lcell_at {f : Addr} {fd : FuncData} (T : Tx mg) (F : Fun K "_law_cell_at" "_law_cell_at" s_Lcell_at f fd) (hm : mg "_law_cell_at" = some (.ref f)) : DefOk P w K mg base 1 "_law_cell_at" ["_law_script", "_law_k"] S_Lcell_at :=
  def_ok F hm (F.binds (ps := ["_law_script", "_law_k"]) fun _ _ _ _ _ _ us hl => match us, hl with | [_, _], _ => rfl) sc_Lcell_at (fun cdv A outer s H E hr => ⟨_,
 (jb_cons (js_if (jt_cmp (jo_lt (hu4 hr)) (je_var (pv 1)) (je_callB jc_len (by rfl) T.z_len (by decide +kernel) (ja_cons (je_var (pv 0)) ja_nil)))
 (jb_one (js_ret (je_ix (je_var (pv 0)) (je_var (pv 1)))))
 jb_nil)
 (jb_one (js_ret je_int)))⟩) (sp_Lcell_at)
abbrev s_Lmixed : Stmt := topS 20
theorem sc_Lmixed : FnScope ["_law_script", "_law_k", "_law_drawn_here"] ["_law_script", "_law_k"] (defScope s_Lmixed) := ⟨rfl, rfl, rfl, by decide +kernel, rfl, by decide +kernel, by decide +kernel⟩
theorem ok_Lmixed {f : Addr} {fd : FuncData} (T : Tx mg) (F : Fun K "_law_mixed" "_law_mixed" s_Lmixed f fd) (hm : mg "_law_mixed" = some (.ref f)) (d_Lcell_at : DefOk P w K mg base 1 "_law_cell_at" ["_law_script", "_law_k"] S_Lcell_at) : DefOk P w K mg base 2 "_law_mixed" ["_law_script", "_law_k"] S_Lmixed :=
  def_ok F hm (F.binds (ps := ["_law_script", "_law_k"]) fun _ _ _ _ _ _ us hl => match us, hl with | [_, _], _ => rfl) sc_Lmixed (fun cdv A outer s H E hr => ⟨_,
 (jb_cons (js_set sc_Lmixed.nd (je_op jo_mod (je_op jo_mul (je_op jo_add (je_op jo_add (je_fn d_Lcell_at hr (ja_cons (je_var (pv 0)) (ja_cons (je_var (pv 1)) ja_nil))) (je_op jo_mul je_int (je_var (pv 1)))) je_int) je_int) je_int))
 (jb_one (js_ret (je_op jo_mod (je_op jo_add (je_op jo_add (je_op jo_mul (je_var (pv 2)) (je_var (pv 2))) (je_op jo_mul je_int (je_var (pv 2)))) (je_var (pv 1))) je_int))))⟩) (sp_Lmixed)
abbrev s_Ldrawn : Stmt := topS 21
theorem sc_Ldrawn : FnScope ["_law_number_here", "_law_k", "_law_drawn_here"] ["_law_number_here", "_law_k"] (defScope s_Ldrawn) := ⟨rfl, rfl, rfl, by decide +kernel, rfl, by decide +kernel, by decide +kernel⟩
theorem ok_Ldrawn {f : Addr} {fd : FuncData} (T : Tx mg) (F : Fun K "_law_drawn" "_law_drawn" s_Ldrawn f fd) (hm : mg "_law_drawn" = some (.ref f)) : DefOk P w K mg base 1 "_law_drawn" ["_law_number_here", "_law_k"] S_Ldrawn :=
  def_ok F hm (F.binds (ps := ["_law_number_here", "_law_k"]) fun _ _ _ _ _ _ us hl => match us, hl with | [_, _], _ => rfl) sc_Ldrawn (fun cdv A outer s H E hr => ⟨_,
 (jb_cons (js_set sc_Ldrawn.nd (je_op jo_mod (je_op jo_mul (je_op jo_add (je_op jo_add (je_var (pv 0)) (je_op jo_mul je_int (je_var (pv 1)))) je_int) je_int) je_int))
 (jb_one (js_ret (je_op jo_mod (je_op jo_add (je_op jo_add (je_op jo_mul (je_var (pv 2)) (je_var (pv 2))) (je_op jo_mul je_int (je_var (pv 2)))) (je_var (pv 1))) je_int))))⟩) (sp_Ldrawn)
abbrev s_Lturn : Stmt := topS 22
theorem sc_Lturn : FnScope ["_law_number_here", "_law_size", "_law_found_here", "_law_one", "_law_other", "_law_many", "_law_shift", "_law_k", "_law_made", "_law_at"] ["_law_number_here", "_law_size"] (defScope s_Lturn) := ⟨rfl, rfl, rfl, by decide +kernel, rfl, by decide +kernel, by decide +kernel⟩
theorem ok_Lturn {f : Addr} {fd : FuncData} (T : Tx mg) (F : Fun K "_law_turn" "_law_turn" s_Lturn f fd) (hm : mg "_law_turn" = some (.ref f)) (d_Ldrawn : DefOk P w K mg base 1 "_law_drawn" ["_law_number_here", "_law_k"] S_Ldrawn) : DefOk P w K mg base 2 "_law_turn" ["_law_number_here", "_law_size"] S_Lturn :=
  def_ok F hm (F.binds (ps := ["_law_number_here", "_law_size"]) fun _ _ _ _ _ _ us hl => match us, hl with | [_, _], _ => rfl) sc_Lturn (fun cdv A outer s H E hr => ⟨_,
 (jb_cons (js_set sc_Lturn.nd (je_lstRg rfl (by rfl) T.z_list (jr_1 (by rfl) T.z_range (je_var (pv 1)))))
 (jb_cons (js_if (jt_cmp (jo_eq (hu4 hr)) (je_op jo_mod (je_var (pv 0)) je_int) je_int)
 (jb_cons (js_set sc_Lturn.nd (je_op jo_mod (je_op jo_div (je_var (pv 0)) je_int) (je_var (pv 1))))
 (jb_cons (js_set sc_Lturn.nd (je_op jo_mod (je_op jo_div (je_var (pv 0)) je_int) (je_var (pv 1))))
 (jb_cons (js_setIt (pv 2) (je_var (pv 4)) (je_var (pv 3)))
 (jb_cons (js_setIt (pv 2) (je_var (pv 3)) (je_var (pv 4)))
 (jb_one (js_ret (je_tupleOf (by rfl) T.z_tuple (je_var (pv 2)))))))))
 jb_nil)
 (jb_cons (js_if (jt_cmp (jo_eq (hu4 hr)) (je_op jo_mod (je_var (pv 0)) je_int) je_int)
 (jb_cons (js_set sc_Lturn.nd (je_op jo_add je_int (je_op jo_mod (je_op jo_div (je_var (pv 0)) je_int) (je_var (pv 1)))))
 (jb_cons (js_set sc_Lturn.nd (je_op jo_mod (je_op jo_div (je_var (pv 0)) je_int) (je_var (pv 1))))
 (jb_cons (js_for PassesOwn.never rfl (ji_R1 (by rfl) T.z_range (ja_cons (je_var (pv 5)) ja_nil)) (jg_name (pg_name (i := 7) sc_Lturn.nd rfl (by first | exact Or.inl rfl | exact Or.inr rfl)))
 (jb_one (js_setIt (pv 2) (je_op jo_mod (je_op jo_add (je_var (pv 6)) (je_op jo_mod (je_op jo_add (je_var (pv 7)) je_int) (je_var (pv 5)))) (je_var (pv 1))) (je_op jo_mod (je_op jo_add (je_var (pv 6)) (je_var (pv 7))) (je_var (pv 1))))))
 (jb_one (js_ret (je_tupleOf (by rfl) T.z_tuple (je_var (pv 2))))))))
 jb_nil)
 (jb_cons (js_set sc_Lturn.nd (je_lst ja_nil))
 (jb_cons (js_for PassesOwn.never rfl (ji_R1 (by rfl) T.z_range (ja_cons (je_var (pv 1)) ja_nil)) (jg_name (pg_name (i := 7) sc_Lturn.nd rfl (by first | exact Or.inl rfl | exact Or.inr rfl)))
 (jb_cons (js_set sc_Lturn.nd (je_op jo_mod (je_fn d_Ldrawn hr (ja_cons (je_var (pv 0)) (ja_cons (je_var (pv 7)) ja_nil))) (je_op jo_add (je_callB jc_len (by rfl) T.z_len (by decide +kernel) (ja_cons (je_var (pv 8)) ja_nil)) je_int)))
 (jb_one (js_set sc_Lturn.nd (je_op jo_add (je_op jo_add (je_slice (je_var (pv 8)) jp_none (jp_some (je_var (pv 9)))) (je_lst (ja_cons (je_var (pv 7)) ja_nil))) (je_slice (je_var (pv 8)) (jp_some (je_var (pv 9))) jp_none))))))
 (jb_one (js_ret (je_tupleOf (by rfl) T.z_tuple (je_var (pv 8))))))))))⟩) (sp_Lturn)
abbrev s_Lnumber : Stmt := topS 26
theorem sc_Lnumber : FnScope ["_law_thing", "_law_low", "_law_high"] ["_law_thing", "_law_low", "_law_high"] (defScope s_Lnumber) := ⟨rfl, rfl, rfl, by decide +kernel, rfl, by decide +kernel, by decide +kernel⟩
theorem ok_Lnumber {f : Addr} {fd : FuncData} (T : Tx mg) (F : Fun K "_law_number" "_law_number" s_Lnumber f fd) (hm : mg "_law_number" = some (.ref f)) : DefOk P w K mg base 1 "_law_number" ["_law_thing", "_law_low", "_law_high"] S_Lnumber :=
  def_ok F hm (F.binds (ps := ["_law_thing", "_law_low", "_law_high"]) fun _ _ _ _ _ _ us hl => match us, hl with | [_, _, _], _ => rfl) sc_Lnumber (fun cdv A outer s H E hr => ⟨_,
 (jb_one (js_ret (je_and (je_isi kit_int (by rfl) T.z_isinstance (by rfl) T.z_int (by decide +kernel) (je_var (pv 0))) (je_and (je_not (je_isi kit_bool (by rfl) T.z_isinstance (by rfl) T.z_bool (by decide +kernel) (je_var (pv 0)))) (je_one (je_chain jo_le jo_le (je_var (pv 1)) (je_var (pv 0)) (je_var (pv 2))))))))⟩) (sp_Lnumber)
abbrev s_Lis_turn : Stmt := topS 27
theorem sc_Lis_turn : FnScope ["_law_thing", "_law_size", "_law_part"] ["_law_thing", "_law_size"] (defScope s_Lis_turn) := ⟨rfl, rfl, rfl, by decide +kernel, rfl, by decide +kernel, by decide +kernel⟩
theorem ok_Lis_turn {f : Addr} {fd : FuncData} (T : Tx mg) (F : Fun K "_law_is_turn" "_law_is_turn" s_Lis_turn f fd) (hm : mg "_law_is_turn" = some (.ref f)) (d_Lnumber : DefOk P w K mg base 1 "_law_number" ["_law_thing", "_law_low", "_law_high"] S_Lnumber) : DefOk P w K mg base 2 "_law_is_turn" ["_law_thing", "_law_size"] S_Lis_turn :=
  def_ok F hm (F.binds (ps := ["_law_thing", "_law_size"]) fun _ _ _ _ _ _ us hl => match us, hl with | [_, _], _ => rfl) sc_Lis_turn (fun cdv A outer s H E hr => ⟨_,
 (jb_cons (js_if (JW.jt (jw_or (jt_not (jt_val (je_isi kit_tuple (by rfl) T.z_isinstance (by rfl) T.z_tuple (by decide +kernel) (je_var (pv 0))) (fun h => pt_val h))) (jw_or1 (jt_cmp (jo_ne (hu4 hr)) (je_callB jc_len (by rfl) T.z_len (by decide +kernel) (ja_cons (je_var (pv 0)) ja_nil)) (je_var (pv 1))))))
 (jb_one (js_ret je_bl))
 jb_nil)
 (jb_one (js_ret (je_and (je_cmp (jo_eq (hu4 hr)) (je_lcF (own := [("_law_part", 2)]) sc_Lis_turn.nd (ji_var (pv 0)) (blkOk_by (N := ["_law_thing", "_law_size", "_law_part"]) (sc := defScope s_Lis_turn) (by decide +kernel)) (fun _ _ _ _ _ => (pg_name (i := 2) sc_Lis_turn.nd rfl (by first | exact Or.inl rfl | exact Or.inr rfl))) (fun _ _ _ _ _ => (jts_one (jt_not (jt_val (je_fn d_Lnumber hr (ja_cons (je_var (pv 2)) (ja_cons je_int (ja_cons (je_op jo_sub (je_var (pv 1)) je_int) ja_nil)))) (fun h => pt_val h))))) (fun _ _ _ _ _ => pv 2)) (je_lst ja_nil)) (je_one (je_cmp (jo_eq (hu4 hr)) (je_callB (jc_sortedT hr) (by rfl) T.z_sorted (by decide +kernel) (ja_cons (je_var (pv 0)) ja_nil)) (je_lstRg rfl (by rfl) T.z_list (jr_1 (by rfl) T.z_range (je_var (pv 1))))))))))⟩) (sp_Lis_turn)
abbrev s_Lrings : Stmt := topS 28
theorem sc_Lrings : FnScope ["_law_turn_here", "_law_met", "_law_found_here", "_law_point", "_law_ring", "_law_at"] ["_law_turn_here"] (defScope s_Lrings) := ⟨rfl, rfl, rfl, by decide +kernel, rfl, by decide +kernel, by decide +kernel⟩
theorem ok_Lrings {f : Addr} {fd : FuncData} (T : Tx mg) (F : Fun K "_law_rings" "_law_rings" s_Lrings f fd) (hm : mg "_law_rings" = some (.ref f)) : DefOk P w K mg base 1 "_law_rings" ["_law_turn_here"] S_Lrings :=
  def_ok F hm (F.binds (ps := ["_law_turn_here"]) fun _ _ _ _ _ _ us hl => match us, hl with | [_], _ => rfl) sc_Lrings (fun cdv A outer s H E hr => ⟨_,
 (jb_cons (js_set sc_Lrings.nd (je_lst ja_nil))
 (jb_cons (js_set sc_Lrings.nd (je_lst ja_nil))
 (jb_cons (js_for PassesOwn.never rfl (ji_R1 (by rfl) T.z_range (ja_cons (je_callB jc_len (by rfl) T.z_len (by decide +kernel) (ja_cons (je_var (pv 0)) ja_nil)) ja_nil)) (jg_name (pg_name (i := 3) sc_Lrings.nd rfl (by first | exact Or.inl rfl | exact Or.inr rfl)))
 (jb_cons (js_set sc_Lrings.nd (je_lst ja_nil))
 (jb_cons (js_setMv sc_Lrings.nd (pv 3))
 (jb_cons (js_while PassesOwn.never (jt_cmp (jo_notIn (hu5 hr)) (je_var (pv 5)) (je_var (pv 1)))
 (jb_cons (js_append (pv 1) (je_var (pv 5)))
 (jb_cons (js_append (pv 4) (je_var (pv 5)))
 (jb_one (js_set sc_Lrings.nd (je_ix (je_var (pv 0)) (je_var (pv 5))))))))
 (jb_one (js_if (jt_cmp jo_gt (je_callB jc_len (by rfl) T.z_len (by decide +kernel) (ja_cons (je_var (pv 4)) ja_nil)) je_int)
 (jb_one (js_append (pv 2) (je_tupleOf (by rfl) T.z_tuple (je_var (pv 4)))))
 jb_nil))))))
 (jb_one (js_ret (je_tupleOf (by rfl) T.z_tuple (je_var (pv 2))))))))⟩) (sp_Lrings)
abbrev s_Lwritten : Stmt := topS 29
theorem sc_Lwritten : FnScope ["_law_turn_here", "_law_found_here", "_law_ring", "_law_point"] ["_law_turn_here"] (defScope s_Lwritten) := ⟨rfl, rfl, rfl, by decide +kernel, rfl, by decide +kernel, by decide +kernel⟩
theorem ok_Lwritten {f : Addr} {fd : FuncData} (T : Tx mg) (F : Fun K "_law_written" "_law_written" s_Lwritten f fd) (hm : mg "_law_written" = some (.ref f)) (d_Lrings : DefOk P w K mg base 1 "_law_rings" ["_law_turn_here"] S_Lrings) : DefOk P w K mg base 2 "_law_written" ["_law_turn_here"] S_Lwritten :=
  def_ok F hm (F.binds (ps := ["_law_turn_here"]) fun _ _ _ _ _ _ us hl => match us, hl with | [_], _ => rfl) sc_Lwritten (fun cdv A outer s H E hr => ⟨_,
 (jb_cons (js_set sc_Lwritten.nd je_str)
 (jb_cons (js_for PassesOwn.never rfl (ji_exp (je_fn d_Lrings hr (ja_cons (je_var (pv 0)) ja_nil))) (jg_name (pg_name (i := 2) sc_Lwritten.nd rfl (by first | exact Or.inl rfl | exact Or.inr rfl)))
 (jb_cons (js_if (jt_cmp (jo_ne (hu4 hr)) (je_var (pv 1)) je_str)
 (jb_one (js_set sc_Lwritten.nd (je_op jo_add (je_var (pv 1)) je_str)))
 jb_nil)
 (jb_one (js_set sc_Lwritten.nd (je_op jo_add (je_var (pv 1)) (je_join je_str (je_lcV (own := [("_law_point", 3)]) sc_Lwritten.nd (ji_var (pv 2)) (blkOk_by (N := ["_law_turn_here", "_law_found_here", "_law_ring", "_law_point"]) (sc := defScope s_Lwritten) (by decide +kernel)) (fun _ _ _ _ _ => (jg_name (pg_name (i := 3) sc_Lwritten.nd rfl (by first | exact Or.inl rfl | exact Or.inr rfl)))) (fun _ _ _ _ _ => jts_nil) (fun _ _ _ _ _ => (je_callTy jc_str (by rfl) T.z_str (by decide +kernel) (ja_cons (je_var (pv 3)) ja_nil))))))))))
 (jb_cons (js_if (jt_cmp (jo_eq (hu4 hr)) (je_var (pv 1)) je_str)
 (jb_one (js_ret je_str))
 jb_nil)
 (jb_one (js_retV (pv 1))))))⟩) (sp_Lwritten)
abbrev s_Lchanged : Stmt := topS 30
theorem sc_Lchanged : FnScope ["_law_text", "_law_number_here", "_law_words", "_law_at", "_law_place", "_law_kind", "_law_sign", "_law_swapped", "_law_some"] ["_law_text", "_law_number_here"] (defScope s_Lchanged) := ⟨rfl, rfl, rfl, by decide +kernel, rfl, by decide +kernel, by decide +kernel⟩
theorem ok_Lchanged {f : Addr} {fd : FuncData} (T : Tx mg) (F : Fun K "_law_changed" "_law_changed" s_Lchanged f fd) (hm : mg "_law_changed" = some (.ref f)) : DefOk P w K mg base 1 "_law_changed" ["_law_text", "_law_number_here"] S_Lchanged :=
  def_ok F hm (F.binds (ps := ["_law_text", "_law_number_here"]) fun _ _ _ _ _ _ us hl => match us, hl with | [_, _], _ => rfl) sc_Lchanged (fun cdv A outer s H E hr => ⟨_,
 (jb_cons (js_set sc_Lchanged.nd (je_split (je_var (pv 0)) je_str))
 (jb_cons (js_set sc_Lchanged.nd (je_op jo_mod (je_op jo_div (je_var (pv 1)) je_int) (je_callB jc_len (by rfl) T.z_len (by decide +kernel) (ja_cons (je_var (pv 2)) ja_nil))))
 (jb_cons (js_set sc_Lchanged.nd (je_op jo_mod (je_op jo_div (je_var (pv 1)) je_int) (je_op jo_add (je_callB jc_len (by rfl) T.z_len (by decide +kernel) (ja_cons (je_var (pv 0)) ja_nil)) je_int)))
 (jb_cons (js_set sc_Lchanged.nd (je_op jo_mod (je_var (pv 1)) je_int))
 (jb_cons (js_if (jt_cmp (jo_eq (hu4 hr)) (je_var (pv 5)) je_int)
 (jb_one (js_ret (je_op jo_add (je_sliceS (je_var (pv 0)) jp_none (jp_some (je_var (pv 4)))) (je_sliceS (je_var (pv 0)) (jp_some (je_op jo_add (je_var (pv 4)) je_int)) jp_none))))
 jb_nil)
 (jb_cons (js_if (jt_cmp (jo_lt (hu4 hr)) (je_var (pv 5)) je_int)
 (jb_cons (js_set sc_Lchanged.nd (je_ix je_str (je_op jo_mod (je_op jo_div (je_var (pv 1)) je_int) je_int)))
 (jb_one (js_ret (je_op jo_add (je_op jo_add (je_sliceS (je_var (pv 0)) jp_none (jp_some (je_var (pv 4)))) (je_var (pv 6))) (je_sliceS (je_var (pv 0)) (jp_some (je_op jo_sub (je_op jo_add (je_var (pv 4)) (je_var (pv 5))) je_int)) jp_none)))))
 jb_nil)
 (jb_cons (js_if (jt_cmp (jo_eq (hu4 hr)) (je_var (pv 5)) je_int)
 (jb_one (js_ret (je_join je_str (je_op jo_add (je_slice (je_var (pv 2)) jp_none (jp_some (je_var (pv 3)))) (je_slice (je_var (pv 2)) (jp_some (je_op jo_add (je_var (pv 3)) je_int)) jp_none)))))
 jb_nil)
 (jb_cons (js_if (jt_cmp (jo_eq (hu4 hr)) (je_var (pv 5)) je_int)
 (jb_one (js_ret (je_join je_str (je_op jo_add (je_op jo_add (je_slice (je_var (pv 2)) jp_none (jp_some (je_var (pv 3)))) (je_slice (je_var (pv 2)) (jp_some (je_var (pv 3))) (jp_some (je_op jo_add (je_var (pv 3)) je_int)))) (je_slice (je_var (pv 2)) (jp_some (je_var (pv 3))) jp_none)))))
 jb_nil)
 (jb_cons (js_if (jt_cmp (jo_eq (hu4 hr)) (je_var (pv 5)) je_int)
 (jb_cons (js_set sc_Lchanged.nd (je_op jo_add (je_slice (je_var (pv 2)) (jp_some (je_op jo_add (je_var (pv 3)) je_int)) (jp_some (je_op jo_add (je_var (pv 3)) je_int))) (je_slice (je_var (pv 2)) (jp_some (je_var (pv 3))) (jp_some (je_op jo_add (je_var (pv 3)) je_int)))))
 (jb_one (js_ret (je_join je_str (je_op jo_add (je_op jo_cat (je_slice (je_var (pv 2)) jp_none (jp_some (je_var (pv 3)))) (je_var (pv 7))) (je_slice (je_var (pv 2)) (jp_some (je_op jo_add (je_var (pv 3)) je_int)) jp_none))))))
 jb_nil)
 (jb_cons (js_if (jt_cmp (jo_eq (hu4 hr)) (je_var (pv 5)) je_int)
 (jb_cons (js_set sc_Lchanged.nd (je_split je_str je_str))
 (jb_one (js_ret (je_join je_str (je_op jo_add (je_op jo_add (je_slice (je_var (pv 2)) jp_none (jp_some (je_var (pv 3)))) (je_lst (ja_cons (je_ix (je_var (pv 8)) (je_op jo_mod (je_op jo_div (je_var (pv 1)) je_int) je_int)) ja_nil))) (je_slice (je_var (pv 2)) (jp_some (je_op jo_add (je_var (pv 3)) je_int)) jp_none))))))
 jb_nil)
 (jb_cons (js_if (jt_cmp (jo_eq (hu4 hr)) (je_var (pv 5)) je_int)
 (jb_one (js_ret (je_join je_str (je_revL (je_split (je_var (pv 0)) je_str)))))
 jb_nil)
 (jb_one (js_ret (je_op jo_add (je_op jo_add (je_var (pv 0)) je_str) (je_callTy jc_str (by rfl) T.z_str (by decide +kernel) (ja_cons (je_op jo_mod (je_op jo_div (je_var (pv 1)) je_int) je_int) ja_nil))))))))))))))))⟩) (sp_Lchanged)
abbrev s_Lfound : Stmt := topS 31
theorem sc_Lfound : FnScope ["_law_text", "_law_size", "_law_found_here", "e", "_law_some", "_law_good"] ["_law_text", "_law_size"] (defScope s_Lfound) := ⟨rfl, rfl, rfl, by decide +kernel, rfl, by decide +kernel, by decide +kernel⟩
theorem ok_Lfound {f : Addr} {fd : FuncData} (T : Tx mg) {xNoText xNoTurn xNoNumber xNotWithin xYardError : Addr} (C : Tc K mg xNoText xNoTurn xNoNumber xNotWithin xYardError) (F : Fun K "_law_found" "_law_found" s_Lfound f fd) (hm : mg "_law_found" = some (.ref f)) (dX_read : DefOkX P w K mg base 4 "read" ["text", "size"] (SX_read xNoText)) : DefOk P w K mg base 5 "_law_found" ["_law_text", "_law_size"] S_Lfound :=
  def_ok F hm (F.binds (ps := ["_law_text", "_law_size"]) fun _ _ _ _ _ _ us hl => match us, hl with | [_, _], _ => rfl) sc_Lfound (fun cdv A outer s H E hr => ⟨_,
 (jb_cons (js_try6 (i := 3) (j := 4) (g := 5) (len := 6) rfl rfl sc_Lfound.nd rfl rfl ⟨rfl, by decide, .inl C.g_NoText⟩
 (rx_set (i := 2) sc_Lfound.nd dX_read hr (fun _ _ => (ja_cons (je_var (pv 0)) (ja_cons (je_var (pv 1)) ja_nil))))
 C.m_NoText C.e (by rfl) T.z_isinstance (by rfl) T.z_any (by rfl) T.z_int (isF_own C.g_NoTurn C.k_NoTurn) (isF_own C.g_NoNumber C.k_NoNumber) (isF_own C.g_NotWithin C.k_NotWithin) (isF_own C.g_YardError C.k_YardError) (isF_blt C.n_ValueError C.k_ValueError L2.boot_ValueError) rfl (by first | exact Or.inl rfl | exact Or.inr rfl) (by first | exact Or.inl rfl | exact Or.inr (Or.inl rfl) | exact Or.inr (Or.inr rfl)) (by first | exact Or.inl rfl | exact Or.inr (Or.inl rfl) | exact Or.inr (Or.inr rfl)) (by first | exact .inl rfl | exact .inr rfl) (by decide) (by decide) (by decide) rfl (by first | exact Or.inl rfl | exact Or.inr rfl) (by first | exact Or.inl rfl | exact Or.inr (Or.inl rfl) | exact Or.inr (Or.inr rfl)) (by first | exact .inl rfl | exact .inr rfl) (by decide) (by decide) (by decide) (by decide) (by decide) (by decide) (by decide) (by decide) (by decide) (by rfl) (by rfl))
 (jb_one (js_ret (je_ix (je_lst (ja_cons (je_var (pv 2)) (ja_cons (je_tup ja_nil) ja_nil))) (je_callTy jc_int (by rfl) T.z_int (by decide +kernel) (ja_cons (je_cmp jo_is (je_var (pv 2)) je_non) ja_nil))))))⟩) (sp_Lfound xNoText)
abbrev s_law : Stmt := topS 32
theorem sc_law : FnScope ["_law_script", "_law_size", "_law_turn_here", "_law_text", "_law_number_here", "_law_k", "_law_found_here"] ["_law_script"] (defScope s_law) := ⟨rfl, rfl, rfl, by decide +kernel, rfl, by decide +kernel, by decide +kernel⟩
theorem ok_law {f : Addr} {fd : FuncData} (T : Tx mg) (F : Fun K "law" "law" s_law f fd) (d_Lmixed : DefOk P w K mg base 2 "_law_mixed" ["_law_script", "_law_k"] S_Lmixed) (d_Ldrawn : DefOk P w K mg base 1 "_law_drawn" ["_law_number_here", "_law_k"] S_Ldrawn) (d_Lturn : DefOk P w K mg base 2 "_law_turn" ["_law_number_here", "_law_size"] S_Lturn) (d_Lis_turn : DefOk P w K mg base 2 "_law_is_turn" ["_law_thing", "_law_size"] S_Lis_turn) (d_Lwritten : DefOk P w K mg base 2 "_law_written" ["_law_turn_here"] S_Lwritten) (d_Lchanged : DefOk P w K mg base 1 "_law_changed" ["_law_text", "_law_number_here"] S_Lchanged) (d_Lfound : DefOk P w K mg base 5 "_law_found" ["_law_text", "_law_size"] S_Lfound) : FnOk P w K mg base CX0 6 f fd ["_law_script"] (spD ⟨P, w, K⟩ S_law) :=
  fn_ok F sc_law (fun cdv A outer s H E hr => ⟨_,
 (jb_cons (js_set sc_law.nd (je_op jo_add je_int (je_op jo_mod (je_fn d_Lmixed hr (ja_cons (je_var (pv 0)) (ja_cons je_int ja_nil))) je_int)))
 (jb_cons (js_set sc_law.nd (je_fn d_Lturn hr (ja_cons (je_fn d_Lmixed hr (ja_cons (je_var (pv 0)) (ja_cons je_int ja_nil))) (ja_cons (je_var (pv 1)) ja_nil))))
 (jb_cons (js_set sc_law.nd (je_fn d_Lwritten hr (ja_cons (je_var (pv 2)) ja_nil)))
 (jb_cons (js_set sc_law.nd (je_fn d_Lmixed hr (ja_cons (je_var (pv 0)) (ja_cons je_int ja_nil))))
 (jb_cons (js_for PassesOwn.never rfl (ji_R1 (by rfl) T.z_range (ja_cons (je_op jo_mod (je_var (pv 4)) je_int) ja_nil)) (jg_name (pg_name (i := 5) sc_law.nd rfl (by first | exact Or.inl rfl | exact Or.inr rfl)))
 (jb_one (js_set sc_law.nd (je_fn d_Lchanged hr (ja_cons (je_var (pv 3)) (ja_cons (je_fn d_Ldrawn hr (ja_cons (je_var (pv 4)) (ja_cons (je_var (pv 5)) ja_nil))) ja_nil))))))
 (jb_cons (js_set sc_law.nd (je_fn d_Lfound hr (ja_cons (je_var (pv 3)) (ja_cons (je_var (pv 1)) ja_nil))))
 (jb_cons (js_if (jt_cmp (jo_eq (hu4 hr)) (je_var (pv 3)) (je_fn d_Lwritten hr (ja_cons (je_var (pv 2)) ja_nil)))
 (jb_one (js_ret (je_and (je_cmp (jo_eq (hu4 hr)) (je_var (pv 6)) (je_var (pv 2))) (je_one (je_fn d_Lis_turn hr (ja_cons (je_var (pv 6)) (ja_cons (je_var (pv 1)) ja_nil)))))))
 jb_nil)
 (jb_one (js_ret (je_or (je_cmp jo_is (je_var (pv 6)) je_non) (je_one (je_and (je_fn d_Lis_turn hr (ja_cons (je_var (pv 6)) (ja_cons (je_var (pv 1)) ja_nil))) (je_one (je_cmp (jo_eq (hu4 hr)) (je_fn d_Lwritten hr (ja_cons (je_var (pv 6)) ja_nil)) (je_var (pv 3))))))))))))))))⟩) sp_law
end
theorem law_in {G : Wd} {H : Hp} {a : Addr} {ns : List Int} (hl : ns.length ≤ 63) (hS : SqL G.K H a (ns.map V.int)) : spD G S_law [.ref a] H (fun v _ => v = .bl true) fun _ _ _ => False := by
  refine ⟨[eL ns], fun r => r = .dat (.bool true), .cons (.lst hS (tpAll_ints ns)) .nil, ⟨ns, rfl, hl, rfl⟩, ?_⟩
  rintro r v H' rfl _ hv
  cases hv
  rfl
theorem all_mk {w : World} {K : PySem.W.Frag} {h : Heap} {mg : Str → Option Value} {fa : Addr} (X : K.In h) (G : h.Ns mainGlobals mg) (hfa : mg "law" = some (.ref fa))
    {f1 : Addr} {od1 an1 : Option Addr} {sl1 : Array (Option Value)} {oc1 kV1 dc1 pm1 cd1 ct1 : Value}
    (a1 : PySem.W.nsIn K mainGlobals "is_number" = some (some (.ref f1))) (l1 : K.lookup f1 = some ⟨oc1, od1, .func (PySem.W.fnOf "is_number" "is_number" (defArgs s_is_number) (defBody s_is_number) (defScope s_is_number) .none kV1 dc1 pm1 an1 cd1 ct1), sl1⟩)
    (c1 : PySem.W.codeIn K cd1 "is_number" = true) (k1 : PySem.W.keepIn K (.ref f1) = true)
    {f2 : Addr} {od2 an2 : Option Addr} {sl2 : Array (Option Value)} {oc2 kV2 dc2 pm2 cd2 ct2 : Value}
    (a2 : PySem.W.nsIn K mainGlobals "is_turn" = some (some (.ref f2))) (l2 : K.lookup f2 = some ⟨oc2, od2, .func (PySem.W.fnOf "is_turn" "is_turn" (defArgs s_is_turn) (defBody s_is_turn) (defScope s_is_turn) .none kV2 dc2 pm2 an2 cd2 ct2), sl2⟩)
    (c2 : PySem.W.codeIn K cd2 "is_turn" = true) (k2 : PySem.W.keepIn K (.ref f2) = true)
    {f3 : Addr} {od3 an3 : Option Addr} {sl3 : Array (Option Value)} {oc3 kV3 dc3 pm3 cd3 ct3 : Value}
    (a3 : PySem.W.nsIn K mainGlobals "still" = some (some (.ref f3))) (l3 : K.lookup f3 = some ⟨oc3, od3, .func (PySem.W.fnOf "still" "still" (defArgs s_still) (defBody s_still) (defScope s_still) .none kV3 dc3 pm3 an3 cd3 ct3), sl3⟩)
    (c3 : PySem.W.codeIn K cd3 "still" = true) (k3 : PySem.W.keepIn K (.ref f3) = true)
    {f4 : Addr} {od4 an4 : Option Addr} {sl4 : Array (Option Value)} {oc4 kV4 dc4 pm4 cd4 ct4 : Value}
    (a4 : PySem.W.nsIn K mainGlobals "ring_from" = some (some (.ref f4))) (l4 : K.lookup f4 = some ⟨oc4, od4, .func (PySem.W.fnOf "ring_from" "ring_from" (defArgs s_ring_from) (defBody s_ring_from) (defScope s_ring_from) .none kV4 dc4 pm4 an4 cd4 ct4), sl4⟩)
    (c4 : PySem.W.codeIn K cd4 "ring_from" = true) (k4 : PySem.W.keepIn K (.ref f4) = true)
    {f5 : Addr} {od5 an5 : Option Addr} {sl5 : Array (Option Value)} {oc5 kV5 dc5 pm5 cd5 ct5 : Value}
    (a5 : PySem.W.nsIn K mainGlobals "rings" = some (some (.ref f5))) (l5 : K.lookup f5 = some ⟨oc5, od5, .func (PySem.W.fnOf "rings" "rings" (defArgs s_rings) (defBody s_rings) (defScope s_rings) .none kV5 dc5 pm5 an5 cd5 ct5), sl5⟩)
    (c5 : PySem.W.codeIn K cd5 "rings" = true) (k5 : PySem.W.keepIn K (.ref f5) = true)
    {f6 : Addr} {od6 an6 : Option Addr} {sl6 : Array (Option Value)} {oc6 kV6 dc6 pm6 cd6 ct6 : Value}
    (a6 : PySem.W.nsIn K mainGlobals "text_of" = some (some (.ref f6))) (l6 : K.lookup f6 = some ⟨oc6, od6, .func (PySem.W.fnOf "text_of" "text_of" (defArgs s_text_of) (defBody s_text_of) (defScope s_text_of) .none kV6 dc6 pm6 an6 cd6 ct6), sl6⟩)
    (c6 : PySem.W.codeIn K cd6 "text_of" = true) (k6 : PySem.W.keepIn K (.ref f6) = true)
    {f7 : Addr} {od7 an7 : Option Addr} {sl7 : Array (Option Value)} {oc7 kV7 dc7 pm7 cd7 ct7 : Value}
    (a7 : PySem.W.nsIn K mainGlobals "points_of" = some (some (.ref f7))) (l7 : K.lookup f7 = some ⟨oc7, od7, .func (PySem.W.fnOf "points_of" "points_of" (defArgs s_points_of) (defBody s_points_of) (defScope s_points_of) .none kV7 dc7 pm7 an7 cd7 ct7), sl7⟩)
    (c7 : PySem.W.codeIn K cd7 "points_of" = true) (k7 : PySem.W.keepIn K (.ref f7) = true)
    {f8 : Addr} {od8 an8 : Option Addr} {sl8 : Array (Option Value)} {oc8 kV8 dc8 pm8 cd8 ct8 : Value}
    (a8 : PySem.W.nsIn K mainGlobals "read" = some (some (.ref f8))) (l8 : K.lookup f8 = some ⟨oc8, od8, .func (PySem.W.fnOf "read" "read" (defArgs s_read) (defBody s_read) (defScope s_read) .none kV8 dc8 pm8 an8 cd8 ct8), sl8⟩)
    (c8 : PySem.W.codeIn K cd8 "read" = true) (k8 : PySem.W.keepIn K (.ref f8) = true)
    {f9 : Addr} {od9 an9 : Option Addr} {sl9 : Array (Option Value)} {oc9 kV9 dc9 pm9 cd9 ct9 : Value}
    (a9 : PySem.W.nsIn K mainGlobals "_law_cell_at" = some (some (.ref f9))) (l9 : K.lookup f9 = some ⟨oc9, od9, .func (PySem.W.fnOf "_law_cell_at" "_law_cell_at" (defArgs s_Lcell_at) (defBody s_Lcell_at) (defScope s_Lcell_at) .none kV9 dc9 pm9 an9 cd9 ct9), sl9⟩)
    (c9 : PySem.W.codeIn K cd9 "_law_cell_at" = true) (k9 : PySem.W.keepIn K (.ref f9) = true)
    {f10 : Addr} {od10 an10 : Option Addr} {sl10 : Array (Option Value)} {oc10 kV10 dc10 pm10 cd10 ct10 : Value}
    (a10 : PySem.W.nsIn K mainGlobals "_law_mixed" = some (some (.ref f10))) (l10 : K.lookup f10 = some ⟨oc10, od10, .func (PySem.W.fnOf "_law_mixed" "_law_mixed" (defArgs s_Lmixed) (defBody s_Lmixed) (defScope s_Lmixed) .none kV10 dc10 pm10 an10 cd10 ct10), sl10⟩)
    (c10 : PySem.W.codeIn K cd10 "_law_mixed" = true) (k10 : PySem.W.keepIn K (.ref f10) = true)
    {f11 : Addr} {od11 an11 : Option Addr} {sl11 : Array (Option Value)} {oc11 kV11 dc11 pm11 cd11 ct11 : Value}
    (a11 : PySem.W.nsIn K mainGlobals "_law_drawn" = some (some (.ref f11))) (l11 : K.lookup f11 = some ⟨oc11, od11, .func (PySem.W.fnOf "_law_drawn" "_law_drawn" (defArgs s_Ldrawn) (defBody s_Ldrawn) (defScope s_Ldrawn) .none kV11 dc11 pm11 an11 cd11 ct11), sl11⟩)
    (c11 : PySem.W.codeIn K cd11 "_law_drawn" = true) (k11 : PySem.W.keepIn K (.ref f11) = true)
    {f12 : Addr} {od12 an12 : Option Addr} {sl12 : Array (Option Value)} {oc12 kV12 dc12 pm12 cd12 ct12 : Value}
    (a12 : PySem.W.nsIn K mainGlobals "_law_turn" = some (some (.ref f12))) (l12 : K.lookup f12 = some ⟨oc12, od12, .func (PySem.W.fnOf "_law_turn" "_law_turn" (defArgs s_Lturn) (defBody s_Lturn) (defScope s_Lturn) .none kV12 dc12 pm12 an12 cd12 ct12), sl12⟩)
    (c12 : PySem.W.codeIn K cd12 "_law_turn" = true) (k12 : PySem.W.keepIn K (.ref f12) = true)
    {f13 : Addr} {od13 an13 : Option Addr} {sl13 : Array (Option Value)} {oc13 kV13 dc13 pm13 cd13 ct13 : Value}
    (a13 : PySem.W.nsIn K mainGlobals "_law_number" = some (some (.ref f13))) (l13 : K.lookup f13 = some ⟨oc13, od13, .func (PySem.W.fnOf "_law_number" "_law_number" (defArgs s_Lnumber) (defBody s_Lnumber) (defScope s_Lnumber) .none kV13 dc13 pm13 an13 cd13 ct13), sl13⟩)
    (c13 : PySem.W.codeIn K cd13 "_law_number" = true) (k13 : PySem.W.keepIn K (.ref f13) = true)
    {f14 : Addr} {od14 an14 : Option Addr} {sl14 : Array (Option Value)} {oc14 kV14 dc14 pm14 cd14 ct14 : Value}
    (a14 : PySem.W.nsIn K mainGlobals "_law_is_turn" = some (some (.ref f14))) (l14 : K.lookup f14 = some ⟨oc14, od14, .func (PySem.W.fnOf "_law_is_turn" "_law_is_turn" (defArgs s_Lis_turn) (defBody s_Lis_turn) (defScope s_Lis_turn) .none kV14 dc14 pm14 an14 cd14 ct14), sl14⟩)
    (c14 : PySem.W.codeIn K cd14 "_law_is_turn" = true) (k14 : PySem.W.keepIn K (.ref f14) = true)
    {f15 : Addr} {od15 an15 : Option Addr} {sl15 : Array (Option Value)} {oc15 kV15 dc15 pm15 cd15 ct15 : Value}
    (a15 : PySem.W.nsIn K mainGlobals "_law_rings" = some (some (.ref f15))) (l15 : K.lookup f15 = some ⟨oc15, od15, .func (PySem.W.fnOf "_law_rings" "_law_rings" (defArgs s_Lrings) (defBody s_Lrings) (defScope s_Lrings) .none kV15 dc15 pm15 an15 cd15 ct15), sl15⟩)
    (c15 : PySem.W.codeIn K cd15 "_law_rings" = true) (k15 : PySem.W.keepIn K (.ref f15) = true)
    {f16 : Addr} {od16 an16 : Option Addr} {sl16 : Array (Option Value)} {oc16 kV16 dc16 pm16 cd16 ct16 : Value}
    (a16 : PySem.W.nsIn K mainGlobals "_law_written" = some (some (.ref f16))) (l16 : K.lookup f16 = some ⟨oc16, od16, .func (PySem.W.fnOf "_law_written" "_law_written" (defArgs s_Lwritten) (defBody s_Lwritten) (defScope s_Lwritten) .none kV16 dc16 pm16 an16 cd16 ct16), sl16⟩)
    (c16 : PySem.W.codeIn K cd16 "_law_written" = true) (k16 : PySem.W.keepIn K (.ref f16) = true)
    {f17 : Addr} {od17 an17 : Option Addr} {sl17 : Array (Option Value)} {oc17 kV17 dc17 pm17 cd17 ct17 : Value}
    (a17 : PySem.W.nsIn K mainGlobals "_law_changed" = some (some (.ref f17))) (l17 : K.lookup f17 = some ⟨oc17, od17, .func (PySem.W.fnOf "_law_changed" "_law_changed" (defArgs s_Lchanged) (defBody s_Lchanged) (defScope s_Lchanged) .none kV17 dc17 pm17 an17 cd17 ct17), sl17⟩)
    (c17 : PySem.W.codeIn K cd17 "_law_changed" = true) (k17 : PySem.W.keepIn K (.ref f17) = true)
    {f18 : Addr} {od18 an18 : Option Addr} {sl18 : Array (Option Value)} {oc18 kV18 dc18 pm18 cd18 ct18 : Value}
    (a18 : PySem.W.nsIn K mainGlobals "_law_found" = some (some (.ref f18))) (l18 : K.lookup f18 = some ⟨oc18, od18, .func (PySem.W.fnOf "_law_found" "_law_found" (defArgs s_Lfound) (defBody s_Lfound) (defScope s_Lfound) .none kV18 dc18 pm18 an18 cd18 ct18), sl18⟩)
    (c18 : PySem.W.codeIn K cd18 "_law_found" = true) (k18 : PySem.W.keepIn K (.ref f18) = true)
    {f19 : Addr} {od19 an19 : Option Addr} {sl19 : Array (Option Value)} {oc19 kV19 dc19 pm19 cd19 ct19 : Value}
    (a19 : PySem.W.nsIn K mainGlobals "law" = some (some (.ref f19))) (l19 : K.lookup f19 = some ⟨oc19, od19, .func (PySem.W.fnOf "law" "law" (defArgs s_law) (defBody s_law) (defScope s_law) .none kV19 dc19 pm19 an19 cd19 ct19), sl19⟩)
    (c19 : PySem.W.codeIn K cd19 "law" = true) (k19 : PySem.W.keepIn K (.ref f19) = true)
    {xNoText xNoTurn xNoNumber xNotWithin xYardError : Addr}
    (xg_NoText : PySem.W.nsIn K mainGlobals "NoText" = some (some (.ref xNoText)))
    (xg_NoTurn : PySem.W.nsIn K mainGlobals "NoTurn" = some (some (.ref xNoTurn)))
    (xg_NoNumber : PySem.W.nsIn K mainGlobals "NoNumber" = some (some (.ref xNoNumber)))
    (xg_NotWithin : PySem.W.nsIn K mainGlobals "NotWithin" = some (some (.ref xNotWithin)))
    (xg_YardError : PySem.W.nsIn K mainGlobals "YardError" = some (some (.ref xYardError)))
    (xe : PySem.W.excIn K xNoText [.type "ValueError", .type "Exception", .type "BaseException", .type "object"] "ValueError.__new__" = true)
    (xk : PySem.W.keepIn K (.ref xNoText) = true)
    (xb : PySem.W.subIn K (.ref xNoText) (.type "BaseException") = some true)
    (xt : PySem.W.typeIn K (.ref xNoText) = some (.type "type"))
    (xhg : PySem.W.findIn K (.ref xNoText) "__getattribute__" = some (some (.builtin "BaseException.__getattribute__")))
    (xhk : PySem.W.findIn K (.ref xNoText) "__getattr__" = some none)
    (xhd : PySem.W.hasDictIn K xNoText = true)
    (xha : PySem.W.findIn K (.ref xNoText) "__class__" = some (some (.builtin "object.__class__")))
    (xhn : PySem.W.specialIn K (.builtin "object.__class__") "__get__" = some (some (.builtin "getset_descriptor.__get__")))
    (xht : PySem.W.takesIn K (.builtin "object.__class__") = some true)
    (xhm : PySem.W.mroIn K xNoText (.type "object") = some true)
    (xi_NoText : PySem.W.isClsIn K xNoText = true)
    (xt_NoText : PySem.W.typeIn K (.ref xNoText) = some (.type "type"))
    (xs_NoText : PySem.W.subIn K (.ref xNoText) (.ref xNoText) = some true)
    (xb_NoText : PySem.W.subIn K (.ref xNoText) (.type "BaseException") = some true)
    (xi_NoTurn : PySem.W.isClsIn K xNoTurn = true)
    (xt_NoTurn : PySem.W.typeIn K (.ref xNoTurn) = some (.type "type"))
    (xs_NoTurn : PySem.W.subIn K (.ref xNoText) (.ref xNoTurn) = some false)
    (xd_NoTurn : decide (xNoText = xNoTurn) = false)
    (xi_NoNumber : PySem.W.isClsIn K xNoNumber = true)
    (xt_NoNumber : PySem.W.typeIn K (.ref xNoNumber) = some (.type "type"))
    (xs_NoNumber : PySem.W.subIn K (.ref xNoText) (.ref xNoNumber) = some false)
    (xd_NoNumber : decide (xNoText = xNoNumber) = false)
    (xi_NotWithin : PySem.W.isClsIn K xNotWithin = true)
    (xt_NotWithin : PySem.W.typeIn K (.ref xNotWithin) = some (.type "type"))
    (xs_NotWithin : PySem.W.subIn K (.ref xNoText) (.ref xNotWithin) = some false)
    (xd_NotWithin : decide (xNoText = xNotWithin) = false)
    (xi_YardError : PySem.W.isClsIn K xYardError = true)
    (xt_YardError : PySem.W.typeIn K (.ref xYardError) = some (.type "type"))
    (xs_YardError : PySem.W.subIn K (.ref xNoText) (.ref xYardError) = some true)
    (xd_YardError : decide (xNoText = xYardError) = false)
    (xn_ValueError : PySem.W.nsIn K mainGlobals "ValueError" = some none)
    (xs_ValueError : PySem.W.subIn K (.ref xNoText) (.type "ValueError") = some true)
    {tk_FIGURES : Tok} (gc_FIGURES : PySem.W.nsIn K mainGlobals "FIGURES" = some (some (.str (PySem.Str.ofString "012345") tk_FIGURES)))
    (z0 : PySem.W.nsIn K mainGlobals "all" = some none) (z1 : PySem.W.nsIn K mainGlobals "any" = some none) (z2 : PySem.W.nsIn K mainGlobals "bool" = some none) (z3 : PySem.W.nsIn K mainGlobals "int" = some none) (z4 : PySem.W.nsIn K mainGlobals "isinstance" = some none) (z5 : PySem.W.nsIn K mainGlobals "len" = some none) (z6 : PySem.W.nsIn K mainGlobals "list" = some none) (z7 : PySem.W.nsIn K mainGlobals "min" = some none) (z8 : PySem.W.nsIn K mainGlobals "range" = some none) (z9 : PySem.W.nsIn K mainGlobals "set" = some none) (z10 : PySem.W.nsIn K mainGlobals "sorted" = some none) (z11 : PySem.W.nsIn K mainGlobals "str" = some none) (z12 : PySem.W.nsIn K mainGlobals "tuple" = some none) (z13 : PySem.W.nsIn K mainGlobals "zip" = some none) :
    ∃ fd : FuncData, (∀ (s : Shared) (v : Value), BindsTo s fd ⟨[v], []⟩ [("_law_script", v)]) ∧ ∀ base : Heap, K.In base → base.Ns mainGlobals mg → FnOk PySem.Challenge.pw_turnyard_k05_whole_read w K mg base CX0 6 fa fd ["_law_script"] (spD ⟨PySem.Challenge.pw_turnyard_k05_whole_read, w, K⟩ S_law) := by
  have e := hfa.symm.trans (PySem.W.mg_of X G a19)
  cases e
  have T : Tx mg := ⟨PySem.W.mg_none_of X G z0, PySem.W.mg_none_of X G z1, PySem.W.mg_none_of X G z2, PySem.W.mg_none_of X G z3, PySem.W.mg_none_of X G z4, PySem.W.mg_none_of X G z5, PySem.W.mg_none_of X G z6, PySem.W.mg_none_of X G z7, PySem.W.mg_none_of X G z8, PySem.W.mg_none_of X G z9, PySem.W.mg_none_of X G z10, PySem.W.mg_none_of X G z11, PySem.W.mg_none_of X G z12, PySem.W.mg_none_of X G z13, ⟨_, PySem.W.mg_of X G gc_FIGURES⟩⟩
  refine ⟨PySem.W.fnOf "law" "law" (defArgs s_law) (defBody s_law) (defScope s_law) .none kV19 dc19 pm19 an19 cd19 ct19, fun s v => .of_eq rfl, fun base _ _ => ?_⟩
  have C : Tc K mg xNoText xNoTurn xNoNumber xNotWithin xYardError := ⟨⟨PySem.W.mg_of X G xg_NoText, xe, xk, xb, xt⟩, ⟨xhg, xhk, xb, xhd, xha, xhn, xht, xhm⟩, PySem.W.mg_of X G xg_NoText, PySem.W.mg_of X G xg_NoTurn, PySem.W.mg_of X G xg_NoNumber, PySem.W.mg_of X G xg_NotWithin, PySem.W.mg_of X G xg_YardError, exm_own xb_NoText xi_NoText xt_NoText xs_NoText, kit_own xi_NoTurn xt_NoTurn xs_NoTurn xd_NoTurn, kit_own xi_NoNumber xt_NoNumber xs_NoNumber xd_NoNumber, kit_own xi_NotWithin xt_NotWithin xs_NotWithin xd_NotWithin, kit_own xi_YardError xt_YardError xs_YardError xd_YardError, PySem.W.mg_none_of X G xn_ValueError, kit_blt (by decide +kernel) xs_ValueError⟩
  have d_is_number := ok_is_number (P := PySem.Challenge.pw_turnyard_k05_whole_read) (w := w) (base := base) T (fun_mk (st := s_is_number) l1 c1 k1) (PySem.W.mg_of X G a1)
  have d_still := ok_still (P := PySem.Challenge.pw_turnyard_k05_whole_read) (w := w) (base := base) T (fun_mk (st := s_still) l3 c3 k3) (PySem.W.mg_of X G a3)
  have d_ring_from := ok_ring_from (P := PySem.Challenge.pw_turnyard_k05_whole_read) (w := w) (base := base) T (fun_mk (st := s_ring_from) l4 c4 k4) (PySem.W.mg_of X G a4)
  have dX_points_of := ok_points_of (P := PySem.Challenge.pw_turnyard_k05_whole_read) (w := w) (base := base) T C (fun_mk (st := s_points_of) l7 c7 k7) (PySem.W.mg_of X G a7)
  have d_Lcell_at := ok_Lcell_at (P := PySem.Challenge.pw_turnyard_k05_whole_read) (w := w) (base := base) T (fun_mk (st := s_Lcell_at) l9 c9 k9) (PySem.W.mg_of X G a9)
  have d_Ldrawn := ok_Ldrawn (P := PySem.Challenge.pw_turnyard_k05_whole_read) (w := w) (base := base) T (fun_mk (st := s_Ldrawn) l11 c11 k11) (PySem.W.mg_of X G a11)
  have d_Lnumber := ok_Lnumber (P := PySem.Challenge.pw_turnyard_k05_whole_read) (w := w) (base := base) T (fun_mk (st := s_Lnumber) l13 c13 k13) (PySem.W.mg_of X G a13)
  have d_Lrings := ok_Lrings (P := PySem.Challenge.pw_turnyard_k05_whole_read) (w := w) (base := base) T (fun_mk (st := s_Lrings) l15 c15 k15) (PySem.W.mg_of X G a15)
  have d_Lchanged := ok_Lchanged (P := PySem.Challenge.pw_turnyard_k05_whole_read) (w := w) (base := base) T (fun_mk (st := s_Lchanged) l17 c17 k17) (PySem.W.mg_of X G a17)
  have d_is_turn := ok_is_turn (P := PySem.Challenge.pw_turnyard_k05_whole_read) (w := w) (base := base) T (fun_mk (st := s_is_turn) l2 c2 k2) (PySem.W.mg_of X G a2) d_is_number
  have d_rings := ok_rings (P := PySem.Challenge.pw_turnyard_k05_whole_read) (w := w) (base := base) T (fun_mk (st := s_rings) l5 c5 k5) (PySem.W.mg_of X G a5) d_ring_from
  have d_Lmixed := ok_Lmixed (P := PySem.Challenge.pw_turnyard_k05_whole_read) (w := w) (base := base) T (fun_mk (st := s_Lmixed) l10 c10 k10) (PySem.W.mg_of X G a10) d_Lcell_at
  have d_Lturn := ok_Lturn (P := PySem.Challenge.pw_turnyard_k05_whole_read) (w := w) (base := base) T (fun_mk (st := s_Lturn) l12 c12 k12) (PySem.W.mg_of X G a12) d_Ldrawn
  have d_Lis_turn := ok_Lis_turn (P := PySem.Challenge.pw_turnyard_k05_whole_read) (w := w) (base := base) T (fun_mk (st := s_Lis_turn) l14 c14 k14) (PySem.W.mg_of X G a14) d_Lnumber
  have d_Lwritten := ok_Lwritten (P := PySem.Challenge.pw_turnyard_k05_whole_read) (w := w) (base := base) T (fun_mk (st := s_Lwritten) l16 c16 k16) (PySem.W.mg_of X G a16) d_Lrings
  have d_text_of := ok_text_of (P := PySem.Challenge.pw_turnyard_k05_whole_read) (w := w) (base := base) T (fun_mk (st := s_text_of) l6 c6 k6) (PySem.W.mg_of X G a6) d_rings
  have dX_read := ok_read (P := PySem.Challenge.pw_turnyard_k05_whole_read) (w := w) (base := base) T C (fun_mk (st := s_read) l8 c8 k8) (PySem.W.mg_of X G a8) d_is_turn d_still d_text_of dX_points_of
  have d_Lfound := ok_Lfound (P := PySem.Challenge.pw_turnyard_k05_whole_read) (w := w) (base := base) T C (fun_mk (st := s_Lfound) l18 c18 k18) (PySem.W.mg_of X G a18) dX_read
  exact ok_law T (fun_mk (st := s_law) l19 c19 k19) d_Lmixed d_Ldrawn d_Lturn d_Lis_turn d_Lwritten d_Lchanged d_Lfound
end Ab
open PySem PySem.W PyProof.Rows
set_option maxHeartbeats 0 in
theorem PySem.Challenge.cw_turnyard_k05_whole_read_holds : PySem.Challenge.rw_turnyard_k05_whole_read.Holds := by
  w_on; o_law; k_head; (case hw => w_witness2)
  k_fill
  refine L2.walk_of (l := PySem.Challenge.rw_turnyard_k05_whole_read) (n := 63) (k := 6) (x := "_law_script") (CX := fun _ => L2.CX0) (sp := fun w => Ab.spD ⟨PySem.Challenge.pw_turnyard_k05_whole_read, w, _⟩ Ab.S_law) rfl (by decide) rfl ⟨rfl, by decide, by decide⟩ (fun w h Y => PySem.W.kIn_of Y) ?F (fun _ _ a ns hl _ hS => Ab.law_in hl hS) (fun _ _ _ _ _ h => h)
  case F =>
    intro w mg fa h KX G hmg
    refine' Ab.all_mk KX G hmg ?a1 ?l1 ?c1 ?k1 ?a2 ?l2 ?c2 ?k2 ?a3 ?l3 ?c3 ?k3 ?a4 ?l4 ?c4 ?k4 ?a5 ?l5 ?c5 ?k5 ?a6 ?l6 ?c6 ?k6 ?a7 ?l7 ?c7 ?k7 ?a8 ?l8 ?c8 ?k8 ?a9 ?l9 ?c9 ?k9 ?a10 ?l10 ?c10 ?k10 ?a11 ?l11 ?c11 ?k11 ?a12 ?l12 ?c12 ?k12 ?a13 ?l13 ?c13 ?k13 ?a14 ?l14 ?c14 ?k14 ?a15 ?l15 ?c15 ?k15 ?a16 ?l16 ?c16 ?k16 ?a17 ?l17 ?c17 ?k17 ?a18 ?l18 ?c18 ?k18 ?a19 ?l19 ?c19 ?k19 ?xg_NoText ?xg_NoTurn ?xg_NoNumber ?xg_NotWithin ?xg_YardError ?xe ?xk ?xb ?xt ?xhg ?xhk ?xhd ?xha ?xhn ?xht ?xhm ?xi_NoText ?xt_NoText ?xs_NoText ?xb_NoText ?xi_NoTurn ?xt_NoTurn ?xs_NoTurn ?xd_NoTurn ?xi_NoNumber ?xt_NoNumber ?xs_NoNumber ?xd_NoNumber ?xi_NotWithin ?xt_NotWithin ?xs_NotWithin ?xd_NotWithin ?xi_YardError ?xt_YardError ?xs_YardError ?xd_YardError ?xn_ValueError ?xs_ValueError ?gc_FIGURES ?z0 ?z1 ?z2 ?z3 ?z4 ?z5 ?z6 ?z7 ?z8 ?z9 ?z10 ?z11 ?z12 ?z13
    (case a1 => k_is)
    (case l1 => k_is)
    (case c1 => k_is)
    (case k1 => k_is)
    (case a2 => k_is)
    (case l2 => k_is)
    (case c2 => k_is)
    (case k2 => k_is)
    (case a3 => k_is)
    (case l3 => k_is)
    (case c3 => k_is)
    (case k3 => k_is)
    (case a4 => k_is)
    (case l4 => k_is)
    (case c4 => k_is)
    (case k4 => k_is)
    (case a5 => k_is)
    (case l5 => k_is)
    (case c5 => k_is)
    (case k5 => k_is)
    (case a6 => k_is)
    (case l6 => k_is)
    (case c6 => k_is)
    (case k6 => k_is)
    (case a7 => k_is)
    (case l7 => k_is)
    (case c7 => k_is)
    (case k7 => k_is)
    (case a8 => k_is)
    (case l8 => k_is)
    (case c8 => k_is)
    (case k8 => k_is)
    (case a9 => k_is)
    (case l9 => k_is)
    (case c9 => k_is)
    (case k9 => k_is)
    (case a10 => k_is)
    (case l10 => k_is)
    (case c10 => k_is)
    (case k10 => k_is)
    (case a11 => k_is)
    (case l11 => k_is)
    (case c11 => k_is)
    (case k11 => k_is)
    (case a12 => k_is)
    (case l12 => k_is)
    (case c12 => k_is)
    (case k12 => k_is)
    (case a13 => k_is)
    (case l13 => k_is)
    (case c13 => k_is)
    (case k13 => k_is)
    (case a14 => k_is)
    (case l14 => k_is)
    (case c14 => k_is)
    (case k14 => k_is)
    (case a15 => k_is)
    (case l15 => k_is)
    (case c15 => k_is)
    (case k15 => k_is)
    (case a16 => k_is)
    (case l16 => k_is)
    (case c16 => k_is)
    (case k16 => k_is)
    (case a17 => k_is)
    (case l17 => k_is)
    (case c17 => k_is)
    (case k17 => k_is)
    (case a18 => k_is)
    (case l18 => k_is)
    (case c18 => k_is)
    (case k18 => k_is)
    (case a19 => k_is)
    (case l19 => k_is)
    (case c19 => k_is)
    (case k19 => k_is)
    (case xg_NoText => k_is)
    (case xg_NoTurn => k_is)
    (case xg_NoNumber => k_is)
    (case xg_NotWithin => k_is)
    (case xg_YardError => k_is)
    (case xe => k_exc)
    (case xk => k_is)
    (case xb => k_is)
    (case xt => k_is)
    (case xhg => k_is)
    (case xhk => k_is)
    (case xhd => k_is)
    (case xha => k_is)
    (case xhn => k_is)
    (case xht => k_is)
    (case xhm => k_is)
    (case xi_NoText => k_is)
    (case xt_NoText => k_is)
    (case xs_NoText => k_is)
    (case xb_NoText => k_is)
    (case xi_NoTurn => k_is)
    (case xt_NoTurn => k_is)
    (case xs_NoTurn => k_is)
    (case xd_NoTurn => decide)
    (case xi_NoNumber => k_is)
    (case xt_NoNumber => k_is)
    (case xs_NoNumber => k_is)
    (case xd_NoNumber => decide)
    (case xi_NotWithin => k_is)
    (case xt_NotWithin => k_is)
    (case xs_NotWithin => k_is)
    (case xd_NotWithin => decide)
    (case xi_YardError => k_is)
    (case xt_YardError => k_is)
    (case xs_YardError => k_is)
    (case xd_YardError => decide)
    (case xn_ValueError => k_is)
    (case xs_ValueError => k_is)
    (case gc_FIGURES => k_is)
    (case z0 => k_is)
    (case z1 => k_is)
    (case z2 => k_is)
    (case z3 => k_is)
    (case z4 => k_is)
    (case z5 => k_is)
    (case z6 => k_is)
    (case z7 => k_is)
    (case z8 => k_is)
    (case z9 => k_is)
    (case z10 => k_is)
    (case z11 => k_is)
    (case z12 => k_is)
    (case z13 => k_is)
