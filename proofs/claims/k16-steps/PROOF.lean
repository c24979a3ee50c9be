import PyProof.Rows.All
import Wide.All
import OpenK.AllK
import Wide.FinOn
import KE.KStateDown
import Lean
import HandS.Head0
import HandS.Head1
import HandS.Head2
import PySem.Challenge.RW_lapsepoints_k16_whole_accounts_step_by_s
import HandS.ForMost
import HandS.Hot
import HandS.HotCalls
import HandS.ForExc
import HandS.ExcCtx
import HandS.ExcIs
import KE.KExcIs
import HandS.Lambda
import KE.GoesNew
import HandS.Walk
import HandS.OwnEq
import PyProof.InstNe
import HandS.ListItems
import HandS.Sort
import HandS.SortOrd
import HandS.SortRule
import HandS.SortInts
import HandS.GenList
import HandS.ExcInit
import HandS.ExcField
import HandS.ClsMeth
import HandS.IsInst
import HandS.Star
import HandS.Style
import HandS.TupAny
import HandS.Property
import HandS.Text
import HandS.Spec
import PyProof.Rows.SeqMore
import HandS.HeadHook3
import HandS.HeadHook4
import HandS.HeadEnd
import HandS.HeadHook1
import HandS.HeadHook2
import HandS.HeadWalk
import HandS.EndTab
-- part KMath
set_option linter.all false
/-! the plain law: what the program's play leaves is what the law's own lots are -/
namespace K16M
/-- an event: earned (k) or spent, at t, so many points n -/
structure Ev where
  k : Bool
  t : Int
  n : Int
abbrev PL := List (Int × Int × Nat)
abbrev LL := List (Int × Int)
def lapseL (life time : Int) : PL → PL × PL
  | [] => ([], [])
  | (t, n, i) :: r => if t + life ≤ time then ((lapseL life time r).1, (t + life, n, i) :: (lapseL life time r).2) else ((t, n, i) :: r, [])
def takeL : Int → PL → PL
  | _, [] => []
  | a, (t, n, i) :: r => if a ≤ 0 then (t, n, i) :: r else if n ≤ a then takeL (a - n) r else (t, n - a, i) :: r
def sumP (l : PL) : Int := (l.map fun p => p.2.1).sum
def sumL (l : LL) : Int := (l.map fun p => p.2).sum
def tn (p : Int × Int × Nat) : Int × Int := (p.1, p.2.1)
def pstep (life : Int) (i : Nat) (s : PL × PL) (e : Ev) : PL × PL :=
  (if e.k = true then (lapseL life e.t s.1).1 ++ [(e.t, e.n, i)] else takeL e.n (lapseL life e.t s.1).1, s.2 ++ (lapseL life e.t s.1).2)
def prun (life : Int) : Nat → PL × PL → List Ev → PL × PL
  | _, s, [] => s
  | i, s, e :: r => prun life (i + 1) (pstep life i s e) r
def cov (life : Int) (s : PL × PL) (e : Ev) : Prop := e.k = false → e.n ≤ sumP (lapseL life e.t s.1).1
def okRun (life : Int) : Nat → PL × PL → List Ev → Prop
  | _, _, [] => True
  | i, s, e :: r => cov life s e ∧ okRun life (i + 1) (pstep life i s e) r
def pend (life u : Int) (s : PL × PL) : PL × PL := ((lapseL life u s.1).1, s.2 ++ (lapseL life u s.1).2)
def playL (life u : Int) (log : List Ev) : PL × PL := pend life u (prun life 0 ([], []) log)
def balL (life u : Int) (log : List Ev) : Int := sumP (playL life u log).1
def gonL (life u : Int) (log : List Ev) : Int := sumP (playL life u log).2

def liveL (span time : Int) (l : LL) : LL := l.filter fun p => decide (time < p.1 + span) && decide (0 < p.2)
def goneL (span time : Int) (l : LL) : LL := (l.filter fun p => decide (p.1 + span ≤ time) && decide (0 < p.2)).map fun p => (p.1 + span, p.2)
def redL : Int → LL → LL
  | _, [] => []
  | a, (t, m) :: r => (t, m - min m a) :: redL (a - min m a) r
def lstep (span : Int) (s : LL × LL) (e : Ev) : LL × LL :=
  (if e.k = true then liveL span e.t s.1 ++ [(e.t, e.n)] else redL e.n (liveL span e.t s.1), s.2 ++ goneL span e.t s.1)
def lrun (span : Int) : LL × LL → List Ev → LL × LL
  | s, [] => s
  | s, e :: r => lrun span (lstep span s e) r
def lotsL (span u : Int) (log : List Ev) : LL × LL := (liveL span u (lrun span ([], []) log).1, (lrun span ([], []) log).2 ++ goneL span u (lrun span ([], []) log).1)

/-- times never fall -/
def Asc : List Int → Prop
  | [] => True
  | a :: r => (∀ b ∈ r, a ≤ b) ∧ Asc r
theorem asc_app : ∀ {l : List Int} {x : Int}, Asc l → (∀ b ∈ l, b ≤ x) → Asc (l ++ [x])
  | [], x, _, _ => ⟨fun b h => (nomatch h), trivial⟩
  | a :: r, x, h, hx => ⟨fun b hb => by
      rcases List.mem_append.mp hb with q | q
      · exact h.1 b q
      · have e : b = x := by simpa using q
        subst e
        exact hx a List.mem_cons_self, asc_app h.2 fun b hb => hx b (List.mem_cons_of_mem _ hb)⟩
theorem asc_filter (f : Int × Int → Bool) : ∀ {l : LL}, Asc (l.map (·.1)) → Asc ((l.filter f).map (·.1))
  | [], _ => trivial
  | (a, n) :: r, h => by
    have ih := asc_filter f (l := r) h.2
    rw [List.filter_cons]
    split
    · refine ⟨fun b hb => h.1 b ?_, ih⟩
      obtain ⟨p, hp, e⟩ := List.mem_map.mp hb
      exact List.mem_map.mpr ⟨p, (List.mem_filter.mp hp).1, e⟩
    · exact ih
theorem lapse_fst (life time : Int) : ∀ {p : PL}, Asc (p.map (·.1)) → (lapseL life time p).1.map tn = (p.map tn).filter fun q => decide (time < q.1 + life)
  | [], _ => rfl
  | (t, n, i) :: r, h => by
    have ih := lapse_fst life time (p := r) h.2
    show ((if t + life ≤ time then ((lapseL life time r).1, (t + life, n, i) :: (lapseL life time r).2) else ((t, n, i) :: r, [])).1).map tn = ((t, n) :: r.map tn).filter _
    by_cases c : t + life ≤ time
    · rw [if_pos c, List.filter_cons, if_neg (by simp; omega)]
      exact ih
    · rw [if_neg c]
      show (t, n) :: r.map tn = _
      rw [List.filter_eq_self.mpr]
      intro q hq
      rcases List.mem_cons.mp hq with e | hq
      · subst e
        simp; omega
      · obtain ⟨z, hz, e⟩ := List.mem_map.mp hq
        have h1 := h.1 z.1 (List.mem_map.mpr ⟨z, hz, rfl⟩)
        subst e
        show decide (time < z.1 + life) = true
        have h1 : t ≤ z.1 := h1
        simp; omega
theorem lapse_snd (life time : Int) : ∀ {p : PL}, Asc (p.map (·.1)) → (lapseL life time p).2.map tn = ((p.map tn).filter fun q => decide (q.1 + life ≤ time)).map fun q => (q.1 + life, q.2)
  | [], _ => rfl
  | (t, n, i) :: r, h => by
    have ih := lapse_snd life time (p := r) h.2
    show ((if t + life ≤ time then ((lapseL life time r).1, (t + life, n, i) :: (lapseL life time r).2) else ((t, n, i) :: r, [])).2).map tn = (((t, n) :: r.map tn).filter _).map _
    by_cases c : t + life ≤ time
    · rw [if_pos c, List.filter_cons, if_pos (by simp; omega)]
      show (t + life, n) :: _ = (t + life, n) :: _
      rw [ih]
    · rw [if_neg c]
      show [] = _
      rw [List.filter_eq_nil_iff.mpr]
      · rfl
      intro q hq
      rcases List.mem_cons.mp hq with e | hq
      · subst e
        simp; omega
      · obtain ⟨z, hz, e⟩ := List.mem_map.mp hq
        have h1 := h.1 z.1 (List.mem_map.mpr ⟨z, hz, rfl⟩)
        subst e
        have h1 : t ≤ z.1 := h1
        show ¬ decide (z.1 + life ≤ time) = true
        simp; omega
theorem red_zero : ∀ {l : LL}, (∀ p ∈ l, 0 ≤ p.2) → redL 0 l = l
  | [], _ => rfl
  | (t, m) :: r, h => by
    have h0 : (0 : Int) ≤ m := h (t, m) List.mem_cons_self
    have e : min m 0 = 0 := by omega
    show (t, m - min m 0) :: redL (0 - min m 0) r = (t, m) :: r
    rw [e, show (0 : Int) - 0 = 0 from rfl, red_zero (l := r) fun p hp => h p (List.mem_cons_of_mem _ hp)]
    simp
theorem red_nonneg : ∀ {l : LL} {a : Int}, (∀ p ∈ l, 0 ≤ p.2) → ∀ p ∈ redL a l, 0 ≤ p.2
  | [], _, _ => fun p h => (nomatch h)
  | (t, m) :: r, a, h => fun p hp => by
    rcases List.mem_cons.mp (show p ∈ (t, m - min m a) :: redL (a - min m a) r from hp) with e | hp
    · subst e
      show 0 ≤ m - min m a
      omega
    · exact red_nonneg (fun q hq => h q (List.mem_cons_of_mem _ hq)) p hp
theorem red_times : ∀ {l : LL} {a : Int}, (redL a l).map (·.1) = l.map (·.1)
  | [], _ => rfl
  | (t, m) :: r, a => by
    show t :: (redL (a - min m a) r).map (·.1) = t :: r.map (·.1)
    rw [red_times]
theorem red_len : ∀ {l : LL} {a : Int}, (redL a l).length = l.length
  | [], _ => rfl
  | (t, m) :: r, a => by
    show (redL (a - min m a) r).length + 1 = r.length + 1
    rw [red_len]
theorem take_red : ∀ {p : PL} {a : Int}, 0 ≤ a → (∀ q ∈ p, 0 < q.2.1) → (takeL a p).map tn = (redL a (p.map tn)).filter fun q => decide (0 < q.2)
  | [], _, _, _ => rfl
  | (t, n, i) :: r, a, ha, h => by
    have hn : 0 < n := h (t, n, i) List.mem_cons_self
    have hr : ∀ q ∈ r, 0 < q.2.1 := fun q hq => h q (List.mem_cons_of_mem _ hq)
    have hr0 : ∀ q ∈ r.map tn, 0 ≤ q.2 := fun q hq => by
      obtain ⟨z, hz, e⟩ := List.mem_map.mp hq
      subst e
      exact Int.le_of_lt (hr z hz)
    have keep : (r.map tn).filter (fun q => decide (0 < q.2)) = r.map tn := by
      rw [List.filter_eq_self.mpr]
      intro q hq
      obtain ⟨z, hz, e⟩ := List.mem_map.mp hq
      subst e
      exact decide_eq_true (hr z hz)
    show (if a ≤ 0 then (t, n, i) :: r else if n ≤ a then takeL (a - n) r else (t, n - a, i) :: r).map tn = ((t, n - min n a) :: redL (a - min n a) (r.map tn)).filter _
    by_cases c : a ≤ 0
    · have e : a = 0 := by omega
      subst e
      have em : min n 0 = 0 := by omega
      rw [if_pos c, em, List.filter_cons, if_pos (by simp; omega)]
      show (t, n) :: r.map tn = _
      rw [show (0 : Int) - 0 = 0 from rfl, red_zero hr0, keep]
      simp
    · rw [if_neg c]
      by_cases c2 : n ≤ a
      · have em : min n a = n := by omega
        rw [if_pos c2, em, List.filter_cons, if_neg (by simp), take_red (by omega) hr]
      · have em : min n a = a := by omega
        rw [if_neg c2, em, List.filter_cons, if_pos (by simp; omega)]
        show (t, n - a) :: r.map tn = _
        rw [show a - a = 0 by omega, red_zero hr0, keep]
theorem take_pos : ∀ {p : PL} {a : Int}, (∀ q ∈ p, 0 < q.2.1) → ∀ q ∈ takeL a p, 0 < q.2.1
  | [], _, _ => fun q h => (nomatch h)
  | (t, n, i) :: r, a, h => fun q hq => by
    have hr : ∀ q ∈ r, 0 < q.2.1 := fun q hq => h q (List.mem_cons_of_mem _ hq)
    have hq : q ∈ (if a ≤ 0 then (t, n, i) :: r else if n ≤ a then takeL (a - n) r else (t, n - a, i) :: r) := hq
    by_cases c : a ≤ 0
    · rw [if_pos c] at hq
      exact h q hq
    · rw [if_neg c] at hq
      by_cases c2 : n ≤ a
      · rw [if_pos c2] at hq
        exact take_pos hr q hq
      · rw [if_neg c2] at hq
        rcases List.mem_cons.mp hq with e | hq
        · subst e
          show 0 < n - a
          omega
        · exact hr q hq
theorem take_sub : ∀ {p : PL} {a : Int}, ∀ t ∈ (takeL a p).map (·.1), t ∈ p.map (·.1)
  | [], _, t, h => h
  | (t, n, i) :: r, a, b, hb => by
    have hb : b ∈ (if a ≤ 0 then (t, n, i) :: r else if n ≤ a then takeL (a - n) r else (t, n - a, i) :: r).map (·.1) := hb
    by_cases c : a ≤ 0
    · rw [if_pos c] at hb
      exact hb
    · rw [if_neg c] at hb
      by_cases c2 : n ≤ a
      · rw [if_pos c2] at hb
        exact List.mem_cons_of_mem _ (take_sub b hb)
      · rw [if_neg c2] at hb
        exact hb
theorem take_asc : ∀ {p : PL} {a : Int}, Asc (p.map (·.1)) → Asc ((takeL a p).map (·.1))
  | [], _, h => h
  | (t, n, i) :: r, a, h => by
    show Asc ((if a ≤ 0 then (t, n, i) :: r else if n ≤ a then takeL (a - n) r else (t, n - a, i) :: r).map (·.1))
    by_cases c : a ≤ 0
    · rw [if_pos c]
      exact h
    · rw [if_neg c]
      by_cases c2 : n ≤ a
      · rw [if_pos c2]
        exact take_asc h.2
      · rw [if_neg c2]
        exact h
theorem lapse_suffix (life time : Int) : ∀ {p : PL}, ∀ q ∈ (lapseL life time p).1, q ∈ p
  | [], q, h => h
  | (t, n, i) :: r, q, h => by
    have h : q ∈ (if t + life ≤ time then ((lapseL life time r).1, (t + life, n, i) :: (lapseL life time r).2) else ((t, n, i) :: r, [])).1 := h
    by_cases c : t + life ≤ time
    · rw [if_pos c] at h
      exact List.mem_cons_of_mem _ (lapse_suffix life time q h)
    · rw [if_neg c] at h
      exact h
theorem lapse_asc (life time : Int) : ∀ {p : PL}, Asc (p.map (·.1)) → Asc ((lapseL life time p).1.map (·.1))
  | [], h => h
  | (t, n, i) :: r, h => by
    show Asc ((if t + life ≤ time then ((lapseL life time r).1, (t + life, n, i) :: (lapseL life time r).2) else ((t, n, i) :: r, [])).1.map (·.1))
    by_cases c : t + life ≤ time
    · rw [if_pos c]
      exact lapse_asc life time h.2
    · rw [if_neg c]
      exact h
theorem tn_times (p : PL) : (p.map tn).map (·.1) = p.map (·.1) := by
  rw [List.map_map]
  rfl
theorem sum_tn (p : PL) : sumL (p.map tn) = sumP p := by
  unfold sumL sumP
  rw [List.map_map]
  rfl
/-- the program's state beside the law's -/
structure Rel (u : Int) (p : PL × PL) (s : LL × LL) : Prop where
  lots : p.1.map tn = s.1.filter fun q => decide (0 < q.2)
  gone : p.2.map tn = s.2
  asc : Asc (p.1.map (·.1))
  pos : ∀ q ∈ p.1, 0 < q.2.1
  nn : ∀ q ∈ s.1, 0 ≤ q.2
  le : ∀ q ∈ p.1, q.1 ≤ u
theorem rel_live {u life time : Int} {p : PL × PL} {s : LL × LL} (h : Rel u p s) : (lapseL life time p.1).1.map tn = liveL life time s.1 := by
  rw [lapse_fst life time h.asc, h.lots, List.filter_filter]
  rfl
theorem rel_gone {u life time : Int} {p : PL × PL} {s : LL × LL} (h : Rel u p s) : (lapseL life time p.1).2.map tn = goneL life time s.1 := by
  rw [lapse_snd life time h.asc, h.lots, List.filter_filter]
  rfl
theorem live_nn {span time : Int} {l : LL} : ∀ q ∈ liveL span time l, 0 < q.2 := fun q hq => by
  have h := (List.mem_filter.mp hq).2
  simp at h
  exact h.2
theorem filter_pos {l : LL} (h : ∀ q ∈ l, 0 < q.2) : l.filter (fun q => decide (0 < q.2)) = l := by
  rw [List.filter_eq_self.mpr]
  intro q hq
  simpa using h q hq
theorem rel_step {u life : Int} {i : Nat} {p : PL × PL} {s : LL × LL} {e : Ev} (h : Rel u p s) (hu : u ≤ e.t) (hn : 1 ≤ e.n) : Rel e.t (pstep life i p e) (lstep life s e) := by
  have hl := rel_live (life := life) (time := e.t) h
  have hg := rel_gone (life := life) (time := e.t) h
  have ha := lapse_asc life e.t h.asc
  have hp : ∀ q ∈ (lapseL life e.t p.1).1, 0 < q.2.1 := fun q hq => h.pos q (lapse_suffix life e.t q hq)
  have hle : ∀ q ∈ (lapseL life e.t p.1).1, q.1 ≤ e.t := fun q hq => Int.le_trans (h.le q (lapse_suffix life e.t q hq)) hu
  have gg : (p.2 ++ (lapseL life e.t p.1).2).map tn = s.2 ++ goneL life e.t s.1 := by rw [List.map_append, h.gone, hg]
  obtain ⟨k, t, n⟩ := e
  cases k with
  | true =>
    refine ⟨?_, gg, ?_, ?_, ?_, ?_⟩
    · show ((lapseL life t p.1).1 ++ [(t, n, i)]).map tn = (liveL life t s.1 ++ [(t, n)]).filter _
      rw [List.map_append, hl, List.filter_append, filter_pos live_nn]
      have e1 : ([(t, n)] : LL).filter (fun q => decide (0 < q.2)) = [(t, n)] := filter_pos fun q hq => by
        have e : q = (t, n) := by simpa using hq
        subst e
        exact hn
      rw [e1]
      rfl
    · show Asc (((lapseL life t p.1).1 ++ [(t, n, i)]).map (·.1))
      rw [List.map_append]
      exact asc_app ha fun b hb => by
        obtain ⟨z, hz, e⟩ := List.mem_map.mp hb
        subst e
        exact hle z hz
    · intro q hq
      rcases List.mem_append.mp (show q ∈ (lapseL life t p.1).1 ++ [(t, n, i)] from hq) with hq | hq
      · exact hp q hq
      · have e : q = (t, n, i) := by simpa using hq
        subst e
        exact hn
    · intro q hq
      rcases List.mem_append.mp (show q ∈ liveL life t s.1 ++ [(t, n)] from hq) with hq | hq
      · exact Int.le_of_lt (live_nn q hq)
      · have e : q = (t, n) := by simpa using hq
        subst e
        exact Int.le_trans (by decide) hn
    · intro q hq
      rcases List.mem_append.mp (show q ∈ (lapseL life t p.1).1 ++ [(t, n, i)] from hq) with hq | hq
      · exact hle q hq
      · have e : q = (t, n, i) := by simpa using hq
        subst e
        exact Int.le_refl _
  | false =>
    have hn0 : (0 : Int) ≤ n := Int.le_trans (by decide) hn
    refine ⟨?_, gg, ?_, ?_, ?_, ?_⟩
    · show (takeL n (lapseL life t p.1).1).map tn = (redL n (liveL life t s.1)).filter _
      rw [take_red hn0 hp, hl]
    · exact take_asc ha
    · exact take_pos hp
    · exact red_nonneg fun q hq => Int.le_of_lt (live_nn q hq)
    · intro q hq
      have h1 := take_sub q.1 (List.mem_map.mpr ⟨q, (show q ∈ takeL n (lapseL life t p.1).1 from hq), rfl⟩)
      obtain ⟨z, hz, e⟩ := List.mem_map.mp h1
      have := hle z hz
      show q.1 ≤ t
      have e : z.1 = q.1 := e
      have h3 : z.1 ≤ t := hle z hz
      omega
/-- a log in time order, ending by u -/
def Ord : Int → List Ev → Int → Prop
  | a, [], u => a ≤ u
  | a, e :: r, u => a ≤ e.t ∧ 1 ≤ e.n ∧ Ord e.t r u
theorem rel_run {life : Int} : ∀ {log : List Ev} {a u : Int} {i : Nat} {p : PL × PL} {s : LL × LL}, Rel a p s → Ord a log u → ∃ b, b ≤ u ∧ Rel b (prun life i p log) (lrun life s log)
  | [], a, u, i, p, s, h, o => ⟨a, o, h⟩
  | e :: r, a, u, i, p, s, h, o => rel_run (log := r) (rel_step (i := i) h o.1 o.2.1) o.2.2
theorem rel_nil {a : Int} : Rel a ([], []) ([], []) := ⟨rfl, rfl, trivial, fun _ h => (nomatch h), fun _ h => (nomatch h), fun _ h => (nomatch h)⟩
theorem play_lots {life u : Int} {log : List Ev} (o : Ord 0 log u) : (playL life u log).1.map tn = (lotsL life u log).1 ∧ (playL life u log).2.map tn = (lotsL life u log).2 := by
  obtain ⟨b, _, h⟩ := rel_run (life := life) (i := 0) (rel_nil (a := 0)) o
  refine ⟨rel_live h, ?_⟩
  show ((prun life 0 ([], []) log).2 ++ (lapseL life u (prun life 0 ([], []) log).1).2).map tn = (lrun life ([], []) log).2 ++ goneL life u (lrun life ([], []) log).1
  rw [List.map_append, h.gone, rel_gone h]
theorem ord_mono : ∀ {log : List Ev} {a u v : Int}, u ≤ v → Ord a log u → Ord a log v
  | [], _, _, _, h, o => Int.le_trans o h
  | _ :: _, _, _, _, h, o => ⟨o.1, o.2.1, ord_mono h o.2.2⟩
theorem ord_le : ∀ {log : List Ev} {a u : Int}, Ord a log u → a ≤ u
  | [], _, _, o => o
  | _ :: _, _, _, o => Int.le_trans o.1 (ord_le o.2.2)
theorem ord_at : ∀ {log : List Ev} {a u : Int}, Ord a log u → ∀ e ∈ log, e.t ≤ u ∧ 1 ≤ e.n ∧ a ≤ e.t
  | [], _, _, _, e, h => (nomatch h)
  | x :: r, a, u, o, e, h => by
    rcases List.mem_cons.mp h with q | h
    · subst q
      exact ⟨ord_le o.2.2, o.2.1, o.1⟩
    · obtain ⟨h1, h2, h3⟩ := ord_at o.2.2 e h
      exact ⟨h1, h2, Int.le_trans o.1 h3⟩
theorem ord_app : ∀ {log : List Ev} {a u : Int} {e : Ev}, Ord a log u → u ≤ e.t → 1 ≤ e.n → Ord a (log ++ [e]) e.t
  | [], _, _, _, o, h, hn => ⟨Int.le_trans o h, hn, Int.le_refl _⟩
  | _ :: _, _, _, _, o, h, hn => ⟨o.1, o.2.1, ord_app o.2.2 h hn⟩
theorem ord_apps : ∀ {ns : List Int} {log : List Ev} {a u t : Int}, Ord a log u → u ≤ t → (∀ n ∈ ns, 1 ≤ n) → Ord a (log ++ ns.map fun n => ⟨true, t, n⟩) t
  | [], log, a, u, t, o, h, _ => by
    rw [List.map_nil, List.append_nil]
    exact ord_mono h o
  | n :: r, log, a, u, t, o, h, hn => by
    have h1 : Ord a (log ++ [⟨true, t, n⟩]) t := ord_app (e := ⟨true, t, n⟩) o h (hn n List.mem_cons_self)
    have h2 := ord_apps (ns := r) h1 (Int.le_refl t) fun m hm => hn m (List.mem_cons_of_mem _ hm)
    rw [List.append_assoc] at h2
    exact h2
theorem prun_app (life : Int) : ∀ {log r : List Ev} {i : Nat} {s : PL × PL}, prun life i s (log ++ r) = prun life (i + log.length) (prun life i s log) r
  | [], _, _, _ => rfl
  | e :: l, r, i, s => by
    show prun life (i + 1) (pstep life i s e) (l ++ r) = prun life (i + (l.length + 1)) (prun life (i + 1) (pstep life i s e) l) r
    rw [prun_app life, show i + 1 + l.length = i + (l.length + 1) by omega]
theorem ok_app (life : Int) : ∀ {log r : List Ev} {i : Nat} {s : PL × PL}, okRun life i s (log ++ r) ↔ okRun life i s log ∧ okRun life (i + log.length) (prun life i s log) r
  | [], _, _, _ => ⟨fun h => ⟨trivial, h⟩, fun h => h.2⟩
  | e :: l, r, i, s => by
    show (cov life s e ∧ okRun life (i + 1) (pstep life i s e) (l ++ r)) ↔ (cov life s e ∧ okRun life (i + 1) (pstep life i s e) l) ∧ okRun life (i + (l.length + 1)) (prun life (i + 1) (pstep life i s e) l) r
    rw [ok_app life, show i + 1 + l.length = i + (l.length + 1) by omega, and_assoc]
theorem ok_earns (life : Int) : ∀ {ns : List Int} {t : Int} {i : Nat} {s : PL × PL}, okRun life i s (ns.map fun n => ⟨true, t, n⟩)
  | [], _, _, _ => trivial
  | n :: r, t, i, s => by
    refine ⟨fun h => ?_, ok_earns life⟩
    have h : true = false := h
    cases h
/-- a log that is good at u with a life -/
structure Good (life u : Int) (log : List Ev) : Prop where
  ord : Ord 0 log u
  ok : okRun life 0 ([], []) log
theorem good_nil {life u : Int} (h : 0 ≤ u) : Good life u [] := ⟨h, trivial⟩
theorem good_mono {life u v : Int} {log : List Ev} (g : Good life u log) (h : u ≤ v) : Good life v log := ⟨ord_mono h g.ord, g.ok⟩
theorem good_earns {life u t : Int} {log : List Ev} {ns : List Int} (g : Good life u log) (h : u ≤ t) (hn : ∀ n ∈ ns, 1 ≤ n) : Good life t (log ++ ns.map fun n => ⟨true, t, n⟩) :=
  ⟨ord_apps g.ord h hn, (ok_app life).mpr ⟨g.ok, ok_earns life⟩⟩
theorem good_spend {life u t n : Int} {log : List Ev} (g : Good life u log) (h : u ≤ t) (hn : 1 ≤ n) (hb : n ≤ balL life t log) : Good life t (log ++ [⟨false, t, n⟩]) :=
  ⟨ord_app (e := ⟨false, t, n⟩) g.ord h hn, (ok_app life).mpr ⟨g.ok, ⟨fun _ => hb, trivial⟩⟩⟩
theorem bal_lots {life u : Int} {log : List Ev} (o : Ord 0 log u) : balL life u log = sumL (lotsL life u log).1 := by
  unfold balL
  rw [← sum_tn, (play_lots o).1]
theorem gon_lots {life u : Int} {log : List Ev} (o : Ord 0 log u) : gonL life u log = sumL (lotsL life u log).2 := by
  unfold gonL
  rw [← sum_tn, (play_lots o).2]
/-- the law's own check at a spending -/
theorem lcov {life : Int} : ∀ {log : List Ev} {a u : Int} {i : Nat} {p : PL × PL} {s : LL × LL}, Rel a p s → Ord a log u → okRun life i p log →
    ∀ {l1 l2 : List Ev} {e : Ev}, log = l1 ++ e :: l2 → e.k = false → e.n ≤ sumL (liveL life e.t (lrun life s l1).1)
  | [], _, _, _, _, _, _, _, _, l1, l2, e, q, _ => by cases l1 <;> cases q
  | x :: r, a, u, i, p, s, h, o, k, [], l2, e, q, hk => by
    have q1 : x = e := (List.cons.inj q).1
    subst q1
    have := k.1 hk
    show x.n ≤ sumL (liveL life x.t s.1)
    rw [← rel_live h, sum_tn]
    exact this
  | x :: r, a, u, i, p, s, h, o, k, y :: l1, l2, e, q, hk => by
    obtain ⟨q1, q2⟩ := List.cons.inj q
    subst q1
    exact lcov (rel_step (i := i) h o.1 o.2.1) o.2.2 k.2 q2 hk
theorem good_lcov {life u : Int} {log : List Ev} (g : Good life u log) {l1 l2 : List Ev} {e : Ev} (q : log = l1 ++ e :: l2) (hk : e.k = false) : e.n ≤ sumL (liveL life e.t (lrun life ([], []) l1).1) :=
  lcov (i := 0) (rel_nil (a := 0)) g.ord g.ok q hk
theorem lrun_app (span : Int) : ∀ {log r : List Ev} {s : LL × LL}, lrun span s (log ++ r) = lrun span (lrun span s log) r
  | [], _, _ => rfl
  | e :: l, r, s => lrun_app span (log := l)
theorem good_pcov {life u : Int} {log : List Ev} (g : Good life u log) {l1 l2 : List Ev} {e : Ev} (q : log = l1 ++ e :: l2) (hk : e.k = false) : e.n ≤ sumP (lapseL life e.t (prun life 0 ([], []) l1).1).1 := by
  have h := g.ok
  rw [q] at h
  exact ((ok_app life).mp h).2.1 hk
theorem good_ppos {life u : Int} {log : List Ev} (g : Good life u log) {l1 l2 : List Ev} (q : log = l1 ++ l2) : (∀ z ∈ (prun life 0 ([], []) l1).1, 0 < z.2.1) := by
  have h := g.ord
  rw [q] at h
  have h1 : ∀ {l1 l2 : List Ev} {a : Int}, Ord a (l1 ++ l2) u → ∃ v, Ord a l1 v := by
    intro l1
    induction l1 with
    | nil => intro l2 a h; exact ⟨a, Int.le_refl _⟩
    | cons e r ih =>
      intro l2 a h
      obtain ⟨v, hv⟩ := ih h.2.2
      exact ⟨v, h.1, h.2.1, hv⟩
  obtain ⟨v, hv⟩ := h1 h
  obtain ⟨b, _, r⟩ := rel_run (life := life) (i := 0) (rel_nil (a := 0)) hv
  exact r.pos
/-! ### rows with equal first items added up -/
def mstep (f : LL) (p : Int × Int) : LL := match f.getLast? with
  | some q => if q.1 = p.1 then f.dropLast ++ [(p.1, q.2 + p.2)] else f ++ [p]
  | none => f ++ [p]
def mergeL (rows : LL) : LL := rows.foldl mstep []
end K16M
-- part H0
set_option Elab.async false
set_option linter.all false
set_option maxRecDepth 100000
set_option maxHeartbeats 0
namespace K16
open PySem PySem.W PySem.Calls PyProof.Rows
abbrev R : OpenRow := OpenLaw.row PySem.Challenge.rw_lapsepoints_k16_whole_accounts_step_by_s
abbrev qv : Program := view R.prog [48]
def namesA : List PySem.Str := ["PointError", "InvalidLog", "InvalidLife", "InvalidTime", "InvalidAmount", "InvalidIndex", "InvalidChoice", "InvalidSeen", "InvalidNumber", "NotEnough", "NothingToUndo", "Refused", "TooMany", "LAST_TIME", "LONGEST_LIFE", "LARGEST", "is_from", "need_life", "lapse", "take", "play", "merged"]
def namesB : List PySem.Str := ["lapsed_by", "balance_of", "Account", "_law_deck", "_law_pick", "_law_whole", "_law_name_of", "_law_try", "_law_one", "_law_sort", "_law_same", "_law_lots", "_law_there", "_law_gone", "_law_merged", "_law_deed", "_law_after", "_law_next", "_law_earn", "_law_do", "_law_right"]
def names : List PySem.Str := namesA ++ namesB
end K16
-- part KHot1
set_option Elab.async false
set_option linter.all false
set_option maxRecDepth 100000
set_option maxHeartbeats 4000000
/-! walks and unpacking while an exception is handled -/
namespace K16
open PySem PySem.Spec PyProof.Rows L2 HotX L2H
section
variable {prog : Program} {w : World} {A : Around} {E : Value → Shared → Prop} {s : Shared}
/-- a fresh StopIteration leaves a built-in while x1 is handled -/
theorem stop_hot {α : Type} {x1 : Addr} {Q : α → Shared → Prop} (hot : HotAt A x1 s.heap)
    (hE : ∀ h' e, (∀ b o, s.heap.get? b = some o → h'.get? b = some o) → (∃ o, h'.get? e = some o ∧ o.cls = .type "StopIteration") → E (.ref e) { s with heap := h' }) :
    wpAny (model prog w) A ((newExc (.type "StopIteration") [] >>= raiseNew) : Sem α) Q E s := by
  obtain ⟨hh, o1, vs1, h1, d1, c1⟩ := hot
  refine wpAny_bind ?_
  simp only [newExc, newTuple]
  refine wpAny_bind (wpAny_newObj_type ?_ (by size_fits))
  refine wpAny_bind (m := firstArgMember _ _) (wpAny_of_eq (a := Value.none) (by first | rfl | (simp only [firstArgMember]; rfl)) ?_)
  refine wpAny_newObj_type ?_ (by size_fits)
  refine raiseNew_hot ⟨hh, o1, vs1, Heap.get?_push_of_some _ (Heap.get?_push_of_some _ h1), d1, c1⟩ (Nat.ne_of_lt (Heap.lt_size (Heap.get?_push_of_some _ h1))) (Heap.get?_push_size _ rfl) rfl
    (by first | (simp; done) | (simp; omega) | (simp only [Array.size_append]; simp; omega)) ?_
  refine hE _ _ (fun b o e => ?_) ⟨_, Heap.get?_update_self _ (Heap.get?_push_size _ rfl) rfl, rfl⟩
  rw [Heap.get?_update_other _ _ (Nat.ne_of_gt (Heap.lt_size (Heap.get?_push_of_some _ e)))]
  exact Heap.get?_push_of_some _ (Heap.get?_push_of_some _ e)
theorem hot_but {x1 it : Addr} {h h' : Heap} (hot : HotAt A x1 h) (k : ∀ b o, b ≠ it → h.get? b = some o → h'.get? b = some o) (n : x1 ≠ it) : HotAt A x1 h' := by
  obtain ⟨hh, o1, vs1, h1, d1, c1⟩ := hot
  exact ⟨hh, o1, vs1, k _ _ n h1, d1, c1⟩
theorem tup_end_hot {it t x1 : Addr} {i : Nat} {items : Array Value} {Q : Option Value → Shared → Prop} (hot : HotAt A x1 s.heap) (n1 : x1 ≠ it)
    (hit : IsTupIter s.heap it t i) (ht : IsTup s.heap t items) (hx : items[i]? = none)
    (hQ : ∀ h', Heap.ExtBut it s.heap h' → Q none { s with heap := h' }) : wpAny (model prog w) A (pyNext (.ref it)) Q E s := by
  obtain ⟨o, ho, hc, hd⟩ := id hit
  obtain ⟨ol, hol, _, nl, hdl⟩ := ht
  unfold pyNext
  refine wpAny_bind (wpAny_attempt (wpAny_callSpecial?_slot (name := Str.ofString "__next__") hit.typeIs slot_tupleiter_next
    (wpAny_call_entry slot_tupleiter_next hit.typeIs entry_tupleiter_next ?_ (args_tupleiter_next _))))
  show wpAny _ _ (field (.ref it) 0 >>= _) _ _ s
  refine wpAny_bind (wpAny_field ho hd (x := .ref t) rfl ?_)
  show wpAny _ _ (if (Value.ref t == Value.none) = true then _ else _) _ _ s
  rw [if_neg (show ¬ ((Value.ref t == Value.none) = true) from Bool.false_ne_true)]
  show wpAny _ _ (field (.ref it) 1 >>= _) _ _ s
  refine wpAny_bind (wpAny_field ho hd (x := .int i 0) rfl ?_)
  show wpAny _ _ (seqItems? (.ref t) >>= _) _ _ s
  refine wpAny_bind (wpAny_seqItems hol hdl ?_)
  simp only [Int.toNat_natCast, hx]
  refine wpAny_bind (wpAny_rule (wpAny_bind (wpAny_setField ho hd (by simp) ?_)))
  refine stop_hot (x1 := x1) (hot_but (A := A.in1) (it := it) ⟨hot.1, hot.2⟩ (fun b o hb e => (Heap.SameBut.update ..).extBut b o hb e) n1) fun h' e k he => ?_
  obtain ⟨oe, hoe, hce⟩ := he
  refine wpAny_bind (wpAny_isInstance (T := "StopIteration") (b := true) ⟨oe, hoe, hce⟩ isSubtype_stop ?_)
  exact wpAny_pure (hQ _ fun b o hb e => k b o ((Heap.SameBut.update ..).extBut b o hb e))
theorem unpackItems_hot {t x1 : Addr} {items : Array Value} {Q : List Value → Shared → Prop} (hot : HotAt A x1 s.heap) (ht : IsTup s.heap t items)
    (hQ : ∀ h', Heap.ExtBut s.heap.objs.size s.heap h' → Q items.toList { s with heap := h' }) : wpAny (model prog w) A (unpackItems (.ref t) items.size none) Q E s := by
  have hlt : t ≠ s.heap.objs.size := by obtain ⟨o, ho, _⟩ := ht; exact Nat.ne_of_lt (Heap.lt_size ho)
  have hxl : x1 ≠ s.heap.objs.size := by obtain ⟨_, o, _, ho, _⟩ := hot; exact Nat.ne_of_lt (Heap.lt_size ho)
  unfold unpackItems
  refine wpAny_bind ?_
  unfold notIterableAtAll
  refine wpAny_bind (wpAny_specialOf ht.typeIs slot_tuple_iter.lookup ?_)
  refine wpAny_pure ?_
  simp only [Bool.false_eq_true, if_false]
  refine wpAny_bind (wpAny_holding (iter_tuple ht ?_))
  refine wpAny_bind (wpAny_holding (draw_tuple hlt items.size 0 _ _ ⟨_, Heap.get?_push_size _ rfl, rfl, rfl⟩ (ht.push _) (by omega) fun h₁ hit₁ hs₁ => ?_))
  have hall : List.take items.size (List.drop 0 items.toList) = items.toList := by
    rw [List.drop_zero]; exact List.take_of_length_le (by simp)
  rw [hall]
  rw [if_neg (by simp)]
  have ht₁ : IsTup h₁ t items := (ht.push _).extBut hs₁.extBut hlt
  have hot₁ : HotAt A x1 h₁ := hot_but (it := s.heap.objs.size) hot (fun b o hb e => hs₁.extBut b o hb (Heap.get?_push_of_some _ e)) hxl
  refine wpAny_bind (wpAny_holding (tup_end_hot hot₁ hxl hit₁ ht₁ (by simp) fun h₂ he₂ => ?_))
  simp only [Option.isSome_none, Bool.false_eq_true, if_false]
  exact wpAny_pure (hQ h₂ fun b o hb e => he₂ b o hb (hs₁.extBut b o hb (Heap.get?_push_of_some _ e)))
theorem assign_tup_hot {env : Env} {elts : List Expr} {x1} {pos : Pos} {t xe : Addr} {items : Array Value} {Q : Unit → Shared → Prop} (hot : HotAt A xe s.heap) (ht : IsTup s.heap t items)
    (hn : (assignEach elts env).length = items.size) (hstar : (assignEach elts env).findIdx? (·.1) = none)
    (h : ∀ h', Heap.ExtBut s.heap.objs.size s.heap h' → wpAny (model prog w) A (assignInOrder ((assignEach elts env).map (·.2)) items.toList) Q E { s with heap := h' }) :
    wpAny (model prog w) A (assign (.Tuple elts x1 pos) env (.ref t)) Q E s := by
  rw [assign_Tuple]
  refine wpAny_bind (wpAny_standAt ?_)
  unfold unpack
  rw [hn, hstar]
  exact wpAny_bind (wpAny_holding (unpackItems_hot hot ht h))
theorem nextOf_end_hot {it l x1 : Addr} {i : Nat} {items : Array Value} {Q : Value → Shared → Prop} (hot : HotAt A x1 s.heap) (n1 : x1 ≠ it)
    (hit : s.heap.IsListIter it l i) (hl : s.heap.IsList l items) (hx : items[i]? = none)
    (hE : ∀ h' e, Heap.ExtBut it s.heap h' → (∃ o, h'.get? e = some o ∧ o.cls = .type "StopIteration") → E (.ref e) { s with heap := h' }) :
    wpAny (model prog w) A (Builtin.SmallTypes.nextOf (.ref it)) Q E s := by
  obtain ⟨o, ho, hc, hd⟩ := id hit
  obtain ⟨ol, hol, _, nl, hdl⟩ := hl
  unfold Builtin.SmallTypes.nextOf
  refine wpAny_bind (wpAny_callSpecial?_slot (name := Str.ofString "__next__") hit.typeIs slot_listiter_next
    (wpAny_call_entry slot_listiter_next hit.typeIs entry_listiter_next ?_ (args_listiter_next _)))
  show wpAny _ _ (field (.ref it) 0 >>= _) _ _ s
  refine wpAny_bind (wpAny_field ho hd (x := .ref l) rfl ?_)
  show wpAny _ _ (if (Value.ref l == Value.none) = true then _ else _) _ _ s
  rw [if_neg (show ¬ ((Value.ref l == Value.none) = true) from Bool.false_ne_true)]
  show wpAny _ _ (field (.ref it) 1 >>= _) _ _ s
  refine wpAny_bind (wpAny_field ho hd (x := .int i 0) rfl ?_)
  show wpAny _ _ (seqItems? (.ref l) >>= _) _ _ s
  refine wpAny_bind (wpAny_seqItems hol hdl ?_)
  simp only [Int.toNat_natCast, hx]
  refine wpAny_bind (wpAny_rule (wpAny_bind (wpAny_setField ho hd (by simp) ?_)))
  refine stop_hot (x1 := x1) (hot_but (A := A.in1) (it := it) ⟨hot.1, hot.2⟩ (fun b o hb e => (Heap.SameBut.update ..).extBut b o hb e) n1) fun h' e k he => ?_
  exact hE _ e (fun b o hb q => k b o ((Heap.SameBut.update ..).extBut b o hb q)) he
theorem zip_end_hot {z TI TO i1 i2 l1 l2 x1 : Addr} {k1 : Nat} {xs : Array Value} {a b : Value} {Q : Option Value → Shared → Prop} (hot : HotAt A x1 s.heap) (nz : x1 ≠ z) (n1 : x1 ≠ i1) (D : ZipApart z TI TO i1 i2 l1 l2)
    (hz : IsZip s.heap z TI TO .none) (hTI : IsPair s.heap TI (.ref i1) (.ref i2)) (hTO : IsPair s.heap TO a b)
    (h1 : s.heap.IsListIter i1 l1 k1) (hl1 : s.heap.IsList l1 xs) (hx : xs[k1]? = none)
    (hQ : ∀ h', (∀ c o, c ≠ z → c ≠ i1 → s.heap.get? c = some o → h'.get? c = some o) → Q none { s with heap := h' }) : wpAny (model prog w) A (pyNext (.ref z)) Q E s := by
  have hT : s.TypeIs (.ref z) "zip" := ⟨_, hz, rfl⟩
  unfold pyNext
  refine wpAny_bind (wpAny_attempt (wpAny_callSpecial?_slot (name := Str.ofString "__next__") hT F.slot_zip_next
    (wpAny_call_entry F.slot_zip_next hT F.entry_zip_next ?_ (F.args_zip_next_1 _))))
  show wpAny _ _ (field (.ref z) 2 >>= _) _ _ _
  refine wpAny_bind (wpAny_field hz rfl (x := .bool false) rfl ?_)
  show wpAny _ _ (field (.ref z) 3 >>= _) _ _ _
  refine wpAny_bind (wpAny_field hz rfl (x := .ref TI) rfl ?_)
  refine wpAny_bind (wpAny_seqItems hTI rfl ?_)
  show wpAny _ _ (Builtin.SmallTypes.ownedTupleIsFree (.ref z) >>= _) _ _ _
  refine wpAny_bind ?_
  unfold Builtin.SmallTypes.ownedTupleIsFree
  refine wpAny_bind (wpAny_field hz rfl (x := .none) rfl (wpAny_pure ?_))
  simp only [if_true]
  refine wpAny_bind (wpAny_rule ?_)
  refine wpAny_bind (wpAny_field hz rfl (x := .ref TO) rfl ?_)
  refine wpAny_bind (wpAny_setField_rec hz (by simp) fun h₁ hz₁ hs₁ => ?_)
  replace hz₁ : IsZip h₁ z TI TO .ellipsis := hz₁
  refine wpAny_bind ?_
  simp only [List.zipIdx_cons, List.zipIdx_nil, List.forIn_cons, List.forIn_nil]
  refine wpAny_bind (wpAny_bind (wpAny_onRaise ?_))
  show wpAny _ _ (Builtin.SmallTypes.nextOf (.ref i1) >>= _) _ _ _
  have hot₁ : HotAt A.in1 x1 h₁ := hot_but (A := A.in1) (it := z) ⟨hot.1, hot.2⟩ (fun b o hb e => hs₁.extBut b o hb e) nz
  refine wpAny_bind (nextOf_end_hot hot₁ n1 (h1.extBut hs₁.extBut D.i1z) (hl1.extBut hs₁.extBut D.l1z) hx fun h₂ e hs₂ he => ?_)
  obtain ⟨oe, hoe, hce⟩ := he
  have hz₂ : IsZip h₂ z TI TO .ellipsis := hs₂ _ _ D.i1z.symm hz₁
  have hez : e ≠ z := fun x => by subst x; rw [hz₂] at hoe; cases hoe; simp at hce
  refine wpAny_setField_rec hz₂ (by simp) fun h₃ _ hs₃ => ?_
  have hoe3 := hs₃.extBut _ _ hez hoe
  refine wpAny_bind (wpAny_isInstance (T := "StopIteration") (b := true) ⟨oe, hoe3, hce⟩ isSubtype_stop ?_)
  exact wpAny_pure (hQ _ fun c o c1 c3 x => hs₃.extBut _ _ c1 (hs₂ _ _ c3 (hs₁.extBut _ _ c1 x)))
end
end K16
-- part KHot2
set_option Elab.async false
set_option linter.all false
set_option maxRecDepth 100000
set_option maxHeartbeats 4000000
namespace K16
open PySem PySem.Spec PyProof.Rows L2 HotX L2H
section
variable {X : Cx} {pos : Pos}
theorem pg_tupH {es : List Expr} {k : Nat} {t : TGs} {n : Nat} (hc : HotC X) (h : PGs X es t)
    (hn : (assignEach es X.env).length = n := by rfl) (hst : (assignEach es X.env).findIdx? (·.1) = none := by rfl) : PG X (.Tuple es k pos) (gTup X.K n t) := by
  refine ⟨fun pins s σ H v u Q I r hw => ?_⟩
  obtain ⟨a, xs, e1, hq, hl, hw⟩ := hw
  subst e1
  cases r
  obtain ⟨its, rv, ht, hz⟩ := I.tuple hq
  obtain ⟨x1, hot⟩ := hc.at I
  refine assign_tup_hot hot ht (by simp [hn, ← hl, rv.length]) hst fun h' hx => ?_
  have I1 : Inv X pins σ H { s with heap := h' } := I.kept (t' := s.toks) fun b o e => hx b o (Nat.ne_of_lt (Heap.lt_size e)) e
  exact h.run pins _ σ H xs _ Q I1 (by simpa using rv) hw
end
/-- two lists of one length walked side by side while an exception is handled -/
def ItzE (K : PySem.W.Frag) (a b : Addr) : It :=
  ⟨(Itz K a b).go, (Itz K a b).yld, fun i H => ∃ xs ys : List V, SqL K H a xs ∧ SqL K H b ys ∧ xs.length ≤ i⟩
theorem turn_zipH {P : Program} {w : World} {K : PySem.W.Frag} {elts : List Expr} {kk : Nat} {tpos : Pos} {a b z TI TO i1 i2 : Addr} (D : ZipApart z TI TO i1 i2 a b) :
    TurnH P w K (.Tuple elts kk tpos) (ItzE K a b) [z, TI, TO, i1, i2] z (fun i h => IsZip h z TI TO .none ∧ IsPair h TI (.ref i1) (.ref i2) ∧ (∃ x y, IsPair h TO x y) ∧ h.IsListIter i1 a i ∧ h.IsListIter i2 b i) where
  mem := by simp
  obj := fun i h st c hc => (turn_zip (P := P) (w := w) (K := K) (elts := elts) (kk := kk) (tpos := tpos) D).obj i h st c hc
  keep := fun i h h' st k => (turn_zip (P := P) (w := w) (K := K) (elts := elts) (kk := kk) (tpos := tpos) D).keep i h h' st k
  item := by
    intro X hP hw hK hc i pins s σ H E I hf st hg
    subst hP hw hK
    obtain ⟨hz, hTI, ⟨x0, y0, hTO⟩, h1, h2⟩ := st
    obtain ⟨xs, ys, x, y, hqx, hqy, hx, hy⟩ := hg
    obtain ⟨its, rv, p, _⟩ := I.list hqx
    obtain ⟨its2, rv2, p2, _⟩ := I.list hqy
    obtain ⟨u, hu, ru⟩ := rv.get hx
    obtain ⟨u2, hu2, ru2⟩ := rv2.get hy
    have hzl : z < s.heap.objs.size := Heap.lt_size hz
    refine wpAny_pyNext_zip_item D hz hTI hTO h1 h2 p.isList p2.isList (x := u) (y := u2) (by simpa using hu) (by simpa using hu2) fun h' z' TO' h1' h2' hT hsz hk => ?_
    refine ⟨_, rfl, wpAny_letOwnedTupleGo_zip (s := { s with heap := h' }) z' fun h'' z'' sb => ?_⟩
    have hT2 : h''.get? s.heap.objs.size = some { cls := .type "tuple", data := .seq #[u, u2] } := (sb.2 _ (Nat.ne_of_gt hzl)).trans hT
    have new : ObjOk X.prog X.w (upd H s.heap.objs.size (.tup [x, y])) h'' s.heap.objs.size (.tup [x, y]) :=
      ⟨by show 2 ≤ sizeLine; decide, [u, u2], .cons ru (.cons ru2 .nil), ⟨_, hT2, rfl, _, rfl⟩⟩
    have I1 : Inv X pins σ (upd H s.heap.objs.size (.tup [x, y])) { s with heap := h'' } :=
      I.turnedNew (t' := s.toks) (ch := [z, TI, TO, i1, i2]) (fun c o hb q => (sb.2 c (fun q' => hb (by simp [q']))).trans (hk c o (fun q' => hb (by simp [q'])) (fun q' => hb (by simp [q'])) (fun q' => hb (by simp [q'])) (fun q' => hb (by simp [q'])) q)) hf (Nat.le_refl _) new
    refine ⟨.ref s.heap.objs.size, _, I1, rfl, ⟨_, x, y, rfl, I.hok.fresh (Nat.le_refl _), rfl, fun l hl => by rw [I.list_inj hl hqx]; exact hx, fun l hl => by rw [I.list_inj hl hqy]; exact hy⟩, ⟨z'', ?_, ⟨u, u2, ?_⟩, ?_, ?_⟩, fun c hcm => ?_⟩
    · exact (sb.2 _ D.TIz).trans (hk _ _ D.TIz D.TITO D.TIi1 D.TIi2 hTI)
    · exact (sb.2 _ D.TOz).trans TO'
    · exact h1'.at fun o q => (sb.2 _ D.i1z).trans q
    · exact h2'.at fun o q => (sb.2 _ D.i2z).trans q
    · have hlt : c < s.heap.objs.size := by
        have e' : c = z ∨ c = TI ∨ c = TO ∨ c = i1 ∨ c = i2 := by simpa using hcm
        rcases e' with q | q | q | q | q
        · rw [q]; exact hzl
        · rw [q]; exact Heap.lt_size hTI
        · rw [q]; exact Heap.lt_size hTO
        · rw [q]; obtain ⟨_, e1, _⟩ := h1; exact Heap.lt_size e1
        · rw [q]; obtain ⟨_, e2, _⟩ := h2; exact Heap.lt_size e2
      rw [upd_ne (Nat.ne_of_lt hlt)]
      exact (hf c hcm).1
  done := by
    intro X hP hw hK hc i pins s σ H E I hf st hg
    subst hP hw hK
    obtain ⟨hz, hTI, ⟨x0, y0, hTO⟩, h1, h2⟩ := st
    obtain ⟨xs, ys, hqx, hqy, hend⟩ := hg
    obtain ⟨its, rv, p, _⟩ := I.list hqx
    have l1 := rv.length
    obtain ⟨pe, ⟨hh, v1, e1, c1⟩, hpe⟩ := hc
    have P1 := I.pin pe (List.mem_append_left _ hpe)
    have ap : ∀ c ∈ [z, TI, TO, i1, i2], pe.1 ≠ c := fun c hcm => (hf c hcm).2.2.2.2.2 pe (List.mem_append_left _ hpe)
    refine zip_end_hot (x1 := pe.1) ⟨hh, pe.2, v1, P1.1, e1, c1⟩ (ap z (by simp)) (ap i1 (by simp)) D hz hTI hTO h1 p.isList (by simp; omega) fun h' hk =>
      ⟨rfl, I.turnedL (t' := s.toks) (ch := [z, TI, TO, i1, i2]) (fun c o hb q => hk c o (fun q' => hb (by simp [q'])) (fun q' => hb (by simp [q'])) q) hf⟩
  self := fun A i s Q E st h => (turn_zip (P := P) (w := w) (K := K) (elts := elts) (kk := kk) (tpos := tpos) D).self A i s Q E st h
section
variable {X : Cx} {tg : Expr}
def iZipE (K : PySem.W.Frag) (ta : TA) : TI := fun σ H R => ta σ H fun vs H1 => ∃ a b xs ys, vs = [.ref a, .ref b] ∧ SqL K H1 a xs ∧ SqL K H1 b ys ∧ R (ItzE K a b) H1
theorem pi_zipH {e e2 : Expr} {ta : TA} {p pos tpos : Pos} {elts : List Expr} {kk : Nat} (hg : Gl X "zip") (hm : X.mg "zip" = none) (ha : PA X [e, e2] ta)
    (hs : starEach [e, e2] X.env = (false, eval e X.env) :: starEach [e2] X.env := by rfl) (hpl : (backTo pos (starEach [e2] X.env)).any (·.1) = false := by rfl) :
    PIH X (.Tuple elts kk tpos) (.Call (.Name "zip" p) [e, e2] [] pos) (iZipE X.K ta) := by
  refine ⟨fun pins s σ H R I h => ?_⟩
  refine Call_ (ld_blt I hg hm PyProof.Rows.boot_zip (PyProof.Rows.callWith_type1 (thn (ha.run pos pins s σ H _ I h) fun us s1 ⟨vs, H1, I1, r1, q1⟩ => ?_) hs hpl))
  obtain ⟨a, b, xs, ys, ex, hqx, hqy, q⟩ := q1
  subst ex
  cases r1 with
  | cons r rr =>
    cases rr with
    | cons r' rr =>
      cases rr
      cases r
      cases r'
      obtain ⟨its, rv, p1, _⟩ := I1.list hqx
      obtain ⟨its2, rv2, p2, _⟩ := I1.list hqy
      refine call_zip_2 p1.isList p2.isList fun h' hz hTI hTO h1 h2 hsz hk => wpAny_pyIter_zip hz ?_
      have I2 : Inv X pins σ H1 { s1 with heap := h' } := I1.kept (t' := s1.toks) hk
      refine ⟨s1.heap.objs.size + 4, [s1.heap.objs.size + 4, s1.heap.objs.size + 2, s1.heap.objs.size + 3, s1.heap.objs.size, s1.heap.objs.size + 1], _, _, H1, rfl, I2, turn_zipH (PySem.W.ktu_apart s1.heap.objs.size a b p1.lt p2.lt), ⟨hz, hTI, ⟨_, _, hTO⟩, h1, h2⟩, fun c hcm => ?_, q⟩
      have hle : s1.heap.objs.size ≤ c := by
        have e' : c = s1.heap.objs.size + 4 ∨ c = s1.heap.objs.size + 2 ∨ c = s1.heap.objs.size + 3 ∨ c = s1.heap.objs.size ∨ c = s1.heap.objs.size + 1 := by simpa using hcm
        rcases e' with q | q | q | q | q <;> (rw [q]; first | exact Nat.le_add_right _ _ | exact Nat.le_refl _)
      exact I1.fpOk hle (I1.hok.fresh hle)
end
/-- the pins that a state bears, told by its context -/
abbrev _root_.L2.Cx.withPn (X : Cx) (pn : List (Addr × Obj)) : Cx := { X with pn := pn }
theorem okPn {X : Cx} {pn : List (Addr × Obj)} (ok : X.Ok) : (X.withPn pn).Ok :=
  ⟨ok.mod, ok.kind, ok.glob, ok.blt, ok.above, ok.inj, ok.has, ok.cab, ok.hd, ok.frames, ok.stk, ok.exf, ok.bs, ok.bsz, ok.noex, ok.exfs, ok.funs, ok.frf⟩
theorem invPn {X : Cx} {pn pins : List (Addr × Obj)} {σ : L2.St} {H : Hp} {s : Shared} (I : Inv X pins σ H s)
    (h : ∀ p ∈ pn, s.heap.get? p.1 = some p.2 ∧ H p.1 = none ∧ p.1 ≠ X.env.locals ∧ p.1 ∉ X.fs ∧ ∀ v, p.2.data ≠ .cell v) : Inv (X.withPn pn) pins σ H s :=
  ⟨okPn I.ok, I.os, I.bare, I.base, I.loc, I.cell, I.free, I.freeC, fun p hp => (List.mem_append.mp hp).elim (h p) fun q => I.pin p (List.mem_append_right _ q), I.hok, I.len⟩
section
variable {X : Cx}
theorem lc_coreH {pins : List (Addr × Obj)} {s : Shared} {σ : L2.St} {H : Hp} {Q : VK} {elt tg iter : Expr} {ifs : List Expr} {scope : Scope} {own : List (Str × Nat)} {pos pos' : Pos} {wi : TI} {g : TG} {tt : TT} {te : TE} {use : Option (Value → Sem Unit)} {Qf : Value → Shared → Prop}
    (hc : HotC X) (hN : X.N.Nodup) (I : Inv X pins σ H s) (hi : PIH X tg iter wi) (ok : BlkOk X.N X.env.scope scope own)
    (hg : ∀ (s : Shared) (H : Hp) (C : Addr) (cl : List (Str × Addr)) (fp : List Addr), PG ((X.blk s H scope (compEnvC scope cl C X.env) fp).withPn X.pn) tg g) (ht : ∀ (s : Shared) (H : Hp) (C : Addr) (cl : List (Str × Addr)) (fp : List Addr), PTs ((X.blk s H scope (compEnvC scope cl C X.env) fp).withPn X.pn) ifs tt)
    (he : ∀ (s : Shared) (H : Hp) (C : Addr) (cl : List (Str × Addr)) (fp : List Addr), PE ((X.blk s H scope (compEnvC scope cl C X.env) fp).withPn X.pn) elt te) (hs : ∀ x, foldedSetIterable iter X.env x = pure x)
    (h : tLc wi g tt te (own.map (·.2)) σ H Q)
    (hRR : ∀ D C s' m H', Inv X pins σ H' s' → Q (.ref D) H' → s'.heap.Ns C m → FpOk X pins H' C → compPost (model X.prog X.w) X.A X.xe use Qf (.ref D) C (.ok .next) s') :
    wpAny (model X.prog X.w) X.A (comprehension (.ListComp elt [⟨tg, iter, ifs, 0⟩] scope pos) scope X.env pos' (newList []) false (eval iter X.env) use) Qf X.xe s := by
  have hfree : ∀ y ∈ scope.names, y.2 = .free → ∃ c, X.env.cells.lookup y.1 = some c := fun y hy e => by
    rcases ok.free y hy e with k | k
    · exact I.ok.has _ (.inl k)
    · exact I.ok.has _ (.inr k)
  refine wpAny_comprehension_free (use := use) rfl hs (closure_ok hfree) ok.kind (fun y hy e => by rw [ok.uniq y hy, e])
    (thn (hi.run pins s σ H _ I h) fun xv s1 hx => thn hx fun itv s2 h2 => ?_)
  obtain ⟨it, fp, tn, J, H2, e, I2, T, st2, f2, q⟩ := h2
  subst e
  refine wpAny_newObj_type (newEnv_comp ?_) (by show 0 ≤ sizeLine; decide)
  generalize hD : s2.heap.objs.size = D
  have hDn : H2 D = none := I2.hok.fresh (Nat.le_of_eq hD)
  obtain ⟨W, ⟨m0, w0⟩, turn⟩ := q D hDn
  generalize hs3 : ({ s2 with heap := s2.heap.push { cls := .type "list", data := .seq ([] : List Value).toArray } } : Shared) = s3
  have I3 : Inv X pins σ (upd H2 D (.lst [])) s3 := by
    rw [← hs3]
    refine I2.laid (t' := s2.toks) (fun b o e => Heap.get?_push_of_some _ e) (Nat.le_of_eq hD) ⟨Nat.zero_le _, [], 0, .nil, ?_⟩
    rw [← hD]
    exact Heap.get?_push_size _ rfl
  have h3 : s3.heap = s2.heap.push { cls := .type "list", data := .seq ([] : List Value).toArray } := by rw [← hs3]
  have f3 : ∀ b ∈ fp, FpOk X pins (upd H2 D (.lst [])) b ∧ b < s3.heap.objs.size := fun b hb => by
    obtain ⟨o, e, _⟩ := T.obj _ _ st2 b hb
    have hlt : b < s2.heap.objs.size := Heap.lt_size e
    refine ⟨⟨?_, (f2 b hb).2⟩, by rw [h3, Heap.size_push]; exact Nat.lt_succ_of_lt hlt⟩
    rw [upd_ne (by rw [← hD]; exact Nat.ne_of_lt hlt)]
    exact (f2 b hb).1
  have st3 : tn 0 s3.heap := T.keep _ _ _ st2 fun b _ o e => by rw [h3]; exact Heap.get?_push_of_some _ e
  have I4 := block_start I3 ok hN f3
  have I4' := invPn (pn := X.pn) I4 fun p hp => by
    obtain ⟨a1, a2, a3, a4, a5⟩ := I3.pin p (List.mem_append_left _ hp)
    refine ⟨pushCells_keeps _ _ _ _ (Heap.get?_push_of_some _ a1), a2, Nat.ne_of_lt (Heap.lt_size a1), fun hm => ?_, a5⟩
    exact (List.mem_cons.mp (I3.stkSub p.1 hm)).elim a3 a4
  have pg := hg s3 (upd H2 D (.lst [])) s3.heap.objs.size (cellsFrom (s3.heap.objs.size + 1) scope.names (cloFrom X.env.cells scope.names [])) fp
  have pt := ht s3 (upd H2 D (.lst [])) s3.heap.objs.size (cellsFrom (s3.heap.objs.size + 1) scope.names (cloFrom X.env.cells scope.names [])) fp
  have pe := he s3 (upd H2 D (.lst [])) s3.heap.objs.size (cellsFrom (s3.heap.objs.size + 1) scope.names (cloFrom X.env.cells scope.names [])) fp
  show codeAny _ _ (.compStart (.ListComp elt [⟨tg, iter, ifs, 0⟩] scope pos) 0 (.ref it) (.ref D) (compEnvC scope (cellsFrom (s3.heap.objs.size + 1) scope.names (cloFrom X.env.cells scope.names [])) s3.heap.objs.size X.env)) (compPost (model X.prog X.w) X.A X.xe use Qf (.ref D) s3.heap.objs.size) { s3 with heap := pushCells (s3.heap.push { cls := .type "dict", data := .dict #[] }) scope.names }
  have nfp : ∀ b ∈ fp, (upd H2 D (.lst [])) b = none := fun b hb => (f3 b hb).1.1
  generalize hce : compEnvC scope (cellsFrom (s3.heap.objs.size + 1) scope.names (cloFrom X.env.cells scope.names [])) s3.heap.objs.size X.env = ce at I4' pg pt pe ⊢
  have cL : ce.locals = s3.heap.objs.size := by subst hce; rfl
  clear I4
  generalize hH3 : upd H2 D (.lst []) = H3 at I3 I4' pg pt pe w0 nfp f3
  generalize hs4 : ({ s3 with heap := pushCells (s3.heap.push { cls := .type "dict", data := .dict #[] }) scope.names } : Shared) = s4 at I4' ⊢
  have st4 : tn 0 s4.heap := T.keep _ _ _ st3 fun b _ o e => by rw [← hs4]; exact pushCells_keeps _ _ _ _ (Heap.get?_push_of_some _ e)
  have hcB : HotC ((X.blk s3 H3 scope ce fp).withPn X.pn) := hc
  have pnfp : ∀ b ∈ fp, ∀ p ∈ X.pn, p.1 ≠ b := fun b hb p hp => (f3 b hb).1.2.2.2.2.2 p (List.mem_append_left _ hp)
  have stat : ∀ {σ' : L2.St} {H' : Hp} {s' : Shared}, Inv ((X.blk s3 H3 scope ce fp).withPn X.pn) [] σ' H' s' → (∀ b ∈ fp, H' b = none) → ∀ b ∈ fp, FpOk ((X.blk s3 H3 scope ce fp).withPn X.pn) [] H' b := fun {σ' H' s'} I' hn b hb =>
    ⟨hn b hb, (I'.ok.exf b hb).1, I'.ok.exfs b hb, .inl hb, fun x c e => (I'.ok.exf b hb).2 x c e, fun p hp => pnfp b hb p (by simpa using (show p ∈ X.pn ++ [] from hp))⟩
  have loop : codeAny (model X.prog X.w) X.A (.compLoop (.ListComp elt [⟨tg, iter, ifs, 0⟩] scope pos) 0 (.ref it) (.ref D) ce) (compPost (model X.prog X.w) X.A X.xe use Qf (.ref D) s3.heap.objs.size) s4 := by
    refine compLoop_any (fun n s' => ∃ i H', Inv ((X.blk s3 H3 scope ce fp).withPn X.pn) [] (wipe σ (own.map (·.2))) H' s' ∧ tn i s'.heap ∧ (∀ b ∈ fp, H' b = none) ∧ W i n H') ?_ m0 ⟨0, H3, I4', st4, nfp, w0⟩
    rintro n s5 ⟨i, H5, I5, st5, n5, w5⟩
    rcases turn i n H5 w5 with ⟨stop, qq⟩ | ⟨go, Nx, hNx, step⟩
    · have td := T.done ((X.blk s3 H3 scope ce fp).withPn X.pn) rfl rfl rfl hcB i [] s5 _ H5 (fun _ _ => False) I5 (stat I5 n5) st5 stop
      refine thnF td fun r s6 ⟨hr, I6⟩ => ?_
      subst hr
      have I7 : Inv X pins σ H5 s6 := I3.call' (ch := fp) I6.os I6.base I6.hok I6.bare fun b hb => ⟨(f3 b hb).1.2.2.2.1, (f3 b hb).1.2.1, (f3 b hb).1.2.2.2.2.1, (f3 b hb).1.2.2.2.2.2⟩
      have nC : H5 s3.heap.objs.size = none := by
        have z : H5 ce.locals = none := I6.free
        rw [cL] at z
        exact z
      obtain ⟨m, hn, _⟩ := I6.loc
      have hn : s6.heap.Ns ce.locals m := hn
      rw [cL] at hn
      exact hRR D s3.heap.objs.size s6 m H5 I7 qq hn (I3.fpOk (Nat.le_refl _) nC)
    · have ti := T.item ((X.blk s3 H3 scope ce fp).withPn X.pn) rfl rfl rfl hcB i [] s5 _ H5 (fun _ _ => False) I5 (stat I5 n5) st5 go
      refine thnF ti fun r s6 ⟨u, hr, h6⟩ => ?_
      subst hr
      refine thnF h6 fun _ s7 ⟨x, H7, I7, r7, y7, st7, n7⟩ => ?_
      have I7' := I7.pinned (stat I7 n7) (T.obj _ _ st7)
      refine thnF (pg.run _ s7 _ H7 x u _ I7' r7 (step x H7 y7)) fun _ s8 ⟨σ8, H8, I8, hw8, q8⟩ => ?_
      refine thnF (pt.run _ s8 σ8 H8 _ I8 q8) fun b s9 ⟨H9, I9, q9⟩ => ?_
      have fin : ∀ {s' : Shared} {H' : Hp}, Inv ((X.blk s3 H3 scope ce fp).withPn X.pn) ([] ++ pinsAt fp s7.heap) σ8 H' s' → Nx H' → ∃ m, m < n ∧ ∃ i H', Inv ((X.blk s3 H3 scope ce fp).withPn X.pn) [] (wipe σ (own.map (·.2))) H' s' ∧ tn i s'.heap ∧ (∀ b ∈ fp, H' b = none) ∧ W i m H' := fun {s' H'} I' nx => by
        obtain ⟨m', hm, w'⟩ := hNx H' nx
        have pin' : ∀ b ∈ fp, ∀ o, s7.heap.get? b = some o → s'.heap.get? b = some o ∧ H' b = none := fun b hb o e =>
          let z := I'.pin (b, o) (List.mem_append_right _ (List.mem_append_right _ (mem_pinsAt hb e)))
          ⟨z.1, z.2.1⟩
        have hl : (wipe σ (own.map (·.2))).length = σ8.length := by rw [← hw8, wipe_length]
        refine ⟨m', hm, i + 1, H', (I'.unpinned (pins := [])).weak hl (fun j v e => ?_), T.keep _ _ _ st7 fun b hb o e => (pin' b hb o e).1, fun b hb => ?_, w'⟩
        · rw [← hw8] at e
          exact (wipe_some e).1
        · obtain ⟨o, e, _⟩ := T.obj _ _ st7 b hb
          exact (pin' b hb o e).2
      cases b with
      | false =>
        simp only [Bool.false_eq_true, if_false] at q9 ⊢
        exact fin I9 q9
      | true =>
        simp only [if_true] at q9 ⊢
        refine thnF (pe.run _ s9 σ8 H9 _ I9 q9) fun z s10 ⟨yv, H10, I10, r10, acc, hD10, hz10, nx⟩ => ?_
        exact app_ok (X := (X.blk s3 H3 scope ce fp).withPn X.pn) I10 hD10 hz10 r10 fun s11 I11 => fin I11 nx
  exact codeAny_compStart_list loop (T.self X.A 0 _ _ _ st4 loop)
theorem ps_setLcH {i : Nat} {y : Str} {py : Pos} {elt tg iter : Expr} {ifs : List Expr} {scope : Scope} {own : List (Str × Nat)} {pos spos : Pos} {wi : TI} {g : TG} {tt : TT} {te : TE} (hc : HotC X) (hN : X.N.Nodup) (hy : X.N[i]? = some y) (hyl : X.env.scope.names.lookup y = some .local)
    (hsw : swapsWith (.ListComp elt [⟨tg, iter, ifs, 0⟩] scope pos) (some (.Name y py)) spos.line X.env = pure true) (hi : PIH X tg iter wi) (ok : BlkOk X.N X.env.scope scope own)
    (hg : ∀ (s : Shared) (H : Hp) (C : Addr) (cl : List (Str × Addr)) (fp : List Addr), PG ((X.blk s H scope (compEnvC scope cl C X.env) fp).withPn X.pn) tg g) (ht : ∀ (s : Shared) (H : Hp) (C : Addr) (cl : List (Str × Addr)) (fp : List Addr), PTs ((X.blk s H scope (compEnvC scope cl C X.env) fp).withPn X.pn) ifs tt)
    (he : ∀ (s : Shared) (H : Hp) (C : Addr) (cl : List (Str × Addr)) (fp : List Addr), PE ((X.blk s H scope (compEnvC scope cl C X.env) fp).withPn X.pn) elt te) (hs : ∀ x, foldedSetIterable iter X.env x = pure x := by intro _; rfl) :
    PS X (.Assign [.Name y py] (.ListComp elt [⟨tg, iter, ifs, 0⟩] scope pos) spos) (tAsg (tLc wi g tt te (own.map (·.2))) (gName i)) := by
  refine ⟨fun pins s σ H D I h => ?_⟩
  rw [exec_Assign_Name_used _ _ _ _ hsw]
  refine wpAny_bind (wpAny_standAt (wpAny_bind ?_))
  show wpAny _ X.A (do let _ ← comprehension (.ListComp elt [⟨tg, iter, ifs, 0⟩] scope pos) scope X.env (firstIterPos [⟨tg, iter, ifs, 0⟩] pos) (newList []) false (eval iter X.env) (some (assign (.Name y py) X.env))) _ _ s
  have h : tLc wi g tt te (own.map (·.2)) σ H (fun x H1 => gName i x σ H1 D.nx) := h
  refine wpAny_bind (thn (lc_coreH (Qf := fun _ s' => SP X pins D .next s') hc hN I hi ok hg ht he hs h fun L C s' m H' I' q hn f => ?_) fun _ s' hq => wpAny_pure (wpAny_pure hq))
  show wpAny _ _ (assign (.Name y py) X.env (.ref L)) _ _ _
  refine wpAny_assign_Name (store_ok2 (v := V.ref L) I' hN hy (.inl hyl) rfl (fun s2 I2 ⟨a, sb, ha⟩ => ?_) (.inr hyl))
  obtain ⟨f0, f1, f2, f3, f4, f5⟩ := f
  have haC : C ≠ a := by
    rcases ha with z | z
    · rw [z]; exact f1
    · exact fun e => f4 y a z e.symm
  refine ⟨m, hn.sameBut sb haC, fun h3 sb3 => ?_⟩
  exact ⟨_, H', I2.turned (t' := s2.toks) (fun b o hb e => (sb3.2 b hb).trans e) f0 f1 f3 f4 f5, q⟩
end
end K16
-- part KExc1
set_option Elab.async false
set_option linter.all false
set_option maxRecDepth 100000
set_option maxHeartbeats 4000000
/-! several except clauses that name the exception -/
namespace K16
open PySem PySem.Spec PyProof.Rows L2N
open L2 hiding Takes XE CX takes_of passes_call MkP PMk ps_raise mk_of ps_try_as HdsOk ps_try_many pmk_own passAt Sky.land St
abbrev Clause := Value × (Addr → Value → Option Addr → TS)
/-- behind a suite its name is gone -/
def gone (i : Nat) (D : Ends) : Ends := { nx := fun σ' H' => D.nx (σ'.set i none) H', rt := D.rt, bk := fun σ' H' => D.bk (σ'.set i none) H', ct := fun σ' H' => D.ct (σ'.set i none) H' }
def wMN (K : PySem.W.Frag) (i : Nat) (Wout : WX) (D : Ends) : List Clause → WX
  | [] => Wout
  | (c, ts) :: r => fun cls d σ H => ∃ b, PySem.W.exmOne K cls c = some b ∧ (b = true → ∀ a, H a = none → ts a cls d (gone i D) (σ.set i (some (.ref a))) H) ∧ (b = false → wMN K i Wout D r cls d σ H)
inductive HdsN (X : Cx) (n : Str) : List ExceptHandler → List Clause → Prop
  | nil : HdsN X n [] []
  | cons {x : Str} {c : Value} {ts : Addr → Value → Option Addr → TS} {b₀ : Stmt} {suite : List Stmt} {np pos' : Pos} {hds : List ExceptHandler} {l : List Clause} (hc : Names X x c)
      (hsu : ∀ (a : Addr) (oe : Obj) (cls : Value) (d : Option Addr) (pn : List (Addr × Obj)), Zn cls d oe → (∃ vs, oe.data = .fields vs) → PSs (X.suite a ((a, oe) :: pn)) (b₀ :: suite) (ts a cls d)) (r : HdsN X n hds l) :
      HdsN X n (.ExceptHandler (some (.Name x np)) (some n) (b₀ :: suite) pos' :: hds) ((c, ts) :: l)
section
variable {X : Cx} {n : Str} {i : Nat} {body : List Stmt} {h₀ : ExceptHandler} {hds : List ExceptHandler} {l : List Clause} {pos : Pos} {tb : WX → TS} {Wout : WX}
theorem ps_try_named (hs : X.stack = X.env :: X.outer) (hf : X.env.frame = some X.env.locals) (hN : X.N.Nodup) (hi : X.N[i]? = some n) (hln : X.env.kindOf n = some .local) (tk : Takes X Wout)
    (hb : ∀ (W : WX) (pn : List (Addr × Obj)) (xe : Value → Shared → Prop), Takes (X.tr pn xe) W → PassesOwn (model X.prog X.w) X.A X.env xe → PSs (X.tr pn xe) body (tb W))
    (hh : HdsN X n (h₀ :: hds) l) : PS X (.Try body (h₀ :: hds) [] [] pos) (fun D σ H => tb (wMN X.K i Wout D l) D σ H) := by
  refine ⟨fun pins s σ H D I h => ?_⟩
  have ok := I.ok
  have hfr : X.A.frames = some (X.env :: X.outer) := by rw [ok.frames, hs]
  have hloc : Loc X.env.scope n := .inl hln
  refine wpAny_Try_except ?_
  refine wpAny_mono ((hb (wMN X.K i Wout D l) (X.pn ++ pins) (fun e s₁ => wpAny (model X.prog X.w) X.A (noteFrame e X.env) (fun _ s₂ => wpAny (model X.prog X.w) X.A (setFlight e none) (fun _ s₃ =>
    wpAny (model X.prog X.w) X.A (handleBy e X.env (h₀ :: hds)) (SP X pins D) X.xe s₃) X.xe s₂) X.xe s₁) (fun u s' xx => ?_) PassesOwn.looking).run [] s σ H D (I.toTry _) h) (fun f s1 hsp => ?_) (fun e s1 he => he)
  · obtain ⟨a, B, sI, pins', σ', H', cls, d, rfl, J', nb, up, sky, na, os, ag, w⟩ := xx
    have J : Inv X pins σ' H' sI := J'.ofTry ok
    have sky' : Sky B (X.env :: X.outer) a (Zn cls d) X.env.locals s'.heap := by rw [← hs]; exact sky
    show wpAny (model X.prog X.w) X.A (noteFrame (.ref a) X.env) _ _ _
    refine Sky.land Zn.steady hfr hf sky' fun h3 fl3 up3 => ?_
    have J3 : Inv X pins σ' H' { s' with heap := h3 } := J.landed nb fl3.1 (up.trans up3) os ag
    obtain ⟨oe3, vs3, he3, hz3, hd3⟩ := fl3.there
    have nfr : a ∉ frs (X.env :: X.outer) := fun hm => by
      obtain ⟨_, o', e', hnf⟩ := fl3.2.2.1.mem hm
      rw [he3] at e'; cases e'
      exact hnf _ hd3
    have nL : a ≠ X.env.locals := fun z => nfr (List.mem_filterMap.mpr ⟨X.env, List.mem_cons_self, by rw [hf, z]⟩)
    have nF : a ∉ X.fs := fun hm => by
      obtain ⟨e, he, q⟩ := List.mem_filterMap.mp hm
      exact nfr (List.mem_filterMap.mpr ⟨e, List.mem_cons_of_mem _ he, q⟩)
    have S3 := J3.suite he3 hd3 na nL nF
    have go : ∀ {hds' : List ExceptHandler} {l' : List Clause}, HdsN X n hds' l' → wMN X.K i Wout D l' cls d σ' H' →
        wpAny (model X.prog X.w) X.A (handleBy (.ref a) X.env hds') (SP X pins D) X.xe { s' with heap := h3 } := by
      intro hds' l' hk
      induction hk with
      | nil =>
        intro w
        refine wpAny_handleBy_nil ?_
        obtain ⟨k1, k2, k3, oe, vs, T, oT, ts', he, hz, hd, h1, hr⟩ := id fl3
        unfold PySem.passOn
        refine wpAny_bind (wpAny_field he hd h1 ?_)
        rw [if_neg (show ¬ ((Value.ref T == Value.none) = true) from by simp)]
        have fin : wpAny (model X.prog X.w) X.A (setFlight (.ref a) X.env.frame) (fun _ s4 => wpAny (model X.prog X.w) X.A (throw (.ref a) : Sem Flow) (SP X pins D) X.xe s4) X.xe { s' with heap := h3 } := by
          rw [hf]
          refine HandSPX.setFlight_upZ fl3 fun h4 hh4 up4 => wpAny_throw (tk _ _ ?_)
          exact ⟨a, B, sI, pins, σ', H', cls, d, rfl, J, nb, (up.trans up3).trans up4, .inr (.inr (by rw [hs]; exact hh4)), na, os, ag, w⟩
        first
          | exact wpAny_bind (wpAny_pure (wpAny_bind fin))
          | exact wpAny_bind fin
      | @cons x c ts b₀ suite np pos' hds2 l2 hc hsu r ih =>
        intro w
        obtain ⟨b, hb1, hyes, hno⟩ := w
        refine wpAny_handleBy_cons (codeAny_handlers_test ?_) (by intro q; cases q)
        have LT : PySem.W.Looks (model X.prog X.w) h3 (typeOf (.ref a)) cls := fun A Q E s k q => wpAny_typeOf_ref (k _ _ he3) (by rw [hz3.1]; exact q)
        have LM := PySem.W.exm_one (M := model X.prog X.w) (J3.kIn) LT hb1
        have test : ∀ {Q : Value → Shared → Prop} {E : Value → Shared → Prop}, Q c { s' with heap := h3 } → wpAny (model X.prog X.w) (X.A.mark (some (.ref a))) (eval (.Name x np) X.env) Q E { s' with heap := h3 } := fun {Q E} q => by
          obtain ⟨hg, hdbg, hm | ⟨hm, hv, hnn⟩⟩ := hc
          · exact ld_glob (X := X.suite a ((a, oe3) :: (X.pn ++ pins))) S3 hg hm q hdbg
          · exact ld_blt (X := X.suite a ((a, oe3) :: (X.pn ++ pins))) S3 hg hm hv q hnn hdbg
        refine test (LM.here ?_)
        cases b with
        | true =>
          refine codeAny_handlers_suite_as ?_
          refine HandSPX.lands_againZ fl3 fun h4 fl4 up4 => ?_
          have J4 : Inv X pins σ' H' { s' with heap := h4 } := J.landed nb fl4.1 ((up.trans up3).trans up4) os ag
          obtain ⟨oe4, vs4, he4, hz4, hd4⟩ := fl4.there
          have S4 := J4.suite he4 hd4 na nL nF
          refine store_ok (X := X.suite a ((a, oe4) :: (X.pn ++ pins))) (v := .ref a) S4 hN hi hloc rfl (fun s5 S5 => ?_) (.inr hln)
          refine wpAny_mono ((hsu a oe4 cls d (X.pn ++ pins) hz4 ⟨_, hd4⟩).run [] s5 _ H' _ S5 (hyes rfl a na)) (fun f s6 hsp => ?_) (fun _ _ z => False.elim z)
          have end_ : ∀ {σ6 : L2.St} {H6 : Hp} {Q : Shared → Prop}, Inv (X.suite a ((a, oe4) :: (X.pn ++ pins))) [] σ6 H6 s6 → (∀ s7, Inv X pins (σ6.set i none) H6 s7 → Q s7) →
              wpAny (model X.prog X.w) X.A (do bindName X.env n .none; unbindBehindTheSuite X.env n pos') (fun _ s7 => Q s7) X.xe s6 := fun {σ6 H6 Q} S6 hq => gone_ok (S6.unsuite ok) hN hi hln hq
          cases f with
          | next =>
            obtain ⟨σ6, H6, S6, q6⟩ := hsp
            exact end_ S6 fun s7 J7 => ⟨_, _, J7, q6⟩
          | brk =>
            obtain ⟨σ6, H6, S6, q6⟩ := hsp
            exact end_ S6 fun s7 J7 => ⟨_, _, J7, q6⟩
          | cont =>
            obtain ⟨σ6, H6, S6, q6⟩ := hsp
            exact end_ S6 fun s7 J7 => ⟨_, _, J7, q6⟩
          | ret u =>
            obtain ⟨v6, σ6, H6, S6, r6, q6⟩ := hsp
            exact end_ S6 fun s7 J7 => ⟨_, _, _, J7, r6, q6⟩
        | false =>
          show wpAny _ X.A (handleBy (.ref a) X.env hds2) _ _ _
          exact ih (hno rfl)
    exact go hh w
  · cases f with
    | next =>
      obtain ⟨σ', H', J', q⟩ := hsp
      exact wpAny_execs_nil ⟨σ', H', J'.ofTry ok, q⟩
    | brk =>
      obtain ⟨σ', H', J', q⟩ := hsp
      exact ⟨σ', H', J'.ofTry ok, q⟩
    | cont =>
      obtain ⟨σ', H', J', q⟩ := hsp
      exact ⟨σ', H', J'.ofTry ok, q⟩
    | ret u =>
      obtain ⟨v, σ', H', J', r, q⟩ := hsp
      exact ⟨v, σ', H', J'.ofTry ok, r, q⟩
end
theorem takesN {X : Cx} : Takes X (fun _ _ _ _ => False) := fun _ _ ⟨_, _, _, _, _, _, _, _, _, _, _, _, _, _, _, _, w⟩ => w.elim
/-! ### a def called in an except suite, its promise told of the exception that is handled -/
section
open L2H HotX
abbrev SpP := Addr × Obj → Sp
structure FnP (P : Program) (w : World) (K : PySem.W.Frag) (mg : Str → Option Value) (base : Heap) (CX : CXT) (k : Nat) (f : Addr) (fd : FuncData) (ps : List Str) (sp : SpP) : Prop where
  len : ∀ p vs H Q E, sp p vs H Q E → vs.length = ps.length
  run : ∀ (A : Around) (outer : List Env) (s : Shared) (H : Hp) (args : Args) (us : List Value) (vs : List V) (Q : VK) (E : XK) (p : Addr × Obj), RoomH k A → Hot1 A p → PinOk outer H s p → Env0 P w K mg base A outer s H → BindsTo s fd args (ps.zip us) → Vals vs us → sp p vs H Q E →
    codeAny (model P w) A (.call (.ref f) args) (CR CX outer P w H s Q E) s
theorem fnp_of {CX : CXT} {P : Program} {w : World} {K : PySem.W.Frag} {mg : Str → Option Value} {base : Heap} {k : Nat} {f : Addr} {name qual : Str} {params : Arguments} {body : List Stmt} {scope : Scope} {dV kV doc pm cdv ct oc : Value} {an od : Option Addr}
    {osl : Array (Option Value)} {N ps : List Str} {sp : SpP} (lk : K.lookup f = some ⟨oc, od, .func (PySem.W.fnOf name qual params body scope dV kV doc pm an cdv ct), osl⟩) (hcd : PySem.W.codeIn K cdv qual = true) (S : FnScope N ps scope)
    (len : ∀ p vs H Q E, sp p vs H Q E → vs.length = ps.length)
    (hbody : ∀ (A : Around) (outer : List Env) (s : Shared) (H : Hp) (vs : List V) (Q : VK) (E : XK) (p : Addr × Obj), Hot1 A p → RoomH k (A.deeper (envOfC qual scope s.heap.objs.size f cdv)) → sp p vs H Q E →
      ∃ t, PSs (cxH CX P w K mg base N qual scope f cdv A outer s H E p) body t ∧ t { nx := fun _ H' => Q .non H', rt := Q } (L2.start N vs) H) :
    FnP P w K mg base CX (k + 1) f (PySem.W.fnOf name qual params body scope dV kV doc pm an cdv ct) ps sp := by
  refine ⟨len, fun A outer s H args us vs Q E p hr hot hpin e0 hb r hsp => ?_⟩
  have hl := len _ _ _ _ _ hsp
  have KX : K.In s.heap := e0.mod.kin.keeps fun b o e => (e0.bs b o e).1
  have lim : s.heap.NoLimit := e0.mod.nolimit.keeps fun b o e => (e0.bs b o e).1
  have hkind : ∀ y ∈ ps.zip us, scope.names.lookup y.1 = some .local ∨ (scope.names.lookup y.1 = some .cell ∧ ((cellsFrom (s.heap.objs.size + 1) scope.names []).lookup y.1).isSome = true) := fun ⟨n, v⟩ hy => by
    rcases S.par n (List.of_mem_zip hy).1 with q | q
    · exact .inl q
    · exact .inr ⟨q, PySem.W.cellsFrom_some _ _ _ (.inl q)⟩
  refine codeAny_call_function hr.depth (KX _ _ lk) rfl S.co S.gen rfl (PySem.W.codeRec_of KX hcd) (hb _ _ _ _ ?_)
  refine wpAny_newFunctionEnv_cells S.kind hkind fun env he s1 x => ?_
  subst he
  refine ⟨lim.keeps x.toInCall.keep, codeAny_func ?_⟩
  obtain ⟨t, ht, hq⟩ := hbody A outer s H vs Q E p hot (hr.deeper _) hsp
  have I : Inv (cxH CX P w K mg base N qual scope f cdv A outer s H E p) [] (L2.start N vs) H s1 := inv_startH S hpin e0 hl r x
  refine wpAny_mono (ht.run [] s1 (L2.start N vs) H _ I hq) (fun fl s' hs => ?_) fun e s' hs => hs
  have fin : ∀ {σ' : L2.St} {H' : Hp} {v : V} {u : Value}, Inv (cxH CX P w K mg base N qual scope f cdv A outer s H E p) [] σ' H' s' → RelV v u → Q v H' → CE outer P w H s Q u s' :=
    fun {σ' H' v u} J rv q => ⟨v, H', J.os, J.bare, J.base, J.hok, rv, q⟩
  cases fl with
  | ret u =>
    obtain ⟨v, σ', H', J, rv, q⟩ := hs
    exact fin J rv q
  | next =>
    obtain ⟨σ', H', J, q⟩ := hs
    exact fin (v := V.non) (u := Value.none) J rfl q
  | brk =>
    obtain ⟨_, _, _, q⟩ := hs
    exact False.elim q
  | cont =>
    obtain ⟨_, _, _, q⟩ := hs
    exact False.elim q
/-- x(e, ..) in a suite: p the exception that is handled, its context None -/
theorem pe_callP {X : Cx} {CX : CXT} {k : Nat} {f : Addr} {fd : FuncData} {ps : List Str} {sp : SpP} {E : XK} {x : Str} {q pos : Pos} {e : Expr} {es : List Expr} {t : TA} {p : Addr × Obj} (F : FnP X.prog X.w X.K X.mg X.base CX k f fd ps sp) (hr : RoomH k X.A) (hot : Hot1 X.A p) (hp : p ∈ X.pn)
    (hg : Gl X x) (hm : X.mg x = some (.ref f)) (hk : PySem.W.keepIn X.K (.ref f) = true) (hb : Binds X.K fd ps []) (hx : Passes CX X E)
    (ha : PA X (e :: es) t) (hdb : (x == ("__debug__" : Str)) = false := by decide) (he : starEach (e :: es) X.env = (false, eval e X.env) :: starEach es X.env := by rfl) (hpl : (backTo pos (starEach es X.env)).any (·.1) = false := by rfl) :
    PE X (.Call (.Name x q) (e :: es) [] pos) (tCall (sp p) [] E t) := by
  refine ⟨fun pins s σ H Q I h => ?_⟩
  refine wpAny_Call_Name_kw (ld_glob I hg hm ?_ hdb)
  refine PySem.W.callWith_K (h₀ := X.base) I.ok.mod.kin hk (thn (ha.run pos pins s σ H _ I h) fun us s1 ⟨vs, H1, I1, r, q⟩ => ⟨I1.kIn, ?_⟩) he hpl
  have q : sp p (vs ++ []) H1 Q E := q
  rw [List.append_nil] at q
  have hl : us.length = ps.length := by rw [← r.length]; exact F.len _ _ _ _ _ q
  have b := hb s1 us I1.kIn (by rw [List.append_nil]; exact hl)
  rw [List.append_nil] at b
  have P1 := I1.pin p (List.mem_append_left _ hp)
  have hpin : PinOk X.stack H1 s1 p := ⟨P1.1, P1.2.1, fun hm => (List.mem_cons.mp (I1.stkSub p.1 hm)).elim P1.2.2.1 P1.2.2.2.1, P1.2.2.2.2⟩
  refine wpAny_call (codeAny_mono (F.run X.A X.stack s1 H1 ⟨us, []⟩ us vs Q E p hr hot hpin I1.env0 b r q) fun r s' hq => ?_)
  cases r with
  | error e => exact hx pins σ H1 s1 e s' I1 hq
  | ok fl =>
    cases fl with
    | ret u => exact I1.after hq
    | next => exact False.elim hq
    | brk => exact False.elim hq
    | cont => exact False.elim hq
end
/-! ### isinstance of an exception that the context pins -/
/-- isinstance(e, c), e the exception p of the class at D -/
def rIsP (K : PySem.W.Frag) (D a : Addr) : List V → Hp → VK → Prop := fun xs H Q => ∃ (c : V) (cv : Value) (b : Bool), xs = [.ref a, c] ∧ (∀ u, RelV c u → u = cv) ∧ PySem.W.kitOne K (.ref D) cv = some b ∧ Q (.bl b) H
theorem call_isP {X : Cx} {D : Addr} {p : Addr × Obj} {d : Option Addr} (C : ExcC X.K D) (hp : p ∈ X.pn) (hz : Zc (.ref D) d p.2) (hf : ∃ vs, p.2.data = .fields vs)
    (hd : ∀ (pins : List (Addr × Obj)) (s : Shared) (σ : L2.St) (H : Hp), Inv X pins σ H s → ∀ dd, d = some dd → ∃ od, s.heap.get? dd = some od) : CallR X (.builtin "isinstance") (rIsP X.K D p.1) := by
  intro pins s σ H xs us Q I r h
  obtain ⟨c, cv, b, rfl, hcv, e, q⟩ := h
  cases r with
  | cons rx rr =>
    cases rr with
    | cons rt rr =>
      cases rr
      cases rx
      have ec := hcv _ rt
      subst ec
      obtain ⟨hget, _⟩ := I.pin p (List.mem_append_left _ hp)
      obtain ⟨vs, hv⟩ := hf
      obtain ⟨cd, hcl, _⟩ := PySem.W.any_some C.hd
      have J : ∃ od, PySem.W.InstAt s.heap p.1 p.2 D od := by
        obtain ⟨a, oc, od, oda, osl⟩ := p
        obtain ⟨h1, h2⟩ := hz
        dsimp only at h1 h2 hv hget
        subst h1 h2 hv
        cases od with
        | none => exact ⟨none, hget, rfl, rfl, trivial⟩
        | some dd =>
          obtain ⟨ob, hob⟩ := hd pins s σ H I dd rfl
          exact ⟨some ob, hget, rfl, rfl, hob⟩
      obtain ⟨od, J⟩ := J
      exact PySem.W.kia_one (PySem.W.kitx_exc (by rw [hcl]; rfl) C.hg C.hk C.hs C.ha C.hn C.ht C.hm) I.kIn J e (fun z => nomatch z) fun tk => ⟨.bl b, H, I.kept (t' := tk) fun _ _ z => z, rfl, q⟩
end K16
-- part KLam
set_option Elab.async false
set_option linter.all false
set_option maxRecDepth 100000
set_option maxHeartbeats 4000000
/-! a lambda without parameters handed to a def that calls it in a try; what it lets out has the context None -/
namespace K16
open PySem PySem.Spec PyProof.Rows L2N LamX
open L2 hiding Takes XE CX takes_of passes_call MkP PMk ps_raise mk_of ps_try_as HdsOk ps_try_many pmk_own passAt Sky.land St
/-- the context of the lambda's body -/
abbrev lamCxN (X : Cx) (A : Around) (outer : List Env) (s : Shared) (H : Hp) (E : XK) (scope : Scope) (f c' : Addr) : Cx :=
  (lamCx X A outer s H E scope f c').wish fun e s' => wpAny (model X.prog X.w) (A.deeper (lamEnv X scope s.heap.objs.size f c')) (leaving (lamEnv X scope s.heap.objs.size f c') e) (fun _ s'' => L2N.CX X.prog X.w outer H s E e s'') (fun e' s'' => L2N.CX X.prog X.w outer H s E e' s'') s'
section
variable {X : Cx} {pins : List (Addr × Obj)} {σ : L2.St} {H : Hp} {s : Shared}
theorem pe_actN {Ng : List Str} {qg : Str} {sg : Scope} {g f c' : Addr} {cdg pm ctv : Value} {params : Arguments} {body : Expr} {scope : Scope} {k i : Nat} {a : Str} {pn : List (Addr × Obj)} {xe : Value → Shared → Prop} {W : WX} {t : XK → TE} {p1 p2 : Pos}
    (I : Inv X pins σ H s) (L : LamS X.env.scope scope) (hf : s.heap.get? f = some (PySem.W.kla_obj "<lambda>" (X.env.qual ++ "<lambda>") params body scope (cloFrom X.env.cells scope.names []) pm c' ctv)) (hfn : H f = none) (hfr : f ∉ frs X.stack)
    (hbind : bindArgs (PySem.W.kla_fn "<lambda>" (X.env.qual ++ "<lambda>") params body scope (cloFrom X.env.cells scope.names []) pm (.ref c') ctv) ⟨[], []⟩ = pure [])
    (tk : L2N.Takes ((cxOf CX0 X.prog X.w X.K X.mg X.base Ng qg sg g cdg X.A X.stack s H E0).tr pn xe) W) (hr : Room (k + 1) (X.A.deeper (envOfC qg sg s.heap.objs.size g cdg)))
    (hbody : ∀ (A : Around) (outer : List Env) (s : Shared) (H : Hp) (E : XK), Room k (A.deeper (lamEnv X scope s.heap.objs.size f c')) → PE (lamCxN X A outer s H E scope f c') body (t E))
    (hN : Ng[i]? = some a) (hv : Vis sg a) (hd : (a == ("__debug__" : Str)) = false := by decide) (hcd : (a == ("__classdict__" : Str)) = false := by decide) :
    PE ((cxOf CX0 X.prog X.w X.K X.mg X.base Ng qg sg g cdg X.A X.stack s H E0).tr pn xe) (.Call (.Name a p1) [] [] p2)
      (fun σZ HZ Q => σZ[i]? = some (some (.ref f)) ∧ HZ c' = some (CodeO c' (X.env.qual ++ "<lambda>")) ∧ t (fun cls d H' => W cls d σZ H') σ HZ Q) := by
  refine ⟨fun pinsZ sZ σZ HZ Q IZ h => ?_⟩
  obtain ⟨hs, hc, ht0⟩ := h
  obtain ⟨E, hE⟩ : ∃ E : XK, E = fun cls d H' => W cls d σZ H' := ⟨_, rfl⟩
  have ht : t E σ HZ Q := by rw [hE]; exact ht0
  refine wpAny_Call_Name_kw (thn ((pe_var (pos := p1) (i := i) hN hv hd hcd).run pinsZ sZ σZ HZ (fun v H1 => v = .ref f ∧ H1 = HZ) IZ ⟨.ref f, hs, rfl, rfl⟩) fun u s1 ⟨v, H1, I1, r1, q1⟩ => ?_)
  obtain ⟨ev, eH⟩ := q1
  subst ev
  rw [eH] at I1
  obtain rfl : u = Value.ref f := r1
  have of1 : s1.heap.get? f = some (PySem.W.kla_obj "<lambda>" (X.env.qual ++ "<lambda>") params body scope (cloFrom X.env.cells scope.names []) pm c' ctv) := I1.base.keep f _ hf hfn hfr (fun z => nomatch (show f ∈ ([] : List Addr) from z))
  refine PySem.W.callWith_F0 ⟨_, _, _, _, of1⟩ ?_
  have un : Un (frs X.stack) [] H HZ s.heap s1.heap := I1.base
  obtain ⟨⟨oc, vs, t, hoc, hdc, hvc⟩, _, _⟩ := I1.hok c' _ hc
  have rc : codeAny (model X.prog X.w) (X.A.deeper (envOfC qg sg s.heap.objs.size g cdg)) (.call (.ref f) ⟨[], []⟩) (CR (L2N.CX X.prog X.w) (envOfC qg sg s.heap.objs.size g cdg :: X.stack) X.prog X.w HZ s1 Q E) s1 := by
    refine PySem.W.kla_callFunE hr.depth of1 rfl L.co L.gen rfl ⟨c', oc, vs, t, rfl, hoc, hdc, hvc⟩ ?_
    rw [hbind]
    refine wpAny_pure (wpAny_newFunctionEnv (fun y hy => (L.own y hy).2) (fun y hy => absurd hy (by simp)) (fun h₁ hns hsb => ⟨I1.nolimit.fresh _ hsb, ?_⟩) L.kind)
    show codeAny _ _ (.expr body (lamEnv X scope s1.heap.objs.size f c')) _ _
    have kp : ∀ b o, s1.heap.get? b = some o → h₁.get? b = some o := fun b o e => hsb.extBut b o (Nat.ne_of_lt (Heap.lt_size e)) (Heap.get?_push_of_some _ e)
    have J0 : Inv (lamCx X (X.A.deeper (envOfC qg sg s.heap.objs.size g cdg)) (envOfC qg sg s.heap.objs.size g cdg :: X.stack) s1 HZ E scope f c') [] σ HZ { s1 with heap := h₁, toks := s1.toks + ([] : List (Str × Value)).length } :=
      lam_start2 I L I1.env0 hr.hd un hns kp
    have J : Inv (lamCxN X (X.A.deeper (envOfC qg sg s.heap.objs.size g cdg)) (envOfC qg sg s.heap.objs.size g cdg :: X.stack) s1 HZ E scope f c') [] σ HZ { s1 with heap := h₁, toks := s1.toks + ([] : List (Str × Value)).length } := J0.wish _
    refine PySem.W.kla_codeExpr (wpAny_mono ((hbody _ _ s1 HZ E (hr.deeper _)).run [] _ _ HZ Q J ht) (fun v s' hq => ?_) fun e s' hq => hq)
    obtain ⟨w', H', J', rv, q⟩ := hq
    exact ⟨w', H', J'.os, J'.bare, J'.base, J'.hok, rv, q⟩
  refine wpAny_call (codeAny_mono rc fun r s' hq => ?_)
  cases r with
  | error e => exact tk _ _ (L2N.XE.of_call I1 (fun cls d H' h => by rw [hE] at h; exact h) hq)
  | ok fl =>
    cases fl with
    | ret u => exact I1.after hq
    | next => exact False.elim hq
    | brk => exact False.elim hq
    | cont => exact False.elim hq
end
/-- what a def that calls what it got in a try makes of it -/
def GivesN (X : Cx) (Ng : List Str) (x : Str) (sg : Scope) (g : Addr) (cdg : Value) (bg : List Stmt) (a : Str) (q : Str) (k : Nat) (TT : (XK → Hp → VK → Prop) → Hp → VK → Prop) : Prop :=
  ∀ (f c' : Addr) (s : Shared) (H : Hp) (Q : VK) (tl : XK → Hp → VK → Prop), Room k (X.A.deeper (envOfC x sg s.heap.objs.size g cdg)) →
    (∀ (W : WX) (pn : List (Addr × Obj)) (xe : Value → Shared → Prop) (p1 p2 : Pos), L2N.Takes ((cxOf CX0 X.prog X.w X.K X.mg X.base Ng x sg g cdg X.A X.stack s H E0).tr pn xe) W →
      PE ((cxOf CX0 X.prog X.w X.K X.mg X.base Ng x sg g cdg X.A X.stack s H E0).tr pn xe) (.Call (.Name a p1) [] [] p2) (fun σZ HZ Q => σZ[0]? = some (some (.ref f)) ∧ HZ c' = some (CodeO c' q) ∧ tl (fun cls d H' => W cls d σZ H') HZ Q)) →
    H c' = some (CodeO c' q) → TT tl H Q →
    ∃ t, PSs (cxOf CX0 X.prog X.w X.K X.mg X.base Ng x sg g cdg X.A X.stack s H E0).nox bg t ∧ t { nx := fun _ H' => Q .non H', rt := Q } (L2.start Ng [.ref f]) H
section
variable {X : Cx}
/-- x(lambda: body) -/
theorem pe_lamcallN {T : List (Addr × Str)} {TT : (XK → Hp → VK → Prop) → Hp → VK → Prop} {x a : Str} {g c P : Addr} {k j : Nat} {pg : Arguments} {bg : List Stmt} {sg : Scope} {dV kV doc pm cdv ct oc : Value} {an od : Option Addr} {osl : Array (Option Value)} {Ng : List Str}
    {params : Arguments} {body : Expr} {scope : Scope} {t : XK → TE} {p lpos pos : Pos} (hg : Gl X x) (hm : X.mg x = some (.ref g)) (hk : PySem.W.keepIn X.K (.ref g) = true)
    (lk : X.K.lookup g = some ⟨oc, od, .func (PySem.W.fnOf x x pg bg sg dV kV doc pm an cdv ct), osl⟩) (hcg : PySem.W.codeIn X.K cdv x = true) (hb : L2.Binds X.K (PySem.W.fnOf x x pg bg sg dV kV doc pm an cdv ct) [a] []) (Sg : FnScope Ng [a] sg) (hNg : Ng[0]? = some a) (hva : Vis sg a)
    (hG : GivesN X Ng x sg g cdv bg a (X.env.qual ++ "<lambda>") (k + 1) TT)
    (TB : TabB X.base X.mg c P) (hcode : X.env.code = .ref c) (hmT : (P, X.env.qual ++ "<lambda>") ∈ T) (hu : ∀ p ∈ T, p.1 = P → p.2 = X.env.qual ++ "<lambda>") (hr : Room (k + 2) X.A) (L : LamS X.env.scope scope) (hdef : defaultsOf params X.env = ([], []))
    (hbind : ∀ (q : Str) (cl : List (Str × Addr)) (pm cv ctv : Value), bindArgs (PySem.W.kla_fn "<lambda>" q params body scope cl pm cv ctv) ⟨[], []⟩ = pure [])
    (hbody : ∀ (A : Around) (outer : List Env) (s : Shared) (H : Hp) (E : XK) (f c' : Addr), Room k (A.deeper (lamEnv X scope s.heap.objs.size f c')) → PE (lamCxN X A outer s H E scope f c') body (t E))
    (hdb : (x == ("__debug__" : Str)) = false := by decide) (hd : (a == ("__debug__" : Str)) = false := by decide) (hcd : (a == ("__classdict__" : Str)) = false := by decide) :
    PE X (.Call (.Name x p) [.Lambda params body scope lpos] [] pos) (tLam T TT t) := by
  refine ⟨fun pins s σ H Q I h => ?_⟩
  obtain ⟨hT, h⟩ := h
  refine wpAny_Call_Name_kw (ld_glob I hg hm ?_ hdb)
  refine PySem.W.callWith_K (h₀ := X.base) I.ok.mod.kin hk ?_ (by rfl) (by rfl)
  show wpAny _ _ (spliced ((false, eval (.Lambda params body scope lpos) X.env) :: backTo pos (starEach [] X.env))) _ _ s
  refine Calls.spliced_cons (lam_make2 I TB hcode hmT hu hT hdef (L.has I.ok) fun f c' pm' ctv H1 s' I1 eN T1 hf hfn hfr hco => ?_)
  refine Calls.spliced_nil ⟨I1.kIn, ?_⟩
  have rc : codeAny (model X.prog X.w) X.A (.call (.ref g) ⟨[.ref f], []⟩) (CR CX0 X.stack X.prog X.w H1 s' Q E0) s' := by
    refine run_ofS (N := Ng) (ps := [a]) (us := [.ref f]) (vs := [.ref f]) lk hcg Sg hr I1.env0 (hb s' [.ref f] I1.kIn rfl) (.cons rfl .nil) rfl fun hr' => ?_
    obtain ⟨t', ht', hq'⟩ := hG f c' s' H1 Q (fun E H' Q' => t E σ H' Q') hr' (fun W pn xe p1 p2 tk => pe_actN (i := 0) (t := t) I1 L hf hfn hfr (hbind _ _ _ _ _) tk hr' (fun A outer s H E hr2 => hbody A outer s H E f c' hr2) hNg hva hd hcd) hco (h H1 eN T1)
    exact ⟨t', ht'.nox, hq'⟩
  refine wpAny_call (codeAny_mono rc fun r s2 hq => ?_)
  cases r with
  | error e => exact (show False from hq).elim
  | ok fl =>
    cases fl with
    | ret u => exact I1.after hq
    | next => exact False.elim hq
    | brk => exact False.elim hq
    | cont => exact False.elim hq
end
end K16
-- part KInf1
set_option Elab.async false
set_option linter.all false
set_option maxRecDepth 100000
set_option maxHeartbeats 4000000
/-! enumerate over a tuple -/
namespace K16
open PySem PySem.Spec PyProof.Rows L2
theorem meets_enumerate_one {v : Value} {o : Obj} {H : Heap → Prop} (B : Begins v o H) :
    Meets (Builtin.«enumerate.__new__» ⟨[.type "enumerate", v], []⟩) (fun _ R s => H s.heap ∧
      R (.ok (.ret (.ref (s.heap.push o).objs.size))) { s with heap := (s.heap.push o).push { cls := .type "enumerate", data := .fields #[.none, .bool false, .ref s.heap.objs.size, rawInt 0, .none, .none] } }) :=
  .of_wp fun prog w A R s h => by
    obtain ⟨hp, g, d, tk, os⟩ := s; obtain ⟨h1, h⟩ := h
    have hsub := sub_enumerate
    have q1 : ∀ {A' : Around} {E : Value → Shared → Prop} {Q : Value → Shared → Prop}, Q (.ref hp.objs.size) ⟨hp.push o, g, d, tk, os⟩ → wpAny (model prog w) A' (pyIter v) Q E ⟨hp, g, d, tk, os⟩ :=
      fun q => B.iter prog w _ _ ⟨hp, g, d, tk, os⟩ _ h1 q
    wp_walk using q1
    refine wpAny_stack_any fun st => wpAny_pure ?_
    split
    · rename_i c _ _ _ _ _
      cases (c == Value.type "enumerate")
      · wp_walk using q1
        exact ⟨_, rfl, h⟩
      · wp_walk using q1
        exact ⟨_, rfl, h⟩
    · wp_walk using q1
      exact ⟨_, rfl, h⟩
section
variable {prog : Program} {w : World} {A : Around} {E : Value → Shared → Prop} {s : Shared}
theorem call_enumerate_tuple {l : Addr} {items : Array Value} {Q : Value → Shared → Prop} (hL : s.heap.IsTuple l items)
    (h : ∀ h', IsEnum h' (s.heap.objs.size + 1) s.heap.objs.size 0 .none → h'.IsTupleIter s.heap.objs.size l 0 → h'.objs.size = s.heap.objs.size + 2 →
      (∀ b o, s.heap.get? b = some o → h'.get? b = some o) → Q (.ref (s.heap.objs.size + 1)) { s with heap := h' }) :
    wpAny (model prog w) A (call (.type "enumerate") [.ref l]) Q E s := by
  refine callType_new F.called_enumerate (by decide) (F.typeCall_enumerate_1 _) (F.newCall_enumerate_1 _) (fun obj => F.args_object_init_2 obj _) F.entry_enumerate_new
    (meets_enumerate_one (begins_tuple l items)) ⟨hL, ?_⟩
  have hz : (s.heap.push { cls := .type "tuple_iterator", data := .fields #[.ref l, .int 0 0] }).objs.size = s.heap.objs.size + 1 := Heap.size_push ..
  show _ ∧ _
  rw [hz]
  have he : IsEnum ((s.heap.push { cls := .type "tuple_iterator", data := .fields #[.ref l, .int 0 0] }).push
      { cls := .type "enumerate", data := .fields #[.none, .bool false, .ref s.heap.objs.size, rawInt 0, .none, .none] }) (s.heap.objs.size + 1) s.heap.objs.size 0 .none := by
    have := Heap.get?_push_size (s.heap.push { cls := .type "tuple_iterator", data := .fields #[.ref l, .int 0 0] })
      (o := { cls := .type "enumerate", data := .fields #[.none, .bool false, .ref s.heap.objs.size, rawInt 0, .none, .none] }) rfl
    rw [hz] at this; exact this
  refine ⟨⟨_, he, rfl⟩, h _ he ⟨_, Heap.get?_push_of_some _ (Heap.get?_push_size _ rfl), rfl, rfl⟩ (by rw [Heap.size_push, hz]) fun b o x => Heap.get?_push_of_some _ (Heap.get?_push_of_some _ x)⟩
end
/-- the tuple at a, each item in a new pair -/
def IteT (K : PySem.W.Frag) (a : Addr) : It :=
  ⟨fun i H => ∃ (xs : List V) (x : V), SqT K H a xs ∧ xs[i]? = some x, fun i H v H' => ∃ T x, v = .ref T ∧ H T = none ∧ H' = upd H T (.tup [.int (i : Nat), x]) ∧ ∀ xs, SqT K H a xs → xs[i]? = some x, fun i H => ∃ xs : List V, SqT K H a xs ∧ xs.length = i⟩
theorem turn_enumT {P : Program} {w : World} {K : PySem.W.Frag} {elts : List Expr} {kk : Nat} {tpos : Pos} (a e it : Addr) (hea : e ≠ a) (hia : it ≠ a) :
    Turn P w K (.Tuple elts kk tpos) (IteT K a) [e, it] e (fun i h => (∃ old, IsEnum h e it ((i : Nat) : Int) old) ∧ h.IsTupleIter it a i ∧ e ≠ it) where
  mem := by simp
  obj := fun i h st b hb => by
    obtain ⟨⟨old, he⟩, ⟨o, ho, hc, hd⟩, _⟩ := st
    have e' : b = e ∨ b = it := by simpa using hb
    rcases e' with z | z
    · rw [z]; exact ⟨_, he, fun v q => nomatch q⟩
    · rw [z]; exact ⟨o, ho, fun v q => by rw [hd] at q; cases q⟩
  keep := fun i h h' st k => let ⟨⟨old, he⟩, hi, hne⟩ := st; ⟨⟨old, k e (by simp) _ he⟩, hi.at fun o q => k it (by simp) o q, hne⟩
  item := by
    intro X hP hw hK hc i pins s σ H E I hf st hg
    subst hP hw hK
    obtain ⟨⟨old, he⟩, hit, hne⟩ := st
    obtain ⟨xs, x, hq, hx⟩ := hg
    obtain ⟨its, rv, p, hz⟩ := I.tuple hq
    obtain ⟨u, hu, ru⟩ := rv.get hx
    have hel : e < s.heap.objs.size := Heap.lt_size he
    have hil : it < s.heap.objs.size := by obtain ⟨_, q, _⟩ := hit; exact Heap.lt_size q
    have hlt : i < its.toArray.size := by
      have := (List.getElem?_eq_some_iff.mp hu).1
      simpa using this
    refine wpAny_pyNext_enum_itemC (Draws.tuple (A := X.A.in1) (show X.A.in1.handled = none from I.ok.hd hc) it a (Ne.symm hia) its.toArray) he ⟨hit, p⟩ hlt hne (by simp [hne, hea]) fun y h' tk hy ho hs' hT hsz hk => ?_
    have ey : y = u := by
      have h1 : its[i]? = some y := by simpa using hy
      rw [hu] at h1
      exact (Option.some.inj h1).symm
    subst ey
    refine ⟨_, rfl, wpAny_letOwnedTupleGo_enum (s := { s with heap := h', toks := tk + 1 }) ho fun h'' he' sb => ?_⟩
    have hT2 : h''.get? s.heap.objs.size = some { cls := .type "tuple", data := .seq #[.int i tk, y] } := (sb.2 _ (Nat.ne_of_gt hel)).trans hT
    have new : ObjOk X.prog X.w (upd H s.heap.objs.size (.tup [.int (i : Nat), x])) h'' s.heap.objs.size (.tup [.int (i : Nat), x]) :=
      ⟨by show 2 ≤ sizeLine; decide, [.int i tk, y], .cons ⟨_, rfl⟩ (.cons ru .nil), ⟨_, hT2, rfl, _, rfl⟩⟩
    have I1 : Inv X pins σ (upd H s.heap.objs.size (.tup [.int (i : Nat), x])) { s with heap := h'', toks := tk + 1 } :=
      I.turnedNew (ch := [e, it]) (fun b ob hb q => (sb.2 b (fun z => hb (by simp [z]))).trans (hk b ob (fun z => hb (by simp [z])) (fun z => hb (by simp [z])) q)) hf (Nat.le_refl _) new
    refine ⟨.ref s.heap.objs.size, _, I1, rfl, ⟨_, x, rfl, I.hok.fresh (Nat.le_refl _), rfl, fun ys hy => ?_⟩, ⟨⟨y, ?_⟩, hs'.1.at fun o q => (sb.2 it (Ne.symm hne)).trans q, hne⟩, fun b hb => ?_⟩
    · rw [I.tuple_inj hy hq]; exact hx
    · have e1 : ((i + 1 : Nat) : Int) = (i : Int) + 1 := by omega
      rw [e1]; exact he'
    · have hb' : b < s.heap.objs.size := by
        have e' : b = e ∨ b = it := by simpa using hb
        rcases e' with z | z
        · rw [z]; exact hel
        · rw [z]; exact hil
      rw [upd_ne (Nat.ne_of_lt hb')]
      exact (hf b hb).1
  done := by
    intro X hP hw hK hc i pins s σ H E I hf st hg
    subst hP hw hK
    obtain ⟨⟨old, he⟩, hit, hne⟩ := st
    obtain ⟨xs, hq, hx⟩ := hg
    obtain ⟨its, rv, p, hz⟩ := I.tuple hq
    obtain ⟨f0, f1, f2, f3, f4, f5⟩ := hf it (by simp)
    have hl := rv.length
    have ei : i = its.toArray.size := by simp; omega
    subst ei
    exact wpAny_pyNext_enum_endD (Draws.tuple (A := X.A.in1) (show X.A.in1.handled = none from I.ok.hd hc) it a (Ne.symm hia) its.toArray) he ⟨hit, p⟩ fun h' eb => ⟨rfl, I.turned (t' := s.toks) (fun b o hb q => eb b o hb q) f0 f1 f3 f4 f5⟩
  self := fun A i s Q E st h => let ⟨⟨_, he⟩, _⟩ := st; wpAny_pyIter_enum he h
/-- enumerate of a list or a tuple -/
def iEnumB (K : PySem.W.Frag) (ta : TA) : TI := fun σ H R => ta σ H fun vs H1 => ∃ a, vs = [.ref a] ∧ ((∃ xs, SqL K H1 a xs ∧ R (Ite K a) H1) ∨ ∃ xs, SqT K H1 a xs ∧ R (IteT K a) H1)
theorem pi_enumB {X : Cx} {e : Expr} {ta : TA} {p pos tpos : Pos} {elts : List Expr} {kk : Nat} (hg : Gl X "enumerate") (hm : X.mg "enumerate" = none) (ha : PA X [e] ta) (hs : starEach [e] X.env = [(false, eval e X.env)] := by rfl) :
    PI X (.Tuple elts kk tpos) (.Call (.Name "enumerate" p) [e] [] pos) (iEnumB X.K ta) := by
  refine ⟨fun pins s σ H R I h => ?_⟩
  refine Call_ (ld_blt I hg hm boot_enumerate (PyProof.Rows.callWith_type1 (thn (ha.run pos pins s σ H _ I h) fun us s1 ⟨vs, H1, I1, r1, q1⟩ => ?_) hs rfl))
  obtain ⟨a, ex, hq⟩ := q1
  subst ex
  cases r1 with
  | cons r rr =>
    cases rr
    cases r
    have fin : ∀ b ∈ [s1.heap.objs.size + 1, s1.heap.objs.size], FpOk X pins H1 b := fun b hb => by
      have e' : b = s1.heap.objs.size + 1 ∨ b = s1.heap.objs.size := by simpa using hb
      have hle : s1.heap.objs.size ≤ b := by
        rcases e' with z | z
        · rw [z]; exact Nat.le_add_right _ _
        · rw [z]; exact Nat.le_refl _
      exact I1.fpOk hle (I1.hok.fresh hle)
    rcases hq with ⟨xs, hq, q⟩ | ⟨xs, hq, q⟩
    · obtain ⟨its, rv, p', hz⟩ := I1.list hq
      refine call_enumerate_list p'.isList fun h' he hit hsz hk => wpAny_pyIter_enum he ?_
      have I2 : Inv X pins σ H1 { s1 with heap := h' } := I1.kept (t' := s1.toks) hk
      exact ⟨s1.heap.objs.size + 1, [s1.heap.objs.size + 1, s1.heap.objs.size], _, _, H1, rfl, I2, turn_enum a (s1.heap.objs.size + 1) s1.heap.objs.size, ⟨⟨.none, he⟩, hit, Nat.succ_ne_self _⟩, fin, q⟩
    · obtain ⟨its, rv, p', hz⟩ := I1.tuple hq
      have hlt : a < s1.heap.objs.size := p'.lt
      refine call_enumerate_tuple p' fun h' he hit hsz hk => wpAny_pyIter_enum he ?_
      have I2 : Inv X pins σ H1 { s1 with heap := h' } := I1.kept (t' := s1.toks) hk
      exact ⟨s1.heap.objs.size + 1, [s1.heap.objs.size + 1, s1.heap.objs.size], _, _, H1, rfl, I2, turn_enumT a (s1.heap.objs.size + 1) s1.heap.objs.size (Nat.ne_of_gt (Nat.lt_succ_of_lt hlt)) (Nat.ne_of_gt hlt), ⟨⟨.none, he⟩, hit, Nat.succ_ne_self _⟩, fin, q⟩
theorem walk_enumT {K : PySem.W.Frag} {a : Addr} {xs : List V} : Walk (IteT K a) xs.length (fun H => SqT K H a xs) (YPair (fun i => some (.int (i : Nat))) (fun i => xs[i]?)) := by
  refine ⟨fun i _ hi q => ⟨xs, xs[i], q, by simp [hi]⟩, fun _ q => ⟨xs, q, rfl⟩, fun i H v H' _ q y => ?_⟩
  obtain ⟨T, x, h1, h2, h3, h4⟩ := y
  exact ⟨T, .int (i : Nat), x, h1, h2, h3, rfl, h4 xs q⟩
end K16
-- part KInf2
set_option Elab.async false
set_option linter.all false
set_option maxRecDepth 100000
set_option maxHeartbeats 4000000
/-! own __len__, own __eq__ with either answer, != over it -/
namespace PySem.W
open PySem PySem.Calls PyProof.Rows Builtin
section
variable {prog : Program} {w : World} {A : Around} {E : Value → Shared → Prop} {s : Shared} {K : Frag} {x C L f : Addr} {h₀ : Heap} {m : Str → Option Value} {ox : Obj} {od : Option Obj} {b tb : Value}
theorem k16_ifBoundB {M : Model} {name : Str} {id T : String} {args : List Value} {Q : Option Value → Shared → Prop} (X : K.In s.heap) (I : InstAt s.heap x ox C od) (hs : findIn K (.ref C) name = some (some (.builtin id))) (S : Slot T name id)
    (h : wpAny M A (call (.builtin id) (.ref x :: args)) (fun v => Q (some v)) E s) : wpAny M A (callSpecialIfBound? (.ref x) name args) Q E s := by
  simp only [callSpecialIfBound?, bindSpecialIfBound?]
  refine wpAny_holding (wpAny_bind (wpAny_bind (wpAny_bind (I.type.here ((looks_findIn X hs).here ?_)))))
  simp only [S.bind]
  refine wpAny_bind (wpAny_askSetting (wpAny_ite ?_))
  have fin : wpAny M A (call (.builtin id) ([.ref x] ++ args) >>= fun v => pure (some v)) Q E s := wpAny_bind (wpAny_mono h (fun v s' h' => wpAny_pure h') fun _ _ h' => h')
  split
  · exact wpAny_bind (wpAny_pure (wpAny_pure fin))
  · exact wpAny_tryCatch (wpAny_bind (wpAny_pure (wpAny_pure fin)))
theorem k16_check {M : Model} {Q : Unit → Shared → Prop} (X : K.In s.heap) (I : InstAt s.heap x ox C od) (hob : subIn K (.ref C) (.type "object") = some true) (hq : Q () s) :
    wpAny M A (checkBuiltinCall "object.__ne__" ⟨[.ref x, b], []⟩) Q E s := by
  simp only [checkBuiltinCall, PySem.F.cmpKind_ne, PySem.F.cmpSplit_ne]
  refine wpAny_bind ?_
  · unfold isInstance
    refine wpAny_bind (I.type.here ((looks_subIn X hob).here ?_))
    have ha := PySem.F.cmpArgs_ne (.ref x) b
    cases hsig : Manifest.signature? "object.__ne__" with
    | none => exact wpAny_pure hq
    | some sig =>
      simp only [argsOk, hsig] at ha
      have h2 : Bind.checkArgs "object.__ne__" sig ⟨.ref x :: [b], []⟩ = pure () := ha
      show wpAny M A (Bind.checkArgs "object.__ne__" sig ⟨.ref x :: [b], []⟩) Q E _
      rw [h2]; exact wpAny_pure hq
theorem k16_neEntry (X : K.In s.heap) (I : InstAt s.heap x ox C od) (hs : findIn K (.ref C) "__eq__" = some (some (.ref f))) (hf : isFn K (.ref f) = true) (hu : A.units < cLine) {Q : Fin → Shared → Prop}
    (h : wpAny (model prog w) A (call (.ref f) [.ref x, b]) (fun v s' => ∃ k, v = .bool k ∧ Q (.done (.ret (.bool (!k)))) s') E s) :
    wpAny (model prog w) A (Builtin.«object.__ne__» ⟨[.ref x, b], []⟩) Q E s := by
  obtain ⟨hp, g, d, t, os⟩ := s
  unfold Builtin.«object.__ne__»
  repeat (first
    | with_reducible refine wpAny_cRoomFor hu ?_
    | (refine wpAny_bind (m := callSpecialIfBound? (.ref x) (Str.ofString "__eq__") [b])
        (ifBound_K X I hs hf (wpAny_mono h (fun r s' hr => by
          obtain ⟨k, rfl, hq⟩ := hr
          repeat (first | exact hq | exact wpAny_pure hq | exact wpAny_truthy_bool hq | (refine wpAny_bind (m := truthy (.bool _)) (wpAny_truthy_bool ?_)) | wp_step)) fun _ _ e => e)))
    | wp_step)
theorem k16_ne {Q : Value → Shared → Prop} (hu : A.units + 1 < cLine) (X : K.In s.heap) (I : InstAt s.heap x ox C od) (hb : Looks (model prog w) s.heap (typeOf b) tb) (hn : notFirst K C tb = true)
    (hne : findIn K (.ref C) "__ne__" = some (some (.builtin "object.__ne__"))) (hob : subIn K (.ref C) (.type "object") = some true) (hs : findIn K (.ref C) "__eq__" = some (some (.ref f))) (hf : isFn K (.ref f) = true)
    (h : wpAny (model prog w) A.in1 (call (.ref f) [.ref x, b]) (fun v s' => ∃ k, v = .bool k ∧ Q (.bool (!k)) s') E s) : wpAny (model prog w) A (richCompare .NotEq (.ref x) b) Q E s := by
  have one : wpAny (model prog w) A (tryCompare (.ref x) "__ne__" b) (fun r s' => ∃ v, r = some v ∧ Q v s') E s := by
    unfold tryCompare
    refine wpAny_bind (k16_ifBoundB X I hne PySem.F.cmp_object.ne (wpAny_call (codeAny_call_builtin PySem.F.cmp_object.ne.plain PySem.F.cmpEntry_ne (k16_check X I hob
      (k16_neEntry (A := A.in1) X I hs hf (Nat.lt_of_succ_lt_succ (Nat.succ_lt_succ (Nat.lt_of_le_of_lt (Nat.le_of_eq rfl) hu))) (wpAny_mono h (fun v s' hv => ?_) fun _ _ e => e))))))
    obtain ⟨k, rfl, hq⟩ := hv
    exact ⟨k, rfl, wpAny_pure ⟨_, rfl, hq⟩⟩
  unfold richCompare
  simp only [oneThing_ref]
  refine wpAny_holding (wpAny_bind (wpAny_cRoomFor (Nat.lt_of_succ_lt hu) ?_))
  refine wpAny_bind (I.type.here (wpAny_bind (hb.here ?_)))
  split
  · rename_i q
    have e : subIn K tb (.ref C) = some false := by
      rcases Bool.or_eq_true_iff.mp hn with e | e
      · rw [beq_iff_eq.mp e] at q; simp at q
      · exact beq_iff_eq.mp e
    refine wpAny_bind ((looks_subIn X e).here ?_)
    simp only [Bool.false_eq_true, if_false]
    refine wpAny_bind (wpAny_mono one (fun r s' z => ?_) fun _ _ e => e)
    obtain ⟨v, rfl, hq⟩ := z
    exact wpAny_pure hq
  · refine wpAny_bind (wpAny_pure ?_)
    simp only [Bool.false_eq_true, if_false]
    refine wpAny_bind (wpAny_mono one (fun r s' z => ?_) fun _ _ e => e)
    obtain ⟨v, rfl, hq⟩ := z
    exact wpAny_pure hq
end
end PySem.W
namespace K16
open PySem PySem.Spec PyProof.Rows L2
section
variable {X : Cx} {CX : CXT} {n : Nat} {C f : Addr} {fd : FuncData} {ps : List Str} {sp : Sp} {E : XK}
/-- the def at f called with two values somewhere below -/
theorem run_two {A : Around} {pins : List (Addr × Obj)} {σ : L2.St} {H : Hp} {s : Shared} {Q : VK} {u v : Value} {x y : V} (F : FnOk X.prog X.w X.K X.mg X.base CX n f fd ps sp) (hb : Binds X.K fd ps []) (hx : Passes CX X E)
    (sb : Sub X n A) (I : Inv X pins σ H s) (rx : RelV x u) (ry : RelV y v) (h : sp [x, y] H Q E) : wpAny (model X.prog X.w) A (call (.ref f) [u, v]) (EP X pins σ Q) X.xe s := by
  have e0 : Env0 X.prog X.w X.K X.mg X.base A X.stack s H := by
    have e := I.env0
    exact ⟨by rw [sb.fr]; exact e.frames, e.mod, e.bs, e.bsz, e.funs, e.frf, e.hok, e.bare⟩
  have hl := F.len _ _ _ _ h
  have r2 : Vals [x, y] [u, v] := .cons rx (.cons ry .nil)
  refine wpAny_call (codeAny_mono (F.run A X.stack s H ⟨[u, v], []⟩ [u, v] [x, y] _ E sb.room e0 (by
    have := hb s [u, v] I.kIn (by simpa using hl)
    simpa using this) r2 h) fun r s' hq => ?_)
  cases r with
  | error e => exact hx pins σ H s e s' I hq
  | ok fl =>
    cases fl with
    | ret w => exact I.after hq
    | next => exact False.elim hq
    | brk => exact False.elim hq
    | cont => exact False.elim hq
theorem run_one {A : Around} {pins : List (Addr × Obj)} {σ : L2.St} {H : Hp} {s : Shared} {Q : VK} {u : Value} {x : V} (F : FnOk X.prog X.w X.K X.mg X.base CX n f fd ps sp) (hb : Binds X.K fd ps []) (hx : Passes CX X E)
    (sb : Sub X n A) (I : Inv X pins σ H s) (rx : RelV x u) (h : sp [x] H Q E) : wpAny (model X.prog X.w) A (call (.ref f) [u]) (EP X pins σ Q) X.xe s := by
  have e0 : Env0 X.prog X.w X.K X.mg X.base A X.stack s H := by
    have e := I.env0
    exact ⟨by rw [sb.fr]; exact e.frames, e.mod, e.bs, e.bsz, e.funs, e.frf, e.hok, e.bare⟩
  have hl := F.len _ _ _ _ h
  have r2 : Vals [x] [u] := .cons rx .nil
  refine wpAny_call (codeAny_mono (F.run A X.stack s H ⟨[u], []⟩ [u] [x] _ E sb.room e0 (by
    have := hb s [u] I.kIn (by simpa using hl)
    simpa using this) r2 h) fun r s' hq => ?_)
  cases r with
  | error e => exact hx pins σ H s e s' I hq
  | ok fl =>
    cases fl with
    | ret w => exact I.after hq
    | next => exact False.elim hq
    | brk => exact False.elim hq
    | cont => exact False.elim hq
/-- what may stand at the right: an instance of the class, or a tuple -/
def RightOf (K : PySem.W.Frag) (C : Addr) (y : V) (H : Hp) : Prop := ∃ b, y = .ref b ∧ ((∃ dy gs, H b = some (.ins C dy gs)) ∨ ∃ ys, SqT K H b ys)
def rEqOwn (K : PySem.W.Frag) (C : Addr) (sp : Sp) (E : XK) (g : Bool → Bool) : R2 := fun x y H Q => ∃ a dx fs, x = .ref a ∧ H a = some (.ins C dx fs) ∧ RightOf K C y H ∧ sp [x, y] H (fun v H' => ∃ k, v = .bl k ∧ Q (.bl (g k)) H') E
theorem right_look {pins : List (Addr × Obj)} {σ : L2.St} {H : Hp} {s : Shared} {y : V} {v : Value} (I : Inv X pins σ H s) (ry : RelV y v) (h : RightOf X.K C y H) (ht : PySem.W.subIn X.K (.type "tuple") (.ref C) = some false) :
    ∃ tb, PySem.W.Looks (model X.prog X.w) s.heap (typeOf v) tb ∧ PySem.W.notFirst X.K C tb = true := by
  obtain ⟨b, rfl, h⟩ := h
  cases ry
  rcases h with ⟨dy, gs, h⟩ | ⟨ys, h⟩
  · obtain ⟨mB, J', _⟩ := ins_get I.hok h
    obtain ⟨od', J', _⟩ := J'.look
    exact ⟨_, J'.type, by simp [PySem.W.notFirst]⟩
  · obtain ⟨its, r, ⟨o, e, hc, _⟩, _⟩ := I.tuple h
    refine ⟨.type "tuple", hc ▸ (PySem.W.Looks.ld e).andThen .now, ?_⟩
    unfold PySem.W.notFirst
    rw [ht]
    simp
theorem op_eqOwn (F : FnOk X.prog X.w X.K X.mg X.base CX n f fd ps sp) (hr : Room n X.A)
    (hs : PySem.W.findIn X.K (.ref C) "__eq__" = some (some (.ref f))) (hf : PySem.W.isFn X.K (.ref f) = true) (ht : PySem.W.subIn X.K (.type "tuple") (.ref C) = some false) (hb : Binds X.K fd ps []) (hx : Passes CX X E) : OpR X (compareOp .Eq) (rEqOwn X.K C sp E id) := by
  intro pins s σ H x y u v Q I rx ry d
  obtain ⟨a, dx, fs, rfl, ha, hy, hq⟩ := d
  obtain ⟨tb, lk, nf⟩ := right_look I ry hy ht
  cases rx
  obtain ⟨mA, J, _⟩ := ins_get I.hok ha
  obtain ⟨od, J, _⟩ := J.look
  obtain ⟨m, hF⟩ := I.fr
  show wpAny (model X.prog X.w) X.A (richCompare .Eq (.ref a) v) (EP X pins σ Q) X.xe s
  refine PySem.W.cmp_K (op := .Eq) hr.units0 hF I.ok.mod.kin J lk nf hs hf ?_
  refine wpAny_mono (run_two (x := .ref a) F hb hx ⟨hr, rfl⟩ I rfl ry hq) (fun r s' q => ?_) fun _ _ e => e
  obtain ⟨z, H', I', rz, k, ez, q⟩ := q
  subst ez
  cases rz
  exact ⟨.bl k, H', I', rfl, q⟩
theorem op_neOwn (F : FnOk X.prog X.w X.K X.mg X.base CX n f fd ps sp) (hr : Room (n + 1) X.A)
    (hs : PySem.W.findIn X.K (.ref C) "__eq__" = some (some (.ref f))) (hf : PySem.W.isFn X.K (.ref f) = true) (hne : PySem.W.findIn X.K (.ref C) "__ne__" = some (some (.builtin "object.__ne__"))) (hob : PySem.W.subIn X.K (.ref C) (.type "object") = some true)
    (ht : PySem.W.subIn X.K (.type "tuple") (.ref C) = some false) (hb : Binds X.K fd ps []) (hx : Passes CX X E) : OpR X (compareOp .NotEq) (rEqOwn X.K C sp E (!·)) := by
  intro pins s σ H x y u v Q I rx ry d
  obtain ⟨a, dx, fs, rfl, ha, hy, hq⟩ := d
  obtain ⟨tb, lk, nf⟩ := right_look I ry hy ht
  cases rx
  obtain ⟨mA, J, _⟩ := ins_get I.hok ha
  obtain ⟨od, J, _⟩ := J.look
  show wpAny (model X.prog X.w) X.A (richCompare .NotEq (.ref a) v) (EP X pins σ Q) X.xe s
  refine PySem.W.k16_ne (hu_of hr) I.kIn J lk nf hne hob hs hf ?_
  refine wpAny_mono (run_two (x := .ref a) F hb hx ⟨hr.in1, rfl⟩ I rfl ry hq) (fun r s' q => ?_) fun _ _ e => e
  obtain ⟨z, H', I', rz, k, ez, q⟩ := q
  subst ez
  cases rz
  exact ⟨k, rfl, .bl (!k), H', I', rfl, q⟩
/-- len(o), by the own __len__ -/
def rLenOwn (C : Addr) (sp : Sp) (E : XK) : List V → Hp → VK → Prop := fun vs H Q => ∃ a dx fs, vs = [.ref a] ∧ H a = some (.ins C dx fs) ∧ sp vs H (fun v H' => ∃ k : Int, v = .int k ∧ 0 ≤ k ∧ k < 2 ^ 63 ∧ Q (.int k) H') E
theorem call_lenOwn (F : FnOk X.prog X.w X.K X.mg X.base CX n f fd ps sp) (hr : Room (n + 1) X.A)
    (hs : PySem.W.findIn X.K (.ref C) "__len__" = some (some (.ref f))) (hf : PySem.W.isFn X.K (.ref f) = true) (hb : Binds X.K fd ps []) (hx : Passes CX X E) : CallR X (.builtin "len") (rLenOwn C sp E) := by
  intro pins s σ H xs us Q I r d
  obtain ⟨a, dx, fs, rfl, ha, hq⟩ := d
  cases r with
  | cons r rr =>
    cases rr
    cases r
    obtain ⟨mA, J, _⟩ := ins_get I.hok ha
    obtain ⟨od, J, _⟩ := J.look
    obtain ⟨m, hF⟩ := I.fr
    refine PySem.W.len_K hF I.ok.mod.kin J hs hf ?_
    refine wpAny_mono (run_one (x := .ref a) F hb hx ⟨hr.in1, rfl⟩ I rfl hq) (fun r s' q => ?_) fun _ _ e => e
    obtain ⟨z, H', I', rz, k, ez, h0, h1, q⟩ := q
    subst ez
    obtain ⟨t, rfl⟩ := rz
    exact ⟨⟨h0, h1⟩, .int k, H', I'.tok _, ⟨_, rfl⟩, q⟩
end
end K16
-- part KInf3
set_option Elab.async false
set_option linter.all false
set_option maxRecDepth 100000
set_option maxHeartbeats 4000000
/-! sorted(d.items()), d a dict of ints to ints -/
namespace K16
open PySem PySem.Spec PyProof.Rows L2 LiI
section
variable {X : Cx} {e : Expr} {te : TE} {p apos cpos pos : Pos}
theorem tups_laid {pins : List (Addr × Obj)} {σ : L2.St} {H : Hp} {s : Shared} {h' : Heap} {tk : Nat} {kvs : List (Key × V)} {vs : List (Key × Value)} {as : List Addr} (I : Inv X pins σ H s) (kv : KV kvs vs)
    (hk : ∀ b o, s.heap.get? b = some o → h'.get? b = some o) (hl : as.length = vs.length) (hG : PySem.W.KdxG (mixKind X.prog X.w) vs s.heap.objs.size h' as) :
    ∃ H' : Hp, (∀ b o, H b = some o → H' b = some o) ∧ (∀ b, b ∉ as → H' b = H b) ∧ (∀ t ∈ as, H t = none) ∧ Paired (fun (t : Addr) (q : Key × V) => H' t = some (.tup [kV q.1, q.2])) as kvs ∧ Inv X pins σ H' { s with heap := h', toks := tk } := by
  have lk : kvs.length = vs.length := Paired.length kv
  have nd : as.Nodup := List.Pairwise.imp (fun {a b} (h : a < b) => Nat.ne_of_lt h) hG.rise
  have new : ∀ t ∈ as, H t = none := fun t ht => I.hok.fresh (Nat.le_of_lt (hG.above t ht))
  have atP := putT_at as kvs H (by omega) nd
  have off : ∀ b, b ∉ as → putT H as kvs b = H b := fun b h1 => putT_off as kvs _ h1
  have low : ∀ b o, s.heap.get? b = some o → b ∉ as := fun b o e => fun z => absurd (Heap.lt_size e) (Nat.not_lt.mpr (Nat.le_of_lt (hG.above b z)))
  have kp : ∀ b u, H b = some u → (putT H as kvs) b = some u := fun b u e => by
    rw [off b (fun z => by rw [new b z] at e; cases e)]
    exact e
  refine ⟨putT H as kvs, kp, off, new, atP, ?_⟩
  refine I.call' (ch := []) rfl ⟨fun b o q _ _ _ => hk b o q, fun b o q _ _ _ => ⟨o.slots, hk b o q⟩, fun b o q n _ => ?_, fun b o q _ => ⟨o, hk b o q⟩, fun b xs q => kp b _ q, fun b o u q => kp b _ q, fun b ps q => ⟨#[], by rw [kp b _ q]; simp⟩⟩ (fun b u q => ?_) I.bare fun b z => by simp at z
  · rw [off b (low b o q)]
    exact n
  · by_cases hb : b ∈ as
    · obtain ⟨j, pk, e1, e2, e3⟩ := paired_ix atP hb
      rw [e3] at q
      cases q
      obtain ⟨key, k, x, f1, f2, f3⟩ := hG.pairs j b e1
      obtain ⟨qv, g1, g2, g3⟩ := LiI.paired_get kv e2
      rw [f1] at g1
      cases g1
      have rk : RelV (kV pk.1) key := by
        rw [g2]
        exact relV_key (show keyIs k key = true from f2)
      exact ⟨by show 2 ≤ sizeLine; decide, [key, x], .cons rk (.cons g3 .nil), ⟨_, f3, rfl, _, rfl⟩⟩
    · rw [off b hb] at q
      exact (I.hok b u q).stay (fun d v _ y => hk d v y) (fun d y => kp d _ y) fun d xs y => kp d _ y
/-- the two ints of a pair that is tracked -/
def pairAt (H : Hp) : V → Int × Int
  | .ref t => match H t with
    | some (.tup [.int a, .int b]) => (a, b)
    | _ => (0, 0)
  | _ => (0, 0)
theorem pairAt_of {H : Hp} {t : Addr} {a b : Int} (h : H t = some (.tup [.int a, .int b])) : pairAt H (.ref t) = (a, b) := by
  show (match H t with
    | some (.tup [.int a, .int b]) => (a, b)
    | _ => (0, 0)) = (a, b)
  rw [h]
def intKvs (kv : List (Int × Int)) : List (Key × V) := kv.map fun p => (Sum.inl p.1, V.int p.2)
def tSortedItems (te : TE) : TE := fun σ H Q => te σ H fun x H1 => ∃ (d : Addr) (kv : List (Int × Int)), x = .ref d ∧ H1 d = some (.dK (intKvs kv)) ∧
  ∀ (H' : Hp) (p : Addr) (zs : List V), (∀ b o, H1 b = some o → H' b = some o) → H1 p = none → (zs.map (pairAt H')).Perm kv → (zs.map (pairAt H')).Pairwise (fun a b => SrtO.lexB b a = false) → H' p = some (.lst zs) →
    (∀ z ∈ zs, ∃ t, z = .ref t ∧ H' t = some (.tup [.int (pairAt H' z).1, .int (pairAt H' z).2])) → Q (.ref p) H'
theorem pe_sortedItems (hc : X.calm = true) (he : PE X e te) (hg : Gl X "sorted") (hm : X.mg "sorted" = none) (hv : bootBuiltins "sorted" = some (.builtin "sorted")) (hbase : attributeBase e "items" X.env (eval e X.env) = eval e X.env := by rfl) (hline : (apos.endLine == cpos.line) = true := by rfl)
    (hs : starEach [.Call (.Attribute e "items" apos) [] [] cpos] X.env = (false, eval (.Call (.Attribute e "items" apos) [] [] cpos) X.env) :: starEach [] X.env := by rfl) :
    PE X (.Call (.Name "sorted" p) [.Call (.Attribute e "items" apos) [] [] cpos] [] pos) (tSortedItems te) := by
  refine ⟨fun pins s σ H Q I hq => ?_⟩
  refine wpAny_Call_Name_kw (ld_blt I hg hm hv ?_)
  refine PyProof.Rows.callWith_builtin1 ?_ hs rfl
  rw [hs]
  show wpAny _ _ (spliced ((false, eval (.Call (.Attribute e "items" apos) [] [] cpos) X.env) :: backTo pos (starEach [] X.env))) _ _ s
  refine Calls.spliced_cons ?_
  refine wpAny_Call_method (T := "dict") (id := "dict.items") hbase rfl hline F.plainAttrs_dict F.slot_dict_items F.type_dict_items (thn (he.run pins s σ H _ I hq) fun u s1 ⟨x, H1, I1, rx, d, kv, ex, hd, q⟩ => ?_)
  subst ex
  obtain rfl : u = Value.ref d := rx
  obtain ⟨hz, hs0, vs, kvr, hdo⟩ := I1.hok d _ hd
  obtain ⟨ep, hat⟩ := hdo.dictAt
  have lk : (intKvs kv).length = vs.length := Paired.length kvr
  have I2 : Inv X pins σ H1 { s1 with heap := s1.heap.push { cls := .type "dict_items", data := .fields #[.ref d] } } := I1.kept (t' := s1.toks) fun b ob q => Heap.get?_push_of_some _ q
  refine ⟨hdo.typeIs, hdo.mapOf.noDict, ?_⟩
  show wpAny _ _ (callWith cpos (.builtin "dict.items") [.ref d] [] []) _ X.xe s1
  refine method_meetsIn F.slot_dict_items F.entry_dict_items rfl (PySem.evalArgs_none ⟨rfl, hdo.typeIs, F.args_dict_items_1 _, _, meets_dict_items (mixKind X.prog X.w) d hs0, ⟨vs, hdo⟩, ?_⟩)
  refine Calls.spliced_nil ?_
  refine Calls.call_function_entry kind_sorted plain_sorted entry_sorted (args_sorted1 _) ?_
  unfold Builtin.«sorted»
  refine wpAny_bind (m := checkCount "sorted" 1 1 _) (wpAny_pure ?_)
  refine wpAny_bind (PySem.W.kdx_collect (knd := mixKind X.prog X.w) (kvs := vs) (ep := ep) (A := X.A.in1) (I1.ok.hd hc) ⟨_, Heap.get?_push_size _ rfl, rfl, rfl⟩ (hat.push _) (by omega) fun h' tk as hk hl hG => ?_)
  obtain ⟨H2, k1, k2, k3, k4, J⟩ := tups_laid (tk := tk) I2 kvr hk hl hG
  have hlz : (as.map Value.ref).length ≤ sizeLine := by rw [List.length_map, hl, ← lk]; exact hz
  refine wpAny_bind (wpAny_newList ?_ hlz)
  have J2 := J.lnew (t' := tk) (vals_refs as) (by rw [List.length_map, hl, ← lk]; exact hz)
  have hpn : H2 h'.objs.size = none := J.hok.fresh (Nat.le_refl _)
  generalize hp : h'.objs.size = P at J2 hpn
  have J3 : Inv X pins σ (upd H2 P (.lst (as.map V.ref))) { s1 with heap := h'.push { cls := .type "list", data := .seq (as.map Value.ref).toArray }, toks := tk } := J2
  generalize hs3 : ({ s1 with heap := h'.push { cls := .type "list", data := .seq (as.map Value.ref).toArray }, toks := tk } : Shared) = s3 at J3
  have es3 : s3.heap.get? P = some (seqObj "list" (as.map Value.ref).toArray 0) := by
    rw [← hs3, ← hp]; exact Heap.get?_push_size _ rfl
  have hfin : ∀ z ∈ as.map V.ref, ∃ (t : Addr) (q : Int × Int), z = .ref t ∧ H2 t = some (.tup [.int q.1, .int q.2]) ∧ t ≠ P := fun z hz => by
    obtain ⟨t, ht, rfl⟩ := List.mem_map.mp hz
    obtain ⟨j, pk, e1, e2, e3⟩ := paired_ix k4 ht
    obtain ⟨q0, _, rfl⟩ := List.mem_map.mp (List.mem_of_getElem? e2)
    exact ⟨t, q0, rfl, e3, fun z => by rw [z, hpn] at e3; cases e3⟩
  have hmap : (as.map V.ref).map (pairAt H2) = kv := by
    have key : ∀ (as : List Addr) (kv : List (Int × Int)), Paired (fun (t : Addr) (q : Key × V) => H2 t = some (.tup [kV q.1, q.2])) as (intKvs kv) → (as.map V.ref).map (pairAt H2) = kv := by
      intro as
      induction as with
      | nil =>
        intro kv h
        cases kv with
        | nil => rfl
        | cons a r => cases h
      | cons a r ih =>
        intro kv h
        cases kv with
        | nil => cases h
        | cons b r2 =>
          cases h with
          | cons h1 h2 =>
            show pairAt H2 (.ref a) :: (r.map V.ref).map (pairAt H2) = b :: r2
            rw [ih r2 h2, pairAt_of (a := b.1) (b := b.2) h1]
    exact key as kv k4
  have rvs : Vals (as.map V.ref) (as.map Value.ref) := vals_refs as
  have e2 : ∀ v ∈ as.map Value.ref, ∃ t, v = Value.ref t ∧ V.ref t ∈ as.map V.ref := fun v hv => by
    obtain ⟨t, ht, rfl⟩ := List.mem_map.mp hv
    exact ⟨t, rfl, List.mem_map.mpr ⟨t, ht, rfl⟩⟩
  have back : as.map V.ref = (as.map Value.ref).map backV := by rw [List.map_map]; rfl
  have hp2 : ∀ v ∈ as.map Value.ref, Srt.IsPair s3.heap v (pairAt H2 (backV v)).1 (pairAt H2 (backV v)).2 := fun v hv => by
    obtain ⟨t, rfl, hm⟩ := e2 v hv
    obtain ⟨t', q', e, ht, hne⟩ := hfin _ hm
    cases e
    have ht3 : upd H2 P (.lst (as.map V.ref)) t = some (.tup [.int q'.1, .int q'.2]) := by rw [upd_ne hne]; exact ht
    obtain ⟨_, its2, r2, o, ho, hc2, n, hd2⟩ := J3.hok _ _ ht3
    obtain ⟨u1, u2, rfl, ri, rj⟩ := vals2 r2
    obtain ⟨t1, rfl⟩ := ri
    obtain ⟨t2, rfl⟩ := rj
    rw [show pairAt H2 (backV (.ref t)) = (q'.1, q'.2) from pairAt_of ht]
    exact ⟨t, o, t1, t2, n, rfl, ho, hc2, hd2⟩
  refine wpAny_bind (wpAny_holding ?_)
  refine wpAny_call_entry PyProof.Rows.slot_list_sort ⟨_, es3, rfl⟩ PyProof.Rows.entry_list_sort
    (SrtO.list_sort_ord (SrtO.swo_lex fun u => pairAt H2 (backV u)) es3 hlz (fun h2 => SrtO.pairs_sortableO (by omega) hp2 fun o e => ?_) fun out h1 h2 => ⟨.none, rfl, ?_⟩) (PyProof.Rows.args_list_sort _)
  · have e' : some o = some (seqObj "list" (as.map Value.ref).toArray 0) := e.symm.trans es3
    cases e'
    intro c
    exact absurd (Value.type.inj c) (by decide)
  · obtain ⟨ep, he'⟩ := PyProof.Rows.sortedHeap_at (vs := as.map Value.ref) (out := out.toArray) es3
    have hb : SrtO.Stb (ltP (pairAt H2)) (out.map backV) (as.map V.ref) := by
      rw [back]
      exact SrtO.Stb.map (ltP_swo (pairAt H2)) backV h2
    have hs' : SrtO.Srtd (ltP (pairAt H2)) (out.map backV) := SrtO.srtd_map h1
    have h3 : ∀ u ∈ out, ∃ a, u = Value.ref a := fun u hu => by
      obtain ⟨t, e, _⟩ := e2 u (h2.perm.mem_iff.mp hu)
      exact ⟨t, e⟩
    have hlen : (out.map backV).length ≤ sizeLine := by
      rw [hb.len, List.length_map, hl, ← lk]
      exact hz
    have hfz : ∀ z ∈ out.map backV, ∃ (t : Addr) (q : Int × Int), z = .ref t ∧ H2 t = some (.tup [.int q.1, .int q.2]) ∧ t ≠ P := fun z hz => hfin z (hb.perm.mem_iff.mp hz)
    have eqp : ∀ z ∈ out.map backV, pairAt (upd H2 P (.lst (out.map backV))) z = pairAt H2 z := fun z hz => by
      obtain ⟨t, q0, rfl, ht, hne⟩ := hfz z hz
      rw [pairAt_of (H := H2) ht, pairAt_of (a := q0.1) (b := q0.2) (by rw [upd_ne hne]; exact ht)]
    have eqm : (out.map backV).map (pairAt (upd H2 P (.lst (out.map backV)))) = (out.map backV).map (pairAt H2) := List.map_congr_left eqp
    have J4 : Inv X pins σ (upd (upd H2 P (.lst (as.map V.ref))) P (.lst (out.map backV))) { s3 with heap := sortedHeap s3.heap P (as.map Value.ref) out.toArray } :=
      J3.write (e := P) (t' := s3.toks) (by rw [upd_same]; trivial) (.inl rfl) (fun b u hb hu => by rw [PyProof.Rows.sortedHeap_old hb (Heap.lt_size hu)]; exact hu) ⟨_, he'⟩ ⟨hlen, out, ep, vals_back h3, he'⟩
    rw [upd_upd] at J4
    refine wpAny_pure ⟨.ref P, rfl, .ref P, _, J4, rfl, q _ P (out.map backV) (fun b o e => ?_) ?_ ?_ ?_ upd_same fun z hz => ?_⟩
    · rw [upd_ne (fun z => by rw [z] at e; have := k1 _ _ e; rw [hpn] at this; cases this)]
      exact k1 b o e
    · cases hh : H1 P with
      | none => rfl
      | some o => have := k1 _ _ hh; rw [hpn] at this; cases this
    · rw [eqm]
      have := hb.perm.map (pairAt H2)
      rw [hmap] at this
      exact this
    · rw [eqm]
      exact List.pairwise_map.mpr (hs'.imp fun h => h)
    · obtain ⟨t, q0, rfl, ht, hne⟩ := hfz z hz
      refine ⟨t, rfl, ?_⟩
      rw [eqp _ hz, pairAt_of ht, upd_ne hne]
      exact ht
end
end K16
-- part KGen1
set_option Elab.async false
set_option linter.all false
set_option maxRecDepth 100000
set_option maxHeartbeats 4000000
/-! one run of a generator, up to what stands at its end or its yield; a def «for x in e: yield x» -/
namespace K16G
open PySem
open Sem (wp)
section
variable {M : Model}
/-- one run: from here to the end or to the next yield, of which Z holds -/
def SegZ (M : Model) (A : Around) (Z : End → Shared → Prop) (c : Code) (t : Sem PySem.Fin) (fs : List Frame) (s : Shared) : Prop :=
  ∀ (Γ : Ctx) (p : Pos), Γ.code = c → Γ.Woken A → ∃ e s', Runs M Γ p t fs s e s' ∧ Z e s'
variable {A : Around} {Z : End → Shared → Prop} {c : Code} {fs : List Frame} {s : Shared}
theorem segz_wrap {α : Type} {m : Sem α} {K : α → Sem PySem.Fin} {H : Value → Sem PySem.Fin} {gd lv}
    (h : wpAny M (A.over c fs) m (fun a s' => SegZ M A Z c (K a) fs s') (fun x s' => SegZ M A Z c (H x) fs s') s) : SegZ M A Z c (m.wrap K H gd lv) fs s := by
  rintro Γ p rfl hΓ
  exact runs_wrap_of_wp K H gd lv m (h (Γ.over fs) p (hΓ.over fs)) (fun a p' s' h' => h' Γ p' rfl hΓ) (fun x p' s' h' => h' Γ p' rfl hΓ)
theorem segz_bind_wrap {α β : Type} {m : Sem α} {K : α → Sem β} {K' : β → Sem PySem.Fin} {H' : Value → Sem PySem.Fin} {gd lv}
    (h : wpAny M (A.over c fs) m (fun a s' => SegZ M A Z c ((K a).wrap K' H' gd lv) fs s') (fun x s' => SegZ M A Z c (H' x) fs s') s) : SegZ M A Z c ((m >>= K).wrap K' H' gd lv) fs s := by
  rw [Sem.bind_eq_wrap', Sem.wrap_wrap]; exact segz_wrap h
theorem segz_at {p' : Pos} {k : Unit → Sem PySem.Fin} (h : SegZ M A Z c (k ()) fs s) : SegZ M A Z c (.at p' k) fs s :=
  segz_wrap (m := standAt p') (K := k) (H := .raise) (gd := id) (lv := id) (wpAny_standAt h)
theorem segz_point {l : List Value} {k : Unit → Sem PySem.Fin} (h : SegZ M A Z c (k ()) fs s) : SegZ M A Z c (.point l k) fs s :=
  segz_wrap (m := point) (K := k) (H := .raise) (gd := id) (lv := fun _ => l) (wpAny_point h)
theorem segz_call {c' : Code} {h g l} {k : Result → Sem PySem.Fin} (hc : ∀ p, SegZ M A Z c' (M.den c') (.ret k h g l c p [] :: fs) s) : SegZ M A Z c (.call c' h g l k) fs s := by
  rintro Γ p rfl hΓ
  obtain ⟨e, s', hr, he⟩ := hc p (Γ.goto c') p rfl (hΓ.goto c')
  exact ⟨e, s', runs_call_seg hr, he⟩
theorem segz_leaf {k h g l c₁ p₁ kp} (r : Result) (hk : SegZ M A Z c₁ (k r) fs s) : SegZ M A Z c (leafOf r) (.ret k h g l c₁ p₁ kp :: fs) s := by
  rintro Γ p rfl hΓ
  obtain ⟨e, s', hr, he⟩ := hk (Γ.goto c₁) p₁ rfl (hΓ.goto c₁)
  exact ⟨e, s', Runs.pop r hr, he⟩
theorem segz_again {c' : Code} (hq : c'.quiet = true) (hc : SegZ M A Z c' (M.den c') fs s) : SegZ M A Z c (.pure (.again c')) fs s := by
  rintro Γ p rfl hΓ
  obtain ⟨e, s', hr, he⟩ := hc (Γ.goto c') p rfl (hΓ.goto c')
  exact ⟨e, s', Runs.head (c₁ := c') (fun _ _ x => .again hq x) hr, he⟩
theorem segz_end (r : Result) (h : Z (.ret r) s) : SegZ M A Z c (leafOf r) [] s := by
  rintro Γ p rfl _
  exact ⟨.ret r, s, Runs.leaf r, h⟩
theorem segz_yield {v g l} {k : Resume → Sem PySem.Fin} (hfs : splitAtGen fs = none) (h : ∀ p, Z (.susp v g l k c p fs) s) : SegZ M A Z c (.yield v g l k) fs s := by
  rintro Γ p rfl _
  exact ⟨_, s, Runs.yield' fs hfs, h p⟩
theorem SegZ.imp {Z' : End → Shared → Prop} {t : Sem PySem.Fin} (h : SegZ M A Z c t fs s) (hz : ∀ e s', Z e s' → Z' e s') : SegZ M A Z' c t fs s := fun Γ p hc hΓ =>
  let ⟨e, s', hr, he⟩ := h Γ p hc hΓ
  ⟨e, s', hr, hz e s' he⟩
/-- a generator as it stands goes on, woken with r -/
def GoesZ (M : Model) (A : Around) (Z : End → Shared → Prop) (gs : GenState) (r : Resume) (s : Shared) : Prop :=
  match gs with
  | .fresh c => r = .send .none ∧ SegZ M A Z c (M.den c) [] s
  | .suspended k _ c _ fs _ => SegZ M A Z c (k r) fs s
  | _ => False
theorem resumeZ {E : Value → Shared → Prop} {s : Shared} {g : Nat} {gs : GenState} {r : Resume} {l : List Value} {α : Type} {k : GenResult → Sem α} {Q : α → Shared → Prop} (hg : s.gens[g]? = some gs)
    (hgo : GoesZ M A Z gs r (s.setGen g .running)) (hq : ∀ e s', Z e s' → e.quiet = true)
    (hk : ∀ e s₁, Z e s₁ → wpAny M A (k e.result) Q E (s₁.setGen g e.genState)) : wpAny M A (.resume g r l k) Q E s := by
  intro Γ p hΓ
  rw [Sem.wp_resume]
  have hB : ∀ c, (Γ.wake c p).Woken A := fun c => hΓ.wake c p
  cases gs with
  | fresh c =>
    obtain ⟨rfl, hs⟩ := hgo
    obtain ⟨e₁, s₁, hr, he⟩ := hs (Γ.wake c p) p rfl (hB c)
    exact ⟨_, _, by unfold Wakes; rw [hg]; exact ⟨e₁, s₁, hr, hq e₁ s₁ he, rfl, rfl⟩, hk e₁ s₁ he Γ p hΓ⟩
  | suspended k₀ l₀ c₀ p₀ fs₀ cl =>
    obtain ⟨e₁, s₁, hr, he⟩ := hgo (Γ.wake c₀ p) p₀ rfl (hB c₀)
    exact ⟨_, _, by unfold Wakes; rw [hg]; exact ⟨e₁, s₁, hr, hq e₁ s₁ he, rfl, rfl⟩, hk e₁ s₁ he Γ p hΓ⟩
  | running => exact hgo.elim
  | finished => exact hgo.elim
end
section
variable {M : Model} {A : Around} {Z : End → Shared → Prop} {c : Code} {fs : List Frame} {s : Shared} {env : Env} {K : Flow → Sem PySem.Fin} {H : Value → Sem PySem.Fin} {gd : Bool → Bool} {lv : List Value → List Value}
theorem segz_execs_cons {st : Stmt} {rest : List Stmt}
    (h : SegZ M A Z c ((exec st env).wrap (fun f => match f with | .next => (execs rest env).wrap K H gd lv | f => K f) H gd lv) fs s) :
    SegZ M A Z c ((execs (st :: rest) env).wrap K H gd lv) fs s := by rw [execs_cons_wrap]; exact h
theorem segz_Expr_Yield {e : Expr} {ypos pos : Pos} (hfs : splitAtGen fs = none)
    (h : wpAny M (A.over c fs) (eval e env) (fun v s' => ∀ k l p, (∀ (Z' : End → Shared → Prop) s'', SegZ M A Z' c (K .next) fs s'' → SegZ M A Z' c (k (.send .none)) fs s'') → Z (.susp v (gd false) l k c p fs) s')
      (fun x s' => SegZ M A Z c (H x) fs s') s) (hco : env.scope.isCoroutine = false := by rfl) (hi : interactive env = false := by rfl) :
    SegZ M A Z c ((exec (.Expr (.Yield (some e) ypos) pos) env).wrap K H gd lv) fs s := by
  rw [exec_Expr env _ pos hi rfl]
  show SegZ M A Z c (.at pos fun _ => ((eval e env >>= fun v => (standAt ypos >>= fun _ => yieldOut env v)) >>= fun x =>
    dropValue (.Yield (some e) ypos) pos x).wrap K H gd lv) fs s
  have hy : ∀ v, yieldOut env v = yieldValue v := fun v => by simp only [yieldOut, hco, Bool.false_eq_true, if_false]
  simp only [hy]
  refine segz_at ?_
  rw [Sem.bind_eq_wrap', Sem.bind_eq_wrap', Sem.wrap_wrap, Sem.wrap_wrap]
  refine segz_wrap (wpAny_mono h (fun v s' h' => ?_) fun _ _ x => x)
  refine segz_at (segz_yield hfs fun p => ?_)
  exact h' _ _ p fun Z' s'' hx => hx
theorem segz_For {target iter body orelse pos} (hs : ∀ x, foldedSetIterable iter env x = pure x)
    (h : wpAny M (A.over c fs) (eval iter env) (fun x s₁ => wpAny M (A.over c fs) (pyIter x) (fun it s₂ =>
      ∀ p k, (∀ (Z' : End → Shared → Prop) s₃, SegZ M A Z' c (K .next) fs s₃ → SegZ M A Z' c (k (.ok .next)) fs s₃) → SegZ M A Z (.forLoop target it body orelse env) (M.den (.forLoop target it body orelse env)) (.ret k none (gd false) (lv []) c p [] :: fs) s₂) (fun x s' => SegZ M A Z c (H x) fs s') s₁) (fun x s' => SegZ M A Z c (H x) fs s') s) :
    SegZ M A Z c ((exec (.For target iter body orelse pos) env).wrap K H gd lv) fs s := by
  rw [exec_For]
  refine segz_bind_wrap (wpAny_standAt ?_)
  refine segz_bind_wrap (wpAny_mono h (fun x s₁ h₁ => ?_) fun _ _ x => x)
  refine segz_bind_wrap (wpAny_of_eq (hs x) ?_)
  refine segz_bind_wrap (wpAny_standAt ?_)
  refine segz_bind_wrap (wpAny_holding (wpAny_mono h₁ (fun it s₂ h₂ => ?_) fun _ _ x => x))
  exact segz_call fun p => h₂ p _ fun Z' s₃ h₃ => h₃
end
section
variable {prog : Program} {w : World} {A : Around} {Z : End → Shared → Prop} {fs : List Frame} {s : Shared} {env : Env}
theorem segz_func {body : List Stmt}
    (h : SegZ (model prog w) A Z (.func body env) ((execs body env).wrap (fun f => .pure (.done (.ret (match f with | .ret v => v | _ => .none))))
      (fun e => (leaving env e).wrap (fun _ => .raise e) .raise id id) id id) fs s) :
    SegZ (model prog w) A Z (.func body env) ((model prog w).den (.func body env)) fs s := by
  show SegZ _ A Z _ (.point [] fun _ => ((execs body env).onRaise (leaving env)) >>= _) fs s
  refine segz_point ?_
  rw [Sem.onRaise_eq_wrap, Sem.bind_eq_wrap', Sem.wrap_wrap]
  rw [Sem.wrap_congr (execs body env) _ _ (K' := fun f => .pure (.done (.ret (match f with | .ret v => v | _ => .none))))
    (H' := fun e => (leaving env e).wrap (fun _ => .raise e) .raise id id) (fun f => by cases f <;> rfl)
    (fun e => by rw [Sem.bind_eq_wrap, Sem.wrap_wrap]; rfl)]
  exact h
/-- what the list's walk needs, j items gone: the iterator, the list, the frame's names -/
structure At (it M L : Addr) (items : Array Value) (j : Nat) (h : Heap) : Prop where
  it : h.IsListIter it M j
  ls : h.IsList M items
  ns : ∃ m, h.Ns L m
theorem At.keep {it M L : Addr} {items : Array Value} {j : Nat} {h h' : Heap} (x : At it M L items j h) (k : ∀ b ∈ [it, M, L], ∀ o, h.get? b = some o → h'.get? b = some o) : At it M L items j h' :=
  ⟨x.it.at fun o e => k it (by simp) o e, x.ls.at fun o e => k M (by simp) o e, let ⟨m, hn⟩ := x.ns; ⟨m, hn.at' fun o e => k L (by simp) o e⟩⟩
/-- between s and s' the heap changed at it and L alone (new objects may have come), and the tokens -/
def Only (it L : Addr) (s s' : Shared) : Prop := ∃ h' tk, s' = { s with heap := h', toks := tk } ∧ ∀ b o, b ≠ it → b ≠ L → s.heap.get? b = some o → h'.get? b = some o
theorem Only.refl {it L : Addr} {s : Shared} : Only it L s s := ⟨s.heap, s.toks, rfl, fun _ _ _ _ e => e⟩
theorem Only.step {it L : Addr} {s₀ s : Shared} (x : Only it L s₀ s) {h' : Heap} {tk : Nat} (k : ∀ b o, b ≠ it → b ≠ L → s.heap.get? b = some o → h'.get? b = some o) : Only it L s₀ { s with heap := h', toks := tk } := by
  obtain ⟨h₁, t₁, rfl, k₁⟩ := x
  exact ⟨h', tk, rfl, fun b o h1 h2 e => k b o h1 h2 (k₁ b o h1 h2 e)⟩
/-- asleep with r items to come: woken where the walk stands so, it hands out the next one and sleeps again; with none it ends -/
def Sleep (M : Model) (A : Around) (it Mx L : Addr) (items : Array Value) : Nat → GenState → Prop
  | 0, gs => ∀ s, At it Mx L items items.size s.heap → GoesZ M A (fun e s1 => Only it L s s1 ∧ e = .ret (.ok (.ret .none))) gs (.send .none) s
  | r + 1, gs => ∀ s, At it Mx L items (items.size - (r + 1)) s.heap → GoesZ M A (fun e s1 => Only it L s s1 ∧ e.quiet = true ∧ ∃ v gs', e.result = .yielded v ∧ e.genState = gs' ∧ items[items.size - (r + 1)]? = some v ∧ At it Mx L items (items.size - r) s1.heap ∧ Sleep M A it Mx L items r gs') gs (.send .none) s
/-- how a run of the loop ends -/
def ZEnd (M : Model) (A : Around) (it Mx L : Addr) (items : Array Value) (r : Nat) (s : Shared) (e : End) (s1 : Shared) : Prop :=
  Only it L s s1 ∧ match r with
  | 0 => e = .ret (.ok (.ret .none))
  | r + 1 => e.quiet = true ∧ ∃ v gs', e.result = .yielded v ∧ e.genState = gs' ∧ items[items.size - (r + 1)]? = some v ∧ At it Mx L items (items.size - r) s1.heap ∧ Sleep M A it Mx L items r gs'
theorem loopZ {x : Str} {px py yp ep : Pos} {it Mx L : Addr} {items : Array Value} (hL : env.locals = L) (hit : it ≠ L) (hM : Mx ≠ L) (hMi : Mx ≠ it) (hkd : env.scope.kind = .function) (hk : env.kindOf x = some .local) (hp : (env.scope.kind == .class || (env.scope.kind == .module && env.locals != env.globals)) = false)
    (hco : env.scope.isCoroutine = false) (hi : interactive env = false) (hd : (x == ("__debug__" : Str)) = false) (ho : (A.over (.forLoop (.Name x px) (.ref it) [.Expr (.Yield (some (.Name x py)) yp) ep] [] env) fs).handled = none) (hfs : splitAtGen fs = none) (hfg : fs.any Frame.guarded = false)
    (hend : ∀ s₀ s, Only it L s₀ s → SegZ (model prog w) A (fun e s1 => Only it L s₀ s1 ∧ e = .ret (.ok (.ret .none))) (.block [] env) ((model prog w).den (.block [] env)) fs s) :
    ∀ (r : Nat) (s₀ s : Shared), r ≤ items.size → Only it L s₀ s → At it Mx L items (items.size - r) s.heap →
      SegZ (model prog w) A (ZEnd (model prog w) A it Mx L items r s₀) (.forLoop (.Name x px) (.ref it) [.Expr (.Yield (some (.Name x py)) yp) ep] [] env) ((model prog w).den (.forLoop (.Name x px) (.ref it) [.Expr (.Yield (some (.Name x py)) yp) ep] [] env)) fs s := by
  have turn : ∀ {Z : End → Shared → Prop} (s : Shared), (wpAny (model prog w) (A.over (.forLoop (.Name x px) (.ref it) [.Expr (.Yield (some (.Name x py)) yp) ep] [] env) fs) (pyNext (.ref it)) (fun o s₁ => match o with
      | none => SegZ (model prog w) A Z (.block [] env) ((model prog w).den (.block [] env)) fs s₁
      | some v => wpAny (model prog w) (A.over (.forLoop (.Name x px) (.ref it) [.Expr (.Yield (some (.Name x py)) yp) ep] [] env) fs) (assign (.Name x px) env v) (fun _ s₂ => ∀ (K : Flow → Sem PySem.Fin) H gd lv, K .next = .pure (.again (.forLoop (.Name x px) (.ref it) [.Expr (.Yield (some (.Name x py)) yp) ep] [] env)) → gd false = false →
          SegZ (model prog w) A Z (.forLoop (.Name x px) (.ref it) [.Expr (.Yield (some (.Name x py)) yp) ep] [] env) ((execs [.Expr (.Yield (some (.Name x py)) yp) ep] env).wrap K H gd lv) fs s₂) (fun _ _ => False) s₁) (fun _ _ => False) s) →
      SegZ (model prog w) A Z (.forLoop (.Name x px) (.ref it) [.Expr (.Yield (some (.Name x py)) yp) ep] [] env) ((model prog w).den (.forLoop (.Name x px) (.ref it) [.Expr (.Yield (some (.Name x py)) yp) ep] [] env)) fs s := by
    intro Z s h
    show SegZ _ A Z _ ((forTurn (.Name x px) (.ref it) [.Expr (.Yield (some (.Name x py)) yp) ep] [] env).onRaise (fun x => do noteFrame x env; theTreesLotGoes x)) fs s
    unfold forTurn
    rw [Sem.onRaise_eq_wrap]
    refine segz_bind_wrap (wpAny_standAt ?_)
    refine segz_bind_wrap (wpAny_onRaise (wpAny_mono h (fun o s₁ h₁ => ?_) fun _ _ h' => h'.elim))
    cases o with
    | none => exact segz_again rfl h₁
    | some v =>
      refine segz_bind_wrap (wpAny_of_eq (rfl : letOwnedTupleGo (.Name x px) (.ref it) v = pure ()) ?_)
      refine segz_bind_wrap (wpAny_mono h₁ (fun _ s₂ h₂ => ?_) fun _ _ h' => h'.elim)
      rw [Sem.bind_eq_wrap', Sem.wrap_wrap]
      exact h₂ _ _ _ _ rfl rfl
  intro r
  induction r with
  | zero =>
    intro s₀ s hr hon hat
    refine (turn s ?_ : SegZ _ _ (ZEnd (model prog w) A it Mx L items 0 s₀) _ _ _ _)
    refine wpAny_pyNext_list_end ho hat.it hat.ls (by simp) fun h' hk' => ?_
    exact (hend s₀ _ (hon.step (tk := s.toks) fun b o h1 _ e => hk' b o h1 e)).imp fun e s' z => z
  | succ r ih =>
    intro s₀ s hr hon hat
    refine (turn s ?_ : SegZ _ _ (ZEnd (model prog w) A it Mx L items (r + 1) s₀) _ _ _ _)
    have hlt : items.size - (r + 1) < items.size := by omega
    have hx : items[items.size - (r + 1)]? = some items[items.size - (r + 1)] := by simp [hlt]
    refine wpAny_pyNext_list_item hat.it hat.ls hx fun h₁ hit₁ hs₁ => ?_
    obtain ⟨m, hn⟩ := hat.ns
    subst hL
    have hn₁ : h₁.Ns env.locals m := hn.sameBut hs₁ (Ne.symm hit)
    refine wpAny_assign_Name (wpAny_storeName_local hk hn₁ (fun h₂ hn₂ hs₂ => ?_) hp)
    intro K H gd lv hK hgd
    refine segz_execs_cons (segz_Expr_Yield hfs ?_ hco hi)
    refine wpAny_Name (wpAny_loadName_local (m := fun y => if y = x then some items[items.size - (r + 1)] else m y) (v := items[items.size - (r + 1)]) hkd hk hn₂ (by simp) ?_) hd
    intro k l p hk3
    have e1 : items.size - r = items.size - (r + 1) + 1 := by omega
    have at2 : At it Mx env.locals items (items.size - r) h₂ := by
      rw [e1]
      exact ⟨hit₁.at fun o e => hs₂.extBut it o hit e, (hat.ls.at fun o e => hs₁.extBut Mx o hMi e).at fun o e => hs₂.extBut Mx o hM e, _, hn₂⟩
    refine ⟨hon.step (tk := s.toks + 1) fun b o h1 h2 e => hs₂.extBut b o h2 (hs₁.extBut b o h1 e), by simp [End.quiet, hgd, hfg], items[items.size - (r + 1)], _, rfl, rfl, hx, at2, ?_⟩
    cases r with
    | zero =>
      intro s3 hat3
      refine hk3 _ s3 ?_
      show SegZ _ _ _ _ ((execs [] env).wrap K H gd lv) _ _
      show SegZ _ _ _ _ (K .next) _ _
      rw [hK]
      exact segz_again rfl (ih s3 s3 (by omega) .refl hat3)
    | succ r =>
      intro s3 hat3
      refine hk3 _ s3 ?_
      show SegZ _ _ _ _ ((execs [] env).wrap K H gd lv) _ _
      show SegZ _ _ _ _ (K .next) _ _
      rw [hK]
      exact segz_again rfl (ih s3 s3 (by omega) .refl hat3)
end
end K16G
-- part KGen2
set_option Elab.async false
set_option linter.all false
set_option maxRecDepth 100000
set_option maxHeartbeats 4000000
/-! a def «for x in e: yield x»: what its call gives -/
namespace K16G
open PySem PySem.Spec PyProof.Rows GenW L2
open Sem (wp)
/-- its promise: the arguments, the heap, what is wanted of all it hands out -/
abbrev SpZ := List V → Hp → (List V → Hp → Prop) → Prop
/-- how the first run ends -/
def ZFirst (P : Program) (w : World) (outer : List Env) (H : Hp) (s : Shared) (a : Addr) (g : Nat) (A : Around) (cont : List V → Hp → Prop) (e : End) (s1 : Shared) : Prop :=
  ∃ (H' : Hp) (ys : List V) (it Mx L : Addr) (items : Array Value), cont ys H' ∧ s1.os = s.os ∧ AllBare s1.gens ∧ Un (frs outer) [] H H' s.heap s1.heap ∧ HOk P w H' s1.heap ∧ H' it = none ∧ H' L = none ∧ s.heap.objs.size ≤ it ∧ s.heap.objs.size ≤ L ∧ H Mx = none ∧ H' Mx = some (.lst ys) ∧ s1.heap.IsGen a g ∧
    Vals ys items.toList ∧ ys.length ≤ sizeLine ∧ a ≠ it ∧ a ≠ L ∧ ∃ s₀, ZEnd (model P w) A it Mx L items items.size s₀ e s1
/-- what a call gives: a generator that has not begun -/
def MadeZ (P : Program) (w : World) (k : Nat) (outer : List Env) (H : Hp) (s : Shared) (cont : List V → Hp → Prop) (u : Value) (s' : Shared) : Prop :=
  ∃ (a : Addr) (g : Nat) (c : Code), u = .ref a ∧ s.heap.objs.size ≤ a ∧ a < s'.heap.objs.size ∧ s'.heap.IsGen a g ∧ s'.gens[g]? = some (.fresh c) ∧ s'.os = s.os ∧ AllBare s'.gens ∧ s'.heap.NoLimit ∧ (∀ b o, s.heap.get? b = some o → s'.heap.get? b = some o) ∧
    ∀ (A : Around) (s2 : Shared), Room k A → A.frames = some outer → (∀ b o, s'.heap.get? b = some o → s2.heap.get? b = some o) → s2.os = s.os → AllBare s2.gens →
      SegZ (model P w) A (ZFirst P w outer H s a g A cont) c ((model P w).den c) [] s2
structure GZn (P : Program) (w : World) (K : PySem.W.Frag) (mg : Str → Option Value) (base : Heap) (k : Nat) (f : Addr) (fd : FuncData) (ps : List Str) (sp : SpZ) : Prop where
  len : ∀ vs H cont, sp vs H cont → vs.length = ps.length
  run : ∀ (A : Around) (outer : List Env) (s : Shared) (H : Hp) (args : Args) (us : List Value) (vs : List V) (cont : List V → Hp → Prop), Room k A → Env0 P w K mg base A outer s H → BindsTo s fd args (ps.zip us) → Vals vs us → sp vs H cont →
    codeAny (model P w) A (.call (.ref f) args) (fun r s' => match r with | .ok (.ret u) => MadeZ P w k outer H s cont u s' | _ => False) s
theorem gzn_of {P : Program} {w : World} {K : PySem.W.Frag} {mg : Str → Option Value} {base : Heap} {k : Nat} {f : Addr} {name qual : Str} {params : Arguments} {iter : Expr} {x : Str} {px py yp ep pos : Pos} {scope : Scope} {dV kV doc pm cdv ct oc : Value} {an od : Option Addr}
    {osl : Array (Option Value)} {N ps : List Str} {sp : SpZ} (lk : K.lookup f = some ⟨oc, od, .func (PySem.W.fnOf name qual params [.For (.Name x px) iter [.Expr (.Yield (some (.Name x py)) yp) ep] [] pos] scope dV kV doc pm an cdv ct), osl⟩) (hcd : PySem.W.codeIn K cdv qual = true) (S : GScope N ps scope)
    (hxk : scope.names.lookup x = some .local) (hco : scope.isCoroutine = false) (hdb : (x == ("__debug__" : Str)) = false)
    (len : ∀ vs H cont, sp vs H cont → vs.length = ps.length)
    (hfold : ∀ (env : Env) x, foldedSetIterable iter env x = pure x)
    (hbody : ∀ (A : Around) (outer : List Env) (s : Shared) (H : Hp) (vs : List V) (cont : List V → Hp → Prop), Room k (A.deeper (envOfC qual scope s.heap.objs.size f cdv)) → sp vs H cont →
      ∃ t, PE (cxOf CX0 P w K mg base N qual scope f cdv A outer s H E0).nox iter t ∧ t (start N vs) H fun v H' => ∃ Mx ys, v = .ref Mx ∧ H Mx = none ∧ H' Mx = some (.lst ys) ∧ cont ys H') :
    GZn P w K mg base (k + 1) f (PySem.W.fnOf name qual params [.For (.Name x px) iter [.Expr (.Yield (some (.Name x py)) yp) ep] [] pos] scope dV kV doc pm an cdv ct) ps sp := by
  refine ⟨len, fun A outer s H args us vs cont hr e0 hb r hsp => ?_⟩
  have hl := len _ _ _ hsp
  have KX : K.In s.heap := e0.mod.kin.keeps fun b o e => (e0.bs b o e).1
  have lim : s.heap.NoLimit := e0.mod.nolimit.keeps fun b o e => (e0.bs b o e).1
  have hkind : ∀ y ∈ ps.zip us, scope.names.lookup y.1 = some .local ∨ (scope.names.lookup y.1 = some .cell ∧ ((cellsFrom (s.heap.objs.size + 1) scope.names []).lookup y.1).isSome = true) := fun ⟨n, v⟩ hy => by
    rcases S.par n (List.of_mem_zip hy).1 with q | q
    · exact .inl q
    · exact .inr ⟨q, PySem.W.cellsFrom_some _ _ _ (.inl q)⟩
  refine codeAny_call_generator hr.depth (KX _ _ lk) rfl S.co S.gen rfl (PySem.W.codeRec_of KX hcd) (hb _ _ _ _ ?_)
  refine wpAny_newFunctionEnv_cells S.kind hkind fun env he s1 xc => ?_
  subst he
  have lim1 : s1.heap.NoLimit := lim.keeps xc.toInCall.keep
  refine ⟨lim1, ?_⟩
  obtain ⟨h1, tk, es1, hk1⟩ := xc.done
  have os1 : s1.os = s.os := by rw [es1]
  have gen1 : s1.gens = s.gens := by rw [es1]
  have lt1 : s.heap.objs.size < s1.heap.objs.size := xc.toInCall.ns.lt
  have sz1 : s.heap.objs.size ≤ s1.heap.objs.size := Nat.le_of_lt lt1
  have kp1 : ∀ b o, s.heap.get? b = some o → s1.heap.get? b = some o := xc.toInCall.keep
  have main : ∀ (go : Obj) (nm qn : Value) (tk2 : Nat), go.cls = .type "generator" → go.data = .fields #[.int s1.gens.size 0, nm, qn] → go.slots = #[] → (∀ h : Heap, (h.push go).get? h.objs.size = some go) →
      MadeZ P w (k + 1) outer H s cont (.ref s1.heap.objs.size) { s1 with gens := s1.gens.push (.fresh (.func [.For (.Name x px) iter [.Expr (.Yield (some (.Name x py)) yp) ep] [] pos] (envOfC qual scope s.heap.objs.size f cdv))), toks := tk2, heap := s1.heap.push go } := by
    intro go nm qn tk2 hgc hgd0 hgs hgp
    have hgen : ∀ h : Heap, h.get? s1.heap.objs.size = some go → h.IsGen s1.heap.objs.size s1.gens.size := fun h e => ⟨go, nm, qn, e, hgc, hgd0, hgs⟩
    have hpushed : (s1.heap.push go).get? s1.heap.objs.size = some go := hgp _
    refine ⟨s1.heap.objs.size, s1.gens.size, _, rfl, sz1, ?_, hgen _ hpushed, Array.getElem?_push_size .., os1, ?_, lim1.keeps fun b o e => Heap.get?_push_of_some _ e, fun b o e => Heap.get?_push_of_some _ (kp1 b o e), ?_⟩
    · show _ < (s1.heap.push _).objs.size
      rw [Heap.size_push]; exact Nat.lt_succ_self _
    · exact AllBare.push (by rw [gen1]; exact e0.bare) rfl
    intro Aw s2 hrw hfr hk2 hos hba
    have e0w : Env0 P w K mg base Aw outer s H := ⟨hfr, e0.mod, e0.bs, e0.bsz, e0.funs, e0.frf, e0.hok, e0.bare⟩
    obtain ⟨t, ht, hq⟩ := hbody Aw outer s H vs cont (hrw.deeper _) hsp
    have I1 : Inv (cxOf CX0 P w K mg base N qual scope f cdv Aw outer s H E0).nox [] (start N vs) H s1 := (inv_startG (E := E0) S hrw.hd e0w hl r xc).wish fun _ _ => False
    have kp2 : ∀ b o, s1.heap.get? b = some o → s2.heap.get? b = some o := fun b o e => hk2 b o (Heap.get?_push_of_some _ e)
    have I2 : Inv (cxOf CX0 P w K mg base N qual scope f cdv Aw outer s H E0).nox [] (start N vs) H s2 :=
      I1.call' (ch := []) (hos.trans os1.symm) (Un.kept kp2) (I1.hok.kept kp2) hba fun b z => by simp at z
    have hea : s2.heap.get? s1.heap.objs.size = some go := hk2 s1.heap.objs.size go hpushed
    have hgd : ∀ v, go.data ≠ .cell v := fun v q => by rw [hgd0] at q; cases q
    have I3 : Inv (cxOf CX0 P w K mg base N qual scope f cdv Aw outer s H E0).nox [(s1.heap.objs.size, go)] (start N vs) H s2 := I2.pins_of fun p hp => by
      have hp' : p = (s1.heap.objs.size, go) := by simpa using hp
      rw [hp']
      exact ⟨hea, I1.hok.fresh (Nat.le_refl _), Nat.ne_of_gt lt1, I1.nofs (Nat.le_refl _), hgd⟩
    refine segz_func (segz_execs_cons (segz_For (hfold _) ?_))
    rw [over_func]
    refine wpAny_mono (ht.run _ s2 _ H _ I3 hq) (fun v s3 hv => ?_) fun _ _ z => z.elim
    obtain ⟨v', H3, I4, rv, Mx, ys, ev, hM0, hM, hcont⟩ := hv
    subst ev
    obtain rfl : v = Value.ref Mx := rv
    obtain ⟨zl, its, n, rvs, eM⟩ := I4.hok Mx _ hM
    have hls : s3.heap.IsList Mx its.toArray := ⟨_, eM, rfl, n, rfl⟩
    refine wpAny_pyIter_list hls ?_
    intro p kk hkk
    generalize hit : s3.heap.objs.size = it
    have hMit : Mx ≠ it := by rw [← hit]; exact Nat.ne_of_lt (Heap.lt_size eM)
    have hLlt : s.heap.objs.size < it := by rw [← hit]; exact I4.lt
    have ea4 := I4.pin (s1.heap.objs.size, go) (List.mem_append_right _ (by simp))
    have halt : s1.heap.objs.size < it := by rw [← hit]; exact Heap.lt_size ea4.1
    have hML : Mx ≠ s.heap.objs.size := fun z => by
      have := I4.free
      rw [show (cxOf CX0 P w K mg base N qual scope f cdv Aw outer s H E0).nox.env.locals = s.heap.objs.size from rfl, ← z, hM] at this
      cases this
    have hgit : (s3.heap.push { cls := .type "list_iterator", data := .fields #[.ref Mx, .int 0 0] }).get? it = some { cls := .type "list_iterator", data := .fields #[.ref Mx, .int 0 0] } := by rw [← hit]; exact Heap.get?_push_size _ rfl
    have at0 : At it Mx s.heap.objs.size its.toArray 0 (s3.heap.push { cls := .type "list_iterator", data := .fields #[.ref Mx, .int 0 0] }) := by
      refine ⟨⟨_, hgit, rfl, rfl⟩, hls.at fun o e => Heap.get?_push_of_some _ e, ?_⟩
      obtain ⟨m, hn, _⟩ := I4.loc
      exact ⟨m, hn.at' fun o e => Heap.get?_push_of_some _ e⟩
    have hitn : H3 it = none := by rw [← hit]; exact I4.hok.fresh (Nat.le_refl _)
    have hLn : H3 s.heap.objs.size = none := I4.free
    -- behind the first run
    have fin : ∀ (e : End) (s4 : Shared), Only it s.heap.objs.size { s3 with heap := s3.heap.push { cls := .type "list_iterator", data := .fields #[.ref Mx, .int 0 0] } } s4 →
        (∃ s₀, ZEnd (model P w) Aw it Mx s.heap.objs.size its.toArray its.toArray.size s₀ e s4) → ZFirst P w outer H s s1.heap.objs.size s1.gens.size Aw cont e s4 := by
      intro e s4 hon hz
      obtain ⟨h', tk', rfl, hk4⟩ := hon
      have kall : ∀ b o, b ≠ s.heap.objs.size → s3.heap.get? b = some o → h'.get? b = some o := fun b o hb e => hk4 b o (by rw [← hit]; exact Nat.ne_of_lt (Heap.lt_size e)) hb (Heap.get?_push_of_some _ e)
      have bs4 : Un (frs outer) [] H H3 s.heap s3.heap := I4.base
      have un : Un (frs outer) [] H H3 s.heap h' := by
        refine ⟨fun b o e n hb hx => kall b o (Nat.ne_of_lt (Heap.lt_size e)) (bs4.keep b o e n hb hx), fun b o e n hb hx => ?_, bs4.free, fun b o e hx => ?_, bs4.tups, bs4.frzs, bs4.tbls⟩
        · obtain ⟨sl, q⟩ := bs4.slot b o e n hb hx
          exact ⟨sl, kall b _ (Nat.ne_of_lt (Heap.lt_size e)) q⟩
        · obtain ⟨o', q⟩ := bs4.there b o e hx
          exact ⟨o', kall b _ (Nat.ne_of_lt (Heap.lt_size e)) q⟩
      have ntr : ∀ b u, H3 b = some u → b ≠ s.heap.objs.size := fun b u q z => by rw [z, hLn] at q; cases q
      have hok : HOk P w H3 h' := fun b u q => (I4.hok b u q).stay (fun c v hc e => kall c v (hc.elim (fun z => by rw [z]; exact ntr b u q) fun z => ntr c _ z) e) (fun _ z => z) fun _ _ z => z
      exact ⟨H3, ys, it, Mx, s.heap.objs.size, its.toArray, hcont, I4.os, I4.bare, un, hok, hitn, hLn, Nat.le_of_lt hLlt, Nat.le_refl _, hM0, hM, hgen h' (kall _ _ (Nat.ne_of_gt lt1) ea4.1), by simpa using rvs, zl, Nat.ne_of_lt halt, Nat.ne_of_gt lt1, hz⟩
    have ov : Aw.over (.forLoop (.Name x px) (.ref it) [.Expr (.Yield (some (.Name x py)) yp) ep] [] (envOfC qual scope s.heap.objs.size f cdv)) [.ret kk none (id false) (id []) (.func [.For (.Name x px) iter [.Expr (.Yield (some (.Name x py)) yp) ep] [] pos] (envOfC qual scope s.heap.objs.size f cdv)) p []] =
        Aw.deeper (envOfC qual scope s.heap.objs.size f cdv) := (over_loop rfl rfl).trans over_func
    refine (loopZ (A := Aw) (env := envOfC qual scope s.heap.objs.size f cdv) (L := s.heap.objs.size) (it := it) (Mx := Mx) (items := its.toArray) (fs := [.ret kk none (id false) (id []) (.func [.For (.Name x px) iter [.Expr (.Yield (some (.Name x py)) yp) ep] [] pos] (envOfC qual scope s.heap.objs.size f cdv)) p []])
      rfl (Nat.ne_of_gt hLlt) hML hMit S.kind hxk (by
        show (scope.kind == .class || (scope.kind == .module && _)) = false
        rw [S.kind]; rfl) hco I4.quiet hdb (by rw [ov]; exact hrw.hd) rfl rfl (fun s₀ s5 hon => ?_) its.toArray.size { s3 with heap := s3.heap.push { cls := .type "list_iterator", data := .fields #[.ref Mx, .int 0 0] } } { s3 with heap := s3.heap.push { cls := .type "list_iterator", data := .fields #[.ref Mx, .int 0 0] } } (Nat.le_refl _) .refl (by rw [Nat.sub_self]; exact at0)).imp fun e s4 hz => fin e s4 hz.1 ⟨_, hz⟩
    show SegZ _ _ _ _ (do return PySem.Fin.done (← (execs [] (envOfC qual scope s.heap.objs.size f cdv)).onRaise (fun x => do noteFrame x (envOfC qual scope s.heap.objs.size f cdv); theTreesLotGoes x))) _ _
    refine segz_leaf (.ok .next) ?_
    refine hkk _ s5 ?_
    show SegZ _ _ _ _ (Sem.pure (PySem.Fin.done (.ret .none))) [] s5
    exact segz_end (.ok (.ret .none)) ⟨hon, rfl⟩
  exact main _ _ _ _ rfl rfl rfl fun h => Heap.get?_push_size _ rfl
end K16G
-- part KGen3
set_option Elab.async false
set_option linter.all false
set_option maxRecDepth 100000
set_option maxHeartbeats 4000000
/-! «for x in o.m(): l.append(x)», o.m a generator def -/
namespace K16G
open PySem PySem.Spec PyProof.Rows GenW L2
open Sem (wp)
section
variable {P : Program} {w : World} {A : Around} {E : Value → Shared → Prop} {s : Shared}
theorem next_genZ {a : Addr} {g : Nat} {gs : GenState} {Z : End → Shared → Prop} {Q : Option Value → Shared → Prop} (hh : A.handled = none)
    (hl : s.heap.NoLimit) (hroom : A.depth < recursionLimit) (hg : s.heap.IsGen a g) (hgs : s.gens[g]? = some gs) (hgo : GoesZ (model P w) A.in1 Z gs (.send .none) (s.setGen g .running))
    (hz : ∀ e s₁, Z e s₁ → (e = .ret (.ok (.ret .none)) ∧ ∀ h', (∀ b o, s₁.heap.get? b = some o → h'.get? b = some o) → Q none { s₁.setGen g .finished with heap := h' }) ∨ (e.quiet = true ∧ ∃ v, e.result = .yielded v ∧ Q (some v) (s₁.setGen g e.genState))) :
    wpAny (model P w) A (pyNext (.ref a)) Q E s := by
  unfold pyNext
  refine wpAny_bind (wpAny_attempt (wpAny_callSpecial?_slot (name := Str.ofString "__next__") hg.typeIs slot_gen_next
    (wpAny_call_entry slot_gen_next hg.typeIs entry_gen_next ?_ (args_gen_next _))))
  show wpAny _ A.in1 (Builtin.Generator.genWake (.ref a) (.send .none)) _ _ s
  unfold Builtin.Generator.genWake
  refine wpAny_bind (wpAny_holding (wpAny_genNumber hg (wpAny_bind (wpAny_genState hgs ?_))))
  have hq : ∀ e s', Z e s' → e.quiet = true := fun e s' z => by
    rcases hz e s' z with ⟨rfl, _⟩ | ⟨q, _⟩
    · rfl
    · exact q
  cases gs with
  | running => exact hgo.elim
  | finished => exact hgo.elim
  | _ =>
    refine wpAny_bind (wpAny_roomToWake hl hroom ?_)
    show wpAny _ A.in1 (.resume g (.send .none) [] _) _ _ s
    refine resumeZ hgs hgo hq fun e s₁ he => ?_
    rcases hz e s₁ he with ⟨rfl, hp⟩ | ⟨_, v, hv, hy⟩
    · show wpAny _ A.in1 (newExc (.type "StopIteration") [] >>= _) _ _ _
      refine wpAny_bind ?_
      simp only [newExc, newTuple]
      refine wpAny_bind (wpAny_newObj_type ?_ (by size_fits))
      refine wpAny_bind (m := firstArgMember _ _) (wpAny_of_eq (a := Value.none) (by first | rfl | (simp only [firstArgMember]; rfl)) ?_)
      refine wpAny_newObj_type ?_ (by size_fits)
      simp only [raiseNew]
      refine wpAny_bind (wpAny_bind (wpAny_handled ?_))
      first | rw [show A.in1.handled = none from hh] | rw [hh]
      refine wpAny_throw ?_
      refine wpAny_bind (wpAny_isInstance (T := "StopIteration") (b := true) ⟨_, Heap.get?_push_size _ rfl, rfl⟩ isSubtype_stop ?_)
      exact wpAny_pure (hp _ fun b o hb => Heap.get?_push_of_some _ (Heap.get?_push_of_some _ hb))
    · first | rw [hv] | simp only [hv]
      exact wpAny_pure ⟨v, rfl, wpAny_pure hy⟩
end
section
variable {X : Cx} {pins : List (Addr × Obj)} {σ : L2.St} {H H' : Hp} {s : Shared}
/-- the generators' records changed -/
theorem Inv.gens' {g' : Array GenState} (I : Inv X pins σ H s) (h : AllBare g') : Inv X pins σ H { s with gens := g' } :=
  I.call' (ch := []) rfl Un.refl I.hok h fun b z => by simp at z
/-- a local name stored: the state told -/
theorem store_loc {M : Model} {A : Around} {E : Value → Shared → Prop} {i : Nat} {x : Str} {v : V} {u : Value} {Q : Unit → Shared → Prop} (I : Inv X pins σ H s) (hN : X.N.Nodup) (hi : X.N[i]? = some x) (hk : X.env.scope.names.lookup x = some .local) (r : RelV v u)
    (h : ∀ h', Inv X pins (σ.set i (some v)) H { s with heap := h', toks := s.toks + 1 } → Heap.SameBut X.env.locals s.heap h' → Q () { s with heap := h', toks := s.toks + 1 }) : wpAny M A (storeName X.env x u) Q E s := by
  obtain ⟨m, hn, hl⟩ := id I.loc
  have hcls : (X.env.scope.kind == .class || (X.env.scope.kind == .module && X.env.locals != X.env.globals)) = false := by rw [I.ok.kind]; rfl
  have hiσ : i < σ.length := by rw [I.len]; exact (List.getElem?_eq_some_iff.mp hi).1
  have cne := I.cne
  refine wpAny_storeName_local hk hn (fun h' hn' hs => ?_) hcls
  obtain ⟨oL, _, _, hoL, _⟩ := id hn
  refine h h' ⟨I.ok, I.os, I.bare, ⟨fun b o e n hb hx => ?_, fun b o e n hb hx => ?_, I.base.free, fun b o e hx => ?_, I.base.tups, I.base.frzs, I.base.tbls⟩, ⟨_, hn', fun j y v' e1 e2 e3 => ?_⟩, fun y c e => ?_, I.free, I.freeC, fun p hp => ?_, fun b ob e => ?_, by simpa using I.len⟩ hs
  · exact (hs.2 b (Nat.ne_of_lt (Nat.lt_of_lt_of_le (Heap.lt_size e) I.ok.above))).trans (I.base.keep b o e n hb hx)
  · obtain ⟨sl, e1⟩ := I.base.slot b o e n hb hx
    exact ⟨sl, (hs.2 b (Nat.ne_of_lt (Nat.lt_of_lt_of_le (Heap.lt_size e) I.ok.above))).trans e1⟩
  · obtain ⟨o', e1⟩ := I.base.there b o e hx
    exact ⟨o', (hs.2 b (Nat.ne_of_lt (Nat.lt_of_lt_of_le (Heap.lt_size e) I.ok.above))).trans e1⟩
  · by_cases hj : j = i
    · subst hj
      rw [hi] at e1; cases e1
      rw [List.getElem?_set_self hiσ] at e2
      cases e2
      exact ⟨u, r, .inl ⟨hk, by simp⟩⟩
    · rw [List.getElem?_set_ne (Ne.symm hj)] at e2
      obtain ⟨u', r', q⟩ := hl j y v' e1 e2 e3
      refine ⟨u', r', ?_⟩
      rcases q with ⟨k, e⟩ | ⟨k, c, e, z⟩
      · refine .inl ⟨k, ?_⟩
        have : y ≠ x := fun e => hj (nodup_ix hN e1 (e ▸ hi))
        simp [this, e]
      · exact .inr ⟨k, c, e, z.sameBut hs (cne y c e)⟩
  · obtain ⟨w', z⟩ := I.cell y c e
    exact ⟨w', z.sameBut hs (cne y c e)⟩
  · obtain ⟨e, n, ne, nf, d⟩ := I.pin p hp
    exact ⟨(hs.2 p.1 ne).trans e, n, ne, nf, d⟩
  · refine (I.hok b ob e).stay (fun c w' hc q => (hs.2 c ?_).trans q) (fun _ q => q) fun _ _ q => q
    rintro rfl
    rcases hc with z | hc
    · rw [← z, I.free] at e; cases e
    · rw [I.free] at hc; cases hc
/-- a local name read: the state told -/
theorem load_loc {M : Model} {A : Around} {E : Value → Shared → Prop} {i : Nat} {x : Str} {pos : Pos} {v : V} {Q : Value → Shared → Prop} (I : Inv X pins σ H s) (hi : X.N[i]? = some x) (hk : X.env.scope.names.lookup x = some .local) (hσ : σ[i]? = some (some v)) (hd : (x == ("__debug__" : Str)) = false)
    (h : ∀ u, RelV v u → Q u s) : wpAny M A (eval (.Name x pos) X.env) Q E s := by
  obtain ⟨m, hn, hl⟩ := id I.loc
  obtain ⟨u, r, q⟩ := hl i x v hi hσ (.inl hk)
  rcases q with ⟨k, e⟩ | ⟨k, _⟩
  · exact wpAny_Name (wpAny_loadName_local I.ok.kind k hn e (h u r)) hd
  · have k1 : X.env.scope.names.lookup x = some .cell ∨ X.env.scope.names.lookup x = some .free := k
    rw [hk] at k1
    rcases k1 with k1 | k1 <;> cases k1
/-- l.append(x), a statement, l and x local names: the state told -/
theorem append_loc {E : Value → Shared → Prop} {il ix : Nat} {l x : Str} {pl px apos cpos ep : Pos} {S : Addr} {acc : List V} {v : V} {Q : Flow → Shared → Prop} (I : Inv X pins σ H s) (hil : X.N[il]? = some l) (hlk : X.env.scope.names.lookup l = some .local) (hdl : (l == ("__debug__" : Str)) = false)
    (hix : X.N[ix]? = some x) (hxk : X.env.scope.names.lookup x = some .local) (hdx : (x == ("__debug__" : Str)) = false) (hσl : σ[il]? = some (some (.ref S))) (hσx : σ[ix]? = some (some v)) (hS : H S = some (.lst acc)) (hz : acc.length < sizeLine)
    (hbase : attributeBase (.Name l pl) "append" X.env (eval (.Name l pl) X.env) = eval (.Name l pl) X.env) (hline : (apos.endLine == cpos.line) = true)
    (h : ∀ h' tk, Inv X pins σ (upd H S (.lst (acc ++ [v]))) { s with heap := h', toks := tk } → (∀ b o, b ≠ S → s.heap.get? b = some o → h'.get? b = some o) → Q .next { s with heap := h', toks := tk }) :
    wpAny (model X.prog X.w) X.A (execs [.Expr (.Call (.Attribute (.Name l pl) "append" apos) [.Name x px] [] cpos) ep] X.env) Q E s := by
  refine wpAny_execs_cons ?_
  rw [exec_Expr X.env _ ep I.quiet rfl]
  refine wpAny_bind (wpAny_standAt ?_)
  refine wpAny_bind ?_
  refine wpAny_Call_method_late hbase rfl hline rfl ?_
  refine load_loc I hil hlk hσl hdl fun u ru => ?_
  obtain rfl : u = Value.ref S := ru
  obtain ⟨z, its, n, r, hl, e⟩ := I.lstM hS
  have hT : s.TypeIs (.ref S) "list" := ⟨_, e, rfl⟩
  refine ⟨"list", "list.append", PySem.F.plainAttrs_list, PySem.F.slot_list_append, PySem.F.type_list_append, hT, ?_, ?_⟩
  · intro a ea
    cases ea
    exact ⟨_, e, rfl⟩
  refine Calls.callWith_builtin rfl (Calls.evalArgs_plain ?_)
  show wpAny _ _ (spliced ((false, eval (.Name x px) X.env) :: backTo cpos (starEach [] X.env))) _ _ _
  refine Calls.spliced_cons (load_loc I hix hxk hσx hdx fun u ru => ?_)
  refine Calls.spliced_nil ?_
  refine call_meets F.slot_list_append ⟨_, e, rfl⟩ F.entry_list_append (F.args_list_append_2 _ _) (PySem.list_append S its.toArray n u (by rw [List.size_toArray]; omega)) ⟨e, ?_⟩
  have J := I.lset (t' := s.toks) (f := (·.push u)) (its' := its ++ [u]) hS e (by simp) (r.append (.cons ru .nil)) (by rw [List.length_append, List.length_singleton]; omega)
  show wpAny _ _ (pure Flow.next : Sem Flow) _ _ _
  refine wpAny_pure ?_
  show wpAny _ _ (execs [] X.env) _ _ _
  refine wpAny_execs_nil ?_
  exact h _ s.toks J fun b o hb eb => (Heap.get?_update_other _ _ (Ne.symm hb)).trans eb
end
end K16G
-- part KGen4
set_option Elab.async false
set_option linter.all false
set_option maxRecDepth 100000
set_option maxHeartbeats 4000000
/-! «for x in o.m(): l.append(x)», o.m a generator def: the rule -/
namespace K16G
open PySem PySem.Spec PyProof.Rows GenW L2
open Sem (wp)
/-- what stays through the walk -/
structure Fix (X : Cx) (pins : List (Addr × Obj)) (S : Addr) (acc : List V) (H1 : Hp) (ys : List V) (a it Mx L : Addr) (items : Array Value) : Prop where
  fit : FpOk X pins H1 it
  fL : FpOk X pins H1 L
  hS : H1 S = some (.lst acc)
  hM : H1 Mx = some (.lst ys)
  MS : Mx ≠ S
  ai : a ≠ it
  aL : a ≠ L
  aS : a ≠ S
  aE : a ≠ X.env.locals
  rv : Vals ys items.toList
  len : acc.length + ys.length ≤ sizeLine
/-- d items stand in the list, r more are to come -/
structure Core (X : Cx) (pins : List (Addr × Obj)) (S : Addr) (acc : List V) (H1 : Hp) (ys : List V) (a : Addr) (g : Nat) (it Mx L : Addr) (items : Array Value) (σ₀ : L2.St) (ix d r : Nat) (s : Shared) : Prop where
  inv : ∃ σ', Inv X pins σ' (upd H1 S (.lst (acc ++ ys.take d))) s ∧ σ'.length = σ₀.length ∧ ∀ j, j ≠ ix → σ'[j]? = σ₀[j]?
  gen : s.heap.IsGen a g
  gs : ∃ gs, s.gens[g]? = some gs ∧ Sleep (model X.prog X.w) X.A.in1 it Mx L items r gs
  at_ : At it Mx L items (items.size - r) s.heap
theorem vals_arr {ys : List V} {items : Array Value} (r : Vals ys items.toList) : items.size = ys.length := by
  have := r.length
  simpa using this.symm
/-- the item is stored and appended -/
theorem take_turn {X : Cx} {pins : List (Addr × Obj)} {S : Addr} {acc : List V} {H1 : Hp} {ys : List V} {a : Addr} {g : Nat} {it Mx L : Addr} {items : Array Value} {σ₀ : L2.St} {il ix d r : Nat} {s : Shared} {l x : Str} {px' pl px apos cpos ep : Pos} {v : Value} {I : Nat → Shared → Prop} {n : Nat} {R : Result → Shared → Prop}
    (F : Fix X pins S acc H1 ys a it Mx L items) (C : Core X pins S acc H1 ys a g it Mx L items σ₀ ix d r s) (hd : d + 1 + r = items.size) (hv : items[d]? = some v) (hN : X.N.Nodup)
    (hil : X.N[il]? = some l) (hlk : X.env.scope.names.lookup l = some .local) (hdl : (l == ("__debug__" : Str)) = false)
    (hix : X.N[ix]? = some x) (hxk : X.env.scope.names.lookup x = some .local) (hdx : (x == ("__debug__" : Str)) = false) (hne : il ≠ ix) (hσl : σ₀[il]? = some (some (.ref S)))
    (hbase : attributeBase (.Name l pl) "append" X.env (eval (.Name l pl) X.env) = eval (.Name l pl) X.env) (hline : (apos.endLine == cpos.line) = true)
    (hI : ∀ s', Core X pins S acc H1 ys a g it Mx L items σ₀ ix (d + 1) r s' → ∃ m, m < n ∧ I m s') :
    wpAny (model X.prog X.w) X.A (letOwnedTupleGo (.Name x px') (.ref a) v) (fun _ s₁' =>
          wpAny (model X.prog X.w) X.A (assign (.Name x px') X.env v) (fun _ s₂ => wpAny (model X.prog X.w) X.A (execs [.Expr (.Call (.Attribute (.Name l pl) "append" apos) [.Name x px] [] cpos) ep] X.env) (fun f s₃ => match f with
            | .next | .cont => ∃ m, m < n ∧ I m s₃
            | .brk => R (.ok .next) s₃
            | .ret v => R (.ok (.ret v)) s₃) (notedBy (model X.prog X.w) X.A X.env fun e s' => R (.error e) s') s₂) (notedBy (model X.prog X.w) X.A X.env fun e s' => R (.error e) s') s₁') (notedBy (model X.prog X.w) X.A X.env fun e s' => R (.error e) s') s := by
  obtain ⟨⟨σ', I0, hlen, hσ⟩, hg, ⟨gs, hgs, hsl⟩, hat⟩ := C
  refine wpAny_of_eq (rfl : letOwnedTupleGo (.Name x px') (.ref a) v = pure ()) ?_
  have hdy : d < ys.length := by rw [← vals_arr F.rv]; omega
  have rv : RelV ys[d] v := by
    obtain ⟨u, hu, ru⟩ := F.rv.get (List.getElem?_eq_getElem hdy)
    have : items[d]? = some u := by simpa using hu
    rw [hv] at this
    cases this
    exact ru
  have hxσ : ix < σ'.length := by rw [I0.len]; exact (List.getElem?_eq_some_iff.mp hix).1
  refine wpAny_assign_Name (store_loc I0 hN hix hxk rv fun h₁ I1 sb => ?_)
  have hS1 : upd H1 S (.lst (acc ++ ys.take d)) S = some (.lst (acc ++ ys.take d)) := upd_same
  have htl : (ys.take d).length = d := by rw [List.length_take]; omega
  refine append_loc (S := S) (acc := acc ++ ys.take d) (v := ys[d]) I1 hil hlk hdl hix hxk hdx ?_ ?_ hS1 ?_ hbase hline fun h₂ tk₂ I2 k2 => ?_
  · rw [List.getElem?_set_ne (Ne.symm hne), hσ il hne]; exact hσl
  · rw [List.getElem?_set_self hxσ]
  · rw [List.length_append, htl]; have := F.len; omega
  have eup : upd (upd H1 S (.lst (acc ++ ys.take d))) S (.lst (acc ++ ys.take d ++ [ys[d]])) = upd H1 S (.lst (acc ++ ys.take (d + 1))) := by
    rw [upd_upd, List.append_assoc, List.take_add_one, List.getElem?_eq_getElem hdy]; rfl
  rw [eup] at I2
  have SL : S ≠ L := fun z => by have := F.fL.1; rw [← z, F.hS] at this; cases this
  have Si : S ≠ it := fun z => by have := F.fit.1; rw [← z, F.hS] at this; cases this
  have ML : Mx ≠ X.env.locals := fun z => by
    have q := I0.free
    rw [← z, upd_ne F.MS, F.hM] at q; cases q
  have kp : ∀ b ∈ [it, Mx, L], ∀ o, s.heap.get? b = some o → h₂.get? b = some o := fun b hb o e => by
    have hb' : b = it ∨ b = Mx ∨ b = L := by simpa using hb
    have e1 : h₁.get? b = some o := by
      refine (sb.2 b ?_).trans e
      rcases hb' with z | z | z
      · rw [z]; exact F.fit.2.1
      · rw [z]; exact ML
      · rw [z]; exact F.fL.2.1
    refine k2 b o ?_ e1
    rcases hb' with z | z | z
    · rw [z]; exact Ne.symm Si
    · rw [z]; exact F.MS
    · rw [z]; exact Ne.symm SL
  refine hI _ ⟨⟨_, I2, by simpa using hlen, fun j hj => ?_⟩, ?_, ⟨gs, hgs, hsl⟩, hat.keep kp⟩
  · rw [List.getElem?_set_ne (Ne.symm hj), hσ j hj]
  · obtain ⟨o, nm, qn, ho, r1⟩ := hg
    exact ⟨o, nm, qn, k2 a o F.aS ((sb.2 a F.aE).trans ho), r1⟩
/-- an expression whose value is such a generator, not begun -/
abbrev TGenZ := L2.St → Hp → (List V → Hp → Prop) → Prop
structure PGenZ (X : Cx) (k : Nat) (e : Expr) (tg : TGenZ) : Prop where
  run : ∀ (pins : List (Addr × Obj)) (s : Shared) (σ : L2.St) (H : Hp) (cont : List V → Hp → Prop), Inv X pins σ H s → tg σ H cont → wpAny (model X.prog X.w) X.A (eval e X.env)
    (fun u s' => ∃ sc, Inv X pins σ H sc ∧ MadeZ X.prog X.w k X.stack H sc cont u s') X.xe s
section
variable {X : Cx} {k : Nat} {f C : Addr} {fd : FuncData} {ps : List Str} {sp : SpZ} {m : Str} {o : Str} {i : Nat} {po apos pos' : Pos}
theorem run_gzn {pins : List (Addr × Obj)} {σ : L2.St} {H : Hp} {s : Shared} {us : List Value} {vs : List V} {cont : List V → Hp → Prop} {E1 : Value → Shared → Prop} (F : GZn X.prog X.w X.K X.mg X.base k f fd ps sp) (hr : Room k X.A) (hb : Binds X.K fd ps [])
    (I : Inv X pins σ H s) (r : Vals vs us) (h : sp vs H cont) :
    wpAny (model X.prog X.w) X.A (call (.ref f) us) (fun u s' => ∃ sc, Inv X pins σ H sc ∧ MadeZ X.prog X.w k X.stack H sc cont u s') E1 s := by
  have hl2 : (us ++ []).length = ps.length := by rw [List.append_nil, ← r.length]; exact F.len _ _ _ h
  refine wpAny_call (codeAny_mono (F.run X.A X.stack s H ⟨us, []⟩ us vs cont hr I.env0 (by
    have := hb s us I.kIn hl2
    simpa using this) r h) fun r s' hq => ?_)
  cases r with
  | error e => exact False.elim hq
  | ok fl =>
    cases fl with
    | ret u => exact ⟨s, I, hq⟩
    | next => exact False.elim hq
    | brk => exact False.elim hq
    | cont => exact False.elim hq
/-- o.m(), o a local name -/
theorem pgenz_meth0 {pl : Sem Bool} (hio : X.N[i]? = some o) (hvo : Vis X.env.scope o) (c : Cls X.K C) (hm : Meth X.K C m f) (F : GZn X.prog X.w X.K X.mg X.base k f fd ps sp) (hr : Room k X.A) (hb : Binds X.K fd ps [])
    (ht : eval (.Call (.Attribute (.Name o po) m apos) [] [] pos') X.env = (do
      let ov ← eval (.Name o po) X.env
      standAt apos.atName
      let (f, first) ← holding [ov] (getMethod ov m pl)
      callWith pos' f first (backTo pos' (starEach [] X.env)) (backToKw pos' (keywordEach [] X.env))) := by rfl)
    (hd : (o == ("__debug__" : Str)) = false := by decide) (hcd : (o == ("__classdict__" : Str)) = false := by decide) :
    PGenZ X k (.Call (.Attribute (.Name o po) m apos) [] [] pos') (fun σ H cont => ∃ a dx fs, σ[i]? = some (some (.ref a)) ∧ H a = some (.ins C dx fs) ∧ fs.lookup m = none ∧ sp [.ref a] H cont) := by
  refine ⟨fun pins s σ H cont I h => ?_⟩
  obtain ⟨a, dx, fs, hσ, ea, l, q⟩ := h
  refine PySem.W.methodCall_KW (pl := pl) (thn ((pe_var (i := i) hio hvo hd hcd).run pins s σ H (fun x H1 => x = .ref a ∧ H1 = H) I ⟨_, hσ, rfl, rfl⟩) fun u s1 ⟨x, H1, I1, rx, ex, eH⟩ => ?_) ht
  subst ex
  rw [eH] at I1
  obtain rfl : u = Value.ref a := rx
  refine getmeth_ok I1 ea c hm l ?_
  exact PySem.W.callWith_K0 (first := [.ref a]) I1.kIn hm.kp (run_gzn (us := [.ref a]) (vs := [.ref a]) F hr hb I1 (.cons rfl .nil) q)
end
def tForG (il ix : Nat) (tg : TGenZ) : TS := fun D σ H => ∃ S acc, σ[il]? = some (some (.ref S)) ∧ H S = some (.lst acc) ∧
  tg σ H fun ys H1 => H1 S = some (.lst acc) ∧ acc.length + ys.length ≤ sizeLine ∧ ∀ σ' : L2.St, σ'.length = σ.length → (∀ j, j ≠ ix → σ'[j]? = σ[j]?) → D.nx σ' (upd H1 S (.lst (acc ++ ys)))
/-- the walk's invariant -/
def GInv (X : Cx) (pins : List (Addr × Obj)) (S : Addr) (acc : List V) (σ : L2.St) (ix : Nat) (a : Addr) (g : Nat) (s1 : Shared) (D : Ends) : Nat → Shared → Prop :=
  fun n s' => (n = sizeLine + 1 ∧ s' = s1) ∨ ∃ H1 ys it Mx L items d r, Fix X pins S acc H1 ys a it Mx L items ∧ Core X pins S acc H1 ys a g it Mx L items σ ix d r s' ∧ n = r ∧ d + r = items.size ∧ g < s'.gens.size ∧ ∀ σ' : L2.St, σ'.length = σ.length → (∀ j, j ≠ ix → σ'[j]? = σ[j]?) → D.nx σ' (upd H1 S (.lst (acc ++ ys)))
theorem ps_forG {X : Cx} {k il ix : Nat} {l x : Str} {px' pl px apos cpos ep pos : Pos} {e : Expr} {tg : TGenZ} (hp : PassesOwn (model X.prog X.w) X.A X.env X.xe) (hc : X.calm = true) (hg : PGenZ X k e tg) (hr : Room (k + 1) X.A) (hN : X.N.Nodup)
    (hil : X.N[il]? = some l) (hlk : X.env.scope.names.lookup l = some .local)
    (hix : X.N[ix]? = some x) (hxk : X.env.scope.names.lookup x = some .local) (hne : il ≠ ix)
    (hbase : attributeBase (.Name l pl) "append" X.env (eval (.Name l pl) X.env) = eval (.Name l pl) X.env := by rfl) (hline : (apos.endLine == cpos.line) = true := by rfl)
    (hs : ∀ x, foldedSetIterable e X.env x = pure x := by intro _; rfl) (hdl : (l == ("__debug__" : Str)) = false := by decide) (hdx : (x == ("__debug__" : Str)) = false := by decide) :
    PS X (.For (.Name x px') e [.Expr (.Call (.Attribute (.Name l pl) "append" apos) [.Name x px] [] cpos) ep] [] pos) (tForG il ix tg) := by
  refine ⟨fun pins s σ H D I h => ?_⟩
  obtain ⟨S, acc, hσl, hS, h⟩ := h
  refine wpAny_For (thn (hg.run pins s σ H _ I h) fun v s1 ⟨sc, Ic, hG⟩ => ?_) hs
  obtain ⟨a, g, c, rfl, ha1, ha2, hgn, hgs, hos, hb, hl, hkp, wake⟩ := hG
  refine wpAny_pyIter_gen hgn ?_
  have hSlt : S < sc.heap.objs.size := Ic.hok.lt hS
  have agl : g < s1.gens.size := (Array.getElem?_eq_some_iff.mp hgs).1
  have upd_self : ∀ {G : Hp} {b : Addr} {o : HO}, G b = some o → upd G b o = G := fun {G b o} e => by
    funext c; unfold upd; split
    · rename_i z; rw [z, e]
    · rfl
  refine codeAny_forLoop_any (GInv X pins S acc σ ix a g s1 D) ?_ (sizeLine + 1) (.inl ⟨rfl, rfl⟩)
  rintro n s' (⟨rfl, es⟩ | ⟨H1, ys, it, Mx, L, items, d, r, F, C, hnr, hdr, hgl, nx⟩)
  · subst es
    refine wpAny_gsz (n := g + 1) agl (next_genZ (Ic.ok.hd hc) hl hr.depth hgn hgs (gs := .fresh c) ⟨rfl, wake X.A.in1 _ hr.in1 Ic.ok.frames (fun b o e => e) hos (allBare_setGen hb rfl)⟩ fun e s₁ hz => ?_)
    obtain ⟨H1, ys, it, Mx, L, items, ⟨hS1, hlen, nx⟩, os1, bare1, un, hok, hitn, hLn, hit, hL, hM0, hM, hgen, rv, zl, ai, aL, s₀, hz⟩ := hz
    have I1 : Inv X pins σ H1 s₁ := Ic.call' (ch := []) os1 un hok bare1 fun b z => by simp at z
    have sz := vals_arr rv
    generalize hrr : items.size = r at hz
    cases r with
    | zero =>
      refine .inl ⟨hz.2, fun h' hk _ => wpAny_execs_nil ?_⟩
      have ey : ys = [] := List.eq_nil_of_length_eq_zero (by omega)
      have J : Inv X pins σ H1 { s₁.setGen g .finished with heap := h' } := (Inv.gens' I1 (allBare_setGen (s := s₁) (g := g) (x := .finished) bare1 rfl)).kept (t' := s₁.toks) hk
      refine ⟨σ, H1, J, ?_⟩
      have q := nx σ rfl fun _ _ => rfl
      rw [ey, List.append_nil, upd_self hS1] at q
      exact q
    | succ r =>
      obtain ⟨hon, hqu, v, gs', hv, hgs', hvi, hat, hsl⟩ := hz
      refine .inr ⟨hqu, v, hv, fun hsz => ?_⟩
      have F : Fix X pins S acc H1 ys a it Mx L items :=
        ⟨Ic.fpOk hit hitn, Ic.fpOk hL hLn, hS1, hM, (fun z => by rw [z, hS] at hM0; cases hM0), ai, aL, Nat.ne_of_gt (Nat.lt_of_lt_of_le hSlt ha1), Nat.ne_of_gt (Nat.lt_of_lt_of_le Ic.lt ha1), rv, hlen⟩
      have hb' : gs'.bare = true := by rw [← hgs']; exact End.bare_of_quiet hqu
      have hsz' : g + 1 ≤ s₁.gens.size := by
        have q : (s₁.setGen g e.genState).gens.size = s₁.gens.size := setGen_size _ _ _
        omega
      have C : Core X pins S acc H1 ys a g it Mx L items σ ix 0 r (s₁.setGen g e.genState) := by
        refine ⟨⟨σ, ?_, rfl, fun _ _ => rfl⟩, hgen, ⟨gs', by rw [hgs']; exact setGen_at (by omega), hsl⟩, hat⟩
        rw [List.take_zero, List.append_nil, upd_self hS1, hgs']
        exact Inv.gens' I1 (allBare_setGen (s := s₁) (g := g) bare1 hb')
      have h0 : items[0]? = some v := by
        have e0 : items.size - (r + 1) = 0 := by omega
        rw [← e0]; exact hvi
      refine take_turn (I := GInv X pins S acc σ ix a g s' D) (R := fun r s' => match r with | .ok f => SP X pins D f s' | .error e => cameBackBy (model X.prog X.w) X.A X.env X.xe e s') F C (by omega) h0 hN hil hlk hdl hix hxk hdx hne hσl hbase hline ?_
      exact fun s2 C2 => ⟨r, by omega, .inr ⟨H1, ys, it, Mx, L, items, 1, r, F, C2, rfl, by omega, by
        obtain ⟨gs2, q, _⟩ := C2.gs
        exact (Array.getElem?_eq_some_iff.mp q).1, nx⟩⟩
  · obtain ⟨⟨σ', I0, hlen, hσ⟩, hg, ⟨gs, hgs0, hsl⟩, hat⟩ := id C
    have SL : S ≠ L := fun z => by have := F.fL.1; rw [← z, F.hS] at this; cases this
    have Si : S ≠ it := fun z => by have := F.fit.1; rw [← z, F.hS] at this; cases this
    have hfp : ∀ b ∈ [it, L], FpOk X pins (upd H1 S (.lst (acc ++ ys.take d))) b := fun b hb => by
      have hb' : b = it ∨ b = L := by simpa using hb
      rcases hb' with z | z
      · rw [z]; exact ⟨by rw [upd_ne (Ne.symm Si)]; exact F.fit.1, F.fit.2⟩
      · rw [z]; exact ⟨by rw [upd_ne (Ne.symm SL)]; exact F.fL.1, F.fL.2⟩
    have Ig : Inv X pins σ' (upd H1 S (.lst (acc ++ ys.take d))) (s'.setGen g .running) := Inv.gens' I0 (allBare_setGen (s := s') (g := g) (x := .running) I0.bare rfl)
    have sz := vals_arr F.rv
    have turned : ∀ s₁, Only it L (s'.setGen g .running) s₁ → Inv X pins σ' (upd H1 S (.lst (acc ++ ys.take d))) s₁ ∧ s₁.heap.IsGen a g ∧ s₁.gens.size = s'.gens.size := fun s₁ hon => by
      obtain ⟨h', tk, rfl, hk⟩ := hon
      refine ⟨Ig.turnedL (ch := [it, L]) (fun b o hb e => hk b o (fun z => hb (by simp [z])) (fun z => hb (by simp [z])) e) hfp, ?_, setGen_size _ _ _⟩
      obtain ⟨o, nm, qn, ho, r1⟩ := hg
      exact ⟨o, nm, qn, hk a o F.ai F.aL ho, r1⟩
    cases r with
    | zero =>
      have hat0 : At it Mx L items items.size (s'.setGen g .running).heap := by
        have e : items.size - 0 = items.size := rfl
        exact hat
      refine next_genZ (Ic.ok.hd hc) I0.nolimit hr.depth hg hgs0 (hsl (s'.setGen g .running) hat0) fun e s₁ hz => .inl ⟨hz.2, fun h' hk => wpAny_execs_nil ?_⟩
      obtain ⟨J, _, _⟩ := turned s₁ hz.1
      have J2 : Inv X pins σ' (upd H1 S (.lst (acc ++ ys.take d))) { s₁.setGen g .finished with heap := h' } := (Inv.gens' J (allBare_setGen (s := s₁) (g := g) (x := .finished) J.bare rfl)).kept (t' := s₁.toks) hk
      have ed : ys.take d = ys := List.take_of_length_le (by omega)
      rw [ed] at J2
      exact ⟨σ', _, J2, nx σ' hlen hσ⟩
    | succ r =>
      refine next_genZ (Ic.ok.hd hc) I0.nolimit hr.depth hg hgs0 (hsl (s'.setGen g .running) hat) fun e s₁ hz => ?_
      obtain ⟨hon, hqu, v, gs', hv, hgs', hvi, hat', hsl'⟩ := hz
      refine .inr ⟨hqu, v, hv, ?_⟩
      obtain ⟨J, hg1, hgz⟩ := turned s₁ hon
      have hb' : gs'.bare = true := by rw [← hgs']; exact End.bare_of_quiet hqu
      have C1 : Core X pins S acc H1 ys a g it Mx L items σ ix d r (s₁.setGen g e.genState) := by
        refine ⟨⟨σ', ?_, hlen, hσ⟩, hg1, ⟨gs', by rw [hgs']; exact setGen_at (by omega), hsl'⟩, hat'⟩
        rw [hgs']
        exact Inv.gens' J (allBare_setGen (s := s₁) (g := g) J.bare hb')
      have h0 : items[d]? = some v := by
        have e0 : items.size - (r + 1) = d := by omega
        rw [← e0]; exact hvi
      refine take_turn (I := GInv X pins S acc σ ix a g s1 D) (R := fun r s' => match r with | .ok f => SP X pins D f s' | .error e => cameBackBy (model X.prog X.w) X.A X.env X.xe e s') F C1 (by omega) h0 hN hil hlk hdl hix hxk hdx hne hσl hbase hline ?_
      exact fun s2 C2 => ⟨r, by omega, .inr ⟨H1, ys, it, Mx, L, items, d + 1, r, F, C2, rfl, by omega, by
        obtain ⟨gs2, q, _⟩ := C2.gs
        exact (Array.getElem?_eq_some_iff.mp q).1, nx⟩⟩
end K16G
-- part KExc2
set_option Elab.async false
set_option linter.all false
set_option maxRecDepth 100000
set_option maxHeartbeats 4000000
/-! an own base's __init__ called by name; raising with context None; an attribute as a target; a class in a local name called; a classmethod without arguments -/
namespace K16
open PySem PySem.Spec PyProof.Rows L2
section
variable {X : Cx} {o e : Expr} {es : List Expr} {to te : TE} {ta : TA} {f x : Str} {p p1 p2 pos apos : Pos}
/-- Base.__init__(self, ..), Base an own class that leaves __init__ to ValueError -/
theorem pe_cinit {Pc : Addr} {mc : Value} {pl : Sem Bool} (hg : Gl X x) (hm : X.mg x = some (.ref Pc)) (rd : ClX.CRead X.K Pc mc) (vV : PySem.W.findCls X.K (.ref Pc) mc "__init__" = some (.val (.builtin "ValueError.__init__"))) (ha : PA X (e :: es) ta)
    (hdb : (x == ("__debug__" : Str)) = false := by decide)
    (hc : eval (.Call (.Attribute (.Name x p1) "__init__" p2) (e :: es) [] pos) X.env = (do
      let ov ← eval (.Name x p1) X.env
      standAt p2.atName
      let (f, first) ← holding [ov] (getMethod ov "__init__" pl)
      callWith pos f first (backTo pos (starEach (e :: es) X.env)) (backToKw pos (keywordEach [] X.env))) := by rfl)
    (he : starEach (e :: es) X.env = (false, eval e X.env) :: starEach es X.env := by rfl) (hpl : (backTo pos (starEach es X.env)).any (·.1) = false := by rfl) :
    PE X (.Call (.Attribute (.Name x p1) "__init__" p2) (e :: es) [] pos) (tVeI X.K ta) := by
  refine ⟨fun pins s σ H Q I h => ?_⟩
  refine PySem.W.methodCall_KW (ld_glob I hg hm ?_ hdb) hc
  refine PySem.W.method_cls I.kIn rd.ga (PySem.W.cls_value I.kIn rd.rd vV (by decide +kernel) ?_)
  show wpAny _ _ (callWith pos (Value.builtin "ValueError.__init__") [] (backTo pos (starEach (e :: es) X.env)) []) _ _ _
  refine PyProof.Rows.callWith_method1 (thn (ha.run pos pins _ σ H _ (I.tok _) h) fun us s1 ⟨vs, H1, I1, r1, a, C, ws, ev, hl, T, ea, q⟩ => ?_) he hpl
  subst ev
  cases r1 with
  | @cons _ u0 _ ur ra rw' =>
    obtain rfl : u0 = Value.ref a := ra
    have hlen : ur.length ≤ sizeLine := by
      rw [← Paired.length rw', sizeLine_eq]
      omega
    exact oinit_ok T I1 ea hlen fun s' J => ⟨.non, H1, J, rfl, q⟩
/-- C(e, ..), C's own __init__ keeping sp; the context is None -/
theorem pmk_oexN {CX : CXT} {C fI : Addr} {k : Nat} {fd : FuncData} {ps : List Str} {sp : Sp} (T : OexC X.K C) (iC : PySem.W.findIn X.K (.ref C) "__init__" = some (some (.ref fI))) (tI : PySem.W.typeIn X.K (.ref fI) = some (.type "function"))
    (F1 : FnOk X.prog X.w X.K X.mg X.base CX k fI fd ps sp) (hr : Room (k + 1) X.A) (hb : Binds X.K fd ps []) (hx : Passes CX X (fun _ _ _ => False)) (hg : Gl X x) (hm : X.mg x = some (.ref C)) (ha : PA X (e :: es) ta)
    (hdb : (x == ("__debug__" : Str)) = false := by decide) (he : starEach (e :: es) X.env = (false, eval e X.env) :: starEach es X.env := by rfl) (hpl : (backTo pos (starEach es X.env)).any (·.1) = false := by rfl) :
    L2N.PMk X (.Call (.Name x p) (e :: es) [] pos) (tMkO C sp [] ta) := by
  intro pins s σ H Q I h
  obtain ⟨nm, q, N, bs, bm, sn, sub, ab, col, dd, k0, k1, k2, k3, k5, hC, hbm⟩ := T.cls
  refine wpAny_Call_Name_kw (ld_glob I hg hm ?_ hdb)
  refine PySem.W.callWith_K (h₀ := X.base) I.ok.mod.kin T.kC (thn (ha.run pos pins s σ H _ I h) fun us s1 ⟨vs, H1, I1, r1, hz, q1⟩ => ⟨I1.kIn, ?_⟩) he hpl
  show wpAny _ _ (call (.ref C) us) _ _ _
  obtain ⟨hp, g, dr, tk, os⟩ := s1
  have hsz : hp.objs.size ≤ hp.objs.size + 1 := Nat.le_succ _
  have hn : H1 (hp.objs.size + 1) = none := I1.hok.fresh hsz
  have hq := q1 (hp.objs.size + 1) hn
  rw [List.append_nil] at hq
  have kk : ∀ b o, hp.get? b = some o → ((hp.push (PySem.W.kdv_tup us)).push (PySem.HandSPX.excO C hp.objs.size)).get? b = some o := fun b o e => Heap.get?_push_of_some _ (Heap.get?_push_of_some _ e)
  have hget : ((hp.push (PySem.W.kdv_tup us)).push (PySem.HandSPX.excO C hp.objs.size)).get? (hp.objs.size + 1) = some (PySem.HandSPX.excO C hp.objs.size) := by heap_get
  have I2 : Inv X pins σ (upd H1 (hp.objs.size + 1) (exo (hp.objs.size + 1) C none)) ⟨(hp.push (PySem.W.kdv_tup us)).push (PySem.HandSPX.excO C hp.objs.size), g, dr, tk, os⟩ :=
    I1.laid (t' := tk) (a := hp.objs.size + 1) (o := exo (hp.objs.size + 1) C none) (h' := (hp.push (PySem.W.kdv_tup us)).push (PySem.HandSPX.excO C hp.objs.size)) kk hsz (exo_ok hget)
  have r2 : Vals (V.ref (hp.objs.size + 1) :: vs) (Value.ref (hp.objs.size + 1) :: us) := .cons rfl r1
  have hl : (Value.ref (hp.objs.size + 1) :: us ++ []).length = ps.length := by
    have e := r2.length
    rw [F1.len _ _ _ _ hq] at e
    rw [List.append_nil]
    exact e.symm
  have hus : us.length ≤ sizeLine := by
    rw [← Paired.length r1, sizeLine_eq]
    omega
  have b2 := hb _ (Value.ref (hp.objs.size + 1) :: us) I2.kIn hl
  rw [List.append_nil] at b2
  refine wpAny_call (PySem.HandSPX.call_own F.excBase_ValueError (fun Y => PySem.HandSPX.refsVE_contains Y bm hbm) (I1.kIn _ _ hC) (PySem.W.looks_findIn I1.kIn iC) (fun self => PySem.W.bind_fn I1.kIn self tI) hus
    (codeAny_mono (F1.run _ X.stack _ _ ⟨Value.ref (hp.objs.size + 1) :: us, []⟩ (Value.ref (hp.objs.size + 1) :: us) _ _ (fun _ _ _ => False) (hr.make C us []) (I2.env0.make C us []) b2 r2 hq) fun r s' hq' => ?_))
  cases r with
  | error er => exact hx pins σ _ _ er s' I2 hq'
  | ok fl =>
    cases fl with
    | ret u =>
      obtain ⟨v, H2, os2, bare2, un2, hok2, rv, ev, d, fs, ea, ed, hd1, q2⟩ := hq'
      subst ev
      obtain ⟨h2, g2, d2, t2, os'⟩ := s'
      obtain ⟨t0, G, J, kG, ge, hoe, na⟩ := mk_end0 (d2 := d2) (t2 := t2) I1 hsz kk un2 hok2 os2 bare2 ea ed hd1
      refine ⟨rv, hp.objs.size + 1, _, _, ⟨G, g2, d2, t2, os'⟩, _, .ref C, some d, rfl, J, kG, ge, hoe, ⟨rfl, rfl, fun vs hv => ?_⟩, rfl, rfl, na, rfl, bare2, raises_own T.exC T.tyC, q2⟩
      cases hv
      rfl
    | next => exact False.elim hq'
    | brk => exact False.elim hq'
    | cont => exact False.elim hq'
/-- o.f as a target -/
def gFld (K : PySem.W.Frag) (to : TE) (f : Str) : TG := fun v σ H Q => to σ H fun x H1 => ∃ a C dx fs, x = .ref a ∧ H1 a = some (.ins C dx fs) ∧ Cls K C ∧ NoAttr K C f ∧ fs.length < 1000 ∧ Q σ (upd H1 a (.ins C dx (putF f v fs)))
theorem pg_fld (ho : PE X o to) : PG X (.Attribute o f pos) (gFld X.K to f) := by
  refine ⟨fun pins s σ H v u Q I r h => ?_⟩
  show wpAny _ _ (do
    let ov ← holding [u] (eval o X.env)
    standAt pos.atName
    holding [u, ov] (setAttr ov f u)
    release [u, ov] []) _ _ s
  refine wpAny_bind (wpAny_holding (thn (ho.run pins s σ H _ I h) fun ov s1 ⟨x, H1, I1, r1, a, C, dx, fs, ex, ea, c, n, l, q⟩ => ?_))
  subst ex
  obtain rfl : ov = Value.ref a := r1
  refine wpAny_bind (wpAny_standAt (wpAny_bind (wpAny_holding (setattr_ok I1 ea c n l r fun s3 I3 => ?_))))
  exact wpAny_release ⟨σ, _, I3, q⟩
/-- C(e, ..), C a class in a local name -/
theorem pe_makeL {CX : CXT} {C g : Addr} {k i : Nat} {fd : FuncData} {ps : List Str} {sp : Sp} {E : XK} (M : Mk X.K C g) (F : FnOk X.prog X.w X.K X.mg X.base CX k g fd ps sp) (hr : Room (k + 1) X.A) (hN : X.N[i]? = some x) (hv : Vis X.env.scope x) (hb : Binds X.K fd ps []) (hx : Passes CX X E)
    (ha : PA X (e :: es) ta) (hd : (x == ("__debug__" : Str)) = false := by decide) (hcd : (x == ("__classdict__" : Str)) = false := by decide) (he : starEach (e :: es) X.env = (false, eval e X.env) :: starEach es X.env := by rfl) (hpl : (backTo pos (starEach es X.env)).any (·.1) = false := by rfl) :
    PE X (.Call (.Name x p) (e :: es) [] pos) (fun σ H Q => σ[i]? = some (some (.ref C)) ∧ tMake C sp [] E ta σ H Q) := by
  refine ⟨fun pins s σ H Q I h => ?_⟩
  obtain ⟨hσ, h⟩ := h
  refine wpAny_Call_Name_kw (thn ((pe_var (pos := p) (i := i) hN hv hd hcd).run pins s σ H (fun v H1 => v = .ref C ∧ H1 = H) I ⟨_, hσ, rfl, rfl⟩) fun u s1 ⟨v, H1, I1, r1, q1⟩ => ?_)
  obtain ⟨ev, eH⟩ := q1
  subst ev
  rw [eH] at I1
  obtain rfl : u = Value.ref C := r1
  refine PySem.W.callWith_K (h₀ := X.base) I.ok.mod.kin M.kp (thn (ha.run pos pins s1 σ H _ I1 h) fun us s2 ⟨vs, H2, I2, r, q⟩ => ⟨I2.kIn, ?_⟩) he hpl
  exact run_make M F hr hb .nil hx I2 r q
theorem callwith_cm0 {pins : List (Addr × Obj)} {σ : L2.St} {H : Hp} {s : Shared} {C g q : Addr} {Q : Value → Shared → Prop} {E : Value → Shared → Prop} {A : Around} (I : Inv X ((q, PySem.W.methodObj (.ref g) (.ref C)) :: pins) σ H s) (hf : PySem.W.fnIn X.K g = true)
    (h : wpAny (model X.prog X.w) A (call (.ref q) []) Q E s) : wpAny (model X.prog X.w) A (callWith pos (.ref q) [] (backTo pos (starEach [] X.env)) []) Q E s :=
  PySem.W.callWith_M0 (first := []) ⟨ClX.pin_at I, I.kIn⟩ hf h
/-- o.m(), o the class at C, m a classmethod -/
theorem pe_cmeth0 {CX : CXT} {k : Nat} {C p g : Addr} {mc : Value} {sp : Sp} {E : XK} {m : Str} {pl : Sem Bool} (he : PE X o to) (r : ClX.CRead X.K C mc) (c : ClX.CMet X.K C mc m p g) (F : FnR X.prog X.w X.K X.mg X.base CX k g sp) (hr : Room k X.A) (hx : Passes CX X E)
    (ht : eval (.Call (.Attribute o m apos) [] [] pos) X.env = (do
      let ov ← eval o X.env
      standAt apos.atName
      let (f, first) ← holding [ov] (getMethod ov m pl)
      callWith pos f first (backTo pos (starEach [] X.env)) (backToKw pos (keywordEach [] X.env))) := by rfl) :
    PE X (.Call (.Attribute o m apos) [] [] pos) (ClX.tCMeth C sp E to tNil) := by
  refine ⟨fun pins s σ H Q I h => ?_⟩
  refine PySem.W.methodCall_KW (pl := pl) (thn (he.run pins s σ H _ I h) fun u s1 ⟨x, H1, I1, rx, ex, q⟩ => ?_) ht
  subst ex
  obtain rfl : u = Value.ref C := rx
  refine ClX.getmethcm_ok I1 r c fun s2 I2 => ?_
  refine callwith_cm0 I2 c.fi ?_
  exact ClX.run_cm F hr hx I2 .nil q
end
end K16
-- part K1
set_option Elab.async false
set_option linter.all false
set_option maxRecDepth 100000
set_option maxHeartbeats 4000000
/-! the text by places; what stands where; the small defs -/
namespace K16
open PySem L2 K16M
def top (i : Nat) : Stmt := PySem.Challenge.pw_lapsepoints_k16_whole_accounts_step_by_s.main.body.getD i (.Pass ⟨0, 0, 0, 0⟩)
abbrev sIsFrom : Stmt := top 18
abbrev sNeedLife : Stmt := top 19
/-- an int between the bounds -/
def isFrom (v : V) (lo hi : Int) : Bool := match v with
  | .int n => decide (lo ≤ n) && decide (n ≤ hi)
  | _ => false
/-- what is handed in for a time, an amount, a life: None, a bool, an int, a text -/
def flat4 : V → Bool
  | .non => true | .bl _ => true | .int _ => true | .str _ => true
  | _ => false
def spIsFrom : Sp := fun vs H Q _ => ∃ (v : V) (lo hi : Int), vs = [v, .int lo, .int hi] ∧ flat4 v = true ∧ Q (.bl (isFrom v lo hi)) H
section
variable {P : Program} {w : World} {K : PySem.W.Frag} {mg : Str → Option Value} {base : Heap}
theorem scIsFrom : FnScope ["value", "low", "high"] ["value", "low", "high"] (defScope sIsFrom) := ⟨rfl, rfl, rfl, by decide +kernel, rfl, by decide +kernel, by decide +kernel⟩
theorem kit_self_int : PySem.W.kitOne K (.type "int") (.type "int") = some true := by with_unfolding_all rfl
theorem kit_bool_int : PySem.W.kitOne K (.type "bool") (.type "int") = some true := by with_unfolding_all rfl
theorem kit_none_int : PySem.W.kitOne K (.type "NoneType") (.type "int") = some false := by with_unfolding_all rfl
theorem kit_str_int : PySem.W.kitOne K (.type "str") (.type "int") = some false := by with_unfolding_all rfl
theorem kit_int_bool : PySem.W.kitOne K (.type "int") (.type "bool") = some false := by with_unfolding_all rfl
theorem kit_bool_bool : PySem.W.kitOne K (.type "bool") (.type "bool") = some true := by with_unfolding_all rfl
def isIntV (v : V) : Bool := match v with
  | .int _ => true | .bl _ => true
  | _ => false
def isBlV (v : V) : Bool := match v with
  | .bl _ => true
  | _ => false
theorem kit_none_bool : PySem.W.kitOne K (.type "NoneType") (.type "bool") = some false := by with_unfolding_all rfl
theorem kit_str_bool : PySem.W.kitOne K (.type "str") (.type "bool") = some false := by with_unfolding_all rfl
theorem isi_int {v : V} {H : Hp} {Q : VK} (hv : flat4 v = true) (q : Q (.bl (isIntV v)) H) : rIsi K [v, .ty "int"] H Q := by
  cases v with
  | non => exact ⟨.non, .ty "int", _, _, false, rfl, .ty _, .base .non, kit_none_int, q⟩
  | bl b => exact ⟨.bl b, .ty "int", _, _, true, rfl, .ty _, .base (.bl b), kit_bool_int, q⟩
  | int i => exact ⟨.int i, .ty "int", _, _, true, rfl, .ty _, .base (.int i), kit_self_int, q⟩
  | str x => exact ⟨.str x, .ty "int", _, _, false, rfl, .ty _, .base (.str x), kit_str_int, q⟩
  | _ => cases hv
theorem isi_bool {v : V} {H : Hp} {Q : VK} (hv : flat4 v = true) (q : Q (.bl (isBlV v)) H) : rIsi K [v, .ty "bool"] H Q := by
  cases v with
  | non => exact ⟨.non, .ty "bool", _, _, false, rfl, .ty _, .base .non, kit_none_bool, q⟩
  | bl b => exact ⟨.bl b, .ty "bool", _, _, true, rfl, .ty _, .base (.bl b), kit_bool_bool, q⟩
  | int i => exact ⟨.int i, .ty "bool", _, _, false, rfl, .ty _, .base (.int i), kit_int_bool, q⟩
  | str x => exact ⟨.str x, .ty "bool", _, _, false, rfl, .ty _, .base (.str x), kit_str_bool, q⟩
  | _ => cases hv
theorem t_isi {i : Nat} {v : V} {T : String} {σ : L2.St} {H : Hp} {Q : VK} (hσ : σ[i]? = some (some v)) (h : rIsi K [v, .ty T] H Q) : tCB (rIsi K) (tCons (tVar i) (tCons (tC (.ty T)) tNil)) σ H Q := ⟨v, hσ, h⟩
theorem ok_isFrom {f : Addr} {fd : FuncData} (F : Fun K "is_from" "is_from" sIsFrom f fd) (hi : mg "isinstance" = none) (hn : mg "int" = none) (hb : mg "bool" = none) : FnOk P w K mg base CX0 1 f fd ["value", "low", "high"] spIsFrom := by
  refine F.ok scIsFrom (fun vs H Q E h => ?_) (fun cdv A outer s H vs Q E hr h => ?_)
  · obtain ⟨v, lo, hh, rfl, _⟩ := h
    rfl
  · obtain ⟨v, lo, hh, rfl, hv, k⟩ := h
    refine ⟨_, pss_one (ps_ret (pe_and (pe_callB call_isi (by rfl) hi (by decide +kernel) (pa_cons (pv 0) (pa_cons (pe_bltn (v := .ty "int") rfl hn (by decide +kernel) rfl) pa_nil)))
      (pe_and (pe_not (pe_callB call_isi (by rfl) hi (by decide +kernel) (pa_cons (pv 0) (pa_cons (pe_bltn (v := .ty "bool") rfl hb (by decide +kernel) rfl) pa_nil))))
        (pe_one (pe_chain op_le op_le (pv 1) (pv 0) (pv 2)))))), ?_⟩
    refine t_isi rfl (isi_int hv ⟨_, rfl, ?_⟩)
    cases v with
    | int i =>
      refine iteT (t_isi rfl (isi_bool hv ⟨_, rfl, _, rfl, iteT ⟨_, rfl, _, rfl, _, _, rfl, rfl, _, rfl, ?_⟩⟩))
      refine ite2 (fun h1 => ?_) fun h1 => ?_
      · refine ⟨_, rfl, _, _, rfl, rfl, ?_⟩
        have e : isFrom (.int i) lo hh = decide (i ≤ hh) := by
          show (decide (lo ≤ i) && decide (i ≤ hh)) = _
          rw [h1, Bool.true_and]
        show Q (.bl (decide (i ≤ hh))) H
        rw [← e]; exact k
      · have e : isFrom (.int i) lo hh = false := by
          show (decide (lo ≤ i) && decide (i ≤ hh)) = _
          rw [Bool.eq_false_iff.mpr h1, Bool.false_and]
        show Q (.bl false) H
        rw [← e]; exact k
    | bl b => exact iteT (t_isi rfl (isi_bool hv ⟨_, rfl, _, rfl, iteF k⟩))
    | non => exact iteF k
    | str x => exact iteF k
    | _ => cases hv
end
end K16
-- part K2
set_option Elab.async false
set_option linter.all false
set_option maxRecDepth 100000
set_option maxHeartbeats 4000000
/-! defs that raise; need_life -/
namespace K16
open PySem L2 K16M
/-- Fun.ok for a def that may raise (contexts None) -/
theorem okN {P : Program} {w : World} {K : PySem.W.Frag} {mg : Str → Option Value} {base : Heap} {x qual : Str} {st : Stmt} {f : Addr} {fd : FuncData} {N ps : List Str} {k : Nat} {sp : Sp} (F : Fun K x qual st f fd) (S : FnScope N ps (defScope st)) (len : ∀ vs H Q E, sp vs H Q E → vs.length = ps.length)
    (hbody : ∀ (cdv : Value) (A : Around) (outer : List Env) (s : Shared) (H : Hp) (vs : List V) (Q : VK) (E : XK), Room k (A.deeper (PyProof.Rows.envOfC qual (defScope st) s.heap.objs.size f cdv)) → sp vs H Q E →
      ∃ t, PSs (cxOf (L2N.CX P w) P w K mg base N qual (defScope st) f cdv A outer s H E) (defBody st) t ∧ t { nx := fun _ H' => Q .non H', rt := Q } (start N vs) H) : FnOk P w K mg base (L2N.CX P w) (k + 1) f fd ps sp := by
  obtain ⟨oc, od, kV, doc, pm, an, cdv, ct, osl, rfl, lk, hcd⟩ := F.ex
  exact fn_of lk hcd S len fun A outer s H vs Q E hr hsp => hbody cdv A outer s H vs Q E hr hsp
abbrev bmVE : List Value := [.type "ValueError", .type "Exception", .type "BaseException", .type "object"]
/-- what the written part says of an error class that leaves __init__ alone -/
structure ExcT (K : PySem.W.Frag) (mg : Str → Option Value) (x : Str) (C : Addr) : Prop where
  g : mg x = some (.ref C)
  x : PySem.W.excIn K C bmVE "ValueError.__new__" = true
  k : PySem.W.keepIn K (.ref C) = true
  b : PySem.W.subIn K (.ref C) (.type "BaseException") = some true
  t : PySem.W.typeIn K (.ref C) = some (.type "type")
/-- raise x('..') -/
theorem ps_raiseN {X : Cx} {W : WX} {x m : Str} {C : Addr} {j : Nat} {p p2 pos pos' : Pos} (hc : X.calm = true) (tk : L2N.Takes X W) (T : ExcT X.K X.mg x C) (hg : Gl X x) (hdb : (x == ("__debug__" : Str)) = false := by decide) :
    PS X (.Raise (some (.Call (.Name x p) [.Constant (.str m) j p2] [] pos)) none pos') (fun _ σ H => W (.ref C) none σ H) :=
  L2N.ps_raise hc tk (L2N.pmk_own PySem.F.excBase_ValueError T.x T.g T.k (raises_own T.b T.t) hg hdb)
abbrev spNeedLife (C : Addr) : Sp := fun vs H Q E => ∃ v : V, vs = [v] ∧ flat4 v = true ∧ (isFrom v 1 1000 = true → Q .non H) ∧ (isFrom v 1 1000 = false → E (.ref C) none H)
/-- a def that is called by its name -/
structure Cal0 (P : Program) (w : World) (K : PySem.W.Frag) (mg : Str → Option Value) (base : Heap) (CX : CXT) (k : Nat) (x : Str) (ps : List Str) (sp : Sp) : Prop where
  ex : ∃ (f : Addr) (fd : FuncData), FnOk P w K mg base CX k f fd ps sp ∧ mg x = some (.ref f) ∧ PySem.W.keepIn K (.ref f) = true ∧ Binds K fd ps []
section
variable {X : Cx} {CX : CXT} {k : Nat} {ps : List Str} {sp : Sp} {E : XK} {x : Str} {p pos : Pos} {e : Expr} {es : List Expr} {t : TA}
theorem pe_cal (C : Cal0 X.prog X.w X.K X.mg X.base CX k x ps sp) (hr : Room k X.A) (hg : Gl X x) (hx : Passes CX X E) (ha : PA X (e :: es) t) (hdb : (x == ("__debug__" : Str)) = false := by decide)
    (he : starEach (e :: es) X.env = (false, eval e X.env) :: starEach es X.env := by rfl) (hpl : (PySem.backTo pos (starEach es X.env)).any (·.1) = false := by rfl) : PE X (.Call (.Name x p) (e :: es) [] pos) (tCall sp [] E t) := by
  obtain ⟨f, fd, F, hm, hk, hb⟩ := C.ex
  exact pe_call F hr hg hm hk hb .nil hx ha hdb he hpl
end
section
variable {P : Program} {w : World} {K : PySem.W.Frag} {mg : Str → Option Value} {base : Heap}
theorem scNeedLife : FnScope ["life"] ["life"] (defScope sNeedLife) := ⟨rfl, rfl, rfl, by decide +kernel, rfl, by decide +kernel, by decide +kernel⟩
theorem ok_needLife {f C : Addr} {fd : FuncData} {t : Tok} (F : Fun K "need_life" "need_life" sNeedLife f fd) (hI : Cal0 P w K mg base CX0 1 "is_from" ["value", "low", "high"] spIsFrom) (hL : mg "LONGEST_LIFE" = some (.int 1000 t)) (T : ExcT K mg "InvalidLife" C) :
    FnOk P w K mg base (L2N.CX P w) 2 f fd ["life"] (spNeedLife C) := by
  refine okN F scNeedLife (fun vs H Q E h => ?_) (fun cdv A outer s H vs Q E hr h => ?_)
  · obtain ⟨v, rfl, _⟩ := h
    rfl
  · obtain ⟨v, rfl, hv, k1, k2⟩ := h
    refine ⟨_, pss_one (ps_if (pt_not (pt_truth (pe_cal hI hr rfl pass0 (pa_cons (pv 0) (pa_cons pe_int (pa_cons (pe_glob (v := .int 1000) rfl hL ⟨_, rfl⟩) pa_nil)))) (fun _ => rfl)))
      (pss_one (ps_raiseN rfl (L2N.takes_of rfl rfl rfl rfl) T rfl)) pss_nil), ?_⟩
    refine ⟨_, rfl, v, 1, 1000, rfl, hv, _, rfl, ?_⟩
    cases e : isFrom v 1 1000 with
    | true => exact iteF (k1 e)
    | false => exact iteT (k2 e)
end
end K16
-- part K3
set_option Elab.async false
set_option linter.all false
set_option maxRecDepth 100000
set_option maxHeartbeats 4000000
/-! what stands where; lapse -/
namespace K16
open PySem L2 K16M
/-- all but the objects of S is kept; tuples always -/
structure Kp (S : List Addr) (H H' : Hp) : Prop where
  all : ∀ b o, b ∉ S → H b = some o → H' b = some o
  tup : ∀ b xs, H b = some (.tup xs) → H' b = some (.tup xs)
section
variable {S S' : List Addr} {H H1 H2 H' : Hp}
theorem Kp.refl : Kp S H H := ⟨fun _ _ _ h => h, fun _ _ h => h⟩
theorem Kp.trans (a : Kp S H H1) (b : Kp S H1 H2) : Kp S H H2 := ⟨fun c o hc h => b.all c o hc (a.all c o hc h), fun c xs h => b.tup c xs (a.tup c xs h)⟩
theorem Kp.new {p : Addr} {o : HO} (h : H p = none) : Kp S H (upd H p o) := ⟨fun b u _ e => by rw [upd_ne (ne_of_none e h)]; exact e, fun b xs e => by rw [upd_ne (ne_of_none e h)]; exact e⟩
theorem Kp.newR {p : Addr} {o : HO} (k : Kp S H H1) (h : H1 p = none) : Kp S H (upd H1 p o) := k.trans (Kp.new h)
/-- an object of S that is no tuple is changed -/
theorem Kp.set {p : Addr} {o u : HO} (h : H p = some u) (hp : p ∈ S) (ht : ∀ xs, u ≠ .tup xs) : Kp S H (upd H p o) := ⟨fun b v hb e => by rw [upd_ne (fun z => hb (by rw [z]; exact hp))]; exact e, fun b xs e => by rw [upd_ne (fun z => by rw [z, h] at e; exact ht xs (Option.some.inj e))]; exact e⟩
theorem Kp.setR {p : Addr} {o u : HO} (k : Kp S H H1) (h : H1 p = some u) (hp : p ∈ S) (ht : ∀ xs, u ≠ .tup xs) : Kp S H (upd H1 p o) := k.trans (Kp.set h hp ht)
theorem Kp.mono (k : Kp S H H') (h : ∀ b ∈ S, b ∈ S') : Kp S' H H' := ⟨fun b o hb e => k.all b o (fun z => hb (h b z)) e, k.tup⟩
/-- what is new in the end was new at the start -/
theorem Kp.free (k : Kp S H H') {b : Addr} (hb : b ∉ S) (h : H' b = none) : H b = none := by
  cases e : H b with
  | none => rfl
  | some o => rw [k.all b o hb e] at h; cases h
theorem Kp.same (k : Kp [] H H') : Same H H' := fun b o e => k.all b o (by simp) e
theorem Kp.of_same (k : Same H H') : Kp S H H' := ⟨fun b o _ e => k b o e, fun b xs e => k b _ e⟩
/-- objects that were not there may be left out -/
theorem Kp.old (k : Kp S H H') (h : ∀ b ∈ S, b ∉ S' → H b = none) : Kp S' H H' := ⟨fun b o hb e => by
  by_cases z : b ∈ S
  · rw [h b z hb] at e; cases e
  · exact k.all b o z e, k.tup⟩
end
/-- an event's tuple -/
abbrev evO (e : Ev) : HO := .tup [.str (if e.k = true then "earn" else "spend"), .int e.t, .int e.n]
/-- a point lot's tuple (time, amount, index) -/
abbrev p3O (p : Int × Int × Nat) : HO := .tup [.int p.1, .int p.2.1, .int (p.2.2 : Nat)]
abbrev p2O (p : Int × Int) : HO := .tup [.int p.1, .int p.2]
/-- references to such tuples -/
def RefsTo {α : Type} (H : Hp) (g : α → HO) (xs : List V) (l : List α) : Prop := Paired (fun (x : V) (p : α) => ∃ r, x = .ref r ∧ H r = some (g p)) xs l
section
variable {α : Type} {g : α → HO} {H H' : Hp} {xs ys : List V} {l m : List α}
theorem RefsTo.nil : RefsTo H g [] ([] : List α) := Paired.nil
theorem paired_app {β γ : Type} {F : β → γ → Prop} {as bs : List β} {cs ds : List γ} (h : Paired F as cs) (h2 : Paired F bs ds) : Paired F (as ++ bs) (cs ++ ds) := by
  induction h with
  | nil => exact h2
  | cons a t ih => exact .cons a ih
theorem RefsTo.app (h : RefsTo H g xs l) (h2 : RefsTo H g ys m) : RefsTo H g (xs ++ ys) (l ++ m) := paired_app h h2
theorem RefsTo.snoc {p : α} {r : Addr} (h : RefsTo H g xs l) (e : H r = some (g p)) : RefsTo H g (xs ++ [.ref r]) (l ++ [p]) := h.app (.cons ⟨r, rfl, e⟩ .nil)
theorem RefsTo.len (h : RefsTo H g xs l) : xs.length = l.length := Paired.length h
theorem RefsTo.kp (h : RefsTo H g xs l) {S : List Addr} (k : Kp S H H') (ht : ∀ p, ∃ zs, g p = .tup zs) : RefsTo H' g xs l := Paired.mapP h fun x p ⟨r, e, q⟩ => ⟨r, e, by
  obtain ⟨zs, z⟩ := ht p
  rw [z] at q ⊢
  exact k.tup r zs q⟩
theorem paired_g {β γ : Type} {F : β → γ → Prop} {as : List β} {cs : List γ} (h : Paired F as cs) : ∀ {i : Nat} {c : γ}, cs[i]? = some c → ∃ a, as[i]? = some a ∧ F a c := by
  induction h with
  | nil => intro i c e; simp at e
  | cons a t ih =>
    intro i c e
    cases i with
    | zero => simp at e; subst e; exact ⟨_, rfl, a⟩
    | succ i =>
      obtain ⟨x, h1, h2⟩ := ih (i := i) (by simpa using e)
      exact ⟨x, by simpa using h1, h2⟩
theorem paired_g' {β γ : Type} {F : β → γ → Prop} {as : List β} {cs : List γ} (h : Paired F as cs) : ∀ {i : Nat} {a : β}, as[i]? = some a → ∃ c, cs[i]? = some c ∧ F a c := by
  induction h with
  | nil => intro i c e; simp at e
  | cons a t ih =>
    intro i c e
    cases i with
    | zero => simp at e; subst e; exact ⟨_, rfl, a⟩
    | succ i =>
      obtain ⟨x, h1, h2⟩ := ih (i := i) (by simpa using e)
      exact ⟨x, by simpa using h1, h2⟩
theorem RefsTo.get {i : Nat} {p : α} (h : RefsTo H g xs l) (e : l[i]? = some p) : ∃ r, xs[i]? = some (.ref r) ∧ H r = some (g p) := by
  obtain ⟨x, h1, r, rfl, h2⟩ := paired_g h e
  exact ⟨r, h1, h2⟩
theorem RefsTo.get' {i : Nat} {x : V} (h : RefsTo H g xs l) (e : xs[i]? = some x) : ∃ r p, x = .ref r ∧ l[i]? = some p ∧ H r = some (g p) := by
  obtain ⟨p, h1, r, rfl, h2⟩ := paired_g' h e
  exact ⟨r, p, rfl, h1, h2⟩
end
theorem p3_tup : ∀ p : Int × Int × Nat, ∃ zs, p3O p = .tup zs := fun _ => ⟨_, rfl⟩
theorem p2_tup : ∀ p : Int × Int, ∃ zs, p2O p = .tup zs := fun _ => ⟨_, rfl⟩
theorem ev_tup : ∀ p : Ev, ∃ zs, evO p = .tup zs := fun _ => ⟨_, rfl⟩
/-! ### data for == -/
def Sh (n : Nat) (d : PyData) : Prop := d.canLay0 = true ∧ d.depth ≤ n
theorem Sh.mono {n m : Nat} {d : PyData} (h : Sh n d) (hn : n ≤ m) : Sh m d := ⟨h.1, Nat.le_trans h.2 hn⟩
theorem Sh.shaped {n : Nat} {d : PyData} (h : Sh n d) (hn : n ≤ 64) : SeqAt.shaped d = true := by
  unfold SeqAt.shaped
  rw [h.1, decide_eq_true (Nat.le_trans h.2 hn)]
  rfl
theorem sh_all {n : Nat} : ∀ {ds : List PyData}, (∀ d ∈ ds, Sh n d) → PyData.canLayAll0 ds = true ∧ PyData.depthAll ds ≤ n
  | [], _ => ⟨rfl, Nat.zero_le _⟩
  | d :: r, h => by
    obtain ⟨a, b⟩ := h d List.mem_cons_self
    obtain ⟨a2, b2⟩ := sh_all (ds := r) fun x hx => h x (List.mem_cons_of_mem _ hx)
    refine ⟨by rw [PyData.canLayAll0, a, a2]; rfl, by rw [PyData.depthAll]; exact Nat.max_le.mpr ⟨b, b2⟩⟩
theorem sh_list {n : Nat} {ds : List PyData} (h : ∀ d ∈ ds, Sh n d) : Sh (n + 1) (.list ds) := by
  obtain ⟨a, b⟩ := sh_all h
  exact ⟨by rw [PyData.canLay0]; exact a, by rw [PyData.depth]; omega⟩
theorem sh_tup {n : Nat} {ds : List PyData} (h : ∀ d ∈ ds, Sh n d) : Sh (n + 1) (.tuple ds) := by
  obtain ⟨a, b⟩ := sh_all h
  exact ⟨by rw [PyData.canLay0]; exact a, by rw [PyData.depth]; omega⟩
theorem sh_int (i : Int) : Sh 1 (.int i) := ⟨rfl, by rw [PyData.depth]; omega⟩
end K16
-- part K4
set_option Elab.async false
set_option linter.all false
set_option maxRecDepth 100000
set_option maxHeartbeats 4000000
/-! lapse -/
namespace K16
open PySem L2 K16M
abbrev sLapse : Stmt := top 20
def d3 (p : Int × Int × Nat) : PyData := .tuple [.int p.1, .int p.2.1, .int (p.2.2 : Nat)]
theorem sh_d3 (p : Int × Int × Nat) : Sh 2 (d3 p) := sh_tup fun d hd => by
  have : d = .int p.1 ∨ d = .int p.2.1 ∨ d = .int (p.2.2 : Nat) := by simpa using hd
  rcases this with e | e | e <;> (rw [e]; exact sh_int _)
theorem dp_p3 {K : PySem.W.Frag} {H : Hp} {xs : List V} {p : PL} (h : RefsTo H p3O xs p) : DpAll K H xs (p.map d3) := by
  have h' : Paired (fun (x : V) (p : Int × Int × Nat) => ∃ r, x = .ref r ∧ H r = some (p3O p)) xs p := h
  induction h' with
  | nil => exact .nil
  | cons a t ih =>
    obtain ⟨r, rfl, e⟩ := a
    exact .cons (.tup (SqT.of e) (.cons (.int _) (.cons (.int _) (.cons (.int _) .nil)))) (ih t)
theorem dp_l3 {K : PySem.W.Frag} {H : Hp} {a : Addr} {xs : List V} {p : PL} (ha : H a = some (.lst xs)) (h : RefsTo H p3O xs p) : Dp K H (.ref a) (.list (p.map d3)) := .lst (SqL.of ha) (dp_p3 h)
theorem sh_l3 (p : PL) : SeqAt.shaped (.list (p.map d3)) = true := (sh_list (n := 2) fun d hd => by
  obtain ⟨q, _, rfl⟩ := List.mem_map.mp hd
  exact sh_d3 q).shaped (by decide)
theorem sh_nil : SeqAt.shaped (.list []) = true := rfl
theorem eqv_nil {p : PL} : PyData.eqv (.list (p.map d3)) (.list []) = p.isEmpty := by
  cases p with
  | nil => rfl
  | cons a r => rfl
abbrev spLapse : Sp := fun vs H Q _ => ∃ (a b : Addr) (life time : Int) (xs ys : List V) (p g : PL), vs = [.ref a, .ref b, .int life, .int time] ∧ H a = some (.lst xs) ∧ RefsTo H p3O xs p ∧ H b = some (.lst ys) ∧ RefsTo H p3O ys g ∧ a ≠ b ∧ ys.length + xs.length ≤ 1000 ∧
  ∀ (H' : Hp) (xs' ys' : List V), Kp [a, b] H H' → H' a = some (.lst xs') → RefsTo H' p3O xs' (lapseL life time p).1 → H' b = some (.lst ys') → RefsTo H' p3O ys' (g ++ (lapseL life time p).2) → Q .non H'
theorem seq0 {n : Nat} (h : 0 < n) : seqIndex? 0 n = some 0 := by
  unfold seqIndex?
  simp [h]
theorem lst_tup {xs : List V} : ∀ zs, HO.lst xs ≠ .tup zs := fun zs z => by cases z
section
variable {P : Program} {w : World} {K : PySem.W.Frag} {mg : Str → Option Value} {base : Heap}
theorem scLapse : FnScope ["lots", "lapsed", "life", "time", "earned", "amount", "index"] ["lots", "lapsed", "life", "time"] (defScope sLapse) := ⟨rfl, rfl, rfl, by decide +kernel, rfl, by decide +kernel, by decide +kernel⟩
theorem ok_lapse {f : Addr} {fd : FuncData} (F : Fun K "lapse" "lapse" sLapse f fd) : FnOk P w K mg base CX0 1 f fd ["lots", "lapsed", "life", "time"] spLapse := by
  refine F.ok scLapse (fun vs H Q E h => ?_) (fun cdv A outer s H vs Q E hr h => ?_)
  · obtain ⟨a, b, life, time, xs, ys, p, g, rfl, _⟩ := h
    rfl
  · obtain ⟨a, b, life, time, xs, ys, p, g, rfl, ha, hp, hb, hg, hab, hl, k⟩ := h
    refine ⟨_, pss_one (ps_while PassesOwn.never
      ((pw_and (pt_cmpR (op_neD hr.units) (pv 0) (pe_lst pa_nil) (nomark _)) (pw_and1 (pt_cmpR op_le (pe_op op_add (pe_ix ix_tup (pe_ix ix_list (pv 0) pe_int (fun _ _ => rfl)) pe_int (fun _ _ => rfl)) (pv 2)) (pv 3) (nomark _)))).pt)
      (pss_cons (ps_asg (pe_bm PySem.F.plainAttrs_list PySem.F.slot_list_pop PySem.F.type_list_pop mt_popAt (pv 0) (pa_cons pe_int pa_nil))
          (pg_tup rfl (pgs_cons (pg_name (i := 4) scLapse.nd rfl (Or.inl rfl)) (pgs_cons (pg_name (i := 5) scLapse.nd rfl (Or.inl rfl)) (pgs_cons (pg_name (i := 6) scLapse.nd rfl (Or.inl rfl)) pgs_nil)))))
        (pss_one (ps_expr (pe_bm PySem.F.plainAttrs_list PySem.F.slot_list_append PySem.F.type_list_append mt_append (pv 1) (pa_cons (pe_tup (pa_cons (pe_op op_add (pv 4) (pv 2)) (pa_cons (pv 5) (pa_cons (pv 6) pa_nil)))) pa_nil)))))), ?_⟩
    refine ⟨fun m σ H1 => ∃ (e1 e2 e3 : Option V) (xs1 ys1 : List V) (p1 g1 : PL), m = xs1.length ∧ σ = [some (.ref a), some (.ref b), some (.int life), some (.int time), e1, e2, e3] ∧ Kp [a, b] H H1 ∧ H1 a = some (.lst xs1) ∧ RefsTo H1 p3O xs1 p1 ∧ H1 b = some (.lst ys1) ∧ RefsTo H1 p3O ys1 g1 ∧
        ys1.length + xs1.length ≤ 1000 ∧ (lapseL life time p1).1 = (lapseL life time p).1 ∧ g1 ++ (lapseL life time p1).2 = g ++ (lapseL life time p).2,
      ⟨_, none, none, none, xs, ys, p, g, rfl, rfl, .refl, ha, hp, hb, hg, hl, rfl, rfl⟩, ?_⟩
    rintro m σ H1 ⟨e1, e2, e3, xs1, ys1, p1, g1, rfl, rfl, k1, ha1, hp1, hb1, hg1, hl1, q1, q2⟩
    refine ⟨_, rfl, (by show 0 ≤ sizeLine; decide), fun l hl => ?_⟩
    have hnil : upd H1 l (.lst []) l = some (.lst []) := upd_same
    have kl : Kp [a, b] H1 (upd H1 l (.lst [])) := Kp.new hl
    have ha2 : upd H1 l (.lst []) a = some (.lst xs1) := by rw [upd_ne (ne_of_none ha1 hl)]; exact ha1
    have hb2 : upd H1 l (.lst []) b = some (.lst ys1) := by rw [upd_ne (ne_of_none hb1 hl)]; exact hb1
    have hp2 := hp1.kp kl p3_tup
    have hg2 := hg1.kp kl p3_tup
    have k2 := k1.trans kl
    generalize upd H1 l (.lst []) = H2 at hnil kl ha2 hb2 hp2 hg2 k2
    refine ⟨_, _, dp_l3 ha2 hp2, .lst (SqL.of hnil) .nil, sh_l3 _, sh_nil, _, rfl, ?_⟩
    rw [eqv_nil]
    cases p1 with
    | nil =>
      refine iteF (iteF ?_)
      exact k H2 xs1 ys1 k2 ha2 (by rw [← q1]; exact hp2) hb2 (by rw [← q2, show (lapseL life time []).2 = [] from rfl, List.append_nil]; exact hg2)
    | cons q r =>
      obtain ⟨t, n, i⟩ := q
      refine iteT ?_
      cases hp2 with
      | @cons x0 _ xr _ hx hr2 =>
        obtain ⟨r0, rfl, h0⟩ := hx
        refine ⟨_, rfl, a, _, 0, .ref r0, rfl, rfl, SqL.of ha2, atI_nat (j := 0) rfl, r0, _, 0, .int t, rfl, rfl, SqT.of h0, atI_nat (j := 0) rfl, _, rfl, t, life, rfl, rfl, _, rfl, t + life, time, rfl, rfl, _, rfl, ?_⟩
        by_cases hc : t + life ≤ time
        · rw [decide_eq_true hc]
          have el : lapseL life time ((t, n, i) :: r) = ((lapseL life time r).1, (t + life, n, i) :: (lapseL life time r).2) := by
            show (if t + life ≤ time then _ else _) = _
            rw [if_pos hc]
          rw [el] at q1 q2
          refine iteT ⟨_, fun σ' H' hN => hN, ?_⟩
          refine ⟨_, rfl, .inl ⟨rfl, _, SqL.of ha2⟩, a, _, 0, 0, .ref r0, rfl, rfl, ha2, by decide, by decide, seq0 (by simp), rfl, ?_⟩
          rw [show (V.ref r0 :: xr).eraseIdx 0 = xr from rfl]
          have hab2 : upd H2 a (.lst xr) r0 = some (p3O (t, n, i)) := by rw [upd_ne (ne_of h0 ha2 (by intro z; cases z))]; exact h0
          refine ⟨r0, _, rfl, SqT.of hab2, rfl, ?_⟩
          have k3 : Kp [a, b] H2 (upd H2 a (.lst xr)) := Kp.set ha2 (by simp) lst_tup
          have ha3 : upd H2 a (.lst xr) a = some (.lst xr) := upd_same
          have hb3 : upd H2 a (.lst xr) b = some (.lst ys1) := by rw [upd_ne (Ne.symm hab)]; exact hb2
          have hr3 : RefsTo (upd H2 a (.lst xr)) p3O xr r := RefsTo.kp (show RefsTo H2 p3O xr r from hr2) k3 p3_tup
          have hg3 := hg2.kp k3 p3_tup
          have kk := k2.trans k3
          generalize upd H2 a (.lst xr) = H3 at k3 ha3 hb3 hr3 hg3 kk
          refine ⟨_, _, rfl, _, _, rfl, _, _, rfl, rfl, ?_⟩
          refine ⟨_, rfl, .inl ⟨rfl, _, SqL.of hb3⟩, _, rfl, _, rfl, t, life, rfl, rfl, _, rfl, _, rfl, (by show 3 ≤ sizeLine; decide), fun u hu => ?_⟩
          have k4 : Kp [a, b] H3 (upd H3 u (p3O (t + life, n, i))) := Kp.new hu
          have hb4 : upd H3 u (p3O (t + life, n, i)) b = some (.lst ys1) := by rw [upd_ne (ne_of_none hb3 hu)]; exact hb3
          have ha4 : upd H3 u (p3O (t + life, n, i)) a = some (.lst xr) := by rw [upd_ne (ne_of_none ha3 hu)]; exact ha3
          have hu4 : upd H3 u (p3O (t + life, n, i)) u = some (p3O (t + life, n, i)) := upd_same
          have hr4 := hr3.kp k4 p3_tup
          have hg4 := hg3.kp k4 p3_tup
          have kk4 := kk.trans k4
          generalize upd H3 u (p3O (t + life, n, i)) = H4 at k4 hb4 ha4 hu4 hr4 hg4 kk4
          have hl2 : ys1.length + (xr.length + 1) ≤ 1000 := hl1
          refine ⟨b, ys1, .ref u, rfl, rfl, hb4, small1000 (by omega), ?_⟩
          have k5 : Kp [a, b] H4 (upd H4 b (.lst (ys1 ++ [.ref u]))) := Kp.set hb4 (by simp) lst_tup
          refine ⟨xr.length, Nat.lt_succ_self _, _, _, _, xr, ys1 ++ [.ref u], r, g1 ++ [(t + life, n, i)], rfl, rfl, kk4.trans k5, by rw [upd_ne hab]; exact ha4, hr4.kp k5 p3_tup, upd_same, RefsTo.snoc (hg4.kp k5 p3_tup) (k5.tup u _ hu4), by rw [List.length_append, List.length_singleton]; omega, q1, ?_⟩
          rw [List.append_assoc]
          exact q2
        · rw [decide_eq_false hc]
          have el : lapseL life time ((t, n, i) :: r) = ((t, n, i) :: r, []) := by
            show (if t + life ≤ time then _ else _) = _
            rw [if_neg hc]
          rw [el] at q1 q2
          refine iteF ?_
          exact k H2 _ ys1 k2 ha2 (by rw [← q1]; exact .cons ⟨r0, rfl, h0⟩ hr2) hb2 (by rw [← q2, List.append_nil]; exact hg2)
end
end K16
-- part K5
set_option Elab.async false
set_option linter.all false
set_option maxRecDepth 100000
set_option maxHeartbeats 4000000
/-! take -/
namespace K16
open PySem L2 K16M
abbrev sTake : Stmt := top 21
abbrev spTake : Sp := fun vs H Q _ => ∃ (a : Addr) (m : Int) (xs : List V) (p : PL), vs = [.ref a, .int m] ∧ H a = some (.lst xs) ∧ RefsTo H p3O xs p ∧ 0 ≤ m ∧ m ≤ sumP p ∧ (∀ q ∈ p, 0 < q.2.1) ∧ xs.length ≤ 1000 ∧
  ∀ (H' : Hp) (xs' zs : List V) (q : Addr), Kp [a] H H' → H' a = some (.lst xs') → RefsTo H' p3O xs' (takeL m p) → H q = none → H' q = some (.lst zs) → zs.length ≤ 2000 → Q (.ref q) H'
theorem sumP_cons (t n : Int) (i : Nat) (r : PL) : sumP ((t, n, i) :: r) = n + sumP r := by
  unfold sumP
  simp
theorem ixN_of {n j : Nat} (h : j < n) : ixN n (j : Int) = some j := by
  unfold ixN
  rw [if_pos (by omega), if_pos (by omega)]
  simp
theorem ixN0 {n : Nat} (h : 0 < n) : ixN n 0 = some 0 := ixN_of (j := 0) h
section
variable {P : Program} {w : World} {K : PySem.W.Frag} {mg : Str → Option Value} {base : Heap}
theorem scTake : FnScope ["lots", "amount", "taken", "part"] ["lots", "amount"] (defScope sTake) := ⟨rfl, rfl, rfl, by decide +kernel, rfl, by decide +kernel, by decide +kernel⟩
theorem ok_take {f : Addr} {fd : FuncData} (F : Fun K "take" "take" sTake f fd) (hm : mg "min" = none) : FnOk P w K mg base CX0 1 f fd ["lots", "amount"] spTake := by
  refine F.ok scTake (fun vs H Q E h => ?_) (fun cdv A outer s H vs Q E hr h => ?_)
  · obtain ⟨a, m, xs, p, rfl, _⟩ := h
    rfl
  · obtain ⟨a, m, xs, p, rfl, ha, hp, hm0, hms, hpos, hl, k⟩ := h
    refine ⟨_, pss_cons (ps_set (i := 2) scTake.nd rfl (Or.inl rfl) (pe_lst pa_nil))
      (pss_cons (ps_while PassesOwn.never (pt_cmpR op_gt (pv 1) pe_int (nomark _))
        (pss_cons (ps_set (i := 3) scTake.nd rfl (Or.inl rfl) (pe_callB (call_min2 rfl) (by rfl) hm (by decide +kernel) (pa_cons (pv 1) (pa_cons (pe_ix ix_tup (pe_ix ix_list (pv 0) pe_int (fun _ _ => rfl)) pe_int (fun _ _ => rfl)) pa_nil))))
        (pss_cons (ps_expr (pe_bm PySem.F.plainAttrs_list PySem.F.slot_list_append PySem.F.type_list_append mt_append (pv 2) (pa_cons (pe_tup (pa_cons (pe_ix ix_tup (pe_ix ix_list (pv 0) pe_int (fun _ _ => rfl)) pe_int (fun _ _ => rfl)) (pa_cons (pv 3) pa_nil))) pa_nil)))
        (pss_cons (ps_aug (i := 1) scTake.nd rfl (Or.inl rfl) (pv 3) ip_sub)
        (pss_one (ps_if (pt_cmpR op_eq (pv 3) (pe_ix ix_tup (pe_ix ix_list (pv 0) pe_int (fun _ _ => rfl)) pe_int (fun _ _ => rfl)) (nomark _))
          (pss_one (ps_expr (pe_bm PySem.F.plainAttrs_list PySem.F.slot_list_pop PySem.F.type_list_pop mt_popAt (pv 0) (pa_cons pe_int pa_nil))))
          (pss_one (ps_asg (pe_tup (pa_cons (pe_ix ix_tup (pe_ix ix_list (pv 0) pe_int (fun _ _ => rfl)) pe_int (fun _ _ => rfl)) (pa_cons (pe_op op_sub (pe_ix ix_tup (pe_ix ix_list (pv 0) pe_int (fun _ _ => rfl)) pe_int (fun _ _ => rfl)) (pv 3)) (pa_cons (pe_ix ix_tup (pe_ix ix_list (pv 0) pe_int (fun _ _ => rfl)) pe_int (fun _ _ => rfl)) pa_nil))))
            (pg_sub (pv 0) pe_int set_list)))))))))
      (pss_one (ps_ret (pv 2)))), ?_⟩
    refine ⟨(by show 0 ≤ sizeLine; decide), fun q hq => ?_⟩
    have nqa : q ≠ a := Ne.symm (ne_of_none ha hq)
    have k0 : Kp [a] H (upd H q (.lst [])) := Kp.new hq
    refine ⟨fun μ σ H1 => ∃ (m1 : Int) (pt : Option V) (xs1 zs : List V) (p1 : PL), μ = xs1.length + (if 0 < m1 then 1 else 0) ∧ σ = [some (.ref a), some (.int m1), some (.ref q), pt] ∧ Kp [a, q] (upd H q (.lst [])) H1 ∧ H1 a = some (.lst xs1) ∧ RefsTo H1 p3O xs1 p1 ∧ H1 q = some (.lst zs) ∧
        0 ≤ m1 ∧ m1 ≤ sumP p1 ∧ (∀ q ∈ p1, 0 < q.2.1) ∧ (zs.length + xs1.length ≤ 1000 ∨ (m1 = 0 ∧ zs.length + xs1.length ≤ 1001)) ∧ takeL m1 p1 = takeL m p,
      ⟨_, m, none, xs, [], p, rfl, rfl, .refl, (by rw [upd_ne (Ne.symm nqa)]; exact ha), hp.kp k0 p3_tup, upd_same, hm0, hms, hpos, .inl (by simpa using hl), rfl⟩, ?_⟩
    rintro μ σ H1 ⟨m1, pt, xs1, zs, p1, rfl, rfl, k1, ha1, hp1, hq1, h0, hs1, hpos1, hlen, qe⟩
    refine ⟨_, rfl, _, _, rfl, rfl, _, rfl, ?_⟩
    by_cases hc : 0 < m1
    · rw [decide_eq_true hc]
      refine iteT ⟨_, fun σ' H' hN => hN, ?_⟩
      have hlen1 : zs.length + xs1.length ≤ 1000 := by omega
      cases p1 with
      | nil => exact absurd hs1 (by show ¬ m1 ≤ sumP []; unfold sumP; simp; omega)
      | cons p0 r =>
        obtain ⟨t, n, i⟩ := p0
        rw [sumP_cons] at hs1
        have hn0 : 0 < n := hpos1 (t, n, i) List.mem_cons_self
        cases hp1 with
        | @cons x0 _ xr _ hx hr2 =>
          obtain ⟨r0, rfl, h00⟩ := hx
          have hr2 : RefsTo H1 p3O xr r := hr2
          refine ⟨_, rfl, _, rfl, a, _, 0, .ref r0, rfl, rfl, SqL.of ha1, atI_nat (j := 0) rfl, r0, _, 1, .int n, rfl, rfl, SqT.of h00, atI_nat (j := 1) rfl, m1, n, rfl, ?_⟩
          have emin : (if n < m1 then n else m1) = min m1 n := by
            split <;> omega
          rw [emin]
          generalize hpart : min m1 n = part
          have hp0 : 0 < part := by omega
          refine ⟨_, rfl, .inl ⟨rfl, _, SqL.of hq1⟩, _, rfl, a, _, 0, .ref r0, rfl, rfl, SqL.of ha1, atI_nat (j := 0) rfl, r0, _, 2, .int (i : Nat), rfl, rfl, SqT.of h00, atI_nat (j := 2) rfl, _, rfl, (by show 2 ≤ sizeLine; decide), fun u hu => ?_⟩
          have k2 : Kp [a, q] H1 (upd H1 u (.tup [.int (i : Nat), .int part])) := Kp.new hu
          have ha2 : upd H1 u (.tup [.int (i : Nat), .int part]) a = some (.lst (.ref r0 :: xr)) := by rw [upd_ne (ne_of_none ha1 hu)]; exact ha1
          have hq2 : upd H1 u (.tup [.int (i : Nat), .int part]) q = some (.lst zs) := by rw [upd_ne (ne_of_none hq1 hu)]; exact hq1
          have h02 := k2.tup r0 _ h00
          have hr3 := hr2.kp k2 p3_tup
          have kk2 := k1.trans k2
          generalize upd H1 u (.tup [.int (i : Nat), .int part]) = H2 at k2 ha2 hq2 h02 hr3 kk2
          refine ⟨q, zs, .ref u, rfl, rfl, hq2, small1000 (by omega), ?_⟩
          have k3 : Kp [a, q] H2 (upd H2 q (.lst (zs ++ [.ref u]))) := Kp.set hq2 (by simp) lst_tup
          have ha3 : upd H2 q (.lst (zs ++ [.ref u])) a = some (.lst (.ref r0 :: xr)) := by rw [upd_ne (Ne.symm nqa)]; exact ha2
          have hq3 : upd H2 q (.lst (zs ++ [.ref u])) q = some (.lst (zs ++ [.ref u])) := upd_same
          have h03 := k3.tup r0 _ h02
          have hr4 := hr3.kp k3 p3_tup
          have kk3 := kk2.trans k3
          generalize upd H2 q (.lst (zs ++ [.ref u])) = H3 at k3 ha3 hq3 h03 hr4 kk3
          refine ⟨.int m1, rfl, .int part, rfl, m1, part, rfl, rfl, ?_⟩
          refine ⟨_, rfl, _, rfl, a, _, 0, .ref r0, rfl, rfl, SqL.of ha3, atI_nat (j := 0) rfl, r0, _, 1, .int n, rfl, rfl, SqT.of h03, atI_nat (j := 1) rfl, rfl, _, rfl, ?_⟩
          rw [dec_int]
          have lz : (zs ++ [V.ref u]).length = zs.length + 1 := by simp
          have lx : (V.ref r0 :: xr).length = xr.length + 1 := rfl
          by_cases hpn : n ≤ m1
          · have e1 : part = n := by omega
            subst e1
            rw [show (part == part) = true from by simp]
            refine iteT ?_
            refine ⟨_, rfl, .inl ⟨rfl, _, SqL.of ha3⟩, a, _, 0, 0, .ref r0, rfl, rfl, ha3, by decide, by decide, seq0 (by simp), rfl, ?_⟩
            rw [show (V.ref r0 :: xr).eraseIdx 0 = xr from rfl]
            have k4 : Kp [a, q] H3 (upd H3 a (.lst xr)) := Kp.set ha3 (by simp) lst_tup
            have et : takeL m1 ((t, part, i) :: r) = takeL (m1 - part) r := by
              show (if m1 ≤ 0 then _ else if part ≤ m1 then _ else _) = _
              rw [if_neg (by omega), if_pos hpn]
            refine ⟨xr.length + (if 0 < m1 - part then 1 else 0), ?_, m1 - part, _, xr, zs ++ [.ref u], r, rfl, rfl, kk3.trans k4, upd_same, hr4.kp k4 p3_tup, (by rw [upd_ne nqa]; exact hq3), by omega, by omega, fun z hz => hpos1 z (List.mem_cons_of_mem _ hz), .inl (by omega), by rw [← qe, et]⟩
            rw [lx, if_pos hc]
            split <;> omega
          · have e1 : part = m1 := by omega
            subst e1
            rw [show (part == n) = false from by simp; omega]
            refine iteF ?_
            refine ⟨_, rfl, a, _, 0, .ref r0, rfl, rfl, SqL.of ha3, atI_nat (j := 0) rfl, r0, _, 0, .int t, rfl, rfl, SqT.of h03, atI_nat (j := 0) rfl,
              _, rfl, a, _, 0, .ref r0, rfl, rfl, SqL.of ha3, atI_nat (j := 0) rfl, r0, _, 1, .int n, rfl, rfl, SqT.of h03, atI_nat (j := 1) rfl, _, rfl, n, part, rfl, rfl,
              _, rfl, a, _, 0, .ref r0, rfl, rfl, SqL.of ha3, atI_nat (j := 0) rfl, r0, _, 2, .int (i : Nat), rfl, rfl, SqT.of h03, atI_nat (j := 2) rfl, (by show 3 ≤ sizeLine; decide), fun u2 hu2 => ?_⟩
            have k4 : Kp [a, q] H3 (upd H3 u2 (p3O (t, n - part, i))) := Kp.new hu2
            have ha4 : upd H3 u2 (p3O (t, n - part, i)) a = some (.lst (.ref r0 :: xr)) := by rw [upd_ne (ne_of_none ha3 hu2)]; exact ha3
            have hq4 : upd H3 u2 (p3O (t, n - part, i)) q = some (.lst (zs ++ [.ref u])) := by rw [upd_ne (ne_of_none hq3 hu2)]; exact hq3
            have hu4 : upd H3 u2 (p3O (t, n - part, i)) u2 = some (p3O (t, n - part, i)) := upd_same
            have hr5 := hr4.kp k4 p3_tup
            have kk4 := kk3.trans k4
            generalize upd H3 u2 (p3O (t, n - part, i)) = H4 at k4 ha4 hq4 hu4 hr5 kk4
            refine ⟨_, rfl, a, _, 0, 0, rfl, rfl, ha4, ixN0 (by simp), ?_⟩
            have k5 : Kp [a, q] H4 (upd H4 a (.lst (.ref u2 :: xr))) := Kp.set ha4 (by simp) lst_tup
            have et : takeL part ((t, n, i) :: r) = (t, n - part, i) :: r := by
              show (if part ≤ 0 then _ else if n ≤ part then _ else _) = _
              rw [if_neg (by omega), if_neg hpn]
            refine ⟨xr.length + 1, ?_, part - part, _, .ref u2 :: xr, zs ++ [.ref u], (t, n - part, i) :: r, ?_, rfl, kk4.trans k5, upd_same, .cons ⟨u2, rfl, k5.tup u2 _ hu4⟩ (hr5.kp k5 p3_tup), (by rw [upd_ne nqa]; exact hq4), by omega, ?_, ?_, .inr ⟨by omega, ?_⟩, ?_⟩
            · rw [lx, if_pos hc]; omega
            · rw [if_neg (by omega)]; rfl
            · rw [sumP_cons]; omega
            · intro z hz
              rcases List.mem_cons.mp hz with e | hz
              · rw [e]; show 0 < n - part; omega
              · exact hpos1 z (List.mem_cons_of_mem _ hz)
            · have lx2 : (V.ref u2 :: xr).length = xr.length + 1 := rfl
              omega
            · rw [← qe, et, show part - part = (0 : Int) by omega]; rfl
    · rw [decide_eq_false hc]
      refine iteF ?_
      have hm1 : m1 = 0 := by omega
      subst hm1
      have e0 : takeL 0 p1 = p1 := by
        cases p1 with
        | nil => rfl
        | cons q r => rfl
      refine ⟨_, rfl, k H1 xs1 zs q ((k0.mono (by simp)).trans k1 |>.old fun b hb hn => ?_) ha1 (by rw [← qe, e0]; exact hp1) hq hq1 (by omega)⟩
      have hb' : b = a ∨ b = q := by simpa using hb
      rcases hb' with z | z
      · exact absurd (by simp [z]) hn
      · rw [z]; exact hq
end
end K16
-- part KRd
set_option Elab.async false
set_option linter.all false
set_option maxRecDepth 100000
set_option maxHeartbeats 4000000
/-! comprehensions read -/
namespace K16
open PySem L2 K16M
/-! readings opened one step at a time -/
theorem r_if {c : TT} {t u : TS} {D : Ends} {σ : L2.St} {H : Hp} (h : c σ H fun b H1 => if b = true then t D σ H1 else u D σ H1) : tIfS c t u D σ H := h
theorem r_test {t : TE} {σ : L2.St} {H : Hp} {Q : Bool → Hp → Prop} (h : t σ H fun x H' => ∃ k, x = .bl k ∧ Q k H') : tTest t σ H Q := h
theorem r_op {r : R2} {ta tb : TE} {σ : L2.St} {H : Hp} {Q : VK} (h : ta σ H fun x H1 => tb σ H1 fun y H2 => r x y H2 Q) : tOp r ta tb σ H Q := h
theorem r_cb {r : List V → Hp → VK → Prop} {t : TA} {σ : L2.St} {H : Hp} {Q : VK} (h : t σ H fun vs H1 => r vs H1 Q) : tCB r t σ H Q := h
theorem r_cons {ta : TE} {t : TA} {σ : L2.St} {H : Hp} {Q : List V → Hp → Prop} (h : ta σ H fun x H1 => t σ H1 fun xs H2 => Q (x :: xs) H2) : tCons ta t σ H Q := h
theorem r_seq {t u : TS} {D : Ends} {σ : L2.St} {H : Hp} (h : t { D with nx := fun σ' H' => u D σ' H' } σ H) : tSeq t u D σ H := h
theorem r_ret {te : TE} {D : Ends} {σ : L2.St} {H : Hp} (h : te σ H D.rt) : tRet te D σ H := h
theorem r_drop {te : TE} {D : Ends} {σ : L2.St} {H : Hp} (h : te σ H fun _ H1 => D.nx σ H1) : tDrop te D σ H := h
theorem r_asg {te : TE} {g : TG} {D : Ends} {σ : L2.St} {H : Hp} (h : te σ H fun x H1 => g x σ H1 D.nx) : tAsg te g D σ H := h
theorem r_call {sp : Sp} {dvs : List V} {E : XK} {t : TA} {σ : L2.St} {H : Hp} {Q : VK} (h : t σ H fun vs H1 => sp (vs ++ dvs) H1 Q E) : tCall sp dvs E t σ H Q := h
section
variable {α : Type} {J : It} {G : Hp → Prop} {wi : TI} {tt : TT} {te : TE} {i : Nat} {σ : L2.St} {H : Hp} {Q : VK} {xs : List V} {l : List α} {c : α → Bool}
theorem wipe_one {σ : L2.St} {i : Nat} {x : V} (hi : i < σ.length) : wipe ((wipe σ [i]).set i (some x)) [i] = wipe σ [i] := by
  show (((σ.set i none).set i (some x)).set i none) = σ.set i none
  rw [List.set_set, List.set_set]
/-- the slots within a comprehension over the i-th name -/
abbrev inC (σ : L2.St) (i : Nat) (x : V) : L2.St := (σ.set i none).set i (some x)
theorem inC_at {σ : L2.St} {i : Nat} {x : V} (hi : i < σ.length) : (inC σ i x)[i]? = some (some x) := by
  unfold inC
  rw [List.getElem?_set_self (by simpa using hi)]
theorem inC_ne {σ : L2.St} {i j : Nat} {x : V} (hj : j ≠ i) : (inC σ i x)[j]? = σ[j]? := by
  unfold inC
  rw [List.getElem?_set_ne (Ne.symm hj), List.getElem?_set_ne (Ne.symm hj)]
/-- a comprehension behind its iterable -/
def LcB (g : TG) (tt : TT) (te : TE) (vs : List Nat) (σ : L2.St) (Q : VK) (J : It) (H1 : Hp) : Prop := ∀ D, H1 D = none → ∃ W : Nat → Nat → Hp → Prop, (∃ m, W 0 m (upd H1 D (.lst []))) ∧ ∀ i m H, W i m H →
  (J.stop i H ∧ Q (.ref D) H) ∨ (J.go i H ∧ ∃ Nx : Hp → Prop, (∀ H', Nx H' → ∃ m', m' < m ∧ W (i + 1) m' H') ∧ ∀ x H', J.yld i H x H' → g x (wipe σ vs) H' fun σ2 H2 => wipe σ2 vs = wipe σ vs ∧ tt σ2 H2 fun b H3 =>
    if b = true then te σ2 H3 fun y H4 => ∃ acc, H4 D = some (.lst acc) ∧ acc.length < sizeLine ∧ Nx (upd H4 D (.lst (acc ++ [y]))) else Nx H3)
theorem r_lc {wi : TI} {g : TG} {tt : TT} {te : TE} {vs : List Nat} (h : wi σ H fun J H1 => LcB g tt te vs σ Q J H1) : tLc wi g tt te vs σ H Q := h
theorem r_iList {K : PySem.W.Frag} {tl : TE} {R : It → Hp → Prop} (h : tl σ H fun x H1 => ∃ a, x = .ref a ∧ (∃ xs, SqL K H1 a xs) ∧ R (Itl K a) H1) : iList K tl σ H R := h
/-- items as values -/
theorem rd_lcV (w : Walk J xs.length G (YAt xs)) (hG : ∀ H2, Kp [] H H2 → G H2) (hi : i < σ.length) (hl : xs.length = l.length) (hz : xs.length ≤ 1000) (f : α → V)
    (htt : ∀ (j : Nat) (x : V) (p : α) (H2 : Hp) (Qt : Bool → Hp → Prop), xs[j]? = some x → l[j]? = some p → Kp [] H H2 → Qt (c p) H2 → tt (inC σ i x) H2 Qt)
    (hte : ∀ (j : Nat) (x : V) (p : α) (H2 : Hp) (Qe : VK), xs[j]? = some x → l[j]? = some p → c p = true → Kp [] H H2 → Qe (f p) H2 → te (inC σ i x) H2 Qe)
    (q : ∀ D, H D = none → Q (.ref D) (upd H D (.lst ((l.filter c).map f)))) : LcB (gName i) tt te [i] σ Q J H := by
  intro D hD
  refine lc_it w (fun j H2 => H2 = upd H D (.lst (((l.take j).filter c).map f))) rfl (fun j H2 hj e => hG H2 (by rw [e]; exact Kp.new hD)) ?_ ?_
  · rintro j x H2 H2' hj rfl ⟨rfl, hx⟩
    have hjl : j < l.length := by omega
    have hp : l[j]? = some l[j] := List.getElem?_eq_getElem hjl
    have et : l.take (j + 1) = l.take j ++ [l[j]] := by rw [List.take_add_one, hp]; rfl
    refine ⟨wipe_one hi, htt j x _ _ _ hx hp (Kp.new hD) ?_⟩
    cases hc : c l[j] with
    | true =>
      rw [if_pos rfl]
      refine hte j x _ _ _ hx hp hc (Kp.new hD) ⟨_, upd_same, ?_, ?_⟩
      · rw [List.length_map]
        refine small1000 (Nat.le_trans (List.length_filter_le _ _) ?_)
        rw [List.length_take]; omega
      · rw [upd_upd, et, List.filter_append, List.map_append]
        simp [hc]
    | false =>
      rw [if_neg Bool.false_ne_true, et, List.filter_append, List.map_append]
      simp [hc]
  · rintro H2 rfl
    rw [hl, List.take_length]
    exact q D hD
/-- items as new tuples -/
theorem rd_lcT (w : Walk J xs.length G (YAt xs)) (hG : ∀ H2, Kp [] H H2 → G H2) (hi : i < σ.length) (hl : xs.length = l.length) (hz : xs.length ≤ 1000) (g : α → HO) (hg : ∀ p, ∃ zs, g p = .tup zs)
    (htt : ∀ (j : Nat) (x : V) (p : α) (H2 : Hp) (Qt : Bool → Hp → Prop), xs[j]? = some x → l[j]? = some p → Kp [] H H2 → Qt (c p) H2 → tt (inC σ i x) H2 Qt)
    (hte : ∀ (j : Nat) (x : V) (p : α) (H2 : Hp) (Qe : VK), xs[j]? = some x → l[j]? = some p → c p = true → Kp [] H H2 → (∀ r, H2 r = none → Qe (.ref r) (upd H2 r (g p))) → te (inC σ i x) H2 Qe)
    (q : ∀ (D : Addr) (H' : Hp) (zs : List V), Kp [] H H' → H D = none → H' D = some (.lst zs) → RefsTo H' g zs (l.filter c) → Q (.ref D) H') : LcB (gName i) tt te [i] σ Q J H := by
  intro D hD
  have old : ∀ {H2}, Kp [D] (upd H D (.lst [])) H2 → Kp [] H H2 := fun {H2} k => ((Kp.new hD).trans k).old fun b hb _ => by
    rw [List.mem_singleton.mp hb]; exact hD
  refine lc_it w (fun j H2 => Kp [D] (upd H D (.lst [])) H2 ∧ ∃ zs, H2 D = some (.lst zs) ∧ RefsTo H2 g zs ((l.take j).filter c)) ⟨.refl, [], upd_same, .nil⟩ (fun j H2 hj e => hG H2 (old e.1)) ?_ ?_
  · rintro j x H2 H2' hj ⟨k, zs, h1, h2⟩ ⟨rfl, hx⟩
    have hjl : j < l.length := by omega
    have hp : l[j]? = some l[j] := List.getElem?_eq_getElem hjl
    have et : l.take (j + 1) = l.take j ++ [l[j]] := by rw [List.take_add_one, hp]; rfl
    refine ⟨wipe_one hi, htt j x _ _ _ hx hp (old k) ?_⟩
    cases hc : c l[j] with
    | true =>
      rw [if_pos rfl]
      refine hte j x _ _ _ hx hp hc (old k) fun r hr => ?_
      have kr : Kp [D] H2' (upd H2' r (g l[j])) := Kp.new hr
      refine ⟨zs, by rw [upd_ne (ne_of_none h1 hr)]; exact h1, ?_, (k.trans kr).trans (Kp.set (by rw [upd_ne (ne_of_none h1 hr)]; exact h1) (by simp) lst_tup), _, upd_same, ?_⟩
      · rw [h2.len]
        refine small1000 (Nat.le_trans (List.length_filter_le _ _) ?_)
        rw [List.length_take]; omega
      · have kD : Kp [D] (upd H2' r (g l[j])) (upd (upd H2' r (g l[j])) D (.lst (zs ++ [.ref r]))) := Kp.set (by rw [upd_ne (ne_of_none h1 hr)]; exact h1) (by simp) lst_tup
        rw [et, List.filter_append]
        have e1 : [l[j]].filter c = [l[j]] := by simp [hc]
        rw [e1]
        refine ((h2.kp kr hg).kp kD hg).snoc ?_
        obtain ⟨ws, ew⟩ := hg l[j]
        exact (kD.tup r ws (by rw [upd_same, ew])).trans (by rw [ew])
    | false =>
      rw [if_neg Bool.false_ne_true]
      refine ⟨k, zs, h1, ?_⟩
      rw [et, List.filter_append]
      have e1 : [l[j]].filter c = [] := by simp [hc]
      rw [e1, List.append_nil]
      exact h2
  · rintro H2 ⟨k, zs, h1, h2⟩
    rw [hl, List.take_length] at h2
    exact q D H2 zs (old k) hD h1 h2
theorem walkL {K : PySem.W.Frag} {a : Addr} {xs : List V} : Walk (Itl K a) xs.length (fun H => SqL K H a xs) (YAt xs) := walk_list
theorem filt_yes {l : List α} : l.filter (fun _ => true) = l := List.filter_eq_self.mpr fun _ _ => rfl
theorem SqL.kp {K : PySem.W.Frag} {H H' : Hp} {a : Addr} {xs : List V} (h : H a = some (.lst xs)) (k : Kp [] H H') : SqL K H' a xs := SqL.of (k.all a _ (by simp) h)
theorem SqT.kp {K : PySem.W.Frag} {S : List Addr} {H H' : Hp} {a : Addr} {xs : List V} (h : H a = some (.tup xs)) (k : Kp S H H') : SqT K H' a xs := SqT.of (k.tup a _ h)
/-- [x[1] for x in xs], xs a list of tuples with an int at 1 -/
theorem rd_sndB {K : PySem.W.Frag} {a : Addr} {g : α → HO} {n : α → Int} (ha : H a = some (.lst xs)) (hx : RefsTo H g xs l) (hg : ∀ p, ∃ zs, g p = .tup zs ∧ zs[1]? = some (.int (n p))) (hi : i < σ.length) (hz : xs.length ≤ 1000)
    (q : ∀ D, H D = none → Q (.ref D) (upd H D (.lst ((l.map n).map V.int)))) : LcB (gName i) tYes (tOp (rIxT K) (tVar i) (tC (.int 1))) [i] σ Q (Itl K a) H := by
  refine rd_lcV (l := l) (c := fun _ => true) walkL (fun H2 k => SqL.kp ha k) hi hx.len hz (fun p => .int (n p)) (fun j x p H2 Qt _ _ _ h => h) (fun j x p H2 Qe h1 h2 _ k h => ?_) (fun D hD => by rw [filt_yes, show (l.map fun p => V.int (n p)) = (l.map n).map V.int by rw [List.map_map]; rfl]; exact q D hD)
  obtain ⟨r, h3, h4⟩ := hx.get h2
  rw [h1] at h3
  cases h3
  obtain ⟨zs, e1, e2⟩ := hg p
  rw [e1] at h4
  exact ⟨.ref r, inC_at hi, r, zs, 1, .int (n p), rfl, rfl, SqT.kp h4 k, atI_nat (j := 1) e2, h⟩
theorem rd_snd {K : PySem.W.Frag} {a : Addr} {tl : TE} {g : α → HO} {n : α → Int} (htl : ∀ Q' : VK, Q' (.ref a) H → tl σ H Q') (ha : H a = some (.lst xs)) (hx : RefsTo H g xs l) (hg : ∀ p, ∃ zs, g p = .tup zs ∧ zs[1]? = some (.int (n p))) (hi : i < σ.length) (hz : xs.length ≤ 1000)
    (q : ∀ D, H D = none → Q (.ref D) (upd H D (.lst ((l.map n).map V.int)))) : tLc (iList K tl) (gName i) tYes (tOp (rIxT K) (tVar i) (tC (.int 1))) [i] σ H Q :=
  r_lc (r_iList (htl _ ⟨a, rfl, ⟨xs, SqL.of ha⟩, rd_sndB ha hx hg hi hz q⟩))
end
end K16
-- part K6
set_option Elab.async false
set_option linter.all false
set_option maxRecDepth 100000
set_option maxHeartbeats 4000000
/-! play -/
namespace K16
open PySem L2 K16M
abbrev sPlay : Stmt := top 22
/-- a log stands at a -/
def LogAt (H : Hp) (a : Addr) (evs : List Ev) : Prop := ∃ xs, H a = some (.tup xs) ∧ RefsTo H evO xs evs
theorem LogAt.kp {S : List Addr} {H H' : Hp} {a : Addr} {evs : List Ev} (h : LogAt H a evs) (k : Kp S H H') : LogAt H' a evs := let ⟨xs, h1, h2⟩ := h; ⟨xs, k.tup a _ h1, h2.kp k ev_tup⟩
theorem lapse_len (life time : Int) : ∀ p : PL, (lapseL life time p).1.length + (lapseL life time p).2.length = p.length
  | [] => rfl
  | (t, n, i) :: r => by
    have ih := lapse_len life time r
    unfold lapseL
    split
    · simp only [List.length_cons]; omega
    · simp
theorem take_len : ∀ (p : PL) (a : Int), (takeL a p).length ≤ p.length
  | [], _ => Nat.le_refl _
  | (t, n, i) :: r, a => by
    unfold takeL
    split
    · exact Nat.le_refl _
    · split
      · exact Nat.le_succ_of_le (take_len r (a - n))
      · simp
theorem pstep_len (life : Int) (i : Nat) (s : PL × PL) (e : Ev) : (pstep life i s e).1.length + (pstep life i s e).2.length ≤ s.1.length + s.2.length + 1 := by
  have h := lapse_len life e.t s.1
  have h2 := take_len (lapseL life e.t s.1).1 e.n
  unfold pstep
  by_cases hk : e.k = true
  · simp only [hk, if_true, List.length_append, List.length_singleton]; omega
  · simp only [hk, if_false, List.length_append]
    simp only [Bool.false_eq_true, if_false]
    omega
theorem prun_len (life : Int) : ∀ (log : List Ev) (i : Nat) (s : PL × PL), (prun life i s log).1.length + (prun life i s log).2.length ≤ s.1.length + s.2.length + log.length
  | [], _, _ => Nat.le_refl _
  | e :: r, i, s => by
    have h := prun_len life r (i + 1) (pstep life i s e)
    have h2 := pstep_len life i s e
    show (prun life (i + 1) (pstep life i s e) r).1.length + _ ≤ _
    simp only [List.length_cons]
    have : (prun life i s (e :: r)).2 = (prun life (i + 1) (pstep life i s e) r).2 := rfl
    rw [this]
    omega
theorem play_len (life u : Int) (log : List Ev) : (playL life u log).1.length ≤ log.length ∧ (playL life u log).2.length ≤ log.length := by
  have h := prun_len life log 0 ([], [])
  have h2 := lapse_len life u (prun life 0 ([], []) log).1
  unfold playL pend
  simp only [List.length_nil, List.length_append] at *
  omega
abbrev spPlay : Sp := fun vs H Q _ => ∃ (a : Addr) (life u : Int) (evs : List Ev), vs = [.ref a, .int life, .int u] ∧ LogAt H a evs ∧ Good life u evs ∧ evs.length ≤ 100 ∧
  ∀ (H' : Hp) (t l1 l2 l3 : Addr) (xs1 xs2 : List V), Kp [] H H' → H t = none → H' t = some (.tup [.ref l1, .ref l2, .ref l3, .non]) → H l1 = none → H' l1 = some (.lst xs1) → RefsTo H' p3O xs1 (playL life u evs).1 →
    H l2 = none → H' l2 = some (.lst xs2) → RefsTo H' p3O xs2 (playL life u evs).2 → l1 ≠ l2 → Q (.ref t) H'
section
variable {P : Program} {w : World} {K : PySem.W.Frag} {mg : Str → Option Value} {base : Heap}
abbrev nPlay : List Str := ["log", "life", "until", "lots", "lapsed", "taken", "index", "kind", "time", "amount", "lot"]
theorem scPlay : FnScope nPlay ["log", "life", "until"] (defScope sPlay) := ⟨rfl, rfl, rfl, by decide +kernel, rfl, by decide +kernel, by decide +kernel⟩
theorem ok_play {f : Addr} {fd : FuncData} (F : Fun K "play" "play" sPlay f fd) (hen : mg "enumerate" = none) (hsu : mg "sum" = none) (htu : mg "tuple" = none) (hL : Cal0 P w K mg base CX0 1 "lapse" ["lots", "lapsed", "life", "time"] spLapse) (hT : Cal0 P w K mg base CX0 1 "take" ["lots", "amount"] spTake) :
    FnOk P w K mg base CX0 2 f fd ["log", "life", "until"] spPlay := by
  refine F.ok scPlay (fun vs H Q E h => ?_) (fun cdv A outer s H vs Q E hr h => ?_)
  · obtain ⟨a, life, u, evs, rfl, _⟩ := h
    rfl
  · obtain ⟨a, life, u, evs, rfl, hlog, hgood, hlen, k⟩ := h
    refine ⟨_, pss_cons (ps_par3 (i := 3) (j := 4) (l := 5) rfl scPlay.nd rfl rfl rfl (by decide) (by decide) (by decide) rfl rfl rfl (pa_cons (pe_lst pa_nil) (pa_cons (pe_lst pa_nil) (pa_cons (pe_lst pa_nil) pa_nil))) (by rfl))
      (pss_cons (ps_for PassesOwn.never rfl (pi_enumB (by rfl) hen (pa_cons (pv 0) pa_nil))
          (pg_tup rfl (pgs_cons (pg_name (i := 6) scPlay.nd rfl (Or.inl rfl)) (pgs_cons (pg_tup rfl (pgs_cons (pg_name (i := 7) scPlay.nd rfl (Or.inl rfl)) (pgs_cons (pg_name (i := 8) scPlay.nd rfl (Or.inl rfl)) (pgs_cons (pg_name (i := 9) scPlay.nd rfl (Or.inl rfl)) pgs_nil)))) pgs_nil)))
          (pss_one (ps_if (pt_cmpR op_le (pv 8) (pv 2) (nomark _))
            (pss_cons (ps_expr (pe_cal hL hr rfl pass0 (pa_cons (pv 3) (pa_cons (pv 4) (pa_cons (pv 1) (pa_cons (pv 8) pa_nil))))))
            (pss_one (ps_if (pt_cmpR op_eq (pv 7) pe_str (nomark _))
              (pss_one (ps_expr (pe_bm PySem.F.plainAttrs_list PySem.F.slot_list_append PySem.F.type_list_append mt_append (pv 3) (pa_cons (pe_tup (pa_cons (pv 8) (pa_cons (pv 9) (pa_cons (pv 6) pa_nil)))) pa_nil))))
              (pss_one (ps_if (pt_cmpR op_lt (pe_callB (cr_sum rfl) (by rfl) hsu (by decide +kernel) (pa_cons (pe_lc (own := [("lot", 10)]) (g := gName 10) (tt := tYes) (te := tOp (rIxT K) (tVar 10) (tC (.int 1))) rfl scPlay.nd (pi_list (pv 3)) (blkOk_by (N := nPlay) (sc := defScope sPlay) (by decide +kernel)) (fun _ _ _ _ _ => pg_name (i := 10) scPlay.nd rfl (Or.inl rfl)) (fun _ _ _ _ _ => pts_nil) (fun _ _ _ _ _ => pe_ix ix_tup (pv 10) pe_int (fun _ _ => rfl))) pa_nil)) (pv 9) (nomark _))
                (pss_one (ps_ret (pe_tup (pa_cons (pv 3) (pa_cons (pv 4) (pa_cons (pv 5) (pa_cons (pv 6) pa_nil)))))))
                (pss_one (ps_expr (pe_bm PySem.F.plainAttrs_list PySem.F.slot_list_append PySem.F.type_list_append mt_append (pv 5) (pa_cons (pe_callTy call_tuple_of (by rfl) htu (by decide +kernel) (pa_cons (pe_cal hT hr rfl pass0 (pa_cons (pv 3) (pa_cons (pv 9) pa_nil))) pa_nil)) pa_nil)))))))))
            pss_nil)))
      (pss_cons (ps_expr (pe_cal hL hr rfl pass0 (pa_cons (pv 3) (pa_cons (pv 4) (pa_cons (pv 1) (pa_cons (pv 2) pa_nil))))))
      (pss_one (ps_ret (pe_tup (pa_cons (pv 3) (pa_cons (pv 4) (pa_cons (pv 5) (pa_cons pe_non pa_nil))))))))), ?_⟩
    have hz : ([] : List V).length ≤ sizeLine := Nat.zero_le _
    refine ⟨hz, fun l1 h1 => ⟨hz, fun l2 h2 => ⟨hz, fun l3 h3 => ⟨_, _, _, rfl, ?_⟩⟩⟩⟩
    have n21 : l2 ≠ l1 := fun z => by rw [z, upd_same] at h2; cases h2
    have n32 : l3 ≠ l2 := fun z => by rw [z, upd_same] at h3; cases h3
    have n31 : l3 ≠ l1 := fun z => by rw [z, upd_ne (Ne.symm n21), upd_same] at h3; cases h3
    have hH2 : H l2 = none := by rw [upd_ne n21] at h2; exact h2
    have hH3 : H l3 = none := by rw [upd_ne n32, upd_ne n31] at h3; exact h3
    have k3 : Kp [l1, l2, l3] H (upd (upd (upd H l1 (.lst [])) l2 (.lst [])) l3 (.lst [])) := ((Kp.new h1).trans (Kp.new h2)).trans (Kp.new h3)
    have g1 : (upd (upd (upd H l1 (.lst [])) l2 (.lst [])) l3 (.lst [])) l1 = some (.lst []) := by rw [upd_ne (Ne.symm n31), upd_ne (Ne.symm n21), upd_same]
    have g2 : (upd (upd (upd H l1 (.lst [])) l2 (.lst [])) l3 (.lst [])) l2 = some (.lst []) := by rw [upd_ne (Ne.symm n32), upd_same]
    have g3 : (upd (upd (upd H l1 (.lst [])) l2 (.lst [])) l3 (.lst [])) l3 = some (.lst []) := upd_same
    have klast : ∀ {H' : Hp}, Kp [l1, l2, l3] H H' → Kp [] H H' := fun {H'} kk => kk.old fun b hb _ => by
      have hb' : b = l1 ∨ b = l2 ∨ b = l3 := by simpa using hb
      rcases hb' with z | z | z <;> (rw [z]; assumption)
    generalize upd (upd (upd H l1 (.lst [])) l2 (.lst [])) l3 (.lst []) = Hs at k3 g1 g2 g3
    obtain ⟨es, hes, hrf⟩ := hlog.kp k3
    refine ⟨_, rfl, a, rfl, .inr ⟨es, SqT.of hes, for_it walk_enumT (fun j σ H2 => ∃ (i0 k0 t0 n0 : Option V) (xs1 xs2 zs : List V), σ = [some (.ref a), some (.int life), some (.int u), some (.ref l1), some (.ref l2), some (.ref l3), i0, k0, t0, n0, none] ∧ Kp [l1, l2, l3] Hs H2 ∧ H2 l1 = some (.lst xs1) ∧ RefsTo H2 p3O xs1 (prun life 0 ([], []) (evs.take j)).1 ∧
        H2 l2 = some (.lst xs2) ∧ RefsTo H2 p3O xs2 (prun life 0 ([], []) (evs.take j)).2 ∧ H2 l3 = some (.lst zs) ∧ zs.length ≤ j)
      ⟨none, none, none, none, [], [], [], rfl, .refl, g1, .nil, g2, .nil, g3, Nat.le_refl _⟩ (fun j σ H2 _ h => by
        obtain ⟨_, _, _, _, _, _, _, _, kk, _⟩ := h
        exact SqT.kp hes kk) ?_ ?_⟩⟩
    · rintro j x σ H2 H2' hj ⟨i0, k0, t0, n0, xs1, xs2, zs, rfl, kk, ha1, hr1, ha2, hr2, ha3, hz3⟩ ⟨T, ix, y, rfl, hTn, rfl, hix, hy⟩
      cases hix
      have hy : es[j]? = some y := hy
      have hjl : j < evs.length := by rw [← hrf.len]; exact hj
      have he : evs[j]? = some evs[j] := List.getElem?_eq_getElem hjl
      obtain ⟨r, hrr, hre⟩ := hrf.get he
      rw [hy] at hrr
      cases hrr
      have kT : Kp [l1, l2, l3] H2 (upd H2 T (.tup [.int (j : Nat), .ref r])) := Kp.new hTn
      have hre2 := kT.tup r _ (kk.tup r _ hre)
      have ha1' : upd H2 T (.tup [.int (j : Nat), .ref r]) l1 = some (.lst xs1) := by rw [upd_ne (ne_of_none ha1 hTn)]; exact ha1
      have ha2' : upd H2 T (.tup [.int (j : Nat), .ref r]) l2 = some (.lst xs2) := by rw [upd_ne (ne_of_none ha2 hTn)]; exact ha2
      have ha3' : upd H2 T (.tup [.int (j : Nat), .ref r]) l3 = some (.lst zs) := by rw [upd_ne (ne_of_none ha3 hTn)]; exact ha3
      refine ⟨T, _, rfl, SqT.of upd_same, rfl, _, _, rfl, _, _, rfl, r, _, rfl, SqT.of hre2, rfl, _, _, rfl, _, _, rfl, _, _, rfl, rfl, rfl, ?_⟩
      have hr1' := hr1.kp kT p3_tup
      have hr2' := hr2.kp kT p3_tup
      have kk1 := kk.trans kT
      generalize upd H2 T (.tup [.int (j : Nat), .ref r]) = H4 at kT hre2 ha1' ha2' ha3' hr1' hr2' kk1
      generalize hee : evs[j] = e at he hre hre2
      have hmem : e ∈ evs := by rw [← hee]; exact List.getElem_mem _
      obtain ⟨htu, hn1, _⟩ := ord_at hgood.ord e hmem
      have hsplit : evs = evs.take j ++ e :: evs.drop (j + 1) := by rw [← hee, List.getElem_cons_drop, List.take_append_drop]
      have et : evs.take (j + 1) = evs.take j ++ [e] := by rw [List.take_add_one, he]; rfl
      have estep : prun life 0 ([], []) (evs.take (j + 1)) = pstep life j (prun life 0 ([], []) (evs.take j)) e := by
        rw [et, prun_app]
        have : 0 + (evs.take j).length = j := by rw [List.length_take]; omega
        rw [this]; rfl
      rw [estep]
      have plen := prun_len life (evs.take j) 0 ([], [])
      have hl1 := hr1'.len
      have hl2 := hr2'.len
      have htl : (evs.take j).length = j := by rw [List.length_take]; omega
      simp only [List.length_nil] at plen
      have hcov : e.k = false → e.n ≤ sumP (lapseL life e.t (prun life 0 ([], []) (evs.take j)).1).1 := fun hk => good_pcov hgood hsplit hk
      have hpos : ∀ z ∈ (prun life 0 ([], []) (evs.take j)).1, 0 < z.2.1 := good_ppos hgood (show evs = evs.take j ++ evs.drop j from (List.take_append_drop j evs).symm)
      generalize prun life 0 ([], []) (evs.take j) = st at *
      refine ⟨_, rfl, _, rfl, e.t, u, rfl, rfl, _, rfl, ?_⟩
      rw [decide_eq_true htu]
      refine iteT ⟨_, rfl, _, rfl, _, rfl, _, rfl, l1, l2, life, e.t, xs1, xs2, st.1, st.2, rfl, ha1', hr1', ha2', hr2', Ne.symm n21, by omega, fun H5 ys1 ys2 k5 b1 r1 b2 r2 => ?_⟩
      have b3 := k5.all l3 _ (by simp [n31, n32]) ha3'
      have kk2 := kk1.trans (k5.mono (S' := [l1, l2, l3]) (by simp))
      have hll := lapse_len life e.t st.1
      have hly := r1.len
      refine ⟨_, rfl, rfl, _, rfl, ?_⟩
      cases hk : e.k with
      | true =>
        rw [if_pos rfl, decide_eq_true rfl]
        refine iteT ⟨_, rfl, .inl ⟨rfl, _, SqL.of b1⟩, _, rfl, _, rfl, _, rfl, (by show 3 ≤ sizeLine; decide), fun v hv => ⟨l1, ys1, .ref v, rfl, rfl, (by rw [upd_ne (ne_of_none b1 hv)]; exact b1), small1000 (by omega), ?_⟩⟩
        have kv : Kp [l1, l2, l3] H5 (upd H5 v (p3O (e.t, e.n, j))) := Kp.new hv
        have c1 : upd H5 v (p3O (e.t, e.n, j)) l1 = some (.lst ys1) := by rw [upd_ne (ne_of_none b1 hv)]; exact b1
        have kw : Kp [l1, l2, l3] (upd H5 v (p3O (e.t, e.n, j))) (upd (upd H5 v (p3O (e.t, e.n, j))) l1 (.lst (ys1 ++ [.ref v]))) := Kp.set c1 (by simp) lst_tup
        have ep : pstep life j st e = ((lapseL life e.t st.1).1 ++ [(e.t, e.n, j)], st.2 ++ (lapseL life e.t st.1).2) := by unfold pstep; rw [if_pos hk]
        rw [ep]
        refine ⟨_, _, _, _, _, ys2, zs, rfl, kk2.trans (kv.trans kw), upd_same, ((r1.kp kv p3_tup).kp kw p3_tup).snoc (kw.tup v _ upd_same), by rw [upd_ne n21, upd_ne (ne_of_none b2 hv)]; exact b2, (r2.kp kv p3_tup).kp kw p3_tup, by rw [upd_ne n31, upd_ne (ne_of_none b3 hv)]; exact b3, Nat.le_succ_of_le hz3⟩
      | false =>
        rw [if_neg Bool.false_ne_true, show decide (V.str "spend" = V.str "earn") = false by decide +kernel]
        have hc := hcov hk
        refine iteF ?_
        refine r_if (r_test (r_op (r_cb (r_cons (rd_snd (a := l1) (g := p3O) (n := fun p => p.2.1) (fun Q' h => ⟨_, rfl, h⟩) b1 r1 (fun p => ⟨_, rfl, rfl⟩) (by show 10 < 11; decide) (by omega) fun D hD => ?_)))))
        have kD : Kp [l1, l2, l3] H5 (upd H5 D (.lst (((lapseL life e.t st.1).1.map fun p => p.2.1).map V.int))) := Kp.new hD
        have c1 : upd H5 D (.lst (((lapseL life e.t st.1).1.map fun p => p.2.1).map V.int)) l1 = some (.lst ys1) := by rw [upd_ne (ne_of_none b1 hD)]; exact b1
        have c2 : upd H5 D (.lst (((lapseL life e.t st.1).1.map fun p => p.2.1).map V.int)) l2 = some (.lst ys2) := by rw [upd_ne (ne_of_none b2 hD)]; exact b2
        have c3 : upd H5 D (.lst (((lapseL life e.t st.1).1.map fun p => p.2.1).map V.int)) l3 = some (.lst zs) := by rw [upd_ne (ne_of_none b3 hD)]; exact b3
        have cD : upd H5 D (.lst (((lapseL life e.t st.1).1.map fun p => p.2.1).map V.int)) D = some (.lst (((lapseL life e.t st.1).1.map fun p => p.2.1).map V.int)) := upd_same
        have r1' := r1.kp kD p3_tup
        have r2' := r2.kp kD p3_tup
        have kk3 := kk2.trans kD
        generalize upd H5 D (.lst (((lapseL life e.t st.1).1.map fun p => p.2.1).map V.int)) = H6 at kD c1 c2 c3 cD r1' r2' kk3
        refine ⟨D, _, rfl, SqL.of cD, _, rfl, _, e.n, rfl, rfl, _, rfl, ?_⟩
        rw [decide_eq_false (show ¬ ((lapseL life e.t st.1).1.map fun p => p.2.1).sum < e.n from Int.not_lt.mpr hc)]
        refine iteF ⟨_, rfl, .inl ⟨rfl, _, SqL.of c3⟩, _, rfl, _, rfl, l1, e.n, ys1, _, rfl, c1, r1', by omega, hc, fun z hz => hpos z (lapse_suffix life e.t z hz), by omega, fun H7 xs1' ws q kq d1 rr hq hqq hww => ?_⟩
        have d2 := kq.all l2 _ (by simp [n21]) c2
        have d3 := kq.all l3 _ (by simp [n31]) c3
        have kk4 := kk3.trans (kq.mono (S' := [l1, l2, l3]) (by simp))
        have r2'' := r2'.kp kq p3_tup
        refine ⟨q, _, rfl, .inl ⟨SqL.of hqq, fun tt htt => ?_⟩⟩
        have kt : Kp [l1, l2, l3] H7 (upd H7 tt (.tup ws)) := Kp.new htt
        have e1 : upd H7 tt (.tup ws) l1 = some (.lst xs1') := by rw [upd_ne (ne_of_none d1 htt)]; exact d1
        have e2 : upd H7 tt (.tup ws) l2 = some (.lst ys2) := by rw [upd_ne (ne_of_none d2 htt)]; exact d2
        have e3 : upd H7 tt (.tup ws) l3 = some (.lst zs) := by rw [upd_ne (ne_of_none d3 htt)]; exact d3
        have rr' := rr.kp kt p3_tup
        have r2t := r2''.kp kt p3_tup
        have kk5 := kk4.trans kt
        generalize upd H7 tt (.tup ws) = H8 at kt e1 e2 e3 rr' r2t kk5
        refine ⟨l3, zs, .ref tt, rfl, rfl, e3, small1000 (by omega), ?_⟩
        have kw : Kp [l1, l2, l3] H8 (upd H8 l3 (.lst (zs ++ [.ref tt]))) := Kp.set e3 (by simp) lst_tup
        have ep : pstep life j st e = (takeL e.n (lapseL life e.t st.1).1, st.2 ++ (lapseL life e.t st.1).2) := by
          unfold pstep
          rw [if_neg (by rw [hk]; exact Bool.false_ne_true)]
        rw [ep]
        exact ⟨_, _, _, _, xs1', ys2, _, rfl, kk5.trans kw, by rw [upd_ne (Ne.symm n31)]; exact e1, rr'.kp kw p3_tup, by rw [upd_ne (Ne.symm n32)]; exact e2, r2t.kp kw p3_tup, upd_same, by rw [List.length_append, List.length_singleton]; omega⟩
    · rintro σ H2 ⟨i0, k0, t0, n0, xs1, xs2, zs, rfl, kk, ha1, hr1, ha2, hr2, ha3, hz3⟩
      rw [hrf.len, List.take_length] at hr1 hr2
      have plen := prun_len life evs 0 ([], [])
      simp only [List.length_nil] at plen
      have hl1 := hr1.len
      have hl2 := hr2.len
      refine ⟨_, rfl, _, rfl, _, rfl, _, rfl, l1, l2, life, u, xs1, xs2, _, _, rfl, ha1, hr1, ha2, hr2, Ne.symm n21, by omega, fun H5 ys1 ys2 k5 b1 r1 b2 r2 => ?_⟩
      have b3 := k5.all l3 _ (by simp [n31, n32]) ha3
      have kk2 := kk.trans (k5.mono (S' := [l1, l2, l3]) (by simp))
      refine ⟨_, rfl, _, rfl, _, rfl, (by show 4 ≤ sizeLine; decide), fun t ht => ?_⟩
      have kt : Kp [l1, l2, l3] H5 (upd H5 t (.tup [.ref l1, .ref l2, .ref l3, .non])) := Kp.new ht
      have kall := k3.trans (kk2.trans kt)
      refine k _ t l1 l2 l3 ys1 ys2 (klast kall) ?_ upd_same h1 (by rw [upd_ne (ne_of_none b1 ht)]; exact b1) (r1.kp kt p3_tup) hH2 (by rw [upd_ne (ne_of_none b2 ht)]; exact b2) (r2.kp kt p3_tup) (Ne.symm n21)
      exact (k3.trans kk2).free (by
        have z1 := ne_of_none b1 ht
        have z2 := ne_of_none b2 ht
        have z3 := ne_of_none b3 ht
        simp [Ne.symm z1, Ne.symm z2, Ne.symm z3]) ht
end
end K16
-- part K7
set_option Elab.async false
set_option linter.all false
set_option maxRecDepth 100000
set_option maxHeartbeats 4000000
/-! balance_of, lapsed_by, merged -/
namespace K16
open PySem L2 K16M
abbrev sMerged : Stmt := top 24
abbrev sLapsedBy : Stmt := top 25
abbrev sBalanceOf : Stmt := top 26
/-- what a number of a log at a moment is promised as -/
abbrev spLogNum (n : Int → Int → List Ev → Int) : Sp := fun vs H Q _ => ∃ (a : Addr) (life u : Int) (evs : List Ev), vs = [.ref a, .int life, .int u] ∧ LogAt H a evs ∧ Good life u evs ∧ evs.length ≤ 100 ∧ ∀ H', Kp [] H H' → Q (.int (n life u evs)) H'
abbrev spMerged : Sp := fun vs H Q _ => ∃ (a : Addr) (xs : List V) (l : LL), vs = [.ref a] ∧ H a = some (.lst xs) ∧ RefsTo H p2O xs l ∧ xs.length ≤ 1000 ∧ ∀ (H' : Hp) (q : Addr) (zs : List V), Kp [] H H' → H q = none → H' q = some (.lst zs) → RefsTo H' p2O zs (mergeL l) → Q (.ref q) H'
theorem paired_set {β γ : Type} {F : β → γ → Prop} {as : List β} {cs : List γ} {a : β} {c : γ} (h : Paired F as cs) (hf : F a c) : ∀ i : Nat, Paired F (as.set i a) (cs.set i c) := by
  induction h with
  | nil => intro i; exact .nil
  | cons r t ih =>
    intro i
    cases i with
    | zero => exact .cons hf t
    | succ i => exact .cons r (ih i)
theorem RefsTo.setLast {α : Type} {g : α → HO} {H : Hp} {zs : List V} {L : List α} {b b' : α} {u : Addr} (h : RefsTo H g zs (L ++ [b])) (e : H u = some (g b')) : RefsTo H g (zs.set L.length (.ref u)) (L ++ [b']) := by
  have := paired_set (F := fun (x : V) (p : α) => ∃ r, x = .ref r ∧ H r = some (g p)) h (a := .ref u) (c := b') ⟨u, rfl, e⟩ L.length
  rw [List.set_append_right _ _ (Nat.le_refl _), Nat.sub_self] at this
  exact this
theorem ixN_neg1 {n : Nat} : ixN (n + 1) (-1) = some n := by
  unfold ixN
  rw [if_neg (by omega), if_pos (by omega)]
  congr 1
  omega
theorem atI_neg1 {α : Type} {xs : List α} {n : Nat} {v : α} (hl : xs.length = n + 1) (h : xs[n]? = some v) : atI xs (-1) = some v := by
  unfold atI
  rw [hl, ixN_neg1]
  exact h
def d2 (p : Int × Int) : PyData := .tuple [.int p.1, .int p.2]
theorem sh_d2 (p : Int × Int) : Sh 2 (d2 p) := sh_tup fun d hd => by
  have : d = .int p.1 ∨ d = .int p.2 := by simpa using hd
  rcases this with e | e <;> (rw [e]; exact sh_int _)
theorem dp_p2 {K : PySem.W.Frag} {H : Hp} {xs : List V} {p : LL} (h : RefsTo H p2O xs p) : DpAll K H xs (p.map d2) := by
  have h' : Paired (fun (x : V) (p : Int × Int) => ∃ r, x = .ref r ∧ H r = some (p2O p)) xs p := h
  induction h' with
  | nil => exact .nil
  | cons a t ih =>
    obtain ⟨r, rfl, e⟩ := a
    exact .cons (.tup (SqT.of e) (.cons (.int _) (.cons (.int _) .nil))) (ih t)
theorem dp_l2 {K : PySem.W.Frag} {H : Hp} {a : Addr} {xs : List V} {p : LL} (ha : H a = some (.lst xs)) (h : RefsTo H p2O xs p) : Dp K H (.ref a) (.list (p.map d2)) := .lst (SqL.of ha) (dp_p2 h)
theorem sh_l2 (p : LL) : SeqAt.shaped (.list (p.map d2)) = true := (sh_list (n := 2) fun d hd => by
  obtain ⟨q, _, rfl⟩ := List.mem_map.mp hd
  exact sh_d2 q).shaped (by decide)
theorem mstep_nil (p : Int × Int) : mstep [] p = [p] := rfl
theorem mstep_snoc (L : LL) (b p : Int × Int) : mstep (L ++ [b]) p = if b.1 = p.1 then L ++ [(p.1, b.2 + p.2)] else L ++ [b] ++ [p] := by
  unfold mstep
  rw [List.getLast?_concat, List.dropLast_concat]
theorem mstep_len (f : LL) (p : Int × Int) : (mstep f p).length ≤ f.length + 1 := by
  rcases List.eq_nil_or_concat f with rfl | ⟨L, b, rfl⟩
  · exact Nat.le_refl _
  · rw [List.concat_eq_append, mstep_snoc]
    split <;> simp
section
variable {P : Program} {w : World} {K : PySem.W.Frag} {mg : Str → Option Value} {base : Heap}
abbrev nBal : List Str := ["log", "life", "time", "lot"]
abbrev nLby : List Str := ["log", "life", "time", "row"]
theorem scBal : FnScope nBal ["log", "life", "time"] (defScope sBalanceOf) := ⟨rfl, rfl, rfl, by decide +kernel, rfl, by decide +kernel, by decide +kernel⟩
theorem scLby : FnScope nLby ["log", "life", "time"] (defScope sLapsedBy) := ⟨rfl, rfl, rfl, by decide +kernel, rfl, by decide +kernel, by decide +kernel⟩
theorem ok_balanceOf {f : Addr} {fd : FuncData} (F : Fun K "balance_of" "balance_of" sBalanceOf f fd) (hsu : mg "sum" = none) (hP : Cal0 P w K mg base CX0 2 "play" ["log", "life", "until"] spPlay) : FnOk P w K mg base CX0 3 f fd ["log", "life", "time"] (spLogNum balL) := by
  refine F.ok scBal (fun vs H Q E h => ?_) (fun cdv A outer s H vs Q E hr h => ?_)
  · obtain ⟨a, life, u, evs, rfl, _⟩ := h
    rfl
  · obtain ⟨a, life, u, evs, rfl, hlog, hgood, hlen, k⟩ := h
    refine ⟨_, pss_one (ps_ret (pe_callB (cr_sum rfl) (by rfl) hsu (by decide +kernel) (pa_cons (pe_lc (own := [("lot", 3)]) (g := gName 3) (tt := tYes) (te := tOp (rIxT K) (tVar 3) (tC (.int 1))) rfl scBal.nd (pi_list (pe_ix ix_tup (pe_cal hP hr rfl pass0 (pa_cons (pv 0) (pa_cons (pv 1) (pa_cons (pv 2) pa_nil)))) pe_int (fun _ _ => rfl)))
      (blkOk_by (N := nBal) (sc := defScope sBalanceOf) (by decide +kernel)) (fun _ _ _ _ _ => pg_name (i := 3) scBal.nd rfl (Or.inl rfl)) (fun _ _ _ _ _ => pts_nil) (fun _ _ _ _ _ => pe_ix ix_tup (pv 3) pe_int (fun _ _ => rfl))) pa_nil))), ?_⟩
    obtain ⟨e1, e2⟩ := play_len life u evs
    refine r_ret (r_cb (r_cons (r_lc (r_iList (r_op (r_call ⟨_, rfl, _, rfl, _, rfl, a, life, u, evs, rfl, hlog, hgood, hlen, fun H' t l1 l2 l3 xs1 xs2 kk ht htt h1 h1l hr1 h2 h2l hr2 hne => ?_⟩))))))
    refine ⟨t, _, 0, .ref l1, rfl, rfl, SqT.of htt, atI_nat (j := 0) rfl, l1, rfl, ⟨_, SqL.of h1l⟩, rd_sndB (g := p3O) (n := fun p => p.2.1) h1l hr1 (fun p => ⟨_, rfl, rfl⟩) (by show 3 < 4; decide) (by rw [hr1.len]; omega) fun D hD => ⟨D, _, rfl, SqL.of upd_same, k _ (kk.trans (Kp.new hD))⟩⟩
theorem ok_lapsedBy {f : Addr} {fd : FuncData} (F : Fun K "lapsed_by" "lapsed_by" sLapsedBy f fd) (hsu : mg "sum" = none) (hP : Cal0 P w K mg base CX0 2 "play" ["log", "life", "until"] spPlay) : FnOk P w K mg base CX0 3 f fd ["log", "life", "time"] (spLogNum gonL) := by
  refine F.ok scLby (fun vs H Q E h => ?_) (fun cdv A outer s H vs Q E hr h => ?_)
  · obtain ⟨a, life, u, evs, rfl, _⟩ := h
    rfl
  · obtain ⟨a, life, u, evs, rfl, hlog, hgood, hlen, k⟩ := h
    refine ⟨_, pss_one (ps_ret (pe_callB (cr_sum rfl) (by rfl) hsu (by decide +kernel) (pa_cons (pe_lc (own := [("row", 3)]) (g := gName 3) (tt := tYes) (te := tOp (rIxT K) (tVar 3) (tC (.int 1))) rfl scLby.nd (pi_list (pe_ix ix_tup (pe_cal hP hr rfl pass0 (pa_cons (pv 0) (pa_cons (pv 1) (pa_cons (pv 2) pa_nil)))) pe_int (fun _ _ => rfl)))
      (blkOk_by (N := nLby) (sc := defScope sLapsedBy) (by decide +kernel)) (fun _ _ _ _ _ => pg_name (i := 3) scLby.nd rfl (Or.inl rfl)) (fun _ _ _ _ _ => pts_nil) (fun _ _ _ _ _ => pe_ix ix_tup (pv 3) pe_int (fun _ _ => rfl))) pa_nil))), ?_⟩
    obtain ⟨e1, e2⟩ := play_len life u evs
    refine r_ret (r_cb (r_cons (r_lc (r_iList (r_op (r_call ⟨_, rfl, _, rfl, _, rfl, a, life, u, evs, rfl, hlog, hgood, hlen, fun H' t l1 l2 l3 xs1 xs2 kk ht htt h1 h1l hr1 h2 h2l hr2 hne => ?_⟩))))))
    refine ⟨t, _, 1, .ref l2, rfl, rfl, SqT.of htt, atI_nat (j := 1) rfl, l2, rfl, ⟨_, SqL.of h2l⟩, rd_sndB (g := p3O) (n := fun p => p.2.1) h2l hr2 (fun p => ⟨_, rfl, rfl⟩) (by show 3 < 4; decide) (by rw [hr2.len]; omega) fun D hD => ⟨D, _, rfl, SqL.of upd_same, k _ (kk.trans (Kp.new hD))⟩⟩
theorem scMerged : FnScope ["rows", "found", "time", "amount"] ["rows"] (defScope sMerged) := ⟨rfl, rfl, rfl, by decide +kernel, rfl, by decide +kernel, by decide +kernel⟩
theorem ok_merged {f : Addr} {fd : FuncData} (F : Fun K "merged" "merged" sMerged f fd) : FnOk P w K mg base CX0 1 f fd ["rows"] spMerged := by
  refine F.ok scMerged (fun vs H Q E h => ?_) (fun cdv A outer s H vs Q E hr h => ?_)
  · obtain ⟨a, xs, l, rfl, _⟩ := h
    rfl
  · obtain ⟨a, xs, l, rfl, ha, hx, hz, k⟩ := h
    refine ⟨_, pss_cons (ps_set (i := 1) scMerged.nd rfl (Or.inl rfl) (pe_lst pa_nil))
      (pss_cons (ps_for PassesOwn.never rfl (pi_list (pv 0)) (pg_tup rfl (pgs_cons (pg_name (i := 2) scMerged.nd rfl (Or.inl rfl)) (pgs_cons (pg_name (i := 3) scMerged.nd rfl (Or.inl rfl)) pgs_nil)))
        (pss_one (ps_if ((pw_and (pt_cmpR (op_neD hr.units) (pv 1) (pe_lst pa_nil) (nomark _)) (pw_and1 (pt_cmpR op_eq (pe_ix ix_tup (pe_ix ix_list (pv 1) (pe_un un_neg pe_int) (fun _ _ => rfl)) pe_int (fun _ _ => rfl)) (pv 2) (nomark _)))).pt)
          (pss_one (ps_asg (pe_tup (pa_cons (pv 2) (pa_cons (pe_op op_add (pe_ix ix_tup (pe_ix ix_list (pv 1) (pe_un un_neg pe_int) (fun _ _ => rfl)) pe_int (fun _ _ => rfl)) (pv 3)) pa_nil))) (pg_sub (pv 1) (pe_un un_neg pe_int) set_list)))
          (pss_one (ps_expr (pe_bm PySem.F.plainAttrs_list PySem.F.slot_list_append PySem.F.type_list_append mt_append (pv 1) (pa_cons (pe_tup (pa_cons (pv 2) (pa_cons (pv 3) pa_nil))) pa_nil)))))))
      (pss_one (ps_ret (pv 1)))), ?_⟩
    refine ⟨Nat.zero_le _, fun q hq => ?_⟩
    have nqa : q ≠ a := Ne.symm (ne_of_none ha hq)
    have k0 : Kp [q] H (upd H q (.lst [])) := Kp.new hq
    have old : ∀ {H'}, Kp [q] H H' → Kp [] H H' := fun {H'} kk => kk.old fun b hb _ => by rw [List.mem_singleton.mp hb]; exact hq
    have aH : ∀ {H2}, Kp [q] H H2 → H2 a = some (.lst xs) := fun {H2} kk => kk.all a _ (by simp [Ne.symm nqa]) ha
    have q0 : upd H q (.lst []) q = some (.lst []) := upd_same
    generalize upd H q (.lst []) = H1 at k0 q0
    refine ⟨_, rfl, a, rfl, ⟨xs, SqL.of (aH k0)⟩, for_it walk_list (fun j σ H2 => ∃ (t0 n0 : Option V) (zs : List V), σ = [some (.ref a), some (.ref q), t0, n0] ∧ Kp [q] H H2 ∧ H2 q = some (.lst zs) ∧ RefsTo H2 p2O zs ((l.take j).foldl mstep []) ∧ zs.length ≤ j)
      ⟨none, none, [], rfl, k0, q0, .nil, Nat.le_refl _⟩ (fun j σ H2 _ h => by
        obtain ⟨_, _, _, _, kk, _⟩ := h
        exact SqL.of (aH kk)) ?_ ?_⟩
    · rintro j x σ H2 H2' hj ⟨t0, n0, zs, rfl, kk, hq2, hf, hzl⟩ ⟨rfl, hxj⟩
      obtain ⟨r, p, rfl, hp, hrp⟩ := hx.get' hxj
      obtain ⟨t, n⟩ := p
      have et : l.take (j + 1) = l.take j ++ [(t, n)] := by rw [List.take_add_one, hp]; rfl
      rw [et, List.foldl_append]
      show gTup _ _ _ _ _ _ _
      have hr2 := kk.tup r _ hrp
      refine ⟨r, _, rfl, SqT.of hr2, rfl, _, _, rfl, _, _, rfl, rfl, ?_⟩
      generalize (l.take j).foldl mstep [] = fo at hf ⊢
      have step : [(t, n)].foldl mstep fo = mstep fo (t, n) := rfl
      rw [step]
      refine ⟨_, rfl, Nat.zero_le _, fun e he => ?_⟩
      have ke : Kp [q] H2' (upd H2' e (.lst [])) := Kp.new he
      have hq3 : upd H2' e (.lst []) q = some (.lst zs) := by rw [upd_ne (ne_of_none hq2 he)]; exact hq2
      have he3 : upd H2' e (.lst []) e = some (.lst []) := upd_same
      have hf3 := hf.kp ke p2_tup
      have kk3 := kk.trans ke
      generalize upd H2' e (.lst []) = H3 at ke hq3 he3 hf3 kk3
      refine ⟨_, _, dp_l2 hq3 hf3, .lst (SqL.of he3) .nil, sh_l2 _, sh_nil, _, rfl, ?_⟩
      have app : mstep fo (t, n) = fo ++ [(t, n)] → tDrop (tBM K "list" rAppend (tVar 1) (tCons (tTup (tCons (tVar 2) (tCons (tVar 3) tNil))) tNil)) { nx := fun σ H2 => ∃ (t0 n0 : Option V) (zs : List V), σ = [some (.ref a), some (.ref q), t0, n0] ∧ Kp [q] H H2 ∧ H2 q = some (.lst zs) ∧ RefsTo H2 p2O zs (mstep fo (t, n)) ∧ zs.length ≤ j + 1, rt := Q } [some (.ref a), some (.ref q), some (.int t), some (.int n)] H3 := by
        intro em
        rw [em]
        refine ⟨_, rfl, .inl ⟨rfl, _, SqL.of hq3⟩, _, rfl, _, rfl, (by show 2 ≤ sizeLine; decide), fun v hv => ⟨q, zs, .ref v, rfl, rfl, (by rw [upd_ne (ne_of_none hq3 hv)]; exact hq3), small1000 (by have := (List.getElem?_eq_some_iff.mp hxj).1; omega), ?_⟩⟩
        have kv : Kp [q] H3 (upd H3 v (p2O (t, n))) := Kp.new hv
        have kw : Kp [q] (upd H3 v (p2O (t, n))) (upd (upd H3 v (p2O (t, n))) q (.lst (zs ++ [.ref v]))) := Kp.set (by rw [upd_ne (ne_of_none hq3 hv)]; exact hq3) (by simp) lst_tup
        exact ⟨_, _, _, rfl, kk3.trans (kv.trans kw), upd_same, ((hf3.kp kv p2_tup).kp kw p2_tup).snoc (kw.tup v _ upd_same), by rw [List.length_append, List.length_singleton]; omega⟩
      rcases List.eq_nil_or_concat fo with rfl | ⟨L, b, rfl⟩
      · refine iteF (iteF ?_)
        exact app rfl
      · rw [List.concat_eq_append] at *
        have hne : (!PyData.eqv (.list ((L ++ [b]).map d2)) (.list [])) = true := by
          cases L <;> rfl
        rw [hne]
        refine iteT ?_
        have hzlen : zs.length = L.length + 1 := by rw [hf3.len]; simp
        obtain ⟨r1, hr1, hr1e⟩ := hf3.get (i := L.length) (p := b) (by simp)
        refine ⟨_, rfl, 1, rfl, q, zs, -1, .ref r1, rfl, rfl, SqL.of hq3, atI_neg1 hzlen hr1, r1, _, 0, .int b.1, rfl, rfl, SqT.of hr1e, atI_nat (j := 0) rfl, _, rfl, rfl, _, rfl, ?_⟩
        rw [dec_int]
        by_cases hb : b.1 = t
        · rw [show (b.1 == t) = true by simp [hb]]
          refine iteT ?_
          refine ⟨_, rfl, _, rfl, 1, rfl, q, zs, -1, .ref r1, rfl, rfl, SqL.of hq3, atI_neg1 hzlen hr1, r1, _, 1, .int b.2, rfl, rfl, SqT.of hr1e, atI_nat (j := 1) rfl, _, rfl, b.2, n, rfl, rfl, (by show 2 ≤ sizeLine; decide), fun v hv => ?_⟩
          have kv : Kp [q] H3 (upd H3 v (p2O (t, b.2 + n))) := Kp.new hv
          have hq4 : upd H3 v (p2O (t, b.2 + n)) q = some (.lst zs) := by rw [upd_ne (ne_of_none hq3 hv)]; exact hq3
          have kw : Kp [q] (upd H3 v (p2O (t, b.2 + n))) (upd (upd H3 v (p2O (t, b.2 + n))) q (.lst (zs.set L.length (.ref v)))) := Kp.set hq4 (by simp) lst_tup
          refine ⟨_, rfl, 1, rfl, q, zs, -1, L.length, rfl, rfl, hq4, by rw [hzlen]; exact ixN_neg1, _, _, _, rfl, kk3.trans (kv.trans kw), upd_same, ?_, by rw [List.length_set]; omega⟩
          rw [mstep_snoc, if_pos hb]
          exact RefsTo.setLast ((hf3.kp kv p2_tup).kp kw p2_tup) (kw.tup v _ upd_same)
        · rw [show (b.1 == t) = false by simp [hb]]
          refine iteF ?_
          exact app (by rw [mstep_snoc, if_neg hb])
    · rintro σ H2 ⟨t0, n0, zs, rfl, kk, hq2, hf, hzl⟩
      rw [hx.len, List.take_length] at hf
      exact ⟨_, rfl, k H2 q zs (old kk) hq hq2 hf⟩
end
end K16
-- part K8
set_option Elab.async false
set_option linter.all false
set_option maxRecDepth 100000
set_option maxHeartbeats 4000000
/-! an account: what stands where; __init__, need_time, change -/
namespace K16
open PySem L2 K16M
abbrev sAcc (j : Nat) : Stmt := inClass (top 28) j
/-- the attributes -/
def flds (span : Int) (lg : Addr) (now : Int) (ps : Addr) : List (Str × V) := [("span", .int span), ("log", .ref lg), ("now", .int now), ("past", .ref ps)]
section
variable {span now now' : Int} {lg lg' ps : Addr}
theorem fl_span : (flds span lg now ps).lookup ("span" : Str) = some (.int span) := rfl
theorem fl_log : (flds span lg now ps).lookup ("log" : Str) = some (.ref lg) := rfl
theorem fl_now : (flds span lg now ps).lookup ("now" : Str) = some (.int now) := rfl
theorem fl_past : (flds span lg now ps).lookup ("past" : Str) = some (.ref ps) := rfl
theorem fl_plog : putF "log" (.ref lg') (flds span lg now ps) = flds span lg' now ps := by with_unfolding_all rfl
theorem fl_pnow : putF "now" (.int now') (flds span lg now ps) = flds span lg now' ps := by with_unfolding_all rfl
theorem fl_new : putF "past" (.ref ps) (putF "now" (.int now) (putF "log" (.ref lg) (putF "span" (.int span) []))) = flds span lg now ps := by with_unfolding_all rfl
theorem fl_len : (flds span lg now ps).length < 1000 := by show 4 < 1000; decide
end
/-- a state: a pair of a log and a time -/
def StAt (H : Hp) (x : V) (st : List Ev × Int) : Prop := ∃ t lg, x = .ref t ∧ H t = some (.tup [.ref lg, .int st.2]) ∧ LogAt H lg st.1
def StsAt (H : Hp) (xs : List V) (l : List (List Ev × Int)) : Prop := Paired (StAt H) xs l
theorem StAt.kp {S : List Addr} {H H' : Hp} {x : V} {st : List Ev × Int} (h : StAt H x st) (k : Kp S H H') : StAt H' x st := let ⟨t, lg, e, h1, h2⟩ := h; ⟨t, lg, e, k.tup t _ h1, h2.kp k⟩
theorem StsAt.kp {S : List Addr} {H H' : Hp} {xs : List V} {l : List (List Ev × Int)} (h : StsAt H xs l) (k : Kp S H H') : StsAt H' xs l := Paired.mapP h fun _ _ z => z.kp k
theorem StsAt.snoc {H : Hp} {xs : List V} {l : List (List Ev × Int)} {x : V} {st : List Ev × Int} (h : StsAt H xs l) (e : StAt H x st) : StsAt H (xs ++ [x]) (l ++ [st]) := Paired.snoc h e
/-- an account stands at a, its past at ps -/
def AccAt (C : Addr) (H : Hp) (a ps : Addr) (span : Int) (st : List Ev × Int) (past : List (List Ev × Int)) : Prop :=
  ∃ dx lg xs, H a = some (.ins C dx (flds span lg st.2 ps)) ∧ LogAt H lg st.1 ∧ H ps = some (.lst xs) ∧ StsAt H xs past
theorem AccAt.kp {C : Addr} {S : List Addr} {H H' : Hp} {a ps : Addr} {span : Int} {st : List Ev × Int} {past : List (List Ev × Int)} (h : AccAt C H a ps span st past) (k : Kp S H H') (h1 : a ∉ S) (h2 : ps ∉ S) : AccAt C H' a ps span st past := by
  obtain ⟨dx, lg, xs, e1, e2, e3, e4⟩ := h
  exact ⟨dx, lg, xs, k.all a _ h1 e1, e2.kp k, k.all ps _ h2 e3, e4.kp k⟩
theorem AccAt.ne {C : Addr} {H : Hp} {a ps : Addr} {span : Int} {st : List Ev × Int} {past : List (List Ev × Int)} (h : AccAt C H a ps span st past) : a ≠ ps := by
  obtain ⟨dx, lg, xs, e1, e2, e3, e4⟩ := h
  exact ne_of e1 e3 (by intro z; cases z)
theorem ins_tup {C dx : Addr} {fs : List (Str × V)} : ∀ zs, HO.ins C dx fs ≠ .tup zs := fun zs z => by cases z
/-- what the written part says of the class -/
structure AccT (K : PySem.W.Frag) (C : Addr) : Prop where
  cl : Cls K C
  nS : NoAttr K C "span"
  nL : NoAttr K C "log"
  nN : NoAttr K C "now"
  nP : NoAttr K C "past"
  most : ∃ t : Tok, Con K C "MOST" (.int 30) (.int 30 t)
/-- a method that is called by its name -/
structure Met0 (P : Program) (w : World) (K : PySem.W.Frag) (mg : Str → Option Value) (base : Heap) (CX : CXT) (k : Nat) (C : Addr) (m : Str) (ps : List Str) (sp : Sp) : Prop where
  ex : ∃ (f : Addr) (fd : FuncData), FnOk P w K mg base CX k f fd ps sp ∧ Meth K C m f ∧ Binds K fd ps []
section
variable {X : Cx} {CX : CXT} {k : Nat} {C : Addr} {m : Str} {ps : List Str} {sp : Sp} {E : XK} {o e : Expr} {es : List Expr} {ta : TE} {t : TA} {pos apos : Pos}
theorem pe_met {pl : Sem Bool} (M : Met0 X.prog X.w X.K X.mg X.base CX k C m ps sp) (c : Cls X.K C) (hr : Room k X.A) (hx : Passes CX X E) (he : PE X o ta) (ha : PA X (e :: es) t)
    (hst : starEach (e :: es) X.env = (false, eval e X.env) :: starEach es X.env := by rfl) (hpl : (PySem.backTo pos (starEach es X.env)).any (·.1) = false := by rfl)
    (ht : eval (.Call (.Attribute o m apos) (e :: es) [] pos) X.env = (do
      let ov ← eval o X.env
      standAt apos.atName
      let (f, first) ← holding [ov] (getMethod ov m pl)
      callWith pos f first (PySem.backTo pos (starEach (e :: es) X.env)) (backToKw pos (keywordEach [] X.env))) := by rfl) :
    PE X (.Call (.Attribute o m apos) (e :: es) [] pos) (tMeth C m sp [] E ta t) := by
  obtain ⟨f, fd, F, hm, hb⟩ := M.ex
  exact pe_meth he c hm F hr hb .nil hx ha hst hpl ht
theorem pe_met0 {pl : Sem Bool} (M : Met0 X.prog X.w X.K X.mg X.base CX k C m ps sp) (c : Cls X.K C) (hr : Room k X.A) (hx : Passes CX X E) (he : PE X o ta)
    (ht : eval (.Call (.Attribute o m apos) [] [] pos) X.env = (do
      let ov ← eval o X.env
      standAt apos.atName
      let (f, first) ← holding [ov] (getMethod ov m pl)
      callWith pos f first (PySem.backTo pos (starEach [] X.env)) (backToKw pos (keywordEach [] X.env))) := by rfl) :
    PE X (.Call (.Attribute o m apos) [] [] pos) (tMeth C m sp [] E ta tNil) := by
  obtain ⟨f, fd, F, hm, hb⟩ := M.ex
  exact pe_meth0 he c hm F hr hb .nil hx ht
end
abbrev passN {X : Cx} {E : XK} (hs : X.stack = X.env :: X.outer) (hf : X.env.frame = some X.env.locals) (hex : X.ex = []) {E₁ : Value → Shared → Prop}
    (hx : X.xe = fun e s' => wpAny (model X.prog X.w) X.A (leaving X.env e) (fun _ s'' => L2N.CX X.prog X.w X.outer X.H_0 X.s_0 E e s'') E₁ s') : Passes (L2N.CX X.prog X.w) X E :=
  L2N.passes_call (L2N.takes_of hs hf hex hx) fun _ _ _ _ h => h
abbrev spAccInit (C CL : Addr) : Sp := fun vs H Q E => ∃ (a dx : Addr) (v : V), vs = [.ref a, v] ∧ H a = some (.ins C dx []) ∧ flat4 v = true ∧
  (∀ span, v = .int span → isFrom v 1 1000 = true → ∀ (H' : Hp) (ps : Addr), Kp [a] H H' → H ps = none → AccAt C H' a ps span ([], 0) [] → Q .non H') ∧ (isFrom v 1 1000 = false → E (.ref CL) none H)
abbrev spNeedTime (C CT : Addr) : Sp := fun vs H Q E => ∃ (a dx lg ps : Addr) (span now : Int) (v : V), vs = [.ref a, v] ∧ H a = some (.ins C dx (flds span lg now ps)) ∧ flat4 v = true ∧ (isFrom v now 10000 = true → Q .non H) ∧ (isFrom v now 10000 = false → E (.ref CT) none H)
abbrev spChange (C : Addr) : Sp := fun vs H Q _ => ∃ (a ps ev : Addr) (span t : Int) (st : List Ev × Int) (past : List (List Ev × Int)) (evs2 : List Ev), vs = [.ref a, .int t, .ref ev] ∧ AccAt C H a ps span st past ∧ LogAt H ev evs2 ∧ st.1.length + evs2.length ≤ 1000 ∧ past.length ≤ 900 ∧
  ∀ H', Kp [a, ps] H H' → AccAt C H' a ps span (st.1 ++ evs2, t) (past ++ [st]) → Q .non H'
theorem isFrom_int {v : V} {lo hi : Int} (h : isFrom v lo hi = true) : ∃ n, v = .int n ∧ lo ≤ n ∧ n ≤ hi := by
  cases v with
  | int n =>
    have : (decide (lo ≤ n) && decide (n ≤ hi)) = true := h
    simp at this
    exact ⟨n, rfl, this⟩
  | _ => cases h
section
variable {P : Program} {w : World} {K : PySem.W.Frag} {mg : Str → Option Value} {base : Heap}
theorem cat_log {H : Hp} {a b : Addr} {e1 e2 : List Ev} {Q : VK} (h1 : LogAt H a e1) (h2 : LogAt H b e2) (hl : e1.length + e2.length ≤ 1000) (q : ∀ r H', Kp [] H H' → LogAt H' r (e1 ++ e2) → Q (.ref r) H') : rCatA K (.ref a) (.ref b) H Q := by
  obtain ⟨xs, ha, hx⟩ := id h1
  obtain ⟨ys, hb, hy⟩ := id h2
  refine ⟨a, b, xs, ys, rfl, rfl, SqT.of ha, SqT.of hb, by rw [hx.len, hy.len]; exact Nat.le_of_lt (small1000 hl), fun e => ?_, fun _ e => ?_, fun _ _ p hp => ?_⟩
  · subst e
    have : e1 = [] := List.eq_nil_of_length_eq_zero hx.len.symm
    subst this
    exact q b H .refl h2
  · subst e
    have : e2 = [] := List.eq_nil_of_length_eq_zero hy.len.symm
    subst this
    rw [List.append_nil] at q
    exact q a H .refl h1
  · have k : Kp [] H (upd H p (.tup (xs ++ ys))) := Kp.new hp
    exact q p _ k ⟨_, upd_same, (hx.kp k ev_tup).app (hy.kp k ev_tup)⟩
abbrev sAInit : Stmt := sAcc 1
abbrev sChange : Stmt := sAcc 5
abbrev sNeedTime : Stmt := sAcc 6
theorem scAInit : FnScope ["self", "life"] ["self", "life"] (defScope sAInit) := ⟨rfl, rfl, rfl, by decide +kernel, rfl, by decide +kernel, by decide +kernel⟩
theorem scChange : FnScope ["self", "time", "events"] ["self", "time", "events"] (defScope sChange) := ⟨rfl, rfl, rfl, by decide +kernel, rfl, by decide +kernel, by decide +kernel⟩
theorem scNeedTime : FnScope ["self", "time"] ["self", "time"] (defScope sNeedTime) := ⟨rfl, rfl, rfl, by decide +kernel, rfl, by decide +kernel, by decide +kernel⟩
theorem ok_accInit {f C CL : Addr} {fd : FuncData} (F : Fun K "__init__" "Account.__init__" sAInit f fd) (T : AccT K C) (hL : Cal0 P w K mg base (L2N.CX P w) 2 "need_life" ["life"] (spNeedLife CL)) :
    FnOk P w K mg base (L2N.CX P w) 3 f fd ["self", "life"] (spAccInit C CL) := by
  refine okN F scAInit (fun vs H Q E h => ?_) (fun cdv A outer s H vs Q E hr h => ?_)
  · obtain ⟨a, dx, v, rfl, _⟩ := h
    rfl
  · obtain ⟨a, dx, v, rfl, ha, hv, k1, k2⟩ := h
    refine ⟨_, pss_cons (ps_expr (pe_cal hL hr rfl (passN rfl rfl rfl rfl) (pa_cons (pv 1) pa_nil)))
      (pss_cons (ps_fld (pv 0) (pv 1) rfl) (pss_cons (ps_fld (pv 0) (pe_tup pa_nil) rfl) (pss_cons (ps_fld (pv 0) pe_int rfl) (pss_one (ps_fld (pv 0) (pe_lst pa_nil) rfl))))), ?_⟩
    refine ⟨_, rfl, v, rfl, hv, fun hf => ?_, fun hf => k2 hf⟩
    obtain ⟨span, rfl, hs1, hs2⟩ := isFrom_int hf
    refine ⟨_, rfl, _, rfl, a, C, dx, [], rfl, ha, T.cl, T.nS, (by show 0 < 1000; decide), ?_⟩
    have k3 : Kp [a] H (upd H a (.ins C dx (putF "span" (.int span) []))) := Kp.set ha (by simp) ins_tup
    have ha3 : upd H a (.ins C dx (putF "span" (.int span) [])) a = some (.ins C dx (putF "span" (.int span) [])) := upd_same
    generalize upd H a (.ins C dx (putF "span" (.int span) [])) = H3 at k3 ha3
    refine ⟨Nat.zero_le _, fun lg hlg => ?_⟩
    have k4 : Kp [a] H3 (upd H3 lg (.tup [])) := Kp.new hlg
    have ha4 : upd H3 lg (.tup []) a = some (.ins C dx (putF "span" (.int span) [])) := by rw [upd_ne (ne_of_none ha3 hlg)]; exact ha3
    have hlg4 : upd H3 lg (.tup []) lg = some (.tup []) := upd_same
    generalize upd H3 lg (.tup []) = H4 at k4 ha4 hlg4
    refine ⟨_, rfl, a, C, dx, _, rfl, ha4, T.cl, T.nL, (by show 1 < 1000; decide), ?_⟩
    have k5 : Kp [a] H4 (upd H4 a (.ins C dx (putF "log" (.ref lg) (putF "span" (.int span) [])))) := Kp.set ha4 (by simp) ins_tup
    have ha5 : upd H4 a (.ins C dx (putF "log" (.ref lg) (putF "span" (.int span) []))) a = some (.ins C dx (putF "log" (.ref lg) (putF "span" (.int span) []))) := upd_same
    have hlg5 := k5.tup lg _ hlg4
    generalize upd H4 a (.ins C dx (putF "log" (.ref lg) (putF "span" (.int span) []))) = H5 at k5 ha5 hlg5
    refine ⟨_, rfl, a, C, dx, _, rfl, ha5, T.cl, T.nN, (by show 2 < 1000; decide), ?_⟩
    have k6 : Kp [a] H5 (upd H5 a (.ins C dx (putF "now" (.int 0) (putF "log" (.ref lg) (putF "span" (.int span) []))))) := Kp.set ha5 (by simp) ins_tup
    have ha6 : upd H5 a (.ins C dx (putF "now" (.int 0) (putF "log" (.ref lg) (putF "span" (.int span) [])))) a = some (.ins C dx (putF "now" (.int 0) (putF "log" (.ref lg) (putF "span" (.int span) [])))) := upd_same
    have hlg6 := k6.tup lg _ hlg5
    generalize upd H5 a (.ins C dx (putF "now" (.int 0) (putF "log" (.ref lg) (putF "span" (.int span) [])))) = H6 at k6 ha6 hlg6
    refine ⟨Nat.zero_le _, fun ps hps => ?_⟩
    have k7 : Kp [a] H6 (upd H6 ps (.lst [])) := Kp.new hps
    have nps := ne_of_none ha6 hps
    refine ⟨_, rfl, a, C, dx, _, rfl, (by rw [upd_ne nps]; exact ha6), T.cl, T.nP, (by show 3 < 1000; decide), ?_⟩
    have k8 : Kp [a] (upd H6 ps (.lst [])) (upd (upd H6 ps (.lst [])) a (.ins C dx (putF "past" (.ref ps) (putF "now" (.int 0) (putF "log" (.ref lg) (putF "span" (.int span) [])))))) := Kp.set (by rw [upd_ne nps]; exact ha6) (by simp) ins_tup
    have k36 := ((k3.trans k4).trans k5).trans k6
    refine k1 span rfl hf _ ps (k36.trans (k7.trans k8)) (k36.free (by simp [Ne.symm nps]) hps) ⟨dx, lg, [], ?_, ⟨[], (k7.trans k8).tup lg _ hlg6, .nil⟩, by rw [upd_ne (Ne.symm nps), upd_same], .nil⟩
    rw [fl_new]
    exact upd_same
theorem ok_needTime {f C CT : Addr} {fd : FuncData} {t : Tok} (F : Fun K "need_time" "Account.need_time" sNeedTime f fd) (T : AccT K C) (hI : Cal0 P w K mg base CX0 1 "is_from" ["value", "low", "high"] spIsFrom) (hL : mg "LAST_TIME" = some (.int 10000 t)) (TT : ExcT K mg "InvalidTime" CT) :
    FnOk P w K mg base (L2N.CX P w) 2 f fd ["self", "time"] (spNeedTime C CT) := by
  refine okN F scNeedTime (fun vs H Q E h => ?_) (fun cdv A outer s H vs Q E hr h => ?_)
  · obtain ⟨a, dx, lg, ps, span, now, v, rfl, _⟩ := h
    rfl
  · obtain ⟨a, dx, lg, ps, span, now, v, rfl, ha, hv, k1, k2⟩ := h
    refine ⟨_, pss_one (ps_if (pt_not (pt_truth (pe_cal hI hr rfl pass0 (pa_cons (pv 1) (pa_cons (pe_fld (pv 0) rfl) (pa_cons (pe_glob (v := .int 10000) rfl hL ⟨_, rfl⟩) pa_nil)))) (fun _ => rfl)))
      (pss_one (ps_raiseN rfl (L2N.takes_of rfl rfl rfl rfl) TT rfl)) pss_nil), ?_⟩
    refine ⟨_, rfl, _, rfl, a, C, dx, _, _, rfl, ha, T.cl, T.nN, fl_now, v, now, 10000, rfl, hv, _, rfl, ?_⟩
    cases e : isFrom v now 10000 with
    | true => exact iteF (k1 e)
    | false => exact iteT (k2 e)
theorem ok_change {f C : Addr} {fd : FuncData} (F : Fun K "change" "Account.change" sChange f fd) (T : AccT K C) : FnOk P w K mg base CX0 1 f fd ["self", "time", "events"] (spChange C) := by
  refine F.ok scChange (fun vs H Q E h => ?_) (fun cdv A outer s H vs Q E hr h => ?_)
  · obtain ⟨a, ps, ev, span, t, st, past, evs2, rfl, _⟩ := h
    rfl
  · obtain ⟨a, ps, ev, span, t, ⟨evs, now⟩, past, evs2, rfl, hA, hev, hl, hp, k⟩ := h
    have nap := hA.ne
    obtain ⟨dx, lg, xs, ha, hlg, hps, hst⟩ := hA
    refine ⟨_, pss_cons (ps_expr (pe_bm PySem.F.plainAttrs_list PySem.F.slot_list_append PySem.F.type_list_append mt_append (pe_fld (pv 0) rfl) (pa_cons (pe_tup (pa_cons (pe_fld (pv 0) rfl) (pa_cons (pe_fld (pv 0) rfl) pa_nil))) pa_nil)))
      (pss_cons (ps_fld (pv 0) (pe_op op_catA (pe_fld (pv 0) rfl) (pv 2)) rfl) (pss_one (ps_fld (pv 0) (pv 1) rfl))), ?_⟩
    refine ⟨_, rfl, a, C, dx, _, _, rfl, ha, T.cl, T.nP, fl_past, .inl ⟨rfl, _, SqL.of hps⟩, _, rfl, a, C, dx, _, _, rfl, ha, T.cl, T.nL, fl_log, _, rfl, a, C, dx, _, _, rfl, ha, T.cl, T.nN, fl_now, (by show 2 ≤ sizeLine; decide), fun u hu => ?_⟩
    have k1 : Kp [a, ps] H (upd H u (.tup [.ref lg, .int now])) := Kp.new hu
    have ha1 : upd H u (.tup [.ref lg, .int now]) a = some (.ins C dx (flds span lg now ps)) := by rw [upd_ne (ne_of_none ha hu)]; exact ha
    have hps1 : upd H u (.tup [.ref lg, .int now]) ps = some (.lst xs) := by rw [upd_ne (ne_of_none hps hu)]; exact hps
    have hu1 : upd H u (.tup [.ref lg, .int now]) u = some (.tup [.ref lg, .int now]) := upd_same
    generalize upd H u (.tup [.ref lg, .int now]) = H1 at k1 ha1 hps1 hu1
    have hz : xs.length = past.length := Paired.length hst
    refine ⟨ps, xs, .ref u, rfl, rfl, hps1, small1000 (by omega), ?_⟩
    have k2 : Kp [a, ps] H1 (upd H1 ps (.lst (xs ++ [.ref u]))) := Kp.set hps1 (by simp) lst_tup
    have ha2 : upd H1 ps (.lst (xs ++ [.ref u])) a = some (.ins C dx (flds span lg now ps)) := by rw [upd_ne nap]; exact ha1
    have hps2 : upd H1 ps (.lst (xs ++ [.ref u])) ps = some (.lst (xs ++ [.ref u])) := upd_same
    have kk2 := k1.trans k2
    have hu2 := k2.tup u _ hu1
    generalize upd H1 ps (.lst (xs ++ [.ref u])) = H2 at k2 ha2 hps2 hu2 kk2
    refine ⟨_, rfl, a, C, dx, _, _, rfl, ha2, T.cl, T.nL, fl_log, _, rfl, cat_log (hlg.kp kk2) (hev.kp kk2) hl fun r H3 k3 hr3 => ?_⟩
    have ha3 := k3.all a _ (by simp) ha2
    have hps3 := k3.all ps _ (by simp) hps2
    have kk3 := kk2.trans (k3.mono (S' := [a, ps]) (by simp))
    have hu3 := k3.tup u _ hu2
    refine ⟨_, rfl, a, C, dx, _, rfl, ha3, T.cl, T.nL, fl_len, ?_⟩
    rw [fl_plog]
    have k4 : Kp [a, ps] H3 (upd H3 a (.ins C dx (flds span r now ps))) := Kp.set ha3 (by simp) ins_tup
    have ha4 : upd H3 a (.ins C dx (flds span r now ps)) a = some (.ins C dx (flds span r now ps)) := upd_same
    have hps4 : upd H3 a (.ins C dx (flds span r now ps)) ps = some (.lst (xs ++ [.ref u])) := by rw [upd_ne (Ne.symm nap)]; exact hps3
    have kk4 := kk3.trans k4
    have hu4 := k4.tup u _ hu3
    have hr4 := hr3.kp k4
    generalize upd H3 a (.ins C dx (flds span r now ps)) = H4 at k4 ha4 hps4 kk4 hu4 hr4
    refine ⟨_, rfl, _, rfl, a, C, dx, _, rfl, ha4, T.cl, T.nN, fl_len, ?_⟩
    rw [fl_pnow]
    have k5 : Kp [a, ps] H4 (upd H4 a (.ins C dx (flds span r t ps))) := Kp.set ha4 (by simp) ins_tup
    have kk5 := kk4.trans k5
    exact k _ kk5 ⟨dx, r, xs ++ [.ref u], upd_same, hr4.kp k5, by rw [upd_ne (Ne.symm nap)]; exact hps4, (hst.kp kk5).snoc ⟨u, lg, rfl, k5.tup u _ hu4, hlg.kp kk5⟩⟩
end
end K16
-- part K9
set_option Elab.async false
set_option linter.all false
set_option maxRecDepth 100000
set_option maxHeartbeats 4000000
/-! TooMany.__init__; the short methods; ==; undo -/
namespace K16
open PySem L2 K16M
/-! ### data -/
def dEv (e : Ev) : PyData := .tuple [.str (if e.k = true then "earn" else "spend"), .int e.t, .int e.n]
def dLog (l : List Ev) : PyData := .tuple (l.map dEv)
def dSt (st : List Ev × Int) : PyData := .tuple [dLog st.1, .int st.2]
theorem sh_kind (b : Bool) : Sh 1 (.str (if b = true then "earn" else "spend")) := by
  cases b
  · exact ⟨by decide +kernel, by rw [PyData.depth]; omega⟩
  · exact ⟨by decide +kernel, by rw [PyData.depth]; omega⟩
theorem sh_dEv (e : Ev) : Sh 2 (dEv e) := sh_tup fun d hd => by
  have : d = .str (if e.k = true then "earn" else "spend") ∨ d = .int e.t ∨ d = .int e.n := by simpa using hd
  rcases this with z | z | z
  · rw [z]; exact sh_kind _
  · rw [z]; exact sh_int _
  · rw [z]; exact sh_int _
theorem sh_dLog (l : List Ev) : Sh 3 (dLog l) := sh_tup fun d hd => by
  obtain ⟨q, _, rfl⟩ := List.mem_map.mp hd
  exact sh_dEv q
theorem sh_dSt (st : List Ev × Int) : Sh 4 (dSt st) := sh_tup fun d hd => by
  have : d = dLog st.1 ∨ d = .int st.2 := by simpa using hd
  rcases this with z | z
  · rw [z]; exact sh_dLog _
  · rw [z]; exact (sh_int _).mono (by decide)
section
variable {K : PySem.W.Frag} {H : Hp}
theorem dp_evs {xs : List V} {l : List Ev} (h : RefsTo H evO xs l) : DpAll K H xs (l.map dEv) := by
  have h' : Paired (fun (x : V) (p : Ev) => ∃ r, x = .ref r ∧ H r = some (evO p)) xs l := h
  induction h' with
  | nil => exact .nil
  | cons a t ih =>
    obtain ⟨r, rfl, e⟩ := a
    exact .cons (.tup (SqT.of e) (.cons (.str _) (.cons (.int _) (.cons (.int _) .nil)))) (ih t)
theorem dp_log {a : Addr} {l : List Ev} (h : LogAt H a l) : Dp K H (.ref a) (dLog l) := by
  obtain ⟨xs, e, hx⟩ := h
  exact .tup (SqT.of e) (dp_evs hx)
theorem dp_st {x : V} {st : List Ev × Int} (h : StAt H x st) : Dp K H x (dSt st) := by
  obtain ⟨t, lg, rfl, e, hl⟩ := h
  exact .tup (SqT.of e) (.cons (dp_log hl) (.cons (.int _) .nil))
theorem dp_sts {xs : List V} {l : List (List Ev × Int)} (h : StsAt H xs l) : DpAll K H xs (l.map dSt) := by
  have h' : Paired (StAt H) xs l := h
  induction h' with
  | nil => exact .nil
  | cons a t ih => exact .cons (dp_st a) (ih t)
end
theorem eqv_dEv (a b : Ev) : PyData.eqv (dEv a) (dEv b) = true ↔ a = b := by
  obtain ⟨k, t, n⟩ := a
  obtain ⟨k', t', n'⟩ := b
  have h1 : (("earn" : Str) == "spend") = false := by decide +kernel
  have h2 : (("spend" : Str) == "earn") = false := by decide +kernel
  have h3 : (("earn" : Str) == "earn") = true := by decide +kernel
  have h4 : (("spend" : Str) == "spend") = true := by decide +kernel
  cases k <;> cases k' <;> simp [dEv, PyData.eqv, PyData.eqvAll, h1, h2, h3, h4]
theorem eqv_evs : ∀ a b : List Ev, PyData.eqvAll (a.map dEv) (b.map dEv) = true ↔ a = b
  | [], [] => by simp [PyData.eqvAll]
  | [], _ :: _ => by simp [PyData.eqvAll]
  | _ :: _, [] => by simp [PyData.eqvAll]
  | x :: r, y :: s => by
    have ih := eqv_evs r s
    have hx := eqv_dEv x y
    simp only [List.map_cons, PyData.eqvAll, Bool.and_eq_true, List.cons.injEq]
    rw [hx, ih]
theorem eqv_dLog (a b : List Ev) : PyData.eqv (dLog a) (dLog b) = true ↔ a = b := by
  unfold dLog
  rw [PyData.eqv]
  exact eqv_evs a b
theorem eqv_dSt (a b : List Ev × Int) : PyData.eqv (dSt a) (dSt b) = true ↔ a = b := by
  obtain ⟨l, n⟩ := a
  obtain ⟨l', n'⟩ := b
  have h := eqv_dLog l l'
  simp only [dSt, PyData.eqv, PyData.eqvAll, Bool.and_eq_true, beq_iff_eq, Bool.and_true, Prod.mk.injEq]
  rw [h]
/-! ### promises -/
abbrev spTMInit (C : Addr) : Sp := fun vs H Q _ => ∃ (a : Addr) (v : V), vs = [.ref a, v] ∧ H a = some (exo a C none) ∧ ∀ d, H d = none → d ≠ a → Q .non (upd (upd H d (exd d [("limit", v)])) a (exo a C (some d)))
abbrev spALen (C : Addr) : Sp := fun vs H Q _ => ∃ (a ps : Addr) (span : Int) (st : List Ev × Int) (past : List (List Ev × Int)), vs = [.ref a] ∧ AccAt C H a ps span st past ∧ Q (.int (st.1.length : Nat)) H
abbrev spEvents (C : Addr) : Sp := fun vs H Q _ => ∃ (a ps : Addr) (span : Int) (st : List Ev × Int) (past : List (List Ev × Int)), vs = [.ref a] ∧ AccAt C H a ps span st past ∧ ∀ lg, LogAt H lg st.1 → Q (.ref lg) H
abbrev spANum (C : Addr) (n : Int → Int → List Ev → Int) : Sp := fun vs H Q _ => ∃ (a ps : Addr) (span : Int) (st : List Ev × Int) (past : List (List Ev × Int)), vs = [.ref a] ∧ AccAt C H a ps span st past ∧ Good span st.2 st.1 ∧ st.1.length ≤ 100 ∧ ∀ H', Kp [] H H' → Q (.int (n span st.2 st.1)) H'
abbrev spAEq (C : Addr) : Sp := fun vs H Q _ => ∃ (a b ps : Addr) (span : Int) (st : List Ev × Int) (past : List (List Ev × Int)), vs = [.ref a, .ref b] ∧ AccAt C H a ps span st past ∧
  ((∃ (ps' : Addr) (span' : Int) (st' : List Ev × Int) (past' : List (List Ev × Int)), AccAt C H b ps' span' st' past' ∧ ∀ (H' : Hp) (k : Bool), Kp [] H H' → (k = true ↔ (span = span' ∧ st = st')) → Q (.bl k) H') ∨
    ((∃ zs, H b = some (.tup zs)) ∧ Q (.bl false) H))
abbrev spUndo (C CU : Addr) : Sp := fun vs H Q E => ∃ (a ps : Addr) (span : Int) (st : List Ev × Int) (past : List (List Ev × Int)), vs = [.ref a] ∧ AccAt C H a ps span st past ∧
  (past = [] → ∀ H', Kp [] H H' → E (.ref CU) none H') ∧ (∀ pst st', past = pst ++ [st'] → ∀ H', Kp [a, ps] H H' → AccAt C H' a ps span st' pst → Q .non H')
/-- isinstance(.., Account) -/
structure AccI (K : PySem.W.Frag) (C : Addr) : Prop where
  ha : PySem.W.findIn K (.ref C) "__class__" = some (some (.builtin "object.__class__"))
  hn : PySem.W.specialIn K (.builtin "object.__class__") "__get__" = some (some (.builtin "getset_descriptor.__get__"))
  htk : PySem.W.takesIn K (.builtin "object.__class__") = some true
  hm : PySem.W.mroIn K C (.type "object") = some true
  yes : PySem.W.kitOne K (.ref C) (.ref C) = some true
  no : PySem.W.kitOne K (.type "tuple") (.ref C) = some false
section
variable {P : Program} {w : World} {K : PySem.W.Frag} {mg : Str → Option Value} {base : Heap}
abbrev sTMInit : Stmt := inClass (top 13) 0
abbrev sALen : Stmt := sAcc 3
abbrev sAEq : Stmt := sAcc 4
abbrev sUndo : Stmt := sAcc 10
abbrev sLife : Stmt := sAcc 11
abbrev sTime : Stmt := sAcc 12
abbrev sBalance : Stmt := sAcc 13
abbrev sLapsed : Stmt := sAcc 14
abbrev sEvents : Stmt := sAcc 15
theorem scTM : FnScope ["self", "limit"] ["self", "limit"] (defScope sTMInit) := ⟨rfl, rfl, rfl, by decide +kernel, rfl, by decide +kernel, by decide +kernel⟩
theorem ok_tmInit {f C Pc : Addr} {mc : Value} {fd : FuncData} (F : Fun K "__init__" "TooMany.__init__" sTMInit f fd) (gP : mg "PointError" = some (.ref Pc)) (rd : ClX.CRead K Pc mc) (vV : PySem.W.findCls K (.ref Pc) mc "__init__" = some (.val (.builtin "ValueError.__init__"))) (T : OexC K C) (nl : PySem.W.findIn K (.ref C) "limit" = some none) :
    FnOk P w K mg base CX0 1 f fd ["self", "limit"] (spTMInit C) := by
  refine F.ok scTM (fun vs H Q E h => ?_) (fun cdv A outer s H vs Q E hr h => ?_)
  · obtain ⟨a, v, rfl, _⟩ := h
    rfl
  · obtain ⟨a, v, rfl, ha, k⟩ := h
    refine ⟨_, pss_cons (ps_expr (pe_cinit rfl gP rd vV (pa_cons (pv 0) (pa_cons pe_str pa_nil)))) (pss_one (ps_ost (pv 0) (pv 1))), ?_⟩
    exact ⟨_, rfl, a, C, _, rfl, by show 1 ≤ 1000; decide, T, ha, _, rfl, _, rfl, a, C, rfl, T, nl, .inl ⟨ha, fun d hd hne => k d hd hne⟩⟩
theorem scSelf (st : Stmt) (h : (defScope st).names = [(Str.ofString "self", NameKind.local)] ∨ True) : True := trivial
theorem scALen : FnScope ["self"] ["self"] (defScope sALen) := ⟨rfl, rfl, rfl, by decide +kernel, rfl, by decide +kernel, by decide +kernel⟩
theorem scEvents : FnScope ["self"] ["self"] (defScope sEvents) := ⟨rfl, rfl, rfl, by decide +kernel, rfl, by decide +kernel, by decide +kernel⟩
theorem scBalance : FnScope ["self"] ["self"] (defScope sBalance) := ⟨rfl, rfl, rfl, by decide +kernel, rfl, by decide +kernel, by decide +kernel⟩
theorem scLapsed : FnScope ["self"] ["self"] (defScope sLapsed) := ⟨rfl, rfl, rfl, by decide +kernel, rfl, by decide +kernel, by decide +kernel⟩
theorem scUndo : FnScope ["self"] ["self"] (defScope sUndo) := ⟨rfl, rfl, rfl, by decide +kernel, rfl, by decide +kernel, by decide +kernel⟩
theorem scAEq : FnScope ["self", "other"] ["self", "other"] (defScope sAEq) := ⟨rfl, rfl, rfl, by decide +kernel, rfl, by decide +kernel, by decide +kernel⟩
theorem ok_aLen {f C : Addr} {fd : FuncData} (F : Fun K "__len__" "Account.__len__" sALen f fd) (T : AccT K C) (hl : mg "len" = none) : FnOk P w K mg base CX0 1 f fd ["self"] (spALen C) := by
  refine F.ok scALen (fun vs H Q E h => ?_) (fun cdv A outer s H vs Q E hr h => ?_)
  · obtain ⟨a, ps, span, st, past, rfl, _⟩ := h
    rfl
  · obtain ⟨a, ps, span, st, past, rfl, ⟨dx, lg, xs, ha, ⟨es, he, hes⟩, hps, hst⟩, k⟩ := h
    refine ⟨_, pss_one (ps_ret (pe_callB call_len_seq (by rfl) hl PySem.boot_len (pa_cons (pe_fld (pv 0) rfl) pa_nil))), ?_⟩
    refine ⟨_, rfl, a, C, dx, _, _, rfl, ha, T.cl, T.nL, fl_log, lg, es, rfl, .inr (SqT.of he), ?_⟩
    rw [hes.len]
    exact k
theorem ok_events {f C : Addr} {fd : FuncData} (F : Fun K "events" "Account.events" sEvents f fd) (T : AccT K C) : FnOk P w K mg base CX0 1 f fd ["self"] (spEvents C) := by
  refine F.ok scEvents (fun vs H Q E h => ?_) (fun cdv A outer s H vs Q E hr h => ?_)
  · obtain ⟨a, ps, span, st, past, rfl, _⟩ := h
    rfl
  · obtain ⟨a, ps, span, st, past, rfl, ⟨dx, lg, xs, ha, hlg, hps, hst⟩, k⟩ := h
    refine ⟨_, pss_one (ps_ret (pe_fld (pv 0) rfl)), ?_⟩
    exact ⟨_, rfl, a, C, dx, _, _, rfl, ha, T.cl, T.nL, fl_log, k lg hlg⟩
theorem ok_balance {f C : Addr} {fd : FuncData} (F : Fun K "balance" "Account.balance" sBalance f fd) (T : AccT K C) (hB : Cal0 P w K mg base CX0 3 "balance_of" ["log", "life", "time"] (spLogNum balL)) : FnOk P w K mg base CX0 4 f fd ["self"] (spANum C balL) := by
  refine F.ok scBalance (fun vs H Q E h => ?_) (fun cdv A outer s H vs Q E hr h => ?_)
  · obtain ⟨a, ps, span, st, past, rfl, _⟩ := h
    rfl
  · obtain ⟨a, ps, span, st, past, rfl, ⟨dx, lg, xs, ha, hlg, hps, hst⟩, hg, hl, k⟩ := h
    refine ⟨_, pss_one (ps_ret (pe_cal hB hr rfl pass0 (pa_cons (pe_fld (pv 0) rfl) (pa_cons (pe_fld (pv 0) rfl) (pa_cons (pe_fld (pv 0) rfl) pa_nil))))), ?_⟩
    exact ⟨_, rfl, a, C, dx, _, _, rfl, ha, T.cl, T.nL, fl_log, _, rfl, a, C, dx, _, _, rfl, ha, T.cl, T.nS, fl_span, _, rfl, a, C, dx, _, _, rfl, ha, T.cl, T.nN, fl_now, lg, span, st.2, st.1, rfl, hlg, hg, hl, k⟩
theorem ok_lapsed {f C : Addr} {fd : FuncData} (F : Fun K "lapsed" "Account.lapsed" sLapsed f fd) (T : AccT K C) (hB : Cal0 P w K mg base CX0 3 "lapsed_by" ["log", "life", "time"] (spLogNum gonL)) : FnOk P w K mg base CX0 4 f fd ["self"] (spANum C gonL) := by
  refine F.ok scLapsed (fun vs H Q E h => ?_) (fun cdv A outer s H vs Q E hr h => ?_)
  · obtain ⟨a, ps, span, st, past, rfl, _⟩ := h
    rfl
  · obtain ⟨a, ps, span, st, past, rfl, ⟨dx, lg, xs, ha, hlg, hps, hst⟩, hg, hl, k⟩ := h
    refine ⟨_, pss_one (ps_ret (pe_cal hB hr rfl pass0 (pa_cons (pe_fld (pv 0) rfl) (pa_cons (pe_fld (pv 0) rfl) (pa_cons (pe_fld (pv 0) rfl) pa_nil))))), ?_⟩
    exact ⟨_, rfl, a, C, dx, _, _, rfl, ha, T.cl, T.nL, fl_log, _, rfl, a, C, dx, _, _, rfl, ha, T.cl, T.nS, fl_span, _, rfl, a, C, dx, _, _, rfl, ha, T.cl, T.nN, fl_now, lg, span, st.2, st.1, rfl, hlg, hg, hl, k⟩
theorem ok_aEq {f C : Addr} {fd : FuncData} (F : Fun K "__eq__" "Account.__eq__" sAEq f fd) (T : AccT K C) (TI : AccI K C) (hi : mg "isinstance" = none) (gC : mg "Account" = some (.ref C)) : FnOk P w K mg base CX0 1 f fd ["self", "other"] (spAEq C) := by
  refine F.ok scAEq (fun vs H Q E h => ?_) (fun cdv A outer s H vs Q E hr h => ?_)
  · obtain ⟨a, b, ps, span, st, past, rfl, _⟩ := h
    rfl
  · obtain ⟨a, b, ps, span, ⟨evs, now⟩, past, rfl, ⟨dx, lg, xs, ha, hlg, hps, hst⟩, k⟩ := h
    refine ⟨_, pss_one (ps_ret (pe_and (pe_callB call_isi (by rfl) hi (by decide +kernel) (pa_cons (pv 1) (pa_cons (pe_glob (v := .ref C) rfl gC rfl) pa_nil)))
      (pe_one (pe_cmpR (op_eqD hr.units) (pe_tup (pa_cons (pe_fld (pv 0) rfl) (pa_cons (pe_fld (pv 0) rfl) (pa_cons (pe_fld (pv 0) rfl) pa_nil)))) (pe_tup (pa_cons (pe_fld (pv 1) rfl) (pa_cons (pe_fld (pv 1) rfl) (pa_cons (pe_fld (pv 1) rfl) pa_nil)))) (nomark _))))), ?_⟩
    rcases k with ⟨ps', span', ⟨evs', now'⟩, past', ⟨dx', lg', xs', hb, hlg', hps', hst'⟩, k⟩ | ⟨⟨zs, hb⟩, k⟩
    · refine ⟨_, rfl, .ref b, .ref C, _, _, true, rfl, .own C, .base (.ins hb T.cl TI.ha TI.hn TI.htk TI.hm), TI.yes, _, rfl, ?_⟩
      refine iteT ⟨_, rfl, a, C, dx, _, _, rfl, ha, T.cl, T.nS, fl_span, _, rfl, a, C, dx, _, _, rfl, ha, T.cl, T.nL, fl_log, _, rfl, a, C, dx, _, _, rfl, ha, T.cl, T.nN, fl_now, (by show 3 ≤ sizeLine; decide), fun u hu => ?_⟩
      have k1 : Kp [] H (upd H u (.tup [.int span, .ref lg, .int now])) := Kp.new hu
      have hb1 := k1.all b _ (by simp) hb
      have hu1 : upd H u (.tup [.int span, .ref lg, .int now]) u = some (.tup [.int span, .ref lg, .int now]) := upd_same
      generalize upd H u (.tup [.int span, .ref lg, .int now]) = H1 at k1 hb1 hu1
      refine ⟨_, rfl, b, C, dx', _, _, rfl, hb1, T.cl, T.nS, fl_span, _, rfl, b, C, dx', _, _, rfl, hb1, T.cl, T.nL, fl_log, _, rfl, b, C, dx', _, _, rfl, hb1, T.cl, T.nN, fl_now, (by show 3 ≤ sizeLine; decide), fun v hv => ?_⟩
      have k2 : Kp [] H1 (upd H1 v (.tup [.int span', .ref lg', .int now'])) := Kp.new hv
      have kk := k1.trans k2
      have d1 : Dp K (upd H1 v (.tup [.int span', .ref lg', .int now'])) (.ref u) (.tuple [.int span, dLog evs, .int now]) := .tup (SqT.of (k2.tup u _ hu1)) (.cons (.int _) (.cons (dp_log (hlg.kp kk)) (.cons (.int _) .nil)))
      have d2 : Dp K (upd H1 v (.tup [.int span', .ref lg', .int now'])) (.ref v) (.tuple [.int span', dLog evs', .int now']) := .tup (SqT.of upd_same) (.cons (.int _) (.cons (dp_log (hlg'.kp kk)) (.cons (.int _) .nil)))
      have shp : ∀ (s : Int) (l : List Ev) (n : Int), SeqAt.shaped (.tuple [.int s, dLog l, .int n]) = true := fun s l n => (sh_tup (n := 3) fun d hd => by
        have : d = .int s ∨ d = dLog l ∨ d = .int n := by simpa using hd
        rcases this with z | z | z
        · rw [z]; exact (sh_int _).mono (by decide)
        · rw [z]; exact sh_dLog _
        · rw [z]; exact (sh_int _).mono (by decide)).shaped (by decide)
      refine ⟨_, _, d1, d2, shp _ _ _, shp _ _ _, k _ _ kk ?_⟩
      have h := eqv_dLog evs evs'
      simp only [PyData.eqv, PyData.eqvAll, Bool.and_eq_true, beq_iff_eq, Bool.and_true, Prod.mk.injEq]
      rw [h]
    · refine ⟨_, rfl, .ref b, .ref C, _, _, false, rfl, .own C, .base (.tup hb), TI.no, _, rfl, iteF k⟩
theorem ok_undo {f C CU : Addr} {fd : FuncData} (F : Fun K "undo" "Account.undo" sUndo f fd) (T : AccT K C) (TU : ExcT K mg "NothingToUndo" CU) : FnOk P w K mg base (L2N.CX P w) 1 f fd ["self"] (spUndo C CU) := by
  refine okN F scUndo (fun vs H Q E h => ?_) (fun cdv A outer s H vs Q E hr h => ?_)
  · obtain ⟨a, ps, span, st, past, rfl, _⟩ := h
    rfl
  · obtain ⟨a, ps, span, ⟨evs, now⟩, past, rfl, hA, k1, k2⟩ := h
    have nap := hA.ne
    obtain ⟨dx, lg, xs, ha, hlg, hps, hst⟩ := hA
    refine ⟨_, pss_cons (ps_if (pt_cmpR (op_eqD hr.units) (pe_fld (pv 0) rfl) (pe_lst pa_nil) (nomark _)) (pss_one (ps_raiseN rfl (L2N.takes_of rfl rfl rfl rfl) TU rfl)) pss_nil)
      (pss_one (ps_asg (pe_bm0 PySem.F.plainAttrs_list PySem.F.slot_list_pop PySem.F.type_list_pop mt_pop (pe_fld (pv 0) rfl)) (pg_tup rfl (pgs_cons (pg_fld (pv 0)) (pgs_cons (pg_fld (pv 0)) pgs_nil))))), ?_⟩
    refine ⟨_, rfl, a, C, dx, _, _, rfl, ha, T.cl, T.nP, fl_past, Nat.zero_le _, fun l hl => ?_⟩
    have kl : Kp [] H (upd H l (.lst [])) := Kp.new hl
    have ha1 := kl.all a _ (by simp) ha
    have hps1 := kl.all ps _ (by simp) hps
    have hl1 : upd H l (.lst []) l = some (.lst []) := upd_same
    have hst1 := hst.kp kl
    generalize upd H l (.lst []) = H1 at kl ha1 hps1 hl1 hst1
    refine ⟨_, _, .lst (SqL.of hps1) (dp_sts hst1), .lst (SqL.of hl1) .nil, (sh_list (n := 4) fun d hd => by
      obtain ⟨q, _, rfl⟩ := List.mem_map.mp hd
      exact sh_dSt q).shaped (by decide), sh_nil, _, rfl, ?_⟩
    rcases List.eq_nil_or_concat past with rfl | ⟨pst, st', rfl⟩
    · exact iteT (k1 rfl H1 kl)
    · rw [List.concat_eq_append] at *
      have hne : PyData.eqv (.list ((pst ++ [st']).map dSt)) (.list []) = false := by
        cases pst <;> rfl
      rw [hne]
      refine iteF ?_
      have hxl : xs.length = pst.length + 1 := by rw [Paired.length hst1]; simp
      obtain ⟨x, hx, hxs⟩ := paired_g hst1 (i := pst.length) (c := st') (by simp)
      obtain ⟨t, lg', rfl, ht, hlg'⟩ := hxs
      refine ⟨_, rfl, a, C, dx, _, _, rfl, ha1, T.cl, T.nP, fl_past, .inl ⟨rfl, _, SqL.of hps1⟩, ps, xs, .ref t, rfl, rfl, hps1, by rw [hxl]; exact hx, ?_⟩
      have k3 : Kp [a, ps] H1 (upd H1 ps (.lst xs.dropLast)) := Kp.set hps1 (by simp) lst_tup
      have ha3 : upd H1 ps (.lst xs.dropLast) a = some (.ins C dx (flds span lg now ps)) := by rw [upd_ne nap]; exact ha1
      have hps3 : upd H1 ps (.lst xs.dropLast) ps = some (.lst xs.dropLast) := upd_same
      have ht3 := k3.tup t _ ht
      have hlg3 := hlg'.kp k3
      have hst3 := hst1.kp k3
      have kk3 := (kl.mono (S' := [a, ps]) (by simp)).trans k3
      generalize upd H1 ps (.lst xs.dropLast) = H3 at k3 ha3 hps3 ht3 hlg3 hst3 kk3
      refine ⟨t, _, rfl, SqT.of ht3, rfl, _, _, rfl, _, rfl, a, C, dx, _, rfl, ha3, T.cl, T.nL, fl_len, ?_⟩
      rw [fl_plog]
      have k4 : Kp [a, ps] H3 (upd H3 a (.ins C dx (flds span lg' now ps))) := Kp.set ha3 (by simp) ins_tup
      have ha4 : upd H3 a (.ins C dx (flds span lg' now ps)) a = some (.ins C dx (flds span lg' now ps)) := upd_same
      have hps4 : upd H3 a (.ins C dx (flds span lg' now ps)) ps = some (.lst xs.dropLast) := by rw [upd_ne (Ne.symm nap)]; exact hps3
      have hlg4 := hlg3.kp k4
      have hst4 := hst3.kp k4
      have kk4 := kk3.trans k4
      generalize upd H3 a (.ins C dx (flds span lg' now ps)) = H4 at k4 ha4 hps4 hlg4 hst4 kk4
      refine ⟨_, _, rfl, _, rfl, a, C, dx, _, rfl, ha4, T.cl, T.nN, fl_len, rfl, ?_⟩
      rw [fl_pnow]
      have k5 : Kp [a, ps] H4 (upd H4 a (.ins C dx (flds span lg' st'.2 ps))) := Kp.set ha4 (by simp) ins_tup
      refine k2 pst st' rfl _ (kk4.trans k5) ⟨dx, lg', xs.dropLast, upd_same, hlg4.kp k5, by rw [upd_ne (Ne.symm nap)]; exact hps4, ?_⟩
      have hd : StsAt H4 xs.dropLast pst := by
        have key : ∀ (zs : List V) (pst : List (List Ev × Int)) (st' : List Ev × Int), Paired (StAt H4) zs (pst ++ [st']) → Paired (StAt H4) zs.dropLast pst := by
          intro zs pst
          induction pst generalizing zs with
          | nil =>
            intro st' h
            cases h with
            | cons r t => cases t; exact .nil
          | cons p ps ih =>
            intro st' h
            cases h with
            | @cons z _ zr _ r t =>
              have := ih zr st' t
              cases zr with
              | nil => cases ps <;> cases t
              | cons z2 zr2 => exact .cons r this
        exact key xs pst st' hst4
      exact hd.kp k5
end
end K16
-- part K10
set_option Elab.async false
set_option linter.all false
set_option maxRecDepth 100000
set_option maxHeartbeats 4000000
/-! wait, spend, earn -/
namespace K16
open PySem L2 K16M
/-- what a deed may come to -/
inductive Res | time | amount | many | enough | ok (st : List Ev × Int)
def toI : V → Int
  | .int n => n
  | _ => 0
structure Errs where
  time : Addr
  amount : Addr
  many : Addr
  enough : Addr
def Prm (C : Addr) (er : Errs) (a ps : Addr) (span : Int) (st : List Ev × Int) (past : List (List Ev × Int)) (H : Hp) (Q : VK) (E : XK) : Res → Prop
  | .time => ∀ H', Kp [] H H' → E (.ref er.time) none H'
  | .amount => ∀ H', Kp [] H H' → E (.ref er.amount) none H'
  | .many => ∀ H' d, Kp [] H H' → H d = none → H' d = some (.xd [("limit", .int 30)]) → E (.ref er.many) (some d) H'
  | .enough => ∀ H', Kp [] H H' → E (.ref er.enough) none H'
  | .ok st' => ∀ H', Kp [a, ps] H H' → AccAt C H' a ps span st' (past ++ [st]) → Q (.int (balL span st'.2 st'.1)) H'
def waitM (st : List Ev × Int) (v : V) : Res := if isFrom v st.2 10000 = true then .ok (st.1, toI v) else .time
def spendM (span : Int) (st : List Ev × Int) (v m : V) : Res :=
  if isFrom v st.2 10000 = true then (if isFrom m 1 1000000 = true then (if st.1.length = 30 then .many else if balL span (toI v) st.1 < toI m then .enough else .ok (st.1 ++ [⟨false, toI v, toI m⟩], toI v)) else .amount) else .time
def earnM (st : List Ev × Int) (v : V) (ms : List V) : Res :=
  if isFrom v st.2 10000 = true then (if ms.all (fun m => isFrom m 1 1000000) = true then (if st.1.length + ms.length > 30 then .many else .ok (st.1 ++ ms.map (fun m => ⟨true, toI v, toI m⟩), toI v)) else .amount) else .time
abbrev spWait (C : Addr) (er : Errs) : Sp := fun vs H Q E => ∃ (a ps : Addr) (span : Int) (st : List Ev × Int) (past : List (List Ev × Int)) (v : V), vs = [.ref a, v] ∧ AccAt C H a ps span st past ∧ flat4 v = true ∧ Good span st.2 st.1 ∧ st.1.length ≤ 30 ∧ past.length ≤ 900 ∧ Prm C er a ps span st past H Q E (waitM st v)
abbrev spSpend (C : Addr) (er : Errs) : Sp := fun vs H Q E => ∃ (a ps : Addr) (span : Int) (st : List Ev × Int) (past : List (List Ev × Int)) (v m : V), vs = [.ref a, v, m] ∧ AccAt C H a ps span st past ∧ flat4 v = true ∧ flat4 m = true ∧ Good span st.2 st.1 ∧ st.1.length ≤ 30 ∧ past.length ≤ 900 ∧ Prm C er a ps span st past H Q E (spendM span st v m)
section
variable {P : Program} {w : World} {K : PySem.W.Frag} {mg : Str → Option Value} {base : Heap}
abbrev sWait : Stmt := sAcc 9
abbrev sSpend : Stmt := sAcc 8
theorem scWait : FnScope ["self", "time"] ["self", "time"] (defScope sWait) := ⟨rfl, rfl, rfl, by decide +kernel, rfl, by decide +kernel, by decide +kernel⟩
theorem scSpend : FnScope ["self", "time", "amount"] ["self", "time", "amount"] (defScope sSpend) := ⟨rfl, rfl, rfl, by decide +kernel, rfl, by decide +kernel, by decide +kernel⟩
theorem ok_wait {f C : Addr} {er : Errs} {fd : FuncData} (F : Fun K "wait" "Account.wait" sWait f fd) (T : AccT K C) (hN : Met0 P w K mg base (L2N.CX P w) 2 C "need_time" ["self", "time"] (spNeedTime C er.time))
    (hC : Met0 P w K mg base CX0 1 C "change" ["self", "time", "events"] (spChange C)) (hB : Cal0 P w K mg base CX0 3 "balance_of" ["log", "life", "time"] (spLogNum balL)) : FnOk P w K mg base (L2N.CX P w) 4 f fd ["self", "time"] (spWait C er) := by
  refine okN F scWait (fun vs H Q E h => ?_) (fun cdv A outer s H vs Q E hr h => ?_)
  · obtain ⟨a, ps, span, st, past, v, rfl, _⟩ := h
    rfl
  · obtain ⟨a, ps, span, ⟨evs, now⟩, past, v, rfl, hA, hv, hg, hl, hp, k⟩ := h
    refine ⟨_, pss_cons (ps_expr (pe_met hN T.cl (hr.mono (by decide)) (passN rfl rfl rfl rfl) (pv 0) (pa_cons (pv 1) pa_nil)))
      (pss_cons (ps_expr (pe_met hC T.cl (hr.mono (by decide)) (E := fun _ _ _ => False) pass0 (pv 0) (pa_cons (pv 1) (pa_cons (pe_tup pa_nil) pa_nil))))
      (pss_one (ps_ret (pe_cal hB hr rfl (E := fun _ _ _ => False) pass0 (pa_cons (pe_fld (pv 0) rfl) (pa_cons (pe_fld (pv 0) rfl) (pa_cons (pv 1) pa_nil))))))), ?_⟩
    obtain ⟨dx, lg, xs, ha, hlg, hps, hst⟩ := id hA
    refine ⟨_, rfl, a, dx, _, rfl, ha, rfl, _, rfl, a, dx, lg, ps, span, now, v, rfl, ha, hv, fun hf => ?_, fun hf => ?_⟩
    · obtain ⟨t, rfl, ht1, ht2⟩ := isFrom_int hf
      have em : waitM (evs, now) (.int t) = .ok (evs, t) := if_pos hf
      rw [em] at k
      refine ⟨_, rfl, a, dx, _, rfl, ha, rfl, _, rfl, Nat.zero_le _, fun u hu => ?_⟩
      have k1 : Kp [a, ps] H (upd H u (.tup [])) := Kp.new hu
      have hA1 : AccAt C (upd H u (.tup [])) a ps span (evs, now) past := hA.kp (Kp.new (S := []) hu) (by simp) (by simp)
      obtain ⟨dx1, lg1, xs1, ha1, hlg1, hps1, hst1⟩ := id hA1
      refine ⟨a, ps, u, span, t, (evs, now), past, [], rfl, hA1, ⟨[], upd_same, .nil⟩, (by show evs.length + 0 ≤ 1000; have : evs.length ≤ 30 := hl; omega), hp, fun H2 k2 hA2 => ?_⟩
      rw [List.append_nil] at hA2
      obtain ⟨dx2, lg2, xs2, ha2, hlg2, hps2, hst2⟩ := id hA2
      refine ⟨_, rfl, a, C, dx2, _, _, rfl, ha2, T.cl, T.nL, fl_log, _, rfl, a, C, dx2, _, _, rfl, ha2, T.cl, T.nS, fl_span, _, rfl, lg2, span, t, evs, rfl, hlg2, good_mono hg ht1, (by have : evs.length ≤ 30 := hl; omega), fun H3 k3 => ?_⟩
      exact k H3 ((k1.trans k2).trans (k3.mono (by simp))) (hA2.kp k3 (by simp) (by simp))
    · have em : waitM (evs, now) v = .time := if_neg (by rw [hf]; decide)
      rw [em] at k
      exact k H .refl
/-- TooMany -/
structure TMk (P : Program) (w : World) (K : PySem.W.Frag) (mg : Str → Option Value) (base : Heap) (C : Addr) : Prop where
  ex : ∃ (fI : Addr) (fd : FuncData), FnOk P w K mg base CX0 1 fI fd ["self", "limit"] (spTMInit C) ∧ OexC K C ∧ PySem.W.findIn K (.ref C) "__init__" = some (some (.ref fI)) ∧ PySem.W.typeIn K (.ref fI) = some (.type "function") ∧ Binds K fd ["self", "limit"] [] ∧ mg "TooMany" = some (.ref C)
theorem ps_raiseTM {X : Cx} {W : WX} {C : Addr} {e : Expr} {te : TE} {p pos pos' : Pos} (M : TMk X.prog X.w X.K X.mg X.base C) (hr : Room 2 X.A) (hc : X.calm = true) (tk : L2N.Takes X W) (hg : Gl X "TooMany") (he : PE X e te)
    (hs : starEach [e] X.env = (false, eval e X.env) :: starEach [] X.env := by rfl) :
    PS X (.Raise (some (.Call (.Name "TooMany" p) [e] [] pos)) none pos') (fun _ σ H => tMkO C (spTMInit C) [] (tCons te tNil) σ H fun cls d H' => W cls d σ H') := by
  obtain ⟨fI, fd, F1, T, iC, tI, hb, hm⟩ := M.ex
  exact L2N.ps_raise hc tk (pmk_oexN T iC tI F1 hr hb pass0 hg hm (pa_cons he pa_nil hs) (by decide) hs rfl)
theorem tmk_in {C : Addr} {v : V} {H1 : Hp} {Q : XK} (h : ∀ H' d, Kp [] H1 H' → H1 d = none → H' d = some (.xd [("limit", v)]) → Q (.ref C) (some d) H') :
    [v].length ≤ 1000 ∧ ∀ a, H1 a = none → spTMInit C (.ref a :: ([v] ++ [])) (upd H1 a (exo a C none))
      (fun v' H2 => v' = .non ∧ ∃ (d : Addr) (fs : List (Str × V)), H2 a = some (exo a C (some d)) ∧ H2 d = some (exd d fs) ∧ H1 d = none ∧ Q (.ref C) (some d) (upd (del H2 a) d (.xd fs))) (fun _ _ _ => False) := by
  refine ⟨(by show 1 ≤ 1000; decide), fun a ha => ⟨a, v, rfl, upd_same, fun d hd hne => ⟨rfl, d, [("limit", v)], upd_same, by rw [upd_ne hne, upd_same], ?_, ?_⟩⟩⟩
  · rw [upd_ne hne] at hd
    exact hd
  · have hd' : H1 d = none := by rw [upd_ne hne] at hd; exact hd
    refine h _ d ?_ hd' upd_same
    have key : ∀ b o, H1 b = some o → upd (del (upd (upd (upd H1 a (exo a C none)) d (exd d [("limit", v)])) a (exo a C (some d))) a) d (.xd [("limit", v)]) b = some o := fun b o e => by
      have nba : b ≠ a := ne_of_none e ha
      have nbd : b ≠ d := ne_of_none e hd'
      rw [upd_ne nbd, del_ne nba, upd_ne nba, upd_ne nbd, upd_ne nba]
      exact e
    exact ⟨fun b o _ e => key b o e, fun b xs e => key b _ e⟩
theorem ok_spend {f C : Addr} {er : Errs} {fd : FuncData} {tL : Tok} (F : Fun K "spend" "Account.spend" sSpend f fd) (T : AccT K C) (hN : Met0 P w K mg base (L2N.CX P w) 2 C "need_time" ["self", "time"] (spNeedTime C er.time))
    (hC : Met0 P w K mg base CX0 1 C "change" ["self", "time", "events"] (spChange C)) (hB : Cal0 P w K mg base CX0 3 "balance_of" ["log", "life", "time"] (spLogNum balL)) (hI : Cal0 P w K mg base CX0 1 "is_from" ["value", "low", "high"] spIsFrom)
    (hL : mg "LARGEST" = some (.int 1000000 tL)) (TA : ExcT K mg "InvalidAmount" er.amount) (TE : ExcT K mg "NotEnough" er.enough) (TM : TMk P w K mg base er.many) (hl : mg "len" = none) : FnOk P w K mg base (L2N.CX P w) 4 f fd ["self", "time", "amount"] (spSpend C er) := by
  refine okN F scSpend (fun vs H Q E h => ?_) (fun cdv A outer s H vs Q E hr h => ?_)
  · obtain ⟨a, ps, span, st, past, v, m, rfl, _⟩ := h
    rfl
  · obtain ⟨a, ps, span, ⟨evs, now⟩, past, v, m, rfl, hA, hv, hm, hg, hl30, hp, k⟩ := h
    have h30 : evs.length ≤ 30 := hl30
    obtain ⟨cM, hcM⟩ := T.most
    refine ⟨_, pss_cons (ps_expr (pe_met hN T.cl (hr.mono (by decide)) (passN rfl rfl rfl rfl) (pv 0) (pa_cons (pv 1) pa_nil)))
      (pss_cons (ps_if (pt_not (pt_truth (pe_cal hI (hr.mono (by decide)) rfl (E := fun _ _ _ => False) pass0 (pa_cons (pv 2) (pa_cons pe_int (pa_cons (pe_glob (v := .int 1000000) rfl hL ⟨_, rfl⟩) pa_nil)))) (fun _ => rfl)))
        (pss_one (ps_raiseN rfl (L2N.takes_of rfl rfl rfl rfl) TA rfl)) pss_nil)
      (pss_cons (ps_if (pt_cmpR op_eq (pe_callB call_len_seq (by rfl) hl PySem.boot_len (pa_cons (pe_fld (pv 0) rfl) pa_nil)) (pe_con (pv 0) rfl) (nomark _))
        (pss_one (ps_raiseTM TM (hr.mono (by decide)) rfl (L2N.takes_of rfl rfl rfl rfl) rfl (pe_con (pv 0) rfl))) pss_nil)
      (pss_cons (ps_if (pt_cmpR op_lt (pe_cal hB hr rfl (E := fun _ _ _ => False) pass0 (pa_cons (pe_fld (pv 0) rfl) (pa_cons (pe_fld (pv 0) rfl) (pa_cons (pv 1) pa_nil)))) (pv 2) (nomark _))
        (pss_one (ps_raiseN rfl (L2N.takes_of rfl rfl rfl rfl) TE rfl)) pss_nil)
      (pss_cons (ps_expr (pe_met hC T.cl (hr.mono (by decide)) (E := fun _ _ _ => False) pass0 (pv 0) (pa_cons (pv 1) (pa_cons (pe_tup (pa_cons (pe_tup (pa_cons pe_str (pa_cons (pv 1) (pa_cons (pv 2) pa_nil)))) pa_nil)) pa_nil))))
      (pss_one (ps_ret (pe_cal hB hr rfl (E := fun _ _ _ => False) pass0 (pa_cons (pe_fld (pv 0) rfl) (pa_cons (pe_fld (pv 0) rfl) (pa_cons (pv 1) pa_nil)))))))))), ?_⟩
    obtain ⟨dx, lg, xs, ha, hlg, hps, hst⟩ := id hA
    refine ⟨_, rfl, a, dx, _, rfl, ha, rfl, _, rfl, a, dx, lg, ps, span, now, v, rfl, ha, hv, fun hf => ?_, fun hf => ?_⟩
    · obtain ⟨t, rfl, ht1, ht2⟩ := isFrom_int hf
      have ht1' : now ≤ t := ht1
      refine ⟨_, rfl, m, 1, 1000000, rfl, hm, _, rfl, ?_⟩
      unfold spendM at k
      rw [if_pos hf] at k
      cases e : isFrom m 1 1000000 with
      | false =>
        rw [e, if_neg (by decide)] at k
        exact iteT (k H .refl)
      | true =>
        rw [e, if_pos rfl] at k
        obtain ⟨n, rfl, hn1, hn2⟩ := isFrom_int e
        refine iteF ?_
        obtain ⟨es, he, hes⟩ := id hlg
        refine ⟨_, rfl, a, C, dx, _, _, rfl, ha, T.cl, T.nL, fl_log, lg, es, rfl, .inr (SqT.of he), _, rfl, a, C, dx, _, _, _, rfl, ha, T.cl, hcM, rfl, rfl, _, rfl, ?_⟩
        rw [dec_int]
        have hk : ((es.length : Int) == 30) = decide (evs.length = 30) := by
          rw [hes.len]
          by_cases h : evs.length = 30
          · rw [decide_eq_true h, h]; rfl
          · rw [decide_eq_false h]
            simp
            omega
        rw [hk]
        by_cases h : evs.length = 30
        · rw [decide_eq_true h]
          rw [if_pos h] at k
          exact iteT ⟨_, rfl, a, C, dx, _, _, _, rfl, ha, T.cl, hcM, rfl, tmk_in fun H' d kk hd e => k H' d kk hd e⟩
        · rw [decide_eq_false h]
          rw [if_neg h] at k
          refine iteF ⟨_, rfl, a, C, dx, _, _, rfl, ha, T.cl, T.nL, fl_log, _, rfl, a, C, dx, _, _, rfl, ha, T.cl, T.nS, fl_span, _, rfl, lg, span, t, evs, rfl, hlg, good_mono hg ht1, (by omega), fun H1 k1 => ?_⟩
          have hA1 := hA.kp k1 (by simp) (by simp)
          obtain ⟨dx1, lg1, xs1, ha1, hlg1, hps1, hst1⟩ := id hA1
          refine ⟨_, rfl, _, n, rfl, rfl, _, rfl, ?_⟩
          by_cases hb : balL span t evs < n
          · rw [if_pos (show balL span (toI (.int t)) evs < toI (.int n) from hb)] at k
            rw [decide_eq_true hb]
            exact iteT (k H1 k1)
          · rw [if_neg (show ¬ balL span (toI (.int t)) evs < toI (.int n) from hb)] at k
            rw [decide_eq_false hb]
            refine iteF ⟨_, rfl, a, dx1, _, rfl, ha1, rfl, _, rfl, _, rfl, _, rfl, (by show 3 ≤ sizeLine; decide), fun u hu => ?_⟩
            have k2 : Kp [] H1 (upd H1 u (.tup [.str "spend", .int t, .int n])) := Kp.new hu
            have hA2 := hA1.kp k2 (by simp) (by simp)
            have hu2 : upd H1 u (.tup [.str "spend", .int t, .int n]) u = some (.tup [.str "spend", .int t, .int n]) := upd_same
            have kk2 := k1.trans k2
            show (1 ≤ sizeLine) ∧ _
            refine ⟨(by decide), fun x hx => ?_⟩
            change (upd H1 u (.tup [.str "spend", .int t, .int n])) x = none at hx
            generalize upd H1 u (.tup [.str "spend", .int t, .int n]) = H2 at k2 hA2 hu2 kk2 hx ⊢
            have k3 : Kp [] H2 (upd H2 x (.tup [.ref u])) := Kp.new hx
            have hA3 := hA2.kp k3 (by simp) (by simp)
            refine ⟨a, ps, x, span, t, (evs, now), past, [⟨false, t, n⟩], rfl, hA3, ⟨[.ref u], upd_same, RefsTo.snoc (xs := []) (l := []) .nil (k3.tup u _ hu2)⟩, (by show evs.length + 1 ≤ 1000; omega), hp, fun H4 k4 hA4 => ?_⟩
            obtain ⟨dx4, lg4, xs4, ha4, hlg4, hps4, hst4⟩ := id hA4
            have g4 : Good span t (evs ++ [⟨false, t, n⟩]) := good_spend hg ht1 hn1 (by omega)
            refine ⟨_, rfl, a, C, dx4, _, _, rfl, ha4, T.cl, T.nL, fl_log, _, rfl, a, C, dx4, _, _, rfl, ha4, T.cl, T.nS, fl_span, _, rfl, lg4, span, t, _, rfl, hlg4, g4, (by rw [List.length_append]; show evs.length + 1 ≤ 100; omega), fun H5 k5 => ?_⟩
            exact k H5 (((kk2.trans k3).mono (by simp)).trans (k4.trans (k5.mono (by simp)))) (hA4.kp k5 (by simp) (by simp))
    · unfold spendM at k
      rw [if_neg (by rw [hf]; decide)] at k
      exact k H .refl
end
end K16
-- part K11
set_option Elab.async false
set_option linter.all false
set_option maxRecDepth 100000
set_option maxHeartbeats 4000000
/-! earn -/
namespace K16
open PySem L2 K16M
theorem cxUpN {P : Program} {w : World} : StX.CXUp (L2N.CX P w) := by
  rintro outer s H s2 H2 E e s' un kp ho ⟨a, B, H', cls, d, ea, fl, hok, ub, na, os, ag, he⟩
  refine ⟨a, B, H', cls, d, ea, fl, hok, ⟨fun b o q n hb => ub.keep b o (kp b o q) (un.free b o q n (by simp)) hb, fun b o q hb => ub.slot b o (kp b o q) hb, fun b o q n => ub.free b o (kp b o q) (un.free b o q n (by simp)),
    fun b o q hb => ub.there b o (kp b o q) hb, fun b xs q => ub.tups b xs (un.tups b xs q), fun b o xs q => ub.frzs b o xs (un.frzs b o xs q), fun b ps q => ?_⟩, na, os.trans ho, ag, he⟩
  obtain ⟨m1, e1⟩ := un.tbls b ps q
  obtain ⟨m2, e2⟩ := ub.tbls b _ e1
  exact ⟨m1 ++ m2, by rw [e2, Array.append_assoc]⟩
abbrev spEarnB (C : Addr) (er : Errs) : Sp := fun vs H Q E => ∃ (a ps p : Addr) (span : Int) (st : List Ev × Int) (past : List (List Ev × Int)) (v : V) (ms : List V), vs = [.ref a, v, .ref p] ∧ H p = some (.tup ms) ∧ AccAt C H a ps span st past ∧ flat4 v = true ∧ (∀ m ∈ ms, flat4 m = true) ∧ ms.length ≤ 10 ∧ Good span st.2 st.1 ∧ st.1.length ≤ 30 ∧ past.length ≤ 900 ∧ Prm C er a ps span st past H Q E (earnM st v ms)
abbrev spEarn (C : Addr) (er : Errs) : Sp := fun vs H Q E => ∃ ws rest, vs = ws ++ rest ∧ ws.length = 2 ∧ rest.length ≤ sizeLine ∧ ∀ p, H p = Option.none → spEarnB C er (ws ++ [V.ref p]) (upd H p (.tup rest)) Q E
section
variable {P : Program} {w : World} {K : PySem.W.Frag} {mg : Str → Option Value} {base : Heap}
abbrev sEarn : Stmt := sAcc 7
abbrev nEarn : List Str := ["self", "time", "amounts", "amount"]
theorem scEarn : FnScope nEarn ((["self", "time"] : List Str) ++ (["amounts"] : List Str)) (defScope sEarn) := ⟨rfl, rfl, rfl, by decide +kernel, rfl, by decide +kernel, by decide +kernel⟩
theorem bind_earn {kV doc pm cdv ct : Value} {an : Option Addr} : ∀ us rest : List Value, us.length = (["self", "time"] : List Str).length → bindArgs (PySem.W.fnOf "earn" "Account.earn" (defArgs sEarn) (defBody sEarn) (defScope sEarn) .none kV doc pm an cdv ct) ⟨us ++ rest, []⟩ = (newTuple rest >>= fun t => pure ((["self", "time"] : List Str).zip us ++ [(("amounts" : Str), t)]))
  | [_, _], [], _ => rfl
  | [_, _], _ :: _, _ => rfl
theorem ok_earn {f C : Addr} {er : Errs} {fd : FuncData} {tL : Tok} (F : Fun K "earn" "Account.earn" sEarn f fd) (T : AccT K C) (hN : Met0 P w K mg base (L2N.CX P w) 2 C "need_time" ["self", "time"] (spNeedTime C er.time))
    (hC : Met0 P w K mg base CX0 1 C "change" ["self", "time", "events"] (spChange C)) (hB : Cal0 P w K mg base CX0 3 "balance_of" ["log", "life", "time"] (spLogNum balL)) (hI : Cal0 P w K mg base CX0 1 "is_from" ["value", "low", "high"] spIsFrom)
    (hL : mg "LARGEST" = some (.int 1000000 tL)) (TA : ExcT K mg "InvalidAmount" er.amount) (TM : TMk P w K mg base er.many) (hl : mg "len" = none) (htu : mg "tuple" = none) : FnR P w K mg base (L2N.CX P w) 4 f (spEarn C er) := by
  obtain ⟨⟨oc, od, kV, doc, pm, an, cdv, ct, osl, rfl, lk, hcd⟩, kp⟩ := F
  refine StX.fn_star lk hcd scEarn cxUpN bind_earn (fun A outer s H vs Q E hr h => ?_)
  obtain ⟨a, ps, p, span, ⟨evs, now⟩, past, v, ms, rfl, hpm, hA, hv, hms, hml, hg, hl30, hp, k⟩ := h
  have h30 : evs.length ≤ 30 := hl30
  obtain ⟨cM, hcM⟩ := T.most
  refine ⟨_, pss_cons (ps_expr (pe_met hN T.cl (hr.mono (by decide)) (passN rfl rfl rfl rfl) (pv 0) (pa_cons (pv 1) pa_nil)))
    (pss_cons (ps_for (passes_of rfl) rfl (pi_tup (pv 2)) (pg_name (i := 3) scEarn.nd rfl (Or.inl rfl))
      (pss_one (ps_if (pt_not (pt_truth (pe_cal hI (hr.mono (by decide)) rfl (E := fun _ _ _ => False) pass0 (pa_cons (pv 3) (pa_cons pe_int (pa_cons (pe_glob (v := .int 1000000) rfl hL ⟨_, rfl⟩) pa_nil)))) (fun _ => rfl)))
        (pss_one (ps_raiseN rfl (L2N.takes_of rfl rfl rfl rfl) TA rfl)) pss_nil)))
    (pss_cons (ps_if (pt_cmpR op_gt (pe_op op_add (pe_callB call_len_seq (by rfl) hl PySem.boot_len (pa_cons (pe_fld (pv 0) rfl) pa_nil)) (pe_callB call_len_seq (by rfl) hl PySem.boot_len (pa_cons (pv 2) pa_nil))) (pe_con (pv 0) rfl) (nomark _))
      (pss_one (ps_raiseTM TM (hr.mono (by decide)) rfl (L2N.takes_of rfl rfl rfl rfl) rfl (pe_con (pv 0) rfl))) pss_nil)
    (pss_cons (ps_expr (pe_met hC T.cl (hr.mono (by decide)) (E := fun _ _ _ => False) pass0 (pv 0) (pa_cons (pv 1) (pa_cons (pe_callTy call_tuple_of (by rfl) htu (by decide +kernel) (pa_cons
      (pe_lc (own := [("amount", 3)]) (g := gName 3) (tt := tYes) (te := tTup (tCons (tC (.str "earn")) (tCons (tVar 1) (tCons (tVar 3) tNil)))) rfl scEarn.nd (pi_tup (pv 2))
        (blkOk_by (N := nEarn) (sc := defScope sEarn) (by decide +kernel)) (fun _ _ _ _ _ => pg_name (i := 3) scEarn.nd rfl (Or.inl rfl)) (fun _ _ _ _ _ => pts_nil) (fun _ _ _ _ _ => pe_tup (pa_cons pe_str (pa_cons (pv 1) (pa_cons (pv 3) pa_nil))))) pa_nil)) pa_nil))))
    (pss_one (ps_ret (pe_cal hB hr rfl (E := fun _ _ _ => False) pass0 (pa_cons (pe_fld (pv 0) rfl) (pa_cons (pe_fld (pv 0) rfl) (pa_cons (pv 1) pa_nil))))))))), ?_⟩
  obtain ⟨dx, lg, xs, ha, hlg, hps, hst⟩ := id hA
  refine ⟨_, rfl, a, dx, _, rfl, ha, rfl, _, rfl, a, dx, lg, ps, span, now, v, rfl, ha, hv, fun hf => ?_, fun hf => ?_⟩
  · obtain ⟨t, rfl, ht1, ht2⟩ := isFrom_int hf
    have ht1' : now ≤ t := ht1
    unfold earnM at k
    rw [if_pos hf] at k
    refine ⟨_, rfl, p, rfl, ⟨ms, SqT.of hpm⟩, for_it walk_tup (fun j σ H2 => H2 = H ∧ (∃ x0 : Option V, σ = [some (.ref a), some (.int t), some (.ref p), x0]) ∧ (ms.take j).all (fun m => isFrom m 1 1000000) = true)
      ⟨rfl, ⟨none, rfl⟩, rfl⟩ (fun j σ H2 _ h => by rw [h.1]; exact SqT.of hpm) ?_ ?_⟩
    · rintro j x σ H2 H2' hj ⟨rfl, ⟨x0, rfl⟩, hall⟩ ⟨rfl, hxj⟩
      refine ⟨_, rfl, x, 1, 1000000, rfl, hms x (List.mem_of_getElem? hxj), _, rfl, ?_⟩
      cases e : isFrom x 1 1000000 with
      | false =>
        rw [if_neg (by
          intro z
          rw [List.all_eq_true] at z
          have := z x (List.mem_of_getElem? hxj)
          rw [e] at this
          cases this)] at k
        exact iteT (k _ .refl)
      | true =>
        refine iteF ⟨rfl, ⟨_, rfl⟩, ?_⟩
        rw [List.take_add_one, hxj, List.all_append, hall]
        show (true && (isFrom x 1 1000000 && true)) = true
        rw [e]
        rfl
    · rintro σ H2 ⟨rfl, ⟨x0, rfl⟩, hall⟩
      rw [List.take_length] at hall
      rw [if_pos hall] at k
      obtain ⟨es, he, hes⟩ := id hlg
      refine ⟨_, rfl, a, C, dx, _, _, rfl, ha, T.cl, T.nL, fl_log, lg, es, rfl, .inr (SqT.of he), _, rfl, p, ms, rfl, .inr (SqT.of hpm), _, _, rfl, rfl, _, rfl, a, C, dx, _, _, _, rfl, ha, T.cl, hcM, rfl, _, _, rfl, rfl, _, rfl, ?_⟩
      rw [show es.length = evs.length from hes.len]
      by_cases h : evs.length + ms.length > 30
      · rw [if_pos h] at k
        rw [decide_eq_true (by omega)]
        exact iteT ⟨_, rfl, a, C, dx, _, _, _, rfl, ha, T.cl, hcM, rfl, tmk_in fun H' d kk hd e => k H' d kk hd e⟩
      · rw [if_neg h] at k
        rw [decide_eq_false (by omega)]
        refine iteF ⟨_, rfl, a, dx, _, rfl, ha, rfl, _, rfl, ?_⟩
        refine r_cons (r_cb (r_cons (r_lc ⟨_, rfl, p, rfl, ⟨ms, SqT.of hpm⟩, rd_lcT (α := V) (l := ms) (c := fun _ => true) walk_tup (fun H2' kk => SqT.kp hpm kk) (by show 3 < 4; decide) rfl (by omega) (fun m => evO ⟨true, t, toI m⟩) (fun m => ⟨_, rfl⟩) (fun j x p' H3 Qt _ _ _ q => q) (fun j x p' H3 Qe hx hx' _ k3 q => ?_) (fun D H3 zs k3 hD hD3 hzs => ?_)⟩)))
        · rw [hx] at hx'
          cases hx'
          rw [List.all_eq_true] at hall
          obtain ⟨n, rfl, hn1, hn2⟩ := isFrom_int (hall x (List.mem_of_getElem? hx))
          exact ⟨_, rfl, _, rfl, (by show 3 ≤ sizeLine; decide), fun r hr => q r hr⟩
        · have ef : ms.filter (fun _ => true) = ms := List.filter_eq_self.mpr fun _ _ => rfl
          rw [ef] at hzs
          refine ⟨D, zs, rfl, .inl ⟨SqL.of hD3, fun l hl3 => ?_⟩⟩
          have k4 : Kp [] H3 (upd H3 l (.tup zs)) := Kp.new hl3
          have kk4 := k3.trans k4
          have hA4 := hA.kp kk4 (by simp) (by simp)
          have hzs4 := hzs.kp k4 (fun m => ⟨_, rfl⟩)
          have hl4 : upd H3 l (.tup zs) l = some (.tup zs) := upd_same
          have hLog : LogAt (upd H3 l (.tup zs)) l (ms.map fun m => (⟨true, t, toI m⟩ : Ev)) := ⟨zs, hl4, by
            have : ∀ {H : Hp} {zs : List V} {ms : List V}, RefsTo H (fun m => evO ⟨true, t, toI m⟩) zs ms → RefsTo H evO zs (ms.map fun m => (⟨true, t, toI m⟩ : Ev)) := by
              intro H zs ms h
              have h' : Paired (fun (x : V) (m : V) => ∃ r, x = .ref r ∧ H r = some (evO ⟨true, t, toI m⟩)) zs ms := h
              induction h' with
              | nil => exact .nil
              | cons a _ ih => exact .cons a (ih ‹_›)
            exact this hzs4⟩
          generalize upd H3 l (.tup zs) = H4 at k4 kk4 hA4 hl4 hLog ⊢
          refine ⟨a, ps, l, span, t, (evs, now), past, _, rfl, hA4, hLog, (by rw [List.length_map]; show evs.length + ms.length ≤ 1000; omega), hp, fun H5 k5 hA5 => ?_⟩
          obtain ⟨dx5, lg5, xs5, ha5, hlg5, hps5, hst5⟩ := id hA5
          have em : (ms.map fun m => (⟨true, t, toI m⟩ : Ev)) = (ms.map toI).map fun n => (⟨true, t, n⟩ : Ev) := by rw [List.map_map]; rfl
          have g5 : Good span t (evs ++ ms.map fun m => (⟨true, t, toI m⟩ : Ev)) := by
            rw [em]
            refine good_earns hg ht1 fun n hn => ?_
            obtain ⟨m, hm, rfl⟩ := List.mem_map.mp hn
            rw [List.all_eq_true] at hall
            obtain ⟨n, rfl, hn1, hn2⟩ := isFrom_int (hall m hm)
            exact hn1
          refine ⟨_, rfl, a, C, dx5, _, _, rfl, ha5, T.cl, T.nL, fl_log, _, rfl, a, C, dx5, _, _, rfl, ha5, T.cl, T.nS, fl_span, _, rfl, lg5, span, t, _, rfl, hlg5, g5, (by rw [List.length_append, List.length_map]; show evs.length + ms.length ≤ 100; omega), fun H6 k6 => ?_⟩
          exact k H6 ((kk4.mono (by simp)).trans (k5.trans (k6.mono (by simp)))) (hA5.kp k6 (by simp) (by simp))
  · unfold earnM at k
    rw [if_neg (by rw [hf]; decide)] at k
    exact k H .refl
end
end K16
-- part K12
set_option Elab.async false
set_option linter.all false
set_option maxRecDepth 100000
set_option maxHeartbeats 4000000
/-! life, time, remaining, yearly -/
namespace K16
open PySem L2 K16M
/-- what remaining hands out -/
def remL (span : Int) (st : List Ev × Int) : LL := mergeL ((playL span st.2 st.1).1.map fun p => (p.1 + span, p.2.1))
abbrev spRem (C : Addr) : K16G.SpZ := fun vs H cont => ∃ (a ps : Addr) (span : Int) (st : List Ev × Int) (past : List (List Ev × Int)), vs = [.ref a] ∧ AccAt C H a ps span st past ∧ Good span st.2 st.1 ∧ st.1.length ≤ 100 ∧ ∀ (H' : Hp) (zs : List V), Kp [] H H' → RefsTo H' p2O zs (remL span st) → cont zs H'
section
variable {P : Program} {w : World} {K : PySem.W.Frag} {mg : Str → Option Value} {base : Heap}
abbrev sRem : Stmt := sAcc 16
abbrev sYearly : Stmt := sAcc 2
theorem scRem : GScope ["self", "lot"] ["self"] (defScope sRem) := ⟨rfl, rfl, rfl, by decide +kernel, rfl, by decide +kernel, by decide +kernel⟩
theorem scYearly : FnScope ["cls"] ["cls"] (defScope sYearly) := ⟨rfl, rfl, rfl, by decide +kernel, rfl, by decide +kernel, by decide +kernel⟩
theorem mapTo {α β : Type} {H : Hp} {g : β → HO} {f : α → β} {zs : List V} {ms : List α} (h : RefsTo H (fun m => g (f m)) zs ms) : RefsTo H g zs (ms.map f) := by
  have h' : Paired (fun (x : V) (m : α) => ∃ r, x = .ref r ∧ H r = some (g (f m))) zs ms := h
  induction h' with
  | nil => exact .nil
  | cons a _ ih => exact .cons a (ih ‹_›)
theorem ok_rem {f C : Addr} {fd : FuncData} (F : Fun K "remaining" "Account.remaining" sRem f fd) (T : AccT K C) (hP : Cal0 P w K mg base CX0 2 "play" ["log", "life", "until"] spPlay) (hM : Cal0 P w K mg base CX0 1 "merged" ["rows"] spMerged) :
    K16G.GZn P w K mg base 3 f fd ["self"] (spRem C) := by
  obtain ⟨⟨oc, od, kV, doc, pm, an, cdv, ct, osl, rfl, lk, hcd⟩, kp⟩ := F
  refine K16G.gzn_of (k := 2) lk hcd scRem rfl rfl (by decide) (fun vs H cont h => ?_) (fun env x => rfl) (fun A outer s H vs cont hr h => ?_)
  · obtain ⟨a, ps, span, st, past, rfl, _⟩ := h
    rfl
  · obtain ⟨a, ps, span, ⟨evs, now⟩, past, rfl, hA, hg, hl, k⟩ := h
    refine ⟨_, pe_cal hM (hr.mono (by decide)) rfl (E := fun _ _ _ => False) pass0 (pa_cons (pe_lc (own := [("lot", 1)]) (g := gName 1) (tt := tYes)
      (te := tTup (tCons (tOp (rI0 fun i j => .int (i + j)) (tOp (rIxT K) (tVar 1) (tC (.int 0))) (tFld K (tVar 0) "span")) (tCons (tOp (rIxT K) (tVar 1) (tC (.int 1))) tNil))) rfl scRem.nd
      (pi_list (pe_ix ix_tup (pe_cal hP hr rfl (E := fun _ _ _ => False) pass0 (pa_cons (pe_fld (pv 0) rfl) (pa_cons (pe_fld (pv 0) rfl) (pa_cons (pe_fld (pv 0) rfl) pa_nil)))) pe_int (fun _ _ => rfl)))
      (blkOk_by (N := ["self", "lot"]) (sc := defScope sRem) (by decide +kernel)) (fun _ _ _ _ _ => pg_name (i := 1) scRem.nd rfl (Or.inl rfl)) (fun _ _ _ _ _ => pts_nil)
      (fun _ _ _ _ _ => pe_tup (pa_cons (pe_op op_add (pe_ix ix_tup (pv 1) pe_int (fun _ _ => rfl)) (pe_fld (pv 0) rfl)) (pa_cons (pe_ix ix_tup (pv 1) pe_int (fun _ _ => rfl)) pa_nil)))) pa_nil), ?_⟩
    obtain ⟨dx, lg, xs, ha, hlg, hps, hst⟩ := id hA
    obtain ⟨e1, e2⟩ := play_len span now evs
    refine r_call (r_cons (r_lc (r_iList (r_op (r_call ⟨_, rfl, a, C, dx, _, _, rfl, ha, T.cl, T.nL, fl_log, _, rfl, a, C, dx, _, _, rfl, ha, T.cl, T.nS, fl_span, _, rfl, a, C, dx, _, _, rfl, ha, T.cl, T.nN, fl_now, lg, span, now, evs, rfl, hlg, hg, hl, fun H1 t l1 l2 l3 xs1 xs2 k1 ht htt h1 h1l hr1 h2 h2l hr2 hne => ?_⟩)))))
    refine ⟨t, _, 0, .ref l1, rfl, rfl, SqT.of htt, atI_nat (j := 0) rfl, l1, rfl, ⟨_, SqL.of h1l⟩, ?_⟩
    refine rd_lcT (α := Int × Int × Nat) (l := (playL span now evs).1) (c := fun _ => true) walk_list (fun H2 kk => SqL.kp h1l kk) (by show 1 < 2; decide) hr1.len (by rw [hr1.len]; have : evs.length ≤ 100 := hl; omega) (fun p => p2O (p.1 + span, p.2.1)) (fun p => ⟨_, rfl⟩) (fun j x p H3 Qt _ _ _ q => q)
      (fun j x p H3 Qe hx hp _ k3 q => ?_) (fun D H3 zs k3 hD hD3 hzs => ?_)
    · obtain ⟨r, hr', hre⟩ := hr1.get hp
      rw [hx] at hr'
      cases hr'
      have hre3 := k3.tup r _ hre
      have ha3 := (k1.trans k3).all a _ (by simp) ha
      exact ⟨_, rfl, r, _, 0, .int p.1, rfl, rfl, SqT.of hre3, atI_nat (j := 0) rfl, _, rfl, a, C, dx, _, _, rfl, ha3, T.cl, T.nS, fl_span, _, _, rfl, rfl, _, rfl, r, _, 1, .int p.2.1, rfl, rfl, SqT.of hre3, atI_nat (j := 1) rfl, (by show 2 ≤ sizeLine; decide), fun q' hq => q q' hq⟩
    · have ef : (playL span now evs).1.filter (fun _ => true) = (playL span now evs).1 := List.filter_eq_self.mpr fun _ _ => rfl
      rw [ef] at hzs
      refine ⟨D, zs, _, rfl, hD3, mapTo (f := fun p : Int × Int × Nat => (p.1 + span, p.2.1)) hzs, (by rw [hzs.len]; have : evs.length ≤ 100 := hl; omega), fun H4 q ws k4 hq hq4 hws => ?_⟩
      exact ⟨q, ws, rfl, ((k1.trans k3)).free (by simp) hq, hq4, k H4 ws ((k1.trans k3).trans k4) hws⟩
/-- what self.life, self.time give -/
abbrev spYearly (C : Addr) : Sp := fun vs H Q _ => vs = [.ref C] ∧ ∀ (H' : Hp) (a ps : Addr), H a = none → Kp [] H H' → AccAt C H' a ps 365 ([], 0) [] → Q (.ref a) H'
theorem ok_yearly {f C CL g : Addr} {fd gd : FuncData} (F : Fun K "yearly" "Account.yearly" sYearly f fd) (M : Mk K C g) (G : FnOk P w K mg base (L2N.CX P w) 3 g gd ["self", "life"] (spAccInit C CL)) (hb : Binds K gd ["self", "life"] []) :
    FnOk P w K mg base (L2N.CX P w) 5 f fd ["cls"] (spYearly C) := by
  refine okN F scYearly (fun vs H Q E h => ?_) (fun cdv A outer s H vs Q E hr h => ?_)
  · obtain ⟨rfl, _⟩ := h
    rfl
  · obtain ⟨rfl, k⟩ := h
    refine ⟨_, pss_one (ps_ret (pe_makeL (i := 0) M G hr rfl (Or.inl rfl) hb (passN rfl rfl rfl rfl) (pa_cons pe_int pa_nil))), ?_⟩
    refine ⟨rfl, fun x dx hx hdx hne => ?_⟩
    refine ⟨x, dx, .int 365, rfl, upd_same, rfl, fun span e hf H' ps kk hps hA => ?_, fun hf => by cases hf⟩
    cases e
    refine ⟨rfl, k H' x ps hx ?_ hA⟩
    have k0 : Kp [x] H (upd (upd H dx (.own x)) x (.ins C dx [])) := (Kp.new hdx).trans (Kp.new (by rw [upd_ne (Ne.symm hne)]; exact hx))
    exact (k0.trans kk).old fun b hb _ => by rw [List.mem_singleton.mp hb]; exact hx
end
end K16
-- part K13
set_option Elab.async false
set_option linter.all false
set_option maxRecDepth 100000
set_option maxHeartbeats 4000000
/-! the law's deck -/
namespace K16
open PySem L2 K16M
abbrev sDeck : Stmt := top 30
abbrev sPick : Stmt := top 31
abbrev sWhole : Stmt := top 32
abbrev sOne : Stmt := top 35
abbrev sSort : Stmt := top 36
/-- a deck stands at d, at most n drawn -/
def DeckAt (H : Hp) (d : Addr) (n : Int) : Prop := ∃ a b c : Int, H d = some (.lst [.int a, .int b, .int c]) ∧ 0 ≤ b ∧ b < 2147483648 ∧ 0 ≤ c ∧ c ≤ n
theorem DeckAt.kp {S : List Addr} {H H' : Hp} {d : Addr} {n : Int} (h : DeckAt H d n) (k : Kp S H H') (hd : d ∉ S) : DeckAt H' d n := let ⟨a, b, c, e, r⟩ := h; ⟨a, b, c, k.all d _ hd e, r⟩
theorem DeckAt.mono {H : Hp} {d : Addr} {n m : Int} (h : DeckAt H d n) (hm : n ≤ m) : DeckAt H d m := let ⟨a, b, c, e, r1, r2, r3, r4⟩ := h; ⟨a, b, c, e, r1, r2, r3, by omega⟩
abbrev spDeck : Sp := fun vs H Q _ => ∃ c t : Int, vs = [.int c, .int t] ∧ 0 ≤ t ∧ ∀ d H', Kp [] H H' → H d = none → DeckAt H' d t → Q (.ref d) H'
abbrev spPick : Sp := fun vs H Q _ => ∃ (d : Addr) (n lim : Int), vs = [.ref d, .int lim] ∧ DeckAt H d n ∧ n ≤ 100000 ∧ 0 < lim ∧ lim ≤ 1000 ∧ ∀ (k : Int) H', Kp [d] H H' → DeckAt H' d (n + 1) → 0 ≤ k → k < lim → Q (.int k) H'
abbrev spOne : Sp := fun vs H Q _ => ∃ (d l : Addr) (n : Int) (xs : List V), vs = [.ref d, .ref l] ∧ DeckAt H d n ∧ n ≤ 100000 ∧ l ≠ d ∧ H l = some (.lst xs) ∧ 0 < xs.length ∧ xs.length ≤ 1000 ∧ ∀ (x : V) H', Kp [d] H H' → DeckAt H' d (n + 1) → x ∈ xs → Q x H'
abbrev spWhole : Sp := fun vs H Q _ => ∃ v : V, vs = [v] ∧ flat4 v = true ∧ Q (.bl (isIntV v && !isBlV v)) H
section
variable {P : Program} {w : World} {K : PySem.W.Frag} {mg : Str → Option Value} {base : Heap}
theorem scDeck : FnScope ["_law_cell", "_law_turn"] ["_law_cell", "_law_turn"] (defScope sDeck) := ⟨rfl, rfl, rfl, by decide +kernel, rfl, by decide +kernel, by decide +kernel⟩
abbrev nPick : List Str := ["_law_deck_here", "_law_limit", "_law_found", "_law_number"]
theorem scPick : FnScope nPick ["_law_deck_here", "_law_limit"] (defScope sPick) := ⟨rfl, rfl, rfl, by decide +kernel, rfl, by decide +kernel, by decide +kernel⟩
theorem scOne : FnScope ["_law_deck_here", "_law_some"] ["_law_deck_here", "_law_some"] (defScope sOne) := ⟨rfl, rfl, rfl, by decide +kernel, rfl, by decide +kernel, by decide +kernel⟩
theorem scWhole : FnScope ["_law_thing"] ["_law_thing"] (defScope sWhole) := ⟨rfl, rfl, rfl, by decide +kernel, rfl, by decide +kernel, by decide +kernel⟩
theorem ok_deck {f : Addr} {fd : FuncData} (F : Fun K "_law_deck" "_law_deck" sDeck f fd) : FnOk P w K mg base CX0 1 f fd ["_law_cell", "_law_turn"] spDeck := by
  refine F.ok scDeck (fun vs H Q E h => ?_) (fun cdv A outer s H vs Q E hr h => ?_)
  · obtain ⟨c, t, rfl, _⟩ := h
    rfl
  · obtain ⟨c, t, rfl, ht, k⟩ := h
    refine ⟨_, pss_cons (ps_if (pt_cmpR op_ge (pv 0) (pe_op op_pow pe_int pe_int) (nomark _))
        (pss_one (ps_ret (pe_lst (pa_cons (pe_op op_sub (pv 0) (pe_op op_pow pe_int pe_int)) (pa_cons (pe_op op_mod (pv 0) pe_int) (pa_cons (pv 1) pa_nil)))))) pss_nil)
      (pss_one (ps_ret (pe_lst (pa_cons pe_int (pa_cons (pe_op op_mod (pv 0) pe_int) (pa_cons (pv 1) pa_nil)))))), ?_⟩
    have fin : ∀ (a : Int) d, H d = none → Q (.ref d) (upd H d (.lst [.int a, .int (c % 2147483579), .int t])) := fun a d hd => k d _ (Kp.new hd) hd ⟨a, c % 2147483579, t, upd_same, by omega, by omega, ht, Int.le_refl _⟩
    refine ⟨_, rfl, _, _, rfl, rfl, ⟨by decide, by decide, by decide⟩, _, _, rfl, rfl, _, rfl, ?_⟩
    by_cases h : (10 : Int) ^ (18 : Int).toNat ≤ c
    · rw [decide_eq_true h]
      exact iteT ⟨_, rfl, _, _, rfl, rfl, ⟨by decide, by decide, by decide⟩, _, _, rfl, rfl, _, rfl, _, _, rfl, rfl, (by show (0 : Int) < 2147483579; decide), _, rfl, (by show 3 ≤ sizeLine; decide), fun d hd => fin _ d hd⟩
    · rw [decide_eq_false h]
      exact iteF ⟨_, rfl, _, _, rfl, rfl, (by show (0 : Int) < 2147483579; decide), _, rfl, (by show 3 ≤ sizeLine; decide), fun d hd => fin _ d hd⟩
theorem ok_pick {f : Addr} {fd : FuncData} (F : Fun K "_law_pick" "_law_pick" sPick f fd) : FnOk P w K mg base CX0 1 f fd ["_law_deck_here", "_law_limit"] spPick := by
  refine F.ok scPick (fun vs H Q E h => ?_) (fun cdv A outer s H vs Q E hr h => ?_)
  · obtain ⟨d, n, lim, rfl, _⟩ := h
    rfl
  · obtain ⟨d, n, lim, rfl, ⟨a, b, c, hd, hb0, hb1, hc0, hc1⟩, hn, hl0, hl1, k⟩ := h
    refine ⟨_, pss_cons (ps_if (pt_cmpR op_gt (pe_ix ix_list (pv 0) pe_int (fun _ _ => rfl)) pe_int (nomark _))
        (pss_cons (ps_set (i := 2) scPick.nd rfl (Or.inl rfl) (pe_op op_mod (pe_ix ix_list (pv 0) pe_int (fun _ _ => rfl)) (pv 1)))
          (pss_cons (ps_asg (pe_op op_fdiv (pe_ix ix_list (pv 0) pe_int (fun _ _ => rfl)) (pv 1)) (pg_sub (pv 0) pe_int set_list)) (pss_one (ps_ret (pv 2))))) pss_nil)
      (pss_cons (ps_asg (pe_op op_add (pe_ix ix_list (pv 0) pe_int (fun _ _ => rfl)) pe_int) (pg_sub (pv 0) pe_int set_list))
      (pss_cons (ps_set (i := 3) scPick.nd rfl (Or.inl rfl) (pe_op op_mod (pe_op op_pow (pe_op op_add (pe_ix ix_list (pv 0) pe_int (fun _ _ => rfl)) (pe_op op_mul pe_int (pe_ix ix_list (pv 0) pe_int (fun _ _ => rfl)))) pe_int) pe_int))
      (pss_cons (ps_set (i := 2) scPick.nd rfl (Or.inl rfl) (pe_op op_fdiv (pe_op op_mod (pe_op op_pow (pe_op op_add (pv 3) (pe_op op_mul pe_int (pe_ix ix_list (pv 0) pe_int (fun _ _ => rfl)))) pe_int) pe_int) pe_int))
      (pss_cons (ps_if (pt_cmpR op_gt (pv 1) pe_int (nomark _)) (pss_one (ps_ret (pe_op op_mod (pe_op op_add (pe_op op_mul (pv 2) pe_int) (pv 3)) (pv 1)))) pss_nil)
      (pss_one (ps_ret (pe_op op_mod (pv 2) (pv 1)))))))), ?_⟩
    refine ⟨_, rfl, d, _, 0, _, rfl, rfl, SqL.of hd, atI_nat (j := 0) rfl, _, _, rfl, rfl, _, rfl, ?_⟩
    by_cases h : 1 < a
    · rw [decide_eq_true h]
      refine iteT ⟨_, rfl, d, _, 0, _, rfl, rfl, SqL.of hd, atI_nat (j := 0) rfl, _, rfl, a, lim, rfl, rfl, hl0, _, rfl, d, _, 0, _, rfl, rfl, SqL.of hd, atI_nat (j := 0) rfl, _, rfl, a, lim, rfl, rfl, ⟨hl0, by omega⟩, _, rfl, d, _, 0, 0, rfl, rfl, hd, rfl, _, rfl, ?_⟩
      exact k (a % lim) _ (Kp.set hd (by simp) lst_tup) ⟨a / lim, b, c, upd_same, hb0, hb1, hc0, by omega⟩ (Int.emod_nonneg _ (by omega)) (Int.emod_lt_of_pos _ hl0)
    · rw [decide_eq_false h]
      refine iteF ⟨_, rfl, d, _, 2, _, rfl, rfl, SqL.of hd, atI_nat (j := 2) rfl, _, _, rfl, rfl, _, rfl, d, _, 2, 2, rfl, rfl, hd, rfl, ?_⟩
      have kd : Kp [d] H (upd H d (.lst ([V.int a, V.int b, V.int c].set 2 (V.int (c + 1))))) := Kp.set hd (by simp) lst_tup
      have hd1 : upd H d (.lst ([V.int a, V.int b, V.int c].set 2 (V.int (c + 1)))) d = some (.lst [.int a, .int b, .int (c + 1)]) := upd_same
      generalize upd H d (.lst ([V.int a, V.int b, V.int c].set 2 (V.int (c + 1)))) = H1 at kd hd1 ⊢
      have hp1 : CPow (b + 15485867 * (c + 1)) 5 := ⟨by decide, by decide, by omega⟩
      refine ⟨_, rfl, d, _, 1, _, rfl, rfl, SqL.of hd1, atI_nat (j := 1) rfl, _, rfl, d, _, 2, _, rfl, rfl, SqL.of hd1, atI_nat (j := 2) rfl, _, _, rfl, rfl, .inl (by decide), _, _, rfl, rfl, _, _, rfl, rfl, hp1, _, _, rfl, rfl, (by show (0 : Int) < 2147483647; decide), ?_⟩
      dsimp only
      generalize hN : (b + 15485867 * (c + 1)) ^ (5 : Int).toNat % 2147483647 = N
      have hN0 : 0 ≤ N := by rw [← hN]; exact Int.emod_nonneg _ (by decide)
      have hN1 : N < 2147483647 := by rw [← hN]; exact Int.emod_lt_of_pos _ (by decide)
      have hp2 : CPow (N + 7919 * (c + 1)) 3 := ⟨by decide, by decide, by omega⟩
      refine ⟨_, rfl, _, rfl, d, _, 2, _, rfl, rfl, SqL.of hd1, atI_nat (j := 2) rfl, _, _, rfl, rfl, .inl (by decide), _, _, rfl, rfl, _, _, rfl, rfl, hp2, _, _, rfl, rfl, (by show (0 : Int) < 2147483629; decide), _, _, rfl, rfl, ⟨by decide, by decide⟩, ?_⟩
      dsimp only
      generalize (N + 7919 * (c + 1)) ^ (3 : Int).toNat % 2147483629 / 32 = M
      refine ⟨_, rfl, _, _, rfl, rfl, _, rfl, ?_⟩
      rw [decide_eq_false (by omega)]
      refine iteF ⟨_, rfl, _, rfl, M, lim, rfl, rfl, hl0, ?_⟩
      exact k (M % lim) _ kd ⟨a, b, c + 1, hd1, hb0, hb1, by omega, by omega⟩ (Int.emod_nonneg _ (by omega)) (Int.emod_lt_of_pos _ hl0)
end
end K16
-- part K14
set_option Elab.async false
set_option linter.all false
set_option maxRecDepth 100000
set_option maxHeartbeats 4000000
/-! the law's pick from a list, its kinds, its sameness -/
namespace K16
open PySem L2 K16M
mutual
/-- data that stand tracked -/
inductive Da (H : Hp) : V → PyData → Prop
  | non : Da H .non .none
  | int (i : Int) : Da H (.int i) (.int i)
  | str (x : Str) : Da H (.str x) (.str x)
  | lst {a : Addr} {xs : List V} {ds : List PyData} : H a = some (.lst xs) → DaAll H xs ds → Da H (.ref a) (.list ds)
  | tup {a : Addr} {xs : List V} {ds : List PyData} : H a = some (.tup xs) → DaAll H xs ds → Da H (.ref a) (.tuple ds)
inductive DaAll (H : Hp) : List V → List PyData → Prop
  | nil : DaAll H [] []
  | cons {v : V} {vs : List V} {d : PyData} {ds : List PyData} : Da H v d → DaAll H vs ds → DaAll H (v :: vs) (d :: ds)
end
mutual
theorem Da.kp {H H' : Hp} (k : Kp [] H H') : ∀ {v : V} {d : PyData}, Da H v d → Da H' v d
  | _, _, .non => .non
  | _, _, .int i => .int i
  | _, _, .str x => .str x
  | _, _, .lst e r => .lst (k.all _ _ (by simp) e) (r.kp k)
  | _, _, .tup e r => .tup (k.all _ _ (by simp) e) (r.kp k)
theorem DaAll.kp {H H' : Hp} (k : Kp [] H H') : ∀ {v : List V} {d : List PyData}, DaAll H v d → DaAll H' v d
  | _, _, .nil => .nil
  | _, _, .cons a r => .cons (a.kp k) (r.kp k)
end
mutual
theorem Da.dp {K : PySem.W.Frag} {H : Hp} : ∀ {v : V} {d : PyData}, Da H v d → Dp K H v d
  | _, _, .non => .non
  | _, _, .int i => .int i
  | _, _, .str x => .str x
  | _, _, .lst e r => .lst (SqL.of e) r.dp
  | _, _, .tup e r => .tup (SqT.of e) r.dp
theorem DaAll.dp {K : PySem.W.Frag} {H : Hp} : ∀ {v : List V} {d : List PyData}, DaAll H v d → DpAll K H v d
  | _, _, .nil => .nil
  | _, _, .cons a r => .cons a.dp r.dp
end
theorem DaAll.len {H : Hp} : ∀ {v : List V} {d : List PyData}, DaAll H v d → v.length = d.length
  | _, _, .nil => rfl
  | _, _, .cons a r => congrArg (· + 1) r.len
theorem DaAll.get {H : Hp} : ∀ {v : List V} {ds : List PyData}, DaAll H v ds → ∀ {i : Nat} {d : PyData}, ds[i]? = some d → ∃ x, v[i]? = some x ∧ Da H x d
  | _, _, .nil, i, d, e => by cases e
  | _, _, .cons (v := x) a r, 0, d, e => by cases e; exact ⟨x, rfl, a⟩
  | _, _, .cons a r, i + 1, d, e => r.get (i := i) e
theorem DaAll.get' {H : Hp} {v : List V} {ds : List PyData} (h : DaAll H v ds) {i : Nat} {x : V} (e : v[i]? = some x) : ∃ d, ds[i]? = some d ∧ Da H x d := by
  obtain ⟨hi, _⟩ := List.getElem?_eq_some_iff.mp e
  have hd : ds[i]? = some (ds[i]'(by rw [← h.len]; exact hi)) := List.getElem?_eq_getElem _
  obtain ⟨y, e1, e2⟩ := h.get hd
  rw [e] at e1
  cases e1
  exact ⟨_, hd, e2⟩
def tyD : PyData → String
  | .none => "NoneType" | .int _ => "int" | .str _ => "str" | .list _ => "list" | .tuple _ => "tuple"
  | _ => ""
def sortD : PyData → Int
  | .int _ => 2 | .str _ => 3 | .list _ => 4 | .tuple _ => 5
  | _ => 6
theorem Da.ty {K : PySem.W.Frag} {H : Hp} {v : V} {d : PyData} (h : Da H v d) : TyOf K H v (.type (tyD d)) := by
  cases h with
  | non => exact .non
  | int i => exact .int i
  | str x => exact .str x
  | lst e r => exact .lst e
  | tup e r => exact .tup e
theorem isi_da {K : PySem.W.Frag} {H : Hp} {v : V} {d : PyData} {T : String} {r : Bool} {Q : VK} (h : Da H v d) (hk : PySem.W.kitOne K (.type (tyD d)) (.type T) = some r) (q : Q (.bl r) H) : rIsi K [v, .ty T] H Q := ⟨v, .ty T, _, _, r, rfl, .ty _, .base h.ty, hk, q⟩
/-- plain data of a depth -/
def SD : Nat → PyData → Prop
  | _, .none => True
  | _, .int _ => True
  | _, .str x => (PyData.str x).canLay0 = true
  | n + 1, .list ds => ∀ d ∈ ds, SD n d
  | n + 1, .tuple ds => ∀ d ∈ ds, SD n d
  | _, _ => False
theorem r_next {D : Ends} {σ : L2.St} {H : Hp} (h : D.nx σ H) : tNext D σ H := h
abbrev spSort : Sp := fun vs H Q _ => ∃ (v : V) (d : PyData), vs = [v] ∧ Da H v d ∧ Q (.int (sortD d)) H
def spSame : Nat → Sp
  | 0 => fun _ _ _ _ => False
  | n + 1 => fun vs H Q _ => ∃ (x y : V) (d : PyData), vs = [x, y] ∧ Da H x d ∧ Da H y d ∧ SD n d ∧ ∀ H', Kp [] H H' → Q (.bl true) H'
section
variable {P : Program} {w : World} {K : PySem.W.Frag} {mg : Str → Option Value} {base : Heap}
abbrev sSame : Stmt := top 37
theorem scSort : FnScope ["_law_thing"] ["_law_thing"] (defScope sSort) := ⟨rfl, rfl, rfl, by decide +kernel, rfl, by decide +kernel, by decide +kernel⟩
abbrev nSame : List Str := ["_law_told", "_law_due", "_law_k", "_law_part"]
theorem scSame : FnScope nSame ["_law_told", "_law_due"] (defScope sSame) := ⟨rfl, rfl, rfl, by decide +kernel, rfl, by decide +kernel, by decide +kernel⟩
theorem ok_whole {f : Addr} {fd : FuncData} (F : Fun K "_law_whole" "_law_whole" sWhole f fd) (hi : mg "isinstance" = none) (hn : mg "int" = none) (hb : mg "bool" = none) : FnOk P w K mg base CX0 1 f fd ["_law_thing"] spWhole := by
  refine F.ok scWhole (fun vs H Q E h => ?_) (fun cdv A outer s H vs Q E hr h => ?_)
  · obtain ⟨v, rfl, _⟩ := h
    rfl
  · obtain ⟨v, rfl, hv, k⟩ := h
    refine ⟨_, pss_one (ps_ret (pe_and (pe_callB call_isi (by rfl) hi (by decide +kernel) (pa_cons (pv 0) (pa_cons (pe_bltn (v := .ty "int") rfl hn (by decide +kernel) rfl) pa_nil)))
      (pe_one (pe_not (pe_callB call_isi (by rfl) hi (by decide +kernel) (pa_cons (pv 0) (pa_cons (pe_bltn (v := .ty "bool") rfl hb (by decide +kernel) rfl) pa_nil))))))), ?_⟩
    refine t_isi rfl (isi_int hv ⟨_, rfl, ?_⟩)
    cases e : isIntV v with
    | true => exact iteT (t_isi rfl (isi_bool hv ⟨_, rfl, by rw [e, Bool.true_and] at k; exact k⟩))
    | false => exact iteF (by rw [e, Bool.false_and] at k; exact k)
theorem ok_one {f : Addr} {fd : FuncData} (F : Fun K "_law_one" "_law_one" sOne f fd) (hl : mg "len" = none) (hP : Cal0 P w K mg base CX0 1 "_law_pick" ["_law_deck_here", "_law_limit"] spPick) : FnOk P w K mg base CX0 2 f fd ["_law_deck_here", "_law_some"] spOne := by
  refine F.ok scOne (fun vs H Q E h => ?_) (fun cdv A outer s H vs Q E hr h => ?_)
  · obtain ⟨d, l, n, xs, rfl, _⟩ := h
    rfl
  · obtain ⟨d, l, n, xs, rfl, hd, hn, nl, hl', h0, h1, k⟩ := h
    refine ⟨_, pss_one (ps_ret (pe_ix ix_list (pv 1) (pe_cal hP hr rfl (E := fun _ _ _ => False) pass0 (pa_cons (pv 0) (pa_cons (pe_callB call_len_seq (by rfl) hl PySem.boot_len (pa_cons (pv 1) pa_nil)) pa_nil))) (fun _ _ => rfl))), ?_⟩
    refine ⟨_, rfl, _, rfl, _, rfl, l, xs, rfl, .inl (SqL.of hl'), d, n, _, rfl, hd, hn, by omega, by omega, fun j H' kk hd' hj0 hj1 => ?_⟩
    obtain ⟨m, rfl⟩ := Int.eq_ofNat_of_zero_le hj0
    have hm : m < xs.length := by omega
    exact ⟨l, xs, (m : Nat), xs[m], rfl, rfl, SqL.of (kk.all l _ (by simp [nl]) hl'), atI_nat (by simp [hm]), k _ H' kk hd' (List.getElem_mem hm)⟩
theorem ok_sort {f : Addr} {fd : FuncData} (F : Fun K "_law_sort" "_law_sort" sSort f fd) (hi : mg "isinstance" = none) (hn : mg "int" = none) (hb : mg "bool" = none) (hs : mg "str" = none) (hL : mg "list" = none) (hT : mg "tuple" = none) : FnOk P w K mg base CX0 1 f fd ["_law_thing"] spSort := by
  refine F.ok scSort (fun vs H Q E h => ?_) (fun cdv A outer s H vs Q E hr h => ?_)
  · obtain ⟨v, d, rfl, _⟩ := h
    rfl
  · obtain ⟨v, d, rfl, hd, k⟩ := h
    refine ⟨_, pss_cons (ps_if (pt_truth (pe_callB call_isi (by rfl) hi (by decide +kernel) (pa_cons (pv 0) (pa_cons (pe_bltn (v := .ty "bool") rfl hb (by decide +kernel) rfl) pa_nil))) (fun _ => rfl)) (pss_one (ps_ret pe_int)) pss_nil)
      (pss_cons (ps_if (pt_truth (pe_callB call_isi (by rfl) hi (by decide +kernel) (pa_cons (pv 0) (pa_cons (pe_bltn (v := .ty "int") rfl hn (by decide +kernel) rfl) pa_nil))) (fun _ => rfl)) (pss_one (ps_ret pe_int)) pss_nil)
      (pss_cons (ps_if (pt_truth (pe_callB call_isi (by rfl) hi (by decide +kernel) (pa_cons (pv 0) (pa_cons (pe_bltn (v := .ty "str") rfl hs (by decide +kernel) rfl) pa_nil))) (fun _ => rfl)) (pss_one (ps_ret pe_int)) pss_nil)
      (pss_cons (ps_if (pt_truth (pe_callB call_isi (by rfl) hi (by decide +kernel) (pa_cons (pv 0) (pa_cons (pe_bltn (v := .ty "list") rfl hL (by decide +kernel) rfl) pa_nil))) (fun _ => rfl)) (pss_one (ps_ret pe_int)) pss_nil)
      (pss_one (ps_ret (pe_ifExp (pt_truth (pe_callB call_isi (by rfl) hi (by decide +kernel) (pa_cons (pv 0) (pa_cons (pe_bltn (v := .ty "tuple") rfl hT (by decide +kernel) rfl) pa_nil))) (fun _ => rfl)) pe_int pe_int)))))), ?_⟩
    cases id hd with
    | non => exact ⟨_, rfl, _, _, _, _, false, rfl, .ty _, .base hd.ty, (by with_unfolding_all rfl), _, rfl, iteF ⟨_, rfl, _, _, _, _, false, rfl, .ty _, .base hd.ty, (by with_unfolding_all rfl), _, rfl, iteF ⟨_, rfl, _, _, _, _, false, rfl, .ty _, .base hd.ty, (by with_unfolding_all rfl), _, rfl, iteF ⟨_, rfl, _, _, _, _, false, rfl, .ty _, .base hd.ty, (by with_unfolding_all rfl), _, rfl, iteF ⟨_, rfl, _, _, _, _, false, rfl, .ty _, .base hd.ty, (by with_unfolding_all rfl), _, rfl, iteF k⟩⟩⟩⟩⟩
    | int i => exact ⟨_, rfl, _, _, _, _, false, rfl, .ty _, .base hd.ty, (by with_unfolding_all rfl), _, rfl, iteF ⟨_, rfl, _, _, _, _, true, rfl, .ty _, .base hd.ty, (by with_unfolding_all rfl), _, rfl, iteT k⟩⟩
    | str x => exact ⟨_, rfl, _, _, _, _, false, rfl, .ty _, .base hd.ty, (by with_unfolding_all rfl), _, rfl, iteF ⟨_, rfl, _, _, _, _, false, rfl, .ty _, .base hd.ty, (by with_unfolding_all rfl), _, rfl, iteF ⟨_, rfl, _, _, _, _, true, rfl, .ty _, .base hd.ty, (by with_unfolding_all rfl), _, rfl, iteT k⟩⟩⟩
    | lst e r => exact ⟨_, rfl, _, _, _, _, false, rfl, .ty _, .base hd.ty, (by with_unfolding_all rfl), _, rfl, iteF ⟨_, rfl, _, _, _, _, false, rfl, .ty _, .base hd.ty, (by with_unfolding_all rfl), _, rfl, iteF ⟨_, rfl, _, _, _, _, false, rfl, .ty _, .base hd.ty, (by with_unfolding_all rfl), _, rfl, iteF ⟨_, rfl, _, _, _, _, true, rfl, .ty _, .base hd.ty, (by with_unfolding_all rfl), _, rfl, iteT k⟩⟩⟩⟩
    | tup e r => exact ⟨_, rfl, _, _, _, _, false, rfl, .ty _, .base hd.ty, (by with_unfolding_all rfl), _, rfl, iteF ⟨_, rfl, _, _, _, _, false, rfl, .ty _, .base hd.ty, (by with_unfolding_all rfl), _, rfl, iteF ⟨_, rfl, _, _, _, _, false, rfl, .ty _, .base hd.ty, (by with_unfolding_all rfl), _, rfl, iteF ⟨_, rfl, _, _, _, _, false, rfl, .ty _, .base hd.ty, (by with_unfolding_all rfl), _, rfl, iteF ⟨_, rfl, _, _, _, _, true, rfl, .ty _, .base hd.ty, (by with_unfolding_all rfl), _, rfl, iteT k⟩⟩⟩⟩⟩
end
end K16
-- part K15
set_option Elab.async false
set_option linter.all false
set_option maxRecDepth 100000
set_option maxHeartbeats 4000000
/-! the law's sameness -/
namespace K16
open PySem L2 K16M
theorem walk_ite {K : PySem.W.Frag} {a : Addr} {xs : List V} : Walk (Ite K a) xs.length (fun H => SqL K H a xs) (YPair (fun i => some (.int (i : Nat))) (fun i => xs[i]?)) := walk_enum
section
variable {P : Program} {w : World} {K : PySem.W.Frag} {mg : Str → Option Value} {base : Heap}
theorem sd_shaped {n : Nat} {d : PyData} (h : SD n d) (hl : ∀ ds, d ≠ .list ds) (ht : ∀ ds, d ≠ .tuple ds) : SeqAt.shaped d = true := by
  cases d with
  | none => rfl
  | int i => exact (sh_int i).shaped (by decide)
  | str x => exact (Sh.shaped (n := 1) ⟨by cases n <;> exact h, by rw [PyData.depth]; omega⟩ (by decide))
  | list ds => exact absurd rfl (hl ds)
  | tuple ds => exact absurd rfl (ht ds)
  | _ => cases n <;> cases h
theorem sd_eqv {n : Nat} {d : PyData} (h : SD n d) (hl : ∀ ds, d ≠ .list ds) (ht : ∀ ds, d ≠ .tuple ds) : PyData.eqv d d = true := by
  cases d with
  | none => rfl
  | int i => simp [PyData.eqv]
  | str x => simp [PyData.eqv]
  | list ds => exact absurd rfl (hl ds)
  | tuple ds => exact absurd rfl (ht ds)
  | _ => cases n <;> cases h
abbrev tSameT (K : PySem.W.Frag) (n : Nat) : TT := tNot (fun σ H Q => tCall (spSame n) [] (fun _ _ _ => False) (tCons (tVar 3) (tCons (tOp (rIx K) (tVar 1) (tVar 2)) tNil)) σ H fun x H' => ∃ k, TruV K x H' k ∧ Q k H')
theorem same_lc {J : It} {G : Hp → Prop} {x y : V} {b : Addr} {xs ys : List V} {ds : List PyData} {H : Hp} {Q : VK} {m : Nat} (w : Walk J xs.length G (YPair (fun i => some (.int (i : Nat))) (fun i => xs[i]?))) (hG : ∀ H2, Kp [] H H2 → G H2) (hxs : DaAll H xs ds) (hys : DaAll H ys ds)
    (hd : ∀ d ∈ ds, SD m d) (hy : y = .ref b) (hb : H b = some (.lst ys) ∨ H b = some (.tup ys)) (q : ∀ D H', Kp [] H H' → H' D = some (.lst []) → Q (.ref D) H') :
    LcB (gTup K 2 (gCons (gName 2) (gCons (gName 3) gNil))) (tSameT K (m + 1)) (tVar 2) [2, 3] [some x, some y, none, none] Q J H := by
  intro D hD
  refine lc_it w (fun j H2 => Kp [] H H2 ∧ H2 D = some (.lst [])) ⟨Kp.new hD, upd_same⟩ (fun j H2 _ h => hG H2 h.1) ?_ (fun H2 h => q D H2 h.1 h.2)
  rintro j z H2 H2' hj ⟨kk, hD2⟩ ⟨T, ix, v, rfl, hT, rfl, hix, hv⟩
  cases hix
  have hv : xs[j]? = some v := hv
  obtain ⟨d, hdj, hdv⟩ := hxs.get' hv
  obtain ⟨u, huj, hdu⟩ := hys.get hdj
  have kT : Kp [] H2 (upd H2 T (.tup [.int (j : Nat), v])) := Kp.new hT
  have k2 := kk.trans kT
  have hD3 : upd H2 T (.tup [.int (j : Nat), v]) D = some (.lst []) := by rw [upd_ne (ne_of_none hD2 hT)]; exact hD2
  refine ⟨T, _, rfl, SqT.of upd_same, rfl, _, _, rfl, _, _, rfl, rfl, rfl, ?_⟩
  generalize upd H2 T (.tup [.int (j : Nat), v]) = H3 at kT k2 hD3 ⊢
  subst hy
  refine ⟨_, rfl, _, rfl, _, rfl, ?_⟩
  have fin : ∀ R : VK, R u H3 → rIx K (.ref b) (.int (j : Nat)) H3 R := fun R h => by
    rcases hb with e | e
    · exact .inl ⟨b, ys, j, u, rfl, rfl, SqL.of (k2.all _ _ (by simp) e), atI_nat huj, h⟩
    · exact .inr (.inl ⟨b, ys, j, u, rfl, rfl, SqT.of (k2.all _ _ (by simp) e), atI_nat huj, h⟩)
  refine fin _ ⟨v, u, d, rfl, hdv.kp k2, hdu.kp k2, hd d (List.mem_of_getElem? hdj), fun H4 k4 => ⟨true, rfl, ?_⟩⟩
  exact iteF ⟨k2.trans k4, k4.all D _ (by simp) hD3⟩
theorem same_false {f : Addr} {fd : FuncData} {ps : List Str} : FnOk P w K mg base CX0 1 f fd ps (spSame 0) := ⟨fun _ _ _ _ h => h.elim, fun _ _ _ _ _ _ _ _ _ _ _ _ _ h => h.elim⟩
theorem ok_same {f : Addr} {fd : FuncData} (F : Fun K "_law_same" "_law_same" sSame f fd) (hl : mg "len" = none) (he : mg "enumerate" = none) (hS : Cal0 P w K mg base CX0 1 "_law_sort" ["_law_thing"] spSort)
    (gS : mg "_law_same" = some (.ref f)) (hb : Binds K fd ["_law_told", "_law_due"] []) : ∀ n, FnOk P w K mg base CX0 (n + 1) f fd ["_law_told", "_law_due"] (spSame n)
  | 0 => same_false
  | n + 1 => by
    have ih : Cal0 P w K mg base CX0 (n + 1) "_law_same" ["_law_told", "_law_due"] (spSame n) := ⟨f, fd, ok_same F hl he hS gS hb n, gS, F.kp, hb⟩
    refine F.ok scSame (fun vs H Q E h => ?_) (fun cdv A outer s H vs Q E hr h => ?_)
    · obtain ⟨x, y, d, rfl, _⟩ := h
      rfl
    · obtain ⟨x, y, d, rfl, hx, hy, hd, k⟩ := h
      have hr1 := Room.mono hr (show 1 ≤ n + 1 by omega)
      refine ⟨_, pss_cons (ps_if (pt_cmpR op_ne (pe_cal hS hr1 (by rfl) pass0 (pa_cons (pv 0) pa_nil)) (pe_cal hS hr1 (by rfl) pass0 (pa_cons (pv 1) pa_nil)) (nomark _)) (pss_one (ps_ret pe_bl)) pss_nil)
        (pss_cons (ps_if ((pw_and (pt_cmpR op_gt (pe_cal hS hr1 (by rfl) pass0 (pa_cons (pv 0) pa_nil)) pe_int (nomark _)) (pw_and1 (pt_cmpR op_lt (pe_cal hS hr1 (by rfl) pass0 (pa_cons (pv 0) pa_nil)) pe_int (nomark _)))).pt)
          (pss_cons (ps_if (pt_cmpR op_ne (pe_callB call_len_seq (by rfl) hl PySem.boot_len (pa_cons (pv 0) pa_nil)) (pe_callB call_len_seq (by rfl) hl PySem.boot_len (pa_cons (pv 1) pa_nil)) (nomark _)) (pss_one (ps_ret pe_bl)) pss_nil)
          (pss_one (ps_ret (pe_cmpR (op_eqD hr.units) (pe_lc (own := [("_law_k", 2), ("_law_part", 3)]) (g := gTup K 2 (gCons (gName 2) (gCons (gName 3) gNil))) (tt := tNot (fun σ H Q => tCall (spSame n) [] (fun _ _ _ => False) (tCons (tVar 3) (tCons (tOp (rIx K) (tVar 1) (tVar 2)) tNil)) σ H fun x H' => ∃ k, TruV K x H' k ∧ Q k H')) (te := tVar 2) rfl scSame.nd
              (pi_enumB rfl he (pa_cons (pv 0) pa_nil)) (blkOk_by (N := nSame) (sc := defScope sSame) (by decide +kernel)) (fun _ _ _ _ _ => pg_tup rfl (pgs_cons (pg_name (i := 2) scSame.nd rfl (Or.inl rfl)) (pgs_cons (pg_name (i := 3) scSame.nd rfl (Or.inl rfl)) pgs_nil)))
              (fun _ _ _ _ _ => pts_one (pt_not (pt_truth (pe_cal ih (Room.mono hr (Nat.le_refl _)) rfl (E := fun _ _ _ => False) pass0 (pa_cons (pv 3) (pa_cons (pe_ix ix_seq (pv 1) (pv 2) (fun _ _ => rfl)) pa_nil))) (fun _ => rfl))))
              (fun _ _ _ _ _ => pv 2)) (pe_lst pa_nil) (nomark _))))) pss_nil)
        (pss_one (ps_ret (pe_cmpR (op_eqD hr.units) (pv 0) (pv 1) (nomark _))))), ?_⟩
      have e1 : (!decide (V.int (sortD d) = V.int (sortD d))) = false := by rw [decide_eq_true rfl]; rfl
      refine ⟨_, rfl, x, d, rfl, hx, _, rfl, y, d, rfl, hy, rfl, _, rfl, ?_⟩
      rw [e1]
      refine iteF ⟨_, rfl, x, d, rfl, hx, _, _, rfl, rfl, _, rfl, ?_⟩
      have atom : (∀ ds, d ≠ .list ds) → (∀ ds, d ≠ .tuple ds) → tSeq (tRet (tOp (rEqD K) (tVar 0) (tVar 1))) tNext { nx := fun _ H' => Q .non H', rt := Q } [some x, some y, none, none] H := fun h1 h2 => by
        refine ⟨_, rfl, _, rfl, d, d, hx.dp, hy.dp, sd_shaped hd h1 h2, sd_shaped hd h1 h2, ?_⟩
        rw [sd_eqv hd h1 h2]
        exact k H .refl
      cases id hx with
      | non => exact iteT ⟨_, rfl, _, _, rfl, hx, _, _, rfl, rfl, _, rfl, iteF (atom (fun _ z => by cases z) (fun _ z => by cases z))⟩
      | int i => exact iteF (atom (fun _ z => by cases z) (fun _ z => by cases z))
      | str i => exact iteF (atom (fun _ z => by cases z) (fun _ z => by cases z))
      | @lst a xs ds e r =>
        cases id hy with
        | @lst b ys _ e' r' =>
          have e2 : (!decide (V.int ((xs.length : Nat) : Int) = V.int ((ys.length : Nat) : Int))) = false := by rw [r.len, r'.len, decide_eq_true rfl]; rfl
          refine iteT ⟨_, rfl, _, _, rfl, hx, _, _, rfl, rfl, _, rfl, iteT ⟨_, rfl, a, xs, rfl, .inl (SqL.of e), _, rfl, b, ys, rfl, .inl (SqL.of e'), rfl, _, rfl, ?_⟩⟩
          rw [e2]
          cases n with
          | zero => cases hd
          | succ m =>
            refine iteF ?_
            dsimp only [tNext]
            refine (r_ret (r_op (r_lc ⟨_, rfl, a, rfl, .inl ⟨xs, SqL.of e, same_lc walk_ite (fun H2 kk => SqL.kp e kk) r r' hd rfl (.inl e') fun D H' kk hD => ⟨Nat.zero_le _, fun l hl => ?_⟩⟩⟩)))
            have kl : Kp [] H' (upd H' l (.lst [])) := Kp.new hl
            exact ⟨.list [], .list [], .lst (SqL.of (kl.all D _ (by simp) hD)) .nil, .lst (SqL.of upd_same) .nil, sh_nil, sh_nil, k _ (kk.trans kl)⟩
      | @tup a xs ds e r =>
        cases id hy with
        | @tup b ys _ e' r' =>
          have e2 : (!decide (V.int ((xs.length : Nat) : Int) = V.int ((ys.length : Nat) : Int))) = false := by rw [r.len, r'.len, decide_eq_true rfl]; rfl
          refine iteT ⟨_, rfl, _, _, rfl, hx, _, _, rfl, rfl, _, rfl, iteT ⟨_, rfl, a, xs, rfl, .inr (SqT.of e), _, rfl, b, ys, rfl, .inr (SqT.of e'), rfl, _, rfl, ?_⟩⟩
          rw [e2]
          cases n with
          | zero => cases hd
          | succ m =>
            refine iteF ?_
            dsimp only [tNext]
            refine (r_ret (r_op (r_lc ⟨_, rfl, a, rfl, .inr ⟨xs, SqT.of e, same_lc walk_enumT (fun H2 kk => SqT.kp e kk) r r' hd rfl (.inr e') fun D H' kk hD => ⟨Nat.zero_le _, fun l hl => ?_⟩⟩⟩)))
            have kl : Kp [] H' (upd H' l (.lst [])) := Kp.new hl
            exact ⟨.list [], .list [], .lst (SqL.of (kl.all D _ (by simp) hD)) .nil, .lst (SqL.of upd_same) .nil, sh_nil, sh_nil, k _ (kk.trans kl)⟩
end
end K16
-- part KL1
set_option Elab.async false
set_option linter.all false
set_option maxRecDepth 100000
set_option maxHeartbeats 4000000
/-! the law's lots: the lists and the inner loop -/
namespace K16
open PySem L2 K16M
/-- a lot: where its list stands, its time, its points -/
abbrev LA := List (Addr × (Int × Int))
abbrev lsO (p : Int × Int) : HO := .lst [.int p.1, .int p.2]
abbrev rf (q : Addr × (Int × Int)) : V := .ref q.1
structure LotsAt (H0 H : Hp) (L : LA) : Prop where
  at_ : ∀ q ∈ L, H q.1 = some (lsO q.2)
  new : ∀ q ∈ L, H0 q.1 = none
  nd : (L.map (·.1)).Nodup
theorem LotsAt.nil {H0 H : Hp} : LotsAt H0 H [] := ⟨fun _ h => (nomatch h), fun _ h => (nomatch h), List.nodup_nil⟩
theorem LotsAt.kp {H0 H H' : Hp} {L : LA} (h : LotsAt H0 H L) (k : Kp [] H H') : LotsAt H0 H' L := ⟨fun q hq => k.all _ _ (by simp) (h.at_ q hq), h.new, h.nd⟩
theorem LotsAt.filter {H0 H : Hp} {L : LA} (h : LotsAt H0 H L) (c : Addr × (Int × Int) → Bool) : LotsAt H0 H (L.filter c) :=
  ⟨fun q hq => h.at_ q (List.mem_filter.mp hq).1, fun q hq => h.new q (List.mem_filter.mp hq).1, h.nd.sublist ((List.filter_sublist).map _)⟩
theorem LotsAt.snoc {H0 H : Hp} {L : LA} {r : Addr} {p : Int × Int} (h : LotsAt H0 H L) (e : H r = some (lsO p)) (n : H0 r = none) (hn : ∀ q ∈ L, q.1 ≠ r) : LotsAt H0 H (L ++ [(r, p)]) := by
  refine ⟨fun q hq => ?_, fun q hq => ?_, ?_⟩
  · rcases List.mem_append.mp hq with z | z
    · exact h.at_ q z
    · rw [List.mem_singleton.mp z]; exact e
  · rcases List.mem_append.mp hq with z | z
    · exact h.new q z
    · rw [List.mem_singleton.mp z]; exact n
  · rw [List.map_append, List.nodup_append]
    refine ⟨h.nd, by simp, fun a ha b hb => ?_⟩
    obtain ⟨q, hq, rfl⟩ := List.mem_map.mp ha
    have : b = r := by simpa using hb
    rw [this]
    exact hn q hq
theorem lots_to {H0 H : Hp} {L : LA} (h : LotsAt H0 H L) : RefsTo H lsO (L.map rf) (L.map (·.2)) := by
  have : ∀ {L : LA}, (∀ q ∈ L, H q.1 = some (lsO q.2)) → RefsTo H lsO (L.map rf) (L.map (·.2)) := by
    intro L
    induction L with
    | nil => intro _; exact .nil
    | cons q r ih => intro h; exact .cons ⟨q.1, rfl, h q List.mem_cons_self⟩ (ih fun z hz => h z (List.mem_cons_of_mem _ hz))
  exact this h.at_
/-- a list of references is no lot -/
theorem ne_lot {H : Hp} {a r : Addr} {xs : List V} {p : Int × Int} (ha : H a = some (.lst xs)) (hr : H r = some (lsO p)) (hx : ∀ x ∈ xs, ∃ b, x = .ref b) : r ≠ a := by
  intro z
  rw [z, ha] at hr
  have e : xs = [.int p.1, .int p.2] := by
    have := Option.some.inj hr
    cases this
    rfl
  obtain ⟨b, hb⟩ := hx (.int p.1) (by rw [e]; simp)
  cases hb
theorem RefsTo.refs {α : Type} {H : Hp} {g : α → HO} {xs : List V} {l : List α} (h : RefsTo H g xs l) : ∀ x ∈ xs, ∃ b, x = .ref b := by
  intro x hx
  obtain ⟨i, hi⟩ := List.mem_iff_getElem?.mp hx
  obtain ⟨r, p, rfl, _⟩ := h.get' hi
  exact ⟨r, rfl⟩
theorem rf_refs {L : LA} : ∀ x ∈ L.map rf, ∃ b, x = .ref b := by
  intro x hx
  obtain ⟨q, _, rfl⟩ := List.mem_map.mp hx
  exact ⟨_, rfl⟩
/-- what was not there may be changed -/
theorem Kp.fresh {S : List Addr} {H0 H : Hp} {r : Addr} {o : HO} (k : Kp S H0 H) (h : H0 r = none) : Kp S H0 (upd H r o) := ⟨fun b u hb e => by rw [upd_ne (ne_of_none e h)]; exact k.all b u hb e, fun b xs e => by rw [upd_ne (ne_of_none e h)]; exact k.tup b xs e⟩
/-! ### a deed takes from the lots -/
def genL (pf : Int → Int → Int) : Int → LA → LA
  | _, [] => []
  | a, (r, t, m) :: l => (r, t, m - pf m a) :: genL pf (a - pf m a) l
def genA (pf : Int → Int → Int) : Int → LA → Int
  | a, [] => a
  | a, (_, _, m) :: l => genA pf (a - pf m a) l
theorem gen_snoc (pf : Int → Int → Int) : ∀ (l : LA) (a : Int) (q : Addr × (Int × Int)), genL pf a (l ++ [q]) = genL pf a l ++ [(q.1, q.2.1, q.2.2 - pf q.2.2 (genA pf a l))]
  | [], a, (r, t, m) => rfl
  | (r, t, m) :: l, a, q => by
    show (r, t, m - pf m a) :: genL pf (a - pf m a) (l ++ [q]) = _
    rw [gen_snoc pf l]
    rfl
theorem genA_snoc (pf : Int → Int → Int) : ∀ (l : LA) (a : Int) (q : Addr × (Int × Int)), genA pf a (l ++ [q]) = genA pf a l - pf q.2.2 (genA pf a l)
  | [], a, (r, t, m) => rfl
  | (r, t, m) :: l, a, q => by
    show genA pf (a - pf m a) (l ++ [q]) = _
    rw [genA_snoc pf l]
    rfl
theorem gen_fst (pf : Int → Int → Int) : ∀ (l : LA) (a : Int), (genL pf a l).map (·.1) = l.map (·.1)
  | [], _ => rfl
  | (r, t, m) :: l, a => by
    show r :: (genL pf (a - pf m a) l).map (·.1) = _
    rw [gen_fst pf l]
    rfl
theorem gen_len (pf : Int → Int → Int) (l : LA) (a : Int) : (genL pf a l).length = l.length := by
  have := congrArg List.length (gen_fst pf l a)
  simpa using this
theorem gen_zero : ∀ (l : LA) (a : Int), genL (fun _ _ => 0) a l = l
  | [], _ => rfl
  | (r, t, m) :: l, a => by
    show (r, t, m - 0) :: genL (fun _ _ => 0) (a - 0) l = _
    rw [gen_zero l, Int.sub_zero]
theorem gen_min : ∀ (l : LA) (a : Int), (genL (fun m a => min m a) a l).map (·.2) = redL a (l.map (·.2))
  | [], _ => rfl
  | (r, t, m) :: l, a => by
    show (t, m - min m a) :: (genL (fun m a => min m a) (a - min m a) l).map (·.2) = (t, m - min m a) :: redL (a - min m a) (l.map (·.2))
    rw [gen_min l]
theorem gen_refs (pf : Int → Int → Int) (l : LA) (a : Int) : (genL pf a l).map rf = l.map rf := by
  have := congrArg (List.map V.ref) (gen_fst pf l a)
  rw [List.map_map, List.map_map] at this
  exact this
/-! ### lengths -/
theorem two_filters {α : Type} (c d : α → Bool) (h : ∀ x, c x = true → d x = true → False) : ∀ l : List α, (l.filter c).length + (l.filter d).length ≤ l.length
  | [] => Nat.le_refl _
  | x :: l => by
    have ih := two_filters c d h l
    rw [List.filter_cons, List.filter_cons, List.length_cons]
    cases hc : c x with
    | true =>
      cases hd : d x with
      | true => exact (h x hc hd).elim
      | false => simp; omega
    | false =>
      cases hd : d x with
      | true => simp; omega
      | false => simp; omega
theorem live_gone_len (span t : Int) (l : LL) : (liveL span t l).length + (goneL span t l).length ≤ l.length := by
  unfold liveL goneL
  rw [List.length_map]
  refine two_filters _ _ (fun p h1 h2 => ?_) l
  simp only [Bool.and_eq_true, decide_eq_true_eq] at h1 h2
  omega
theorem lstep_len (span : Int) (s : LL × LL) (e : Ev) : (lstep span s e).1.length + (lstep span s e).2.length ≤ s.1.length + s.2.length + 1 := by
  have h := live_gone_len span e.t s.1
  unfold lstep
  dsimp only
  rw [List.length_append]
  split
  · rw [List.length_append]; simp only [List.length_singleton]; omega
  · rw [red_len]; omega
theorem lrun_len (span : Int) : ∀ (log : List Ev) (s : LL × LL), (lrun span s log).1.length + (lrun span s log).2.length ≤ s.1.length + s.2.length + log.length
  | [], _ => Nat.le_refl _
  | e :: r, s => by
    have h := lrun_len span r (lstep span s e)
    have h2 := lstep_len span s e
    show (lrun span (lstep span s e) r).1.length + (lrun span (lstep span s e) r).2.length ≤ _
    rw [List.length_cons]
    omega
end K16
-- part KL2
set_option Elab.async false
set_option linter.all false
set_option maxRecDepth 100000
set_option maxHeartbeats 4000000
/-! the law's lots: the walk -/
namespace K16
open PySem L2 K16M
abbrev sLots : Stmt := top 38
abbrev nLots : List Str := ["_law_log", "_law_span", "_law_until", "_law_lots_here", "_law_gone_here", "_law_index", "_law_kind_so", "_law_time", "_law_amount", "_law_lot", "_law_part"]
theorem scLots : FnScope nLots ["_law_log", "_law_span", "_law_until"] (defScope sLots) := ⟨rfl, rfl, rfl, by decide +kernel, rfl, by decide +kernel, by decide +kernel⟩
abbrev t9 (K : PySem.W.Frag) (i : Int) : TE := tOp (rIxL K) (tVar 9) (tC (.int i))
abbrev tEnd (K : PySem.W.Frag) : TE := tOp (rI0 fun i j => .int (i + j)) (t9 K 0) (tVar 1)
abbrev tPos (K : PySem.W.Frag) : TT := tTest (tOp (rI0 fun i j => .bl (decide (j < i))) (t9 K 1) (tC (.int 0)))
abbrev tLe (K : PySem.W.Frag) : TT := tTest (tOp (rI0 fun i j => .bl (decide (i ≤ j))) (tEnd K) (tVar 7))
abbrev tGt (K : PySem.W.Frag) : TT := tTest (tOp (rI0 fun i j => .bl (decide (j < i))) (tEnd K) (tVar 7))
abbrev spLots : Sp := fun vs H Q _ => ∃ (a : Addr) (span u : Int) (evs : List Ev), vs = [.ref a, .int span, .int u] ∧ LogAt H a evs ∧ Good span u evs ∧ evs.length ≤ 100 ∧
  ∀ (H' : Hp) (t l g : Addr) (xs zs : List V), Kp [] H H' → H' t = some (.tup [.ref l, .ref g, .non]) → H' l = some (.lst xs) → RefsTo H' lsO xs (lotsL span u evs).1 → H' g = some (.lst zs) → RefsTo H' p2O zs (lotsL span u evs).2 → Q (.ref t) H'
/-- the slots -/
abbrev sgL (a : Addr) (span u : Int) (l g : Addr) (i5 k6 : Option V) (t : Int) (n8 l9 p10 : Option V) : L2.St := [some (.ref a), some (.int span), some (.int u), some (.ref l), some (.ref g), i5, k6, some (.int t), n8, l9, p10]
section
variable {K : PySem.W.Frag} {H0 H : Hp} {a l g : Addr} {span u t : Int} {i5 k6 n8 l9 p10 : Option V} {L : LA} {Q : VK}
theorem lot_le {q : Addr × (Int × Int)} {H2 : Hp} {i5 k6 n8 l9 p10 : Option V} {x : V} {Qt : Bool → Hp → Prop} (hx : x = rf q) (hq : H2 q.1 = some (lsO q.2)) (h : Qt (decide (q.2.1 + span ≤ t) && decide (0 < q.2.2)) H2) : tAnd (tLe K) (tPos K) (inC (sgL a span u l g i5 k6 t n8 l9 p10) 9 x) H2 Qt := by
  subst hx
  refine ⟨_, rfl, q.1, _, 0, .int q.2.1, rfl, rfl, SqL.of hq, atI_nat (j := 0) rfl, _, rfl, _, _, rfl, rfl, _, rfl, _, _, rfl, rfl, _, rfl, ?_⟩
  cases e : decide (q.2.1 + span ≤ t) with
  | false =>
    rw [e, Bool.false_and] at h
    exact iteF h
  | true =>
    rw [e, Bool.true_and] at h
    exact iteT ⟨_, rfl, q.1, _, 1, .int q.2.2, rfl, rfl, SqL.of hq, atI_nat (j := 1) rfl, _, _, rfl, rfl, _, rfl, h⟩
theorem lot_gt {q : Addr × (Int × Int)} {H2 : Hp} {i5 k6 n8 l9 p10 : Option V} {x : V} {Qt : Bool → Hp → Prop} (hx : x = rf q) (hq : H2 q.1 = some (lsO q.2)) (h : Qt (decide (t < q.2.1 + span) && decide (0 < q.2.2)) H2) : tAnd (tGt K) (tPos K) (inC (sgL a span u l g i5 k6 t n8 l9 p10) 9 x) H2 Qt := by
  subst hx
  refine ⟨_, rfl, q.1, _, 0, .int q.2.1, rfl, rfl, SqL.of hq, atI_nat (j := 0) rfl, _, rfl, _, _, rfl, rfl, _, rfl, _, _, rfl, rfl, _, rfl, ?_⟩
  cases e : decide (t < q.2.1 + span) with
  | false =>
    rw [e, Bool.false_and] at h
    exact iteF h
  | true =>
    rw [e, Bool.true_and] at h
    exact iteT ⟨_, rfl, q.1, _, 1, .int q.2.2, rfl, rfl, SqL.of hq, atI_nat (j := 1) rfl, _, _, rfl, rfl, _, rfl, h⟩
theorem rf_at {j : Nat} {x : V} {q : Addr × (Int × Int)} (hx : (L.map rf)[j]? = some x) (hq : L[j]? = some q) : x = rf q := by
  rw [List.getElem?_map, hq] at hx
  exact (Option.some.inj hx).symm
theorem gone_map (L : LA) : (L.filter fun q => decide (q.2.1 + span ≤ t) && decide (0 < q.2.2)).map (fun q => (q.2.1 + span, q.2.2)) = goneL span t (L.map (·.2)) := by
  unfold goneL
  rw [List.filter_map, List.map_map]
  rfl
theorem live_map (L : LA) : (L.filter fun q => decide (t < q.2.1 + span) && decide (0 < q.2.2)).map (·.2) = liveL span t (L.map (·.2)) := by
  unfold liveL
  rw [List.filter_map]
  rfl
theorem lots_c1 (hl : H l = some (.lst (L.map rf))) (hL : LotsAt H0 H L) (hz : L.length ≤ 1000)
    (q : ∀ D H' zs, Kp [] H H' → H D = none → H' D = some (.lst zs) → RefsTo H' p2O zs (goneL span t (L.map (·.2))) → Q (.ref D) H') :
    LcB (gName 9) (tAnd (tLe K) (tPos K)) (tTup (tCons (tEnd K) (tCons (t9 K 1) tNil))) [9] (sgL a span u l g i5 k6 t n8 l9 p10) Q (Itl K l) H := by
  refine rd_lcT (xs := L.map rf) (l := L) (c := fun q => decide (q.2.1 + span ≤ t) && decide (0 < q.2.2)) walk_list (fun H2 kk => SqL.kp hl kk) (by show 9 < 11; decide) (List.length_map _) (by rw [List.length_map]; exact hz) (fun q => p2O (q.2.1 + span, q.2.2)) (fun q => ⟨_, rfl⟩)
    (fun j x q H3 Qt hx hq k3 h => lot_le (rf_at hx hq) (k3.all _ _ (by simp) (hL.at_ q (List.mem_of_getElem? hq))) h) (fun j x q H3 Qe hx hq _ k3 h => ?_) (fun D H' zs kk hD hD' hzs => q D H' zs kk hD hD' ?_)
  · have hq' := k3.all _ _ (by simp) (hL.at_ q (List.mem_of_getElem? hq))
    obtain rfl := rf_at hx hq
    exact ⟨_, rfl, q.1, _, 0, .int q.2.1, rfl, rfl, SqL.of hq', atI_nat (j := 0) rfl, _, rfl, _, _, rfl, rfl, _, rfl, q.1, _, 1, .int q.2.2, rfl, rfl, SqL.of hq', atI_nat (j := 1) rfl, (by show 2 ≤ sizeLine; decide), h⟩
  · rw [← gone_map]
    exact mapTo (f := fun q : Addr × (Int × Int) => (q.2.1 + span, q.2.2)) hzs
theorem lots_c2 (hl : H l = some (.lst (L.map rf))) (hL : LotsAt H0 H L) (hz : L.length ≤ 1000)
    (q : ∀ D, H D = none → Q (.ref D) (upd H D (.lst ((L.filter fun q => decide (t < q.2.1 + span) && decide (0 < q.2.2)).map rf)))) :
    LcB (gName 9) (tAnd (tGt K) (tPos K)) (tVar 9) [9] (sgL a span u l g i5 k6 t n8 l9 p10) Q (Itl K l) H :=
  rd_lcV (xs := L.map rf) (l := L) (c := fun q => decide (t < q.2.1 + span) && decide (0 < q.2.2)) walk_list (fun H2 kk => SqL.kp hl kk) (by show 9 < 11; decide) (List.length_map _) (by rw [List.length_map]; exact hz) rf
    (fun j x q H3 Qt hx hq k3 h => lot_gt (rf_at hx hq) (k3.all _ _ (by simp) (hL.at_ q (List.mem_of_getElem? hq))) h) (fun j x q H3 Qe hx hq _ k3 h => ⟨_, rfl, by rw [rf_at hx hq]; exact h⟩) q
theorem lots_sum (hl : H l = some (.lst (L.map rf))) (hL : LotsAt H0 H L) (hz : L.length ≤ 1000)
    (q : ∀ D, H D = none → Q (.ref D) (upd H D (.lst (L.map fun q => .int q.2.2)))) : LcB (gName 9) tYes (t9 K 1) [9] (sgL a span u l g i5 k6 t n8 l9 p10) Q (Itl K l) H :=
  rd_lcV (xs := L.map rf) (l := L) (c := fun _ => true) walk_list (fun H2 kk => SqL.kp hl kk) (by show 9 < 11; decide) (List.length_map _) (by rw [List.length_map]; exact hz) (fun q => .int q.2.2)
    (fun j x q H3 Qt hx hq k3 h => h) (fun j x q H3 Qe hx hq _ k3 h => by
      have hq' := k3.all _ _ (by simp) (hL.at_ q (List.mem_of_getElem? hq))
      obtain rfl := rf_at hx hq
      exact ⟨_, rfl, q.1, _, 1, .int q.2.2, rfl, rfl, SqL.of hq', atI_nat (j := 1) rfl, h⟩) (by rw [filt_yes]; exact q)
theorem lots_fin {σ : L2.St} (hσ : 9 < σ.length) (hl : H l = some (.lst (L.map rf))) (hL : LotsAt H0 H L) (hz : L.length ≤ 1000)
    (q : ∀ D, H D = none → Q (.ref D) (upd H D (.lst ((L.filter fun q => decide (0 < q.2.2)).map rf)))) : LcB (gName 9) (tPos K) (tVar 9) [9] σ Q (Itl K l) H :=
  rd_lcV (xs := L.map rf) (l := L) (c := fun q => decide (0 < q.2.2)) walk_list (fun H2 kk => SqL.kp hl kk) hσ (List.length_map _) (by rw [List.length_map]; exact hz) rf
    (fun j x q H3 Qt hx hq k3 h => by
      have hq' := k3.all _ _ (by simp) (hL.at_ q (List.mem_of_getElem? hq))
      obtain rfl := rf_at hx hq
      exact ⟨_, inC_at hσ, q.1, _, 1, .int q.2.2, rfl, rfl, SqL.of hq', atI_nat (j := 1) rfl, _, _, rfl, rfl, _, rfl, h⟩) (fun j x q H3 Qe hx hq _ k3 h => ⟨_, inC_at hσ, by rw [rf_at hx hq]; exact h⟩) q
end
/-! ### the inner loop -/
abbrev tPartL (K : PySem.W.Frag) : TE := tIf (tTest (tOp rEq (tVar 6) (tC (.str "spend")))) (tCB (fun xs H Q => ∃ i j, xs = [V.int i, V.int j] ∧ Q (.int (if j < i then j else i)) H) (tCons (t9 K 1) (tCons (tVar 8) tNil))) (tC (.int 0))
abbrev tbIn (K : PySem.W.Frag) : TS := tSeq (tAsg (tPartL K) (gName 10)) (tAsg (tTup (tCons (tOp (rI0 fun i j => .int (i - j)) (t9 K 1) (tVar 10)) (tCons (tOp (rI0 fun i j => .int (i - j)) (tVar 8) (tVar 10)) tNil))) (gTup K 2 (gCons (gSub (tVar 9) (tC (.int 1)) rSetL) (gCons (gName 8) gNil))))
theorem lots_in {K : PySem.W.Frag} {H0 H : Hp} {a l g : Addr} {span u t n : Int} {i5 l9 p10 : Option V} {L : LA} {D : Ends} {kd : Str} {pf : Int → Int → Int} (hk : (kd = "spend" ∧ pf = fun m a => min m a) ∨ (kd ≠ "spend" ∧ pf = fun _ _ => 0))
    (hl : H l = some (.lst (L.map rf))) (hL : LotsAt H0 H L)
    (q : ∀ H' n8' l9' p10', Kp (L.map (·.1)) H H' → LotsAt H0 H' (genL pf n L) → D.nx (sgL a span u l g i5 (some (.str kd)) t n8' l9' p10') H') :
    tFor (iList K (tVar 3)) (gName 9) (tbIn K) D (sgL a span u l g i5 (some (.str kd)) t (some (.int n)) l9 p10) H := by
  have hln : l ∉ L.map (·.1) := fun z => by
    obtain ⟨q, hq, e⟩ := List.mem_map.mp z
    exact ne_lot hl (hL.at_ q hq) rf_refs e
  refine ⟨_, rfl, l, rfl, ⟨_, SqL.of hl⟩, for_it (walk_list (xs := L.map rf)) (fun j σ H2 => ∃ l9 p10, σ = sgL a span u l g i5 (some (.str kd)) t (some (.int (genA pf n (L.take j)))) l9 p10 ∧ Kp (L.map (·.1)) H H2 ∧ (∀ q ∈ genL pf n (L.take j), H2 q.1 = some (lsO q.2)) ∧ (∀ q ∈ L.drop j, H2 q.1 = some (lsO q.2)))
    ⟨l9, p10, rfl, .refl, (fun _ h => nomatch h), hL.at_⟩ (fun j σ H2 _ h => by
      obtain ⟨_, _, _, kk, _⟩ := h
      exact SqL.of (kk.all l _ hln hl)) ?_ ?_⟩
  · rintro j x σ H2 H2' hj ⟨l9, p10, rfl, kk, h1, h2⟩ ⟨rfl, hx⟩
    have hjl : j < L.length := by rw [List.length_map] at hj; exact hj
    have hq0 : L[j]? = some L[j] := List.getElem?_eq_getElem hjl
    have ed : L.drop j = L[j] :: L.drop (j + 1) := (List.getElem_cons_drop hjl).symm
    have et : L.take (j + 1) = L.take j ++ [L[j]] := by rw [List.take_add_one, hq0]; rfl
    obtain rfl := rf_at hx hq0
    rw [et, gen_snoc, genA_snoc]
    rw [ed] at h2
    have hm : L[j] ∈ L := List.getElem_mem _
    have hdist : ∀ q ∈ L.drop (j + 1), q.1 ≠ L[j].1 := fun q hq z => by
      have nd := hL.nd
      rw [← List.take_append_drop j L, List.map_append, ed, List.map_cons] at nd
      have := (List.nodup_append.mp nd).2.1
      rw [List.nodup_cons] at this
      exact this.1 (List.mem_map.mpr ⟨q, hq, z⟩)
    have hdist2 : ∀ q ∈ genL pf n (L.take j), q.1 ≠ L[j].1 := fun q hq z => by
      have nd := hL.nd
      rw [← List.take_append_drop j L, List.map_append, ed, List.map_cons] at nd
      have hm1 : q.1 ∈ (genL pf n (L.take j)).map (·.1) := List.mem_map.mpr ⟨q, hq, rfl⟩
      rw [gen_fst] at hm1
      exact (List.nodup_append.mp nd).2.2 _ hm1 _ (List.mem_cons_self) z
    generalize hq0e : L[j] = q0 at *
    obtain ⟨r, tt, m⟩ := q0
    generalize genA pf n (L.take j) = A at *
    have hr : H2' r = some (lsO (tt, m)) := h2 _ List.mem_cons_self
    have hpart : ∀ R : VK, R (.int (pf m A)) H2' → tPartL K (sgL a span u l g i5 (some (.str kd)) t (some (.int A)) (some (rf (r, tt, m))) p10) H2' R := fun R h => by
      refine ⟨_, rfl, rfl, _, rfl, ?_⟩
      rcases hk with ⟨rfl, rfl⟩ | ⟨hk, rfl⟩
      · rw [decide_eq_true rfl]
        refine iteT ⟨_, rfl, r, _, 1, .int m, rfl, rfl, SqL.of hr, atI_nat (j := 1) rfl, _, rfl, _, _, rfl, ?_⟩
        have e : (if A < m then A else m) = min m A := by
          split <;> omega
        rw [e]
        exact h
      · rw [decide_eq_false (fun z => hk (by cases z; rfl))]
        exact iteF h
    refine hpart _ ⟨_, rfl, r, _, 1, .int m, rfl, rfl, SqL.of hr, atI_nat (j := 1) rfl, _, rfl, _, _, rfl, rfl, _, rfl, _, rfl, _, _, rfl, rfl, (by show 2 ≤ sizeLine; decide), fun T hT => ?_⟩
    dsimp only at hT ⊢
    have kT : Kp (L.map (·.1)) H2' (upd H2' T (.tup [.int (m - pf m A), .int (A - pf m A)])) := Kp.new hT
    have hr3 : upd H2' T (.tup [.int (m - pf m A), .int (A - pf m A)]) r = some (lsO (tt, m)) := by rw [upd_ne (ne_of_none hr hT)]; exact hr
    have hT3 : upd H2' T (.tup [.int (m - pf m A), .int (A - pf m A)]) T = some (.tup [.int (m - pf m A), .int (A - pf m A)]) := upd_same
    have k3 := kk.trans kT
    have h13 : ∀ q ∈ genL pf n (L.take j), upd H2' T (.tup [.int (m - pf m A), .int (A - pf m A)]) q.1 = some (lsO q.2) := fun q hq => by
      rw [upd_ne (ne_of_none (h1 q hq) hT)]; exact h1 q hq
    have h23 : ∀ q ∈ L.drop (j + 1), upd H2' T (.tup [.int (m - pf m A), .int (A - pf m A)]) q.1 = some (lsO q.2) := fun q hq => by
      rw [upd_ne (ne_of_none (h2 q (List.mem_cons_of_mem _ hq)) hT)]; exact h2 q (List.mem_cons_of_mem _ hq)
    generalize upd H2' T (.tup [.int (m - pf m A), .int (A - pf m A)]) = H3 at kT hr3 hT3 k3 h13 h23 ⊢
    refine ⟨T, _, rfl, SqT.of hT3, rfl, _, _, rfl, _, rfl, r, _, 1, 1, rfl, rfl, hr3, rfl, _, _, rfl, rfl, some (rf (r, tt, m)), some (.int (pf m A)), rfl, k3.trans (Kp.set hr3 (List.mem_map.mpr ⟨_, hm, rfl⟩) (fun _ z => by cases z)), fun q hq => ?_, fun q hq => ?_⟩
    · rcases List.mem_append.mp hq with z | z
      · rw [upd_ne (hdist2 q z)]
        exact h13 q z
      · rw [List.mem_singleton.mp z]
        exact upd_same
    · rw [upd_ne (hdist q hq)]
      exact h23 q hq
  · rintro σ H2 ⟨l9, p10, rfl, kk, h1, h2⟩
    rw [List.length_map, List.take_length] at h1
    refine q H2 _ _ _ kk ⟨h1, fun q hq => ?_, by rw [gen_fst]; exact hL.nd⟩
    have : q.1 ∈ (genL pf n L).map (·.1) := List.mem_map.mpr ⟨q, hq, rfl⟩
    rw [gen_fst] at this
    obtain ⟨q', hq', e⟩ := List.mem_map.mp this
    rw [← e]
    exact hL.new q' hq'
/-! ### the outer loop -/
def stX (span u : Int) (evs : List Ev) (j : Nat) : LL × LL := if j ≤ evs.length then lrun span ([], []) (evs.take j) else lotsL span u evs
def LotsPv (Hb : Hp) (a : Addr) (span u : Int) (st : LL × LL) (σ : L2.St) (H2 : Hp) : Prop :=
  ∃ (l g : Addr) (i5 k6 t7 n8 l9 p10 : Option V) (L : LA) (zs : List V), σ = [some (.ref a), some (.int span), some (.int u), some (.ref l), some (.ref g), i5, k6, t7, n8, l9, p10] ∧ Kp [] Hb H2 ∧ H2 l = some (.lst (L.map rf)) ∧ LotsAt Hb H2 L ∧ L.map (·.2) = st.1 ∧ H2 g = some (.lst zs) ∧ RefsTo H2 p2O zs st.2
theorem lots_tail {K : PySem.W.Frag} {Hb H : Hp} {a l g : Addr} {span u t n : Int} {i5 l9 p10 : Option V} {L : LA} {zs : List V} {st : LL × LL} {D : Ends} {kd : Str} {pf : Int → Int → Int} (hk : (kd = "spend" ∧ pf = fun m a => min m a) ∨ (kd ≠ "spend" ∧ pf = fun _ _ => 0))
    (hl : H l = some (.lst (L.map rf))) (hL : LotsAt Hb H L) (kk : Kp [] Hb H) (hg : H g = some (.lst zs)) (hzs : RefsTo H p2O zs st.2) (e1 : (genL pf n L).map (·.2) = st.1) (hD : ∀ σ' H', LotsPv Hb a span u st σ' H' → D.nx σ' H') :
    tFor (iList K (tVar 3)) (gName 9) (tbIn K) D (sgL a span u l g i5 (some (.str kd)) t (some (.int n)) l9 p10) H := by
  refine lots_in hk hl hL fun H' n8' l9' p10' k' hL' => hD _ _ ⟨l, g, _, _, _, _, _, _, genL pf n L, zs, rfl, ?_, ?_, hL', e1, ?_, ?_⟩
  · exact ((kk.mono (by simp)).trans k').old fun b hb _ => by
      obtain ⟨q, hq, rfl⟩ := List.mem_map.mp hb
      exact hL.new q hq
  · rw [gen_refs]
    exact k'.all l _ (fun z => by
      obtain ⟨q, hq, e⟩ := List.mem_map.mp z
      exact ne_lot hl (hL.at_ q hq) rf_refs e) hl
  · exact k'.all g _ (fun z => by
      obtain ⟨q, hq, e⟩ := List.mem_map.mp z
      exact ne_lot hg (hL.at_ q hq) (RefsTo.refs hzs) e) hg
  · exact hzs.kp k' p2_tup
theorem r_tup {ta : TA} {σ : L2.St} {H : Hp} {Q : VK} (h : ta σ H fun vs H1 => vs.length ≤ sizeLine ∧ ∀ p, H1 p = none → Q (.ref p) (upd H1 p (.tup vs))) : tTup ta σ H Q := h
theorem live_pos {span u : Int} {l : LL} : ∀ p ∈ liveL span u l, 0 < p.2 := fun p hp => by
  have := (List.mem_filter.mp hp).2
  simp only [Bool.and_eq_true, decide_eq_true_eq] at this
  exact this.2
theorem sum_nonneg : ∀ {l : LL}, (∀ p ∈ l, 0 < p.2) → 0 ≤ sumL l
  | [], _ => by decide
  | p :: r, h => by
    have ih := sum_nonneg (l := r) fun q hq => h q (List.mem_cons_of_mem _ hq)
    have h0 := h p List.mem_cons_self
    show 0 ≤ p.2 + sumL r
    omega
theorem stX_step {span u : Int} {evs : List Ev} {j : Nat} {e : Ev} (h : evs[j]? = some e) : stX span u evs (j + 1) = lstep span (stX span u evs j) e := by
  have hj : j < evs.length := (List.getElem?_eq_some_iff.mp h).1
  unfold stX
  rw [if_pos (by omega), if_pos (by omega), List.take_add_one, h, lrun_app]
  rfl
theorem stX_last {span u : Int} {evs : List Ev} : stX span u evs (evs.length + 1) = (liveL span u (stX span u evs evs.length).1, (stX span u evs evs.length).2 ++ goneL span u (stX span u evs evs.length).1) := by
  unfold stX
  rw [if_neg (by omega), if_pos (Nat.le_refl _), List.take_length]
  rfl
theorem stX_len {span u : Int} {evs : List Ev} {j : Nat} (h : j ≤ evs.length) : (stX span u evs j).1.length + (stX span u evs j).2.length ≤ j := by
  unfold stX
  rw [if_pos h]
  have := lrun_len span (evs.take j) ([], [])
  rw [List.length_take] at this
  simp only [List.length_nil] at this
  omega
theorem lots_item {Hb : Hp} {span u : Int} {evs : List Ev} {es : List V} {sr : Addr} {j : Nat} {x : V} (hes : RefsTo Hb evO es evs) (hsr : Hb sr = some (.tup [.str "stop", .int u, .int 0])) (hg : Good span u evs) (hx : (es ++ [.ref sr])[j]? = some x) :
    j ≤ evs.length ∧ ∃ (r : Addr) (kd : Str) (t n : Int), x = .ref r ∧ Hb r = some (.tup [.str kd, .int t, .int n]) ∧ t ≤ u ∧
      ((kd = "earn" ∧ stX span u evs (j + 1) = (liveL span t (stX span u evs j).1 ++ [(t, n)], (stX span u evs j).2 ++ goneL span t (stX span u evs j).1)) ∨
       (kd = "spend" ∧ n ≤ sumL (liveL span t (stX span u evs j).1) ∧ stX span u evs (j + 1) = (redL n (liveL span t (stX span u evs j).1), (stX span u evs j).2 ++ goneL span t (stX span u evs j).1)) ∨
       (kd = "stop" ∧ n = 0 ∧ stX span u evs (j + 1) = (liveL span t (stX span u evs j).1, (stX span u evs j).2 ++ goneL span t (stX span u evs j).1))) := by
  have hl := hes.len
  have hj : j < (es ++ [V.ref sr]).length := (List.getElem?_eq_some_iff.mp hx).1
  rw [List.length_append, List.length_singleton, hl] at hj
  refine ⟨by omega, ?_⟩
  by_cases h : j < evs.length
  · have he : evs[j]? = some evs[j] := List.getElem?_eq_getElem h
    obtain ⟨r, hr, hre⟩ := hes.get he
    rw [List.getElem?_append_left (by omega), hr] at hx
    cases hx
    have hsplit : evs = evs.take j ++ evs[j] :: evs.drop (j + 1) := by rw [List.getElem_cons_drop, List.take_append_drop]
    have hstep := stX_step (span := span) (u := u) he
    obtain ⟨htu, hn1, _⟩ := ord_at hg.ord evs[j] (List.getElem_mem _)
    generalize evs[j] = e at *
    refine ⟨r, if e.k = true then "earn" else "spend", e.t, e.n, rfl, hre, htu, ?_⟩
    rw [hstep]
    unfold lstep
    cases hk : e.k with
    | true => exact .inl ⟨rfl, rfl⟩
    | false =>
      refine .inr (.inl ⟨rfl, ?_, rfl⟩)
      have := good_lcov hg hsplit hk
      unfold stX
      rw [if_pos (by omega)]
      exact this
  · have ej : j = evs.length := by omega
    subst ej
    rw [← hl, List.getElem?_append_right (Nat.le_refl _), Nat.sub_self] at hx
    cases hx
    exact ⟨sr, "stop", u, 0, rfl, hsr, Int.le_refl _, .inr (.inr ⟨rfl, rfl, stX_last⟩)⟩
theorem cat_stop {K : PySem.W.Frag} {H : Hp} {a x : Addr} {es : List V} {y : V} {Q : VK} (ha : H a = some (.tup es)) (hx : H x = some (.tup [y])) (hl : es.length ≤ 1000) (q : ∀ r H', Kp [] H H' → H' r = some (.tup (es ++ [y])) → Q (.ref r) H') : rCatA K (.ref a) (.ref x) H Q := by
  refine ⟨a, x, es, [y], rfl, rfl, SqT.of ha, SqT.of hx, (by rw [sizeLine_eq]; show es.length + 1 ≤ _; omega), fun e => ?_, fun _ e => (by cases e), fun _ _ p hp => q p _ (Kp.new hp) upd_same⟩
  subst e
  exact q x H .refl hx
section
variable {P : Program} {w : World} {K : PySem.W.Frag} {mg : Str → Option Value} {base : Heap}
theorem ok_lots {f : Addr} {fd : FuncData} (F : Fun K "_law_lots" "_law_lots" sLots f fd) (hsu : mg "sum" = none) (hmi : mg "min" = none) (hen : mg "enumerate" = none) : FnOk P w K mg base CX0 1 f fd ["_law_log", "_law_span", "_law_until"] spLots := by
  refine F.ok scLots (fun vs H Q E h => ?_) (fun cdv A outer s H vs Q E hr h => ?_)
  · obtain ⟨a, span, u, evs, rfl, _⟩ := h
    rfl
  · obtain ⟨a, span, u, evs, rfl, hlog, hgood, hlen, k⟩ := h
    refine ⟨_, pss_cons (ps_par (i := 3) (j := 4) rfl scLots.nd rfl rfl (by decide) rfl rfl (pa_cons (pe_lst pa_nil) (pa_cons (pe_lst pa_nil) pa_nil)) rfl)
      (pss_cons (ps_for PassesOwn.never rfl (pi_enumB rfl hen (pa_cons (pe_op op_catA (pv 0) (pe_tup (pa_cons (pe_tup (pa_cons pe_str (pa_cons (pv 2) (pa_cons pe_int pa_nil)))) pa_nil))) pa_nil))
        (pg_tup rfl (pgs_cons (pg_name (i := 5) scLots.nd rfl (Or.inl rfl)) (pgs_cons (pg_tup rfl (pgs_cons (pg_name (i := 6) scLots.nd rfl (Or.inl rfl)) (pgs_cons (pg_name (i := 7) scLots.nd rfl (Or.inr rfl)) (pgs_cons (pg_name (i := 8) scLots.nd rfl (Or.inl rfl)) pgs_nil)))) pgs_nil)))
        (pss_one (ps_if (pt_cmpR op_le (pv 7) (pv 2) (nomark _))
          (pss_cons (ps_set (i := 4) scLots.nd rfl (Or.inl rfl) (pe_op op_cat (pv 4) (pe_lc (own := [("_law_lot", 9)]) (g := gName 9) (tt := tAnd (tLe K) (tPos K)) (te := tTup (tCons (tEnd K) (tCons (t9 K 1) tNil))) rfl scLots.nd (pi_list (pv 3)) (blkOk_by (N := nLots) (sc := defScope sLots) (by decide +kernel))
            (fun _ _ _ _ _ => pg_name (i := 9) scLots.nd rfl (Or.inl rfl))
            (fun _ _ _ _ _ => pts_one (pw_and (pt_cmpR op_le (pe_op op_add (pe_ix ix_list (pv 9) pe_int (fun _ _ => rfl)) (pv 1)) (pv 7) (nomark _)) (pw_and1 (pt_cmpR op_gt (pe_ix ix_list (pv 9) pe_int (fun _ _ => rfl)) pe_int (nomark _)))).pt)
            (fun _ _ _ _ _ => pe_tup (pa_cons (pe_op op_add (pe_ix ix_list (pv 9) pe_int (fun _ _ => rfl)) (pv 1)) (pa_cons (pe_ix ix_list (pv 9) pe_int (fun _ _ => rfl)) pa_nil))))))
          (pss_cons (ps_setLc (i := 3) (own := [("_law_lot", 9)]) (g := gName 9) (tt := tAnd (tGt K) (tPos K)) (te := tVar 9) rfl scLots.nd rfl rfl (sw_true rfl rfl rfl (by decide +kernel)) (pi_list (pv 3)) (blkOk_by (N := nLots) (sc := defScope sLots) (by decide +kernel))
            (fun _ _ _ _ _ => pg_name (i := 9) scLots.nd rfl (Or.inl rfl))
            (fun _ _ _ _ _ => pts_one (pw_and (pt_cmpR op_gt (pe_op op_add (pe_ix ix_list (pv 9) pe_int (fun _ _ => rfl)) (pv 1)) (pv 7) (nomark _)) (pw_and1 (pt_cmpR op_gt (pe_ix ix_list (pv 9) pe_int (fun _ _ => rfl)) pe_int (nomark _)))).pt)
            (fun _ _ _ _ _ => pv 9))
          (pss_cons (ps_if (pt_cmpR op_eq (pv 6) pe_str (nomark _))
              (pss_one (ps_expr (pe_bm PySem.F.plainAttrs_list PySem.F.slot_list_append PySem.F.type_list_append mt_append (pv 3) (pa_cons (pe_lst (pa_cons (pv 7) (pa_cons (pv 8) pa_nil))) pa_nil))))
              (pss_one (ps_if (pt_cmpR op_lt (pe_callB (cr_sum rfl) (by rfl) hsu (by decide +kernel) (pa_cons (pe_lc (own := [("_law_lot", 9)]) (g := gName 9) (tt := tYes) (te := t9 K 1) rfl scLots.nd (pi_list (pv 3)) (blkOk_by (N := nLots) (sc := defScope sLots) (by decide +kernel))
                  (fun _ _ _ _ _ => pg_name (i := 9) scLots.nd rfl (Or.inl rfl)) (fun _ _ _ _ _ => pts_nil) (fun _ _ _ _ _ => pe_ix ix_list (pv 9) pe_int (fun _ _ => rfl))) pa_nil)) (pv 8) (nomark _))
                (pss_one (ps_ret (pe_tup (pa_cons (pv 3) (pa_cons (pv 4) (pa_cons (pv 5) pa_nil)))))) pss_nil)))
          (pss_one (ps_for PassesOwn.never rfl (pi_list (pv 3)) (pg_name (i := 9) scLots.nd rfl (Or.inl rfl))
            (pss_cons (ps_set (i := 10) scLots.nd rfl (Or.inl rfl) (pe_ifExp (pt_cmpR op_eq (pv 6) pe_str (nomark _)) (pe_callB (call_min2 rfl) (by rfl) hmi (by decide +kernel) (pa_cons (pe_ix ix_list (pv 9) pe_int (fun _ _ => rfl)) (pa_cons (pv 8) pa_nil))) pe_int))
            (pss_one (ps_asg (pe_tup (pa_cons (pe_op op_sub (pe_ix ix_list (pv 9) pe_int (fun _ _ => rfl)) (pv 10)) (pa_cons (pe_op op_sub (pv 8) (pv 10)) pa_nil))) (pg_tup rfl (pgs_cons (pg_sub (pv 9) pe_int set_list) (pgs_cons (pg_name (i := 8) scLots.nd rfl (Or.inl rfl)) pgs_nil)))))))))))
          pss_nil)))
      (pss_one (ps_ret (pe_tup (pa_cons (pe_lc (own := [("_law_lot", 9)]) (g := gName 9) (tt := tPos K) (te := tVar 9) rfl scLots.nd (pi_list (pv 3)) (blkOk_by (N := nLots) (sc := defScope sLots) (by decide +kernel))
            (fun _ _ _ _ _ => pg_name (i := 9) scLots.nd rfl (Or.inl rfl))
            (fun _ _ _ _ _ => pts_one (pt_cmpR op_gt (pe_ix ix_list (pv 9) pe_int (fun _ _ => rfl)) pe_int (nomark _)))
            (fun _ _ _ _ _ => pv 9)) (pa_cons (pv 4) (pa_cons pe_non pa_nil))))))), ?_⟩
    have hz0 : (0 : Nat) ≤ sizeLine := Nat.zero_le _
    refine ⟨hz0, fun l1 h1 => ⟨hz0, fun g1 hg1 => ⟨_, _, rfl, ?_⟩⟩⟩
    have n1 : g1 ≠ l1 := fun z => by rw [z, upd_same] at hg1; cases hg1
    have k1 : Kp [] H (upd (upd H l1 (.lst [])) g1 (.lst [])) := (Kp.new h1).trans (Kp.new hg1)
    have e1 : upd (upd H l1 (.lst [])) g1 (.lst []) l1 = some (.lst []) := by rw [upd_ne (Ne.symm n1), upd_same]
    have e2 : upd (upd H l1 (.lst [])) g1 (.lst []) g1 = some (.lst []) := upd_same
    generalize upd (upd H l1 (.lst [])) g1 (.lst []) = H1 at k1 e1 e2 ⊢
    refine ⟨_, rfl, _, rfl, (by show 3 ≤ sizeLine; decide), fun sr hsr => ⟨(by show 1 ≤ sizeLine; decide), fun x hx => ?_⟩⟩
    have k2 : Kp [] H1 (upd H1 sr (.tup [.str "stop", .int u, .int 0])) := Kp.new hsr
    have e3 : upd H1 sr (.tup [.str "stop", .int u, .int 0]) sr = some (.tup [.str "stop", .int u, .int 0]) := upd_same
    generalize upd H1 sr (.tup [.str "stop", .int u, .int 0]) = H2 at k2 e3 hx ⊢
    have k3 : Kp [] H2 (upd H2 x (.tup [.ref sr])) := Kp.new hx
    have e4 : upd H2 x (.tup [.ref sr]) x = some (.tup [.ref sr]) := upd_same
    have kk := (k1.trans k2).trans k3
    have e5 := k3.tup sr _ e3
    have e6 := (k2.trans k3).all l1 _ (by simp) e1
    have e7 := (k2.trans k3).all g1 _ (by simp) e2
    generalize upd H2 x (.tup [.ref sr]) = H3 at k3 e4 kk e5 e6 e7 ⊢
    obtain ⟨es, hes, hrf⟩ := hlog.kp kk
    refine cat_stop hes e4 (by rw [hrf.len]; omega) (fun r Hb kb hr' => ⟨r, rfl, .inr ⟨_, SqT.of hr', for_it (walk_enumT (K := K)) (fun j σ H2 => LotsPv Hb a span u (stX span u evs j) σ H2) ?_ (fun j σ H2 _ h => by
        obtain ⟨_, _, _, _, _, _, _, _, _, _, _, kq, _⟩ := h
        exact SqT.kp hr' kq) ?_ ?_⟩⟩)
    · exact ⟨l1, g1, none, none, none, none, none, none, [], [], rfl, .refl, kb.all l1 _ (by simp) e6, .nil, rfl, kb.all g1 _ (by simp) e7, .nil⟩
    · rintro j x σ H4 H4' hj ⟨l, g, i5, k6, t7, n8, l9, p10, L, zs, rfl, k4, hl4, hL4, eL, hg4, hzs4⟩ ⟨T, ix, y, rfl, hTn, rfl, hix, hy⟩
      cases hix
      have hrf' := hrf.kp kb ev_tup
      have e5' := kb.tup sr _ e5
      obtain ⟨hje, r, kd, t, n, rfl, hrr, htu, hcase⟩ := lots_item hrf' e5' hgood hy
      have hsl := stX_len (span := span) (u := u) hje
      have kT : Kp [] H4 (upd H4 T (.tup [.int (j : Nat), .ref r])) := Kp.new hTn
      have kk4 := k4.trans kT
      have hr4 := kk4.tup r _ hrr
      have hl5 := kT.all l _ (by simp) hl4
      have hL5 := hL4.kp kT
      have hg5 := kT.all g _ (by simp) hg4
      have hzs5 := hzs4.kp kT p2_tup
      refine ⟨T, _, rfl, SqT.of upd_same, rfl, _, _, rfl, _, _, rfl, r, _, rfl, SqT.of hr4, rfl, _, _, rfl, _, _, rfl, _, _, rfl, rfl, rfl, ?_⟩
      generalize upd H4 T (.tup [.int (j : Nat), .ref r]) = H5 at kT kk4 hr4 hl5 hL5 hg5 hzs5 ⊢
      generalize hS : stX span u evs j = S at *
      have hLl : L.length = S.1.length := by rw [← eL, List.length_map]
      refine ⟨_, rfl, _, rfl, t, u, rfl, rfl, _, rfl, ?_⟩
      rw [decide_eq_true htu]
      refine iteT ?_
      refine r_seq (r_asg (r_op ⟨_, rfl, r_lc (r_iList ⟨_, rfl, l, rfl, ⟨_, SqL.of hl5⟩, lots_c1 hl5 hL5 (by omega) fun D H6 gs k6 hD hD6 hgs => ?_⟩)⟩))
      rw [eL] at hgs
      have hg6 := k6.all g _ (by simp) hg5
      have hl6 := k6.all l _ (by simp) hl5
      have hL6 := hL5.kp k6
      have hzs6 := hzs5.kp k6 p2_tup
      have kk6 := kk4.trans k6
      have hgl := live_gone_len span t S.1
      refine ⟨g, D, zs, gs, rfl, rfl, hg6, hD6, (by rw [sizeLine_eq, hzs6.len, hgs.len]; omega), fun p hp => ?_⟩
      have k7 : Kp [] H6 (upd H6 p (.lst (zs ++ gs))) := Kp.new hp
      have hp7 : upd H6 p (.lst (zs ++ gs)) p = some (.lst (zs ++ gs)) := upd_same
      have hl7 := k7.all l _ (by simp) hl6
      have hL7 := hL6.kp k7
      have hzg7 := (hzs6.app hgs).kp k7 p2_tup
      have kk7 := kk6.trans k7
      change tSeq (tAsg (tLc (iList K (tVar 3)) (gName 9) (tAnd (tGt K) (tPos K)) (tVar 9) [9]) (gName 3)) _ _ (sgL a span u l p _ _ t _ _ _) (upd H6 p (.lst (zs ++ gs)))
      refine r_seq (r_asg (r_lc (r_iList ⟨_, rfl, l, rfl, ⟨_, SqL.of hl7⟩, lots_c2 hl7 hL7 (by omega) fun D2 hD2 => ?_⟩)))
      generalize upd H6 p (.lst (zs ++ gs)) = H7 at k7 hp7 hl7 hL7 hzg7 kk7 hD2 ⊢
      have eL1 := live_map (span := span) (t := t) L
      have hL7' := hL7.filter (fun q => decide (t < q.2.1 + span) && decide (0 < q.2.2))
      rw [eL] at eL1
      generalize hL1 : (L.filter fun q => decide (t < q.2.1 + span) && decide (0 < q.2.2)) = L1 at eL1 hL7' ⊢
      have k8 : Kp [] H7 (upd H7 D2 (.lst (L1.map rf))) := Kp.new hD2
      have hD8 : upd H7 D2 (.lst (L1.map rf)) D2 = some (.lst (L1.map rf)) := upd_same
      have hp8 := k8.all p _ (by simp) hp7
      have hL8 := hL7'.kp k8
      have hzg8 := hzg7.kp k8 p2_tup
      have kk8 := kk7.trans k8
      have hL1l : L1.length ≤ 100 := by
        have := congrArg List.length eL1
        rw [List.length_map] at this
        omega
      generalize upd H7 D2 (.lst (L1.map rf)) = H8 at k8 hD8 hp8 hL8 hzg8 kk8 ⊢
      rcases hcase with ⟨rfl, e⟩ | ⟨rfl, hcov, e⟩ | ⟨rfl, rfl, e⟩
      · refine ⟨_, rfl, rfl, _, rfl, ?_⟩
        rw [decide_eq_true rfl]
        refine iteT ⟨_, rfl, .inl ⟨rfl, _, SqL.of hD8⟩, _, rfl, _, rfl, (by show 2 ≤ sizeLine; decide), fun v hv => ?_⟩
        have kv : Kp [] H8 (upd H8 v (.lst [.int t, .int n])) := Kp.new hv
        have hv9 : upd H8 v (.lst [.int t, .int n]) v = some (lsO (t, n)) := upd_same
        have hD9 := kv.all D2 _ (by simp) hD8
        have hp9 := kv.all p _ (by simp) hp8
        have hL9 := hL8.kp kv
        have hzg9 := hzg8.kp kv p2_tup
        have kk9 := kk8.trans kv
        have hnv : ∀ q ∈ L1, q.1 ≠ v := fun q hq => ne_of_none (hL8.at_ q hq) hv
        have hvb : Hb v = none := kk8.free (by simp) hv
        refine ⟨D2, L1.map rf, .ref v, rfl, rfl, hD9, small1000 (by rw [List.length_map]; omega), ?_⟩
        have hD2b : Hb D2 = none := kk7.free (by simp) hD2
        have npD : p ≠ D2 := ne_of_none hp7 hD2
        have kw : Kp [] Hb (upd (upd H8 v (.lst [.int t, .int n])) D2 (.lst (L1.map rf ++ [.ref v]))) := kk9.fresh hD2b
        have kx : Kp [D2] (upd H8 v (.lst [.int t, .int n])) (upd (upd H8 v (.lst [.int t, .int n])) D2 (.lst (L1.map rf ++ [.ref v]))) := Kp.set hD9 (by simp) lst_tup
        have hDv : D2 ≠ v := ne_of_none hD8 hv
        have hLs : LotsAt Hb (upd (upd H8 v (.lst [.int t, .int n])) D2 (.lst (L1.map rf ++ [.ref v]))) (L1 ++ [(v, (t, n))]) := by
          have h0 : LotsAt Hb (upd (upd H8 v (.lst [.int t, .int n])) D2 (.lst (L1.map rf ++ [.ref v]))) L1 := ⟨fun q hq => by
            rw [upd_ne (ne_lot hD9 (hL9.at_ q hq) rf_refs)]
            exact hL9.at_ q hq, hL9.new, hL9.nd⟩
          exact h0.snoc (by rw [upd_ne (Ne.symm hDv)]; exact hv9) hvb hnv
        change tFor (iList K (tVar 3)) (gName 9) (tbIn K) _ (sgL a span u D2 p _ _ t _ _ _) _
        refine lots_tail (kd := "earn") (st := stX span u evs (j + 1)) (pf := fun _ _ => 0) (L := L1 ++ [(v, (t, n))]) (zs := zs ++ gs) (.inr ⟨by decide +kernel, rfl⟩) ?_ hLs kw ?_ ?_ ?_ (fun σ' H' h => h)
        · rw [upd_same, List.map_append]; rfl
        · rw [upd_ne npD]; exact hp9
        · rw [e]; exact hzg9.kp kx p2_tup
        · rw [gen_zero, e, List.map_append, eL1]; rfl
      · refine ⟨_, rfl, rfl, _, rfl, ?_⟩
        rw [show decide (V.str "spend" = V.str "earn") = false by decide +kernel]
        refine iteF ?_
        refine r_if (r_test (r_op (r_cb (r_cons (r_lc (r_iList ⟨_, rfl, D2, rfl, ⟨_, SqL.of hD8⟩, lots_sum hD8 hL8 (by omega) fun D3 hD3 => ?_⟩))))))
        have k9 : Kp [] H8 (upd H8 D3 (.lst (L1.map fun q => .int q.2.2))) := Kp.new hD3
        have e9 : upd H8 D3 (.lst (L1.map fun q => .int q.2.2)) D3 = some (.lst ((L1.map fun q => q.2.2).map V.int)) := by rw [upd_same, List.map_map]; rfl
        have hsum : (L1.map fun q => q.2.2).sum = sumL (liveL span t S.1) := by rw [← eL1]; unfold sumL; rw [List.map_map]; rfl
        refine ⟨D3, _, rfl, SqL.of e9, _, rfl, _, _, rfl, rfl, _, rfl, ?_⟩
        rw [decide_eq_false (by rw [hsum]; omega)]
        refine iteF ?_
        change tFor (iList K (tVar 3)) (gName 9) (tbIn K) _ (sgL a span u D2 p _ _ t _ _ _) _
        refine lots_tail (kd := "spend") (st := stX span u evs (j + 1)) (pf := fun m a => min m a) (L := L1) (zs := zs ++ gs) (.inl ⟨rfl, rfl⟩) (k9.all D2 _ (by simp) hD8) (hL8.kp k9) (kk8.trans k9) (k9.all p _ (by simp) hp8) ?_ ?_ (fun σ' H' h => h)
        · rw [e]; exact hzg8.kp k9 p2_tup
        · rw [gen_min, e, eL1]
      · refine ⟨_, rfl, rfl, _, rfl, ?_⟩
        rw [show decide (V.str "stop" = V.str "earn") = false by decide +kernel]
        refine iteF ?_
        refine r_if (r_test (r_op (r_cb (r_cons (r_lc (r_iList ⟨_, rfl, D2, rfl, ⟨_, SqL.of hD8⟩, lots_sum hD8 hL8 (by omega) fun D3 hD3 => ?_⟩))))))
        have k9 : Kp [] H8 (upd H8 D3 (.lst (L1.map fun q => .int q.2.2))) := Kp.new hD3
        have e9 : upd H8 D3 (.lst (L1.map fun q => .int q.2.2)) D3 = some (.lst ((L1.map fun q => q.2.2).map V.int)) := by rw [upd_same, List.map_map]; rfl
        have hsum : (L1.map fun q => q.2.2).sum = sumL (liveL span t S.1) := by rw [← eL1]; unfold sumL; rw [List.map_map]; rfl
        refine ⟨D3, _, rfl, SqL.of e9, _, rfl, _, _, rfl, rfl, _, rfl, ?_⟩
        rw [decide_eq_false (by rw [hsum]; have := sum_nonneg (live_pos (span := span) (u := t) (l := S.1)); omega)]
        refine iteF ?_
        change tFor (iList K (tVar 3)) (gName 9) (tbIn K) _ (sgL a span u D2 p _ _ t _ _ _) _
        refine lots_tail (kd := "stop") (st := stX span u evs (j + 1)) (pf := fun _ _ => 0) (L := L1) (zs := zs ++ gs) (.inr ⟨by decide +kernel, rfl⟩) (k9.all D2 _ (by simp) hD8) (hL8.kp k9) (kk8.trans k9) (k9.all p _ (by simp) hp8) ?_ ?_ (fun σ' H' h => h)
        · rw [e]; exact hzg8.kp k9 p2_tup
        · rw [gen_zero, e, eL1]
    · rintro σ H4 ⟨l, g, i5, k6, t7, n8, l9, p10, L, zs, rfl, k4, hl4, hL4, eL, hg4, hzs4⟩
      have hnl : (es ++ [V.ref sr]).length = evs.length + 1 := by rw [List.length_append, hrf.len]; rfl
      rw [hnl] at eL hzs4
      have eS : stX span u evs (evs.length + 1) = lotsL span u evs := by unfold stX; rw [if_neg (by omega)]
      rw [eS] at eL hzs4
      have hLl : L.length ≤ 1000 := by
        have h1 := congrArg List.length eL
        rw [List.length_map] at h1
        have h2 := live_gone_len span u (lrun span ([], []) evs).1
        have h3 := lrun_len span evs ([], [])
        have h4 : (lotsL span u evs).1 = liveL span u (lrun span ([], []) evs).1 := rfl
        rw [h4] at h1
        simp only [List.length_nil] at h3
        omega
      change tRet (tTup (tCons (tLc (iList K (tVar 3)) (gName 9) (tPos K) (tVar 9) [9]) (tCons (tVar 4) (tCons (tC .non) tNil)))) _ _ _
      refine r_ret (r_tup (r_cons (r_lc (r_iList ⟨_, rfl, l, rfl, ⟨_, SqL.of hl4⟩, lots_fin (by show 9 < 11; decide) hl4 hL4 hLl fun D hD => ?_⟩))))
      have k5 : Kp [] H4 (upd H4 D (.lst ((L.filter fun q => decide (0 < q.2.2)).map rf))) := Kp.new hD
      have hD5 : upd H4 D (.lst ((L.filter fun q => decide (0 < q.2.2)).map rf)) D = some (.lst ((L.filter fun q => decide (0 < q.2.2)).map rf)) := upd_same
      have ef : (L.filter fun q => decide (0 < q.2.2)) = L := List.filter_eq_self.mpr fun q hq => by
        have : q.2 ∈ (lotsL span u evs).1 := by rw [← eL]; exact List.mem_map.mpr ⟨q, hq, rfl⟩
        rw [decide_eq_true (live_pos _ this)]
      rw [ef] at k5 hD5 ⊢
      have hL5 := hL4.kp k5
      have hg5 := k5.all g _ (by simp) hg4
      have hzs5 := hzs4.kp k5 p2_tup
      refine ⟨_, rfl, (by show 3 ≤ sizeLine; decide), fun t ht => ?_⟩
      generalize upd H4 D (.lst (L.map rf)) = H5 at k5 hD5 hL5 hg5 hzs5 ht ⊢
      have k6 : Kp [] H5 (upd H5 t (.tup [.ref D, .ref g, .non])) := Kp.new ht
      have hr6 := lots_to (hL5.kp k6)
      rw [eL] at hr6
      exact k _ t D g _ zs (((kk.trans kb).trans (k4.trans k5)).trans k6) upd_same (k6.all D _ (by simp) hD5) hr6 (k6.all g _ (by simp) hg5) (hzs5.kp k6 p2_tup)
end
end K16
-- part KL3
set_option Elab.async false
set_option linter.all false
set_option maxRecDepth 100000
set_option maxHeartbeats 4000000
/-! _law_there, _law_merged -/
namespace K16
open PySem L2 K16M
abbrev sThere : Stmt := top 39
abbrev sLMerged : Stmt := top 41
/-- sums over lots that are lists -/
theorem rd_sndL {α : Type} {K : PySem.W.Frag} {i : Nat} {σ : L2.St} {H : Hp} {Q : VK} {xs : List V} {l : List α} {a : Addr} {g : α → HO} {n : α → Int} (ha : H a = some (.lst xs)) (hx : RefsTo H g xs l) (hg : ∀ p, ∃ zs, g p = .lst zs ∧ zs[1]? = some (.int (n p))) (hi : i < σ.length) (hz : xs.length ≤ 1000)
    (q : ∀ D, H D = none → Q (.ref D) (upd H D (.lst ((l.map n).map V.int)))) : LcB (gName i) tYes (tOp (rIxL K) (tVar i) (tC (.int 1))) [i] σ Q (Itl K a) H := by
  refine rd_lcV (l := l) (c := fun _ => true) walkL (fun H2 k => SqL.kp ha k) hi hx.len hz (fun p => .int (n p)) (fun j x p H2 Qt _ _ _ h => h) (fun j x p H2 Qe h1 h2 _ k h => ?_) (fun D hD => by rw [filt_yes, show (l.map fun p => V.int (n p)) = (l.map n).map V.int by rw [List.map_map]; rfl]; exact q D hD)
  obtain ⟨r, h3, h4⟩ := hx.get h2
  rw [h1] at h3
  cases h3
  obtain ⟨zs, e1, e2⟩ := hg p
  rw [e1] at h4
  exact ⟨.ref r, inC_at hi, r, zs, 1, .int (n p), rfl, rfl, SqL.kp h4 k, atI_nat (j := 1) e2, h⟩
theorem lots_len {span u : Int} {evs : List Ev} (g : Good span u evs) : (lotsL span u evs).1.length ≤ evs.length ∧ (lotsL span u evs).2.length ≤ evs.length := by
  obtain ⟨h1, h2⟩ := play_lots (life := span) g.ord
  obtain ⟨e1, e2⟩ := play_len span u evs
  have a := congrArg List.length h1
  have b := congrArg List.length h2
  rw [List.length_map] at a b
  omega
/-! ### strictly rising rows -/
def Up (f : LL) : Prop := f.Pairwise fun a b => a.1 < b.1
theorem up_step {f : LL} {p : Int × Int} (h : Up f) (hp : ∀ q ∈ f, q.1 ≤ p.1) : Up (mstep f p) ∧ ∀ q ∈ mstep f p, q.1 ≤ p.1 := by
  rcases List.eq_nil_or_concat f with rfl | ⟨L, b, rfl⟩
  · exact ⟨by unfold Up; exact List.pairwise_singleton _ _, fun q hq => by rw [List.mem_singleton.mp hq]; exact Int.le_refl _⟩
  · rw [List.concat_eq_append] at *
    rw [mstep_snoc]
    unfold Up at h
    rw [List.pairwise_append] at h
    obtain ⟨hL, _, hb⟩ := h
    have hbp : b.1 ≤ p.1 := hp b (by simp)
    by_cases e : b.1 = p.1
    · rw [if_pos e]
      refine ⟨List.pairwise_append.mpr ⟨hL, List.pairwise_singleton _ _, fun a ha c hc => ?_⟩, fun q hq => ?_⟩
      · rw [List.mem_singleton.mp hc]
        have := hb a ha b (by simp)
        show a.1 < p.1
        omega
      · rcases List.mem_append.mp hq with z | z
        · exact hp q (List.mem_append.mpr (.inl z))
        · rw [List.mem_singleton.mp z]; exact Int.le_refl _
    · rw [if_neg e]
      refine ⟨List.pairwise_append.mpr ⟨List.pairwise_append.mpr ⟨hL, List.pairwise_singleton _ _, hb⟩, List.pairwise_singleton _ _, fun a ha c hc => ?_⟩, fun q hq => ?_⟩
      · rw [List.mem_singleton.mp hc]
        rcases List.mem_append.mp ha with z | z
        · have := hb a z b (by simp)
          omega
        · rw [List.mem_singleton.mp z]; omega
      · rcases List.mem_append.mp hq with z | z
        · exact hp q z
        · rw [List.mem_singleton.mp z]; exact Int.le_refl _
theorem up_fold : ∀ (l : LL) (f : LL), Asc (l.map (·.1)) → Up f → (∀ q ∈ f, ∀ p ∈ l, q.1 ≤ p.1) → Up (l.foldl mstep f)
  | [], _, _, h, _ => h
  | p :: r, f, ha, h, hf => by
    obtain ⟨h1, h2⟩ := up_step h (fun q hq => hf q hq p List.mem_cons_self)
    refine up_fold r (mstep f p) ha.2 h1 fun q hq z hz => Int.le_trans (h2 q hq) (ha.1 z.1 (List.mem_map.mpr ⟨z, hz, rfl⟩))
theorem asc_take : ∀ (l : LL) (j : Nat), Asc (l.map (·.1)) → Asc ((l.take j).map (·.1))
  | _, 0, _ => trivial
  | [], _ + 1, _ => trivial
  | p :: r, j + 1, h => ⟨fun b hb => h.1 b (by
      obtain ⟨q, hq, e⟩ := List.mem_map.mp hb
      exact List.mem_map.mpr ⟨q, List.mem_of_mem_take hq, e⟩), asc_take r j h.2⟩
/-! ### the table -/
theorem val_ne {k : Key} : ∀ (f : LL), (∀ p ∈ f, Sum.inl p.1 ≠ k) → valV (intKvs f) k = none
  | [], _ => rfl
  | p :: r, h => by
    show valV ((Sum.inl p.1, V.int p.2) :: intKvs r) k = none
    rw [valV_neg (h p List.mem_cons_self)]
    exact val_ne r fun q hq => h q (List.mem_cons_of_mem _ hq)
theorem val_last {t m : Int} : ∀ (L : LL), (∀ p ∈ L, p.1 < t) → valV (intKvs (L ++ [(t, m)])) (Sum.inl t) = some (.int m)
  | [], _ => valV_pos (p := ((Sum.inl t : Key), V.int m)) rfl
  | p :: r, h => by
    show valV ((Sum.inl p.1, V.int p.2) :: intKvs (r ++ [(t, m)])) (Sum.inl t) = _
    rw [valV_neg (fun z => by
      have : p.1 = t := Sum.inl.inj z
      have := h p List.mem_cons_self
      omega)]
    exact val_last r fun q hq => h q (List.mem_cons_of_mem _ hq)
theorem put_last {t m n : Int} (L : LL) (h : ∀ p ∈ L, p.1 < t) : putK (intKvs (L ++ [(t, m)])) (Sum.inl t) (.int n) = intKvs (L ++ [(t, n)]) := by
  unfold putK
  rw [valV_any, val_last L h]
  simp only [Option.isSome_some, if_true]
  unfold intKvs
  rw [List.map_append, List.map_append, List.map_append, List.map_map]
  congr 1
  · refine List.map_congr_left fun p hp => ?_
    show (if (Sum.inl p.1 : Key) = Sum.inl t then _ else _) = _
    rw [if_neg (fun z => by
      have : p.1 = t := Sum.inl.inj z
      have := h p hp
      omega)]
  · show [if (Sum.inl t : Key) = Sum.inl t then _ else _] = _
    rw [if_pos rfl]
    rfl
theorem put_new {t n : Int} (f : LL) (h : ∀ p ∈ f, p.1 < t) : putK (intKvs f) (Sum.inl t) (.int n) = intKvs (f ++ [(t, n)]) := by
  unfold putK
  rw [valV_any, val_ne f fun p hp z => by
    have : p.1 = t := Sum.inl.inj z
    have := h p hp
    omega]
  rw [if_neg (by simp)]
  unfold intKvs
  rw [List.map_append]
  rfl
/-- one row into the table -/
theorem put_step {f : LL} {t n : Int} (h : Up f) (hp : ∀ q ∈ f, q.1 ≤ t) : ∃ o : Option V, valV (intKvs f) (Sum.inl t) = o ∧ ∃ m : Int, o.getD (.int 0) = .int m ∧ putK (intKvs f) (Sum.inl t) (.int (m + n)) = intKvs (mstep f (t, n)) := by
  rcases List.eq_nil_or_concat f with rfl | ⟨L, b, rfl⟩
  · refine ⟨none, rfl, 0, rfl, ?_⟩
    rw [Int.zero_add]
    exact put_new [] fun _ h => nomatch h
  · rw [List.concat_eq_append] at *
    rw [mstep_snoc]
    unfold Up at h
    rw [List.pairwise_append] at h
    obtain ⟨hL, _, hb⟩ := h
    have hbp : b.1 ≤ t := hp b (by simp)
    by_cases e : b.1 = t
    · rw [if_pos e]
      obtain ⟨b1, b2⟩ := b
      obtain rfl : b1 = t := e
      have hl : ∀ p ∈ L, p.1 < b1 := fun p hp => hb p hp (b1, b2) (by simp)
      exact ⟨_, val_last L hl, b2, rfl, put_last L hl⟩
    · rw [if_neg e]
      have hl : ∀ p ∈ L ++ [b], p.1 < t := fun p hp => by
        rcases List.mem_append.mp hp with z | z
        · have := hb p z b (by simp)
          omega
        · rw [List.mem_singleton.mp z]; omega
      refine ⟨none, val_ne _ fun p hp z => ?_, 0, rfl, ?_⟩
      · have : p.1 = t := Sum.inl.inj z
        have := hl p hp
        omega
      · rw [Int.zero_add]
        exact put_new _ hl
/-! ### the walks -/
abbrev spLMerged : Sp := fun vs H Q _ => ∃ (a : Addr) (xs : List V) (l : LL), vs = [.ref a] ∧ H a = some (.lst xs) ∧ RefsTo H p2O xs l ∧ xs.length ≤ 1000 ∧ Asc (l.map (·.1)) ∧ ∀ (H' : Hp) (p : Addr) (zs : List V), Kp [] H H' → H' p = some (.lst zs) → RefsTo H' p2O zs (mergeL l) → Q (.ref p) H'
section
variable {P : Program} {w : World} {K : PySem.W.Frag} {mg : Str → Option Value} {base : Heap}
abbrev nThere : List Str := ["_law_log", "_law_span", "_law_moment", "_law_lot"]
theorem scThere : FnScope nThere ["_law_log", "_law_span", "_law_moment"] (defScope sThere) := ⟨rfl, rfl, rfl, by decide +kernel, rfl, by decide +kernel, by decide +kernel⟩
abbrev nLM : List Str := ["_law_rows", "_law_table", "_law_moment", "_law_number"]
theorem scLM : FnScope nLM ["_law_rows"] (defScope sLMerged) := ⟨rfl, rfl, rfl, by decide +kernel, rfl, by decide +kernel, by decide +kernel⟩
theorem ok_there {f : Addr} {fd : FuncData} (F : Fun K "_law_there" "_law_there" sThere f fd) (hsu : mg "sum" = none) (hP : Cal0 P w K mg base CX0 1 "_law_lots" ["_law_log", "_law_span", "_law_until"] spLots) : FnOk P w K mg base CX0 2 f fd ["_law_log", "_law_span", "_law_moment"] (spLogNum balL) := by
  refine F.ok scThere (fun vs H Q E h => ?_) (fun cdv A outer s H vs Q E hr h => ?_)
  · obtain ⟨a, life, u, evs, rfl, _⟩ := h
    rfl
  · obtain ⟨a, life, u, evs, rfl, hlog, hgood, hlen, k⟩ := h
    refine ⟨_, pss_one (ps_ret (pe_callB (cr_sum rfl) (by rfl) hsu (by decide +kernel) (pa_cons (pe_lc (own := [("_law_lot", 3)]) (g := gName 3) (tt := tYes) (te := tOp (rIxL K) (tVar 3) (tC (.int 1))) rfl scThere.nd (pi_list (pe_ix ix_tup (pe_cal hP hr rfl pass0 (pa_cons (pv 0) (pa_cons (pv 1) (pa_cons (pv 2) pa_nil)))) pe_int (fun _ _ => rfl)))
      (blkOk_by (N := nThere) (sc := defScope sThere) (by decide +kernel)) (fun _ _ _ _ _ => pg_name (i := 3) scThere.nd rfl (Or.inl rfl)) (fun _ _ _ _ _ => pts_nil) (fun _ _ _ _ _ => pe_ix ix_list (pv 3) pe_int (fun _ _ => rfl))) pa_nil))), ?_⟩
    refine r_ret (r_cb (r_cons (r_lc (r_iList (r_op (r_call ⟨_, rfl, _, rfl, _, rfl, a, life, u, evs, rfl, hlog, hgood, hlen, fun H' t l g xs zs kk ht hl hx hg hz => ?_⟩))))))
    have hxl := hx.len
    have := (lots_len (span := life) hgood).1
    refine ⟨t, _, 0, .ref l, rfl, rfl, SqT.of ht, atI_nat (j := 0) rfl, l, rfl, ⟨_, SqL.of hl⟩, rd_sndL (g := lsO) (n := fun p => p.2) hl hx (fun p => ⟨_, rfl, rfl⟩) (by show 3 < 4; decide) (by omega) fun D hD => ⟨D, _, rfl, SqL.of upd_same, ?_⟩⟩
    have := k _ (kk.trans (Kp.new (o := .lst (((lotsL life u evs).1.map fun p => p.2).map V.int)) hD))
    rw [bal_lots hgood.ord] at this
    exact this
theorem ok_lmerged {f : Addr} {fd : FuncData} (F : Fun K "_law_merged" "_law_merged" sLMerged f fd) (hso : mg "sorted" = none) : FnOk P w K mg base CX0 1 f fd ["_law_rows"] spLMerged := by
  refine F.ok scLM (fun vs H Q E h => ?_) (fun cdv A outer s H vs Q E hr h => ?_)
  · obtain ⟨a, xs, l, rfl, _⟩ := h
    rfl
  · obtain ⟨a, xs, l, rfl, ha, hx, hz, hasc, k⟩ := h
    have hu := hr.units
    refine ⟨_, pss_cons (ps_set (i := 1) scLM.nd rfl (Or.inl rfl) pe_dnewK)
      (pss_cons (ps_for PassesOwn.never rfl (pi_list (pv 0)) (pg_tup rfl (pgs_cons (pg_name (i := 2) scLM.nd rfl (Or.inl rfl)) (pgs_cons (pg_name (i := 3) scLM.nd rfl (Or.inl rfl)) pgs_nil)))
        (pss_one (ps_dput (Nat.lt_of_le_of_lt (Nat.add_le_add_left (by decide) _) hu) (pv 1) (pv 2) (pe_op op_add (pe_dget2 (Nat.lt_of_le_of_lt (Nat.add_le_add_left (by decide) _) hu) (pv 1) (pv 2) pe_int ⟨rfl, rfl, rfl, rfl⟩) (pv 3)) rfl)))
      (pss_one (ps_ret (pe_sortedItems rfl (pv 1) rfl hso (by decide +kernel))))), ?_⟩
    refine fun d hd => ?_
    have nda : a ≠ d := ne_of_none ha hd
    have k0 : Kp [] H (upd H d (.dK [])) := Kp.new hd
    have hd0 : upd H d (.dK []) d = some (.dK (intKvs [])) := upd_same
    generalize upd H d (.dK []) = H1 at k0 hd0 ⊢
    refine ⟨_, rfl, a, rfl, ⟨xs, SqL.of (k0.all a _ (by simp) ha)⟩, for_it walk_list (fun j σ H2 => ∃ t0 n0 : Option V, σ = [some (.ref a), some (.ref d), t0, n0] ∧ Kp [] H H2 ∧ H2 d = some (.dK (intKvs ((l.take j).foldl mstep []))))
      ⟨none, none, rfl, k0, hd0⟩ (fun j σ H2 _ h => by
        obtain ⟨_, _, _, kk, _⟩ := h
        exact SqL.kp ha kk) ?_ ?_⟩
    · rintro j x σ H2 H2' hj ⟨t0, n0, rfl, kk, hd2⟩ ⟨rfl, hxj⟩
      obtain ⟨r, p, rfl, hp, hrp⟩ := hx.get' hxj
      obtain ⟨t, n⟩ := p
      have et : l.take (j + 1) = l.take j ++ [(t, n)] := by rw [List.take_add_one, hp]; rfl
      have hr2 := kk.tup r _ hrp
      have hup : Up ((l.take j).foldl mstep []) := up_fold _ _ (asc_take l j hasc) List.Pairwise.nil (fun _ h => nomatch h)
      have hle : ∀ q ∈ (l.take j).foldl mstep [], q.1 ≤ t := by
        have key : ∀ (r f : LL), Asc ((r ++ [(t, n)]).map (·.1)) → (∀ q ∈ f, q.1 ≤ t) → ∀ q ∈ r.foldl mstep f, q.1 ≤ t := by
          intro r
          induction r with
          | nil => intro f _ h; exact h
          | cons p r ih =>
            intro f h1 h2
            have hpt : p.1 ≤ t := h1.1 t (by simp)
            refine ih (mstep f p) h1.2 fun q hq => ?_
            rcases List.eq_nil_or_concat f with rfl | ⟨L, b, rfl⟩
            · rw [List.mem_singleton.mp hq]; exact hpt
            · rw [List.concat_eq_append] at *
              rw [mstep_snoc] at hq
              split at hq
              · rcases List.mem_append.mp hq with z | z
                · exact h2 q (List.mem_append.mpr (.inl z))
                · rw [List.mem_singleton.mp z]; exact hpt
              · rcases List.mem_append.mp hq with z | z
                · exact h2 q z
                · rw [List.mem_singleton.mp z]; exact hpt
        refine key (l.take j) [] ?_ (fun _ h => nomatch h)
        rw [← et]
        exact asc_take l (j + 1) hasc
      have hlen : ((l.take j).foldl mstep []).length ≤ 1000 := by
        have key : ∀ (r f : LL), (r.foldl mstep f).length ≤ f.length + r.length := by
          intro r
          induction r with
          | nil => intro f; exact Nat.le_refl _
          | cons p r ih =>
            intro f
            have := ih (mstep f p)
            have := mstep_len f p
            simp only [List.foldl_cons, List.length_cons]
            omega
        have := key (l.take j) []
        rw [List.length_take, List.length_nil] at this
        have := hx.len
        omega
      rw [et, List.foldl_append]
      have step : [(t, n)].foldl mstep ((l.take j).foldl mstep []) = mstep ((l.take j).foldl mstep []) (t, n) := rfl
      rw [step]
      obtain ⟨o, ho, m, hm, hput⟩ := put_step (n := n) hup hle
      generalize (l.take j).foldl mstep [] = fo at *
      refine ⟨r, _, rfl, SqT.of hr2, rfl, _, _, rfl, _, _, rfl, rfl, ?_⟩
      refine ⟨_, rfl, d, rfl, .inl ⟨_, .inl hd2⟩, _, rfl, o, .inl ⟨_, Sum.inl t, .inl hd2, rfl, ho.symm⟩, _, rfl, m, n, hm, rfl, _, rfl, _, rfl, d, _, rfl, .inl ⟨_, Sum.inl t, hd2, rfl, small1000 (by unfold intKvs; rw [List.length_map]; exact hlen), rfl⟩, _, _, rfl, kk.fresh hd, ?_⟩
      rw [upd_same, hput]
    · rintro σ H2 ⟨t0, n0, rfl, kk, hd2⟩
      rw [hx.len, List.take_length] at hd2
      refine ⟨_, rfl, d, mergeL l, rfl, hd2, fun H' p zs ks hp hperm hsrt hpz hall => ?_⟩
      have hup : Up (mergeL l) := up_fold _ _ hasc List.Pairwise.nil (fun _ h => nomatch h)
      have e : zs.map (pairAt H') = mergeL l := by
        refine List.Perm.eq_of_pairwise (le := fun a b => SrtO.lexB b a = false) (fun a b _ _ h1 h2 => ?_) hsrt (hup.imp fun {a b} h => ?_) hperm
        · have h1' := SrtO.lexB_no.mp h1
          have h2' := SrtO.lexB_no.mp h2
          refine Prod.ext_iff.mpr ⟨?_, ?_⟩ <;> omega
        · refine SrtO.lexB_no.mpr ?_
          omega
      have k3 : Kp [] H2 H' := ⟨fun b o _ eb => ks b o eb, fun b xs eb => ks b _ eb⟩
      refine k H' p zs (kk.trans k3) hpz ?_
      rw [← e]
      have key : ∀ zs : List V, (∀ z ∈ zs, ∃ t, z = .ref t ∧ H' t = some (.tup [.int (pairAt H' z).1, .int (pairAt H' z).2])) → RefsTo H' p2O zs (zs.map (pairAt H')) := by
        intro zs
        induction zs with
        | nil => intro _; exact .nil
        | cons z r ih => intro h; exact .cons (h z List.mem_cons_self) (ih fun q hq => h q (List.mem_cons_of_mem _ hq))
      exact key zs hall
end
end K16
-- part KL4
set_option Elab.async false
set_option linter.all false
set_option maxRecDepth 100000
set_option maxHeartbeats 4000000
/-! _law_deed -/
namespace K16
open PySem L2 K16M
abbrev sDeed : Stmt := top 42
/-- what is handed in for an amount: None or an int -/
def flatA : V → Bool
  | .non => true | .int _ => true
  | _ => false
theorem flatA_4 {v : V} (h : flatA v = true) : flat4 v = true := by
  cases v with
  | non => rfl
  | int i => rfl
  | _ => cases h
inductive Deed | earn (v : V) (ms : List V) | spend (v m : V) | wait (v : V) | undo
/-- a deed stands at x, its list (if it has one) newer than H0 -/
def DeedAt (H0 H : Hp) (x : V) : Deed → Prop
  | .earn v ms => ∃ t l, x = .ref t ∧ H t = some (.tup [.str "earn", v, .ref l]) ∧ H l = some (.lst ms) ∧ H0 l = none ∧ flat4 v = true ∧ (∀ m ∈ ms, flatA m = true) ∧ ms.length ≤ 3
  | .spend v m => ∃ t, x = .ref t ∧ H t = some (.tup [.str "spend", v, m]) ∧ flat4 v = true ∧ flatA m = true
  | .wait v => ∃ t, x = .ref t ∧ H t = some (.tup [.str "wait", v, .int 0]) ∧ flat4 v = true
  | .undo => ∃ t, x = .ref t ∧ H t = some (.tup [.str "undo", .int 0, .int 0])
theorem DeedAt.kp {S : List Addr} {H0 H H' : Hp} {x : V} : ∀ {d : Deed}, DeedAt H0 H x d → Kp S H H' → (∀ b ∈ S, H0 b ≠ none) → DeedAt H0 H' x d
  | .earn v ms, ⟨t, l, e1, e2, e3, e4, r⟩, k, h => ⟨t, l, e1, k.tup t _ e2, k.all l _ (fun z => h l z e4) e3, e4, r⟩
  | .spend v m, ⟨t, e1, e2, r⟩, k, _ => ⟨t, e1, k.tup t _ e2, r⟩
  | .wait v, ⟨t, e1, e2, r⟩, k, _ => ⟨t, e1, k.tup t _ e2, r⟩
  | .undo, ⟨t, e1, e2⟩, k, _ => ⟨t, e1, k.tup t _ e2⟩
abbrev spDeed : Sp := fun vs H Q _ => ∃ (d : Addr) (x : V) (st : List Ev × Int) (n span : Int), vs = [.ref d, x, .int span] ∧ DeckAt H d n ∧ n ≤ 90000 ∧ StAt H x st ∧ Good span st.2 st.1 ∧ st.1.length ≤ 100 ∧
  ∀ (de : Deed) (u : Addr) (H' : Hp), Kp [d] H H' → DeckAt H' d (n + 30) → DeedAt H H' (.ref u) de → Q (.ref u) H'
theorem one_new {H : Hp} {l d : Addr} {n : Int} {xs : List V} {Q : VK} {E : XK} (hl : H l = none) (hd : DeckAt H d n) (hn : n ≤ 100000) (h0 : 0 < xs.length) (h1 : xs.length ≤ 1000) (q : ∀ x H', Kp [d] H H' → DeckAt H' d (n + 1) → x ∈ xs → Q x H') : spOne [.ref d, .ref l] (upd H l (.lst xs)) Q E := by
  have hne : l ≠ d := by
    obtain ⟨a, b, c, e, _⟩ := hd
    exact Ne.symm (ne_of_none e hl)
  exact ⟨d, l, n, xs, rfl, hd.kp (Kp.new (S := []) hl) (by simp), hn, hne, upd_same, h0, h1, fun x H' k hd' hx => q x H' ((Kp.new hl).trans k) hd' hx⟩
abbrev nDeed : List Str := ["_law_deck_here", "_law_state", "_law_span", "_law_log", "_law_now", "_law_way_here", "_law_there_here", "_law_time", "_law_amounts", "_law_k"]
theorem scDeed : FnScope nDeed ["_law_deck_here", "_law_state", "_law_span"] (defScope sDeed) := ⟨rfl, rfl, rfl, by decide +kernel, rfl, by decide +kernel, by decide +kernel⟩
theorem cut_mem {xs : List V} {lo hi : Option Int} {x : V} (h : x ∈ cutV xs lo hi) : x ∈ xs := List.mem_of_mem_drop (List.mem_of_mem_take h)
theorem cut_two (xs : List V) : (cutV xs none (some 2)).length ≤ 2 := by
  unfold cutV
  rw [List.length_take]
  have : HT.sIx xs.length xs.length (some 2) ≤ 2 := by
    show HT.sIx xs.length xs.length (some ((2 : Nat) : Int)) ≤ 2
    rw [HT.sIx_nat]
    omega
  omega
theorem deed_lc {σ : L2.St} {H : Hp} {d : Addr} {n : Int} {cnt : Nat} {Q : VK} (h0 : σ[0]? = some (some (.ref d))) (h9 : 9 < σ.length) (hd : DeckAt H d n) (hn : n + 3 ≤ 100000) (hc : cnt ≤ 3)
    (q : ∀ D H' ms, Kp [d] H H' → DeckAt H' d (n + 3) → H D = none → H' D = some (.lst ms) → (∀ m ∈ ms, flatA m = true) → ms.length ≤ 3 → Q (.ref D) H') :
    LcB (gName 9) tYes (tOp (rI0 fun i j => .int (i + j)) (tC (.int 1)) (tCall spPick [] (fun _ _ _ => False) (tCons (tVar 0) (tCons (tC (.int 9)) tNil)))) [9] σ Q (Itr 0 cnt) H := by
  intro D hD
  have hDd : D ≠ d := by
    obtain ⟨a, b, c, e, _⟩ := id hd
    exact Ne.symm (ne_of_none e hD)
  refine lc_it (walk_range (lo := 0) (n := cnt)) (fun j H2 => Kp [d] H H2 ∧ DeckAt H2 d (n + j) ∧ ∃ ms, H2 D = some (.lst ms) ∧ (∀ m ∈ ms, flatA m = true) ∧ ms.length = j) ⟨Kp.new hD, (hd.kp (Kp.new (S := []) hD) (by simp)).mono (by omega), [], upd_same, (fun _ h => nomatch h), rfl⟩ (fun _ _ _ _ => trivial) ?_ ?_
  · rintro j x H2 H2' hj ⟨kk, hd2, ms, hms, hf, hl⟩ ⟨rfl, rfl⟩
    refine ⟨wipe_one h9, ?_⟩
    unfold tYes
    dsimp only
    rw [if_pos rfl]
    refine ⟨_, (inC_ne (by decide)).trans h0, d, n + j, 9, rfl, hd2, by omega, by decide, by decide, fun p H3 k3 hd3 hp0 hp1 => ⟨_, _, rfl, rfl, ms, k3.all D _ (by simp [hDd]) hms, small1000 (by omega), ?_⟩⟩
    have hD3 := k3.all D _ (by simp [hDd]) hms
    refine ⟨(kk.trans k3).fresh hD, ?_, _, upd_same, fun m hm => ?_, by rw [List.length_append, hl]; rfl⟩
    · obtain ⟨a, b, c, e, r⟩ := hd3
      refine DeckAt.mono ⟨a, b, c, by rw [upd_ne (Ne.symm hDd)]; exact e, r⟩ (by omega)
    · rcases List.mem_append.mp hm with z | z
      · exact hf m z
      · rw [List.mem_singleton.mp z]; rfl
  · rintro H2 ⟨kk, hd2, ms, hms, hf, hl⟩
    exact q D H2 ms kk (hd2.mono (by omega)) hD hms hf (by omega)
section
variable {P : Program} {w : World} {K : PySem.W.Frag} {mg : Str → Option Value} {base : Heap}
theorem ok_deed {f : Addr} {fd : FuncData} (F : Fun K "_law_deed" "_law_deed" sDeed f fd) (hmi : mg "min" = none) (hra : mg "range" = none) (hP : Cal0 P w K mg base CX0 1 "_law_pick" ["_law_deck_here", "_law_limit"] spPick)
    (hO : Cal0 P w K mg base CX0 2 "_law_one" ["_law_deck_here", "_law_some"] spOne) (hT : Cal0 P w K mg base CX0 2 "_law_there" ["_law_log", "_law_span", "_law_moment"] (spLogNum balL)) : FnOk P w K mg base CX0 3 f fd ["_law_deck_here", "_law_state", "_law_span"] spDeed := by
  refine F.ok scDeed (fun vs H Q E h => ?_) (fun cdv A outer s H vs Q E hr h => ?_)
  · obtain ⟨d, x, st, n, span, rfl, _⟩ := h
    rfl
  · obtain ⟨d, x, ⟨evs, now⟩, n, span, rfl, hd, hn, hst, hg, hl, k⟩ := h
    have hr1 := Room.mono hr (show 1 ≤ 2 by decide)
    refine ⟨_, pss_cons (ps_asg (pv 1) (pg_tup rfl (pgs_cons (pg_name (i := 3) scDeed.nd rfl (Or.inl rfl)) (pgs_cons (pg_name (i := 4) scDeed.nd rfl (Or.inl rfl)) pgs_nil))))
      (pss_cons (ps_par (i := 5) (j := 6) rfl scDeed.nd rfl rfl (by decide) rfl rfl (pa_cons (pe_cal hP hr1 (by rfl) pass0 (pa_cons (pv 0) (pa_cons pe_int pa_nil))) (pa_cons (pe_cal hT hr (by rfl) pass0 (pa_cons (pv 3) (pa_cons (pv 2) (pa_cons (pv 4) pa_nil)))) pa_nil)) rfl)
      (pss_cons (ps_set (i := 7) scDeed.nd rfl (Or.inl rfl) (pe_callB (call_min2 rfl) (by rfl) hmi (by decide +kernel) (pa_cons pe_int (pa_cons (pe_op op_add (pv 4) (pe_cal hO hr (by rfl) pass0 (pa_cons (pv 0) (pa_cons (pe_lst (pa_cons pe_int (pa_cons pe_int (pa_cons pe_int (pa_cons (pe_cal hP hr1 (by rfl) pass0 (pa_cons (pv 0) (pa_cons pe_int pa_nil))) (pa_cons (pe_op op_sub (pv 2) pe_int) (pa_cons (pv 2) pa_nil))))))) pa_nil)))) pa_nil))))
      (pss_cons (ps_set (i := 7) scDeed.nd rfl (Or.inl rfl) (pe_cal hO hr (by rfl) pass0 (pa_cons (pv 0) (pa_cons (pe_op op_cat (pe_op op_rep (pe_lst (pa_cons (pv 7) pa_nil)) pe_int) (pe_lst (pa_cons pe_non (pa_cons (pe_op op_sub (pv 4) pe_int) (pa_cons pe_bl (pa_cons pe_int pa_nil)))))) pa_nil))))
      (pss_cons (ps_if (pt_cmpR op_lt (pv 5) pe_int (nomark _))
        (pss_cons (ps_setLc (i := 8) (own := [("_law_k", 9)]) (g := gName 9) (tt := tYes) (te := tOp (rI0 fun i j => .int (i + j)) (tC (.int 1)) (tCall spPick [] (fun _ _ _ => False) (tCons (tVar 0) (tCons (tC (.int 9)) tNil)))) rfl scDeed.nd rfl rfl (sw_true rfl rfl rfl (by decide +kernel))
            (pi_range1 (by rfl) hra (pa_cons (pe_cal hO hr (by rfl) pass0 (pa_cons (pv 0) (pa_cons (pe_lst (pa_cons pe_int (pa_cons pe_int (pa_cons pe_int (pa_cons pe_int (pa_cons pe_int pa_nil)))))) pa_nil))) pa_nil)) (blkOk_by (N := nDeed) (sc := defScope sDeed) (by decide +kernel))
            (fun _ _ _ _ _ => pg_name (i := 9) scDeed.nd rfl (Or.inl rfl)) (fun _ _ _ _ _ => pts_nil)
            (fun _ _ _ _ _ => pe_op op_add pe_int (pe_cal hP hr1 (by rfl) pass0 (pa_cons (pv 0) (pa_cons pe_int pa_nil)))))
          (pss_one (ps_ret (pe_tup (pa_cons pe_str (pa_cons (pv 7) (pa_cons (pe_cal hO hr (by rfl) pass0 (pa_cons (pv 0) (pa_cons (pe_op op_cat (pe_op op_rep (pe_lst (pa_cons (pv 8) pa_nil)) pe_int)
            (pe_lst (pa_cons (pe_op op_cat (pe_slice sl_list (pv 8) po_none (po_some pe_int)) (pe_lst (pa_cons pe_int pa_nil))) (pa_cons (pe_lst (pa_cons pe_non pa_nil)) (pa_cons (pe_lst (pa_cons (pe_op op_add (pe_op op_pow pe_int pe_int) pe_int) pa_nil)) (pa_cons (pe_lst (pa_cons (pe_op op_pow pe_int pe_int) pa_nil)) pa_nil)))))) pa_nil))) pa_nil))))))) pss_nil)
      (pss_cons (ps_if (pt_cmpR op_lt (pv 5) pe_int (nomark _))
        (pss_one (ps_ret (pe_tup (pa_cons pe_str (pa_cons (pv 7) (pa_cons (pe_cal hO hr (by rfl) pass0 (pa_cons (pv 0) (pa_cons (pe_lst (pa_cons pe_int (pa_cons pe_int (pa_cons (pv 6) (pa_cons (pe_op op_add (pv 6) pe_int) (pa_cons (pe_op op_add pe_int (pe_cal hP hr1 (by rfl) pass0 (pa_cons (pv 0) (pa_cons pe_int pa_nil)))) (pa_cons pe_int (pa_cons pe_non (pa_cons (pe_op op_add (pe_op op_pow pe_int pe_int) pe_int) pa_nil))))))))) pa_nil))) pa_nil)))))) pss_nil)
      (pss_one (ps_ret (pe_ifExp (pt_cmpR op_lt (pv 5) pe_int (nomark _)) (pe_tup (pa_cons pe_str (pa_cons (pv 7) (pa_cons pe_int pa_nil)))) (pe_tup (pa_cons pe_str (pa_cons pe_int (pa_cons pe_int pa_nil)))))))))))), ?_⟩
    obtain ⟨sa, lg, rfl, hsa, hlg⟩ := id hst
    refine ⟨_, rfl, sa, _, rfl, SqT.of hsa, rfl, _, _, rfl, _, _, rfl, rfl, ?_⟩
    refine ⟨_, rfl, d, n, 14, rfl, hd, by omega, by decide, by decide, fun way H1 k1 hd1 hw0 hw1 => ?_⟩
    refine ⟨_, rfl, _, rfl, _, rfl, lg, span, now, evs, rfl, hlg.kp k1, hg, hl, fun H2 k2 => ⟨_, _, rfl, ?_⟩⟩
    have hd2 := hd1.kp k2 (by simp)
    have kk2 : Kp [d] H H2 := k1.trans (k2.mono (by simp))
    generalize hbal : balL span now evs = bal
    refine ⟨_, rfl, _, rfl, _, rfl, d, n + 1, 9, rfl, hd2, by omega, by decide, by decide, fun p H3 k3 hd3 hp0 hp1 => ?_⟩
    have kk3 := kk2.trans k3
    refine ⟨_, rfl, _, _, rfl, rfl, _, rfl, (by show 6 ≤ sizeLine; decide), fun l hl1 => one_new (E := fun _ _ _ => False) hl1 hd3 (by omega) (by show 0 < 6; decide) (by show 6 ≤ 1000; decide) fun x H4 k4 hd4 hx => ?_⟩
    have kk4 := kk3.trans k4
    obtain ⟨i, rfl⟩ : ∃ i : Int, x = .int i := by
      simp only [List.mem_cons, List.not_mem_nil, or_false] at hx
      rcases hx with rfl | rfl | rfl | rfl | rfl | rfl <;> exact ⟨_, rfl⟩
    refine ⟨_, _, rfl, rfl, _, _, rfl, ?_⟩
    generalize (if now + i < 10000 then now + i else 10000) = T1
    refine ⟨_, rfl, _, rfl, (by show 1 ≤ sizeLine; decide), fun l1 hl1 => ?_⟩
    have kl1 : Kp [d] H4 (upd H4 l1 (.lst [.int T1])) := Kp.new hl1
    have el1 : upd H4 l1 (.lst [.int T1]) l1 = some (.lst [.int T1]) := upd_same
    have hd5 := hd4.kp (Kp.new (S := []) (o := .lst [.int T1]) hl1) (by simp)
    generalize upd H4 l1 (.lst [.int T1]) = H5 at kl1 el1 hd5 ⊢
    refine ⟨l1, 12, _, rfl, rfl, el1, by decide, by decide, (by show 1 * 12 ≤ sizeLine; decide), fun l2 hl2 => ?_⟩
    generalize hR : (List.replicate (12 : Int).toNat [V.int T1]).flatten = R12
    have hR12 : ∀ x ∈ R12, x = .int T1 := fun x hx => by
      rw [← hR] at hx
      obtain ⟨ys, h1, h2⟩ := List.mem_flatten.mp hx
      rw [List.eq_of_mem_replicate h1] at h2
      exact List.mem_singleton.mp h2
    have hRl : R12.length = 12 := by rw [← hR]; rfl
    have kl2 : Kp [d] H5 (upd H5 l2 (.lst R12)) := Kp.new hl2
    have el2 : upd H5 l2 (.lst R12) l2 = some (.lst R12) := upd_same
    have hd6 := hd5.kp (Kp.new (S := []) (o := .lst R12) hl2) (by simp)
    generalize upd H5 l2 (.lst R12) = H6 at kl2 el2 hd6 ⊢
    refine ⟨_, rfl, _, _, rfl, rfl, (by show 4 ≤ sizeLine; decide), fun l3 hl3 => ?_⟩
    have kl3 : Kp [d] H6 (upd H6 l3 (.lst [.non, .int (now - 1), .bl true, .int 10001])) := Kp.new hl3
    have el3 : upd H6 l3 (.lst [.non, .int (now - 1), .bl true, .int 10001]) l3 = some (.lst [.non, .int (now - 1), .bl true, .int 10001]) := upd_same
    have el23 : upd H6 l3 (.lst [.non, .int (now - 1), .bl true, .int 10001]) l2 = some (.lst R12) := by rw [upd_ne (ne_of_none el2 hl3)]; exact el2
    have hd7 := hd6.kp (Kp.new (S := []) (o := .lst [.non, .int (now - 1), .bl true, .int 10001]) hl3) (by simp)
    generalize upd H6 l3 (.lst [.non, .int (now - 1), .bl true, .int 10001]) = H7 at kl3 el3 el23 hd7 ⊢
    have kk7 := ((kk4.trans kl1).trans kl2).trans kl3
    refine ⟨l2, l3, _, _, rfl, rfl, el23, el3, (by rw [hRl]; show 12 + 4 ≤ sizeLine; decide), fun l4 hl4 => one_new (E := fun _ _ _ => False) hl4 hd7 (by omega) (by rw [List.length_append, hRl]; show 0 < 12 + 4; decide) (by rw [List.length_append, hRl]; show 12 + 4 ≤ 1000; decide) fun v H8 k8 hd8 hv => ?_⟩
    have kk8 := kk7.trans k8
    have hfv : flat4 v = true := by
      rcases List.mem_append.mp hv with z | z
      · rw [hR12 v z]; rfl
      · simp only [List.mem_cons, List.not_mem_nil, or_false] at z
        rcases z with rfl | rfl | rfl | rfl <;> rfl
    refine ⟨_, rfl, _, _, rfl, rfl, _, rfl, ?_⟩
    by_cases hw5 : way < 5
    · rw [decide_eq_true hw5]
      refine iteT ?_
      change tSeq (tAsg (tLc (iRng1 (tCons (tCall spOne [] (fun _ _ _ => False) (tCons (tVar 0) (tCons (tLst (tCons (tC (.int 0)) (tCons (tC (.int 1)) (tCons (tC (.int 1)) (tCons (tC (.int 2)) (tCons (tC (.int 3)) tNil)))))) tNil))) tNil)) (gName 9) tYes (tOp (rI0 fun i j => .int (i + j)) (tC (.int 1)) (tCall spPick [] (fun _ _ _ => False) (tCons (tVar 0) (tCons (tC (.int 9)) tNil)))) [9]) (gName 8)) _ _ [some (.ref d), some (.ref sa), some (.int span), some (.ref lg), some (.int now), some (.int way), some (.int bal), some v, none, none] H8
      refine r_seq (r_asg (r_lc ⟨_, rfl, (by show 5 ≤ sizeLine; decide), fun l5 hl5 => one_new (E := fun _ _ _ => False) hl5 hd8 (by omega) (by show 0 < 5; decide) (by show 5 ≤ 1000; decide) fun c H9 k9 hd9 hc => ?_⟩))
      have kk9 := kk8.trans k9
      obtain ⟨cn, rfl, hc0, hc3⟩ : ∃ i : Int, c = .int i ∧ 0 ≤ i ∧ i ≤ 3 := by
        simp only [List.mem_cons, List.not_mem_nil, or_false] at hc
        rcases hc with rfl | rfl | rfl | rfl | rfl <;> exact ⟨_, rfl, by decide, by decide⟩
      refine ⟨cn, rfl, by omega, by omega, ?_⟩
      refine (show LcB (gName 9) tYes (tOp (rI0 fun i j => .int (i + j)) (tC (.int 1)) (tCall spPick [] (fun _ _ _ => False) (tCons (tVar 0) (tCons (tC (.int 9)) tNil)))) [9] [some (.ref d), some (.ref sa), some (.int span), some (.ref lg), some (.int now), some (.int way), some (.int bal), some v, none, none] _ (Itr 0 cn.toNat) H9 from deed_lc (d := d) rfl (by show 9 < 10; decide) hd9 (by omega) (by omega) fun D H10 ms k10 hd10 hD0 hD hf hml => ?_)
      have kk10 := kk9.trans k10
      have hDn : H D = none := by
        have hne : D ≠ d := by
          obtain ⟨a, b, c, e, _⟩ := id hd9
          exact Ne.symm (ne_of_none e hD0)
        exact kk9.free (by simp [hne]) hD0
      refine ⟨_, rfl, _, rfl, _, rfl, (by show 1 ≤ sizeLine; decide), fun m1 hm1 => ?_⟩
      have km1 : Kp [d] H10 (upd H10 m1 (.lst [.ref D])) := Kp.new hm1
      have em1 : upd H10 m1 (.lst [.ref D]) m1 = some (.lst [.ref D]) := upd_same
      have eD1 : upd H10 m1 (.lst [.ref D]) D = some (.lst ms) := by rw [upd_ne (ne_of_none hD hm1)]; exact hD
      have hd11 := hd10.kp (Kp.new (S := []) (o := .lst [.ref D]) hm1) (by simp)
      generalize upd H10 m1 (.lst [.ref D]) = H11 at km1 em1 eD1 hd11 ⊢
      refine ⟨m1, 8, _, rfl, rfl, em1, by decide, by decide, (by show 1 * 8 ≤ sizeLine; decide), fun m2 hm2 => ?_⟩
      generalize hR8e : (List.replicate (8 : Int).toNat [V.ref D]).flatten = R8
      have hR8 : ∀ x ∈ R8, x = .ref D := fun x hx => by
        rw [← hR8e] at hx
        obtain ⟨ys, h1, h2⟩ := List.mem_flatten.mp hx
        rw [List.eq_of_mem_replicate h1] at h2
        exact List.mem_singleton.mp h2
      have hR8l : R8.length = 8 := by rw [← hR8e]; rfl
      have km2 : Kp [d] H11 (upd H11 m2 (.lst R8)) := Kp.new hm2
      have em2 : upd H11 m2 (.lst R8) m2 = some (.lst R8) := upd_same
      have eD2 : upd H11 m2 (.lst R8) D = some (.lst ms) := by rw [upd_ne (ne_of_none eD1 hm2)]; exact eD1
      have hd12 := hd11.kp (Kp.new (S := []) (o := .lst R8) hm2) (by simp)
      generalize upd H11 m2 (.lst R8) = H12 at km2 em2 eD2 hd12 ⊢
      have kk12 := (kk10.trans km1).trans km2
      -- the lists that are new: where, how
      have fresh : ∀ {H2 : Hp} {b : Addr}, Kp [d] H H2 → DeckAt H2 d (n + 9) → H2 b = none → H b = none := fun {H2 b} kb hdb hb => kb.free (by
        have hne : b ≠ d := by
          obtain ⟨a, b', c, e, _⟩ := hdb
          exact Ne.symm (ne_of_none e hb)
        simp [hne]) hb
      refine ⟨_, rfl, 2, rfl, D, ms, rfl, SqL.of eD2, fun s1 hs1 => ?_⟩
      have hcut : ∀ m ∈ cutV ms none (some 2), flatA m = true := fun m hm => hf m (cut_mem hm)
      have hcl := cut_two ms
      generalize cutV ms none (some 2) = cs at hcut hcl ⊢
      have ks1 : Kp [d] H12 (upd H12 s1 (.lst cs)) := Kp.new hs1
      have es1 : upd H12 s1 (.lst cs) s1 = some (.lst cs) := upd_same
      have em3 : upd H12 s1 (.lst cs) m2 = some (.lst R8) := by rw [upd_ne (ne_of_none em2 hs1)]; exact em2
      have eD3 : upd H12 s1 (.lst cs) D = some (.lst ms) := by rw [upd_ne (ne_of_none eD2 hs1)]; exact eD2
      have hd13 := (hd12.kp (Kp.new (S := []) (o := .lst cs) hs1) (by simp)).mono (show _ ≤ n + 9 by omega)
      have kk13 := kk12.trans ks1
      generalize upd H12 s1 (.lst cs) = H13 at ks1 es1 em3 eD3 hd13 kk13 ⊢
      refine ⟨(by show 1 ≤ sizeLine; decide), fun s2 hs2 => ?_⟩
      have k14 : Kp [] H13 (upd H13 s2 (.lst [.int 0])) := Kp.new hs2
      have es2 : upd H13 s2 (.lst [.int 0]) s2 = some (.lst [.int 0]) := upd_same
      have hd14 := hd13.kp k14 (by simp)
      have kk14 := kk13.trans (k14.mono (by simp))
      have es14 := k14.all s1 _ (by simp) es1
      have em14 := k14.all m2 _ (by simp) em3
      have eD14 := k14.all D _ (by simp) eD3
      generalize upd H13 s2 (.lst [.int 0]) = H14 at k14 es2 hd14 kk14 es14 em14 eD14 ⊢
      refine ⟨s1, s2, _, _, rfl, rfl, es14, es2, (by rw [sizeLine_eq]; show cs.length + 1 ≤ _; omega), fun s3 hs3 => ?_⟩
      have ns3 := fresh kk14 hd14 hs3
      have k15 : Kp [] H14 (upd H14 s3 (.lst (cs ++ [.int 0]))) := Kp.new hs3
      have es15 : upd H14 s3 (.lst (cs ++ [.int 0])) s3 = some (.lst (cs ++ [.int 0])) := upd_same
      have hd15 := hd14.kp k15 (by simp)
      have kk15 := kk14.trans (k15.mono (by simp))
      have em15 := k15.all m2 _ (by simp) em14
      have eD15 := k15.all D _ (by simp) eD14
      generalize upd H14 s3 (.lst (cs ++ [.int 0])) = H15 at k15 es15 hd15 kk15 em15 eD15 ⊢
      refine ⟨(by show 1 ≤ sizeLine; decide), fun s4 hs4 => ?_⟩
      have ns4 := fresh kk15 hd15 hs4
      have k16 : Kp [] H15 (upd H15 s4 (.lst [.non])) := Kp.new hs4
      have e416 : upd H15 s4 (.lst [.non]) s4 = some (.lst [.non]) := upd_same
      have hd16 := hd15.kp k16 (by simp)
      have kk16 := kk15.trans (k16.mono (by simp))
      have em16 := k16.all m2 _ (by simp) em15
      have eD16 := k16.all D _ (by simp) eD15
      have e316 := k16.all s3 _ (by simp) es15
      generalize upd H15 s4 (.lst [.non]) = H16 at k16 e416 hd16 kk16 em16 eD16 e316 ⊢
      refine ⟨_, _, rfl, rfl, ⟨by decide, by decide, by decide⟩, _, _, rfl, rfl, (by show 1 ≤ sizeLine; decide), fun s5 hs5 => ?_⟩
      have ns5 := fresh kk16 hd16 hs5
      have k17 : Kp [] H16 (upd H16 s5 (.lst [.int ((10 : Int) ^ (6 : Int).toNat + 1)])) := Kp.new hs5
      have e517 : upd H16 s5 (.lst [.int ((10 : Int) ^ (6 : Int).toNat + 1)]) s5 = some (.lst [.int ((10 : Int) ^ (6 : Int).toNat + 1)]) := upd_same
      have hd17 := hd16.kp k17 (by simp)
      have kk17 := kk16.trans (k17.mono (by simp))
      have em17 := k17.all m2 _ (by simp) em16
      have eD17 := k17.all D _ (by simp) eD16
      have e317 := k17.all s3 _ (by simp) e316
      have e417 := k17.all s4 _ (by simp) e416
      refine ⟨_, _, rfl, rfl, ⟨by decide, by decide, by decide⟩, (by show 1 ≤ sizeLine; decide), fun s6 hs6 => ?_⟩
      change (upd H16 s5 (.lst [.int ((10 : Int) ^ (6 : Int).toNat + 1)])) s6 = none at hs6
      have ns6 := fresh kk17 hd17 hs6
      have k18 : Kp [] (upd H16 s5 (.lst [.int ((10 : Int) ^ (6 : Int).toNat + 1)])) (upd (upd H16 s5 (.lst [.int ((10 : Int) ^ (6 : Int).toNat + 1)])) s6 (.lst [.int ((10 : Int) ^ (6 : Int).toNat)])) := Kp.new hs6
      have e618 : upd (upd H16 s5 (.lst [.int ((10 : Int) ^ (6 : Int).toNat + 1)])) s6 (.lst [.int ((10 : Int) ^ (6 : Int).toNat)]) s6 = some (.lst [.int ((10 : Int) ^ (6 : Int).toNat)]) := upd_same
      have hd18 := hd17.kp k18 (by simp)
      have kk18 := kk17.trans (k18.mono (by simp))
      have em18 := k18.all m2 _ (by simp) em17
      have eD18 := k18.all D _ (by simp) eD17
      have e318 := k18.all s3 _ (by simp) e317
      have e418 := k18.all s4 _ (by simp) e417
      have e518 := k18.all s5 _ (by simp) e517
      refine ⟨(by show 4 ≤ sizeLine; decide), fun m3 hm3 => ?_⟩
      change (upd (upd H16 s5 (.lst [.int ((10 : Int) ^ (6 : Int).toNat + 1)])) s6 (.lst [.int ((10 : Int) ^ (6 : Int).toNat)])) m3 = none at hm3
      have k19 : Kp [] (upd (upd H16 s5 (.lst [.int ((10 : Int) ^ (6 : Int).toNat + 1)])) s6 (.lst [.int ((10 : Int) ^ (6 : Int).toNat)])) (upd (upd (upd H16 s5 (.lst [.int ((10 : Int) ^ (6 : Int).toNat + 1)])) s6 (.lst [.int ((10 : Int) ^ (6 : Int).toNat)])) m3 (.lst [.ref s3, .ref s4, .ref s5, .ref s6])) := Kp.new hm3
      have e319 := k19.all m2 _ (by simp) em18
      have em319 : (upd (upd (upd H16 s5 (.lst [.int ((10 : Int) ^ (6 : Int).toNat + 1)])) s6 (.lst [.int ((10 : Int) ^ (6 : Int).toNat)])) m3 (.lst [.ref s3, .ref s4, .ref s5, .ref s6])) m3 = some (.lst [.ref s3, .ref s4, .ref s5, .ref s6]) := upd_same
      have hd19 := hd18.kp k19 (by simp)
      have kk19 := kk18.trans (k19.mono (by simp))
      have eD19 := k19.all D _ (by simp) eD18
      have c3 := k19.all s3 _ (by simp) e318
      have c4 := k19.all s4 _ (by simp) e418
      have c5 := k19.all s5 _ (by simp) e518
      have c6 := k19.all s6 _ (by simp) e618
      refine ⟨m2, m3, _, _, rfl, rfl, e319, em319, (by rw [hR8l]; show 8 + 4 ≤ sizeLine; decide), fun m4 hm4 => one_new (E := fun _ _ _ => False) hm4 hd19 (by omega) (by rw [List.length_append, hR8l]; show 0 < 8 + 4; decide) (by rw [List.length_append, hR8l]; show 8 + 4 ≤ 1000; decide) fun z H20 k20 hd20 hz => ?_⟩
      have kk20 := kk19.trans k20
      refine ⟨(by show 3 ≤ sizeLine; decide), fun t ht => ?_⟩
      have fin : ∀ (b : Addr) (ms' : List V), z = .ref b → H b = none → H20 b = some (.lst ms') → (∀ m ∈ ms', flatA m = true) → ms'.length ≤ 3 → Q (.ref t) (upd H20 t (.tup [.str "earn", v, z])) := fun b ms' ez hb1 hb2 hb3 hb4 => by
        subst ez
        exact k (.earn v ms') t _ (kk20.trans (Kp.new ht)) ((hd20.kp (Kp.new (S := []) ht) (by simp)).mono (by omega)) ⟨t, b, rfl, upd_same, by rw [upd_ne (ne_of_none hb2 ht)]; exact hb2, hb1, hfv, hb3, hb4⟩
      have nd : ∀ {b : Addr} {o : List V}, H b = none → b ≠ d := fun {b o} hb z => by
        obtain ⟨a, b', c, e, _⟩ := id hd
        rw [z, e] at hb
        cases hb
      have up : ∀ {b : Addr} {ms' : List V}, H b = none → (upd (upd (upd H16 s5 (.lst [.int ((10 : Int) ^ (6 : Int).toNat + 1)])) s6 (.lst [.int ((10 : Int) ^ (6 : Int).toNat)])) m3 (.lst [.ref s3, .ref s4, .ref s5, .ref s6])) b = some (.lst ms') → H20 b = some (.lst ms') := fun {b ms'} hb e => k20.all b _ (by simp [nd (o := []) hb]) e
      rcases List.mem_append.mp hz with hz | hz
      · exact fin D ms (hR8 z hz) hDn (up hDn eD19) hf hml
      · simp only [List.mem_cons, List.not_mem_nil, or_false] at hz
        rcases hz with rfl | rfl | rfl | rfl
        · exact fin s3 _ rfl ns3 (up ns3 c3) (fun m hm => by
            rcases List.mem_append.mp hm with q | q
            · exact hcut m q
            · rw [List.mem_singleton.mp q]; rfl) (by rw [List.length_append]; show cs.length + 1 ≤ 3; omega)
        · exact fin s4 _ rfl ns4 (up ns4 c4) (fun m hm => by rw [List.mem_singleton.mp hm]; rfl) (by show 1 ≤ 3; decide)
        · exact fin s5 _ rfl ns5 (up ns5 c5) (fun m hm => by rw [List.mem_singleton.mp hm]; rfl) (by show 1 ≤ 3; decide)
        · exact fin s6 _ rfl ns6 (up ns6 c6) (fun m hm => by rw [List.mem_singleton.mp hm]; rfl) (by show 1 ≤ 3; decide)
    · rw [decide_eq_false hw5]
      refine iteF ⟨_, rfl, _, _, rfl, rfl, _, rfl, ?_⟩
      by_cases hw9 : way < 9
      · rw [decide_eq_true hw9]
        refine iteT ⟨_, rfl, _, rfl, _, rfl, _, rfl, _, _, rfl, rfl, _, rfl, d, _, 9, rfl, hd8, by omega, by decide, by decide, fun p2 H9 k9 hd9 hp0 hp1 => ?_⟩
        refine ⟨_, _, rfl, rfl, _, _, rfl, rfl, ⟨by decide, by decide, by decide⟩, _, _, rfl, rfl, (by show 8 ≤ sizeLine; decide), fun l5 hl5 => one_new (E := fun _ _ _ => False) hl5 hd9 (by omega) (by show 0 < 8; decide) (by show 8 ≤ 1000; decide) fun m H10 k10 hd10 hm => ?_⟩
        have hfm : flatA m = true := by
          simp only [List.mem_cons, List.not_mem_nil, or_false] at hm
          rcases hm with rfl | rfl | rfl | rfl | rfl | rfl | rfl | rfl <;> rfl
        refine ⟨(by show 3 ≤ sizeLine; decide), fun t ht => ?_⟩
        exact k (.spend v m) t _ (((kk8.trans k9).trans k10).trans (Kp.new ht)) ((hd10.kp (Kp.new (S := []) ht) (by simp)).mono (by omega)) ⟨t, rfl, upd_same, hfv, hfm⟩
      · rw [decide_eq_false hw9]
        refine iteF ⟨_, rfl, _, _, rfl, rfl, _, rfl, ?_⟩
        by_cases hw11 : way < 11
        · rw [decide_eq_true hw11]
          exact iteT ⟨_, rfl, (by show 3 ≤ sizeLine; decide), fun t ht => k (.wait v) t _ (kk8.trans (Kp.new ht)) ((hd8.kp (Kp.new (S := []) ht) (by simp)).mono (by omega)) ⟨t, rfl, upd_same, hfv⟩⟩
        · rw [decide_eq_false hw11]
          exact iteF ⟨(by show 3 ≤ sizeLine; decide), fun t ht => k .undo t _ (kk8.trans (Kp.new ht)) ((hd8.kp (Kp.new (S := []) ht) (by simp)).mono (by omega)) ⟨t, rfl, upd_same⟩⟩
end
end K16
-- part KL5
set_option Elab.async false
set_option linter.all false
set_option maxRecDepth 100000
set_option maxHeartbeats 4000000
/-! _law_after -/
namespace K16
open PySem L2 K16M
abbrev sAfter : Stmt := top 43
def resM (span : Int) (st : List Ev × Int) : Deed → Res
  | .earn v ms => earnM st v ms
  | .spend v m => spendM span st v m
  | .wait v => waitM st v
  | .undo => .time
/-- what _law_after gives -/
def AftP (H : Hp) (Q : VK) : Res → Prop
  | .time => ∀ H', Kp [] H H' → Q (.str "Time+") H'
  | .amount => ∀ H', Kp [] H H' → Q (.str "Amount+") H'
  | .many => ∀ H', Kp [] H H' → Q (.str "Many+30") H'
  | .enough => ∀ H', Kp [] H H' → Q (.str "Enough+") H'
  | .ok st' => ∀ t H', Kp [] H H' → StAt H' (.ref t) st' → Q (.ref t) H'
abbrev spAfter : Sp := fun vs H Q _ => ∃ (x dx : V) (span : Int) (st : List Ev × Int) (de : Deed) (H0 : Hp), vs = [x, .int span, dx] ∧ StAt H x st ∧ DeedAt H0 H dx de ∧ de ≠ .undo ∧ Good span st.2 st.1 ∧ st.1.length ≤ 30 ∧ AftP H Q (resM span st de)
abbrev nAfter : List Str := ["_law_state", "_law_span", "_law_deed_here", "_law_log", "_law_now", "_law_word", "_law_time", "_law_what", "_law_amounts", "_law_one_here"]
theorem scAfter : FnScope nAfter ["_law_state", "_law_span", "_law_deed_here"] (defScope sAfter) := ⟨rfl, rfl, rfl, by decide +kernel, rfl, by decide +kernel, by decide +kernel⟩
section
variable {P : Program} {w : World} {K : PySem.W.Frag} {mg : Str → Option Value} {base : Heap}
abbrev tWh (i : Nat) : TT := tNot (fun σ H Q => tCall spWhole [] (fun _ _ _ => False) (tCons (tVar i) tNil) σ H fun x H' => ∃ k, TruV K x H' k ∧ Q k H')
abbrev tLeI : R2 := rI0 fun i j => .bl (decide (i ≤ j))
abbrev tBad (K : PySem.W.Frag) : TT := tOr (tWh (K := K) 9) (tNot (tTest (tChain tLeI tLeI (tC (.int 1)) (tVar 9) (tOp (rI CPow fun i j => .int (i ^ j.toNat)) (tC (.int 10)) (tC (.int 6))))))
theorem all_filter {α : Type} (p : α → Bool) : ∀ l : List α, (l.filter fun m => !p m).isEmpty = l.all p
  | [] => rfl
  | a :: r => by
    rw [List.filter_cons, List.all_cons]
    cases h : p a with
    | true => exact all_filter p r
    | false => rfl
theorem bad_test {K : PySem.W.Frag} {σ : L2.St} {H : Hp} {v : V} {lo hi : Int} {i : Nat} {tlo thi : TE} {Q : Bool → Hp → Prop} (hv : flat4 v = true) (hσ : σ[i]? = some (some v)) (hlo : ∀ Q' : VK, Q' (.int lo) H → tlo σ H Q') (hhi : ∀ Q' : VK, Q' (.int hi) H → thi σ H Q') (q : Q (!isFrom v lo hi) H) :
    tOr (tWh (K := K) i) (tNot (tTest (tChain tLeI tLeI tlo (tVar i) thi))) σ H Q := by
  refine ⟨v, hσ, v, rfl, hv, _, rfl, ?_⟩
  cases v with
  | int t =>
    refine iteF (hlo _ ⟨_, hσ, lo, t, rfl, rfl, _, rfl, ?_⟩)
    have e0 : isFrom (.int t) lo hi = (decide (lo ≤ t) && decide (t ≤ hi)) := rfl
    rw [e0] at q
    cases e : decide (lo ≤ t) with
    | true =>
      rw [e, Bool.true_and] at q
      exact iteT (hhi _ ⟨t, hi, rfl, rfl, _, rfl, q⟩)
    | false =>
      rw [e, Bool.false_and] at q
      exact iteF ⟨_, rfl, q⟩
  | non => exact iteT q
  | bl b => exact iteT q
  | str x => exact iteT q
  | _ => cases hv
def dA : V → PyData
  | .int i => .int i
  | _ => .none
theorem dp_A {K : PySem.W.Frag} {H : Hp} : ∀ {xs : List V}, (∀ m ∈ xs, flatA m = true) → DpAll K H xs (xs.map dA)
  | [], _ => .nil
  | x :: r, h => .cons (by
      have := h x List.mem_cons_self
      cases x with
      | non => exact .non
      | int i => exact .int i
      | _ => cases this) (dp_A fun m hm => h m (List.mem_cons_of_mem _ hm))
theorem sh_A (xs : List V) : SeqAt.shaped (.list (xs.map dA)) = true := (sh_list (n := 1) fun d hd => by
  obtain ⟨x, _, rfl⟩ := List.mem_map.mp hd
  cases x with
  | int i => exact sh_int i
  | _ => exact ⟨rfl, by show PyData.depth .none ≤ 1; rw [PyData.depth]; omega⟩).shaped (by decide)
/-- a deed but undo, unpacked -/
theorem deed_open {H0 H : Hp} {dx : V} {de : Deed} {span : Int} {evs : List Ev} {now : Int} (h : DeedAt H0 H dx de) (hu : de ≠ .undo) (hlen : evs.length ≤ 30) : ∃ (td : Addr) (wd : Str) (v what : V), dx = .ref td ∧ H td = some (.tup [.str wd, v, what]) ∧ flat4 v = true ∧
    (isFrom v now 10000 = false → resM span (evs, now) de = .time) ∧ (isFrom v now 10000 = true → (wd = "wait" ∧ resM span (evs, now) de = .ok (evs, toI v)) ∨
      ∃ (kd : Bool) (ms : List V), wd = (if kd = true then ("earn" : Str) else ("spend" : Str)) ∧ (∀ m ∈ ms, flatA m = true) ∧ ms.length ≤ 3 ∧ ((kd = true ∧ ∃ l, what = .ref l ∧ H l = some (.lst ms)) ∨ (kd = false ∧ ms = [what])) ∧
        resM span (evs, now) de = (if ms.all (fun m => isFrom m 1 1000000) = true then (if evs.length + ms.length > 30 then .many else if kd = false ∧ balL span (toI v) evs < toI what then .enough else .ok (evs ++ ms.map (fun m => ⟨kd, toI v, toI m⟩), toI v)) else .amount)) := by
  cases de with
  | undo => exact absurd rfl hu
  | wait v =>
    obtain ⟨t, rfl, e, hv⟩ := h
    refine ⟨t, "wait", v, .int 0, rfl, e, hv, fun hf => ?_, fun hf => .inl ⟨rfl, if_pos hf⟩⟩
    show waitM _ _ = _
    unfold waitM
    rw [if_neg (by rw [hf]; decide)]
  | earn v ms =>
    obtain ⟨t, l, rfl, e, el, _, hv, hms, hml⟩ := h
    refine ⟨t, "earn", v, .ref l, rfl, e, hv, fun hf => ?_, fun hf => .inr ⟨true, ms, rfl, hms, hml, .inl ⟨rfl, l, rfl, el⟩, ?_⟩⟩
    · show earnM _ _ _ = _
      unfold earnM
      rw [if_neg (by rw [hf]; decide)]
    · show earnM _ _ _ = _
      unfold earnM
      rw [if_pos hf]
      simp
  | spend v m =>
    obtain ⟨t, rfl, e, hv, hm⟩ := h
    refine ⟨t, "spend", v, m, rfl, e, hv, fun hf => ?_, fun hf => .inr ⟨false, [m], rfl, (fun x hx => by rw [List.mem_singleton.mp hx]; exact hm), (by show 1 ≤ 3; decide), .inr ⟨rfl, rfl⟩, ?_⟩⟩
    · show spendM _ _ _ _ = _
      unfold spendM
      rw [if_neg (by rw [hf]; decide)]
    · show spendM _ _ _ _ = _
      unfold spendM
      rw [if_pos hf]
      have ea : [m].all (fun m => isFrom m 1 1000000) = isFrom m 1 1000000 := by simp
      rw [ea]
      by_cases hi : isFrom m 1 1000000 = true
      · rw [if_pos hi, if_pos hi]
        dsimp only
        by_cases h30 : evs.length = 30
        · rw [if_pos h30, if_pos (show evs.length + [m].length > 30 by show evs.length + 1 > 30; omega)]
        · rw [if_neg h30, if_neg (show ¬ evs.length + [m].length > 30 by show ¬ evs.length + 1 > 30; omega)]
          simp
      · rw [if_neg hi, if_neg hi]
theorem ok_after {f : Addr} {fd : FuncData} (F : Fun K "_law_after" "_law_after" sAfter f fd) (hl : mg "len" = none) (htu : mg "tuple" = none) (hW : Cal0 P w K mg base CX0 1 "_law_whole" ["_law_thing"] spWhole)
    (hT : Cal0 P w K mg base CX0 2 "_law_there" ["_law_log", "_law_span", "_law_moment"] (spLogNum balL)) : FnOk P w K mg base CX0 3 f fd ["_law_state", "_law_span", "_law_deed_here"] spAfter := by
  refine F.ok scAfter (fun vs H Q E h => ?_) (fun cdv A outer s H vs Q E hr h => ?_)
  · obtain ⟨x, dx, span, st, de, H0, rfl, _⟩ := h
    rfl
  · obtain ⟨x, dx, span, ⟨evs, now⟩, de, H0, rfl, hst, hde, hnu, hg, hlen, k⟩ := h
    have hr1 := Room.mono hr (show 1 ≤ 2 by decide)
    refine ⟨_, pss_cons (ps_asg (pv 0) (pg_tup rfl (pgs_cons (pg_name (i := 3) scAfter.nd rfl (Or.inl rfl)) (pgs_cons (pg_name (i := 4) scAfter.nd rfl (Or.inl rfl)) pgs_nil))))
      (pss_cons (ps_asg (pv 2) (pg_tup rfl (pgs_cons (pg_name (i := 5) scAfter.nd rfl (Or.inr rfl)) (pgs_cons (pg_name (i := 6) scAfter.nd rfl (Or.inr rfl)) (pgs_cons (pg_name (i := 7) scAfter.nd rfl (Or.inl rfl)) pgs_nil)))))
      (pss_cons (ps_if ((pw_or (pt_not (pt_truth (pe_cal hW hr1 (by rfl) pass0 (pa_cons (pv 6) pa_nil)) (fun _ => rfl))) (pw_or1 (pt_not (pt_chain op_le op_le (pv 4) (pv 6) pe_int)))).pt) (pss_one (ps_ret pe_str)) pss_nil)
      (pss_cons (ps_if (pt_cmpR op_eq (pv 5) pe_str (nomark _)) (pss_one (ps_ret (pe_tup (pa_cons (pv 3) (pa_cons (pv 6) pa_nil))))) pss_nil)
      (pss_cons (ps_set (i := 8) scAfter.nd rfl (Or.inl rfl) (pe_ifExp (pt_cmpR op_eq (pv 5) pe_str (nomark _)) (pv 7) (pe_lst (pa_cons (pv 7) pa_nil))))
      (pss_cons (ps_if (pt_cmpR (op_neD hr.units) (pe_lc (own := [("_law_one_here", 9)]) (g := gName 9) (tt := tBad K) (te := tVar 9) rfl scAfter.nd (pi_list (pv 8)) (blkOk_by (N := nAfter) (sc := defScope sAfter) (by decide +kernel))
          (fun _ _ _ _ _ => pg_name (i := 9) scAfter.nd rfl (Or.inl rfl))
          (fun _ _ _ _ _ => pts_one (pw_or (pt_not (pt_truth (pe_cal hW hr1 (by rfl) pass0 (pa_cons (pv 9) pa_nil)) (fun _ => rfl))) (pw_or1 (pt_not (pt_chain op_le op_le pe_int (pv 9) (pe_op op_pow pe_int pe_int))))).pt)
          (fun _ _ _ _ _ => pv 9)) (pe_lst pa_nil) (nomark _)) (pss_one (ps_ret pe_str)) pss_nil)
      (pss_cons (ps_if (pt_cmpR op_gt (pe_op op_add (pe_callB call_len_seq (by rfl) hl PySem.boot_len (pa_cons (pv 3) pa_nil)) (pe_callB call_len_seq (by rfl) hl PySem.boot_len (pa_cons (pv 8) pa_nil))) pe_int (nomark _)) (pss_one (ps_ret pe_str)) pss_nil)
      (pss_cons (ps_if ((pw_and (pt_cmpR op_eq (pv 5) pe_str (nomark _)) (pw_and1 (pt_cmpR op_lt (pe_cal hT hr (by rfl) pass0 (pa_cons (pv 3) (pa_cons (pv 1) (pa_cons (pv 6) pa_nil)))) (pv 7) (nomark _)))).pt) (pss_one (ps_ret pe_str)) pss_nil)
      (pss_one (ps_ret (pe_tup (pa_cons (pe_op op_catA (pv 3) (pe_callTy call_tuple_of (by rfl) htu (by decide +kernel) (pa_cons (pe_lc (own := [("_law_one_here", 9)]) (g := gName 9) (tt := tYes) (te := tTup (tCons (tVar 5) (tCons (tVar 6) (tCons (tVar 9) tNil)))) rfl scAfter.nd (pi_list (pv 8)) (blkOk_by (N := nAfter) (sc := defScope sAfter) (by decide +kernel))
          (fun _ _ _ _ _ => pg_name (i := 9) scAfter.nd rfl (Or.inl rfl)) (fun _ _ _ _ _ => pts_nil) (fun _ _ _ _ _ => pe_tup (pa_cons (pv 5) (pa_cons (pv 6) (pa_cons (pv 9) pa_nil))))) pa_nil))) (pa_cons (pv 6) pa_nil)))))))))))), ?_⟩
    obtain ⟨sa, lg, rfl, hsa, hlg⟩ := id hst
    obtain ⟨td, wd, v, what, rfl, htd, hv, hr0, hr1'⟩ := deed_open (span := span) (now := now) hde hnu hlen
    refine ⟨_, rfl, sa, _, rfl, SqT.of hsa, rfl, _, _, rfl, _, _, rfl, rfl, ?_⟩
    refine ⟨_, rfl, td, _, rfl, SqT.of htd, rfl, _, _, rfl, _, _, rfl, _, _, rfl, rfl, ?_⟩
    refine bad_test (K := K) (lo := now) (hi := 10000) hv rfl (fun Q' h => ⟨_, rfl, h⟩) (fun Q' h => h) ?_
    cases hf : isFrom v now 10000 with
    | false =>
      rw [hr0 hf] at k
      exact iteT (k H .refl)
    | true =>
      refine iteF ?_
      obtain ⟨t, rfl, ht1, ht2⟩ := isFrom_int hf
      refine ⟨_, rfl, rfl, _, rfl, ?_⟩
      rcases hr1' hf with ⟨rfl, e⟩ | ⟨kd, ms, rfl, hms, hml, hk, e⟩
      · rw [e] at k
        rw [decide_eq_true rfl]
        refine iteT ⟨_, rfl, _, rfl, (by show 2 ≤ sizeLine; decide), fun u hu => k u _ (Kp.new hu) ⟨u, lg, rfl, upd_same, hlg.kp (Kp.new (S := []) hu)⟩⟩
      · rw [e] at k
        rw [show decide (V.str (if kd = true then "earn" else "spend") = V.str "wait") = false by cases kd <;> decide +kernel]
        refine iteF ?_
        have am : ∀ R : VK, (∀ L H2, Kp [] H H2 → H2 L = some (.lst ms) → R (.ref L) H2) → tIf (tTest (tOp rEq (tVar 5) (tC (.str "earn")))) (tVar 7) (tLst (tCons (tVar 7) tNil)) [some (.ref sa), some (.int span), some (.ref td), some (.ref lg), some (.int now), some (.str (if kd = true then "earn" else "spend")), some (.int t), some what, none, none] H R := fun R h => by
          refine ⟨_, rfl, rfl, _, rfl, ?_⟩
          rcases hk with ⟨rfl, l, rfl, hl2⟩ | ⟨rfl, rfl⟩
          · rw [show decide (V.str (if true = true then "earn" else "spend") = V.str "earn") = true by decide +kernel]
            exact iteT ⟨_, rfl, h l H .refl hl2⟩
          · rw [show decide (V.str (if false = true then "earn" else "spend") = V.str "earn") = false by decide +kernel]
            exact iteF ⟨_, rfl, (by show 1 ≤ sizeLine; decide), fun l hl2 => h l _ (Kp.new hl2) upd_same⟩
        refine am _ fun L H2 k2 hL => ?_
        change tSeq (tIfS (tTest (tOp (rNeD K) (tLc (iList K (tVar 8)) (gName 9) (tBad K) (tVar 9) [9]) (tLst tNil))) (tRet (tC (.str "Amount+"))) tNext) _ _ [some (.ref sa), some (.int span), some (.ref td), some (.ref lg), some (.int now), some (.str (if kd = true then "earn" else "spend")), some (.int t), some what, some (.ref L), none] H2
        refine r_seq (r_if (r_test (r_op (r_lc (r_iList ⟨_, rfl, L, rfl, ⟨_, SqL.of hL⟩, rd_lcV (xs := ms) (l := ms) (c := fun m => !isFrom m 1 1000000) walk_list (fun H3 kk => SqL.kp hL kk) (by show 9 < 10; decide) rfl (by omega) (fun m => m)
          (fun j x p H3 Qt hx hp k3 h => by
            rw [hx] at hp
            cases hp
            exact bad_test (K := K) (lo := 1) (hi := 1000000) (flatA_4 (hms x (List.mem_of_getElem? hx))) rfl (fun Q' h => h) (fun Q' h => ⟨_, _, rfl, rfl, ⟨by decide, by decide, by decide⟩, h⟩) h)
          (fun j x p H3 Qe hx hp _ k3 h => by
            rw [hx] at hp
            cases hp
            exact ⟨_, rfl, h⟩) fun D hD => ?_⟩)))))
        rw [List.map_id']
        have hbm : ∀ m ∈ ms.filter (fun m => !isFrom m 1 1000000), flatA m = true := fun m hm => hms m (List.mem_filter.mp hm).1
        have hall : (ms.filter (fun m => !isFrom m 1 1000000)).isEmpty = ms.all (fun m => isFrom m 1 1000000) := all_filter _ _
        generalize ms.filter (fun m => !isFrom m 1 1000000) = bad at hbm hall ⊢
        have k3 : Kp [] H2 (upd H2 D (.lst bad)) := Kp.new hD
        have hD3 : upd H2 D (.lst bad) D = some (.lst bad) := upd_same
        have hL3 := k3.all L _ (by simp) hL
        have kk3 := k2.trans k3
        generalize upd H2 D (.lst bad) = H3 at k3 hD3 hL3 kk3 ⊢
        refine ⟨Nat.zero_le _, fun z hz => ?_⟩
        have k4 : Kp [] H3 (upd H3 z (.lst [])) := Kp.new hz
        have hD4 := k4.all D _ (by simp) hD3
        have hz4 : upd H3 z (.lst []) z = some (.lst []) := upd_same
        have hL4 := k4.all L _ (by simp) hL3
        have kk4 := kk3.trans k4
        generalize upd H3 z (.lst []) = H4 at k4 hD4 hz4 hL4 kk4 ⊢
        refine ⟨_, _, .lst (SqL.of hD4) (dp_A hbm), .lst (SqL.of hz4) .nil, sh_A _, sh_nil, _, rfl, ?_⟩
        have eE : PyData.eqv (.list (bad.map dA)) (.list []) = bad.isEmpty := by cases bad <;> rfl
        rw [eE, hall]
        cases hal : ms.all (fun m => isFrom m 1 1000000) with
        | false =>
          rw [hal, if_neg (by decide)] at k
          exact iteT (k H4 kk4)
        | true =>
          rw [hal, if_pos rfl] at k
          obtain ⟨es, hes, hrf⟩ := id (hlg.kp kk4)
          refine iteF ⟨_, rfl, lg, es, rfl, .inr (SqT.of hes), _, rfl, L, ms, rfl, .inl (SqL.of hL4), _, _, rfl, rfl, _, _, rfl, rfl, _, rfl, ?_⟩
          rw [show es.length = evs.length from hrf.len]
          by_cases h30 : evs.length + ms.length > 30
          · rw [if_pos h30] at k
            rw [decide_eq_true (by omega)]
            exact iteT (k H4 kk4)
          · rw [if_neg h30] at k
            rw [decide_eq_false (by omega)]
            refine iteF ⟨_, rfl, rfl, _, rfl, ?_⟩
            have gt : Good span t evs := good_mono hg ht1
            have fin : (∀ u H5, Kp [] H H5 → StAt H5 (.ref u) (evs ++ ms.map (fun m => (⟨kd, t, toI m⟩ : Ev)), t) → Q (.ref u) H5) → ∀ (D : Ends) (H5 : Hp), D.rt = Q → Kp [] H4 H5 → tRet (tTup (tCons (tOp (rCatA K) (tVar 3) (tCB (fun xs H Q => ∃ p ys, xs = [V.ref p] ∧ ((SqL K H p ys ∧ ∀ l, H l = none → Q (.ref l) (upd H l (.tup ys))) ∨ (SqT K H p ys ∧ Q (.ref p) H))) (tCons (tLc (iList K (tVar 8)) (gName 9) tYes (tTup (tCons (tVar 5) (tCons (tVar 6) (tCons (tVar 9) tNil)))) [9]) tNil))) (tCons (tVar 6) tNil)))
                D [some (.ref sa), some (.int span), some (.ref td), some (.ref lg), some (.int now), some (.str (if kd = true then ("earn" : Str) else ("spend" : Str))), some (.int t), some what, some (.ref L), none] H5 := fun kq D H5 hD5 k5 => by
              have hL5 := k5.all L _ (by simp) hL4
              have hlg5 := (hlg.kp kk4).kp k5
              have kk5 := kk4.trans k5
              refine r_ret ?_
              rw [hD5]
              refine r_tup (r_cons (r_op ⟨_, rfl, r_cb (r_cons (r_lc (r_iList ⟨_, rfl, L, rfl, ⟨_, SqL.of hL5⟩, rd_lcT (α := V) (l := ms) (c := fun _ => true) walk_list (fun H2' kk => SqL.kp hL5 kk) (by show 9 < 10; decide) rfl (by omega) (fun m => evO ⟨kd, t, toI m⟩) (fun m => ⟨_, rfl⟩) (fun j x p' H3 Qt _ _ _ q => q)
                (fun j x p' H3 Qe hx hx' _ k3 q => ?_) (fun Z H6 zs k6 hZ hZ6 hzs => ?_)⟩)))⟩))
              · rw [hx] at hx'
                cases hx'
                rw [List.all_eq_true] at hal
                obtain ⟨n, rfl, hn1, hn2⟩ := isFrom_int (hal x (List.mem_of_getElem? hx))
                exact ⟨_, rfl, _, rfl, _, rfl, (by show 3 ≤ sizeLine; decide), fun r hr => q r hr⟩
              · have ef : ms.filter (fun _ => true) = ms := List.filter_eq_self.mpr fun _ _ => rfl
                rw [ef] at hzs
                refine ⟨Z, zs, rfl, .inl ⟨SqL.of hZ6, fun y hy => ?_⟩⟩
                have k7 : Kp [] H6 (upd H6 y (.tup zs)) := Kp.new hy
                have hLog : LogAt (upd H6 y (.tup zs)) y (ms.map fun m => (⟨kd, t, toI m⟩ : Ev)) := ⟨zs, upd_same, mapTo (f := fun m => (⟨kd, t, toI m⟩ : Ev)) (hzs.kp k7 fun _ => ⟨_, rfl⟩)⟩
                have hlg7 := (hlg5.kp k6).kp k7
                refine cat_log hlg7 hLog (by rw [List.length_map]; omega) fun r H8 k8 hr8 => ?_
                refine ⟨_, rfl, (by show 2 ≤ sizeLine; decide), fun u hu => ?_⟩
                exact kq u _ (((kk5.trans k6).trans k7).trans (k8.trans (Kp.new hu))) ⟨u, r, rfl, upd_same, hr8.kp (Kp.new (S := []) hu)⟩
            cases kd with
            | true =>
              rw [show decide (V.str (if true = true then ("earn" : Str) else ("spend" : Str)) = V.str "spend") = false by decide +kernel]
              refine iteF (iteF ?_)
              rw [if_neg (by simp)] at k
              exact fin k _ H4 rfl .refl
            | false =>
              rw [show decide (V.str (if false = true then ("earn" : Str) else ("spend" : Str)) = V.str "spend") = true by decide +kernel]
              obtain ⟨n, hwn⟩ : ∃ n : Int, what = .int n := by
                rcases hk with ⟨z, _⟩ | ⟨_, z⟩
                · cases z
                · rw [z] at hal
                  rw [List.all_eq_true] at hal
                  obtain ⟨n, e, _⟩ := isFrom_int (hal what (by simp))
                  exact ⟨n, e⟩
              refine iteT ⟨_, rfl, _, rfl, _, rfl, lg, span, t, evs, rfl, hlg.kp kk4, gt, by omega, fun H5 k5 => ⟨_, rfl, _, n, rfl, hwn, _, rfl, ?_⟩⟩
              subst hwn
              by_cases hb : balL span t evs < n
              · rw [if_pos (show (false = false ∧ balL span (toI (.int t)) evs < toI (.int n)) from ⟨rfl, hb⟩)] at k
                rw [decide_eq_true hb]
                exact iteT (k H5 (kk4.trans k5))
              · rw [if_neg (show ¬ (false = false ∧ balL span (toI (.int t)) evs < toI (.int n)) from fun z => hb z.2)] at k
                rw [decide_eq_false hb]
                refine iteF ?_
                exact fin k _ H5 rfl k5
end
end K16
-- part KL6
set_option Elab.async false
set_option linter.all false
set_option maxRecDepth 100000
set_option maxHeartbeats 4000000
/-! _law_next, _law_earn -/
namespace K16
open PySem L2 K16M
abbrev sNext : Stmt := top 44
abbrev sLEarn : Stmt := top 45
inductive Nx | word (w : Str) | pop | push (st' : List Ev × Int)
def resN : Res → Nx
  | .time => .word "Time+"
  | .amount => .word "Amount+"
  | .many => .word "Many+30"
  | .enough => .word "Enough+"
  | .ok st' => .push st'
def nextM (span : Int) (past : List (List Ev × Int)) (st : List Ev × Int) : Deed → Nx
  | .undo => if past = [] then .word "Undo+" else .pop
  | .earn v ms => resN (resM span st (.earn v ms))
  | .spend v m => resN (resM span st (.spend v m))
  | .wait v => resN (resM span st (.wait v))
theorem nextM_res {span : Int} {past : List (List Ev × Int)} {st : List Ev × Int} {de : Deed} (h : de ≠ .undo) : nextM span past st de = resN (resM span st de) := by
  cases de with
  | undo => exact absurd rfl h
  | _ => rfl
def NxP (S : Addr) (span : Int) (past : List (List Ev × Int)) (st : List Ev × Int) (H : Hp) (Q : VK) : Nx → Prop
  | .word w => ∀ H', Kp [] H H' → Q (.str w) H'
  | .pop => ∀ u H' xs', Kp [S] H H' → H' S = some (.lst xs') → StsAt H' xs' past → H' u = some (.tup [.str "told", .non]) → Q (.ref u) H'
  | .push st' => ∀ u H' xs', Kp [S] H H' → H' S = some (.lst xs') → StsAt H' xs' (past ++ [st] ++ [st']) → H' u = some (.tup [.str "told", .int (balL span st'.2 st'.1)]) → Q (.ref u) H'
abbrev spNext : Sp := fun vs H Q _ => ∃ (S : Addr) (dx : V) (span : Int) (st : List Ev × Int) (past : List (List Ev × Int)) (xs : List V) (de : Deed) (H0 : Hp), vs = [.ref S, .int span, dx] ∧ H S = some (.lst xs) ∧ StsAt H xs (past ++ [st]) ∧ DeedAt H0 H dx de ∧
  Good span st.2 st.1 ∧ st.1.length ≤ 30 ∧ past.length ≤ 900 ∧ NxP S span past st H Q (nextM span past st de)
theorem res_good {span : Int} {st st' : List Ev × Int} {de : Deed} (g : Good span st.2 st.1) (hl : st.1.length ≤ 30) (e : resM span st de = .ok st') : Good span st'.2 st'.1 ∧ st'.1.length ≤ 30 := by
  cases de with
  | undo => cases e
  | wait v =>
    have e : waitM st v = .ok st' := e
    unfold waitM at e
    split at e
    · rename_i hf
      obtain ⟨n, rfl, h1, h2⟩ := isFrom_int hf
      cases e
      exact ⟨good_mono g h1, hl⟩
    · cases e
  | earn v ms =>
    have e : earnM st v ms = .ok st' := e
    unfold earnM at e
    split at e
    · rename_i hf
      obtain ⟨n, rfl, h1, h2⟩ := isFrom_int hf
      split at e
      · rename_i hal
        split at e
        · cases e
        · rename_i h30
          cases e
          refine ⟨?_, by rw [List.length_append, List.length_map]; omega⟩
          have em : (ms.map fun m => (⟨true, n, toI m⟩ : Ev)) = (ms.map toI).map fun k => (⟨true, n, k⟩ : Ev) := by rw [List.map_map]; rfl
          show Good span n (st.1 ++ ms.map fun m => (⟨true, n, toI m⟩ : Ev))
          rw [em]
          refine good_earns g h1 fun k hk => ?_
          obtain ⟨m, hm, rfl⟩ := List.mem_map.mp hk
          rw [List.all_eq_true] at hal
          obtain ⟨n, rfl, hn1, hn2⟩ := isFrom_int (hal m hm)
          exact hn1
      · cases e
    · cases e
  | spend v m =>
    have e : spendM span st v m = .ok st' := e
    unfold spendM at e
    split at e
    · rename_i hf
      obtain ⟨n, rfl, h1, h2⟩ := isFrom_int hf
      split at e
      · rename_i hm
        obtain ⟨k, rfl, h3, h4⟩ := isFrom_int hm
        split at e
        · cases e
        · rename_i h30
          split at e
          · cases e
          · rename_i hb
            cases e
            exact ⟨good_spend g h1 h3 (show k ≤ balL span n st.1 from Int.not_lt.mp hb), by rw [List.length_append]; show st.1.length + 1 ≤ 30; omega⟩
      · cases e
    · cases e
theorem sts_drop {H : Hp} : ∀ (zs : List V) (pst : List (List Ev × Int)) (st' : List Ev × Int), StsAt H zs (pst ++ [st']) → StsAt H zs.dropLast pst := by
  intro zs pst
  induction pst generalizing zs with
  | nil =>
    intro st' h
    cases h with
    | cons r t => cases t; exact .nil
  | cons p ps ih =>
    intro st' h
    cases h with
    | @cons z _ zr _ r t =>
      have := ih zr st' t
      cases zr with
      | nil => cases ps <;> cases t
      | cons z2 zr2 => exact .cons r this
theorem Prm.base {C : Addr} {er : Errs} {a ps : Addr} {span : Int} {st : List Ev × Int} {past : List (List Ev × Int)} {H H2 : Hp} {Q : VK} {E : XK} (k : Kp [] H H2) : ∀ {r : Res}, Prm C er a ps span st past H Q E r → Prm C er a ps span st past H2 Q E r
  | .time, h => fun H' k' => h H' (k.trans k')
  | .amount, h => fun H' k' => h H' (k.trans k')
  | .many, h => fun H' d k' hd e => h H' d (k.trans k') (k.free (by simp) hd) e
  | .enough, h => fun H' k' => h H' (k.trans k')
  | .ok st', h => fun H' k' hA => h H' ((k.mono (by simp)).trans k') hA
section
variable {P : Program} {w : World} {K : PySem.W.Frag} {mg : Str → Option Value} {base : Heap}
abbrev nNext : List Str := ["_law_states", "_law_span", "_law_deed_here", "_law_found"]
theorem scNext : FnScope nNext ["_law_states", "_law_span", "_law_deed_here"] (defScope sNext) := ⟨rfl, rfl, rfl, by decide +kernel, rfl, by decide +kernel, by decide +kernel⟩
theorem scLEarn : FnScope ["_law_account", "_law_time", "_law_what"] ["_law_account", "_law_time", "_law_what"] (defScope sLEarn) := ⟨rfl, rfl, rfl, by decide +kernel, rfl, by decide +kernel, by decide +kernel⟩
theorem ok_next {f : Addr} {fd : FuncData} (F : Fun K "_law_next" "_law_next" sNext f fd) (hl : mg "len" = none) (hi : mg "isinstance" = none) (hs : mg "str" = none) (hA : Cal0 P w K mg base CX0 3 "_law_after" ["_law_state", "_law_span", "_law_deed_here"] spAfter)
    (hT : Cal0 P w K mg base CX0 2 "_law_there" ["_law_log", "_law_span", "_law_moment"] (spLogNum balL)) : FnOk P w K mg base CX0 4 f fd ["_law_states", "_law_span", "_law_deed_here"] spNext := by
  refine F.ok scNext (fun vs H Q E h => ?_) (fun cdv A outer s H vs Q E hr h => ?_)
  · obtain ⟨S, dx, span, st, past, xs, de, H0, rfl, _⟩ := h
    rfl
  · obtain ⟨S, dx, span, st, past, xs, de, H0, rfl, hS, hst, hde, hg, hlen, hp, k⟩ := h
    have hr2 := Room.mono hr (show 2 ≤ 3 by decide)
    refine ⟨_, pss_cons (ps_if (pt_cmpR op_eq (pe_ix ix_tup (pv 2) pe_int (fun _ _ => rfl)) pe_str (nomark _))
        (pss_cons (ps_if (pt_cmpR op_eq (pe_callB call_len_seq (by rfl) hl PySem.boot_len (pa_cons (pv 0) pa_nil)) pe_int (nomark _)) (pss_one (ps_ret pe_str)) pss_nil)
        (pss_cons (ps_expr (pe_bm0 PySem.F.plainAttrs_list PySem.F.slot_list_pop PySem.F.type_list_pop mt_pop (pv 0)))
        (pss_one (ps_ret (pe_tup (pa_cons pe_str (pa_cons pe_non pa_nil))))))) pss_nil)
      (pss_cons (ps_set (i := 3) scNext.nd rfl (Or.inl rfl) (pe_cal hA hr (by rfl) pass0 (pa_cons (pe_ix ix_list (pv 0) (pe_un un_neg pe_int) (fun _ _ => rfl)) (pa_cons (pv 1) (pa_cons (pv 2) pa_nil)))))
      (pss_cons (ps_if (pt_truth (pe_callB call_isi (by rfl) hi (by decide +kernel) (pa_cons (pv 3) (pa_cons (pe_bltn (v := .ty "str") rfl hs (by decide +kernel) rfl) pa_nil))) (fun _ => rfl)) (pss_one (ps_ret (pv 3))) pss_nil)
      (pss_cons (ps_expr (pe_bm PySem.F.plainAttrs_list PySem.F.slot_list_append PySem.F.type_list_append mt_append (pv 0) (pa_cons (pv 3) pa_nil)))
      (pss_one (ps_ret (pe_tup (pa_cons pe_str (pa_cons (pe_cal hT hr2 (by rfl) pass0 (pa_cons (pe_ix ix_tup (pv 3) pe_int (fun _ _ => rfl)) (pa_cons (pv 1) (pa_cons (pe_ix ix_tup (pv 3) pe_int (fun _ _ => rfl)) pa_nil)))) pa_nil)))))))), ?_⟩
    have hxl : xs.length = past.length + 1 := by rw [Paired.length hst]; simp
    obtain ⟨x, hx, hxs⟩ := paired_g hst (i := past.length) (c := st) (by simp)
    by_cases hu : de = .undo
    · subst hu
      obtain ⟨td, rfl, htd⟩ := hde
      refine ⟨_, rfl, td, _, 0, _, rfl, rfl, SqT.of htd, atI_nat (j := 0) rfl, rfl, _, rfl, ?_⟩
      rw [show decide (V.str "undo" = V.str "undo") = true from decide_eq_true rfl]
      refine iteT ⟨_, rfl, S, xs, rfl, .inl (SqL.of hS), rfl, _, rfl, ?_⟩
      rw [dec_int]
      have hk : ((xs.length : Int) == 1) = decide (past = []) := by
        rw [hxl]
        cases past with
        | nil => rfl
        | cons p r =>
          rw [decide_eq_false (by simp)]
          simp
          omega
      rw [hk]
      unfold nextM at k
      by_cases hpn : past = []
      · rw [if_pos hpn] at k
        rw [decide_eq_true hpn]
        exact iteT (k H .refl)
      · rw [if_neg hpn] at k
        rw [decide_eq_false hpn]
        refine iteF ⟨_, rfl, .inl ⟨rfl, _, SqL.of hS⟩, S, xs, x, rfl, rfl, hS, by rw [hxl]; exact hx, ?_⟩
        have k1 : Kp [S] H (upd H S (.lst xs.dropLast)) := Kp.set hS (by simp) lst_tup
        have hS1 : upd H S (.lst xs.dropLast) S = some (.lst xs.dropLast) := upd_same
        have hst1 := (sts_drop _ _ _ hst).kp k1
        refine ⟨(by show 2 ≤ sizeLine; decide), fun u hu => ?_⟩
        change upd H S (.lst xs.dropLast) u = none at hu
        have k2 : Kp [S] (upd H S (.lst xs.dropLast)) (upd (upd H S (.lst xs.dropLast)) u (.tup [.str "told", .non])) := Kp.new hu
        exact k u _ _ (k1.trans k2) (by rw [upd_ne (ne_of_none hS1 hu)]; exact hS1) (hst1.kp k2) upd_same
    · rw [nextM_res hu] at k
      obtain ⟨td, wd, v, what, rfl, htd, hv, hr0, hr1⟩ := deed_open (span := span) (now := st.2) hde hu hlen
      refine ⟨_, rfl, td, _, 0, _, rfl, rfl, SqT.of htd, atI_nat (j := 0) rfl, rfl, _, rfl, ?_⟩
      have hwd : decide (V.str wd = V.str "undo") = false := by
        cases hf : isFrom v st.2 10000 with
        | true =>
          rcases hr1 hf with ⟨rfl, _⟩ | ⟨kd, ms, rfl, _⟩
          · decide +kernel
          · cases kd <;> decide +kernel
        | false =>
          cases de with
          | undo => exact absurd rfl hu
          | wait v => obtain ⟨t, e1, e2, _⟩ := hde; cases e1; rw [htd] at e2; cases e2; decide +kernel
          | earn v ms => obtain ⟨t, l, e1, e2, _⟩ := hde; cases e1; rw [htd] at e2; cases e2; decide +kernel
          | spend v m => obtain ⟨t, e1, e2, _⟩ := hde; cases e1; rw [htd] at e2; cases e2; decide +kernel
      rw [hwd]
      refine iteF ⟨_, rfl, 1, rfl, S, xs, -1, x, rfl, rfl, SqL.of hS, atI_neg1 hxl hx, _, rfl, _, rfl, x, .ref td, span, st, de, H0, rfl, hxs, hde, hu, hg, hlen, ?_⟩
      have word : ∀ wd, (∀ H', Kp [] H H' → Q (.str wd) H') → ∀ H', Kp [] H H' → rIsi K [.str wd, .ty "str"] H' (fun y H2 => True) := fun _ _ _ _ => ⟨_, _, _, _, true, rfl, .ty _, .base (.str _), by with_unfolding_all rfl, trivial⟩
      cases e : resM span st de with
      | time =>
        rw [e] at k
        exact fun H' k' => ⟨_, rfl, _, _, _, _, true, rfl, .ty _, .base (.str _), by with_unfolding_all rfl, _, rfl, iteT ⟨_, rfl, k H' k'⟩⟩
      | amount =>
        rw [e] at k
        exact fun H' k' => ⟨_, rfl, _, _, _, _, true, rfl, .ty _, .base (.str _), by with_unfolding_all rfl, _, rfl, iteT ⟨_, rfl, k H' k'⟩⟩
      | many =>
        rw [e] at k
        exact fun H' k' => ⟨_, rfl, _, _, _, _, true, rfl, .ty _, .base (.str _), by with_unfolding_all rfl, _, rfl, iteT ⟨_, rfl, k H' k'⟩⟩
      | enough =>
        rw [e] at k
        exact fun H' k' => ⟨_, rfl, _, _, _, _, true, rfl, .ty _, .base (.str _), by with_unfolding_all rfl, _, rfl, iteT ⟨_, rfl, k H' k'⟩⟩
      | ok st' =>
        rw [e] at k
        obtain ⟨hg', hl'⟩ := res_good hg hlen e
        intro t H' k' hstt
        obtain ⟨t', lg, et, htt, hlg⟩ := id hstt
        cases et
        have hS1 := k'.all S _ (by simp) hS
        refine ⟨_, rfl, _, _, _, _, false, rfl, .ty _, .base (.tup htt), by with_unfolding_all rfl, _, rfl, iteF ⟨_, rfl, .inl ⟨rfl, _, SqL.of hS1⟩, _, rfl, S, xs, .ref t, rfl, rfl, hS1, small1000 (by omega), ?_⟩⟩
        have k1 : Kp [S] H' (upd H' S (.lst (xs ++ [.ref t]))) := Kp.set hS1 (by simp) lst_tup
        have hS2 : upd H' S (.lst (xs ++ [.ref t])) S = some (.lst (xs ++ [.ref t])) := upd_same
        have kk1 := (k'.mono (S' := [S]) (by simp)).trans k1
        have htt2 := k1.tup t _ htt
        have hst2 : StsAt (upd H' S (.lst (xs ++ [.ref t]))) (xs ++ [.ref t]) (past ++ [st] ++ [st']) := (hst.kp kk1).snoc (hstt.kp k1)
        have hlg2 := hlg.kp k1
        generalize upd H' S (.lst (xs ++ [.ref t])) = H2 at k1 hS2 kk1 htt2 hst2 hlg2 ⊢
        refine ⟨_, rfl, t, _, 0, _, rfl, rfl, SqT.of htt2, atI_nat (j := 0) rfl, _, rfl, _, rfl, t, _, 1, _, rfl, rfl, SqT.of htt2, atI_nat (j := 1) rfl, lg, span, st'.2, st'.1, rfl, hlg2, hg', by omega, fun H3 k3 => ⟨(by show 2 ≤ sizeLine; decide), fun u hu => ?_⟩⟩
        have k4 : Kp [] H3 (upd H3 u (.tup [.str "told", .int (balL span st'.2 st'.1)])) := Kp.new hu
        exact k u _ _ (kk1.trans ((k3.trans k4).mono (by simp))) ((k3.trans k4).all S _ (by simp) hS2) (hst2.kp (k3.trans k4)) upd_same
end
end K16
-- part KL7
set_option Elab.async false
set_option linter.all false
set_option maxRecDepth 100000
set_option maxHeartbeats 4000000
/-! _law_earn -/
namespace K16
open PySem L2 K16M
structure MetR (P : Program) (w : World) (K : PySem.W.Frag) (mg : Str → Option Value) (base : Heap) (CX : CXT) (k : Nat) (C : Addr) (m : Str) (sp : Sp) : Prop where
  ex : ∃ f : Addr, FnR P w K mg base CX k f sp ∧ Meth K C m f
abbrev spLEarn (C : Addr) (er : Errs) : Sp := fun vs H Q E => ∃ (a ps l : Addr) (span : Int) (st : List Ev × Int) (past : List (List Ev × Int)) (v : V) (ms : List V), vs = [.ref a, v, .ref l] ∧ H l = some (.lst ms) ∧ ms.length ≤ 3 ∧ (∀ m ∈ ms, flat4 m = true) ∧ AccAt C H a ps span st past ∧ flat4 v = true ∧
  Good span st.2 st.1 ∧ st.1.length ≤ 30 ∧ past.length ≤ 900 ∧ Prm C er a ps span st past H Q E (earnM st v ms)
section
variable {P : Program} {w : World} {K : PySem.W.Frag} {mg : Str → Option Value} {base : Heap}
theorem ok_lEarn {f C : Addr} {er : Errs} {fd : FuncData} (F : Fun K "_law_earn" "_law_earn" sLEarn f fd) (T : AccT K C) (hl : mg "len" = none) (hE : MetR P w K mg base (L2N.CX P w) 4 C "earn" (spEarn C er)) : FnOk P w K mg base (L2N.CX P w) 5 f fd ["_law_account", "_law_time", "_law_what"] (spLEarn C er) := by
  obtain ⟨g, FR, hm⟩ := hE.ex
  refine okN F scLEarn (fun vs H Q E h => ?_) (fun cdv A outer s H vs Q E hr h => ?_)
  · obtain ⟨a, ps, l, span, st, past, v, ms, rfl, _⟩ := h
    rfl
  · obtain ⟨a, ps, l, span, st, past, v, ms, rfl, hlm, hml, hms, hA, hv, hg, hl30, hp, k⟩ := h
    refine ⟨_, pss_cons (ps_if (pt_cmpR op_eq (pe_callB call_len_seq (by rfl) hl PySem.boot_len (pa_cons (pv 2) pa_nil)) pe_int (nomark _)) (pss_one (ps_ret (pe_methR (pv 0) T.cl hm FR hr (passN rfl rfl rfl rfl) (pa_cons (pv 1) pa_nil)))) pss_nil)
      (pss_cons (ps_if (pt_cmpR op_eq (pe_callB call_len_seq (by rfl) hl PySem.boot_len (pa_cons (pv 2) pa_nil)) pe_int (nomark _)) (pss_one (ps_ret (pe_methR (pv 0) T.cl hm FR hr (passN rfl rfl rfl rfl) (pa_cons (pv 1) (pa_cons (pe_ix ix_list (pv 2) pe_int (fun _ _ => rfl)) pa_nil))))) pss_nil)
      (pss_one (ps_ret (pe_ifExp (pt_cmpR op_eq (pe_callB call_len_seq (by rfl) hl PySem.boot_len (pa_cons (pv 2) pa_nil)) pe_int (nomark _))
        (pe_methR (pv 0) T.cl hm FR hr (passN rfl rfl rfl rfl) (pa_cons (pv 1) (pa_cons (pe_ix ix_list (pv 2) pe_int (fun _ _ => rfl)) (pa_cons (pe_ix ix_list (pv 2) pe_int (fun _ _ => rfl)) pa_nil))))
        (pe_methR (pv 0) T.cl hm FR hr (passN rfl rfl rfl rfl) (pa_cons (pv 1) (pa_cons (pe_ix ix_list (pv 2) pe_int (fun _ _ => rfl)) (pa_cons (pe_ix ix_list (pv 2) pe_int (fun _ _ => rfl)) (pa_cons (pe_ix ix_list (pv 2) pe_int (fun _ _ => rfl)) pa_nil))))))))), ?_⟩
    obtain ⟨dx, lg, xs, ha, hlg, hps, hst⟩ := id hA
    have fin : spEarn C er (.ref a :: v :: ms) H Q E := ⟨[.ref a, v], ms, rfl, rfl, by rw [sizeLine_eq]; omega, fun p hp' => ⟨a, ps, p, span, st, past, v, ms, rfl, upd_same, hA.kp (Kp.new (S := []) hp') (by simp) (by simp), hv, hms, by omega, hg, hl30, hp, k.base (Kp.new hp')⟩⟩
    refine ⟨_, rfl, l, ms, rfl, .inl (SqL.of hlm), rfl, _, rfl, ?_⟩
    rw [dec_int]
    clear k hms
    match ms, hml, fin, hlm with
    | [], _, fin, hlm => exact iteT ⟨_, rfl, a, dx, _, rfl, ha, rfl, _, rfl, fin⟩
    | [m1], _, fin, hlm =>
      refine iteF ⟨_, rfl, l, _, rfl, .inl (SqL.of hlm), rfl, _, rfl, ?_⟩
      rw [dec_int]
      exact iteT ⟨_, rfl, a, dx, _, rfl, ha, rfl, _, rfl, _, rfl, l, _, 0, _, rfl, rfl, SqL.of hlm, atI_nat (j := 0) rfl, fin⟩
    | [m1, m2], _, fin, hlm =>
      refine iteF ⟨_, rfl, l, _, rfl, .inl (SqL.of hlm), rfl, _, rfl, ?_⟩
      rw [dec_int]
      refine iteF ⟨_, rfl, l, _, rfl, .inl (SqL.of hlm), rfl, _, rfl, ?_⟩
      rw [dec_int]
      exact iteT ⟨_, rfl, a, dx, _, rfl, ha, rfl, _, rfl, _, rfl, l, _, 0, _, rfl, rfl, SqL.of hlm, atI_nat (j := 0) rfl, _, rfl, l, _, 1, _, rfl, rfl, SqL.of hlm, atI_nat (j := 1) rfl, fin⟩
    | [m1, m2, m3], _, fin, hlm =>
      refine iteF ⟨_, rfl, l, _, rfl, .inl (SqL.of hlm), rfl, _, rfl, ?_⟩
      rw [dec_int]
      refine iteF ⟨_, rfl, l, _, rfl, .inl (SqL.of hlm), rfl, _, rfl, ?_⟩
      rw [dec_int]
      exact iteF ⟨_, rfl, a, dx, _, rfl, ha, rfl, _, rfl, _, rfl, l, _, 0, _, rfl, rfl, SqL.of hlm, atI_nat (j := 0) rfl, _, rfl, l, _, 1, _, rfl, rfl, SqL.of hlm, atI_nat (j := 1) rfl, _, rfl, l, _, 2, _, rfl, rfl, SqL.of hlm, atI_nat (j := 2) rfl, fin⟩
    | _ :: _ :: _ :: _ :: _, h, _, _ => exact absurd h (by simp only [List.length_cons]; omega)
end
end K16
-- part KL8
set_option Elab.async false
set_option linter.all false
set_option maxRecDepth 100000
set_option maxHeartbeats 4000000
/-! _law_name_of -/
namespace K16
open PySem L2 K16M L2H
abbrev sName : Stmt := top 33
def rIsP2 (K : PySem.W.Frag) (D a : Addr) (d : Option Addr) : List V → Hp → VK → Prop := fun xs H Q => ∃ (c : V) (cv : Value) (b : Bool), xs = [.ref a, c] ∧ (∀ u, RelV c u → u = cv) ∧ PySem.W.kitOne K (.ref D) cv = some b ∧ (∀ dd, d = some dd → ∃ fs, H dd = some (.xd fs)) ∧ Q (.bl b) H
theorem call_isP2 {X : Cx} {D : Addr} {p : Addr × Obj} {d : Option Addr} (C : ExcC X.K D) (hp : p ∈ X.pn) (hz : Zc (.ref D) d p.2) (hf : ∃ vs, p.2.data = .fields vs) : CallR X (.builtin "isinstance") (rIsP2 X.K D p.1 d) := by
  intro pins s σ H xs us Q I r h
  obtain ⟨c, cv, b, rfl, hcv, e, hdd, q⟩ := h
  cases r with
  | cons rx rr =>
    cases rr with
    | cons rt rr =>
      cases rr
      cases rx
      have ec := hcv _ rt
      subst ec
      obtain ⟨hget, _⟩ := I.pin p (List.mem_append_left _ hp)
      obtain ⟨vs, hv⟩ := hf
      obtain ⟨cd, hcl, _⟩ := PySem.W.any_some C.hd
      have J : ∃ od, PySem.W.InstAt s.heap p.1 p.2 D od := by
        obtain ⟨a, oc, od, oda, osl⟩ := p
        obtain ⟨h1, h2⟩ := hz
        dsimp only at h1 h2 hv hget
        subst h1 h2 hv
        cases od with
        | none => exact ⟨none, hget, rfl, rfl, trivial⟩
        | some dd =>
          obtain ⟨fs, ea⟩ := hdd dd rfl
          have hx : ObjOk X.prog X.w H s.heap dd (.xd fs) := I.hok dd _ ea
          obtain ⟨mA, hns, hr⟩ := hx
          obtain ⟨ob, hob, _⟩ := lookIn_ns hns
          exact ⟨some ob, hget, rfl, rfl, hob⟩
      obtain ⟨od, J⟩ := J
      exact PySem.W.kia_one (PySem.W.kitx_exc (by rw [hcl]; rfl) C.hg C.hk C.hs C.ha C.hn C.ht C.hm) I.kIn J e (fun z => nomatch z) fun tk => ⟨.bl b, H, I.kept (t' := tk) fun _ _ z => z, rfl, q⟩
structure ErrC (mg : Str → Option Value) (c : Nat → Addr) : Prop where
  g0 : mg "InvalidLog" = some (.ref (c 0))
  g1 : mg "InvalidLife" = some (.ref (c 1))
  g2 : mg "InvalidTime" = some (.ref (c 2))
  g3 : mg "InvalidAmount" = some (.ref (c 3))
  g4 : mg "InvalidIndex" = some (.ref (c 4))
  g5 : mg "InvalidChoice" = some (.ref (c 5))
  g6 : mg "InvalidSeen" = some (.ref (c 6))
  g7 : mg "InvalidNumber" = some (.ref (c 7))
  g8 : mg "NotEnough" = some (.ref (c 8))
  g9 : mg "NothingToUndo" = some (.ref (c 9))
  g10 : mg "Refused" = some (.ref (c 10))
  g11 : mg "TooMany" = some (.ref (c 11))
structure NameT (K : PySem.W.Frag) (c : Nat → Addr) (D : Addr) (b : Nat → Bool) : Prop where
  ex : ExcC K D
  k0 : PySem.W.kitOne K (.ref D) (.ref (c 0)) = some (b 0)
  k1 : PySem.W.kitOne K (.ref D) (.ref (c 1)) = some (b 1)
  k2 : PySem.W.kitOne K (.ref D) (.ref (c 2)) = some (b 2)
  k3 : PySem.W.kitOne K (.ref D) (.ref (c 3)) = some (b 3)
  k4 : PySem.W.kitOne K (.ref D) (.ref (c 4)) = some (b 4)
  k5 : PySem.W.kitOne K (.ref D) (.ref (c 5)) = some (b 5)
  k6 : PySem.W.kitOne K (.ref D) (.ref (c 6)) = some (b 6)
  k7 : PySem.W.kitOne K (.ref D) (.ref (c 7)) = some (b 7)
  k8 : PySem.W.kitOne K (.ref D) (.ref (c 8)) = some (b 8)
  k9 : PySem.W.kitOne K (.ref D) (.ref (c 9)) = some (b 9)
  k10 : PySem.W.kitOne K (.ref D) (.ref (c 10)) = some (b 10)
  k11 : PySem.W.kitOne K (.ref D) (.ref (c 11)) = some (b 11)
  ve : PySem.W.kitOne K (.ref D) (.type "ValueError") = some true
abbrev wordsL : List Str := ["Log", "Life", "Time", "Amount", "Index", "Choice", "Seen", "Number", "Enough", "Undo", "Refused", "Many"]
abbrev bitsL (b : Nat → Bool) : List Bool := [b 0, b 1, b 2, b 3, b 4, b 5, b 6, b 7, b 8, b 9, b 10, b 11]
def goodW (b : Nat → Bool) : List Str := ((wordsL.zip (bitsL b)).filter (·.2)).map (·.1)
def nameS (b : Nat → Bool) : Str := Txt.join "" (goodW b) ++ "+"
abbrev spName (K : PySem.W.Frag) (c : Nat → Addr) : SpP := fun p vs H Q _ => ∃ (D : Addr) (d : Option Addr) (n : Nat), vs = [.ref p.1] ∧ n < 12 ∧ Zc (.ref D) d p.2 ∧ (∃ vs, p.2.data = .fields vs) ∧ NameT K c D (fun i => i == n) ∧ (∀ dd, d = some dd → ∃ fs, H dd = some (.xd fs)) ∧ ∀ H', Kp [] H H' → Q (.str (nameS fun i => i == n)) H'
abbrev nName : List Str := ["_law_e", "_law_matching", "_law_words", "_law_found", "_law_word", "_law_good"]
theorem scName : FnScope nName ["_law_e"] (defScope sName) := ⟨rfl, rfl, rfl, by decide +kernel, rfl, by decide +kernel, by decide +kernel⟩
theorem name_facts (n : Nat) (hn : n < 12) : ((goodW fun i => i == n).map (·.length)).sum + (goodW fun i => i == n).length * ("" : Str).length ≤ 16777216 ∧ (Txt.join "" (goodW fun i => i == n)).length + ("+" : Str).length ≤ sizeLine := by
  have key : ∀ n, n < 12 → (decide (((goodW fun i => i == n).map (·.length)).sum + (goodW fun i => i == n).length * ("" : Str).length ≤ 16777216) && decide ((Txt.join "" (goodW fun i => i == n)).length + ("+" : Str).length ≤ sizeLine)) = true := by decide +kernel
  have := key n hn
  rw [Bool.and_eq_true] at this
  exact ⟨of_decide_eq_true this.1, of_decide_eq_true this.2⟩
theorem walk_zipE {K : PySem.W.Frag} {a b : Addr} {xs ys : List V} (hl : xs.length = ys.length) : Walk (ItzE K a b) xs.length (fun H => SqL K H a xs ∧ SqL K H b ys) (YPair (fun i => xs[i]?) (fun i => ys[i]?)) := by
  have w := walk_zip (K := K) (a := a) (b := b) (xs := xs) (ys := ys) (n := xs.length) (by omega)
  exact ⟨fun i H hi q => w.goes i H hi q, fun H q => ⟨xs, ys, q.1, q.2, Nat.le_refl _⟩, fun i H x H' hi q y => w.yields i H x H' hi q y⟩
theorem name_lc {K : PySem.W.Frag} {H : Hp} {a b' : Addr} {ws : List Str} {bs : List Bool} {s0 s1 s2 s3 : Option V} {Q : VK} (ha : H a = some (.lst (ws.map V.str))) (hb : H b' = some (.lst (bs.map V.bl))) (hl : ws.length = bs.length) (hz : ws.length ≤ 1000)
    (q : ∀ D H', Kp [] H H' → H' D = some (.lst ((((ws.zip bs).filter (·.2)).map (·.1)).map V.str)) → Q (.ref D) H') :
    LcB (gTup K 2 (gCons (gName 4) (gCons (gName 5) gNil))) (fun σ H Q => tVar 5 σ H fun x H' => ∃ k, TruV K x H' k ∧ Q k H') (tVar 4) [4, 5] [s0, s1, s2, s3, none, none] Q (ItzE K a b') H := by
  intro D hD
  refine lc_it (g := gTup K 2 (gCons (gName 4) (gCons (gName 5) gNil))) (tt := fun σ H Q => tVar 5 σ H fun x H' => ∃ k, TruV K x H' k ∧ Q k H') (te := tVar 4) (vs := [4, 5]) (σ := [s0, s1, s2, s3, none, none]) (Qd := fun H' => Q (.ref D) H') (walk_zipE (K := K) (a := a) (b := b') (xs := ws.map V.str) (ys := bs.map V.bl) (by rw [List.length_map, List.length_map, hl])) (fun j H2 => Kp [] H H2 ∧ H2 D = some (.lst (((((ws.zip bs).take j).filter (·.2)).map (·.1)).map V.str))) ⟨Kp.new hD, by rw [upd_same]; rfl⟩ (fun j H2 _ h => ⟨SqL.kp ha h.1, SqL.kp hb h.1⟩) ?_ ?_
  · rintro j z H2 H2' hj ⟨kk, hD2⟩ ⟨T, x, y, rfl, hT, rfl, hx, hy⟩
    have hx : (ws.map V.str)[j]? = some x := hx
    have hy : (bs.map V.bl)[j]? = some y := hy
    rw [List.length_map] at hj
    rw [List.getElem?_map, List.getElem?_eq_getElem hj] at hx
    rw [List.getElem?_map, List.getElem?_eq_getElem (by omega)] at hy
    cases hx
    cases hy
    have hzj : (ws.zip bs)[j]? = some (ws[j], bs[j]) := by
      rw [List.getElem?_zip_eq_some]
      exact ⟨List.getElem?_eq_getElem hj, List.getElem?_eq_getElem (by omega)⟩
    rw [List.take_add_one, hzj]
    generalize ws[j] = wd
    generalize bs[j] = bb
    have kT : Kp [] H2 (upd H2 T (.tup [.str wd, .bl bb])) := Kp.new hT
    have hD3 := kT.all D _ (by simp) hD2
    refine ⟨T, _, rfl, SqT.of upd_same, rfl, _, _, rfl, _, _, rfl, rfl, rfl, _, rfl, bb, rfl, ?_⟩
    have k2 := kk.trans kT
    have hln : ((((ws.zip bs).take j).filter (·.2)).map (·.1)).length ≤ 1000 := by
      rw [List.length_map]
      refine Nat.le_trans (List.length_filter_le _ _) ?_
      rw [List.length_take]
      omega
    generalize upd H2 T (.tup [.str wd, .bl bb]) = H3 at kT hD3 k2 ⊢
    rw [List.filter_append, List.map_append, List.map_append]
    cases bb with
    | true => exact iteT ⟨_, rfl, _, hD3, small1000 (by rw [List.length_map]; exact hln), k2.fresh hD, by rw [upd_same]; rfl⟩
    | false => exact iteF ⟨k2, by rw [hD3]; simp⟩
  · rintro H2 ⟨kk, hD2⟩
    rw [List.length_map] at hD2
    rw [List.take_of_length_le (by rw [List.length_zip]; omega)] at hD2
    exact q D H2 kk hD2
section
variable {P : Program} {w : World} {K : PySem.W.Frag} {mg : Str → Option Value} {base : Heap}
theorem ok_name {f : Addr} {c : Nat → Addr} {fd : FuncData} (F : Fun K "_law_name_of" "_law_name_of" sName f fd) (hi : mg "isinstance" = none) (hzp : mg "zip" = none) (hve : mg "ValueError" = none) (G : ErrC mg c) : FnP P w K mg base CX0 1 f fd ["_law_e"] (spName K c) := by
  obtain ⟨⟨oc, od, kV, doc, pm, an, cdv, ct, osl, rfl, lk, hcd⟩, kp⟩ := F
  refine fnp_of lk hcd scName (fun p vs H Q E h => ?_) (fun A outer s H vs Q E p hot hr h => ?_)
  · obtain ⟨D, d, n, rfl, _⟩ := h
    rfl
  · obtain ⟨D, d, n, rfl, hn, hz, hf, N, hdd, k⟩ := h
    obtain ⟨b, hb⟩ : ∃ b : Nat → Bool, b = fun i => i == n := ⟨_, rfl⟩
    obtain ⟨nf1, nf2⟩ := name_facts n hn
    rw [← hb] at N k nf1 nf2
    have hc : ∃ q : Addr × Obj, Hot1 (A.deeper (PyProof.Rows.envOfC "_law_name_of" (defScope sName) s.heap.objs.size f cdv)) q ∧ q ∈ [p] := ⟨p, hot, List.mem_singleton.mpr rfl⟩
    refine ⟨_, pss_cons (ps_set (i := 1) scName.nd rfl (Or.inl rfl) (pe_lst (pa_cons (pe_callB (call_isP2 N.ex (List.mem_singleton.mpr rfl) hz hf) (by rfl) hi (by decide +kernel) (pa_cons (pv 0) (pa_cons (pe_glob (v := .ref (c 0)) rfl G.g0 rfl) pa_nil))) (pa_cons (pe_callB (call_isP2 N.ex (List.mem_singleton.mpr rfl) hz hf) (by rfl) hi (by decide +kernel) (pa_cons (pv 0) (pa_cons (pe_glob (v := .ref (c 1)) rfl G.g1 rfl) pa_nil))) (pa_cons (pe_callB (call_isP2 N.ex (List.mem_singleton.mpr rfl) hz hf) (by rfl) hi (by decide +kernel) (pa_cons (pv 0) (pa_cons (pe_glob (v := .ref (c 2)) rfl G.g2 rfl) pa_nil))) pa_nil)))))
      (pss_cons (ps_set (i := 1) scName.nd rfl (Or.inl rfl) (pe_op op_cat (pv 1) (pe_lst (pa_cons (pe_callB (call_isP2 N.ex (List.mem_singleton.mpr rfl) hz hf) (by rfl) hi (by decide +kernel) (pa_cons (pv 0) (pa_cons (pe_glob (v := .ref (c 3)) rfl G.g3 rfl) pa_nil))) (pa_cons (pe_callB (call_isP2 N.ex (List.mem_singleton.mpr rfl) hz hf) (by rfl) hi (by decide +kernel) (pa_cons (pv 0) (pa_cons (pe_glob (v := .ref (c 4)) rfl G.g4 rfl) pa_nil))) (pa_cons (pe_callB (call_isP2 N.ex (List.mem_singleton.mpr rfl) hz hf) (by rfl) hi (by decide +kernel) (pa_cons (pv 0) (pa_cons (pe_glob (v := .ref (c 5)) rfl G.g5 rfl) pa_nil))) pa_nil))))))
      (pss_cons (ps_set (i := 1) scName.nd rfl (Or.inl rfl) (pe_op op_cat (pv 1) (pe_lst (pa_cons (pe_callB (call_isP2 N.ex (List.mem_singleton.mpr rfl) hz hf) (by rfl) hi (by decide +kernel) (pa_cons (pv 0) (pa_cons (pe_glob (v := .ref (c 6)) rfl G.g6 rfl) pa_nil))) (pa_cons (pe_callB (call_isP2 N.ex (List.mem_singleton.mpr rfl) hz hf) (by rfl) hi (by decide +kernel) (pa_cons (pv 0) (pa_cons (pe_glob (v := .ref (c 7)) rfl G.g7 rfl) pa_nil))) (pa_cons (pe_callB (call_isP2 N.ex (List.mem_singleton.mpr rfl) hz hf) (by rfl) hi (by decide +kernel) (pa_cons (pv 0) (pa_cons (pe_glob (v := .ref (c 8)) rfl G.g8 rfl) pa_nil))) pa_nil))))))
      (pss_cons (ps_set (i := 1) scName.nd rfl (Or.inl rfl) (pe_op op_cat (pv 1) (pe_lst (pa_cons (pe_callB (call_isP2 N.ex (List.mem_singleton.mpr rfl) hz hf) (by rfl) hi (by decide +kernel) (pa_cons (pv 0) (pa_cons (pe_glob (v := .ref (c 9)) rfl G.g9 rfl) pa_nil))) (pa_cons (pe_callB (call_isP2 N.ex (List.mem_singleton.mpr rfl) hz hf) (by rfl) hi (by decide +kernel) (pa_cons (pv 0) (pa_cons (pe_glob (v := .ref (c 10)) rfl G.g10 rfl) pa_nil))) (pa_cons (pe_callB (call_isP2 N.ex (List.mem_singleton.mpr rfl) hz hf) (by rfl) hi (by decide +kernel) (pa_cons (pv 0) (pa_cons (pe_glob (v := .ref (c 11)) rfl G.g11 rfl) pa_nil))) pa_nil))))))
      (pss_cons (ps_set (i := 2) scName.nd rfl (Or.inl rfl) (pe_lst (pa_cons pe_str (pa_cons pe_str (pa_cons pe_str (pa_cons pe_str (pa_cons pe_str (pa_cons pe_str (pa_cons pe_str (pa_cons pe_str (pa_cons pe_str (pa_cons pe_str (pa_cons pe_str (pa_cons pe_str pa_nil))))))))))))))
      (pss_cons (ps_setLcH (i := 3) (own := [("_law_word", 4), ("_law_good", 5)]) (g := gTup K 2 (gCons (gName 4) (gCons (gName 5) gNil))) (tt := fun σ H Q => tVar 5 σ H fun x H' => ∃ k, TruV K x H' k ∧ Q k H') (te := tVar 4) hc scName.nd rfl rfl (sw_true rfl rfl rfl (by decide +kernel)) (pi_zipH (by rfl) hzp (pa_cons (pv 2) (pa_cons (pv 1) pa_nil))) (blkOk_by (N := nName) (sc := defScope sName) (by decide +kernel))
          (fun _ _ _ _ _ => pg_tupH hc (pgs_cons (pg_name (i := 4) scName.nd rfl (Or.inl rfl)) (pgs_cons (pg_name (i := 5) scName.nd rfl (Or.inl rfl)) pgs_nil))) (fun _ _ _ _ _ => pts_one (pt_truth (pv 5) (fun _ => rfl))) (fun _ _ _ _ _ => pv 4))
      (pss_one (ps_ret (pe_op op_add_str (pe_join pe_str (pv 3)) (pe_ifExp (pt_truth (pe_callB (call_isP2 N.ex (List.mem_singleton.mpr rfl) hz hf) (by rfl) hi (by decide +kernel) (pa_cons (pv 0) (pa_cons (pe_bltn (v := .ty "ValueError") rfl hve (by decide +kernel) rfl) pa_nil))) (fun _ => rfl)) pe_str pe_str))))))))), ?_⟩
    have hdx : ∀ H2, Kp [] H H2 → ∀ dd, d = some dd → ∃ fs, H2 dd = some (.xd fs) := fun H2 k2 dd e => by
      obtain ⟨fs, ea⟩ := hdd dd e
      exact ⟨fs, k2.all dd _ (by simp) ea⟩
    have k0 : Kp [] H H := .refl
    refine ⟨_, rfl, .ref (c 0), .ref (c 0), b 0, rfl, (fun _ h => h), N.k0, hdx _ k0, _, rfl, .ref (c 1), .ref (c 1), b 1, rfl, (fun _ h => h), N.k1, hdx _ k0, _, rfl, .ref (c 2), .ref (c 2), b 2, rfl, (fun _ h => h), N.k2, hdx _ k0, (by show 3 ≤ sizeLine; decide), fun m1 hm1 => ?_⟩
    have k1 : Kp [] H (upd H m1 (.lst [.bl (b 0), .bl (b 1), .bl (b 2)])) := Kp.new hm1
    have e1 : upd H m1 (.lst [.bl (b 0), .bl (b 1), .bl (b 2)]) m1 = some (.lst [.bl (b 0), .bl (b 1), .bl (b 2)]) := upd_same
    generalize upd H m1 (.lst [.bl (b 0), .bl (b 1), .bl (b 2)]) = H1 at k1 e1 ⊢
    refine ⟨_, rfl, _, rfl, .ref (c 3), .ref (c 3), b 3, rfl, (fun _ h => h), N.k3, hdx _ k1, _, rfl, .ref (c 4), .ref (c 4), b 4, rfl, (fun _ h => h), N.k4, hdx _ k1, _, rfl, .ref (c 5), .ref (c 5), b 5, rfl, (fun _ h => h), N.k5, hdx _ k1, (by show 3 ≤ sizeLine; decide), fun l1 hl1 => ?_⟩
    have ka1 : Kp [] H1 (upd H1 l1 (.lst [.bl (b 3), .bl (b 4), .bl (b 5)])) := Kp.new hl1
    have ea1 : upd H1 l1 (.lst [.bl (b 3), .bl (b 4), .bl (b 5)]) l1 = some (.lst [.bl (b 3), .bl (b 4), .bl (b 5)]) := upd_same
    have em1 := ka1.all m1 _ (by simp) e1
    have kb1 := k1.trans ka1
    generalize upd H1 l1 (.lst [.bl (b 3), .bl (b 4), .bl (b 5)]) = H2 at ka1 ea1 em1 kb1 ⊢
    refine ⟨m1, l1, _, _, rfl, rfl, em1, ea1, (by show 3 + 3 ≤ sizeLine; decide), fun m2 hm2 => ?_⟩
    have k2 : Kp [] H (upd H2 m2 (.lst ([.bl (b 0), .bl (b 1), .bl (b 2)] ++ [.bl (b 3), .bl (b 4), .bl (b 5)]))) := kb1.trans (Kp.new hm2)
    have e2 : upd H2 m2 (.lst ([.bl (b 0), .bl (b 1), .bl (b 2)] ++ [.bl (b 3), .bl (b 4), .bl (b 5)])) m2 = some (.lst [.bl (b 0), .bl (b 1), .bl (b 2), .bl (b 3), .bl (b 4), .bl (b 5)]) := upd_same
    generalize upd H2 m2 (.lst ([.bl (b 0), .bl (b 1), .bl (b 2)] ++ [.bl (b 3), .bl (b 4), .bl (b 5)])) = H3 at k2 e2 ⊢
    refine ⟨_, rfl, _, rfl, .ref (c 6), .ref (c 6), b 6, rfl, (fun _ h => h), N.k6, hdx _ k2, _, rfl, .ref (c 7), .ref (c 7), b 7, rfl, (fun _ h => h), N.k7, hdx _ k2, _, rfl, .ref (c 8), .ref (c 8), b 8, rfl, (fun _ h => h), N.k8, hdx _ k2, (by show 3 ≤ sizeLine; decide), fun l2 hl2 => ?_⟩
    have ka2 : Kp [] H3 (upd H3 l2 (.lst [.bl (b 6), .bl (b 7), .bl (b 8)])) := Kp.new hl2
    have ea2 : upd H3 l2 (.lst [.bl (b 6), .bl (b 7), .bl (b 8)]) l2 = some (.lst [.bl (b 6), .bl (b 7), .bl (b 8)]) := upd_same
    have em2 := ka2.all m2 _ (by simp) e2
    have kb2 := k2.trans ka2
    generalize upd H3 l2 (.lst [.bl (b 6), .bl (b 7), .bl (b 8)]) = H4 at ka2 ea2 em2 kb2 ⊢
    refine ⟨m2, l2, _, _, rfl, rfl, em2, ea2, (by show 6 + 3 ≤ sizeLine; decide), fun m3 hm3 => ?_⟩
    have k3 : Kp [] H (upd H4 m3 (.lst ([.bl (b 0), .bl (b 1), .bl (b 2), .bl (b 3), .bl (b 4), .bl (b 5)] ++ [.bl (b 6), .bl (b 7), .bl (b 8)]))) := kb2.trans (Kp.new hm3)
    have e3 : upd H4 m3 (.lst ([.bl (b 0), .bl (b 1), .bl (b 2), .bl (b 3), .bl (b 4), .bl (b 5)] ++ [.bl (b 6), .bl (b 7), .bl (b 8)])) m3 = some (.lst [.bl (b 0), .bl (b 1), .bl (b 2), .bl (b 3), .bl (b 4), .bl (b 5), .bl (b 6), .bl (b 7), .bl (b 8)]) := upd_same
    generalize upd H4 m3 (.lst ([.bl (b 0), .bl (b 1), .bl (b 2), .bl (b 3), .bl (b 4), .bl (b 5)] ++ [.bl (b 6), .bl (b 7), .bl (b 8)])) = H5 at k3 e3 ⊢
    refine ⟨_, rfl, _, rfl, .ref (c 9), .ref (c 9), b 9, rfl, (fun _ h => h), N.k9, hdx _ k3, _, rfl, .ref (c 10), .ref (c 10), b 10, rfl, (fun _ h => h), N.k10, hdx _ k3, _, rfl, .ref (c 11), .ref (c 11), b 11, rfl, (fun _ h => h), N.k11, hdx _ k3, (by show 3 ≤ sizeLine; decide), fun l3 hl3 => ?_⟩
    have ka3 : Kp [] H5 (upd H5 l3 (.lst [.bl (b 9), .bl (b 10), .bl (b 11)])) := Kp.new hl3
    have ea3 : upd H5 l3 (.lst [.bl (b 9), .bl (b 10), .bl (b 11)]) l3 = some (.lst [.bl (b 9), .bl (b 10), .bl (b 11)]) := upd_same
    have em3 := ka3.all m3 _ (by simp) e3
    have kb3 := k3.trans ka3
    generalize upd H5 l3 (.lst [.bl (b 9), .bl (b 10), .bl (b 11)]) = H6 at ka3 ea3 em3 kb3 ⊢
    refine ⟨m3, l3, _, _, rfl, rfl, em3, ea3, (by show 9 + 3 ≤ sizeLine; decide), fun m4 hm4 => ?_⟩
    have k4 : Kp [] H (upd H6 m4 (.lst ([.bl (b 0), .bl (b 1), .bl (b 2), .bl (b 3), .bl (b 4), .bl (b 5), .bl (b 6), .bl (b 7), .bl (b 8)] ++ [.bl (b 9), .bl (b 10), .bl (b 11)]))) := kb3.trans (Kp.new hm4)
    have e4 : upd H6 m4 (.lst ([.bl (b 0), .bl (b 1), .bl (b 2), .bl (b 3), .bl (b 4), .bl (b 5), .bl (b 6), .bl (b 7), .bl (b 8)] ++ [.bl (b 9), .bl (b 10), .bl (b 11)])) m4 = some (.lst [.bl (b 0), .bl (b 1), .bl (b 2), .bl (b 3), .bl (b 4), .bl (b 5), .bl (b 6), .bl (b 7), .bl (b 8), .bl (b 9), .bl (b 10), .bl (b 11)]) := upd_same
    generalize upd H6 m4 (.lst ([.bl (b 0), .bl (b 1), .bl (b 2), .bl (b 3), .bl (b 4), .bl (b 5), .bl (b 6), .bl (b 7), .bl (b 8)] ++ [.bl (b 9), .bl (b 10), .bl (b 11)])) = H7 at k4 e4 ⊢
    refine ⟨(by show 12 ≤ sizeLine; decide), fun lw hlw => ?_⟩
    have k5 : Kp [] H7 (upd H7 lw (.lst [.str "Log", .str "Life", .str "Time", .str "Amount", .str "Index", .str "Choice", .str "Seen", .str "Number", .str "Enough", .str "Undo", .str "Refused", .str "Many"])) := Kp.new hlw
    have ew : upd H7 lw (.lst [.str "Log", .str "Life", .str "Time", .str "Amount", .str "Index", .str "Choice", .str "Seen", .str "Number", .str "Enough", .str "Undo", .str "Refused", .str "Many"]) lw = some (.lst (wordsL.map V.str)) := upd_same
    have em : upd H7 lw (.lst [.str "Log", .str "Life", .str "Time", .str "Amount", .str "Index", .str "Choice", .str "Seen", .str "Number", .str "Enough", .str "Undo", .str "Refused", .str "Many"]) m4 = some (.lst ((bitsL b).map V.bl)) := by rw [upd_ne (ne_of_none e4 hlw)]; exact e4
    have kk5 := k4.trans k5
    generalize upd H7 lw (.lst [.str "Log", .str "Life", .str "Time", .str "Amount", .str "Index", .str "Choice", .str "Seen", .str "Number", .str "Enough", .str "Undo", .str "Refused", .str "Many"]) = H8 at k5 ew em kk5 ⊢
    change tSeq (tAsg (tLc (iZipE K (tCons (tVar 2) (tCons (tVar 1) tNil))) (gTup K 2 (gCons (gName 4) (gCons (gName 5) gNil))) (fun σ H Q => tVar 5 σ H fun x H' => ∃ k, TruV K x H' k ∧ Q k H') (tVar 4) [4, 5]) (gName 3)) _ _ [some (.ref p.1), some (.ref m4), some (.ref lw), none, none, none] H8
    refine r_seq (r_asg (r_lc ⟨_, rfl, _, rfl, lw, m4, _, _, rfl, SqL.of ew, SqL.of em, name_lc (ws := wordsL) (bs := bitsL b) ew em rfl (by show 12 ≤ 1000; decide) fun D2 H9 k9 hD2 => ?_⟩))
    have kk9 := kk5.trans k9
    refine ⟨⟨_, rfl⟩, _, rfl, "", D2, goodW b, rfl, rfl, .inl (SqL.of hD2), nf1, ?_⟩
    refine ⟨_, rfl, .ty "ValueError", .type "ValueError", true, rfl, (fun _ h => h), N.ve, hdx _ kk9, _, rfl, iteT ⟨_, _, rfl, rfl, nf2, k H9 kk9⟩⟩
end
end K16
-- part KL9
set_option Elab.async false
set_option linter.all false
set_option maxRecDepth 100000
set_option maxHeartbeats 4000000
/-! _law_try -/
namespace K16
open PySem L2 K16M L2H LamX
abbrev sTry : Stmt := top 34
/-- how an error of ours is told -/
structure ErrD (K : PySem.W.Frag) (c : Nat → Addr) (cR cM cP D : Addr) (n : Nat) (many : Bool) : Prop where
  lt : n < 12
  nm : NameT K c D (fun i => i == n)
  x1 : PySem.W.exmOne K (.ref D) (.ref cR) = some false
  x2 : PySem.W.exmOne K (.ref D) (.ref cM) = some many
  x3 : PySem.W.exmOne K (.ref D) (.ref cP) = some true
structure TryC (K : PySem.W.Frag) (mg : Str → Option Value) (cR cM cP : Addr) : Prop where
  gR : mg "Refused" = some (.ref cR)
  gM : mg "TooMany" = some (.ref cM)
  gP : mg "PointError" = some (.ref cP)
  xR : XfC K cR
  xM : XfC K cM
  nR : PySem.W.findIn K (.ref cR) "index" = some none
  nM : PySem.W.findIn K (.ref cM) "limit" = some none
  str : mg "str" = none
structure CalP (P : Program) (w : World) (K : PySem.W.Frag) (mg : Str → Option Value) (base : Heap) (c : Nat → Addr) : Prop where
  ex : ∃ (f : Addr) (fd : FuncData), FnP P w K mg base CX0 1 f fd ["_law_e"] (spName K c) ∧ mg "_law_name_of" = some (.ref f) ∧ PySem.W.keepIn K (.ref f) = true ∧ Binds K fd ["_law_e"] []
theorem PE.imp {X : Cx} {e : Expr} {t t' : TE} (h : PE X e t) (k : ∀ σ H Q, t' σ H Q → t σ H Q) : PE X e t' := ⟨fun pins s σ H Q I q => h.run pins s σ H Q I (k σ H Q q)⟩
def tNm (K : PySem.W.Frag) (c : Nat → Addr) (a : Addr) (cls : Value) (d : Option Addr) : TE := fun σ H Q => σ[2]? = some (some (.ref a)) ∧ ∃ (D : Addr) (n : Nat), cls = .ref D ∧ n < 12 ∧ NameT K c D (fun i => i == n) ∧ (∀ dd, d = some dd → ∃ fs, H dd = some (.xd fs)) ∧ ∀ H', Kp [] H H' → Q (.str (nameS fun i => i == n)) H'
theorem pe_name {X : Cx} {c : Nat → Addr} {a : Addr} {oe : Obj} {cls : Value} {d : Option Addr} {pn : List (Addr × Obj)} {q q2 pos : Pos} (C : CalP X.prog X.w X.K X.mg X.base c) (hr : Room 1 X.A) (hz : L2N.Zn cls d oe) (hf : ∃ vs, oe.data = .fields vs) (hg : Gl X "_law_name_of") (hN : X.N[2]? = some ("_law_e" : Str)) (hv : Vis X.env.scope ("_law_e" : Str))
    (he : starEach [.Name "_law_e" q2] (X.suite a ((a, oe) :: pn)).env = (false, eval (.Name "_law_e" q2) (X.suite a ((a, oe) :: pn)).env) :: starEach [] (X.suite a ((a, oe) :: pn)).env := by rfl) :
    PE (X.suite a ((a, oe) :: pn)) (.Call (.Name "_law_name_of" q) [.Name "_law_e" q2] [] pos) (tNm X.K c a cls d) := by
  obtain ⟨f, fd, F, hm, hk, hb⟩ := C.ex
  obtain ⟨vs, hd⟩ := id hf
  have hot : Hot1 (X.suite a ((a, oe) :: pn)).A (a, oe) := ⟨rfl, vs, hd, hz.2.2 vs hd⟩
  refine PE.imp (pe_callP (X := X.suite a ((a, oe) :: pn)) (E := fun _ _ _ => False) (p := (a, oe)) F ⟨hr.dp, hr.un⟩ hot List.mem_cons_self hg hm hk hb pass0 (pa_cons (pe_var (i := 2) hN hv (by decide) (by decide)) pa_nil he) (by decide) he rfl) ?_
  rintro σ H Q ⟨hs, D, n, rfl, hn, nt, hdd, k⟩
  exact ⟨_, hs, D, d, n, rfl, hn, hz.zc, hf, nt, hdd, k⟩
/-- what an error must tell -/
def TryE (K : PySem.W.Frag) (c : Nat → Addr) (cR cM cP : Addr) (Q : VK) : XK := fun cls d H' => ∃ (D : Addr) (n : Nat) (many : Bool), cls = .ref D ∧ ErrD K c cR cM cP D n many ∧ (∀ dd, d = some dd → ∃ fs, H' dd = some (.xd fs)) ∧ (many = false → ∀ H2, Kp [] H' H2 → Q (.str (nameS fun i => i == n)) H2) ∧
  (many = true → ∃ dd, d = some dd ∧ D = cM ∧ H' dd = some (.xd [("limit", .int 30)]) ∧ ∀ H2, Kp [] H' H2 → Q (.str ((nameS fun i => i == n) ++ toString (30 : Int))) H2)
def tryTT (K : PySem.W.Frag) (c : Nat → Addr) (cR cM cP : Addr) : (XK → Hp → VK → Prop) → Hp → VK → Prop := fun tl H Q =>
  ∀ (E' : XK) (Q' : VK), (∀ cls d H', TryE K c cR cM cP Q cls d H' → E' cls d H') → (∀ v HZ, (∀ T, HZ T = none → Q (.ref T) (upd HZ T (.tup [.str "told", v]))) → Q' v HZ) → tl E' H Q'
abbrev nTry : List Str := ["_law_door", "_law_found", "_law_e"]
theorem scTry : FnScope nTry ["_law_door"] (defScope sTry) := ⟨rfl, rfl, rfl, by decide +kernel, rfl, by decide +kernel, by decide +kernel⟩
theorem name_len (n : Nat) (hn : n < 12) : (nameS fun i => i == n).length + ((toString (30 : Int) : String) : Str).length ≤ sizeLine := by
  have key : ∀ n, n < 12 → decide ((nameS fun i => i == n).length + ((toString (30 : Int) : String) : Str).length ≤ sizeLine) = true := by decide +kernel
  exact of_decide_eq_true (key n hn)
theorem gives_try {X : Cx} {c : Nat → Addr} {cR cM cP g : Addr} {cdg : Value} {q : Str} {k : Nat} (TC : TryC X.K X.mg cR cM cP) (CP : CalP X.prog X.w X.K X.mg X.base c) : GivesN X nTry "_law_try" (defScope sTry) g cdg (defBody sTry) "_law_door" q (k + 1) (tryTT X.K c cR cM cP) := by
  intro f c' s H Q tl hr hdoor hc' hTT
  have hr1 := Room.mono hr (show 1 ≤ k + 1 by omega)
  refine ⟨_, pss_cons (ps_set (i := 1) scTry.nd rfl (Or.inl rfl) pe_non)
    (pss_cons (ps_try_named (i := 2) (tb := fun W => tAsg (tTup (tCons (tC (.str "told")) (tCons (fun σZ HZ Q => σZ[0]? = some (some (.ref f)) ∧ HZ c' = some (CodeO c' q) ∧ tl (fun cls d H' => W cls d σZ H') HZ Q) tNil))) (gName 1))
        (l := [(.ref cR, fun a cls d => tAsg (tOp (fun x y H Q => ∃ i j, x = .str i ∧ y = .str j ∧ i.length + j.length ≤ sizeLine ∧ Q (.str (i ++ j)) H) (tNm X.K c a cls d) (tCB (fun xs H Q => ∃ i : Int, xs = [V.int i] ∧ i.natAbs.log2 < 1920 ∧ Q (.str (toString i)) H) (tCons (tXf a cls d cR "index" (tVar 2)) tNil))) (gName 1)),
          (.ref cM, fun a cls d => tAsg (tOp (fun x y H Q => ∃ i j, x = .str i ∧ y = .str j ∧ i.length + j.length ≤ sizeLine ∧ Q (.str (i ++ j)) H) (tNm X.K c a cls d) (tCB (fun xs H Q => ∃ i : Int, xs = [V.int i] ∧ i.natAbs.log2 < 1920 ∧ Q (.str (toString i)) H) (tCons (tXf a cls d cM "limit" (tVar 2)) tNil))) (gName 1)),
          (.ref cP, fun a cls d => tAsg (tNm X.K c a cls d) (gName 1))])
        (Wout := fun _ _ _ _ => False) rfl rfl scTry.nd rfl rfl takesN
        (fun W pn xe tk hp => pss_one (ps_set (i := 1) scTry.nd rfl (Or.inl rfl) (pe_tup (pa_cons pe_str (pa_cons (hdoor W pn xe _ _ tk) pa_nil)))))
        (.cons ⟨rfl, by decide, .inl TC.gR⟩ (fun a oe cls d pn hz hf => pss_one (ps_set (i := 1) scTry.nd rfl (Or.inl rfl) (pe_op op_add_str (pe_name CP hr1 hz hf rfl rfl (Or.inl rfl)) (pe_callTy call_str_int (by rfl) TC.str (by decide +kernel) (pa_cons (pe_xf TC.xR TC.nR hz.zc hf (pv 2)) pa_nil)))))
        (.cons ⟨rfl, by decide, .inl TC.gM⟩ (fun a oe cls d pn hz hf => pss_one (ps_set (i := 1) scTry.nd rfl (Or.inl rfl) (pe_op op_add_str (pe_name CP hr1 hz hf rfl rfl (Or.inl rfl)) (pe_callTy call_str_int (by rfl) TC.str (by decide +kernel) (pa_cons (pe_xf TC.xM TC.nM hz.zc hf (pv 2)) pa_nil)))))
        (.cons ⟨rfl, by decide, .inl TC.gP⟩ (fun a oe cls d pn hz hf => pss_one (ps_set (i := 1) scTry.nd rfl (Or.inl rfl) (pe_name CP hr1 hz hf rfl rfl (Or.inl rfl)))) .nil))))
    (pss_one (ps_ret (pv 1)))), ?_⟩
  refine ⟨rfl, hc', hTT _ _ (fun cls d H' he => ?_) (fun v HZ hq => ?_)⟩
  · obtain ⟨D, n, many, rfl, ed, hdd, k1, k2⟩ := he
    refine ⟨false, ed.x1, (fun z => by cases z), fun _ => ⟨many, ed.x2, fun hm a ha => ?_, fun hm => ⟨true, ed.x3, fun _ a ha => ?_, (fun z => by cases z)⟩⟩⟩
    · obtain ⟨dd, rfl, rfl, hx, k⟩ := k2 hm
      exact ⟨rfl, D, n, rfl, ed.lt, ed.nm, hdd, fun H2 kk => ⟨_, rfl, rfl, rfl, dd, _, .int 30, rfl, kk.all dd _ (by simp) hx, rfl, 30, rfl, by decide, _, _, rfl, rfl, name_len n ed.lt, _, rfl, k H2 kk⟩⟩
    · exact ⟨rfl, D, n, rfl, ed.lt, ed.nm, hdd, fun H2 kk => ⟨_, rfl, k1 hm H2 kk⟩⟩
  · exact ⟨(by show 2 ≤ sizeLine; decide), fun T hT => ⟨_, rfl, hq T hT⟩⟩
end K16
-- part KL10
set_option Elab.async false
set_option linter.all false
set_option maxRecDepth 100000
set_option maxHeartbeats 1000000
/-! _law_do -/
namespace K16
open PySem L2 K16M LamX
/-! ### all but tables and S is kept -/
structure KpN (S : List Addr) (H H' : Hp) : Prop where
  all : ∀ b o, b ∉ S → H b = some o → (∀ ps, o ≠ .tbl ps) → H' b = some o
  tup : ∀ b xs, H b = some (.tup xs) → H' b = some (.tup xs)
section
variable {S S' : List Addr} {H H1 H2 H' : Hp}
theorem KpN.of (k : Kp S H H') : KpN S H H' := ⟨fun b o hb e _ => k.all b o hb e, k.tup⟩
theorem KpN.ext (e : ExtN H H') : KpN S H H' := ⟨fun b o _ h n => e b o h n, fun b xs h => e b _ h (fun _ z => by cases z)⟩
theorem KpN.trans (a : KpN S H H1) (b : KpN S H1 H2) : KpN S H H2 := ⟨fun c o hc h n => b.all c o hc (a.all c o hc h n) n, fun c xs h => b.tup c xs (a.tup c xs h)⟩
theorem KpN.mono (k : KpN S H H') (h : ∀ b ∈ S, b ∈ S') : KpN S' H H' := ⟨fun b o hb e n => k.all b o (fun z => hb (h b z)) e n, k.tup⟩
theorem RefsTo.tk {α : Type} {g : α → HO} {xs : List V} {l : List α} (h : RefsTo H g xs l) (k : ∀ b xs, H b = some (.tup xs) → H' b = some (.tup xs)) (ht : ∀ p, ∃ zs, g p = .tup zs) : RefsTo H' g xs l := Paired.mapP h fun x p ⟨r, e, q⟩ => ⟨r, e, by
  obtain ⟨zs, ez⟩ := ht p
  rw [ez] at q ⊢
  exact k r _ q⟩
theorem LogAt.tk {a : Addr} {l : List Ev} (h : LogAt H a l) (k : ∀ b xs, H b = some (.tup xs) → H' b = some (.tup xs)) : LogAt H' a l := let ⟨xs, h1, h2⟩ := h; ⟨xs, k a _ h1, h2.tk k ev_tup⟩
theorem StAt.tk {x : V} {st : List Ev × Int} (h : StAt H x st) (k : ∀ b xs, H b = some (.tup xs) → H' b = some (.tup xs)) : StAt H' x st := let ⟨t, lg, e, h1, h2⟩ := h; ⟨t, lg, e, k t _ h1, h2.tk k⟩
theorem StsAt.tk {xs : List V} {l : List (List Ev × Int)} (h : StsAt H xs l) (k : ∀ b xs, H b = some (.tup xs) → H' b = some (.tup xs)) : StsAt H' xs l := Paired.mapP h fun _ _ z => z.tk k
theorem AccAt.kpn {C a ps : Addr} {span : Int} {st : List Ev × Int} {past : List (List Ev × Int)} (h : AccAt C H a ps span st past) (k : KpN S H H') (h1 : a ∉ S) (h2 : ps ∉ S) : AccAt C H' a ps span st past := by
  obtain ⟨dx, lg, xs, e1, e2, e3, e4⟩ := h
  exact ⟨dx, lg, xs, k.all a _ h1 e1 (fun _ z => by cases z), e2.tk k.tup, k.all ps _ h2 e3 (fun _ z => by cases z), e4.tk k.tup⟩
theorem DeckAt.kpn {d : Addr} {n : Int} (h : DeckAt H d n) (k : KpN S H H') (hd : d ∉ S) : DeckAt H' d n := let ⟨a, b, c, e, r⟩ := h; ⟨a, b, c, k.all d _ hd e (fun _ z => by cases z), r⟩
theorem DeedAt.kpn {H0 : Hp} {x : V} : ∀ {d : Deed}, DeedAt H0 H x d → KpN S H H' → (∀ b ∈ S, H0 b ≠ none) → DeedAt H0 H' x d
  | .earn v ms, ⟨t, l, e1, e2, e3, e4, r⟩, k, h => ⟨t, l, e1, k.tup t _ e2, k.all l _ (fun z => h l z e4) e3 (fun _ z => by cases z), e4, r⟩
  | .spend v m, ⟨t, e1, e2, r⟩, k, _ => ⟨t, e1, k.tup t _ e2, r⟩
  | .wait v, ⟨t, e1, e2, r⟩, k, _ => ⟨t, e1, k.tup t _ e2, r⟩
  | .undo, ⟨t, e1, e2⟩, k, _ => ⟨t, e1, k.tup t _ e2⟩
theorem tabs_kp {T : List (Addr × Str)} (t : Tabs T H) (k : Kp S H H') (hS : ∀ b ∈ S, H b = none ∨ (∃ C dx fs, H b = some (.ins C dx fs)) ∨ ∃ xs, H b = some (.lst xs)) : Tabs T H' := fun p hp => by
  obtain ⟨ps, h1, h2, h3⟩ := t p hp
  have key : ∀ b o, H b = some o → (∀ C dx fs, o ≠ .ins C dx fs) → (∀ xs, o ≠ .lst xs) → H' b = some o := fun b o e n1 n2 => by
    refine k.all b o (fun z => ?_) e
    rcases hS b z with q | ⟨C, dx, fs, q⟩ | ⟨xs, q⟩
    · rw [q] at e; cases e
    · rw [q] at e; cases e; exact n1 _ _ _ rfl
    · rw [q] at e; cases e; exact n2 _ rfl
  refine ⟨ps, key _ _ h1 (fun _ _ _ z => by cases z) (fun _ z => by cases z), h2, fun pos cv hc => ?_⟩
  obtain ⟨c, e1, e2⟩ := h3 pos cv hc
  exact ⟨c, e1, key _ _ e2 (fun _ _ _ z => by cases (show HO.ext _ = HO.ins _ _ _ from z)) (fun _ z => by cases (show HO.ext _ = HO.lst _ from z))⟩
theorem acc_S {C a ps : Addr} {span : Int} {st : List Ev × Int} {past : List (List Ev × Int)} (h : AccAt C H a ps span st past) : ∀ b ∈ [a, ps], H b = none ∨ (∃ C dx fs, H b = some (.ins C dx fs)) ∨ ∃ xs, H b = some (.lst xs) := fun b hb => by
  obtain ⟨dx, lg, xs, e1, e2, e3, e4⟩ := h
  have : b = a ∨ b = ps := by simpa using hb
  rcases this with rfl | rfl
  · exact .inr (.inl ⟨_, _, _, e1⟩)
  · exact .inr (.inr ⟨_, e3⟩)
end
abbrev sDo : Stmt := top 46
structure TryF (K : PySem.W.Frag) (mg : Str → Option Value) : Prop where
  ex : ∃ (g : Addr) (fd : FuncData), Fun K "_law_try" "_law_try" sTry g fd ∧ mg "_law_try" = some (.ref g) ∧ Binds K fd ["_law_door"] []
theorem pe_tryN {X : Cx} {T : List (Addr × Str)} {cc : Nat → Addr} {cR cM cP c P : Addr} {k : Nat} {params : Arguments} {body : Expr} {scope : Scope} {t : XK → TE} {p lpos pos : Pos} (TF : TryF X.K X.mg) (TC : TryC X.K X.mg cR cM cP) (CP : CalP X.prog X.w X.K X.mg X.base cc)
    {q0 : Str} (TB : TabB X.base X.mg c P) (hcode : X.env.code = .ref c) (hq : X.env.qual = q0) (hmT : (P, q0 ++ "<lambda>") ∈ T) (hu : ∀ p ∈ T, p.1 = P → p.2 = q0 ++ "<lambda>") (hr : Room (k + 2) X.A) (L : LamS X.env.scope scope) (hdef : defaultsOf params X.env = ([], []))
    (hbind : ∀ (q : Str) (cl : List (Str × Addr)) (pm cv ctv : Value), bindArgs (PySem.W.kla_fn "<lambda>" q params body scope cl pm cv ctv) ⟨[], []⟩ = pure [])
    (hbody : ∀ (A : Around) (outer : List Env) (s : Shared) (H : Hp) (E : XK) (f c' : Addr), Room k (A.deeper (lamEnv X scope s.heap.objs.size f c')) → PE (lamCxN X A outer s H E scope f c') body (t E))
    (hg : Gl X "_law_try") : PE X (.Call (.Name "_law_try" p) [.Lambda params body scope lpos] [] pos) (tLam T (tryTT X.K cc cR cM cP) t) := by
  obtain ⟨g, fd, ⟨⟨oc, od, kV, doc, pm, an, cdv, ct, osl, rfl, lk, hcd⟩, kp⟩, hm, hb⟩ := TF.ex
  subst hq
  exact pe_lamcallN (j := 0) (Ng := nTry) hg hm kp lk hcd hb scTry rfl (Or.inl rfl) (gives_try (k := k) TC CP) TB hcode hmT hu hr L hdef hbind hbody
/-- what is known of the errors -/
structure ErrsT (K : PySem.W.Frag) (cc : Nat → Addr) (cR cM cP : Addr) (er : Errs) (CU : Addr) : Prop where
  time : ErrD K cc cR cM cP er.time 2 false
  amount : ErrD K cc cR cM cP er.amount 3 false
  many : ErrD K cc cR cM cP er.many 11 true
  manyE : er.many = cM
  enough : ErrD K cc cR cM cP er.enough 8 false
  undo : ErrD K cc cR cM cP CU 9 false
theorem w_time : nameS (fun i => i == 2) = "Time+" := by decide +kernel
theorem w_amount : nameS (fun i => i == 3) = "Amount+" := by decide +kernel
theorem w_many : nameS (fun i => i == 11) ++ (toString (30 : Int) : String) = ("Many+30" : Str) := by decide +kernel
theorem w_enough : nameS (fun i => i == 8) = "Enough+" := by decide +kernel
theorem w_undo : nameS (fun i => i == 9) = "Undo+" := by decide +kernel
/-- what _law_do gives -/
def DoP (C : Addr) (T : List (Addr × Str)) (a ps : Addr) (span : Int) (past : List (List Ev × Int)) (st : List Ev × Int) (H : Hp) (Q : VK) : Nx → Prop
  | .word w => ∀ H', KpN [] H H' → Tabs T H' → Q (.str w) H'
  | .pop => ∀ pst st', past = pst ++ [st'] → ∀ u H', KpN [a, ps] H H' → Tabs T H' → AccAt C H' a ps span st' pst → H' u = some (.tup [.str "told", .non]) → Q (.ref u) H'
  | .push st' => ∀ u H', KpN [a, ps] H H' → Tabs T H' → AccAt C H' a ps span st' (past ++ [st]) → H' u = some (.tup [.str "told", .int (balL span st'.2 st'.1)]) → Q (.ref u) H'
abbrev spDo (C : Addr) (T : List (Addr × Str)) : Sp := fun vs H Q _ => ∃ (a ps : Addr) (dx : V) (span : Int) (st : List Ev × Int) (past : List (List Ev × Int)) (de : Deed) (H0 : Hp), vs = [.ref a, dx] ∧ AccAt C H a ps span st past ∧ DeedAt H0 H dx de ∧ Tabs T H ∧ Good span st.2 st.1 ∧ st.1.length ≤ 30 ∧ past.length ≤ 900 ∧
  DoP C T a ps span past st H Q (nextM span past st de)
theorem prm_do {K : PySem.W.Frag} {cc : Nat → Addr} {cR cM cP : Addr} {er : Errs} {CU C : Addr} {T : List (Addr × Str)} {a ps : Addr} {span : Int} {past : List (List Ev × Int)} {st : List Ev × Int} {H H1 : Hp} {Q Q' : VK} {E' : XK} (ET : ErrsT K cc cR cM cP er CU) (kn : KpN [] H H1) (ht : Tabs T H1) (hA1 : AccAt C H1 a ps span st past)
    (hE : ∀ cls d H', TryE K cc cR cM cP Q cls d H' → E' cls d H') (hQ : ∀ v HZ, (∀ T, HZ T = none → Q (.ref T) (upd HZ T (.tup [.str "told", v]))) → Q' v HZ) : ∀ {r : Res}, DoP C T a ps span past st H Q (resN r) → Prm C er a ps span st past H1 Q' E' r
  | .time, k => fun H' k' => hE _ _ _ ⟨_, 2, false, rfl, ET.time, (fun _ z => by cases z), fun _ H2 k2 => by rw [w_time]; exact k H2 (kn.trans (.of (k'.trans k2))) (tabs_kp ht (k'.trans k2) (fun _ h => nomatch h)), fun z => by cases z⟩
  | .amount, k => fun H' k' => hE _ _ _ ⟨_, 3, false, rfl, ET.amount, (fun _ z => by cases z), fun _ H2 k2 => by rw [w_amount]; exact k H2 (kn.trans (.of (k'.trans k2))) (tabs_kp ht (k'.trans k2) (fun _ h => nomatch h)), fun z => by cases z⟩
  | .enough, k => fun H' k' => hE _ _ _ ⟨_, 8, false, rfl, ET.enough, (fun _ z => by cases z), fun _ H2 k2 => by rw [w_enough]; exact k H2 (kn.trans (.of (k'.trans k2))) (tabs_kp ht (k'.trans k2) (fun _ h => nomatch h)), fun z => by cases z⟩
  | .many, k => fun H' d k' hd e => hE _ _ _ ⟨_, 11, true, rfl, ET.many, (fun dd z => by cases z; exact ⟨_, e⟩), (fun z => by cases z), fun _ => ⟨d, rfl, ET.manyE, e, fun H2 k2 => by rw [w_many]; exact k H2 (kn.trans (.of (k'.trans k2))) (tabs_kp ht (k'.trans k2) (fun _ h => nomatch h))⟩⟩
  | .ok st', k => fun H' k' hA' => hQ _ _ fun u hu => k u _ ((kn.mono (by simp)).trans (.of (k'.trans (Kp.new hu)))) (tabs_kp ht (k'.trans (Kp.new hu)) (acc_S hA1)) (hA'.kp (Kp.new (S := []) hu) (by simp) (by simp)) upd_same
abbrev nDo : List Str := ["_law_account", "_law_deed_here", "_law_word", "_law_time", "_law_what"]
theorem scDo : FnScope nDo ["_law_account", "_law_deed_here"] (defScope sDo) := ⟨rfl, rfl, rfl, by decide +kernel, rfl, by decide +kernel, by decide +kernel⟩
/-- a def whose code object stands at c -/
structure FunC (K : PySem.W.Frag) (x qual : Str) (st : Stmt) (f : Addr) (fd : FuncData) (c : Addr) : Prop where
  ex : ∃ (oc : Value) (od : Option Addr) (kV doc pm : Value) (an : Option Addr) (ct : Value) (osl : Array (Option Value)),
    fd = PySem.W.fnOf x qual (defArgs st) (defBody st) (defScope st) .none kV doc pm an (.ref c) ct ∧ K.lookup f = some ⟨oc, od, .func fd, osl⟩ ∧ PySem.W.codeIn K (.ref c) qual = true
  kp : PySem.W.keepIn K (.ref f) = true
section
variable {P : Program} {w : World} {K : PySem.W.Frag} {mg : Str → Option Value} {base : Heap}
theorem ok_do {f C CU cR cM cP c Pt : Addr} {er : Errs} {cc : Nat → Addr} {T : List (Addr × Str)} {fd : FuncData} (F : FunC K "_law_do" "_law_do" sDo f fd c) (TA : AccT K C) (TF : TryF K mg) (TC : TryC K mg cR cM cP) (CP : CalP P w K mg base cc) (ET : ErrsT K cc cR cM cP er CU)
    (TB : TabB base mg c Pt) (hmT : (Pt, (("_law_do" : Str) ++ (".<locals>." : Str)) ++ ("<lambda>" : Str)) ∈ T) (hu : ∀ p ∈ T, p.1 = Pt → p.2 = (("_law_do" : Str) ++ (".<locals>." : Str)) ++ ("<lambda>" : Str))
    (hE : Cal0 P w K mg base (L2N.CX P w) 5 "_law_earn" ["_law_account", "_law_time", "_law_what"] (spLEarn C er)) (hS : Met0 P w K mg base (L2N.CX P w) 4 C "spend" ["self", "time", "amount"] (spSpend C er))
    (hW : Met0 P w K mg base (L2N.CX P w) 4 C "wait" ["self", "time"] (spWait C er)) (hU : Met0 P w K mg base (L2N.CX P w) 1 C "undo" ["self"] (spUndo C CU)) : FnOk P w K mg base CX0 8 f fd ["_law_account", "_law_deed_here"] (spDo C T) := by
  obtain ⟨⟨oc, od, kV, doc, pm, an, ct, osl, rfl, lk, hcd⟩, kp⟩ := F
  refine fn_of lk hcd scDo (fun vs H Q E h => ?_) (fun A outer s H vs Q E hr h => ?_)
  · obtain ⟨a, ps, dx, span, st, past, de, H0, rfl, _⟩ := h
    rfl
  · obtain ⟨a, ps, dx, span, st, past, de, H0, rfl, hA, hde, hT, hg, hl, hp, k⟩ := h
    refine ⟨_, pss_cons (ps_asg (pv 1) (pg_tup rfl (pgs_cons (pg_name (i := 2) scDo.nd rfl (Or.inl rfl)) (pgs_cons (pg_name (i := 3) scDo.nd rfl (Or.inr rfl)) (pgs_cons (pg_name (i := 4) scDo.nd rfl (Or.inr rfl)) pgs_nil)))))
      (pss_cons (ps_if (pt_cmpR op_eq (pv 2) pe_str (nomark _)) (pss_one (ps_ret (pe_tryN (T := T) (k := 5) (t := fun E => tCall (spLEarn C er) [] E (tCons (tVar 0) (tCons (tVar 3) (tCons (tVar 4) tNil)))) (q0 := ("_law_do" : Str) ++ (".<locals>." : Str)) TF TC CP TB (by rfl) (by rfl) hmT hu hr (lamS_by (sc := defScope sDo) (by decide +kernel)) (by rfl) (fun _ _ _ _ _ => by rfl)
          (fun A outer s H E f c' hr2 => pe_cal hE hr2 (by rfl) (passN rfl rfl rfl rfl) (pa_cons (pv 0) (pa_cons (pv 3) (pa_cons (pv 4) pa_nil)))) (by rfl)))) pss_nil)
      (pss_cons (ps_if (pt_cmpR op_eq (pv 2) pe_str (nomark _)) (pss_one (ps_ret (pe_tryN (T := T) (k := 5) (t := fun E => tMeth C "spend" (spSpend C er) [] E (tVar 0) (tCons (tVar 3) (tCons (tVar 4) tNil))) (q0 := ("_law_do" : Str) ++ (".<locals>." : Str)) TF TC CP TB (by rfl) (by rfl) hmT hu hr (lamS_by (sc := defScope sDo) (by decide +kernel)) (by rfl) (fun _ _ _ _ _ => by rfl)
          (fun A outer s H E f c' hr2 => pe_met hS TA.cl (hr2.mono (by decide)) (passN rfl rfl rfl rfl) (pv 0) (pa_cons (pv 3) (pa_cons (pv 4) pa_nil))) (by rfl)))) pss_nil)
      (pss_cons (ps_if (pt_cmpR op_eq (pv 2) pe_str (nomark _)) (pss_one (ps_ret (pe_tryN (T := T) (k := 5) (t := fun E => tMeth C "wait" (spWait C er) [] E (tVar 0) (tCons (tVar 3) tNil)) (q0 := ("_law_do" : Str) ++ (".<locals>." : Str)) TF TC CP TB (by rfl) (by rfl) hmT hu hr (lamS_by (sc := defScope sDo) (by decide +kernel)) (by rfl) (fun _ _ _ _ _ => by rfl)
          (fun A outer s H E f c' hr2 => pe_met hW TA.cl (hr2.mono (by decide)) (passN rfl rfl rfl rfl) (pv 0) (pa_cons (pv 3) pa_nil)) (by rfl)))) pss_nil)
      (pss_one (ps_ret (pe_tryN (T := T) (k := 5) (t := fun E => tMeth C "undo" (spUndo C CU) [] E (tVar 0) tNil) (q0 := ("_law_do" : Str) ++ (".<locals>." : Str)) TF TC CP TB (by rfl) (by rfl) hmT hu hr (lamS_by (sc := defScope sDo) (by decide +kernel)) (by rfl) (fun _ _ _ _ _ => by rfl)
          (fun A outer s H E f c' hr2 => pe_met0 hU TA.cl (hr2.mono (by decide)) (passN rfl rfl rfl rfl) (pv 0)) (by rfl))))))), ?_⟩
    cases de with
    | earn v ms =>
      obtain ⟨td, l, rfl, htd, hlm, hl0, hv, hms, hml⟩ := hde
      refine ⟨_, rfl, td, _, rfl, SqT.of htd, rfl, _, _, rfl, _, _, rfl, _, _, rfl, rfl, ?_⟩
      refine ⟨_, rfl, rfl, _, rfl, ?_⟩
      rw [show decide (V.str "earn" = V.str "earn") = true from decide_eq_true rfl]
      refine iteT ⟨hT, fun H1 e1 t1 E' Q' hE' hQ' => ?_⟩
      have hA1 := hA.kpn (KpN.ext (S := []) e1) (by simp) (by simp)
      exact ⟨_, rfl, _, rfl, _, rfl, a, ps, l, span, st, past, v, ms, rfl, e1 l _ hlm (fun _ z => by cases z), hml, (fun m hm => flatA_4 (hms m hm)), hA1, hv, hg, hl, hp, prm_do (r := earnM st v ms) ET (KpN.ext e1) t1 hA1 hE' hQ' k⟩
    | spend v m =>
      obtain ⟨td, rfl, htd, hv, hm⟩ := hde
      refine ⟨_, rfl, td, _, rfl, SqT.of htd, rfl, _, _, rfl, _, _, rfl, _, _, rfl, rfl, ?_⟩
      refine ⟨_, rfl, rfl, _, rfl, ?_⟩
      rw [show decide (V.str "spend" = V.str "earn") = false by decide +kernel]
      refine iteF ⟨_, rfl, rfl, _, rfl, ?_⟩
      rw [show decide (V.str "spend" = V.str "spend") = true from decide_eq_true rfl]
      refine iteT ⟨hT, fun H1 e1 t1 E' Q' hE' hQ' => ?_⟩
      have hA1 := hA.kpn (KpN.ext (S := []) e1) (by simp) (by simp)
      obtain ⟨dx, lg, xs, ha, _⟩ := id hA1
      exact ⟨_, rfl, a, dx, _, rfl, ha, rfl, _, rfl, _, rfl, a, ps, span, st, past, v, m, rfl, hA1, hv, flatA_4 hm, hg, hl, hp, prm_do (r := spendM span st v m) ET (KpN.ext e1) t1 hA1 hE' hQ' k⟩
    | wait v =>
      obtain ⟨td, rfl, htd, hv⟩ := hde
      refine ⟨_, rfl, td, _, rfl, SqT.of htd, rfl, _, _, rfl, _, _, rfl, _, _, rfl, rfl, ?_⟩
      refine ⟨_, rfl, rfl, _, rfl, ?_⟩
      rw [show decide (V.str "wait" = V.str "earn") = false by decide +kernel]
      refine iteF ⟨_, rfl, rfl, _, rfl, ?_⟩
      rw [show decide (V.str "wait" = V.str "spend") = false by decide +kernel]
      refine iteF ⟨_, rfl, rfl, _, rfl, ?_⟩
      rw [show decide (V.str "wait" = V.str "wait") = true from decide_eq_true rfl]
      refine iteT ⟨hT, fun H1 e1 t1 E' Q' hE' hQ' => ?_⟩
      have hA1 := hA.kpn (KpN.ext (S := []) e1) (by simp) (by simp)
      obtain ⟨dx, lg, xs, ha, _⟩ := id hA1
      exact ⟨_, rfl, a, dx, _, rfl, ha, rfl, _, rfl, a, ps, span, st, past, v, rfl, hA1, hv, hg, hl, hp, prm_do (r := waitM st v) ET (KpN.ext e1) t1 hA1 hE' hQ' k⟩
    | undo =>
      obtain ⟨td, rfl, htd⟩ := hde
      refine ⟨_, rfl, td, _, rfl, SqT.of htd, rfl, _, _, rfl, _, _, rfl, _, _, rfl, rfl, ?_⟩
      refine ⟨_, rfl, rfl, _, rfl, ?_⟩
      rw [show decide (V.str "undo" = V.str "earn") = false by decide +kernel]
      refine iteF ⟨_, rfl, rfl, _, rfl, ?_⟩
      rw [show decide (V.str "undo" = V.str "spend") = false by decide +kernel]
      refine iteF ⟨_, rfl, rfl, _, rfl, ?_⟩
      rw [show decide (V.str "undo" = V.str "wait") = false by decide +kernel]
      refine iteF ⟨hT, fun H1 e1 t1 E' Q' hE' hQ' => ?_⟩
      have kn : KpN [] H H1 := KpN.ext e1
      have hA1 := hA.kpn kn (by simp) (by simp)
      obtain ⟨dx, lg, xs, ha, _⟩ := id hA1
      unfold nextM at k
      refine ⟨_, rfl, a, dx, _, rfl, ha, rfl, a, ps, span, st, past, rfl, hA1, fun hpn H' k' => ?_, fun pst st' hpp H' k' hA' => ?_⟩
      · rw [if_pos hpn] at k
        exact hE' _ _ _ ⟨_, 9, false, rfl, ET.undo, (fun _ z => by cases z), fun _ H2 k2 => by rw [w_undo]; exact k H2 (kn.trans (.of (k'.trans k2))) (tabs_kp t1 (k'.trans k2) (fun _ h => nomatch h)), fun z => by cases z⟩
      · rw [if_neg (by rw [hpp]; simp)] at k
        exact hQ' _ _ fun u hu => k pst st' hpp u _ ((kn.mono (by simp)).trans (.of (k'.trans (Kp.new hu)))) (tabs_kp t1 (k'.trans (Kp.new hu)) (acc_S hA1)) (hA'.kp (Kp.new (S := []) hu) (by simp) (by simp)) upd_same
end
end K16
-- part KL11
set_option Elab.async false
set_option linter.all false
set_option maxRecDepth 100000
set_option maxHeartbeats 4000000
/-! _law_right -/
namespace K16
open PySem L2 K16M
abbrev sRight : Stmt := top 47
theorem lots_asc {life u : Int} {log : List Ev} (o : Ord 0 log u) : Asc ((lotsL life u log).1.map (·.1)) := by
  obtain ⟨b, _, r⟩ := rel_run (life := life) (i := 0) (rel_nil (a := 0)) o
  have e : (lotsL life u log).1 = ((prun life 0 ([], []) log).1.map tn).filter fun q => decide (u < q.1 + life) := by
    show liveL life u (lrun life ([], []) log).1 = _
    rw [← rel_live r, lapse_fst life u r.asc]
  rw [e]
  refine asc_filter _ ?_
  rw [List.map_map]
  exact r.asc
theorem asc_add {s : Int} : ∀ {l : LL}, Asc (l.map (·.1)) → Asc ((l.map fun p => (p.1 + s, p.2)).map (·.1))
  | [], _ => trivial
  | p :: r, h => ⟨fun b hb => by
      obtain ⟨q, hq, rfl⟩ := List.mem_map.mp hb
      obtain ⟨z, hz, rfl⟩ := List.mem_map.mp hq
      have : p.1 ≤ z.1 := h.1 z.1 (List.mem_map.mpr ⟨z, hz, rfl⟩)
      show p.1 + s ≤ z.1 + s
      omega, asc_add h.2⟩
theorem rem_eq {span : Int} {st : List Ev × Int} (g : Good span st.2 st.1) : remL span st = mergeL ((lotsL span st.2 st.1).1.map fun p => (p.1 + span, p.2)) := by
  unfold remL
  rw [← (play_lots g.ord).1, List.map_map]
  rfl
theorem da_evs {H : Hp} {xs : List V} {l : List Ev} (h : RefsTo H evO xs l) : DaAll H xs (l.map dEv) := by
  have h' : Paired (fun (x : V) (p : Ev) => ∃ r, x = .ref r ∧ H r = some (evO p)) xs l := h
  induction h' with
  | nil => exact .nil
  | cons a t ih =>
    obtain ⟨r, rfl, e⟩ := a
    exact .cons (.tup e (.cons (.str _) (.cons (.int _) (.cons (.int _) .nil)))) (ih t)
theorem da_log {H : Hp} {a : Addr} {l : List Ev} (h : LogAt H a l) : Da H (.ref a) (dLog l) := by
  obtain ⟨xs, e, hx⟩ := h
  exact .tup e (da_evs hx)
theorem da_p2 {H : Hp} {xs : List V} {p : LL} (h : RefsTo H p2O xs p) : DaAll H xs (p.map d2) := by
  have h' : Paired (fun (x : V) (p : Int × Int) => ∃ r, x = .ref r ∧ H r = some (p2O p)) xs p := h
  induction h' with
  | nil => exact .nil
  | cons a t ih =>
    obtain ⟨r, rfl, e⟩ := a
    exact .cons (.tup e (.cons (.int _) (.cons (.int _) .nil))) (ih t)
theorem sd_ev (e : Ev) (n : Nat) : SD (n + 1) (dEv e) := fun d hd => by
  have : d = .str (if e.k = true then "earn" else "spend") ∨ d = .int e.t ∨ d = .int e.n := by simpa using hd
  rcases this with z | z | z
  · rw [z]
    have := (sh_kind e.k).1
    cases n <;> exact this
  · rw [z]; cases n <;> trivial
  · rw [z]; cases n <;> trivial
theorem sd_log (l : List Ev) (n : Nat) : SD (n + 2) (dLog l) := fun d hd => by
  obtain ⟨q, _, rfl⟩ := List.mem_map.mp hd
  exact sd_ev q n
theorem sd_d2 (p : Int × Int) (n : Nat) : SD (n + 1) (d2 p) := fun d hd => by
  have : d = .int p.1 ∨ d = .int p.2 := by simpa using hd
  rcases this with z | z <;> (rw [z]; cases n <;> trivial)
theorem sd_l2 (l : LL) (n : Nat) : SD (n + 2) (.list (l.map d2)) := fun d hd => by
  obtain ⟨q, _, rfl⟩ := List.mem_map.mp hd
  exact sd_d2 q n
/-- what the law compares at each turn -/
def dAll (span : Int) (st : List Ev × Int) : PyData := .list [dLog st.1, .int st.2, .int (balL span st.2 st.1), .int (gonL span st.2 st.1), .int (st.1.length : Nat), .int span, .list ((remL span st).map d2)]
theorem sd_all (span : Int) (st : List Ev × Int) : SD 3 (dAll span st) := fun d hd => by
  simp only [List.mem_cons, List.not_mem_nil, or_false] at hd
  rcases hd with rfl | rfl | rfl | rfl | rfl | rfl | rfl
  · exact sd_log _ 0
  · trivial
  · trivial
  · trivial
  · trivial
  · trivial
  · exact sd_l2 _ 0
theorem slots_but {σ σ' : L2.St} {i : Nat} (hl : σ'.length = σ.length) (h : ∀ j, j ≠ i → σ'[j]? = σ[j]?) (hi : i < σ.length) : ∃ x, σ' = σ.set i x := by
  refine ⟨σ'[i]'(by omega), List.ext_getElem? fun j => ?_⟩
  by_cases e : j = i
  · subst e
    rw [List.getElem?_set_self hi, List.getElem?_eq_getElem (by omega)]
  · rw [List.getElem?_set_ne (Ne.symm e), h j e]
theorem refs_kp0 {α : Type} {H H' : Hp} {g : α → HO} {xs : List V} {l : List α} (h : RefsTo H g xs l) (k : Kp [] H H') : RefsTo H' g xs l := Paired.mapP h fun x p ⟨r, e, q⟩ => ⟨r, e, k.all r _ (by simp) q⟩
theorem r_lst {ta : TA} {σ : L2.St} {H : Hp} {Q : VK} (h : ta σ H fun vs H1 => vs.length ≤ sizeLine ∧ ∀ p, H1 p = none → Q (.ref p) (upd H1 p (.lst vs))) : tLst ta σ H Q := h
theorem merge_len (l : LL) : (mergeL l).length ≤ l.length := by
  have key : ∀ (r f : LL), (r.foldl mstep f).length ≤ f.length + r.length := by
    intro r
    induction r with
    | nil => intro f; exact Nat.le_refl _
    | cons p r ih =>
      intro f
      have := ih (mstep f p)
      have := mstep_len f p
      simp only [List.foldl_cons, List.length_cons]
      omega
  have := key l []
  rw [List.length_nil, Nat.zero_add] at this
  exact this
/-- a getter -/
structure Prp0 (P : Program) (w : World) (K : PySem.W.Frag) (mg : Str → Option Value) (base : Heap) (C : Addr) (x f : Str) : Prop where
  ex : ∃ (p g : Addr) (fd : FuncData), PropOf K C x p g ∧ FnOk P w K mg base CX0 1 g fd ["self"] (getSp C f) ∧ Binds K fd ["self"] []
structure LenF (P : Program) (w : World) (K : PySem.W.Frag) (mg : Str → Option Value) (base : Heap) (C : Addr) : Prop where
  ex : ∃ (g : Addr) (fd : FuncData), FnOk P w K mg base CX0 1 g fd ["self"] (spALen C) ∧ PySem.W.findIn K (.ref C) "__len__" = some (some (.ref g)) ∧ PySem.W.isFn K (.ref g) = true ∧ Binds K fd ["self"] []
structure RemF (P : Program) (w : World) (K : PySem.W.Frag) (mg : Str → Option Value) (base : Heap) (C : Addr) : Prop where
  ex : ∃ (g : Addr) (fd : FuncData), K16G.GZn P w K mg base 3 g fd ["self"] (spRem C) ∧ Meth K C "remaining" g ∧ Binds K fd ["self"] []
abbrev spRight (C : Addr) : Sp := fun vs H Q _ => ∃ (a ps : Addr) (x : V) (span : Int) (st : List Ev × Int) (past : List (List Ev × Int)), vs = [.ref a, x, .int span] ∧ AccAt C H a ps span st past ∧ StAt H x st ∧ Good span st.2 st.1 ∧ st.1.length ≤ 30 ∧ ∀ H', Kp [] H H' → Q (.bl true) H'
abbrev nRight : List Str := ["_law_account", "_law_state", "_law_span", "_law_log", "_law_now", "_law_lots_here", "_law_gone_here", "_law_refused", "_law_seen", "_law_row", "_law_told", "_law_rest", "_law_numbers", "_law_lot"]
theorem scRight : FnScope nRight ["_law_account", "_law_state", "_law_span"] (defScope sRight) := ⟨rfl, rfl, rfl, by decide +kernel, rfl, by decide +kernel, by decide +kernel⟩
section
variable {P : Program} {w : World} {K : PySem.W.Frag} {mg : Str → Option Value} {base : Heap}
theorem ok_right {f C : Addr} {fd : FuncData} (F : Fun K "_law_right" "_law_right" sRight f fd) (TA : AccT K C) (hl : mg "len" = none) (hsu : mg "sum" = none) (hLo : Cal0 P w K mg base CX0 1 "_law_lots" ["_law_log", "_law_span", "_law_until"] spLots)
    (hMe : Cal0 P w K mg base CX0 1 "_law_merged" ["_law_rows"] spLMerged) (hSa : Cal0 P w K mg base CX0 5 "_law_same" ["_law_told", "_law_due"] (spSame 4)) (hR : RemF P w K mg base C) (hL : LenF P w K mg base C)
    (hEv : Met0 P w K mg base CX0 1 C "events" ["self"] (spEvents C)) (hBa : Met0 P w K mg base CX0 4 C "balance" ["self"] (spANum C balL)) (hLa : Met0 P w K mg base CX0 4 C "lapsed" ["self"] (spANum C gonL))
    (hTi : Prp0 P w K mg base C "time" "now") (hLi : Prp0 P w K mg base C "life" "span") : FnOk P w K mg base CX0 6 f fd ["_law_account", "_law_state", "_law_span"] (spRight C) := by
  obtain ⟨gR, fdR, FR, mR, bR⟩ := hR.ex
  obtain ⟨gL, fdL, FL, sL, iL, bL⟩ := hL.ex
  obtain ⟨pT, gT, fdT, oT, FT, bT⟩ := hTi.ex
  obtain ⟨pI, gI, fdI, oI, FI, bI⟩ := hLi.ex
  refine F.ok scRight (fun vs H Q E h => ?_) (fun cdv A outer s H vs Q E hr h => ?_)
  · obtain ⟨a, ps, x, span, st, past, rfl, _⟩ := h
    rfl
  · obtain ⟨a, ps, x, span, st, past, rfl, hA, hst, hg, hlen, k⟩ := h
    have hr1 := Room.mono hr (show 1 ≤ 5 by decide)
    have hr2 := Room.mono hr (show 2 ≤ 5 by decide)
    have hr4 := Room.mono hr (show 4 ≤ 5 by decide)
    refine ⟨_, pss_cons (ps_asg (pv 1) (pg_tup rfl (pgs_cons (pg_name (i := 3) scRight.nd rfl (Or.inl rfl)) (pgs_cons (pg_name (i := 4) scRight.nd rfl (Or.inl rfl)) pgs_nil))))
      (pss_cons (ps_asg (pe_cal hLo hr1 (by rfl) pass0 (pa_cons (pv 3) (pa_cons (pv 2) (pa_cons (pv 4) pa_nil)))) (pg_tup rfl (pgs_cons (pg_name (i := 5) scRight.nd rfl (Or.inl rfl)) (pgs_cons (pg_name (i := 6) scRight.nd rfl (Or.inl rfl)) (pgs_cons (pg_name (i := 7) scRight.nd rfl (Or.inl rfl)) pgs_nil)))))
      (pss_cons (ps_set (i := 8) scRight.nd rfl (Or.inl rfl) (pe_lst pa_nil))
      (pss_cons (K16G.ps_forG (il := 8) (ix := 9) PassesOwn.never rfl (K16G.pgenz_meth0 (i := 0) rfl (Or.inl rfl) TA.cl mR FR (Room.mono hr (show 3 ≤ 5 by decide)) bR) hr4 scRight.nd rfl rfl rfl rfl (by decide))
      (pss_cons (ps_set (i := 10) scRight.nd rfl (Or.inl rfl) (pe_lst (pa_cons (pe_met0 hEv TA.cl hr1 (E := fun _ _ _ => False) pass0 (pv 0)) (pa_cons (pe_prop (pv 0) TA.cl oT FT hr2 bT .nil (E := fun _ _ _ => False) pass0 rfl)
          (pa_cons (pe_met0 hBa TA.cl hr4 (E := fun _ _ _ => False) pass0 (pv 0)) (pa_cons (pe_met0 hLa TA.cl hr4 (E := fun _ _ _ => False) pass0 (pv 0)) (pa_cons (pe_callB (call_lenOwn FL hr2 sL iL bL (E := fun _ _ _ => False) pass0) (by rfl) hl PySem.boot_len (pa_cons (pv 0) pa_nil))
          (pa_cons (pe_prop (pv 0) TA.cl oI FI hr2 bI .nil (E := fun _ _ _ => False) pass0 rfl) (pa_cons (pv 8) pa_nil)))))))))
      (pss_cons (ps_set (i := 11) scRight.nd rfl (Or.inl rfl) (pe_cal hMe hr1 (by rfl) pass0 (pa_cons (pe_lc (own := [("_law_lot", 13)]) (g := gName 13) (tt := tYes) (te := tTup (tCons (tOp (rI0 fun i j => .int (i + j)) (tOp (rIxL K) (tVar 13) (tC (.int 0))) (tVar 2)) (tCons (tOp (rIxL K) (tVar 13) (tC (.int 1))) tNil))) rfl scRight.nd (pi_list (pv 5))
          (blkOk_by (N := nRight) (sc := defScope sRight) (by decide +kernel)) (fun _ _ _ _ _ => pg_name (i := 13) scRight.nd rfl (Or.inl rfl)) (fun _ _ _ _ _ => pts_nil) (fun _ _ _ _ _ => pe_tup (pa_cons (pe_op op_add (pe_ix ix_list (pv 13) pe_int (fun _ _ => rfl)) (pv 2)) (pa_cons (pe_ix ix_list (pv 13) pe_int (fun _ _ => rfl)) pa_nil)))) pa_nil)))
      (pss_cons (ps_set (i := 12) scRight.nd rfl (Or.inl rfl) (pe_lst (pa_cons (pe_callB (cr_sum rfl) (by rfl) hsu (by decide +kernel) (pa_cons (pe_lc (own := [("_law_lot", 13)]) (g := gName 13) (tt := tYes) (te := tOp (rIxL K) (tVar 13) (tC (.int 1))) rfl scRight.nd (pi_list (pv 5))
          (blkOk_by (N := nRight) (sc := defScope sRight) (by decide +kernel)) (fun _ _ _ _ _ => pg_name (i := 13) scRight.nd rfl (Or.inl rfl)) (fun _ _ _ _ _ => pts_nil) (fun _ _ _ _ _ => pe_ix ix_list (pv 13) pe_int (fun _ _ => rfl))) pa_nil))
        (pa_cons (pe_callB (cr_sum rfl) (by rfl) hsu (by decide +kernel) (pa_cons (pe_lc (own := [("_law_row", 9)]) (g := gName 9) (tt := tYes) (te := tOp (rIxT K) (tVar 9) (tC (.int 1))) rfl scRight.nd (pi_list (pv 6))
          (blkOk_by (N := nRight) (sc := defScope sRight) (by decide +kernel)) (fun _ _ _ _ _ => pg_name (i := 9) scRight.nd rfl (Or.inl rfl)) (fun _ _ _ _ _ => pts_nil) (fun _ _ _ _ _ => pe_ix ix_tup (pv 9) pe_int (fun _ _ => rfl))) pa_nil)) pa_nil))))
      (pss_one (ps_ret (pe_cal hSa hr (by rfl) pass0 (pa_cons (pv 10) (pa_cons (pe_op op_cat (pe_op op_cat (pe_lst (pa_cons (pv 3) (pa_cons (pv 4) pa_nil))) (pv 12)) (pe_lst (pa_cons (pe_callB call_len_seq (by rfl) hl PySem.boot_len (pa_cons (pv 3) pa_nil)) (pa_cons (pv 2) (pa_cons (pv 11) pa_nil))))) pa_nil))))))))))), ?_⟩
    obtain ⟨evs, now⟩ := st
    obtain ⟨sa, lg, rfl, hsa, hlg⟩ := id hst
    have hz0 : (0 : Nat) ≤ sizeLine := Nat.zero_le _
    have h30 : evs.length ≤ 30 := hlen
    obtain ⟨hll1, hll2⟩ : (lotsL span now evs).1.length ≤ evs.length ∧ (lotsL span now evs).2.length ≤ evs.length := lots_len (span := span) (u := now) (evs := evs) hg
    refine ⟨_, rfl, sa, _, rfl, SqT.of hsa, rfl, _, _, rfl, _, _, rfl, rfl, ?_⟩
    refine ⟨_, rfl, _, rfl, _, rfl, lg, span, now, evs, rfl, hlg, hg, by omega, fun H1 t l g xs zs k1 ht hl1 hxs hg1 hzs => ?_⟩
    refine ⟨t, _, rfl, SqT.of ht, rfl, _, _, rfl, _, _, rfl, _, _, rfl, rfl, ?_⟩
    refine ⟨hz0, fun S hS => ?_⟩
    have hSH := k1.free (by simp) hS
    have k2 : Kp [] H1 (upd H1 S (.lst [])) := Kp.new hS
    have hS2 : upd H1 S (.lst []) S = some (.lst []) := upd_same
    have kk2 := k1.trans k2
    have hl2 := k2.all l _ (by simp) hl1
    have hg2 := k2.all g _ (by simp) hg1
    have hxs2 := refs_kp0 hxs k2
    have hzs2 := hzs.kp k2 p2_tup
    generalize upd H1 S (.lst []) = H2 at k2 hS2 kk2 hl2 hg2 hxs2 hzs2 ⊢
    have hA2 := hA.kp kk2 (by simp) (by simp)
    obtain ⟨dx2, lg2, xs2, ha2, _⟩ := id hA2
    refine ⟨S, [], rfl, hS2, a, dx2, _, rfl, ha2, rfl, a, ps, span, (evs, now), past, rfl, hA2, hg, by show evs.length ≤ 100; omega, fun H3 ys k3 hys => ⟨k3.all S _ (by simp) hS2, ?_, fun σ' hl' hσ' => ?_⟩⟩
    · have h1 := merge_len ((playL span now evs).1.map fun p => (p.1 + span, p.2.1))
      obtain ⟨e1, e2⟩ := play_len span now evs
      rw [List.length_map] at h1
      rw [sizeLine_eq, hys.len]
      show 0 + (mergeL ((playL span now evs).1.map fun p => (p.1 + span, p.2.1))).length ≤ _
      omega
    · obtain ⟨x9, rfl⟩ := slots_but hl' hσ' (by show 9 < 14; decide)
      have kS : Kp [S] H3 (upd H3 S (.lst ([] ++ ys))) := Kp.set (k3.all S _ (by simp) hS2) (by simp) lst_tup
      have hS4 : upd H3 S (.lst ([] ++ ys)) S = some (.lst ys) := upd_same
      have kk4 : Kp [] H (upd H3 S (.lst ([] ++ ys))) := (kk2.trans k3).fresh hSH
      have nlS : l ≠ S := fun z => by
        rw [z, hS] at hl1; cases hl1
      have ngS : g ≠ S := fun z => by
        rw [z, hS] at hg1; cases hg1
      have hl4 : upd H3 S (.lst ([] ++ ys)) l = some (.lst xs) := by rw [upd_ne nlS]; exact k3.all l _ (by simp) hl2
      have hg4 : upd H3 S (.lst ([] ++ ys)) g = some (.lst zs) := by rw [upd_ne ngS]; exact k3.all g _ (by simp) hg2
      have hys4 : RefsTo (upd H3 S (.lst ([] ++ ys))) p2O ys (remL span (evs, now)) := hys.kp kS p2_tup
      have hzs4 := (hzs2.kp k3 p2_tup).kp kS p2_tup
      have hxs4 : RefsTo (upd H3 S (.lst ([] ++ ys))) lsO xs (lotsL span now evs).1 := Paired.mapP (refs_kp0 hxs2 k3) fun x p ⟨r, e, q⟩ => ⟨r, e, by
        rw [upd_ne (ne_lot (k3.all S _ (by simp) hS2) q (fun _ h => nomatch h))]
        exact q⟩
      generalize upd H3 S (.lst ([] ++ ys)) = H4 at kS hS4 kk4 hl4 hg4 hys4 hzs4 hxs4 ⊢
      have hA4 := hA.kp kk4 (by simp) (by simp)
      obtain ⟨dx4, lg4, xsp4, ha4, _⟩ := id hA4
      refine ⟨_, rfl, a, dx4, _, rfl, ha4, rfl, a, ps, span, (evs, now), past, rfl, hA4, fun lgE hlgE => ?_⟩
      refine ⟨_, rfl, a, dx4, _, rfl, ha4, a, dx4, _, _, rfl, ha4, fl_now, _, rfl, a, dx4, _, rfl, ha4, rfl, a, ps, span, (evs, now), past, rfl, hA4, hg, by show evs.length ≤ 100; omega, fun H5 k5 => ?_⟩
      have hA5 := hA4.kp k5 (by simp) (by simp)
      obtain ⟨dx5, lg5, xsp5, ha5, _⟩ := id hA5
      refine ⟨_, rfl, a, dx5, _, rfl, ha5, rfl, a, ps, span, (evs, now), past, rfl, hA5, hg, by show evs.length ≤ 100; omega, fun H6 k6 => ?_⟩
      have hA6 := hA5.kp k6 (by simp) (by simp)
      obtain ⟨dx6, lg6, xsp6, ha6, _⟩ := id hA6
      refine ⟨_, rfl, a, dx6, _, rfl, ha6, a, ps, span, (evs, now), past, rfl, hA6, _, rfl, by show (0 : Int) ≤ (evs.length : Nat); omega, by show ((evs.length : Nat) : Int) < 2 ^ 63; omega, _, rfl, a, dx6, _, rfl, ha6, a, dx6, _, _, rfl, ha6, fl_span, _, rfl, (by show 7 ≤ sizeLine; decide), fun tl htl => ?_⟩
      have k45 := k5.trans k6
      have k7 : Kp [] H6 (upd H6 tl (.lst [.ref lgE, .int now, .int (balL span now evs), .int (gonL span now evs), .int (evs.length : Nat), .int span, .ref S])) := Kp.new htl
      have ht7 : upd H6 tl (.lst [.ref lgE, .int now, .int (balL span now evs), .int (gonL span now evs), .int (evs.length : Nat), .int span, .ref S]) tl = some (.lst [.ref lgE, .int now, .int (balL span now evs), .int (gonL span now evs), .int (evs.length : Nat), .int span, .ref S]) := upd_same
      have k47 := k45.trans k7
      have hS7 := k47.all S _ (by simp) hS4
      have hl7 := k47.all l _ (by simp) hl4
      have hg7 := k47.all g _ (by simp) hg4
      have hys7 := hys4.kp k47 p2_tup
      have hzs7 := hzs4.kp k47 p2_tup
      have hxs7 := refs_kp0 hxs4 k47
      have hlg7 := hlgE.kp k47
      have kk7 := kk4.trans k47
      have hdT : Da (upd H6 tl (.lst [.ref lgE, .int now, .int (balL span now evs), .int (gonL span now evs), .int (evs.length : Nat), .int span, .ref S])) (.ref tl) (dAll span (evs, now)) :=
        .lst ht7 (.cons (da_log hlg7) (.cons (.int _) (.cons (.int _) (.cons (.int _) (.cons (.int _) (.cons (.int _) (.cons (.lst hS7 (da_p2 hys7)) .nil)))))))
      generalize upd H6 tl (.lst [.ref lgE, .int now, .int (balL span now evs), .int (gonL span now evs), .int (evs.length : Nat), .int span, .ref S]) = H7 at k7 ht7 k47 hS7 hl7 hg7 hys7 hzs7 hxs7 hlg7 kk7 hdT ⊢
      change tSeq (tAsg (tCall spLMerged [] _ (tCons (tLc (iList K (tVar 5)) (gName 13) tYes (tTup (tCons (tOp (rI0 fun i j => .int (i + j)) (tOp (rIxL K) (tVar 13) (tC (.int 0))) (tVar 2)) (tCons (tOp (rIxL K) (tVar 13) (tC (.int 1))) tNil))) [13]) tNil)) (gName 11)) _ _ [some (.ref a), some (.ref sa), some (.int span), some (.ref lg), some (.int now), some (.ref l), some (.ref g), some .non, some (.ref S), x9, some (.ref tl), none, none, none] H7
      refine r_seq (r_asg (r_call (r_cons (r_lc (r_iList ⟨_, rfl, l, rfl, ⟨_, SqL.of hl7⟩, rd_lcT (α := Int × Int) (l := (lotsL span now evs).1) (c := fun _ => true) walk_list (fun H2 kk => SqL.kp hl7 kk) (by show 13 < 14; decide) hxs7.len (by have := hxs7.len; omega) (fun p => p2O (p.1 + span, p.2)) (fun p => ⟨_, rfl⟩) (fun j x p H3 Qt _ _ _ q => q)
        (fun j x p Hq Qe hx hp _ kq q => ?_) (fun Z H8 zs2 k8 hZ hZ8 hzs8 => ?_)⟩)))))
      · obtain ⟨r, hr', hre⟩ := hxs7.get hp
        rw [hx] at hr'
        cases hr'
        have hre3 := kq.all r _ (by simp) hre
        exact ⟨_, rfl, r, _, 0, .int p.1, rfl, rfl, SqL.of hre3, atI_nat (j := 0) rfl, _, rfl, _, _, rfl, rfl, _, rfl, r, _, 1, .int p.2, rfl, rfl, SqL.of hre3, atI_nat (j := 1) rfl, (by show 2 ≤ sizeLine; decide), fun q' hq => q q' hq⟩
      · have ef : (lotsL span now evs).1.filter (fun _ => true) = (lotsL span now evs).1 := List.filter_eq_self.mpr fun _ _ => rfl
        rw [ef] at hzs8
        have hzl := hzs8.len
        refine ⟨Z, zs2, _, rfl, hZ8, mapTo (f := fun p : Int × Int => (p.1 + span, p.2)) hzs8, by omega, asc_add (lots_asc hg.ord), fun H9 rs ws k9 hrs hws => ?_⟩
        have k79 := k8.trans k9
        have hl9 := k79.all l _ (by simp) hl7
        have hg9 := k79.all g _ (by simp) hg7
        have hzs9 := hzs7.kp k79 p2_tup
        have hxs9 := refs_kp0 hxs7 k79
        have kk9 := kk7.trans k79
        have hdT9 := hdT.kp k79
        rw [← rem_eq (st := (evs, now)) hg] at hws
        change tSeq (tAsg (tLst (tCons (tCB (rSum K) (tCons (tLc (iList K (tVar 5)) (gName 13) tYes (tOp (rIxL K) (tVar 13) (tC (.int 1))) [13]) tNil)) (tCons (tCB (rSum K) (tCons (tLc (iList K (tVar 6)) (gName 9) tYes (tOp (rIxT K) (tVar 9) (tC (.int 1))) [9]) tNil)) tNil))) (gName 12)) _ _ [some (.ref a), some (.ref sa), some (.int span), some (.ref lg), some (.int now), some (.ref l), some (.ref g), some .non, some (.ref S), x9, some (.ref tl), some (.ref rs), none, none] H9
        refine r_seq (r_asg (r_lst (r_cons (r_cb (r_cons (r_lc (r_iList ⟨_, rfl, l, rfl, ⟨_, SqL.of hl9⟩, rd_sndL (g := lsO) (n := fun p => p.2) hl9 hxs9 (fun p => ⟨_, rfl, rfl⟩) (by show 13 < 14; decide) (by have := hxs9.len; omega) fun D3 hD3 => ?_⟩)))))))
        refine ⟨D3, _, rfl, SqL.of upd_same, ?_⟩
        have k10 : Kp [] H9 (upd H9 D3 (.lst (((lotsL span now evs).1.map fun p => p.2).map V.int))) := Kp.new hD3
        generalize upd H9 D3 (.lst (((lotsL span now evs).1.map fun p => p.2).map V.int)) = H10 at k10 ⊢
        have hg10 := k10.all g _ (by simp) hg9
        have hzs10 := hzs9.kp k10 p2_tup
        change tCons (tCB (rSum K) (tCons (tLc (iList K (tVar 6)) (gName 9) tYes (tOp (rIxT K) (tVar 9) (tC (.int 1))) [9]) tNil)) tNil [some (.ref a), some (.ref sa), some (.int span), some (.ref lg), some (.int now), some (.ref l), some (.ref g), some .non, some (.ref S), x9, some (.ref tl), some (.ref rs), none, none] H10 _
        refine r_cons (r_cb (r_cons (r_lc (r_iList ⟨_, rfl, g, rfl, ⟨_, SqL.of hg10⟩, rd_sndB (g := p2O) (n := fun p => p.2) hg10 hzs10 (fun p => ⟨_, rfl, rfl⟩) (by show 9 < 14; decide) (by have := hzs10.len; omega) fun D4 hD4 => ?_⟩))))
        refine ⟨D4, _, rfl, SqL.of upd_same, (by show 2 ≤ sizeLine; decide), fun nn hnn => ?_⟩
        have k11 : Kp [] H10 (upd H10 D4 (.lst (((lotsL span now evs).2.map fun p => p.2).map V.int))) := Kp.new hD4
        change upd H10 D4 (.lst (((lotsL span now evs).2.map fun p => p.2).map V.int)) nn = none at hnn
        generalize upd H10 D4 (.lst (((lotsL span now evs).2.map fun p => p.2).map V.int)) = H11 at k11 hnn ⊢
        have eB : ((lotsL span now evs).1.map fun p => p.2).sum = balL span now evs := (bal_lots (u := now) hg.ord).symm
        have eG : ((lotsL span now evs).2.map fun p => p.2).sum = gonL span now evs := (gon_lots (u := now) hg.ord).symm
        rw [eB, eG]
        have k12 : Kp [] H11 (upd H11 nn (.lst [.int (balL span now evs), .int (gonL span now evs)])) := Kp.new hnn
        have e12 : upd H11 nn (.lst [.int (balL span now evs), .int (gonL span now evs)]) nn = some (.lst [.int (balL span now evs), .int (gonL span now evs)]) := upd_same
        have k912 := (k10.trans k11).trans k12
        have kk12 := kk9.trans k912
        have hdT12 := hdT9.kp k912
        have hrs12 := k912.all rs _ (by simp) hrs
        have hws12 := hws.kp k912 p2_tup
        generalize upd H11 nn (.lst [.int (balL span now evs), .int (gonL span now evs)]) = H12 at k12 e12 k912 kk12 hdT12 hrs12 hws12 ⊢
        obtain ⟨es, hes, hrf⟩ := id (hlg.kp kk12)
        have hrl : es.length = evs.length := hrf.len
        refine ⟨_, rfl, _, rfl, _, rfl, (by show 2 ≤ sizeLine; decide), fun q1 hq1 => ?_⟩
        have k13 : Kp [] H12 (upd H12 q1 (.lst [.ref lg, .int now])) := Kp.new hq1
        have e13 : upd H12 q1 (.lst [.ref lg, .int now]) q1 = some (.lst [.ref lg, .int now]) := upd_same
        have en13 := k13.all nn _ (by simp) e12
        generalize upd H12 q1 (.lst [.ref lg, .int now]) = H13 at k13 e13 en13 ⊢
        refine ⟨_, rfl, q1, nn, _, _, rfl, rfl, e13, en13, (by show 2 + 2 ≤ sizeLine; decide), fun q2 hq2 => ?_⟩
        have k14 : Kp [] H13 (upd H13 q2 (.lst ([.ref lg, .int now] ++ [.int (balL span now evs), .int (gonL span now evs)]))) := Kp.new hq2
        have e14 : upd H13 q2 (.lst ([.ref lg, .int now] ++ [.int (balL span now evs), .int (gonL span now evs)])) q2 = some (.lst ([.ref lg, .int now] ++ [.int (balL span now evs), .int (gonL span now evs)])) := upd_same
        have hes14 := (k13.trans k14).tup lg _ hes
        generalize upd H13 q2 (.lst ([.ref lg, .int now] ++ [.int (balL span now evs), .int (gonL span now evs)])) = H14 at k14 e14 hes14 ⊢
        refine ⟨_, rfl, lg, es, rfl, .inr (SqT.of hes14), _, rfl, _, rfl, (by show 3 ≤ sizeLine; decide), fun q3 hq3 => ?_⟩
        rw [hrl]
        have k15 : Kp [] H14 (upd H14 q3 (.lst [.int (evs.length : Nat), .int span, .ref rs])) := Kp.new hq3
        have e15 : upd H14 q3 (.lst [.int (evs.length : Nat), .int span, .ref rs]) q3 = some (.lst [.int (evs.length : Nat), .int span, .ref rs]) := upd_same
        have e1415 := k15.all q2 _ (by simp) e14
        generalize upd H14 q3 (.lst [.int (evs.length : Nat), .int span, .ref rs]) = H15 at k15 e15 e1415 ⊢
        refine ⟨q2, q3, _, _, rfl, rfl, e1415, e15, (by show 4 + 3 ≤ sizeLine; decide), fun q4 hq4 => ?_⟩
        have k16 : Kp [] H15 (upd H15 q4 (.lst ([.ref lg, .int now] ++ [.int (balL span now evs), .int (gonL span now evs)] ++ [.int (evs.length : Nat), .int span, .ref rs]))) := Kp.new hq4
        have e16 : upd H15 q4 (.lst ([.ref lg, .int now] ++ [.int (balL span now evs), .int (gonL span now evs)] ++ [.int (evs.length : Nat), .int span, .ref rs])) q4 = some (.lst [.ref lg, .int now, .int (balL span now evs), .int (gonL span now evs), .int (evs.length : Nat), .int span, .ref rs]) := upd_same
        have k1216 := ((k13.trans k14).trans k15).trans k16
        have hdD := Da.lst e16 (.cons (da_log (hlg.kp (kk12.trans k1216))) (.cons (.int now) (.cons (.int (balL span now evs)) (.cons (.int (gonL span now evs)) (.cons (.int (evs.length : Nat)) (.cons (.int span) (.cons (.lst (k1216.all rs _ (by simp) hrs12) (da_p2 (hws12.kp k1216 p2_tup))) .nil)))))))
        exact ⟨.ref tl, .ref q4, dAll span (evs, now), rfl, hdT12.kp k1216, hdD, sd_all _ _, fun H' k' => k H' ((kk12.trans k1216).trans k')⟩
end
end K16
-- part KL13
set_option Elab.async false
set_option linter.all false
set_option maxRecDepth 100000
set_option maxHeartbeats 1000000
/-! the law: what stands through its turns -/
namespace K16
open PySem L2 K16M LamX
theorem sql_kp {K : PySem.W.Frag} {H H' : Hp} {a : Addr} {xs : List V} (h : SqL K H a xs) (k : Kp [] H H') : SqL K H' a xs := by
  rcases h with (h | ⟨o, h⟩) | h
  · exact .inl (.inl (k.all a _ (by simp) h))
  · exact .inl (.inr ⟨o, k.all a _ (by simp) h⟩)
  · exact .inr h
/-- a new account -/
theorem make_in {C CL : Addr} {H : Hp} {span : Int} {Q : VK} {E : XK} (h1 : 1 ≤ span) (h2 : span ≤ 1000) (q : ∀ a ps H', H a = none → H ps = none → a ≠ ps → Kp [] H H' → AccAt C H' a ps span ([], 0) [] → Q (.ref a) H') :
    ∀ x dx, H x = none → H dx = none → dx ≠ x → spAccInit C CL (.ref x :: ([.int span] ++ [])) (upd (upd H dx (.own x)) x (.ins C dx [])) (fun v H2 => v = .non ∧ Q (.ref x) H2) E := fun x dx hx hdx hne => by
  have hf : isFrom (.int span) 1 1000 = true := by
    show (decide (1 ≤ span) && decide (span ≤ 1000)) = true
    rw [decide_eq_true h1, decide_eq_true h2]; rfl
  refine ⟨x, dx, .int span, rfl, upd_same, rfl, fun span' e _ H' ps kk hps hA => ?_, fun z => by rw [hf] at z; cases z⟩
  cases e
  have k0 : Kp [x] H (upd (upd H dx (.own x)) x (.ins C dx [])) := (Kp.new hdx).trans (Kp.new (by rw [upd_ne (Ne.symm hne)]; exact hx))
  have nxp : ps ≠ x := fun z => by rw [z, upd_same] at hps; cases hps
  refine ⟨rfl, q x ps H' hx ?_ (Ne.symm nxp) ((k0.trans kk).old fun b hb _ => by rw [List.mem_singleton.mp hb]; exact hx) hA⟩
  exact k0.free (by simp [nxp]) hps
theorem make_t {C CL : Addr} {H : Hp} {span : Int} {Q : VK} {E : XK} {t : TA} {σ : L2.St} (ht : ∀ R : List V → Hp → Prop, R [.int span] H → t σ H R) (h1 : 1 ≤ span) (h2 : span ≤ 1000) (q : ∀ a ps H', H a = none → H ps = none → a ≠ ps → Kp [] H H' → AccAt C H' a ps span ([], 0) [] → Q (.ref a) H') :
    tMake C (spAccInit C CL) [] E t σ H Q := ht _ (make_in h1 h2 q)
/-- what stands -/
structure TI (C : Addr) (T : List (Addr × Str)) (Ls : Addr) (cells : List V) (a ps b pb S d : Addr) (n span : Int) (stA : List Ev × Int) (pA : List (List Ev × Int)) (stB : List Ev × Int) (pB sl : List (List Ev × Int)) (H : Hp) : Prop where
  ls : H Ls = some (.lst cells)
  tabs : Tabs T H
  acc : AccAt C H a ps span stA pA
  oth : AccAt C H b pb span stB pB
  sts : ∃ xs, H S = some (.lst xs) ∧ StsAt H xs sl
  deck : DeckAt H d n
  nd : [a, b, Ls, ps, pb, S, d].Nodup
theorem nd7 {a b Ls ps pb S d : Addr} (h : [a, b, Ls, ps, pb, S, d].Nodup) : (a ≠ b ∧ a ≠ Ls ∧ a ≠ ps ∧ a ≠ pb ∧ a ≠ S ∧ a ≠ d) ∧ (b ≠ Ls ∧ b ≠ ps ∧ b ≠ pb ∧ b ≠ S ∧ b ≠ d) ∧ (Ls ≠ ps ∧ Ls ≠ pb ∧ Ls ≠ S ∧ Ls ≠ d) ∧ (ps ≠ pb ∧ ps ≠ S ∧ ps ≠ d) ∧ (pb ≠ S ∧ pb ≠ d) ∧ S ≠ d := by
  simp only [List.nodup_cons, List.mem_cons, not_or, List.not_mem_nil, not_false_eq_true, or_false, and_true] at h
  obtain ⟨⟨h1, h2, h3, h4, h5, h6⟩, ⟨h7, h8, h9, h10, h11⟩, ⟨h12, h13, h14, h15⟩, ⟨h16, h17, h18⟩, ⟨h19, h20⟩, h21⟩ := h
  exact ⟨⟨h1, h2, h3, h4, h5, h6⟩, ⟨h7, h8, h9, h10, h11⟩, ⟨h12, h13, h14, h15⟩, ⟨h16, h17, h18⟩, ⟨h19, h20⟩, h21.1⟩
section
variable {C : Addr} {T : List (Addr × Str)} {Ls : Addr} {cells : List V} {a ps b pb S d : Addr} {n n' span : Int} {stA : List Ev × Int} {pA : List (List Ev × Int)} {stB : List Ev × Int} {pB sl sl' : List (List Ev × Int)} {H H' : Hp}
theorem sts_kpn (h : ∃ xs, H S = some (.lst xs) ∧ StsAt H xs sl) {X : List Addr} (k : KpN X H H') (hS : S ∉ X) : ∃ xs, H' S = some (.lst xs) ∧ StsAt H' xs sl := by
  obtain ⟨xs, e, s⟩ := h
  exact ⟨xs, k.all S _ hS e (fun _ z => by cases z), s.tk k.tup⟩
theorem TI.keep (h : TI C T Ls cells a ps b pb S d n span stA pA stB pB sl H) (k : KpN [] H H') (t : Tabs T H') : TI C T Ls cells a ps b pb S d n span stA pA stB pB sl H' :=
  ⟨k.all _ _ (by simp) h.ls (fun _ z => by cases z), t, h.acc.kpn k (by simp) (by simp), h.oth.kpn k (by simp) (by simp), sts_kpn h.sts k (by simp), h.deck.kpn k (by simp), h.nd⟩
theorem TI.keep0 (h : TI C T Ls cells a ps b pb S d n span stA pA stB pB sl H) (k : Kp [] H H') : TI C T Ls cells a ps b pb S d n span stA pA stB pB sl H' := h.keep (.of k) (tabs_kp h.tabs k (fun _ z => nomatch z))
theorem TI.deckd (h : TI C T Ls cells a ps b pb S d n span stA pA stB pB sl H) (k : Kp [d] H H') (hd : DeckAt H' d n') : TI C T Ls cells a ps b pb S d n' span stA pA stB pB sl H' := by
  obtain ⟨⟨h1, h2, h3, h4, h5, h6⟩, ⟨h7, h8, h9, h10, h11⟩, ⟨h12, h13, h14, h15⟩, ⟨h16, h17, h18⟩, ⟨h19, h20⟩, h21⟩ := nd7 h.nd
  have kn : KpN [d] H H' := .of k
  refine ⟨k.all _ _ (by simp [h15]) h.ls, tabs_kp h.tabs k (fun x hx => ?_), h.acc.kpn kn (by simp [h6]) (by simp [h18]), h.oth.kpn kn (by simp [h11]) (by simp [h20]), sts_kpn h.sts kn (by simp [h21]), hd, h.nd⟩
  rw [List.mem_singleton.mp hx]
  obtain ⟨_, _, _, e, _⟩ := h.deck
  exact .inr (.inr ⟨_, e⟩)
theorem TI.stsd (h : TI C T Ls cells a ps b pb S d n span stA pA stB pB sl H) (k : Kp [S] H H') (hs : ∃ xs, H' S = some (.lst xs) ∧ StsAt H' xs sl') : TI C T Ls cells a ps b pb S d n span stA pA stB pB sl' H' := by
  obtain ⟨⟨h1, h2, h3, h4, h5, h6⟩, ⟨h7, h8, h9, h10, h11⟩, ⟨h12, h13, h14, h15⟩, ⟨h16, h17, h18⟩, ⟨h19, h20⟩, h21⟩ := nd7 h.nd
  have kn : KpN [S] H H' := .of k
  refine ⟨k.all _ _ (by simp [h14]) h.ls, tabs_kp h.tabs k (fun x hx => ?_), h.acc.kpn kn (by simp [h5]) (by simp [h17]), h.oth.kpn kn (by simp [h10]) (by simp [h19]), hs, h.deck.kpn kn (by simp [Ne.symm h21]), h.nd⟩
  rw [List.mem_singleton.mp hx]
  obtain ⟨_, e, _⟩ := h.sts
  exact .inr (.inr ⟨_, e⟩)
theorem TI.accd {stA' : List Ev × Int} {pA' : List (List Ev × Int)} (h : TI C T Ls cells a ps b pb S d n span stA pA stB pB sl H) (k : KpN [a, ps] H H') (t : Tabs T H') (hA : AccAt C H' a ps span stA' pA') : TI C T Ls cells a ps b pb S d n span stA' pA' stB pB sl H' := by
  obtain ⟨⟨h1, h2, h3, h4, h5, h6⟩, ⟨h7, h8, h9, h10, h11⟩, ⟨h12, h13, h14, h15⟩, ⟨h16, h17, h18⟩, ⟨h19, h20⟩, h21⟩ := nd7 h.nd
  exact ⟨k.all _ _ (by simp [Ne.symm h2, h12]) h.ls (fun _ z => by cases z), t, hA, h.oth.kpn k (by simp [Ne.symm h1, h8]) (by simp [Ne.symm h4, Ne.symm h16]), sts_kpn h.sts k (by simp [Ne.symm h5, Ne.symm h17]), h.deck.kpn k (by simp [Ne.symm h6, Ne.symm h18]), h.nd⟩
theorem TI.othd {stB' : List Ev × Int} {pB' : List (List Ev × Int)} (h : TI C T Ls cells a ps b pb S d n span stA pA stB pB sl H) (k : KpN [b, pb] H H') (t : Tabs T H') (hB : AccAt C H' b pb span stB' pB') : TI C T Ls cells a ps b pb S d n span stA pA stB' pB' sl H' := by
  obtain ⟨⟨h1, h2, h3, h4, h5, h6⟩, ⟨h7, h8, h9, h10, h11⟩, ⟨h12, h13, h14, h15⟩, ⟨h16, h17, h18⟩, ⟨h19, h20⟩, h21⟩ := nd7 h.nd
  exact ⟨k.all _ _ (by simp [Ne.symm h7, h13]) h.ls (fun _ z => by cases z), t, h.acc.kpn k (by simp [h1, h4]) (by simp [Ne.symm h8, h16]), hB, sts_kpn h.sts k (by simp [Ne.symm h10, Ne.symm h19]), h.deck.kpn k (by simp [Ne.symm h11, Ne.symm h20]), h.nd⟩
end
abbrev nEE : XK := fun _ _ _ => False
abbrev tLast (K : PySem.W.Frag) : TE := tOp (rIxL K) (tVar 5) (tUn (rU fun i => .int (-i)) (tC (.int 1)))
abbrev tEqO (K : PySem.W.Frag) (C : Addr) (t : TE) : TE := tOp (rEqOwn K C (spAEq C) nEE id) (tVar 10) t
theorem fin_check {K : PySem.W.Frag} {C : Addr} {T : List (Addr × Str)} {Ls : Addr} {cells : List V} {a ps b pb S d : Addr} {n span : Int} {st : List Ev × Int} {past : List (List Ev × Int)} {H : Hp} {x0 x1 t6 d7 b8 d9 x11 : Option V} {D : Ends} {u : TS}
    (ti : TI C T Ls cells a ps b pb S d n span st past st past (past ++ [st]) H) (hg : Good span st.2 st.1) (hl : st.1.length ≤ 30)
    (q : ∀ H', Kp [] H H' → D.nx [x0, x1, some (.ref d), some (.int span), some (.ref b), some (.ref S), t6, d7, b8, d9, some (.ref a), x11] H') :
    tIfS (tOr (tNot (tTest (tEqO K C (tVar 4)))) (tOr (tTest (tEqO K C (tLast K))) (tNot (fun σ H Q => tCall (spRight C) [] nEE (tCons (tVar 10) (tCons (tLast K) (tCons (tVar 3) tNil))) σ H fun x H' => ∃ k, TruV K x H' k ∧ Q k H')))) u tNext D [x0, x1, some (.ref d), some (.int span), some (.ref b), some (.ref S), t6, d7, b8, d9, some (.ref a), x11] H := by
  obtain ⟨dx, lg, xa, ha, _⟩ := id ti.acc
  obtain ⟨dxb, lgb, xb, hb, _⟩ := id ti.oth
  refine ⟨_, rfl, _, rfl, a, dx, _, rfl, ha, ⟨b, rfl, .inl ⟨_, _, hb⟩⟩, a, b, ps, span, st, past, rfl, ti.acc, .inl ⟨pb, span, st, past, ti.oth, fun H1 kb k1 hk => ?_⟩⟩
  obtain rfl : kb = true := hk.mpr ⟨rfl, rfl⟩
  refine ⟨true, rfl, true, rfl, iteF ?_⟩
  have ti1 := ti.keep0 k1
  obtain ⟨xs, hS, hst⟩ := ti1.sts
  have hxl : xs.length = past.length + 1 := by rw [Paired.length hst]; simp
  obtain ⟨x, hx, hxs⟩ := paired_g hst (i := past.length) (c := st) (by simp)
  obtain ⟨t, lgx, rfl, ht, hlgx⟩ := id hxs
  have ha1 := k1.all a _ (by simp) ha
  refine ⟨_, rfl, _, rfl, 1, rfl, S, xs, -1, .ref t, rfl, rfl, SqL.of hS, atI_neg1 hxl hx, a, dx, _, rfl, ha1, ⟨t, rfl, .inr ⟨_, SqT.of ht⟩⟩, a, t, ps, span, st, past, rfl, ti1.acc, .inr ⟨⟨_, ht⟩, ⟨false, rfl, false, rfl, iteF ?_⟩⟩⟩
  exact ⟨_, rfl, _, rfl, 1, rfl, S, xs, -1, .ref t, rfl, rfl, SqL.of hS, atI_neg1 hxl hx, _, rfl, a, ps, .ref t, span, st, past, rfl, ti1.acc, hxs, hg, hl, fun H2 k2 => ⟨true, rfl, iteF (q H2 (k1.trans k2))⟩⟩
theorem word_lay {span : Int} {past : List (List Ev × Int)} {st : List Ev × Int} {de : Deed} {w : Str} (h : nextM span past st de = .word w) : (PyData.str w).canLay0 = true := by
  have key : ∀ r : Res, resN r = .word w → (PyData.str w).canLay0 = true := fun r e => by
    cases r with
    | ok st' => cases e
    | time => cases e; decide +kernel
    | amount => cases e; decide +kernel
    | many => cases e; decide +kernel
    | enough => cases e; decide +kernel
  cases de with
  | undo =>
    have h : (if past = [] then Nx.word "Undo+" else .pop) = .word w := h
    by_cases hp : past = []
    · rw [if_pos hp] at h; cases h; decide +kernel
    · rw [if_neg hp] at h; cases h
  | earn v ms => exact key _ h
  | spend v m => exact key _ h
  | wait v => exact key _ h
structure Told (C : Addr) (T : List (Addr × Str)) (span : Int) (past : List (List Ev × Int)) (st : List Ev × Int) (de : Deed) (stA : List Ev × Int) (pA : List (List Ev × Int)) (v : V) (dv : PyData) : Prop where
  da : ∀ H, Da H v dv
  sd : SD 2 dv
  dop : ∀ (a ps : Addr) (Q2 : VK) (H2 : Hp), (∀ r H', KpN [a, ps] H2 H' → Tabs T H' → AccAt C H' a ps span stA pA → H' r = some (.tup [.str "told", v]) → Q2 (.ref r) H') → DoP C T a ps span past st H2 Q2 (nextM span past st de)
  good : Good span stA.2 stA.1
  len : stA.1.length ≤ 30
  goods : ∀ s ∈ pA, Good span s.2 s.1 ∧ s.1.length ≤ 30
  plen : pA.length ≤ past.length + 1
  head : (pA ++ [stA]).head? = (past ++ [st]).head?
theorem nextM_push {span : Int} {past : List (List Ev × Int)} {st st' : List Ev × Int} {de : Deed} (e : nextM span past st de = .push st') : resM span st de = .ok st' := by
  have key : ∀ r : Res, resN r = .push st' → r = .ok st' := fun r e => by
    cases r with
    | ok s => cases e; rfl
    | time => cases e
    | amount => cases e
    | many => cases e
    | enough => cases e
  cases de with
  | undo =>
    have e : (if past = [] then Nx.word "Undo+" else .pop) = .push st' := e
    by_cases hp : past = []
    · rw [if_pos hp] at e; cases e
    · rw [if_neg hp] at e; cases e
  | earn v ms => exact key _ e
  | spend v m => exact key _ e
  | wait v => exact key _ e
theorem nextM_pop {span : Int} {past : List (List Ev × Int)} {st : List Ev × Int} {de : Deed} (e : nextM span past st de = .pop) : ∃ pst st', past = pst ++ [st'] := by
  have key : ∀ r : Res, resN r ≠ .pop := fun r e => by
    cases r with
    | ok s => cases e
    | time => cases e
    | amount => cases e
    | many => cases e
    | enough => cases e
  cases de with
  | undo =>
    have e : (if past = [] then Nx.word "Undo+" else .pop) = .pop := e
    rcases List.eq_nil_or_concat past with hp | ⟨pst, st', hp⟩
    · rw [if_pos hp] at e; cases e
    · exact ⟨pst, st', by rw [hp, List.concat_eq_append]⟩
  | earn v ms => exact absurd e (key _)
  | spend v m => exact absurd e (key _)
  | wait v => exact absurd e (key _)
theorem nx_in {C : Addr} {T : List (Addr × Str)} {S : Addr} {span : Int} {past : List (List Ev × Int)} {st : List Ev × Int} {de : Deed} {H : Hp} {Q : VK} (hg : Good span st.2 st.1) (hl : st.1.length ≤ 30) (hgp : ∀ s ∈ past, Good span s.2 s.1 ∧ s.1.length ≤ 30)
    (h1 : ∀ wd, nextM span past st de = .word wd → ∀ H', Kp [] H H' → Q (.str wd) H')
    (h2 : ∀ (stA : List Ev × Int) (pA : List (List Ev × Int)) (v : V) (dv : PyData) (u : Addr) (H' : Hp) (xs : List V), Told C T span past st de stA pA v dv → Kp [S] H H' → H' S = some (.lst xs) → StsAt H' xs (pA ++ [stA]) → H' u = some (.tup [.str "told", v]) → Q (.ref u) H') :
    NxP S span past st H Q (nextM span past st de) := by
  cases e : nextM span past st de with
  | word wd => exact h1 wd e
  | pop =>
    obtain ⟨pst, st', rfl⟩ := nextM_pop e
    have hm := hgp st' (by simp)
    intro u H' xs' k hS hst hu
    exact h2 st' pst .non .none u H' xs' ⟨fun _ => .non, trivial, fun a ps Q2 H2 q => by
      rw [e]
      intro pst2 st2 h r H3 kn t hA hr
      obtain ⟨e1, e2⟩ := List.append_inj' h rfl
      cases e2
      subst e1
      exact q r H3 kn t hA hr, hm.1, hm.2, fun s hs => hgp s (List.mem_append.mpr (.inl hs)), by rw [List.length_append]; omega, by cases pst <;> rfl⟩ k hS hst hu
  | push st' =>
    obtain ⟨g', l'⟩ := res_good hg hl (nextM_push e)
    intro u H' xs' k hS hst hu
    exact h2 st' (past ++ [st]) (.int (balL span st'.2 st'.1)) (.int (balL span st'.2 st'.1)) u H' xs' ⟨fun _ => .int _, trivial, fun a ps Q2 H2 q => by
      rw [e]
      intro r H3 kn t hA hr
      exact q r H3 kn t hA hr, g', l', fun s hs => by
        rcases List.mem_append.mp hs with z | z
        · exact hgp s z
        · rw [List.mem_singleton.mp z]; exact ⟨hg, hl⟩, by rw [List.length_append]; exact Nat.le_refl _, by cases past <;> rfl⟩ k hS hst hu
end K16
-- part KL12
set_option Elab.async false
set_option linter.all false
set_option maxRecDepth 100000
set_option maxHeartbeats 1000000
set_option pp.maxSteps 250
/-! the law: its text -/
namespace K16
open PySem PyProof.Rows L2 K16M LamX
abbrev rCatSq (K : PySem.W.Frag) : R2 := fun x y H Q => ∃ l b xs zs, x = .ref l ∧ y = .ref b ∧ H l = some (.lst xs) ∧ SqL K H b zs ∧ xs.length + zs.length ≤ sizeLine ∧ ∀ p, H p = none → Q (.ref p) (upd H p (.lst (xs ++ zs)))
theorem op_catSq {X : Cx} : OpR X (binaryOp .Add) (rCatSq X.K) := by
  intro pins s σ H x y v u Q I rx ry h
  obtain ⟨l, b, xs, zs, rfl, rfl, hH, hB, hz, q⟩ := h
  cases rx
  cases ry
  obtain ⟨z, its, n, r, hl, e⟩ := I.lstM hH
  obtain ⟨its2, o2, n2, r2, e2, hc2, hd2⟩ := sqL_at I.hok I.kIn hB
  obtain ⟨cls2, dd2, data2, sl2⟩ := o2
  dsimp only at hc2 hd2
  subst hc2 hd2
  have hl2 := r2.length
  have ea : its.toArray ++ its2.toArray = (its ++ its2).toArray := by simp
  refine concat_meets ⟨_, e, rfl⟩ ⟨_, e2, rfl⟩ noFill_list_add seq_list_add PySem.F.slot_list_add PySem.F.entry_list_add (PySem.F.args_list_add_2 _ _) (list_addW l b its.toArray its2.toArray n n2 none dd2 #[] sl2 (by rw [List.size_toArray, List.size_toArray]; omega)) ⟨e, e2, ?_⟩
  rw [ea]
  exact ⟨.ref _, _, I.lnew (t' := s.toks) (r.append r2) (by rw [List.length_append]; omega), rfl, q _ I.fresh⟩
abbrev sLaw : Stmt := top 48
abbrev nE : XK := fun _ _ _ => False
theorem passF {X : Cx} : Passes (L2N.CX X.prog X.w) X nE := fun _ _ _ _ _ _ _ ⟨_, _, _, _, _, _, _, _, _, _, _, _, h⟩ => h.elim
structure MkF (P : Program) (w : World) (K : PySem.W.Frag) (mg : Str → Option Value) (base : Heap) (C CL : Addr) : Prop where
  ex : ∃ (g : Addr) (fd : FuncData), Mk K C g ∧ FnOk P w K mg base (L2N.CX P w) 3 g fd ["self", "life"] (spAccInit C CL) ∧ Binds K fd ["self", "life"] []
structure EqF (P : Program) (w : World) (K : PySem.W.Frag) (mg : Str → Option Value) (base : Heap) (C : Addr) : Prop where
  ex : ∃ (g : Addr) (fd : FuncData), FnOk P w K mg base CX0 1 g fd ["self", "other"] (spAEq C) ∧ PySem.W.findIn K (.ref C) "__eq__" = some (some (.ref g)) ∧ PySem.W.isFn K (.ref g) = true ∧ Binds K fd ["self", "other"] []
  ne : PySem.W.findIn K (.ref C) "__ne__" = some (some (.builtin "object.__ne__"))
  ob : PySem.W.subIn K (.ref C) (.type "object") = some true
  tu : PySem.W.subIn K (.type "tuple") (.ref C) = some false
structure ClsF (P : Program) (w : World) (K : PySem.W.Frag) (mg : Str → Option Value) (base : Heap) (C : Addr) : Prop where
  ex : ∃ (mc u : Value) (p g : Addr), ClX.CRead K C mc ∧ ClX.CVal K C mc "MOST" (.int 30) u ∧ ClX.CMet K C mc "yearly" p g ∧ FnR P w K mg base (L2N.CX P w) 5 g (spYearly C)
abbrev qLaw : Str := (("law" : Str) ++ (".<locals>." : Str)) ++ ("<lambda>" : Str)
structure LawE (P : Program) (w : World) (K : PySem.W.Frag) (mg : Str → Option Value) (base : Heap) (C CL CU cR cM cP c2 P2 : Addr) (er : Errs) (cc : Nat → Addr) (T : List (Addr × Str)) : Prop where
  dk : Cal0 P w K mg base CX0 1 "_law_deck" ["_law_cell", "_law_turn"] spDeck
  pk : Cal0 P w K mg base CX0 1 "_law_pick" ["_law_deck_here", "_law_limit"] spPick
  on : Cal0 P w K mg base CX0 2 "_law_one" ["_law_deck_here", "_law_some"] spOne
  de : Cal0 P w K mg base CX0 3 "_law_deed" ["_law_deck_here", "_law_state", "_law_span"] spDeed
  nx : Cal0 P w K mg base CX0 4 "_law_next" ["_law_states", "_law_span", "_law_deed_here"] spNext
  sm : Cal0 P w K mg base CX0 5 "_law_same" ["_law_told", "_law_due"] (spSame 4)
  do_ : Cal0 P w K mg base CX0 8 "_law_do" ["_law_account", "_law_deed_here"] (spDo C T)
  ri : Cal0 P w K mg base CX0 6 "_law_right" ["_law_account", "_law_state", "_law_span"] (spRight C)
  ta : AccT K C
  mkf : MkF P w K mg base C CL
  gC : mg "Account" = some (.ref C)
  eq : EqF P w K mg base C
  un : Met0 P w K mg base (L2N.CX P w) 1 C "undo" ["self"] (spUndo C CU)
  ea : MetR P w K mg base (L2N.CX P w) 4 C "earn" (spEarn C er)
  lf : LenF P w K mg base C
  tf : TryF K mg
  tc : TryC K mg cR cM cP
  cp : CalP P w K mg base cc
  et : ErrsT K cc cR cM cP er CU
  li : ErrD K cc cR cM cP CL 1 false
  tb : TabB base mg c2 P2
  hm : (P2, qLaw) ∈ T
  hu : ∀ p ∈ T, p.1 = P2 → p.2 = qLaw
  pt : Prp0 P w K mg base C "time" "now"
  pl : Prp0 P w K mg base C "life" "span"
  cl : ClsF P w K mg base C
  len : mg "len" = none
  ran : mg "range" = none
  isi : mg "isinstance" = none
  tup : mg "tuple" = none
abbrev nLaw : List Str := ["_law_script", "_law_cell", "_law_deck_here", "_law_span", "_law_other", "_law_states", "_law_turn", "_law_deed_here", "_law_before", "_law_due", "_law_account", "_law_odd"]
theorem scLaw : FnScope nLaw ["_law_script"] (defScope sLaw) := ⟨rfl, rfl, rfl, by decide +kernel, rfl, by decide +kernel, by decide +kernel⟩
abbrev spLaw (K : PySem.W.Frag) (T : List (Addr × Str)) : Sp := fun vs H Q _ => ∃ (a : Addr) (ns : List Int), vs = [.ref a] ∧ SqL K H a (ns.map V.int) ∧ ns.length ≤ 63 ∧ Tabs T H ∧ ∀ H', Q (.bl true) H'
section
variable {P : Program} {w : World} {K : PySem.W.Frag} {mg : Str → Option Value} {base : Heap}
theorem w_life : nameS (fun i => i == 1) = "Life+" := by decide +kernel
theorem r_prop {C : Addr} {sp : Sp} {dvs : List V} {E : XK} {ta : TE} {σ : L2.St} {H : Hp} {Q : VK} (h : ta σ H fun x H1 => ∃ a dx fs, x = .ref a ∧ H1 a = some (.ins C dx fs) ∧ sp (.ref a :: dvs) H1 Q E) : tProp C sp dvs E ta σ H Q := h
theorem ok_law {f C CL CU cR cM cP c2 P2 : Addr} {er : Errs} {cc : Nat → Addr} {T : List (Addr × Str)} {fd : FuncData} (F : FunC K "law" "law" sLaw f fd c2) (L : LawE P w K mg base C CL CU cR cM cP c2 P2 er cc T) : FnOk P w K mg base CX0 9 f fd ["_law_script"] (spLaw K T) := by
  obtain ⟨⟨oc, od, kV, doc, pm, an, ct, osl, rfl, lk, hcd⟩, kp⟩ := F
  obtain ⟨gM, fdM, mkM, FM, bM⟩ := L.mkf.ex
  obtain ⟨gE, fdE, FE, sE, iE, bE⟩ := L.eq.ex
  obtain ⟨gA, FA, mA⟩ := L.ea.ex
  obtain ⟨gL, fdL, FL, sL, iL, bL⟩ := L.lf.ex
  obtain ⟨pT, gT, fdT, oT, FT, bT⟩ := L.pt.ex
  obtain ⟨pI, gI, fdI, oI, FI, bI⟩ := L.pl.ex
  obtain ⟨mc, uM, pY, gY, rC, vM, mY, FY⟩ := L.cl.ex
  refine fn_of lk hcd scLaw (fun vs H Q E h => ?_) (fun A outer s H vs Q E hr h => ?_)
  · obtain ⟨a, ns, rfl, _⟩ := h
    rfl
  · obtain ⟨a, ns, rfl, hS, hn, hT, k⟩ := h
    have hz0 : (0 : Nat) ≤ sizeLine := Nat.zero_le _
    have r1 := Room.mono hr (show 1 ≤ 8 by decide)
    have r2 := Room.mono hr (show 2 ≤ 8 by decide)
    have r3 := Room.mono hr (show 3 ≤ 8 by decide)
    have r4 := Room.mono hr (show 4 ≤ 8 by decide)
    have r5 := Room.mono hr (show 5 ≤ 8 by decide)
    have r6 := Room.mono hr (show 6 ≤ 8 by decide)
    have r7 := Room.mono hr (show 7 ≤ 8 by decide)
    refine ⟨_, pss_cons (ps_for (passes_of rfl) rfl (pi_list (pe_slice sl_list (pe_op op_catSq (pe_lst (pa_cons pe_int pa_nil)) (pv 0)) po_none (po_some pe_int))) (pg_name (i := 1) scLaw.nd rfl (Or.inl rfl))
        (pss_cons (ps_set (i := 2) scLaw.nd rfl (Or.inl rfl) (pe_cal L.dk r1 (by rfl) (E := nE) pass0 (pa_cons (pv 1) (pa_cons pe_int pa_nil))))
        (pss_cons (ps_set (i := 3) scLaw.nd rfl (Or.inl rfl) (pe_op op_add pe_int (pe_cal L.pk r1 (by rfl) (E := nE) pass0 (pa_cons (pv 2) (pa_cons (pe_cal L.on r2 (by rfl) (E := nE) pass0 (pa_cons (pv 2) (pa_cons (pe_lst (pa_cons pe_int (pa_cons pe_int (pa_cons pe_int pa_nil)))) pa_nil))) pa_nil)))))
        (pss_cons (ps_asg (pe_tup (pa_cons (pe_make mkM FM r4 (by rfl) L.gC bM .nil (E := nE) passF (pa_cons (pv 3) pa_nil)) (pa_cons (pe_make mkM FM r4 (by rfl) L.gC bM .nil (E := nE) passF (pa_cons (pv 3) pa_nil)) (pa_cons (pe_lst (pa_cons (pe_tup (pa_cons (pe_tup pa_nil) (pa_cons pe_int pa_nil))) pa_nil)) pa_nil))))
            (pg_tup rfl (pgs_cons (pg_name (i := 10) scLaw.nd rfl (Or.inr rfl)) (pgs_cons (pg_name (i := 4) scLaw.nd rfl (Or.inl rfl)) (pgs_cons (pg_name (i := 5) scLaw.nd rfl (Or.inl rfl)) pgs_nil)))))
        (pss_cons (ps_for (passes_of rfl) rfl (pi_range1 (by rfl) L.ran (pa_cons pe_int pa_nil)) (pg_name (i := 6) scLaw.nd rfl (Or.inl rfl))
          (pss_cons (ps_set (i := 7) scLaw.nd rfl (Or.inl rfl) (pe_cal L.de r3 (by rfl) (E := nE) pass0 (pa_cons (pv 2) (pa_cons (pe_ix ix_list (pv 5) (pe_un un_neg pe_int) (fun _ _ => rfl)) (pa_cons (pv 3) pa_nil)))))
          (pss_cons (ps_par (i := 8) (j := 9) rfl scLaw.nd rfl rfl (by decide) rfl rfl (pa_cons (pe_ix ix_list (pv 5) (pe_un un_neg pe_int) (fun _ _ => rfl)) (pa_cons (pe_cal L.nx r4 (by rfl) (E := nE) pass0 (pa_cons (pv 5) (pa_cons (pv 3) (pa_cons (pv 7) pa_nil)))) pa_nil)) rfl)
          (pss_cons (ps_if (pt_not (pt_truth (pe_cal L.sm r5 (by rfl) (E := nE) pass0 (pa_cons (pe_cal L.do_ hr (by rfl) (E := nE) pass0 (pa_cons (pv 10) (pa_cons (pv 7) pa_nil))) (pa_cons (pv 9) pa_nil))) (fun _ => rfl))) (pss_one (ps_ret pe_bl)) pss_nil)
          (pss_cons (ps_if (pt_truth (pe_callB call_isi (by rfl) L.isi (by decide +kernel) (pa_cons (pv 9) (pa_cons (pe_bltn (v := .ty "tuple") rfl L.tup (by decide +kernel) rfl) pa_nil))) (fun _ => rfl))
              (pss_cons (ps_if (pt_cmpR op_ne (pe_cmpR (op_eqOwn FE r1 sE iE L.eq.tu bE (E := nE) pass0) (pv 10) (pv 4) (nomark _)) (pe_cmpR (op_eqD hr.units) (pe_ix ix_list (pv 5) (pe_un un_neg pe_int) (fun _ _ => rfl)) (pv 8) (nomark _)) (nomark _)) (pss_one (ps_ret pe_bl)) pss_nil)
              (pss_one (ps_expr (pe_cal L.do_ hr (by rfl) (E := nE) pass0 (pa_cons (pv 4) (pa_cons (pv 7) pa_nil)))))) pss_nil)
          (pss_one (ps_if ((pw_or (pt_not (pt_cmpR (op_eqOwn FE r1 sE iE L.eq.tu bE (E := nE) pass0) (pv 10) (pv 4) (nomark _))) (pw_or (pt_cmpR (op_eqOwn FE r1 sE iE L.eq.tu bE (E := nE) pass0) (pv 10) (pe_ix ix_list (pv 5) (pe_un un_neg pe_int) (fun _ _ => rfl)) (nomark _))
              (pw_or1 (pt_not (pt_truth (pe_cal L.ri r6 (by rfl) (E := nE) pass0 (pa_cons (pv 10) (pa_cons (pe_ix ix_list (pv 5) (pe_un un_neg pe_int) (fun _ _ => rfl)) (pa_cons (pv 3) pa_nil)))) (fun _ => rfl)))))).pt) (pss_one (ps_ret pe_bl)) pss_nil)))))))
        (pss_cons (ps_while (passes_of rfl) (pt_cmpR op_gt (pe_callB call_len_seq (by rfl) L.len PySem.boot_len (pa_cons (pv 5) pa_nil)) pe_int (nomark _))
          (pss_cons (ps_expr (pe_bm0 PySem.F.plainAttrs_list PySem.F.slot_list_pop PySem.F.type_list_pop mt_pop (pv 5))) (pss_one (ps_expr (pe_met0 L.un L.ta.cl r1 (E := nE) passF (pv 10))))))
        (pss_one (ps_if ((pw_or (pt_cmpR (op_neOwn FE r2 sE iE L.eq.ne L.eq.ob L.eq.tu bE (E := nE) pass0) (pv 10) (pe_make mkM FM r4 (by rfl) L.gC bM .nil (E := nE) passF (pa_cons (pv 3) pa_nil)) (nomark _))
            (pw_or1 (pt_cmpR op_ne (pe_tryN (T := T) (k := 5) (q0 := ("law" : Str) ++ (".<locals>." : Str)) (t := fun E => tMeth C "undo" (spUndo C CU) [] E (tVar 10) tNil) L.tf L.tc L.cp L.tb (by rfl) (by rfl) L.hm L.hu r7 (lamS_by (sc := defScope sLaw) (by decide +kernel)) (by rfl) (fun _ _ _ _ _ => by rfl)
              (fun A outer s H E f c' hr2 => by exact pe_met0 L.un L.ta.cl (hr2.mono (by decide)) (passN rfl rfl rfl rfl) (pv 10)) (by rfl)) pe_str (nomark _)))).pt) (pss_one (ps_ret pe_bl)) pss_nil))))))))
      (pss_cons (ps_set (i := 10) scLaw.nd rfl (Or.inr rfl) (pe_make mkM FM r4 (by rfl) L.gC bM .nil (E := nE) passF (pa_cons pe_int pa_nil)))
      (pss_cons (ps_if ((pw_or (pt_cmpR op_ne (pe_methR (pv 10) L.ta.cl mA FA r4 (E := nE) passF (pa_cons pe_int pa_nil)) pe_int (nomark _)) (pw_or (pt_cmpR (op_neOwn FE r2 sE iE L.eq.ne L.eq.ob L.eq.tu bE (E := nE) pass0) (pv 10) (pe_make mkM FM r4 (by rfl) L.gC bM .nil (E := nE) passF (pa_cons pe_int pa_nil)) (nomark _)) (pw_or (pt_cmpR op_ne (pe_methR (pv 10) L.ta.cl mA FA r4 (E := nE) passF (pa_cons pe_int pa_nil)) pe_int (nomark _)) (pw_or1 (pt_cmpR (op_eqOwn FE r1 sE iE L.eq.tu bE (E := nE) pass0) (pv 10) (pe_make mkM FM r4 (by rfl) L.gC bM .nil (E := nE) passF (pa_cons pe_int pa_nil)) (nomark _)))))).pt) (pss_one (ps_ret pe_bl)) pss_nil)
      (pss_cons (ps_expr (pe_met0 L.un L.ta.cl r1 (E := nE) passF (pv 10)))
      (pss_cons (ps_if ((pw_or (pt_cmpR (op_neOwn FE r2 sE iE L.eq.ne L.eq.ob L.eq.tu bE (E := nE) pass0) (pv 10) (pe_make mkM FM r4 (by rfl) L.gC bM .nil (E := nE) passF (pa_cons pe_int pa_nil)) (nomark _)) (pw_or1 (pt_cmpR op_ne (pe_callB (call_lenOwn FL r2 sL iL bL (E := nE) pass0) (by rfl) L.len PySem.boot_len (pa_cons (pv 10) pa_nil)) pe_int (nomark _)))).pt) (pss_one (ps_ret pe_bl)) pss_nil)
      (pss_cons (ps_for (passes_of rfl) rfl (pi_list (pe_lst (pa_cons pe_non (pa_cons pe_bl (pa_cons pe_int (pa_cons pe_int (pa_cons pe_str pa_nil))))))) (pg_name (i := 11) scLaw.nd rfl (Or.inr rfl))
        (pss_one (ps_if (pt_cmpR op_ne (pe_tryN (T := T) (k := 5) (q0 := ("law" : Str) ++ (".<locals>." : Str)) (t := fun E => tMake C (spAccInit C CL) [] E (tCons (tVar 11) tNil)) L.tf L.tc L.cp L.tb (by rfl) (by rfl) L.hm L.hu r7 (lamS_by (sc := defScope sLaw) (by decide +kernel)) (by rfl) (fun _ _ _ _ _ => by rfl)
              (fun A outer s H E f c' hr2 => by exact pe_make mkM FM (hr2.mono (by decide)) (by rfl) L.gC bM .nil (passN rfl rfl rfl rfl) (pa_cons (pv 11) pa_nil)) (by rfl)) pe_str (nomark _)) (pss_one (ps_ret pe_bl)) pss_nil)))
      (pss_one (ps_ret (pe_and (pe_cmpR (op_eqD hr.units) (pe_lst (pa_cons (pe_prop (K16.pe_cmeth0 (pe_glob (v := .ref C) (by rfl) L.gC rfl) rC mY FY r5 (E := nE) passF) L.ta.cl oI FI r2 bI .nil (E := nE) pass0 rfl) (pa_cons (ClX.pe_cval (pe_glob (v := .ref C) (by rfl) L.gC rfl)) (pa_cons (pe_prop (pe_make mkM FM r4 (by rfl) L.gC bM .nil (E := nE) passF (pa_cons pe_int pa_nil)) L.ta.cl oT FT r2 bT .nil (E := nE) pass0 rfl) pa_nil)))) (pe_lst (pa_cons pe_int (pa_cons pe_int (pa_cons pe_int pa_nil)))) (nomark _))
        (pe_one (pe_cmpR (op_neOwn FE r2 sE iE L.eq.ne L.eq.ob L.eq.tu bE (E := nE) pass0) (pe_make mkM FM r4 (by rfl) L.gC bM .nil (E := nE) passF (pa_cons pe_int pa_nil)) (pe_make mkM FM r4 (by rfl) L.gC bM .nil (E := nE) passF (pa_cons pe_int pa_nil)) (nomark _))))))))))), ?_⟩
    refine ⟨(by show 1 ≤ sizeLine; decide), fun z hz => ?_⟩
    have kz : Kp [] H (upd H z (.lst [.int 0])) := Kp.new hz
    have ez : upd H z (.lst [.int 0]) z = some (.lst [.int 0]) := upd_same
    have hS1 := sql_kp hS kz
    generalize upd H z (.lst [.int 0]) = H1 at kz ez hS1 ⊢
    refine ⟨_, rfl, z, a, _, _, rfl, rfl, ez, hS1, (by rw [sizeLine_eq, List.length_map]; show 1 + ns.length ≤ _; omega), fun p hp => ?_⟩
    have kp1 : Kp [] H1 (upd H1 p (.lst ([.int 0] ++ ns.map V.int))) := Kp.new hp
    have ep : upd H1 p (.lst ([.int 0] ++ ns.map V.int)) p = some (.lst ([.int 0] ++ ns.map V.int)) := upd_same
    generalize upd H1 p (.lst ([.int 0] ++ ns.map V.int)) = H2 at kp1 ep ⊢
    refine ⟨6, rfl, p, _, rfl, SqL.of ep, fun Ls hLs => ?_⟩
    have hcell : ∀ x ∈ cutV ([.int 0] ++ ns.map V.int) none (some 6), ∃ i : Int, x = .int i := fun x hx => by
      rcases List.mem_append.mp (cut_mem hx) with q | q
      · exact ⟨0, List.mem_singleton.mp q⟩
      · obtain ⟨i, _, e⟩ := List.mem_map.mp q
        exact ⟨i, e.symm⟩
    generalize cutV ([.int 0] ++ ns.map V.int) none (some 6) = cells at hcell ⊢
    have kL : Kp [] H2 (upd H2 Ls (.lst cells)) := Kp.new hLs
    have eL : upd H2 Ls (.lst cells) Ls = some (.lst cells) := upd_same
    have tL := tabs_kp hT ((kz.trans kp1).trans kL) (fun _ z => nomatch z)
    generalize upd H2 Ls (.lst cells) = H3 at kL eL tL ⊢
    refine ⟨Ls, rfl, ⟨_, SqL.of eL⟩, for_it walk_list (fun j σ H4 => (∃ x1 x2 x3 x4 x5 x6 x7 x8 x9 x10 x11 : Option V, σ = [some (.ref a), x1, x2, x3, x4, x5, x6, x7, x8, x9, x10, x11]) ∧ H4 Ls = some (.lst cells) ∧ Tabs T H4)
      ⟨⟨none, none, none, none, none, none, none, none, none, none, none, rfl⟩, eL, tL⟩ (fun j σ H4 _ h => SqL.of h.2.1) ?_ ?_⟩
    · rintro j x σ H4 H4' hj ⟨⟨x1, x2, x3, x4, x5, x6, x7, x8, x9, x10, x11, rfl⟩, hL4, hT4⟩ ⟨rfl, hxj⟩
      obtain ⟨cell, rfl⟩ := hcell x (List.mem_of_getElem? hxj)
      refine ⟨_, rfl, cell, 16, rfl, by decide, fun d H5 k5 hdn hd5 => ?_⟩
      have nLd : Ls ≠ d := ne_of_none hL4 hdn
      have hL5 := k5.all Ls _ (by simp) hL4
      have hT5 := tabs_kp hT4 k5 (fun _ z => nomatch z)
      refine ⟨_, rfl, _, rfl, (by show 3 ≤ sizeLine; decide), fun l hl => one_new (E := nE) hl hd5 (by decide) (by show 0 < 3; decide) (by show 3 ≤ 1000; decide) fun x H6 k6 hd6 hx => ?_⟩
      obtain ⟨lim, rfl, hl0, hl1⟩ : ∃ i : Int, x = .int i ∧ 0 < i ∧ i ≤ 1000 := by
        simp only [List.mem_cons, List.not_mem_nil, or_false] at hx
        rcases hx with rfl | rfl | rfl <;> exact ⟨_, rfl, by decide, by decide⟩
      refine ⟨d, _, lim, rfl, hd6, by decide, hl0, hl1, fun m H7 k7 hd7 hm0 hm1 => ⟨_, _, rfl, rfl, ?_⟩⟩
      have k57 := k6.trans k7
      have hL7 := k57.all Ls _ (by simp [nLd]) hL5
      have hT7 := tabs_kp hT5 k57 (fun b hb => by
        rw [List.mem_singleton.mp hb]
        obtain ⟨_, _, _, e, _⟩ := hd5
        exact .inr (.inr ⟨_, e⟩))
      obtain ⟨span, hspan⟩ : ∃ span : Int, span = 1 + m := ⟨_, rfl⟩
      have hs1 : 1 ≤ span := by omega
      have hs2 : span ≤ 1000 := by omega
      change tSeq (tAsg (tTup (tCons (tMake C (spAccInit C CL) [] nE (tCons (tVar 3) tNil)) (tCons (tMake C (spAccInit C CL) [] nE (tCons (tVar 3) tNil)) (tCons (tLst (tCons (tTup (tCons (tTup tNil) (tCons (tC (.int 0)) tNil))) tNil)) tNil)))) (gTup K 3 (gCons (gName 10) (gCons (gName 4) (gCons (gName 5) gNil))))) _ _ [some (.ref a), some (.int cell), some (.ref d), some (.int (1 + m)), x4, x5, x6, x7, x8, x9, x10, x11] H7
      rw [← hspan]
      refine r_seq (r_asg (r_tup (r_cons (make_t (fun R h => ⟨_, rfl, h⟩) hs1 hs2 fun a1 p1 H8 ha1 hp1 n11 k8 hA1 => ?_))))
      change tCons (tMake C (spAccInit C CL) [] nE (tCons (tVar 3) tNil)) _ _ H8 _
      refine r_cons (make_t (fun R h => ⟨_, rfl, h⟩) hs1 hs2 fun a2 p2 H9 ha2 hp2 n22 k9 hA2 => ?_)
      refine ⟨hz0, fun u0 hu0 => ?_⟩
      have k10 : Kp [] H9 (upd H9 u0 (.tup [])) := Kp.new hu0
      have e10 : upd H9 u0 (.tup []) u0 = some (.tup []) := upd_same
      generalize upd H9 u0 (.tup []) = H10 at k10 e10 ⊢
      refine ⟨(by show 2 ≤ sizeLine; decide), fun u1 hu1 => ?_⟩
      have k11 : Kp [] H10 (upd H10 u1 (.tup [.ref u0, .int 0])) := Kp.new hu1
      have e11 : upd H10 u1 (.tup [.ref u0, .int 0]) u1 = some (.tup [.ref u0, .int 0]) := upd_same
      have e10' := k11.tup u0 _ e10
      generalize upd H10 u1 (.tup [.ref u0, .int 0]) = H11 at k11 e11 e10' ⊢
      refine ⟨(by show 1 ≤ sizeLine; decide), fun S hSn => ?_⟩
      have k12 : Kp [] H11 (upd H11 S (.lst [.ref u1])) := Kp.new hSn
      have e12 : upd H11 S (.lst [.ref u1]) S = some (.lst [.ref u1]) := upd_same
      have e11' := k12.tup u1 _ e11
      have e10'' := k12.tup u0 _ e10'
      have k911 := k10.trans k11
      have nS : ∀ {b : Addr} {o : HO}, H9 b = some o → b ≠ S := fun e => ne_of_none (k911.all _ _ (by simp) e) hSn
      generalize upd H11 S (.lst [.ref u1]) = H12 at k12 e12 e11' e10'' ⊢
      refine ⟨(by show 3 ≤ sizeLine; decide), fun tt htt => ?_⟩
      have k13 : Kp [] H12 (upd H12 tt (.tup [.ref a1, .ref a2, .ref S])) := Kp.new htt
      have k713 := (((k8.trans k9).trans k911).trans k12).trans k13
      have k813 := ((k9.trans k911).trans k12).trans k13
      have k913 := (k911.trans k12).trans k13
      have hd9 : ∃ o, H9 d = some o := by
        obtain ⟨_, _, _, e, _⟩ := hd7
        exact ⟨_, (k8.trans k9).all d _ (by simp) e⟩
      obtain ⟨od, hd9⟩ := hd9
      obtain ⟨dxa, lga, xsa, ea1, _, ep1, _⟩ := id hA1
      obtain ⟨dxb, lgb, xsb, eb1, _, ep2, _⟩ := id hA2
      have hd8 : ∃ o, H8 d = some o := by
        obtain ⟨_, _, _, e, _⟩ := hd7
        exact ⟨_, k8.all d _ (by simp) e⟩
      obtain ⟨od8, hd8⟩ := hd8
      have hd77 : ∃ o, H7 d = some o := by
        obtain ⟨_, _, _, e, _⟩ := hd7
        exact ⟨_, e⟩
      obtain ⟨od7, hd77⟩ := hd77
      have hL8 := k8.all Ls _ (by simp) hL7
      have hL9 := (k8.trans k9).all Ls _ (by simp) hL7
      have TI0 : TI C T Ls cells a1 p1 a2 p2 S d 18 span ([], 0) [] ([], 0) [] ([] ++ [([], 0)]) (upd H12 tt (.tup [.ref a1, .ref a2, .ref S])) := by
        refine ⟨k713.all Ls _ (by simp) hL7, tabs_kp hT7 k713 (fun _ z => nomatch z), hA1.kp k813 (by simp) (by simp), hA2.kp k913 (by simp) (by simp), ⟨[.ref u1], k13.all S _ (by simp) e12, .cons ⟨u1, u0, rfl, k13.tup u1 _ e11', ⟨[], k13.tup u0 _ e10'', .nil⟩⟩ .nil⟩, (hd7.kp k713 (by simp)).mono (by omega), ?_⟩
        have q1 : a1 ≠ a2 := ne_of_none ea1 ha2
        have q2 : Ls ≠ a1 := ne_of_none hL7 ha1
        have q3 : a1 ≠ p2 := ne_of_none ea1 hp2
        have q4 : a1 ≠ S := nS (k9.all a1 _ (by simp) ea1)
        have q5 : d ≠ a1 := ne_of_none hd77 ha1
        have q6 : Ls ≠ a2 := ne_of_none hL8 ha2
        have q7 : p1 ≠ a2 := ne_of_none ep1 ha2
        have q8 : a2 ≠ S := nS eb1
        have q9 : d ≠ a2 := ne_of_none hd8 ha2
        have q10 : Ls ≠ p1 := ne_of_none hL7 hp1
        have q11 : Ls ≠ p2 := ne_of_none hL8 hp2
        have q12 : Ls ≠ S := nS hL9
        have q13 : p1 ≠ p2 := ne_of_none ep1 hp2
        have q14 : p1 ≠ S := nS (k9.all p1 _ (by simp) ep1)
        have q15 : d ≠ p1 := ne_of_none hd77 hp1
        have q16 : p2 ≠ S := nS ep2
        have q17 : d ≠ p2 := ne_of_none hd8 hp2
        have q18 : d ≠ S := nS hd9
        simp [List.nodup_cons, q1, Ne.symm q2, n11, q3, q4, Ne.symm q5, Ne.symm q6, Ne.symm q7, n22, q8, Ne.symm q9, q10, q11, q12, nLd, q13, q14, Ne.symm q15, q16, Ne.symm q17, Ne.symm q18]
      refine ⟨tt, _, rfl, SqT.of upd_same, rfl, _, _, rfl, _, _, rfl, _, _, rfl, rfl, ?_⟩
      generalize upd H12 tt (.tup [.ref a1, .ref a2, .ref S]) = H13 at TI0 ⊢
      clear k13 k713 k813 k913
      refine ⟨70, rfl, by decide, by decide, for_it (walk_range (lo := 0) (n := 70)) (fun j σ H2 => (∃ t6 d7 b8 d9 : Option V, σ = [some (.ref a), some (.int cell), some (.ref d), some (.int span), some (.ref a2), some (.ref S), t6, d7, b8, d9, some (.ref a1), x11]) ∧ ∃ st past, TI C T Ls cells a1 p1 a2 p2 S d (18 + 30 * (j : Nat)) span st past st past (past ++ [st]) H2 ∧ Good span st.2 st.1 ∧ st.1.length ≤ 30 ∧ past.length ≤ j ∧ (∀ s ∈ past, Good span s.2 s.1 ∧ s.1.length ≤ 30) ∧ (past ++ [st]).head? = some ([], 0))
        ⟨⟨x6, x7, x8, x9, rfl⟩, ([], 0), [], TI0, good_nil (by decide), (by decide), Nat.le_refl _, (fun _ h => nomatch h), rfl⟩ (fun _ _ _ _ _ => trivial) ?_ ?_⟩
      · rintro j x σ H14 H14' hj ⟨⟨t6, d7, b8, d9, rfl⟩, st, past, ti, hg, hl30, hpl, hgp, hhd⟩ ⟨rfl, rfl⟩
        obtain ⟨xs, hS14, hst14⟩ := ti.sts
        have hxl : xs.length = past.length + 1 := by rw [Paired.length hst14]; simp
        obtain ⟨x, hx, hxs⟩ := paired_g hst14 (i := past.length) (c := st) (by simp)
        refine ⟨_, rfl, _, rfl, 1, rfl, S, xs, -1, x, rfl, rfl, SqL.of hS14, atI_neg1 hxl hx, _, rfl, d, x, st, _, span, rfl, ti.deck, by omega, hxs, hg, by omega, fun de u H15 k15 hd15 hde => ?_⟩
        have ti15 := ti.deckd k15 (hd15.mono (show _ ≤ 18 + 30 * ((j + 1 : Nat) : Int) by omega))
        obtain ⟨xs15, hS15, hst15⟩ := ti15.sts
        have hxl15 : xs15.length = past.length + 1 := by rw [Paired.length hst15]; simp
        obtain ⟨y, hy, hys⟩ := paired_g hst15 (i := past.length) (c := st) (by simp)
        obtain ⟨ty, lgy, rfl, hty, hlgy⟩ := id hys
        -- what stood before the deed is no list of the deed's
        have hne : ∀ z ∈ [a1, p1], H14' z ≠ none := fun z hz => by
          obtain ⟨_, _, _, e1, _, e2, _⟩ := ti.acc
          have : z = a1 ∨ z = p1 := by simpa using hz
          rcases this with rfl | rfl
          · rw [e1]; simp
          · rw [e2]; simp
        have hnS : ∀ z ∈ [S], H14' z ≠ none := fun z hz => by
          rw [List.mem_singleton.mp hz, hS14]; simp
        refine ⟨_, rfl, 1, rfl, S, xs15, -1, .ref ty, rfl, rfl, SqL.of hS15, atI_neg1 hxl15 hy, _, rfl, _, rfl, _, rfl, S, .ref u, span, st, past, xs15, de, H14', rfl, hS15, hst15, hde, hg, hl30, by omega, ?_⟩
        have goDo : ∀ {Q2 : VK} {H2 : Hp}, AccAt C H2 a1 p1 span st past → DeedAt H14' H2 (.ref u) de → Tabs T H2 → DoP C T a1 p1 span past st H2 Q2 (nextM span past st de) → spDo C T [.ref a1, .ref u] H2 Q2 nE := fun h1 h2 h3 h4 => ⟨a1, p1, .ref u, span, st, past, de, H14', rfl, h1, h2, h3, hg, hl30, by omega, h4⟩
        have goDo2 : ∀ {Q2 : VK} {H2 : Hp}, AccAt C H2 a2 p2 span st past → DeedAt H14' H2 (.ref u) de → Tabs T H2 → DoP C T a2 p2 span past st H2 Q2 (nextM span past st de) → spDo C T [.ref a2, .ref u] H2 Q2 nE := fun h1 h2 h3 h4 => ⟨a2, p2, .ref u, span, st, past, de, H14', rfl, h1, h2, h3, hg, hl30, by omega, h4⟩
        refine nx_in (C := C) (T := T) hg hl30 hgp (fun wd e H16 k16 => ?_) (fun stA pA v dv u' H16 xs16 td k16 hS16 hst16 hu16 => ?_)
        · have ti16 := ti15.keep0 k16
          refine ⟨_, _, rfl, ?_⟩
          refine ⟨_, rfl, _, rfl, goDo ti16.acc (hde.kp k16 (fun _ h => nomatch h)) ti16.tabs (by
            rw [e]
            intro H17 kn t17
            have ti17 := ti16.keep kn t17
            refine ⟨_, rfl, .str wd, .str wd, .str wd, rfl, .str _, .str _, word_lay e, fun H18 k18 => ⟨true, rfl, iteF ?_⟩⟩
            have ti18 := ti17.keep0 k18
            refine ⟨_, rfl, _, _, _, _, false, rfl, .ty _, .base (.str _), by with_unfolding_all rfl, _, rfl, iteF ?_⟩
            exact fin_check ti18 hg hl30 fun H19 k19 => ⟨⟨_, _, _, _, rfl⟩, st, past, ti18.keep0 k19, hg, hl30, by omega, hgp, hhd⟩)⟩
        · have ti16 := ti15.stsd (sl' := pA ++ [stA]) k16 ⟨xs16, hS16, hst16⟩
          have hde16 := hde.kp k16 hnS
          have hys16 := hys.kp k16
          refine ⟨_, _, rfl, ?_⟩
          refine ⟨_, rfl, _, rfl, goDo ti16.acc hde16 ti16.tabs (td.dop _ _ _ _ fun r H17 kn17 t17 hA17 hr17 => ?_)⟩
          have ti17 := ti16.accd kn17 t17 hA17
          have hde17 := hde16.kpn kn17 hne
          have hys17 := hys16.tk kn17.tup
          have hu17 := kn17.tup u' _ hu16
          refine ⟨_, rfl, .ref r, .ref u', .tuple [.str "told", dv], rfl, .tup hr17 (.cons (.str _) (.cons (td.da _) .nil)), .tup hu17 (.cons (.str _) (.cons (td.da _) .nil)), (fun dd hd => ?_), fun H18 k18 => ⟨true, rfl, iteF ?_⟩⟩
          · have : dd = .str "told" ∨ dd = dv := by simpa using hd
            rcases this with rfl | rfl
            · show (PyData.str "told").canLay0 = true
              decide +kernel
            · exact td.sd
          have ti18 := ti17.keep0 k18
          have hde18 := hde17.kp k18 (fun _ h => nomatch h)
          have hys18 := hys17.kp k18
          have hu18 := k18.tup u' _ hu17
          refine ⟨_, rfl, _, _, _, _, true, rfl, .ty _, .base (.tup hu18), by with_unfolding_all rfl, _, rfl, iteT ?_⟩
          obtain ⟨dxa, lga8, xsa8, ha18, _⟩ := id ti18.acc
          obtain ⟨dxb, lgb8, xsb8, hb18, _⟩ := id ti18.oth
          refine ⟨_, rfl, _, rfl, a1, dxa, _, rfl, ha18, ⟨a2, rfl, .inl ⟨_, _, hb18⟩⟩, a1, a2, p1, span, stA, pA, rfl, ti18.acc, .inl ⟨p2, span, st, past, ti18.oth, fun H19 kb k19 hk => ⟨kb, rfl, ?_⟩⟩⟩
          have ti19 := ti18.keep0 k19
          obtain ⟨xs19, hS19, hst19⟩ := ti19.sts
          have hxl19 : xs19.length = pA.length + 1 := by rw [Paired.length hst19]; simp
          obtain ⟨z19, hz19, hzs19⟩ := paired_g hst19 (i := pA.length) (c := stA) (by simp)
          refine ⟨_, rfl, 1, rfl, S, xs19, -1, z19, rfl, rfl, SqL.of hS19, atI_neg1 hxl19 hz19, _, rfl, dSt stA, dSt st, dp_st hzs19, dp_st (hys18.kp k19), (sh_dSt _).shaped (by decide), (sh_dSt _).shaped (by decide), rfl, _, rfl, ?_⟩
          have hkb : kb = PyData.eqv (dSt stA) (dSt st) := by
            have h2 := eqv_dSt stA st
            cases hq : PyData.eqv (dSt stA) (dSt st) with
            | true => exact hk.mpr ⟨rfl, h2.mp hq⟩
            | false =>
              cases kb with
              | false => rfl
              | true => rw [h2.mpr (hk.mp rfl).2] at hq; cases hq
          have hfin : (!decide (V.bl kb = V.bl (PyData.eqv (dSt stA) (dSt st)))) = false := by rw [hkb, decide_eq_true rfl]; rfl
          refine (show (if (!decide (V.bl kb = V.bl (PyData.eqv (dSt stA) (dSt st)))) = true then _ else _) from ?_)
          rw [hfin]
          refine iteF ?_
          refine ⟨_, rfl, _, rfl, goDo2 ti19.oth (hde18.kp k19 (fun _ h => nomatch h)) ti19.tabs (td.dop _ _ _ _ fun r2 H20 kn20 t20 hB20 hr20 => ?_)⟩
          have ti20 := ti19.othd kn20 t20 hB20
          exact fin_check ti20 td.good td.len fun H21 k21 => ⟨⟨_, _, _, _, rfl⟩, stA, pA, ti20.keep0 k21, td.good, td.len, by have := td.plen; omega, td.goods, td.head.trans hhd⟩
      · rintro σ H14 ⟨⟨t6, d7, b8, d9, rfl⟩, st, past, ti, hg, hl30, hpl, hgp, hhd⟩
        refine ⟨fun μ σ H2 => σ = [some (.ref a), some (.int cell), some (.ref d), some (.int span), some (.ref a2), some (.ref S), t6, d7, b8, d9, some (.ref a1), x11] ∧ ∃ st' past', μ = past'.length ∧ TI C T Ls cells a1 p1 a2 p2 S d (18 + 30 * ((70 : Nat) : Int)) span st' past' st past (past' ++ [st']) H2 ∧ (past' ++ [st']).head? = some ([], 0),
          ⟨past.length, rfl, st, past, rfl, ti, hhd⟩, ?_⟩
        rintro μ σ H15 ⟨rfl, st', past', rfl, ti', hh'⟩
        obtain ⟨xs, hS15, hst15⟩ := ti'.sts
        have hxl : xs.length = past'.length + 1 := by rw [Paired.length hst15]; simp
        refine ⟨_, rfl, S, xs, rfl, .inl (SqL.of hS15), _, _, rfl, rfl, _, rfl, ?_⟩
        obtain ⟨dx15, lg15, xp15, ha15, _⟩ := id ti'.acc
        rcases List.eq_nil_or_concat past' with rfl | ⟨pst, s2, rfl⟩
        · rw [decide_eq_false (by rw [hxl]; simp)]
          refine iteF ?_
          obtain rfl : st' = ([], 0) := by
            have h : some st' = some (([] : List Ev), (0 : Int)) := hh'
            exact Option.some.inj h
          refine ⟨_, rfl, ?_⟩
          change tMake C (spAccInit C CL) [] nE (tCons (tVar 3) tNil) _ H15 _
          refine make_t (fun R h => ⟨_, rfl, h⟩) hs1 hs2 fun a3 p3 H16 ha3 hp3 n33 k16 hA3 => ?_
          have ti16 := ti'.keep0 k16
          obtain ⟨dx3, lg3, xp3, e3, _⟩ := id hA3
          refine ⟨a1, dx15, _, rfl, k16.all a1 _ (by simp) ha15, ⟨a3, rfl, .inl ⟨_, _, e3⟩⟩, a1, a3, p1, span, ([], 0), [], rfl, ti16.acc, .inl ⟨p3, span, ([], 0), [], hA3, fun H17 kb k17 hk => ?_⟩⟩
          obtain rfl : kb = true := hk.mpr ⟨rfl, rfl⟩
          have ti17 := ti16.keep0 k17
          refine ⟨true, rfl, false, rfl, iteF ?_⟩
          refine ⟨ti17.tabs, fun H18 e18 t18 E' Q' hE' hQ' => ?_⟩
          have ti18 := ti17.keep (KpN.ext e18) t18
          obtain ⟨dx18, lg18, xp18, ha18, _⟩ := id ti18.acc
          refine ⟨_, rfl, a1, dx18, _, rfl, ha18, rfl, a1, p1, span, ([], 0), [], rfl, ti18.acc, fun _ H19 k19 => hE' _ _ _ ⟨_, 9, false, rfl, L.et.undo, (fun _ z => by cases z), fun _ H20 k20 => ?_, fun z => by cases z⟩, fun pst st' h => absurd (congrArg List.length h) (by simp)⟩
          have ti20 := (ti18.keep0 k19).keep0 k20
          rw [w_undo]
          exact ⟨rfl, _, rfl, iteF ⟨⟨_, _, _, _, _, _, _, _, _, _, _, rfl⟩, ti20.ls, ti20.tabs⟩⟩
        · rw [List.concat_eq_append] at *
          rw [decide_eq_true (by rw [hxl, List.length_append, List.length_singleton]; omega)]
          refine iteT ⟨_, fun σ' H' hN => hN, ?_⟩
          obtain ⟨x, hx, hxs⟩ := paired_g hst15 (i := (pst ++ [s2]).length) (c := st') (by simp)
          refine ⟨_, rfl, .inl ⟨rfl, _, SqL.of hS15⟩, S, xs, x, rfl, rfl, hS15, by rw [hxl]; exact hx, ?_⟩
          have k16 : Kp [S] H15 (upd H15 S (.lst xs.dropLast)) := Kp.set hS15 (by simp) lst_tup
          have ti16 := ti'.stsd (sl' := pst ++ [s2]) k16 ⟨_, upd_same, (sts_drop _ _ _ hst15).kp k16⟩
          obtain ⟨dx16, lg16, xp16, ha16, _⟩ := id ti16.acc
          refine ⟨_, rfl, a1, dx16, _, rfl, ha16, rfl, a1, p1, span, st', pst ++ [s2], rfl, ti16.acc, fun h => absurd (congrArg List.length h) (by simp), fun pst2 st2 h H17 k17 hA17 => ?_⟩
          obtain ⟨e1, e2⟩ := List.append_inj' h rfl
          cases e2
          subst e1
          exact ⟨pst.length, by rw [List.length_append]; exact Nat.lt_succ_self _, rfl, s2, pst, rfl, ti16.accd (.of k17) (tabs_kp ti16.tabs k17 (acc_S ti16.acc)) hA17, by rw [← hh']; cases pst <;> rfl⟩
    · rintro σ H4 ⟨⟨x1, x2, x3, x4, x5, x6, x7, x8, x9, x10, x11, rfl⟩, hL4, hT4⟩
      change tSeq (tAsg (tMake C (spAccInit C CL) [] nE (tCons (tC (.int 5)) tNil)) (gName 10)) _ _ _ H4
      refine r_seq (r_asg (make_t (fun R h => h) (by decide) (by decide) fun a1 p1 H5 ha1 hp1 n11 k5 hA1 => ?_))
      have hT5 := tabs_kp hT4 k5 (fun _ z => nomatch z)
      obtain ⟨dx5, lg5, xp5, e5, _⟩ := id hA1
      refine ⟨_, rfl, a1, dx5, _, rfl, e5, rfl, [.ref a1, .int 0], [], rfl, rfl, hz0, fun p hp => ⟨a1, p1, p, 5, ([], 0), [], .int 0, [], rfl, upd_same, hA1.kp (Kp.new (S := []) hp) (by simp) (by simp), rfl, (fun _ h => nomatch h), by decide, good_nil (by decide), by decide, by decide, ?_⟩⟩
      have kp5 : Kp [] H5 (upd H5 p (.tup [])) := Kp.new hp
      have hT5' := tabs_kp hT5 kp5 (fun _ z => nomatch z)
      have hA5' := hA1.kp kp5 (by simp) (by simp)
      generalize upd H5 p (.tup []) = H5' at kp5 hT5' hA5' ⊢
      intro H6 k6 hA6
      have hT6 := tabs_kp hT5' k6 (acc_S hA5')
      refine ⟨rfl, _, rfl, iteF ?_⟩
      refine ⟨_, rfl, ?_⟩
      change tMake C (spAccInit C CL) [] nE (tCons (tC (.int 5)) tNil) _ H6 _
      refine make_t (fun R h => h) (by decide) (by decide) fun a2 p2 H7 ha2 hp2 n22 k7 hA2 => ?_
      obtain ⟨dx6, lg6, xp6, e6, _⟩ := id hA6
      obtain ⟨dxb, lgb, xpb, eb, _⟩ := id hA2
      have hA7 := hA6.kp k7 (by simp) (by simp)
      have hT7 := tabs_kp hT6 k7 (fun _ z => nomatch z)
      refine ⟨a1, dx6, _, rfl, k7.all a1 _ (by simp) e6, ⟨a2, rfl, .inl ⟨_, _, eb⟩⟩, a1, a2, p1, 5, ([], 0), [([], 0)], rfl, hA7, .inl ⟨p2, 5, ([], 0), [], hA2, fun H8 kb k8 hk => ?_⟩⟩
      obtain rfl : kb = true := hk.mpr ⟨rfl, rfl⟩
      refine ⟨true, rfl, false, rfl, iteF ?_⟩
      have hA8 := hA7.kp k8 (by simp) (by simp)
      have hT8 := tabs_kp hT7 k8 (fun _ z => nomatch z)
      obtain ⟨dx8, lg8, xp8, e8, _⟩ := id hA8
      refine ⟨_, rfl, a1, dx8, _, rfl, e8, rfl, [.ref a1, .int 5], [], rfl, rfl, hz0, fun p hp => ⟨a1, p1, p, 5, ([], 0), [([], 0)], .int 5, [], rfl, upd_same, hA8.kp (Kp.new (S := []) hp) (by simp) (by simp), rfl, (fun _ h => nomatch h), by decide, good_nil (by decide), by decide, by decide, ?_⟩⟩
      have kp8 : Kp [] H8 (upd H8 p (.tup [])) := Kp.new hp
      have hT8' := tabs_kp hT8 kp8 (fun _ z => nomatch z)
      have hA8' := hA8.kp kp8 (by simp) (by simp)
      generalize upd H8 p (.tup []) = H8' at kp8 hT8' hA8' ⊢
      intro H9 k9 hA9
      have hT9 := tabs_kp hT8' k9 (acc_S hA8')
      refine ⟨rfl, _, rfl, iteF ?_⟩
      refine ⟨_, rfl, ?_⟩
      change tMake C (spAccInit C CL) [] nE (tCons (tC (.int 5)) tNil) _ H9 _
      refine make_t (fun R h => h) (by decide) (by decide) fun a3 p3 H10 ha3 hp3 n33 k10 hA3 => ?_
      obtain ⟨dx9, lg9, xp9, e9, _⟩ := id hA9
      obtain ⟨dxc, lgc, xpc, ec, _⟩ := id hA3
      have hA10 := hA9.kp k10 (by simp) (by simp)
      have hT10 := tabs_kp hT9 k10 (fun _ z => nomatch z)
      refine ⟨a1, dx9, _, rfl, k10.all a1 _ (by simp) e9, ⟨a3, rfl, .inl ⟨_, _, ec⟩⟩, a1, a3, p1, 5, ([], 5), [([], 0)] ++ [([], 0)], rfl, hA10, .inl ⟨p3, 5, ([], 0), [], hA3, fun H11 kb k11 hk => ?_⟩⟩
      obtain rfl : kb = false := by
        cases kb with
        | false => rfl
        | true => exact absurd (congrArg Prod.snd (hk.mp rfl).2) (by decide)
      refine ⟨false, rfl, false, rfl, iteF ?_⟩
      have hA11 := hA10.kp k11 (by simp) (by simp)
      have hT11 := tabs_kp hT10 k11 (fun _ z => nomatch z)
      obtain ⟨dx11, lg11, xp11, e11, _⟩ := id hA11
      refine ⟨_, rfl, a1, dx11, _, rfl, e11, rfl, a1, p1, 5, ([], 5), [([], 0)] ++ [([], 0)], rfl, hA11, fun h => absurd (congrArg List.length h) (by simp), fun pst st' h H12 k12 hA12 => ?_⟩
      obtain ⟨h1, h2⟩ := List.append_inj' h rfl
      cases h2
      subst h1
      have hT12 := tabs_kp hT11 k12 (acc_S hA11)
      refine ⟨_, rfl, ?_⟩
      change tMake C (spAccInit C CL) [] nE (tCons (tC (.int 5)) tNil) _ H12 _
      refine make_t (fun R h => h) (by decide) (by decide) fun a4 p4 H13 ha4 hp4 n44 k13 hA4 => ?_
      obtain ⟨dx12, lg12, xp12, e12, _⟩ := id hA12
      obtain ⟨dxd, lgd, xpd, ed, _⟩ := id hA4
      have hA13 := hA12.kp k13 (by simp) (by simp)
      have hT13 := tabs_kp hT12 k13 (fun _ z => nomatch z)
      refine ⟨a1, dx12, _, rfl, k13.all a1 _ (by simp) e12, ⟨a4, rfl, .inl ⟨_, _, ed⟩⟩, a1, a4, p1, 5, ([], 0), [([], 0)], rfl, hA13, .inl ⟨p4, 5, ([], 0), [], hA4, fun H14 kb k14 hk => ?_⟩⟩
      obtain rfl : kb = true := hk.mpr ⟨rfl, rfl⟩
      refine ⟨true, rfl, false, rfl, iteF ?_⟩
      have hA14 := hA13.kp k14 (by simp) (by simp)
      have hT14 := tabs_kp hT13 k14 (fun _ z => nomatch z)
      obtain ⟨dx14, lg14, xp14, e14, _⟩ := id hA14
      refine ⟨_, rfl, a1, dx14, _, rfl, e14, a1, p1, 5, ([], 0), [([], 0)], rfl, hA14, _, rfl, by decide, by decide, rfl, _, rfl, iteF ?_⟩
      refine ⟨(by show 5 ≤ sizeLine; decide), fun lo hlo => ?_⟩
      have k15 : Kp [] H14 (upd H14 lo (.lst [.non, .bl true, .int 0, .int 1001, .str "1"])) := Kp.new hlo
      have e15 : upd H14 lo (.lst [.non, .bl true, .int 0, .int 1001, .str "1"]) lo = some (.lst [.non, .bl true, .int 0, .int 1001, .str "1"]) := upd_same
      have hT15 := tabs_kp hT14 k15 (fun _ z => nomatch z)
      generalize upd H14 lo (.lst [.non, .bl true, .int 0, .int 1001, .str "1"]) = H15 at k15 e15 hT15 ⊢
      refine ⟨lo, rfl, ⟨_, SqL.of e15⟩, for_it walk_list (fun j σ H2 => (∃ y1 y2 y3 y4 y5 y6 y7 y8 y9 y10 y11 : Option V, σ = [some (.ref a), y1, y2, y3, y4, y5, y6, y7, y8, y9, y10, y11]) ∧ H2 lo = some (.lst [.non, .bl true, .int 0, .int 1001, .str "1"]) ∧ Tabs T H2)
        ⟨⟨_, _, _, _, _, _, _, _, _, _, _, rfl⟩, e15, hT15⟩ (fun j σ H2 _ h => SqL.of h.2.1) ?_ ?_⟩
      · rintro j x σ H16 H16' hj ⟨⟨y1, y2, y3, y4, y5, y6, y7, y8, y9, y10, y11, rfl⟩, hlo16, hT16⟩ ⟨rfl, hxj⟩
        have hx : flat4 x = true ∧ isFrom x 1 1000 = false := by
          have := List.mem_of_getElem? hxj
          simp only [List.mem_cons, List.not_mem_nil, or_false] at this
          rcases this with rfl | rfl | rfl | rfl | rfl <;> exact ⟨rfl, by decide +kernel⟩
        refine ⟨hT16, fun H18 e18 t18 E' Q' hE' hQ' => ?_⟩
        have hlo18 := e18 lo _ hlo16 (fun _ z => by cases z)
        refine ⟨_, rfl, fun xx dx hxx hdx hne => ⟨xx, dx, x, rfl, upd_same, hx.1, fun span e hf => absurd hf (by rw [hx.2]; decide), fun _ => hE' _ _ _ ⟨_, 1, false, rfl, L.li, (fun _ z => by cases z), fun _ H20 k20 => ?_, fun z => by cases z⟩⟩⟩
        have k18 : Kp [] H18 (upd (upd H18 dx (.own xx)) xx (.ins C dx [])) := (Kp.new hdx).trans (Kp.new (by rw [upd_ne (Ne.symm hne)]; exact hxx))
        have kk := k18.trans k20
        rw [w_life]
        exact ⟨rfl, _, rfl, iteF ⟨⟨_, _, _, _, _, _, _, _, _, _, _, rfl⟩, kk.all lo _ (by simp) hlo18, tabs_kp t18 kk (fun _ z => nomatch z)⟩⟩
      · rintro σ H16 ⟨⟨y1, y2, y3, y4, y5, y6, y7, y8, y9, y10, y11, rfl⟩, hlo16, hT16⟩
        refine ⟨rfl, rfl, fun H17 aY pY haY k17 hAY => ?_⟩
        obtain ⟨dxY, lgY, xpY, eY, _⟩ := id hAY
        refine ⟨aY, dxY, _, rfl, eY, aY, dxY, _, _, rfl, eY, fl_span, C, mc, .int 30, uM, rfl, rC, vM, ?_⟩
        change tCons (tProp C (getSp C "now") [] nE (tMake C (spAccInit C CL) [] nE (tCons (tC (.int 5)) tNil))) tNil _ H17 _
        refine r_cons (r_prop (make_t (fun R h => h) (by decide) (by decide) fun a5 p5 H18 ha5 hp5 n55 k18 hA5 => ?_))
        obtain ⟨dx5', lg5', xp5', e5', _⟩ := id hA5
        refine ⟨a5, dx5', _, rfl, e5', a5, dx5', _, _, rfl, e5', fl_now, (by show 3 ≤ sizeLine; decide), fun l1 hl1 => ?_⟩
        have k19 : Kp [] H18 (upd H18 l1 (.lst [.int 365, .int 30, .int 0])) := Kp.new hl1
        have el1 : upd H18 l1 (.lst [.int 365, .int 30, .int 0]) l1 = some (.lst [.int 365, .int 30, .int 0]) := upd_same
        generalize upd H18 l1 (.lst [.int 365, .int 30, .int 0]) = H19 at k19 el1 ⊢
        refine ⟨(by show 3 ≤ sizeLine; decide), fun l2 hl2 => ?_⟩
        have k20 : Kp [] H19 (upd H19 l2 (.lst [.int 365, .int 30, .int 0])) := Kp.new hl2
        have el2 : upd H19 l2 (.lst [.int 365, .int 30, .int 0]) l2 = some (.lst [.int 365, .int 30, .int 0]) := upd_same
        have el1' := k20.all l1 _ (by simp) el1
        generalize upd H19 l2 (.lst [.int 365, .int 30, .int 0]) = H20 at k20 el2 el1' ⊢
        have shp : SeqAt.shaped (.list [.int 365, .int 30, .int 0]) = true := (sh_list (n := 1) fun d hd => by
          have : d = .int 365 ∨ d = .int 30 ∨ d = .int 0 := by simpa using hd
          rcases this with q | q | q <;> (rw [q]; exact sh_int _)).shaped (by decide)
        have eq1 : PyData.eqv (.list [.int 365, .int 30, .int 0]) (.list [.int 365, .int 30, .int 0]) = true := by simp [PyData.eqv, PyData.eqvAll]
        refine ⟨.list [.int 365, .int 30, .int 0], .list [.int 365, .int 30, .int 0], .lst (SqL.of el1') (.cons (.int _) (.cons (.int _) (.cons (.int _) .nil))), .lst (SqL.of el2) (.cons (.int _) (.cons (.int _) (.cons (.int _) .nil))), shp, shp, _, rfl, ?_⟩
        rw [eq1]
        refine iteT ?_
        change tMake C (spAccInit C CL) [] nE (tCons (tC (.int 5)) tNil) _ H20 _
        refine make_t (fun R h => h) (by decide) (by decide) fun a6 p6 H21 ha6 hp6 n66 k21 hA6' => ?_
        change tMake C (spAccInit C CL) [] nE (tCons (tC (.int 6)) tNil) _ H21 _
        refine make_t (fun R h => h) (by decide) (by decide) fun a7 p7 H22 ha7 hp7 n77 k22 hA7' => ?_
        obtain ⟨dxf, lgf, xpf, ef, _⟩ := id (hA6'.kp k22 (by simp) (by simp))
        obtain ⟨dxg, lgg, xpg, eg, _⟩ := id hA7'
        refine ⟨a6, dxf, _, rfl, ef, ⟨a7, rfl, .inl ⟨_, _, eg⟩⟩, a6, a7, p6, 5, ([], 0), [], rfl, hA6'.kp k22 (by simp) (by simp), .inl ⟨p7, 6, ([], 0), [], hA7', fun H23 kb k23 hk => ?_⟩⟩
        obtain rfl : kb = false := by
          cases kb with
          | false => rfl
          | true => exact absurd (hk.mp rfl).1 (by decide)
        exact ⟨false, rfl, k H23⟩
end
end K16
-- part KFact
set_option Elab.async false
set_option linter.all false
set_option maxRecDepth 100000
set_option maxHeartbeats 1000000
/-! facts as Bools -/
namespace K16
open PySem PySem.Spec PyProof.Rows L2 He
def oexClsB (K : PySem.W.Frag) (C : Addr) : Bool := match K.lookup C with
  | some ⟨.type c, _, .cls cd, sl⟩ => decide (c = "type") && ((match cd.mro with
    | m :: bm => decide (m = .ref C) && PySem.HandSPX.refsVE bm
    | [] => false) && (cd.hasDict && (!cd.hasDel && (match sl.toList with
    | [_, _, _, _, some (.builtin id), _] => decide (id = "ValueError.__new__")
    | _ => false))))
  | _ => false
theorem oexCls_ok {K : PySem.W.Frag} {C : Addr} (h : oexClsB K C = true) : ∃ nm q N bs bm sn sub ab col dd k0 k1 k2 k3 k5, K.lookup C = some (excClassObj nm q C N bs bm true sn sub ab col dd k0 k1 k2 k3 k5 "ValueError.__new__") ∧ PySem.HandSPX.refsVE bm = true := by
  unfold oexClsB at h
  cases q : K.lookup C with
  | none => rw [q] at h; cases h
  | some o =>
    obtain ⟨oc, od, dt, sl⟩ := o
    rw [q] at h
    cases oc with
    | type c =>
      cases dt with
      | cls cd =>
        obtain ⟨h1, h2⟩ := ba h
        obtain ⟨h3, h4⟩ := ba h2
        obtain ⟨h5, h6⟩ := ba h4
        obtain ⟨h7, h8⟩ := ba h6
        obtain ⟨nm, bs, mro, N, qn, hd, sn, sub, ab, col, hdel⟩ := cd
        dsimp only at h3 h5 h7
        cases mro with
        | nil => cases h3
        | cons m bm =>
          obtain ⟨h9, h10⟩ := ba h3
          obtain rfl := of_decide_eq_true h9
          obtain rfl := of_decide_eq_true h1
          subst h5
          have h7 : hdel = false := by cases hdel <;> simp_all
          subst h7
          obtain ⟨sl⟩ := sl
          dsimp only at h8
          match sl, h8 with
          | [k0, k1, k2, k3, some (.builtin id), k5], h8 =>
            obtain rfl := of_decide_eq_true h8
            exact ⟨nm, qn, N, bs, bm, sn, sub, ab, col, od, k0, k1, k2, k3, k5, rfl, h10⟩
      | _ => cases h
    | _ => cases dt <;> cases h
def excCB (K : PySem.W.Frag) (D : Addr) : Bool := eqO (PySem.W.findIn K (.ref D) "__getattribute__") (some (some (.builtin "BaseException.__getattribute__"))) && (eqO (PySem.W.findIn K (.ref D) "__getattr__") (some none) && (decide (PySem.W.subIn K (.ref D) (.type "BaseException") = some true) && (PySem.W.hasDictIn K D &&
  (eqO (PySem.W.findIn K (.ref D) "__class__") (some (some (.builtin "object.__class__"))) && (eqO (PySem.W.specialIn K (.builtin "object.__class__") "__get__") (some (some (.builtin "getset_descriptor.__get__"))) && (decide (PySem.W.takesIn K (.builtin "object.__class__") = some true) && decide (PySem.W.mroIn K D (.type "object") = some true)))))))
theorem excC_ok {K : PySem.W.Frag} {D : Addr} (h : excCB K D = true) : ExcC K D := by
  obtain ⟨h1, h⟩ := ba h
  obtain ⟨h2, h⟩ := ba h
  obtain ⟨h3, h⟩ := ba h
  obtain ⟨h4, h⟩ := ba h
  obtain ⟨h5, h⟩ := ba h
  obtain ⟨h6, h⟩ := ba h
  obtain ⟨h7, h8⟩ := ba h
  exact ⟨eqO_ok h1, eqO_ok h2, of_decide_eq_true h3, h4, eqO_ok h5, eqO_ok h6, of_decide_eq_true h7, of_decide_eq_true h8⟩
/-- the error classes, in the law's order -/
def ccK (K : PySem.W.Frag) : Nat → Addr
  | 0 => ga K "InvalidLog"
  | 1 => ga K "InvalidLife"
  | 2 => ga K "InvalidTime"
  | 3 => ga K "InvalidAmount"
  | 4 => ga K "InvalidIndex"
  | 5 => ga K "InvalidChoice"
  | 6 => ga K "InvalidSeen"
  | 7 => ga K "InvalidNumber"
  | 8 => ga K "NotEnough"
  | 9 => ga K "NothingToUndo"
  | 10 => ga K "Refused"
  | 11 => ga K "TooMany"
  | _ => 0
def nameB (K : PySem.W.Frag) (D : Addr) (n : Nat) : Bool := excCB K D && ((List.range 12).all (fun i => decide (PySem.W.kitOne K (.ref D) (.ref (ccK K i)) = some (i == n))) && decide (PySem.W.kitOne K (.ref D) (.type "ValueError") = some true))
theorem name_ok {K : PySem.W.Frag} {D : Addr} {n : Nat} (h : nameB K D n = true) : NameT K (ccK K) D (fun i => i == n) := by
  obtain ⟨h1, h⟩ := ba h
  obtain ⟨h2, h3⟩ := ba h
  have k : ∀ i, i < 12 → PySem.W.kitOne K (.ref D) (.ref (ccK K i)) = some (i == n) := fun i hi => of_decide_eq_true (List.all_eq_true.mp h2 i (List.mem_range.mpr hi))
  exact ⟨excC_ok h1, k 0 (by decide), k 1 (by decide), k 2 (by decide), k 3 (by decide), k 4 (by decide), k 5 (by decide), k 6 (by decide), k 7 (by decide), k 8 (by decide), k 9 (by decide), k 10 (by decide), k 11 (by decide), of_decide_eq_true h3⟩
def errB (K : PySem.W.Frag) (D : Addr) (n : Nat) (many : Bool) : Bool := nameB K D n && (decide (PySem.W.exmOne K (.ref D) (.ref (ga K "Refused")) = some false) && (decide (PySem.W.exmOne K (.ref D) (.ref (ga K "TooMany")) = some many) && decide (PySem.W.exmOne K (.ref D) (.ref (ga K "PointError")) = some true)))
theorem err_ok {K : PySem.W.Frag} {D : Addr} {n : Nat} {many : Bool} (hn : n < 12) (h : errB K D n many = true) : ErrD K (ccK K) (ga K "Refused") (ga K "TooMany") (ga K "PointError") D n many := by
  obtain ⟨h1, h⟩ := ba h
  obtain ⟨h2, h⟩ := ba h
  obtain ⟨h3, h4⟩ := ba h
  exact ⟨hn, name_ok h1, of_decide_eq_true h2, of_decide_eq_true h3, of_decide_eq_true h4⟩
def propB (K : PySem.W.Frag) (x f : Str) : Bool := eqO (PySem.W.findIn K (.ref (ga K x)) f) (some (some (.ref (ma K (ga K x) f)))) && (eqO (PySem.W.specialIn K (.ref (ma K (ga K x) f)) "__get__") (some (some (.builtin "property.__get__"))) && (decide (PySem.W.takesIn K (.ref (ma K (ga K x) f)) = some true) &&
  (match PySem.W.recIn K (ma K (ga K x) f) "property" with
    | some (.ref _ :: _) => true
    | _ => false)))
def recFn (K : PySem.W.Frag) (x m : Str) (T : String) : Addr := match PySem.W.recIn K (ma K (ga K x) m) T with
  | some (.ref g :: _) => g
  | _ => 0
theorem prop_ok {K : PySem.W.Frag} {x f : Str} (h : propB K x f = true) : PropOf K (ga K x) f (ma K (ga K x) f) (recFn K x f "property") := by
  obtain ⟨h1, h⟩ := ba h
  obtain ⟨h2, h⟩ := ba h
  obtain ⟨h3, h4⟩ := ba h
  refine ⟨eqO_ok h1, eqO_ok h2, of_decide_eq_true h3, ?_⟩
  unfold recFn
  cases q : PySem.W.recIn K (ma K (ga K x) f) "property" with
  | none => rw [q] at h4; cases h4
  | some l =>
    rw [q] at h4
    match l, h4 with
    | .ref g :: r, _ => exact ⟨r, rfl⟩
def creadB (K : PySem.W.Frag) (C : Addr) : Bool := PySem.W.readsIn K C (.type "type") && eqO (PySem.W.specialIn K (.ref C) "__getattribute__") (some (some (.builtin "type.__getattribute__")))
theorem cread_ok {K : PySem.W.Frag} {C : Addr} (h : creadB K C = true) : ClX.CRead K C (.type "type") := by
  obtain ⟨h1, h2⟩ := ba h
  exact ⟨h1, eqO_ok h2⟩
def cvalB (K : PySem.W.Frag) (C : Addr) (f : Str) (i : Int) : Bool := match PySem.W.findCls K (.ref C) (.type "type") f with
  | some (.val (.int j _)) => decide (j = i)
  | _ => false
theorem cval_ok {K : PySem.W.Frag} {C : Addr} {f : Str} {i : Int} (h : cvalB K C f i = true) : ∃ u, ClX.CVal K C (.type "type") f (.int i) u := by
  unfold cvalB at h
  cases q : PySem.W.findCls K (.ref C) (.type "type") f with
  | none => rw [q] at h; cases h
  | some r =>
    rw [q] at h
    cases r with
    | val v =>
      cases v with
      | int j t =>
        obtain rfl := of_decide_eq_true h
        exact ⟨_, q, ⟨t, rfl⟩⟩
      | _ => cases h
    | get a b c d => cases h
def cinitB (K : PySem.W.Frag) (C : Addr) : Bool := match PySem.W.findCls K (.ref C) (.type "type") "__init__" with
  | some (.val v) => decide (v = .builtin "ValueError.__init__")
  | _ => false
theorem cinit_ok {K : PySem.W.Frag} {C : Addr} (h : cinitB K C = true) : PySem.W.findCls K (.ref C) (.type "type") "__init__" = some (.val (.builtin "ValueError.__init__")) := by
  unfold cinitB at h
  cases q : PySem.W.findCls K (.ref C) (.type "type") "__init__" with
  | none => rw [q] at h; cases h
  | some r =>
    rw [q] at h
    cases r with
    | val v => rw [of_decide_eq_true h]
    | get a b c d => cases h
def cmetB (K : PySem.W.Frag) (x m : Str) : Bool := (match PySem.W.findCls K (.ref (ga K x)) (.type "type") m with
  | some (.get a b c d) => decide (a = .builtin "classmethod.__get__") && (decide (b = .ref (ma K (ga K x) m)) && (decide (c = .none) && decide (d = .ref (ga K x))))
  | _ => false) && ((match PySem.W.recIn K (ma K (ga K x) m) "classmethod" with
    | some (.ref _ :: _) => true
    | _ => false) && PySem.W.fnIn K (recFn K x m "classmethod"))
theorem cmet_ok {K : PySem.W.Frag} {x m : Str} (h : cmetB K x m = true) : ClX.CMet K (ga K x) (.type "type") m (ma K (ga K x) m) (recFn K x m "classmethod") := by
  obtain ⟨h1, h⟩ := ba h
  obtain ⟨h2, h3⟩ := ba h
  refine ⟨?_, ?_, h3⟩
  · cases q : PySem.W.findCls K (.ref (ga K x)) (.type "type") m with
    | none => rw [q] at h1; cases h1
    | some r =>
      rw [q] at h1
      cases r with
      | val v => cases h1
      | get a b c d =>
        obtain ⟨e1, h1⟩ := ba h1
        obtain ⟨e2, h1⟩ := ba h1
        obtain ⟨e3, e4⟩ := ba h1
        rw [of_decide_eq_true e1, of_decide_eq_true e2, of_decide_eq_true e3, of_decide_eq_true e4]
  · unfold recFn
    cases q : PySem.W.recIn K (ma K (ga K x) m) "classmethod" with
    | none => rw [q] at h2; cases h2
    | some l =>
      rw [q] at h2
      match l, h2 with
      | .ref g :: r, _ => exact ⟨r, rfl⟩
end K16
-- part KHook
set_option Elab.async false
set_option linter.all false
set_option maxRecDepth 100000
set_option maxHeartbeats 1000000
/-! the head's Hook: hookX with the statics and with functions that stand behind descriptors -/
namespace K16
open PySem PySem.Spec PyProof.Rows L2 He
structure DefY where
  cls : Str
  m : Str
  T : String
  name : Str
  qual : Str
  params : Arguments
  body : List Stmt
  scope : Scope
def DefY.adr (K : PySem.W.Frag) (d : DefY) : Addr := recFn K d.cls d.m d.T
def fnY (K : PySem.W.Frag) (a : Addr) : FnW := match K.lookup a with
  | some ⟨_, _, .func fd, _⟩ => some (fd.name, fd.qualname, fd.params, fd.body, fd.scope, fd.globals, fd.closure, fd.builtins)
  | _ => none
def DefY.val (d : DefY) : FnW := some (d.name, d.qual, d.params, .stmts d.body, d.scope, mainGlobals, [], builtinsNs)
def DefY.ok (K : PySem.W.Frag) (d : DefY) : Bool := PySem.W.keepIn K (.ref (d.adr K)) && (match K.lookup (d.adr K) with
  | some ⟨_, _, .func fd, _⟩ => PySem.W.codeIn K fd.code d.qual && decide (fd.defaults = .none)
  | _ => false)
theorem DefY.fun_ {K : PySem.W.Frag} {d : DefY} {st : Stmt} (e : fnY K (d.adr K) = d.val) (c : d.ok K = true) (h1 : d.params = defArgs st) (h2 : d.body = defBody st) (h3 : d.scope = defScope st) : ∃ fd, Fun K d.name d.qual st (d.adr K) fd := by
  obtain ⟨kp, c2⟩ := ba c
  unfold fnY at e
  cases q : K.lookup (d.adr K) with
  | none => rw [q] at c2; cases c2
  | some o =>
    obtain ⟨oc, od, dt, osl⟩ := o
    rw [q] at c2 e
    cases dt with
    | func fd =>
      obtain ⟨n1, n2, n3, n4, n5, n6, n7, n8, n9, n10, n11, n12, n13, n14, n15⟩ := fd
      have e2 : (some (n1, n2, n3, n4, n5, n6, n7, n15) : FnW) = some (d.name, d.qual, d.params, .stmts d.body, d.scope, mainGlobals, [], builtinsNs) := e
      simp only [Option.some.injEq, Prod.mk.injEq] at e2
      obtain ⟨z1, z2, z3, z4, z5, z6, z7, z8⟩ := e2
      subst z1 z2 z3 z4 z5 z6 z7 z8
      obtain ⟨k1, k2⟩ := ba (show (PySem.W.codeIn K n13 d.qual && decide (n8 = .none)) = true from c2)
      obtain rfl := of_decide_eq_true k2
      rw [h1, h2, h3] at q
      exact ⟨_, ⟨oc, od, n9, n10, n11, n12, n13, n14, osl, rfl, q, k1⟩, kp⟩
    | _ => cases c2
structure SaysY (fa : List Fa) (fn : List DefD) (ts : List Tab) (tf : List Defn) (ex : PySem.W.Frag → Bool) (dy : List DefY) (w : World) (h : Heap) (K : PySem.W.Frag) : Prop where
  x : SaysX fa fn ts tf ex w h K
  y : ∀ d ∈ dy, fnY K (d.adr K) = d.val ∧ d.ok K = true
abbrev AlY : Type := AlX × (Bool × List FnW)
abbrev asY (g : Addr → Option Obj) (n : Nat) : List Addr := asD g n ++ [cStatics]
def obsY (n : Nat) (fa : List Fa) (fn : List DefD) (ts : List Tab) (tf : List Defn) (ex : PySem.W.Frag → Bool) (dy : List DefY) (g : Addr → Option Obj) : AlY :=
  ((obsT fa fn ts (frT g (asY g n)), ex (frT g (asY g n)) && tabsB g tf (frT g (asY g n))), (dy.all fun d => d.ok (frT g (asY g n)), dy.map fun d => fnY (frT g (asY g n)) (d.adr (frT g (asY g n)))))
def valY (fn : List DefD) (ts : List Tab) (dy : List DefY) (w : World) : AlY := (valX fn ts w, (true, dy.map DefY.val))
theorem map_eq_mem {α β : Type} {f g : α → β} : ∀ {l : List α}, l.map f = l.map g → ∀ a ∈ l, f a = g a
  | [], _, _, h => nomatch h
  | x :: r, e, a, h => by
    have e' : f x :: r.map f = g x :: r.map g := e
    injection e' with e1 e2
    rcases List.mem_cons.mp h with z | z
    · rw [z]; exact e1
    · exact map_eq_mem e2 a z
theorem saysY_of {n : Nat} {fa : List Fa} {fn : List DefD} {ts : List Tab} {tf : List Defn} {ex : PySem.W.Frag → Bool} {dy : List DefY} {w : World} {h : Heap} (e : obsY n fa fn ts tf ex dy h.get? = valY fn ts dy w) : SaysY fa fn ts tf ex dy w h (frT h.get? (asY h.get? n)) := by
  have e1 : obsT fa fn ts (frT h.get? (asY h.get? n)) = valT fn ts w := congrArg (fun z : AlY => z.1.1) e
  have e2 : (ex (frT h.get? (asY h.get? n)) && tabsB h.get? tf (frT h.get? (asY h.get? n))) = true := congrArg (fun z : AlY => z.1.2) e
  have e3 : (dy.all fun d => d.ok (frT h.get? (asY h.get? n))) = true := congrArg (fun z : AlY => z.2.1) e
  have e4 : (dy.map fun d => fnY (frT h.get? (asY h.get? n)) (d.adr (frT h.get? (asY h.get? n)))) = dy.map DefY.val := congrArg (fun z : AlY => z.2.2) e
  obtain ⟨h1, h2⟩ := ba e2
  have key : ∀ p ∈ tf, PySem.W.codeHdIn (frT h.get? (asY h.get? n)) (cT (frT h.get? (asY h.get? n)) p).1 (cT (frT h.get? (asY h.get? n)) p).2 = true ∧ ∃ o, h.get? (cT (frT h.get? (asY h.get? n)) p).2 = some o ∧ emptyTab o = true := fun p hp => by
    obtain ⟨h3, h4⟩ := ba (List.all_eq_true.mp h2 p hp)
    refine ⟨h3, ?_⟩
    cases q : h.get? (cT (frT h.get? (asY h.get? n)) p).2 with
    | none =>
      rw [q] at h4
      cases h4
    | some o =>
      rw [q] at h4
      exact ⟨o, rfl, h4⟩
  exact ⟨⟨e1, h1, fun p hp => (key p hp).1, fun p hp => by
    obtain ⟨_, o, q, z⟩ := key p hp
    exact frT_none q z, fun p hp => by
    obtain ⟨_, o, q, z⟩ := key p hp
    rw [q, emptyTab_eq z]⟩, fun d hd => ⟨map_eq_mem e4 d hd, List.all_eq_true.mp e3 d hd⟩⟩
def hookY (n : Nat) (fa : List Fa) (fn : List DefD) (ts : List Tab) (tf : List Defn) (ex : PySem.W.Frag → Bool) (dy : List DefY) : PySem.W.Hook where
  α := AlY
  obs := fun s => obsY n fa fn ts tf ex dy s.heap.get?
  val := fun w => valY fn ts dy w
  says := fun w h => ∃ K : PySem.W.Frag, K.In h ∧ SaysY fa fn ts tf ex dy w h K
  of := fun _ _ e => ⟨_, frT_in, saysY_of e⟩
  keeps := fun _ _ _ ⟨K, hK, c⟩ k => ⟨K, PySem.W.Frag.In.keeps hK k, ⟨⟨c.x.t, c.x.more, c.x.hd, c.x.out, fun p hp => k _ _ (c.x.empty p hp)⟩, c.y⟩⟩
theorem obsY_eq {n : Nat} {fa : List Fa} {fn : List DefD} {ts : List Tab} {tf : List Defn} {ex : PySem.W.Frag → Bool} {dy : List DefY} {g : Addr → Option Obj} {s : Shared} (h : ∀ a, g a = s.heap.get? a) : obsY n fa fn ts tf ex dy g = (hookY n fa fn ts tf ex dy).obs s := by
  have e : g = s.heap.get? := funext h
  rw [e] <;> rfl
end K16
-- part KHead
set_option Elab.async false
set_option linter.all false
set_option maxRecDepth 100000
set_option maxHeartbeats 0
namespace K16
open PySem PySem.Spec PyProof.Rows L2 He
abbrev dTop (x : Str) (i : Nat) : DefD := ⟨(x, none), x, x, defArgs (top i), defBody (top i), defScope (top i), [], []⟩
abbrev dMet (m q : Str) (j : Nat) : DefD := ⟨("Account", some m), m, q, defArgs (sAcc j), defBody (sAcc j), defScope (sAcc j), [], []⟩
def fnL : List DefD := [dTop "is_from" 18,
  dTop "need_life" 19,
  dTop "lapse" 20,
  dTop "take" 21,
  dTop "play" 22,
  dTop "merged" 24,
  dTop "lapsed_by" 25,
  dTop "balance_of" 26,
  dTop "_law_deck" 30,
  dTop "_law_pick" 31,
  dTop "_law_whole" 32,
  dTop "_law_name_of" 33,
  dTop "_law_try" 34,
  dTop "_law_one" 35,
  dTop "_law_sort" 36,
  dTop "_law_same" 37,
  dTop "_law_lots" 38,
  dTop "_law_there" 39,
  dTop "_law_merged" 41,
  dTop "_law_deed" 42,
  dTop "_law_after" 43,
  dTop "_law_next" 44,
  dTop "_law_earn" 45,
  dTop "_law_do" 46,
  dTop "_law_right" 47,
  dTop "law" 48,
  dMet "__init__" "Account.__init__" 1,
  dMet "__len__" "Account.__len__" 3,
  dMet "__eq__" "Account.__eq__" 4,
  dMet "change" "Account.change" 5,
  dMet "need_time" "Account.need_time" 6,
  dMet "earn" "Account.earn" 7,
  dMet "spend" "Account.spend" 8,
  dMet "wait" "Account.wait" 9,
  dMet "undo" "Account.undo" 10,
  dMet "balance" "Account.balance" 13,
  dMet "lapsed" "Account.lapsed" 14,
  dMet "events" "Account.events" 15,
  dMet "remaining" "Account.remaining" 16,
  ⟨("TooMany", some "__init__"), "__init__", "TooMany.__init__", defArgs sTMInit, defBody sTMInit, defScope sTMInit, [], []⟩]
def faA : List Fa := [.glo "is_from", .glo "need_life", .glo "lapse", .glo "take", .glo "play", .glo "merged", .glo "lapsed_by", .glo "balance_of", .glo "_law_deck", .glo "_law_pick", .glo "_law_whole", .glo "_law_name_of", .glo "_law_try", .glo "_law_one", .glo "_law_sort", .glo "_law_same", .glo "_law_lots", .glo "_law_there", .glo "_law_merged", .glo "_law_deed", .glo "_law_after", .glo "_law_next", .glo "_law_earn", .glo "_law_do", .glo "_law_right", .glo "law", .glo "PointError", .glo "InvalidLog", .glo "InvalidLife", .glo "InvalidTime", .glo "InvalidAmount", .glo "InvalidIndex", .glo "InvalidChoice", .glo "InvalidSeen", .glo "InvalidNumber", .glo "NotEnough", .glo "NothingToUndo", .glo "Refused", .glo "TooMany"]
def faB : List Fa := [.glo "Account", .free "isinstance", .free "int", .free "bool", .free "str", .free "list", .free "tuple", .free "len", .free "sum", .free "min", .free "enumerate", .free "range", .free "sorted", .free "zip", .free "ValueError", .int "LARGEST" 1000000, .int "LONGEST_LIFE" 1000, .int "LAST_TIME" 10000, .cls "Account", .noat "Account" "span", .noat "Account" "log", .noat "Account" "now", .noat "Account" "past", .meth "Account" "change", .meth "Account" "need_time", .meth "Account" "earn", .meth "Account" "spend", .meth "Account" "wait", .meth "Account" "undo", .meth "Account" "events", .meth "Account" "balance", .meth "Account" "lapsed", .meth "Account" "remaining", .mkr "Account", .exc "InvalidLife", .exc "InvalidTime", .exc "InvalidAmount", .exc "NotEnough", .exc "NothingToUndo"]
def faL : List Fa := faA ++ faB
def tfL : List Defn := [("_law_do", none), ("law", none)]
def exs (K : PySem.W.Frag) : List Bool := [conB K "Account" "MOST" (.int 30),
  eqO (PySem.W.findIn K (.ref (ga K "Account")) "__class__") (some (some (.builtin "object.__class__"))),
  eqO (PySem.W.specialIn K (.builtin "object.__class__") "__get__") (some (some (.builtin "getset_descriptor.__get__"))),
  decide (PySem.W.takesIn K (.builtin "object.__class__") = some true),
  decide (PySem.W.mroIn K (ga K "Account") (.type "object") = some true),
  decide (PySem.W.kitOne K (.ref (ga K "Account")) (.ref (ga K "Account")) = some true),
  decide (PySem.W.kitOne K (.type "tuple") (.ref (ga K "Account")) = some false),
  eqO (PySem.W.findIn K (.ref (ga K "Account")) "__len__") (some (some (.ref (ma K (ga K "Account") "__len__")))),
  PySem.W.isFn K (.ref (ma K (ga K "Account") "__len__")),
  eqO (PySem.W.findIn K (.ref (ga K "Account")) "__eq__") (some (some (.ref (ma K (ga K "Account") "__eq__")))),
  PySem.W.isFn K (.ref (ma K (ga K "Account") "__eq__")),
  eqO (PySem.W.findIn K (.ref (ga K "Account")) "__ne__") (some (some (.builtin "object.__ne__"))),
  decide (PySem.W.subIn K (.ref (ga K "Account")) (.type "object") = some true),
  decide (PySem.W.subIn K (.type "tuple") (.ref (ga K "Account")) = some false),
  oexClsB K (ga K "TooMany"),
  eqO (PySem.W.findIn K (.ref (ga K "TooMany")) "__setattr__") (some (some (.builtin "object.__setattr__"))),
  decide (PySem.W.subIn K (.ref (ga K "TooMany")) (.type "BaseException") = some true),
  decide (PySem.W.typeIn K (.ref (ga K "TooMany")) = some (.type "type")),
  PySem.W.keepIn K (.ref (ga K "TooMany")),
  eqO (PySem.W.findIn K (.ref (ga K "TooMany")) "__init__") (some (some (.ref (ma K (ga K "TooMany") "__init__")))),
  decide (PySem.W.typeIn K (.ref (ma K (ga K "TooMany") "__init__")) = some (.type "function")),
  eqO (PySem.W.findIn K (.ref (ga K "TooMany")) "limit") (some none),
  xfB K (ga K "TooMany"), xfB K (ga K "Refused"),
  eqO (PySem.W.findIn K (.ref (ga K "Refused")) "index") (some none),
  creadB K (ga K "PointError"), cinitB K (ga K "PointError"), creadB K (ga K "Account"), cvalB K (ga K "Account") "MOST" 30, cmetB K "Account" "yearly", propB K "Account" "life", propB K "Account" "time",
  errB K (ga K "InvalidTime") 2 false, errB K (ga K "InvalidAmount") 3 false, errB K (ga K "TooMany") 11 true, errB K (ga K "NotEnough") 8 false, errB K (ga K "NothingToUndo") 9 false, errB K (ga K "InvalidLife") 1 false,
  decide ((cT K ("_law_do", none)).2 ≠ (cT K ("law", none)).2)]
def exL : PySem.W.Frag → Bool := fun K => (exs K).all id
abbrev dDes (m T : Str) (Ts : String) (q : Str) (j : Nat) : DefY := ⟨"Account", m, Ts, m, q, defArgs (sAcc j), defBody (sAcc j), defScope (sAcc j)⟩
def dyL : List DefY := [dDes "life" "property" "property" "Account.life" 11, dDes "time" "property" "property" "Account.time" 12, dDes "yearly" "classmethod" "classmethod" "Account.yearly" 2]
abbrev hkL : PySem.W.Hook := hookY 6 faL fnL [] tfL exL dyL
def obL (s : PySem.W.SharedT) : AlY := obsY 6 faL fnL [] tfL exL dyL (HandSHeadRun.getT s)
theorem obL_eq (s : PySem.W.SharedT) : obL s = hkL.obs s.abs := obsY_eq (HandSHeadRun.getT_eq s)
theorem runL (w : World) : HandSHeadRun.RunEq R qv hkL obL 20000 names w := by
  intro os
  kernel_rfl
end K16
-- part KEnd
set_option Elab.async false
set_option linter.all false
set_option maxRecDepth 100000
set_option maxHeartbeats 1000000
/-! the head's facts put to use -/
namespace K16
open PySem PySem.Spec PyProof.Rows L2 He K16M LamX
abbrev NB (x q : Str) (st : Stmt) (ps : List Str) : Prop := ∀ (kV doc pm : Value) (an : Option Addr) (cdv ct : Value) (us : List Value), us.length = ps.length → bindArgs (PySem.W.fnOf x q (defArgs st) (defBody st) (defScope st) .none kV doc pm an cdv ct) ⟨us, []⟩ = pure (ps.zip us)
theorem fun_bN {K : PySem.W.Frag} {x q : Str} {st : Stmt} {f : Addr} {fd : FuncData} {ps : List Str} (F : Fun K x q st f fd) (h : NB x q st ps) : Binds K fd ps [] := by
  obtain ⟨oc, od, kV, doc, pm, an, cdv, ct, osl, hfd, lk, hcd⟩ := F.ex
  rw [hfd]
  exact .all (h kV doc pm an cdv ct)
theorem fun_of {K : PySem.W.Frag} {x q : Str} {st : Stmt} {f : Addr} {fd : FuncData} (F : FunD K x q (defArgs st) (defBody st) (defScope st) [] [] f fd) : Fun K x q st f fd := by
  obtain ⟨oc, od, dV, kV, doc, pm, an, cdv, ct, osl, hfd, lk, hcd, hD, _⟩ := F.ex
  rcases hD with ⟨_, rfl⟩ | ⟨e, _⟩
  · exact ⟨⟨oc, od, kV, doc, pm, an, cdv, ct, osl, hfd, lk, hcd⟩, F.kp⟩
  · exact absurd rfl e
theorem funC_of {K : PySem.W.Frag} {x q : Str} {st : Stmt} {p : Str × Option Str} {fd : FuncData} (F : FunD K x q (defArgs st) (defBody st) (defScope st) [] [] (fAd K p) fd) : FunC K x q st (fAd K p) fd (codeOf K p) := by
  obtain ⟨oc, od, dV, kV, doc, pm, an, cdv, ct, osl, hfd, lk, hcd, hD, _⟩ := F.ex
  rcases hD with ⟨_, rfl⟩ | ⟨e, _⟩
  · obtain ⟨cc, rfl⟩ := codeIn_ref hcd
    have e : codeOf K p = cc := codeOf_eq lk (by rw [hfd] <;> rfl)
    rw [e]
    exact ⟨⟨oc, od, kV, doc, pm, an, ct, osl, hfd, lk, hcd⟩, F.kp⟩
  · exact absurd rfl e
structure EnvL (K : PySem.W.Frag) (mg : Str → Option Value) (base : Heap) : Prop where
  X : K.In base
  G : base.Ns mainGlobals mg
  c : SaysD faL fnL K
  e : exL K = true
  y : ∀ d ∈ dyL, fnY K (d.adr K) = d.val ∧ d.ok K = true
section
variable {P : Program} {w : World} {K : PySem.W.Frag} {mg : Str → Option Value} {base : Heap}
theorem ex_at (e : exL K = true) (i : Nat) {b : Bool} (h : (exs K)[i]? = some b) : b = true := List.all_eq_true.mp e b (List.mem_of_getElem? h)
theorem EnvL.glo (E : EnvL K mg base) (i : Nat) {x : Str} (h : faL[i]? = some (.glo x)) : mg x = some (.ref (ga K x)) := glo_ok E.X E.G (E.c.fact i h)
theorem EnvL.free (E : EnvL K mg base) (i : Nat) {x : Str} (h : faL[i]? = some (.free x)) : mg x = none := free_ok E.X E.G (E.c.fact i h)
theorem EnvL.top_ (E : EnvL K mg base) (i : Nat) {x : Str} {j : Nat} {ps : List Str} (h : fnL[i]? = some (dTop x j)) (hb : NB x x (top j) ps) : ∃ fd, Fun K x x (top j) (ga K x) fd ∧ Binds K fd ps [] := by
  obtain ⟨fd, F⟩ := E.c.def_ i (d := dTop x j) h
  exact ⟨fd, fun_of F, fun_bN (fun_of F) hb⟩
theorem EnvL.meth_ (E : EnvL K mg base) (i : Nat) {m q : Str} {j : Nat} {ps : List Str} (h : fnL[i]? = some (dMet m q j)) (hb : NB m q (sAcc j) ps) : ∃ fd, Fun K m q (sAcc j) (ma K (ga K "Account") m) fd ∧ Binds K fd ps [] := by
  obtain ⟨fd, F⟩ := E.c.def_ i (d := dMet m q j) h
  exact ⟨fd, fun_of F, fun_bN (fun_of F) hb⟩
theorem EnvL.cal (E : EnvL K mg base) (i : Nat) {x : Str} {j : Nat} {ps : List Str} {sp : Sp} {CX : CXT} {k : Nat} (h : fnL[i]? = some (dTop x j)) (g : faL[i]? = some (.glo x)) (hb : NB x x (top j) ps)
    (ok : ∀ fd, Fun K x x (top j) (ga K x) fd → Binds K fd ps [] → FnOk P w K mg base CX k (ga K x) fd ps sp) : Cal0 P w K mg base CX k x ps sp := by
  obtain ⟨fd, F, b⟩ := E.top_ i h hb
  exact ⟨ga K x, fd, ok fd F b, E.glo i g, F.kp, b⟩
theorem EnvL.met (E : EnvL K mg base) (i l : Nat) {m q : Str} {j : Nat} {ps : List Str} {sp : Sp} {CX : CXT} {k : Nat} (h : fnL[i]? = some (dMet m q j)) (g : faL[l]? = some (.meth "Account" m)) (hb : NB m q (sAcc j) ps)
    (ok : ∀ fd, Fun K m q (sAcc j) (ma K (ga K "Account") m) fd → FnOk P w K mg base CX k (ma K (ga K "Account") m) fd ps sp) : Met0 P w K mg base CX k (ga K "Account") m ps sp := by
  obtain ⟨fd, F, b⟩ := E.meth_ i h hb
  exact ⟨_, fd, ok fd F, meth_ok (E.c.fact l g), b⟩
theorem EnvL.acc (E : EnvL K mg base) : AccT K (ga K "Account") := by
  obtain ⟨u, hc⟩ := conB_ok (ex_at E.e 0 rfl)
  obtain ⟨t, ht⟩ := (show ∃ t : Tok, u = .int 30 t from hc.rel)
  subst ht
  exact ⟨cls_ok (E.c.fact 57 rfl), noat_ok (E.c.fact 58 rfl), noat_ok (E.c.fact 59 rfl), noat_ok (E.c.fact 60 rfl), noat_ok (E.c.fact 61 rfl), t, hc⟩
theorem EnvL.acci (E : EnvL K mg base) : AccI K (ga K "Account") := ⟨eqO_ok (ex_at E.e 1 rfl), eqO_ok (ex_at E.e 2 rfl), of_decide_eq_true (ex_at E.e 3 rfl), of_decide_eq_true (ex_at E.e 4 rfl), of_decide_eq_true (ex_at E.e 5 rfl), of_decide_eq_true (ex_at E.e 6 rfl)⟩
theorem EnvL.exc (E : EnvL K mg base) (i l : Nat) {x : Str} (g : faL[i]? = some (.glo x)) (h : faL[l]? = some (.exc x)) : ExcT K mg x (ga K x) := by
  obtain ⟨h1, h2, h3, h4⟩ := exc_ok (E.c.fact l h)
  exact ⟨E.glo i g, h1, h2, h3, h4⟩
theorem EnvL.oex (E : EnvL K mg base) : OexC K (ga K "TooMany") := ⟨oexCls_ok (ex_at E.e 14 rfl), eqO_ok (ex_at E.e 15 rfl), of_decide_eq_true (ex_at E.e 16 rfl), of_decide_eq_true (ex_at E.e 17 rfl), ex_at E.e 18 rfl⟩
theorem EnvL.tmk (E : EnvL K mg base) : TMk P w K mg base (ga K "TooMany") := by
  obtain ⟨fd, F⟩ := E.c.def_ 39 (d := ⟨("TooMany", some "__init__"), "__init__", "TooMany.__init__", defArgs sTMInit, defBody sTMInit, defScope sTMInit, [], []⟩) rfl
  have F' : Fun K "__init__" "TooMany.__init__" sTMInit (ma K (ga K "TooMany") "__init__") fd := fun_of F
  have b : Binds K fd ["self", "limit"] [] := fun_bN F' fun _ _ _ _ _ _ us hl => match us, hl with | [_, _], _ => rfl
  exact ⟨_, fd, ok_tmInit F' (E.glo 26 rfl) (cread_ok (ex_at E.e 25 rfl)) (cinit_ok (ex_at E.e 26 rfl)) E.oex (eqO_ok (ex_at E.e 21 rfl)), E.oex, eqO_ok (ex_at E.e 19 rfl), of_decide_eq_true (ex_at E.e 20 rfl), b, E.glo 38 rfl⟩
theorem EnvL.errc (E : EnvL K mg base) : ErrC mg (ccK K) := ⟨E.glo 27 rfl, E.glo 28 rfl, E.glo 29 rfl, E.glo 30 rfl, E.glo 31 rfl, E.glo 32 rfl, E.glo 33 rfl, E.glo 34 rfl, E.glo 35 rfl, E.glo 36 rfl, E.glo 37 rfl, E.glo 38 rfl⟩
abbrev erK (K : PySem.W.Frag) : Errs := ⟨ga K "InvalidTime", ga K "InvalidAmount", ga K "TooMany", ga K "NotEnough"⟩
theorem EnvL.errt (E : EnvL K mg base) : ErrsT K (ccK K) (ga K "Refused") (ga K "TooMany") (ga K "PointError") (erK K) (ga K "NothingToUndo") :=
  ⟨err_ok (by decide) (ex_at E.e 32 rfl), err_ok (by decide) (ex_at E.e 33 rfl), err_ok (by decide) (ex_at E.e 34 rfl), rfl, err_ok (by decide) (ex_at E.e 35 rfl), err_ok (by decide) (ex_at E.e 36 rfl)⟩
theorem EnvL.trc (E : EnvL K mg base) : TryC K mg (ga K "Refused") (ga K "TooMany") (ga K "PointError") := ⟨E.glo 37 rfl, E.glo 38 rfl, E.glo 26 rfl, xfB_ok (ex_at E.e 23 rfl), xfB_ok (ex_at E.e 22 rfl), eqO_ok (ex_at E.e 24 rfl), eqO_ok (ex_at E.e 21 rfl), E.free 43 rfl⟩
theorem EnvL.prp (E : EnvL K mg base) {x q f : Str} {j : Nat} (hd : dDes x "property" "property" q j ∈ dyL) (e : propB K "Account" x = true) (hb : NB x q (sAcc j) ["self"]) (S : FnScope ["self"] ["self"] (defScope (sAcc j)))
    (hB : ∃ p1 p2 p3, defBody (sAcc j) = [.Return (some (.Attribute (.Name "self" p1) f p2)) p3]) (n : NoAttr K (ga K "Account") f) : Prp0 P w K mg base (ga K "Account") x f := by
  obtain ⟨fd, F⟩ := DefY.fun_ (st := sAcc j) (E.y _ hd).1 (E.y _ hd).2 rfl rfl rfl
  have b : Binds K fd ["self"] [] := fun_bN F hb
  refine ⟨_, _, fd, prop_ok e, ?_, b⟩
  obtain ⟨oc, od, kV, doc, pm, an, cdv, ct, osl, hfd, lk, hcd⟩ := F.ex
  obtain ⟨p1, p2, p3, hB⟩ := hB
  subst hfd
  exact fn_getter lk hcd S rfl hB E.acc.cl n
/-- all that the law needs -/
abbrev TK (K : PySem.W.Frag) : List (Addr × Str) := [((cT K ("_law_do", none)).2, (("_law_do" : Str) ++ (".<locals>." : Str)) ++ ("<lambda>" : Str)), ((cT K ("law", none)).2, qLaw)]
theorem tk_do (hne : (cT K ("_law_do", none)).2 ≠ (cT K ("law", none)).2) : ∀ p ∈ TK K, p.1 = (cT K ("_law_do", none)).2 → p.2 = (("_law_do" : Str) ++ (".<locals>." : Str)) ++ ("<lambda>" : Str) := fun p hp h => by
  rcases List.mem_cons.mp hp with z | z
  · rw [z]
  · rcases List.mem_cons.mp z with z | z
    · rw [z] at h
      exact absurd h.symm hne
    · cases z
theorem tk_law (hne : (cT K ("_law_do", none)).2 ≠ (cT K ("law", none)).2) : ∀ p ∈ TK K, p.1 = (cT K ("law", none)).2 → p.2 = qLaw := fun p hp h => by
  rcases List.mem_cons.mp hp with z | z
  · rw [z] at h
    exact absurd h hne
  · rcases List.mem_cons.mp z with z | z
    · rw [z]
    · cases z
theorem EnvL.law (E : EnvL K mg base) (TD : TabB base mg (cT K ("_law_do", none)).1 (cT K ("_law_do", none)).2) (TL : TabB base mg (cT K ("law", none)).1 (cT K ("law", none)).2) (hne : (cT K ("_law_do", none)).2 ≠ (cT K ("law", none)).2) :
    LawE P w K mg base (ga K "Account") (ga K "InvalidLife") (ga K "NothingToUndo") (ga K "Refused") (ga K "TooMany") (ga K "PointError") (cT K ("law", none)).1 (cT K ("law", none)).2 (erK K) (ccK K) (TK K) := by
  have fi := E.free 40 (x := "isinstance") rfl
  have fn := E.free 41 (x := "int") rfl
  have fb := E.free 42 (x := "bool") rfl
  have fs := E.free 43 (x := "str") rfl
  have fl := E.free 44 (x := "list") rfl
  have ft := E.free 45 (x := "tuple") rfl
  have fle := E.free 46 (x := "len") rfl
  have fsu := E.free 47 (x := "sum") rfl
  have fmi := E.free 48 (x := "min") rfl
  have fen := E.free 49 (x := "enumerate") rfl
  have fra := E.free 50 (x := "range") rfl
  have fso := E.free 51 (x := "sorted") rfl
  have fzi := E.free 52 (x := "zip") rfl
  have fve := E.free 53 (x := "ValueError") rfl
  obtain ⟨tLa, iLa⟩ := int_ok (x := "LARGEST") (i := 1000000) E.X E.G (E.c.fact 54 rfl)
  obtain ⟨tLo, iLo⟩ := int_ok (x := "LONGEST_LIFE") (i := 1000) E.X E.G (E.c.fact 55 rfl)
  obtain ⟨tTi, iTi⟩ := int_ok (x := "LAST_TIME") (i := 10000) E.X E.G (E.c.fact 56 rfl)
  have TA := E.acc
  have XL : ExcT K mg "InvalidLife" (ga K "InvalidLife") := E.exc 28 73 rfl rfl
  have XT : ExcT K mg "InvalidTime" (ga K "InvalidTime") := E.exc 29 74 rfl rfl
  have XA : ExcT K mg "InvalidAmount" (ga K "InvalidAmount") := E.exc 30 75 rfl rfl
  have XE : ExcT K mg "NotEnough" (ga K "NotEnough") := E.exc 35 76 rfl rfl
  have XU : ExcT K mg "NothingToUndo" (ga K "NothingToUndo") := E.exc 36 77 rfl rfl
  have gC : mg "Account" = some (.ref (ga K "Account")) := E.glo 39 rfl
  have isF : Cal0 P w K mg base CX0 1 "is_from" ["value", "low", "high"] spIsFrom := E.cal 0 rfl rfl (fun _ _ _ _ _ _ us hl => match us, hl with | [_, _, _], _ => rfl) fun _ F _ => ok_isFrom F fi fn fb
  have neL : Cal0 P w K mg base (L2N.CX P w) 2 "need_life" ["life"] (spNeedLife (ga K "InvalidLife")) := E.cal 1 rfl rfl (fun _ _ _ _ _ _ us hl => match us, hl with | [_], _ => rfl) fun _ F _ => ok_needLife F isF iLo XL
  have laP : Cal0 P w K mg base CX0 1 "lapse" ["lots", "lapsed", "life", "time"] spLapse := E.cal 2 rfl rfl (fun _ _ _ _ _ _ us hl => match us, hl with | [_, _, _, _], _ => rfl) fun _ F _ => ok_lapse F
  have tak : Cal0 P w K mg base CX0 1 "take" ["lots", "amount"] spTake := E.cal 3 rfl rfl (fun _ _ _ _ _ _ us hl => match us, hl with | [_, _], _ => rfl) fun _ F _ => ok_take F fmi
  have pla : Cal0 P w K mg base CX0 2 "play" ["log", "life", "until"] spPlay := E.cal 4 rfl rfl (fun _ _ _ _ _ _ us hl => match us, hl with | [_, _, _], _ => rfl) fun _ F _ => ok_play F fen fsu ft laP tak
  have mer : Cal0 P w K mg base CX0 1 "merged" ["rows"] spMerged := E.cal 5 rfl rfl (fun _ _ _ _ _ _ us hl => match us, hl with | [_], _ => rfl) fun _ F _ => ok_merged F
  have lby : Cal0 P w K mg base CX0 3 "lapsed_by" ["log", "life", "time"] (spLogNum gonL) := E.cal 6 rfl rfl (fun _ _ _ _ _ _ us hl => match us, hl with | [_, _, _], _ => rfl) fun _ F _ => ok_lapsedBy F fsu pla
  have bal : Cal0 P w K mg base CX0 3 "balance_of" ["log", "life", "time"] (spLogNum balL) := E.cal 7 rfl rfl (fun _ _ _ _ _ _ us hl => match us, hl with | [_, _, _], _ => rfl) fun _ F _ => ok_balanceOf F fsu pla
  have dck : Cal0 P w K mg base CX0 1 "_law_deck" ["_law_cell", "_law_turn"] spDeck := E.cal 8 rfl rfl (fun _ _ _ _ _ _ us hl => match us, hl with | [_, _], _ => rfl) fun _ F _ => ok_deck F
  have pck : Cal0 P w K mg base CX0 1 "_law_pick" ["_law_deck_here", "_law_limit"] spPick := E.cal 9 rfl rfl (fun _ _ _ _ _ _ us hl => match us, hl with | [_, _], _ => rfl) fun _ F _ => ok_pick F
  have who : Cal0 P w K mg base CX0 1 "_law_whole" ["_law_thing"] spWhole := E.cal 10 rfl rfl (fun _ _ _ _ _ _ us hl => match us, hl with | [_], _ => rfl) fun _ F _ => ok_whole F fi fn fb
  have cap : CalP P w K mg base (ccK K) := by
    obtain ⟨fd, F, b⟩ := E.top_ 11 (x := "_law_name_of") (j := 33) (ps := ["_law_e"]) rfl (fun _ _ _ _ _ _ us hl => match us, hl with | [_], _ => rfl)
    exact ⟨_, fd, ok_name F fi fzi fve E.errc, E.glo 11 rfl, F.kp, b⟩
  have tryf : TryF K mg := by
    obtain ⟨fd, F, b⟩ := E.top_ 12 (x := "_law_try") (j := 34) (ps := ["_law_door"]) rfl (fun _ _ _ _ _ _ us hl => match us, hl with | [_], _ => rfl)
    exact ⟨_, fd, F, E.glo 12 rfl, b⟩
  have one : Cal0 P w K mg base CX0 2 "_law_one" ["_law_deck_here", "_law_some"] spOne := E.cal 13 rfl rfl (fun _ _ _ _ _ _ us hl => match us, hl with | [_, _], _ => rfl) fun _ F _ => ok_one F fle pck
  have sor : Cal0 P w K mg base CX0 1 "_law_sort" ["_law_thing"] spSort := E.cal 14 rfl rfl (fun _ _ _ _ _ _ us hl => match us, hl with | [_], _ => rfl) fun _ F _ => ok_sort F fi fn fb fs fl ft
  have sam : Cal0 P w K mg base CX0 5 "_law_same" ["_law_told", "_law_due"] (spSame 4) := E.cal 15 rfl rfl (fun _ _ _ _ _ _ us hl => match us, hl with | [_, _], _ => rfl) fun _ F b => ok_same F fle fen sor (E.glo 15 rfl) b 4
  have lot : Cal0 P w K mg base CX0 1 "_law_lots" ["_law_log", "_law_span", "_law_until"] spLots := E.cal 16 rfl rfl (fun _ _ _ _ _ _ us hl => match us, hl with | [_, _, _], _ => rfl) fun _ F _ => ok_lots F fsu fmi fen
  have the : Cal0 P w K mg base CX0 2 "_law_there" ["_law_log", "_law_span", "_law_moment"] (spLogNum balL) := E.cal 17 rfl rfl (fun _ _ _ _ _ _ us hl => match us, hl with | [_, _, _], _ => rfl) fun _ F _ => ok_there F fsu lot
  have lme : Cal0 P w K mg base CX0 1 "_law_merged" ["_law_rows"] spLMerged := E.cal 18 rfl rfl (fun _ _ _ _ _ _ us hl => match us, hl with | [_], _ => rfl) fun _ F _ => ok_lmerged F fso
  have dee : Cal0 P w K mg base CX0 3 "_law_deed" ["_law_deck_here", "_law_state", "_law_span"] spDeed := E.cal 19 rfl rfl (fun _ _ _ _ _ _ us hl => match us, hl with | [_, _, _], _ => rfl) fun _ F _ => ok_deed F fmi fra pck one the
  have aft : Cal0 P w K mg base CX0 3 "_law_after" ["_law_state", "_law_span", "_law_deed_here"] spAfter := E.cal 20 rfl rfl (fun _ _ _ _ _ _ us hl => match us, hl with | [_, _, _], _ => rfl) fun _ F _ => ok_after F fle ft who the
  have nex : Cal0 P w K mg base CX0 4 "_law_next" ["_law_states", "_law_span", "_law_deed_here"] spNext := E.cal 21 rfl rfl (fun _ _ _ _ _ _ us hl => match us, hl with | [_, _, _], _ => rfl) fun _ F _ => ok_next F fle fi fs aft the
  have nti : Met0 P w K mg base (L2N.CX P w) 2 (ga K "Account") "need_time" ["self", "time"] (spNeedTime (ga K "Account") (ga K "InvalidTime")) := E.met 30 63 rfl rfl (fun _ _ _ _ _ _ us hl => match us, hl with | [_, _], _ => rfl) fun _ F => ok_needTime F TA isF iTi XT
  have cha : Met0 P w K mg base CX0 1 (ga K "Account") "change" ["self", "time", "events"] (spChange (ga K "Account")) := E.met 29 62 rfl rfl (fun _ _ _ _ _ _ us hl => match us, hl with | [_, _, _], _ => rfl) fun _ F => ok_change F TA
  have ear : MetR P w K mg base (L2N.CX P w) 4 (ga K "Account") "earn" (spEarn (ga K "Account") (erK K)) := by
    obtain ⟨fd, F⟩ := E.c.def_ 31 (d := dMet "earn" "Account.earn" 7) rfl
    exact ⟨_, ok_earn (fun_of F) TA nti cha bal isF iLa XA E.tmk fle ft, meth_ok (E.c.fact 64 rfl)⟩
  have spe : Met0 P w K mg base (L2N.CX P w) 4 (ga K "Account") "spend" ["self", "time", "amount"] (spSpend (ga K "Account") (erK K)) := E.met 32 65 rfl rfl (fun _ _ _ _ _ _ us hl => match us, hl with | [_, _, _], _ => rfl) fun _ F => ok_spend F TA nti cha bal isF iLa XA XE E.tmk fle
  have wai : Met0 P w K mg base (L2N.CX P w) 4 (ga K "Account") "wait" ["self", "time"] (spWait (ga K "Account") (erK K)) := E.met 33 66 rfl rfl (fun _ _ _ _ _ _ us hl => match us, hl with | [_, _], _ => rfl) fun _ F => ok_wait F TA nti cha bal
  have und : Met0 P w K mg base (L2N.CX P w) 1 (ga K "Account") "undo" ["self"] (spUndo (ga K "Account") (ga K "NothingToUndo")) := E.met 34 67 rfl rfl (fun _ _ _ _ _ _ us hl => match us, hl with | [_], _ => rfl) fun _ F => ok_undo F TA XU
  have mba : Met0 P w K mg base CX0 4 (ga K "Account") "balance" ["self"] (spANum (ga K "Account") balL) := E.met 35 69 rfl rfl (fun _ _ _ _ _ _ us hl => match us, hl with | [_], _ => rfl) fun _ F => ok_balance F TA bal
  have mla : Met0 P w K mg base CX0 4 (ga K "Account") "lapsed" ["self"] (spANum (ga K "Account") gonL) := E.met 36 70 rfl rfl (fun _ _ _ _ _ _ us hl => match us, hl with | [_], _ => rfl) fun _ F => ok_lapsed F TA lby
  have mev : Met0 P w K mg base CX0 1 (ga K "Account") "events" ["self"] (spEvents (ga K "Account")) := E.met 37 68 rfl rfl (fun _ _ _ _ _ _ us hl => match us, hl with | [_], _ => rfl) fun _ F => ok_events F TA
  have rem : RemF P w K mg base (ga K "Account") := by
    obtain ⟨fd, F, b⟩ := E.meth_ 38 (m := "remaining") (q := "Account.remaining") (j := 16) (ps := ["self"]) rfl (fun _ _ _ _ _ _ us hl => match us, hl with | [_], _ => rfl)
    exact ⟨_, fd, ok_rem F TA pla mer, meth_ok (E.c.fact 71 rfl), b⟩
  have lenf : LenF P w K mg base (ga K "Account") := by
    obtain ⟨fd, F, b⟩ := E.meth_ 27 (m := "__len__") (q := "Account.__len__") (j := 3) (ps := ["self"]) rfl (fun _ _ _ _ _ _ us hl => match us, hl with | [_], _ => rfl)
    exact ⟨_, fd, ok_aLen F TA fle, eqO_ok (ex_at E.e 7 rfl), ex_at E.e 8 rfl, b⟩
  have eqf : EqF P w K mg base (ga K "Account") := by
    obtain ⟨fd, F, b⟩ := E.meth_ 28 (m := "__eq__") (q := "Account.__eq__") (j := 4) (ps := ["self", "other"]) rfl (fun _ _ _ _ _ _ us hl => match us, hl with | [_, _], _ => rfl)
    exact ⟨⟨_, fd, ok_aEq F TA E.acci fi gC, eqO_ok (ex_at E.e 9 rfl), ex_at E.e 10 rfl, b⟩, eqO_ok (ex_at E.e 11 rfl), of_decide_eq_true (ex_at E.e 12 rfl), of_decide_eq_true (ex_at E.e 13 rfl)⟩
  obtain ⟨fdI, FI, bI⟩ := E.meth_ 26 (m := "__init__") (q := "Account.__init__") (j := 1) (ps := ["self", "life"]) rfl (fun _ _ _ _ _ _ us hl => match us, hl with | [_, _], _ => rfl)
  have oI : FnOk P w K mg base (L2N.CX P w) 3 (ma K (ga K "Account") "__init__") fdI ["self", "life"] (spAccInit (ga K "Account") (ga K "InvalidLife")) := ok_accInit FI TA neL
  have mkI : Mk K (ga K "Account") (ma K (ga K "Account") "__init__") := mkr_ok (E.c.fact 72 rfl)
  have clsf : ClsF P w K mg base (ga K "Account") := by
    obtain ⟨u, hv⟩ := cval_ok (ex_at E.e 28 rfl)
    obtain ⟨fd, F⟩ := DefY.fun_ (K := K) (d := dDes "yearly" "classmethod" "classmethod" "Account.yearly" 2) (st := sAcc 2) (E.y _ (List.mem_cons_of_mem _ (List.mem_cons_of_mem _ List.mem_cons_self))).1 (E.y _ (List.mem_cons_of_mem _ (List.mem_cons_of_mem _ List.mem_cons_self))).2 rfl rfl rfl
    have b : Binds K fd ["cls"] [] := fun_bN F fun _ _ _ _ _ _ us hl => match us, hl with | [_], _ => rfl
    exact ⟨_, u, _, _, cread_ok (ex_at E.e 27 rfl), hv, cmet_ok (ex_at E.e 29 rfl), ((ok_yearly F mkI oI bI).raw b .nil).imp fun vs H Q E h => by rw [List.append_nil]; exact h⟩
  have pti : Prp0 P w K mg base (ga K "Account") "time" "now" := E.prp (q := "Account.time") (j := 12) (List.mem_cons_of_mem _ List.mem_cons_self) (ex_at E.e 31 rfl) (fun _ _ _ _ _ _ us hl => match us, hl with | [_], _ => rfl) ⟨rfl, rfl, rfl, by decide +kernel, rfl, by decide +kernel, by decide +kernel⟩ ⟨_, _, _, rfl⟩ TA.nN
  have pli : Prp0 P w K mg base (ga K "Account") "life" "span" := E.prp (q := "Account.life") (j := 11) List.mem_cons_self (ex_at E.e 30 rfl) (fun _ _ _ _ _ _ us hl => match us, hl with | [_], _ => rfl) ⟨rfl, rfl, rfl, by decide +kernel, rfl, by decide +kernel, by decide +kernel⟩ ⟨_, _, _, rfl⟩ TA.nS
  have rig : Cal0 P w K mg base CX0 6 "_law_right" ["_law_account", "_law_state", "_law_span"] (spRight (ga K "Account")) := E.cal 24 rfl rfl (fun _ _ _ _ _ _ us hl => match us, hl with | [_, _, _], _ => rfl) fun _ F _ => ok_right F TA fle fsu lot lme sam rem lenf mev mba mla pti pli
  have lea : Cal0 P w K mg base (L2N.CX P w) 5 "_law_earn" ["_law_account", "_law_time", "_law_what"] (spLEarn (ga K "Account") (erK K)) := E.cal 22 rfl rfl (fun _ _ _ _ _ _ us hl => match us, hl with | [_, _, _], _ => rfl) fun _ F _ => ok_lEarn F TA fle ear
  have doo : Cal0 P w K mg base CX0 8 "_law_do" ["_law_account", "_law_deed_here"] (spDo (ga K "Account") (TK K)) := by
    obtain ⟨fd, F⟩ := E.c.def_ 23 (d := dTop "_law_do" 46) rfl
    have F' : Fun K "_law_do" "_law_do" (top 46) (ga K "_law_do") fd := fun_of F
    have b : Binds K fd ["_law_account", "_law_deed_here"] [] := fun_bN F' fun _ _ _ _ _ _ us hl => match us, hl with | [_, _], _ => rfl
    exact ⟨ga K "_law_do", fd, ok_do (funC_of (p := ("_law_do", none)) F) TA tryf E.trc cap E.errt TD (List.mem_cons_self) (tk_do hne) lea spe wai und, E.glo 23 rfl, F.kp, b⟩
  exact ⟨dck, pck, one, dee, nex, sam, doo, rig, TA, ⟨_, fdI, mkI, oI, bI⟩, gC, eqf, und, ear, lenf, tryf, E.trc, cap, E.errt, err_ok (by decide) (ex_at E.e 37 rfl), TL, List.mem_cons_of_mem _ List.mem_cons_self, tk_law hne, pti, pli, clsf, fle, fra, fi, ft⟩
end
end K16
-- part KFin
set_option Elab.async false
set_option linter.all false
set_option maxRecDepth 100000
set_option maxHeartbeats 0
namespace K16
open PySem PySem.Spec PyProof.Rows L2 He
theorem law_at {w : World} {mg : Str → Option Value} {fa : Addr} {h : Heap} (Y : hkL.says w h) (G : h.Ns mainGlobals mg) (hfa : mg ("law" : Str) = some (.ref fa)) :
    ∃ K : PySem.W.Frag, K.In h ∧ LamX.LawAtS PySem.Challenge.rw_lapsepoints_k16_whole_accounts_step_by_s w K CX0 9 63 "_law_script" mg fa h := by
  obtain ⟨K, X, S⟩ := Y
  have c := S.x.t.d
  obtain ⟨fd, F⟩ := c.def_ 25 (d := dTop "law" 48) rfl
  have e := hfa.symm.trans (glo_ok X G (c.fact 25 (f := .glo "law") rfl))
  cases e
  have hne : (cT K ("_law_do", none)).2 ≠ (cT K ("law", none)).2 := of_decide_eq_true (ex_at S.x.more 38 rfl)
  have m1 : (("_law_do", none) : Defn) ∈ tfL := List.mem_cons_self
  have m2 : (("law", none) : Defn) ∈ tfL := List.mem_cons_of_mem _ List.mem_cons_self
  have two : ∀ {Pz : Addr × Addr → Prop}, Pz (cT K ("_law_do", none)) → Pz (cT K ("law", none)) → ∀ p ∈ [cT K ("_law_do", none), cT K ("law", none)], Pz p := fun {Pz} a b p hp => by
    rcases List.mem_cons.mp hp with z | z
    · rw [z]; exact a
    · rcases List.mem_cons.mp z with z | z
      · rw [z]; exact b
      · cases z
  refine ⟨K, X, fd, [cT K ("_law_do", none), cT K ("law", none)], spLaw K (TK K), two (S.x.empty _ m1) (S.x.empty _ m2), two (S.x.out _ m1) (S.x.out _ m2), two (PySem.W.codeHd_of_K X (S.x.hd _ m1)) (PySem.W.codeHd_of_K X (S.x.hd _ m2)), fun s u => ?_, fun H a ns hl _ hT hS => ?_, fun base Xb Gb TB => ?_⟩
  · have F' : FunD K "law" "law" (defArgs (top 48)) (defBody (top 48)) (defScope (top 48)) [] [] (ga K "law") fd := F
    exact FunD.bindsA (ps := ["_law_script"]) F' (fun _ _ _ _ _ _ us hl => match us, hl with | [_], _ => rfl) s [u] rfl
  · refine ⟨a, ns, rfl, hS, hl, fun p hp => ?_, fun _ => rfl⟩
    rcases List.mem_cons.mp hp with z | z
    · rw [z]
      exact .nil (hT _ List.mem_cons_self)
    · rcases List.mem_cons.mp z with z | z
      · rw [z]
        exact .nil (hT _ (List.mem_cons_of_mem _ List.mem_cons_self))
      · cases z
  · exact ok_law (funC_of (p := ("law", none)) F) ((EnvL.mk Xb Gb c S.x.more S.y).law (TB _ List.mem_cons_self) (TB _ (List.mem_cons_of_mem _ List.mem_cons_self)) hne)
end K16
open PySem PySem.W PySem.Calls PyProof.Rows
theorem PySem.Challenge.cw_lapsepoints_k16_whole_accounts_step_by_s_holds : PySem.Challenge.rw_lapsepoints_k16_whole_accounts_step_by_s.Holds := by
  w_on; o_law
  refine HandSHeadRun.head_any (r := K16.R) (q := K16.qv) (H := K16.hkL) (ob := K16.obL) (M := 20000) (loose := K16.names) (d := HandSHeadRun.topDef K16.R.prog 48) (kwd := []) K16.obL_eq
    (by kernel_rfl) (fun s => by kernel_rfl) K16.runL (by kernel_rfl) (by kernel_rfl) (by kernel_rfl) (by rfl) (by first | assumption | decide +kernel) (by decide +kernel) ⟨rfl, rfl, rfl, rfl, rfl, by decide +kernel⟩ ?hw ?hc
  case hw => w_witness2
  case hc =>
    refine LamX.walk_ofTsE (l := PySem.Challenge.rw_lapsepoints_k16_whole_accounts_step_by_s) (n := 63) (k := 9) (x := "_law_script") (CX := fun _ => L2.CX0) rfl (by decide) (by kernel_rfl) ⟨rfl, by decide, by decide⟩ ?F (fun _ _ _ _ _ z => z)
    intro w mg fa h Y G hmg0
    have hmg : mg ("law" : PySem.Str) = some (.ref fa) := by
      have e : (HandSHeadRun.topDef K16.R.prog 48).name = ("law" : PySem.Str) := by kernel_rfl
      rw [← e]
      exact hmg0
    exact K16.law_at Y G hmg
