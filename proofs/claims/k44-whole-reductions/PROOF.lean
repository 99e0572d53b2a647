import PyProof.Rows.All
import Wide.All
import OpenK.AllK
import Wide.FinOn
import KE.KStateDown
import Lean
import HandS.ForMost
import HandS.NoneIn
import HandS.Exc
import HandS.Codes
import HandS.Defaults
import HandS.Evl
import HandS.TupAny
import HandS.IsInst
import HandS.Conv
import HandS.DictComp
import HandS.SetFor
import HandS.Style
import HandS.Walk
import KE.GoesEnum
import HandS.Head0
import HandS.Head1
import HandS.Head2
import HandS.HeadEnd
import HandS.HeadHook1
import HandS.HeadHook2
import PySem.Challenge.RW_allbide_k44_whole_reductions_by_whomever
set_option Elab.async false
set_option linter.all false
set_option maxRecDepth 100000
set_option maxHeartbeats 4000000
namespace Abl
/-! ### the plain mathematics: steps -/
structure Stp where
  up : Bool
  e : Int
  t : Int
  deriving DecidableEq
def mx (a b : Int) : Int := if b > a then b else a
def mn (a b : Int) : Int := if b < a then b else a
/-- what a step does to the height of event c -/
def act (B : Int → Int → Option Int) (c : Int) (st : Stp) (h : Int) : Int :=
  if st.up then (match B c st.e with | some d => mx h (st.t - d) | none => h)
  else (match B st.e c with | some d => mn h (st.t + d) | none => h)
def actAll (B : Int → Int → Option Int) (c : Int) (ss : List Stp) (h : Int) : Int := ss.foldl (fun h st => act B c st h) h
def commM (a b : Stp) : Bool :=
  if a.up = b.up then true
  else if a.up then decide (a.e = b.e) && decide (a.t ≤ b.t) else decide (b.e = a.e) && decide (b.t ≤ a.t)
def strongM (a b : Stp) : Bool := if a.up then decide (b.t < a.t) else decide (a.t < b.t)
def idleM (ss : List Stp) (i j : Nat) : Bool :=
  match ss[i]?, ss[j]? with
  | some a, some b =>
    if i = j ∨ a.up ≠ b.up ∨ a.e ≠ b.e then false
    else if i < j then !strongM a b
    else strongM b a && ((ss.take i).drop (j + 1)).all (commM a)
  | _, _ => false
theorem mx_ge1 (a b : Int) : a ≤ mx a b := by unfold mx; split <;> omega
theorem mx_ge2 (a b : Int) : b ≤ mx a b := by unfold mx; split <;> omega
theorem mx_le {a b c : Int} (h1 : a ≤ c) (h2 : b ≤ c) : mx a b ≤ c := by unfold mx; split <;> omega
theorem mn_le1 (a b : Int) : mn a b ≤ a := by unfold mn; split <;> omega
theorem mn_le2 (a b : Int) : mn a b ≤ b := by unfold mn; split <;> omega
theorem mn_ge {a b c : Int} (h1 : c ≤ a) (h2 : c ≤ b) : c ≤ mn a b := by unfold mn; split <;> omega
theorem mx_eq1 {a b : Int} (h : b ≤ a) : mx a b = a := by unfold mx; split <;> omega
theorem mn_eq1 {a b : Int} (h : a ≤ b) : mn a b = a := by unfold mn; split <;> omega
theorem act_mono (B : Int → Int → Option Int) (c : Int) (st : Stp) {x y : Int} (h : x ≤ y) : act B c st x ≤ act B c st y := by
  unfold act
  split
  · split
    · exact mx_le (Int.le_trans h (mx_ge1 _ _)) (mx_ge2 _ _)
    · exact h
  · split
    · exact mn_ge (Int.le_trans (mn_le1 _ _) h) (mn_le2 _ _)
    · exact h
theorem actAll_mono (B : Int → Int → Option Int) (c : Int) (ss : List Stp) : ∀ {x y : Int}, x ≤ y → actAll B c ss x ≤ actAll B c ss y := by
  induction ss with
  | nil => intro x y h; exact h
  | cons s r ih => intro x y h; exact ih (act_mono B c s h)
/-- what was lifted to a at first is behind the steps at most at the greater of a and what comes else -/
theorem act_up (B : Int → Int → Option Int) (c : Int) (st : Stp) (x y a : Int) (h : y ≤ mx x a) : act B c st y ≤ mx (act B c st x) a := by
  unfold act
  split
  · split
    · rename_i d _
      refine mx_le (Int.le_trans h (mx_le (Int.le_trans (mx_ge1 _ _) (mx_ge1 _ _)) (mx_ge2 _ _))) (Int.le_trans (mx_ge2 x (st.t - d)) (mx_ge1 _ _))
    · exact h
  · split
    · rename_i d _
      have h1 := mn_le1 y (st.t + d)
      have h2 := mn_le2 y (st.t + d)
      unfold mx at h ⊢
      unfold mn at h1 h2 ⊢
      repeat' split at h
      all_goals (repeat' split at h1)
      all_goals (repeat' split)
      all_goals omega
    · exact h
theorem actAll_up (B : Int → Int → Option Int) (c : Int) (ss : List Stp) : ∀ (x y a : Int), y ≤ mx x a → actAll B c ss y ≤ mx (actAll B c ss x) a := by
  induction ss with
  | nil => intro x y a h; exact h
  | cons s r ih => intro x y a h; exact ih _ _ a (act_up B c s x y a h)
theorem act_dn (B : Int → Int → Option Int) (c : Int) (st : Stp) (x y a : Int) (h : mn x a ≤ y) : mn (act B c st x) a ≤ act B c st y := by
  unfold act
  split
  · split
    · rename_i d _
      have h1 := mx_ge1 y (st.t - d)
      have h2 := mx_ge2 y (st.t - d)
      unfold mn at h ⊢
      unfold mx at h1 h2 ⊢
      repeat' split at h
      all_goals (repeat' split at h1)
      all_goals (repeat' split)
      all_goals omega
    · exact h
  · split
    · rename_i d _
      refine mn_ge (Int.le_trans (mn_ge (Int.le_trans (mn_le1 _ _) (mn_le1 _ _)) (mn_le2 _ _)) h) (Int.le_trans (mn_le1 _ _) (mn_le2 x (st.t + d)))
    · exact h
theorem actAll_dn (B : Int → Int → Option Int) (c : Int) (ss : List Stp) : ∀ (x y a : Int), mn x a ≤ y → mn (actAll B c ss x) a ≤ actAll B c ss y := by
  induction ss with
  | nil => intro x y a h; exact h
  | cons s r ih => intro x y a h; exact ih _ _ a (act_dn B c s x y a h)
/-- a step that a later one makes idle -/
theorem idle_later (B : Int → Int → Option Int) (c : Int) (a b : Stp) (ms : List Stp) (h : Int) (hu : a.up = b.up) (he : a.e = b.e) (hs : strongM a b = false) :
    act B c b (actAll B c ms (act B c a h)) = act B c b (actAll B c ms h) := by
  cases ha : a.up with
  | true =>
    have hb : b.up = true := by rw [← hu]; exact ha
    have ht : a.t ≤ b.t := by
      unfold strongM at hs
      rw [ha] at hs
      simp at hs
      exact hs
    cases hd : B c a.e with
    | none =>
      have e1 : act B c a h = h := by unfold act; rw [ha, if_pos rfl, hd]
      rw [e1]
    | some d =>
      have e1 : act B c a h = mx h (a.t - d) := by unfold act; rw [ha, if_pos rfl, hd]
      have e2 : ∀ z, act B c b z = mx z (b.t - d) := fun z => by unfold act; rw [hb, if_pos rfl, ← he, hd]
      have u := actAll_up B c ms h (mx h (a.t - d)) (a.t - d) (Int.le_refl _)
      have m := actAll_mono B c ms (mx_ge1 h (a.t - d))
      rw [e2, e2, e1]
      unfold mx at u ⊢
      repeat' split at u
      all_goals (repeat' split)
      all_goals (unfold mx at m; repeat' split at m)
      all_goals omega
  | false =>
    have hb : b.up = false := by rw [← hu]; exact ha
    have ht : b.t ≤ a.t := by
      unfold strongM at hs
      rw [ha] at hs
      simp at hs
      exact hs
    have nf : ¬ (false = true) := by decide
    cases hd : B a.e c with
    | none =>
      have e1 : act B c a h = h := by unfold act; rw [ha, if_neg nf, hd]
      rw [e1]
    | some d =>
      have e1 : act B c a h = mn h (a.t + d) := by unfold act; rw [ha, if_neg nf, hd]
      have e2 : ∀ z, act B c b z = mn z (b.t + d) := fun z => by unfold act; rw [hb, if_neg nf, ← he, hd]
      have u := actAll_dn B c ms h (mn h (a.t + d)) (a.t + d) (Int.le_refl _)
      have m := actAll_mono B c ms (mn_le1 h (a.t + d))
      rw [e2, e2, e1]
      unfold mn at u ⊢
      repeat' split at u
      all_goals (repeat' split)
      all_goals (unfold mn at m; repeat' split at m)
      all_goals omega
/-- no two events are less than nothing apart, there and back -/
def NoNeg (B : Int → Int → Option Int) : Prop := ∀ i j a b, B i j = some a → B j i = some b → 0 ≤ a + b
/-- a height that is at least u - d(c, e) stays so through steps that commute with raising e by u -/
theorem keep_up (B : Int → Int → Option Int) (nn : NoNeg B) (c : Int) (a : Stp) (ha : a.up = true) (d : Int) (hd : B c a.e = some d) : ∀ (ms : List Stp) (h : Int), ms.all (commM a) = true → a.t - d ≤ h → a.t - d ≤ actAll B c ms h
  | [], h, _, hh => hh
  | s :: r, h, hc, hh => by
    rw [List.all_cons, Bool.and_eq_true] at hc
    refine keep_up B nn c a ha d hd r (act B c s h) hc.2 ?_
    unfold act
    cases hs : s.up with
    | true =>
      rw [if_pos rfl]
      split
      · exact Int.le_trans hh (mx_ge1 _ _)
      · exact hh
    | false =>
      rw [if_neg (by decide)]
      have h1 := hc.1
      unfold commM at h1
      rw [ha, hs] at h1
      simp at h1
      split
      · rename_i d2 hd2
        rw [← h1.1] at hd2
        have := nn _ _ _ _ hd hd2
        exact mn_ge hh (by omega)
      · exact hh
theorem keep_dn (B : Int → Int → Option Int) (nn : NoNeg B) (c : Int) (a : Stp) (ha : a.up = false) (d : Int) (hd : B a.e c = some d) : ∀ (ms : List Stp) (h : Int), ms.all (commM a) = true → h ≤ a.t + d → actAll B c ms h ≤ a.t + d
  | [], h, _, hh => hh
  | s :: r, h, hc, hh => by
    rw [List.all_cons, Bool.and_eq_true] at hc
    refine keep_dn B nn c a ha d hd r (act B c s h) hc.2 ?_
    unfold act
    cases hs : s.up with
    | true =>
      rw [if_pos rfl]
      have h1 := hc.1
      unfold commM at h1
      rw [ha, hs] at h1
      simp at h1
      split
      · rename_i d2 hd2
        rw [h1.1] at hd2
        have := nn _ _ _ _ hd hd2
        exact mx_le hh (by omega)
      · exact hh
    | false =>
      rw [if_neg (by decide)]
      split
      · exact Int.le_trans (mn_le1 _ _) hh
      · exact hh
/-- a step that an earlier one makes idle -/
theorem idle_before (B : Int → Int → Option Int) (nn : NoNeg B) (c : Int) (a b : Stp) (ms : List Stp) (h : Int) (hu : a.up = b.up) (he : a.e = b.e) (hs : strongM b a = true) (hc : ms.all (commM a) = true) :
    act B c a (actAll B c ms (act B c b h)) = actAll B c ms (act B c b h) := by
  cases ha : a.up with
  | true =>
    have hb : b.up = true := by rw [← hu]; exact ha
    have ht : a.t < b.t := by
      unfold strongM at hs
      rw [hb] at hs
      simpa using hs
    cases hd : B c a.e with
    | none => unfold act; rw [ha, if_pos rfl, hd]
    | some d =>
      have e1 : ∀ z, act B c a z = mx z (a.t - d) := fun z => by unfold act; rw [ha, if_pos rfl, hd]
      have e2 : act B c b h = mx h (b.t - d) := by unfold act; rw [hb, if_pos rfl, ← he, hd]
      rw [e1]
      refine mx_eq1 (keep_up B nn c a ha d hd ms _ hc ?_)
      rw [e2]
      have := mx_ge2 h (b.t - d)
      omega
  | false =>
    have nf : ¬ (false = true) := by decide
    have hb : b.up = false := by rw [← hu]; exact ha
    have ht : b.t < a.t := by
      unfold strongM at hs
      rw [hb] at hs
      simpa using hs
    cases hd : B a.e c with
    | none => unfold act; rw [ha, if_neg nf, hd]
    | some d =>
      have e1 : ∀ z, act B c a z = mn z (a.t + d) := fun z => by unfold act; rw [ha, if_neg nf, hd]
      have e2 : act B c b h = mn h (b.t + d) := by unfold act; rw [hb, if_neg nf, ← he, hd]
      rw [e1]
      refine mn_eq1 (keep_dn B nn c a ha d hd ms _ hc ?_)
      rw [e2]
      have := mn_le2 h (b.t + d)
      omega
theorem actAll_append (B : Int → Int → Option Int) (c : Int) (xs ys : List Stp) (h : Int) : actAll B c (xs ++ ys) h = actAll B c ys (actAll B c xs h) := by
  unfold actAll; rw [List.foldl_append]
theorem actAll_cons (B : Int → Int → Option Int) (c : Int) (x : Stp) (ys : List Stp) (h : Int) : actAll B c (x :: ys) h = actAll B c ys (act B c x h) := rfl
theorem split_at {α : Type} {l : List α} {i : Nat} {a : α} (h : l[i]? = some a) : l = l.take i ++ a :: l.drop (i + 1) := by
  obtain ⟨hi, e⟩ := List.getElem?_eq_some_iff.mp h
  rw [← e, ← List.drop_eq_getElem_cons hi, List.take_append_drop]
/-- an idle step left out: the same comes -/
theorem idle_out (B : Int → Int → Option Int) (nn : NoNeg B) (c : Int) (ss : List Stp) (i j : Nat) (h : Int) (hi : idleM ss i j = true) : actAll B c (ss.eraseIdx i) h = actAll B c ss h := by
  unfold idleM at hi
  cases ea : ss[i]? with
  | none => rw [ea] at hi; cases hi
  | some a =>
    cases eb : ss[j]? with
    | none => rw [ea, eb] at hi; cases hi
    | some b =>
      rw [ea, eb] at hi
      simp only at hi
      split at hi
      · cases hi
      · rename_i hn
        simp only [not_or, Decidable.not_not] at hn
        obtain ⟨hij, hu, he⟩ := hn
        have si := split_at ea
        rw [List.eraseIdx_eq_take_drop_succ]
        split at hi
        · rename_i hlt
          have hs : strongM a b = false := by simpa using hi
          -- b stands in the rest
          have eb2 : (ss.drop (i + 1))[j - (i + 1)]? = some b := by
            rw [List.getElem?_drop, show i + 1 + (j - (i + 1)) = j by omega]
            exact eb
          have sj := split_at eb2
          generalize hm : (ss.drop (i + 1)).take (j - (i + 1)) = ms at sj
          generalize hr : (ss.drop (i + 1)).drop (j - (i + 1) + 1) = rs at sj
          conv => rhs; rw [si]
          rw [actAll_append, actAll_append, actAll_cons, sj, actAll_append, actAll_append, actAll_cons, actAll_cons,
            idle_later B c a b ms _ hu he hs]
        · rename_i hlt
          rw [Bool.and_eq_true] at hi
          obtain ⟨hs, hc⟩ := hi
          have hji : j < i := by omega
          have eb2 : (ss.take i)[j]? = some b := by
            rw [List.getElem?_take, if_pos hji]
            exact eb
          have sj := split_at eb2
          generalize hm : (ss.take i).drop (j + 1) = ms at sj hc
          generalize hr : (ss.take i).take j = rs at sj
          conv => rhs; rw [si]
          rw [actAll_append, actAll_append, actAll_cons, sj, actAll_append, actAll_cons, idle_before B nn c a b ms _ hu he hs hc]
/-- the heights behind a step, behind steps -/
def stepM (B : Int → Int → Option Int) (ts : List Int) (st : Stp) : List Int := ts.mapIdx fun c h => act B (c : Int) st h
def runM (B : Int → Int → Option Int) (ts : List Int) (ss : List Stp) : List Int := ss.foldl (stepM B) ts
theorem runM_eq (B : Int → Int → Option Int) : ∀ (ss : List Stp) (ts : List Int), runM B ts ss = ts.mapIdx fun c h => actAll B (c : Int) ss h
  | [], ts => by
    show ts = ts.mapIdx fun c h => h
    refine List.ext_getElem? fun i => ?_
    rw [List.getElem?_mapIdx]
    cases ts[i]? <;> rfl
  | s :: r, ts => by
    show runM B (stepM B ts s) r = _
    rw [runM_eq B r (stepM B ts s)]
    unfold stepM
    rw [List.mapIdx_mapIdx]
    rfl
theorem runM_idle (B : Int → Int → Option Int) (nn : NoNeg B) (ts : List Int) (ss : List Stp) (i j : Nat) (hi : idleM ss i j = true) : runM B ts (ss.eraseIdx i) = runM B ts ss := by
  rw [runM_eq, runM_eq]
  refine List.ext_getElem? fun c => ?_
  rw [List.getElem?_mapIdx, List.getElem?_mapIdx]
  cases ts[c]? with
  | none => rfl
  | some h => exact congrArg some (idle_out B nn c ss i j h hi)
theorem runM_length (B : Int → Int → Option Int) (ts : List Int) (ss : List Stp) : (runM B ts ss).length = ts.length := by
  rw [runM_eq, List.length_mapIdx]
end Abl
namespace Abl
/-! ### the plain mathematics: nets, walks, bounds -/
structure Rule where
  s : Int
  e : Int
  lo : Option Int
  hi : Option Int
  deriving DecidableEq
/-- the edges: near, far, weight -/
def Rule.edges (r : Rule) : List (Int × Int × Int) :=
  (match r.hi with | some h => [(r.s, r.e, h)] | none => []) ++ (match r.lo with | some l => [(r.e, r.s, 0 - l)] | none => [])
def edgesM (rs : List Rule) : List (Int × Int × Int) := rs.flatMap Rule.edges
theorem edges_len (r : Rule) : r.edges.length ≤ 2 := by
  unfold Rule.edges
  cases r.hi <;> cases r.lo <;> simp
theorem edgesM_len : ∀ rs : List Rule, (edgesM rs).length ≤ 2 * rs.length
  | [] => Nat.le_refl _
  | r :: q => by
    have h := edgesM_len q
    have h2 := edges_len r
    show (r.edges ++ edgesM q).length ≤ 2 * (q.length + 1)
    rw [List.length_append]
    omega
/-- a rule holds for the times -/
def Rule.keeps (r : Rule) (t : Int → Int) : Prop := (∀ l, r.lo = some l → l ≤ t r.e - t r.s) ∧ (∀ h, r.hi = some h → t r.e - t r.s ≤ h)
def GoodE (t : Int → Int) (es : List (Int × Int × Int)) : Prop := ∀ p ∈ es, t p.2.1 - t p.1 ≤ p.2.2
theorem goodE (t : Int → Int) (rs : List Rule) (h : ∀ r ∈ rs, r.keeps t) : GoodE t (edgesM rs) := by
  intro p hp
  unfold edgesM at hp
  obtain ⟨r, hr, hp⟩ := List.mem_flatMap.mp hp
  obtain ⟨h1, h2⟩ := h r hr
  unfold Rule.edges at hp
  rcases List.mem_append.mp hp with hp | hp
  · cases e : r.hi with
    | none => rw [e] at hp; cases hp
    | some x =>
      rw [e] at hp
      have hp := List.mem_singleton.mp hp
      subst hp
      exact h2 x e
  · cases e : r.lo with
    | none => rw [e] at hp; cases hp
    | some x =>
      rw [e] at hp
      have hp := List.mem_singleton.mp hp
      subst hp
      have := h1 x e
      show t r.s - t r.e ≤ 0 - x
      omega
abbrev Ky := Int × Int
abbrev Wk := List (Ky × Int)
def getW (m : Wk) (k : Ky) : Option Int := (m.find? fun p => decide (p.1 = k)).map (·.2)
def putW (m : Wk) (k : Ky) (v : Int) : Wk := if (m.any fun p => decide (p.1 = k)) = true then m.map fun p => if p.1 = k then (p.1, v) else p else m ++ [(k, v)]
def Good (t : Int → Int) (m : Wk) : Prop := ∀ p ∈ m, t p.1.2 - t p.1.1 ≤ p.2
theorem getW_mem {m : Wk} {k : Ky} {v : Int} (h : getW m k = some v) : (k, v) ∈ m := by
  unfold getW at h
  cases e : m.find? fun p => decide (p.1 = k) with
  | none => rw [e] at h; cases h
  | some p =>
    rw [e] at h
    have h2 : p.2 = v := Option.some.inj h
    have h1 : p.1 = k := by simpa using List.find?_some e
    have h3 := List.mem_of_find?_eq_some e
    rw [← h1, ← h2]
    exact h3
theorem Good.get {t : Int → Int} {m : Wk} {k : Ky} {v : Int} (g : Good t m) (h : getW m k = some v) : t k.2 - t k.1 ≤ v := g _ (getW_mem h)
theorem Good.put {t : Int → Int} {m : Wk} {k : Ky} {v : Int} (g : Good t m) (h : t k.2 - t k.1 ≤ v) : Good t (putW m k v) := by
  unfold putW
  split
  · intro p hp
    obtain ⟨q, hq, e⟩ := List.mem_map.mp hp
    split at e
    · rename_i hk
      rw [← e]
      show t q.1.2 - t q.1.1 ≤ v
      rw [hk]
      exact h
    · rw [← e]
      exact g q hq
  · intro p hp
    rcases List.mem_append.mp hp with hp | hp
    · exact g p hp
    · have e := List.mem_singleton.mp hp
      rw [e]
      exact h
theorem putW_len (m : Wk) (k : Ky) (v : Int) : (putW m k v).length ≤ m.length + 1 := by
  unfold putW
  split
  · rw [List.length_map]
    omega
  · rw [List.length_append]
    exact Nat.le_refl _
/-- none stands there, or a greater one -/
def betterM (o : Option Int) (n : Int) : Bool := match o with
  | none => true
  | some l => decide (n < l)
/-- one edge at the end of a walk -/
def relaxM (k : Ky) (len : Int) (f : Wk) (p : Int × Int × Int) : Wk :=
  if (decide (p.1 = k.2) && betterM (getW f (k.1, p.2.1)) (len + p.2.2)) = true then putW f (k.1, p.2.1) (len + p.2.2) else f
def relaxAll (es : List (Int × Int × Int)) (m : Wk) (f : Wk) (q : Ky × Int) : Wk := es.foldl (relaxM q.1 ((getW m q.1).getD 0)) f
def longerM (es : List (Int × Int × Int)) (m : Wk) : Wk := m.foldl (relaxAll es m) []
theorem Good.nil {t : Int → Int} : Good t [] := fun _ h => nomatch h
theorem Good.relax {t : Int → Int} {k : Ky} {len : Int} {f : Wk} {p : Int × Int × Int} (g : Good t f) (hl : t k.2 - t k.1 ≤ len) (hp : t p.2.1 - t p.1 ≤ p.2.2) : Good t (relaxM k len f p) := by
  unfold relaxM
  split
  · rename_i h
    rw [Bool.and_eq_true, decide_eq_true_eq] at h
    refine g.put ?_
    show t p.2.1 - t k.1 ≤ len + p.2.2
    rw [h.1] at hp
    omega
  · exact g
theorem Good.relaxes {t : Int → Int} {k : Ky} {len : Int} (hl : t k.2 - t k.1 ≤ len) : ∀ {es : List (Int × Int × Int)} {f : Wk}, GoodE t es → Good t f → Good t (es.foldl (relaxM k len) f)
  | [], _, _, g => g
  | p :: r, f, ge, g => Good.relaxes hl (es := r) (fun q hq => ge q (List.mem_cons_of_mem _ hq)) (g.relax hl (ge p (List.mem_cons_self ..)))
theorem any_key {m : Wk} {q : Ky × Int} (h : q ∈ m) : ∃ v, getW m q.1 = some v := by
  unfold getW
  cases e : m.find? fun p => decide (p.1 = q.1) with
  | some p => exact ⟨p.2, rfl⟩
  | none => exact absurd (List.find?_eq_none.mp e q h) (by simp)
theorem Good.longer {t : Int → Int} {es : List (Int × Int × Int)} (ge : GoodE t es) {m : Wk} (g : Good t m) : Good t (longerM es m) := by
  unfold longerM
  have main : ∀ (l : Wk) (f : Wk), (∀ q ∈ l, q ∈ m) → Good t f → Good t (l.foldl (relaxAll es m) f) := by
    intro l
    induction l with
    | nil => intro f _ gf; exact gf
    | cons q r ih =>
      intro f hs gf
      refine ih _ (fun x hx => hs x (List.mem_cons_of_mem _ hx)) ?_
      obtain ⟨v, hv⟩ := any_key (hs q (List.mem_cons_self ..))
      unfold relaxAll
      rw [hv]
      exact Good.relaxes (g.get hv) ge gf
  exact main m [] (fun _ h => h) Good.nil
theorem relaxM_len (k : Ky) (len : Int) (f : Wk) (p : Int × Int × Int) : (relaxM k len f p).length ≤ f.length + 1 := by
  unfold relaxM
  split
  · exact putW_len _ _ _
  · omega
theorem relaxes_len (k : Ky) (len : Int) : ∀ (es : List (Int × Int × Int)) (f : Wk), (es.foldl (relaxM k len) f).length ≤ f.length + es.length
  | [], f => Nat.le_refl _
  | p :: r, f => by
    have h := relaxes_len k len r (relaxM k len f p)
    have h2 := relaxM_len k len f p
    show (r.foldl (relaxM k len) (relaxM k len f p)).length ≤ f.length + (r.length + 1)
    omega
theorem longerL_len (es : List (Int × Int × Int)) (m : Wk) : ∀ (l f : Wk), (l.foldl (relaxAll es m) f).length ≤ f.length + l.length * es.length
  | [], f => by simp
  | q :: r, f => by
    have h := longerL_len es m r (relaxAll es m f q)
    have h2 : (relaxAll es m f q).length ≤ f.length + es.length := relaxes_len _ _ es f
    show (r.foldl (relaxAll es m) (relaxAll es m f q)).length ≤ f.length + (r.length + 1) * es.length
    rw [Nat.succ_mul]
    omega
theorem longer_len (es : List (Int × Int × Int)) (m : Wk) : (longerM es m).length ≤ m.length * es.length := by
  have h := longerL_len es m m []
  unfold longerM
  simpa using h
/-- each event from itself -/
def diagM (n : Nat) : Wk := (List.range n).foldl (fun f (i : Nat) => putW f ((i : Int), (i : Int)) 0) []
theorem good_diag (t : Int → Int) (n : Nat) : Good t (diagM n) := by
  unfold diagM
  have main : ∀ (l : List Nat) (f : Wk), Good t f → Good t (l.foldl (fun f (i : Nat) => putW f ((i : Int), (i : Int)) 0) f) := by
    intro l
    induction l with
    | nil => intro f g; exact g
    | cons i r ih =>
      intro f g
      refine ih _ (g.put ?_)
      show t i - t i ≤ 0
      omega
  exact main _ _ Good.nil
theorem diag_step (n : Nat) : diagM (n + 1) = putW (diagM n) ((n : Int), (n : Int)) 0 := by
  unfold diagM
  rw [List.range_succ, List.foldl_append]
  rfl
theorem diag_len : ∀ n : Nat, (diagM n).length ≤ n
  | 0 => Nat.le_refl _
  | n + 1 => by
    rw [diag_step]
    have h := putW_len (diagM n) ((n : Int), (n : Int)) 0
    have h2 := diag_len n
    omega
/-- a dict with another entry, as the program makes it: a copy, then the entry -/
def copyOne (b f : Wk) (q : Ky × Int) : Wk := putW f q.1 ((getW b q.1).getD 0)
def copyL (b : Wk) (l : Wk) : Wk := l.foldl (copyOne b) []
def withM (b : Wk) (k : Ky) (v : Int) : Wk := putW (copyL b b) k v
theorem copyL_len (b : Wk) : ∀ l : Wk, (copyL b l).length ≤ l.length := by
  have main : ∀ (l f : Wk), (l.foldl (copyOne b) f).length ≤ f.length + l.length := by
    intro l
    induction l with
    | nil => intro f; exact Nat.le_refl _
    | cons q r ih =>
      intro f
      have h := ih (copyOne b f q)
      have h2 : (copyOne b f q).length ≤ f.length + 1 := putW_len f q.1 ((getW b q.1).getD 0)
      show (r.foldl (copyOne b) (copyOne b f q)).length ≤ f.length + (r.length + 1)
      omega
  intro l
  have h := main l []
  unfold copyL
  simpa using h
theorem Good.copy {t : Int → Int} {b : Wk} (g : Good t b) : Good t (copyL b b) := by
  have main : ∀ (l f : Wk), (∀ q ∈ l, q ∈ b) → Good t f → Good t (l.foldl (copyOne b) f) := by
    intro l
    induction l with
    | nil => intro f _ gf; exact gf
    | cons q r ih =>
      intro f hs gf
      refine ih _ (fun x hx => hs x (List.mem_cons_of_mem _ hx)) ?_
      obtain ⟨v, hv⟩ := any_key (hs q (List.mem_cons_self ..))
      unfold copyOne
      rw [hv]
      exact gf.put (g.get hv)
  exact main b [] (fun _ h => h) Good.nil
theorem Good.withW {t : Int → Int} {b : Wk} {k : Ky} {v : Int} (g : Good t b) (h : t k.2 - t k.1 ≤ v) : Good t (withM b k v) := g.copy.put h
theorem with_len (b : Wk) (k : Ky) (v : Int) : (withM b k v).length ≤ b.length + 1 := by
  have h := putW_len (copyL b b) k v
  have h2 := copyL_len b b
  unfold withM
  omega
/-- the better of two -/
def bestOne (m : Wk) (b : Wk) (q : Ky × Int) : Wk := if betterM (getW b q.1) ((getW m q.1).getD 0) = true then withM b q.1 ((getW m q.1).getD 0) else b
def bestM (m b : Wk) : Wk := m.foldl (bestOne m) b
theorem Good.best {t : Int → Int} {m b : Wk} (gm : Good t m) (gb : Good t b) : Good t (bestM m b) := by
  have main : ∀ (l f : Wk), (∀ q ∈ l, q ∈ m) → Good t f → Good t (l.foldl (bestOne m) f) := by
    intro l
    induction l with
    | nil => intro f _ gf; exact gf
    | cons q r ih =>
      intro f hs gf
      refine ih _ (fun x hx => hs x (List.mem_cons_of_mem _ hx)) ?_
      obtain ⟨v, hv⟩ := any_key (hs q (List.mem_cons_self ..))
      unfold bestOne
      split
      · rw [hv]
        exact gf.withW (gm.get hv)
      · exact gf
  exact main m b (fun _ h => h) gb
theorem bestOne_len (m b : Wk) (q : Ky × Int) : (bestOne m b q).length ≤ b.length + 1 := by
  unfold bestOne
  split
  · exact with_len _ _ _
  · omega
theorem bestL_len (m : Wk) : ∀ (l b : Wk), (l.foldl (bestOne m) b).length ≤ b.length + l.length
  | [], b => Nat.le_refl _
  | q :: r, b => by
    have h := bestL_len m r (bestOne m b q)
    have h2 := bestOne_len m b q
    show (r.foldl (bestOne m) (bestOne m b q)).length ≤ b.length + (r.length + 1)
    omega
/-- walks of k edges, and the shortest of at most k -/
def walksM (es : List (Int × Int × Int)) (n : Nat) : Nat → Wk
  | 0 => diagM n
  | k + 1 => longerM es (walksM es n k)
def shortM (es : List (Int × Int × Int)) (n : Nat) : Nat → Wk
  | 0 => diagM n
  | k + 1 => bestM (walksM es n (k + 1)) (shortM es n k)
theorem good_walks (t : Int → Int) {es : List (Int × Int × Int)} (ge : GoodE t es) (n : Nat) : ∀ k, Good t (walksM es n k)
  | 0 => good_diag t n
  | k + 1 => Good.longer ge (good_walks t ge n k)
theorem good_short (t : Int → Int) {es : List (Int × Int × Int)} (ge : GoodE t es) (n : Nat) : ∀ k, Good t (shortM es n k)
  | 0 => good_diag t n
  | k + 1 => Good.best (good_walks t ge n (k + 1)) (good_short t ge n k)
theorem walks_len (es : List (Int × Int × Int)) (he : es.length ≤ 10) (n : Nat) (hn : n ≤ 4) : ∀ k, (walksM es n k).length ≤ 4 * 10 ^ k
  | 0 => Nat.le_trans (diag_len n) (by omega)
  | k + 1 => by
    have h := longer_len es (walksM es n k)
    have h2 := walks_len es he n hn k
    have h3 : (walksM es n k).length * es.length ≤ (4 * 10 ^ k) * 10 := Nat.mul_le_mul h2 he
    show (longerM es (walksM es n k)).length ≤ 4 * 10 ^ (k + 1)
    rw [Nat.pow_succ]
    omega
theorem short_len (es : List (Int × Int × Int)) (he : es.length ≤ 10) (n : Nat) (hn : n ≤ 4) : ∀ k, (shortM es n k).length ≤ 4 * 10 ^ k * 2
  | 0 => Nat.le_trans (diag_len n) (by omega)
  | k + 1 => by
    have h : (shortM es n (k + 1)).length ≤ (shortM es n k).length + (walksM es n (k + 1)).length := bestL_len _ _ _
    have h2 := short_len es he n hn k
    have h3 := walks_len es he n hn (k + 1)
    rw [Nat.pow_succ] at h3 ⊢
    omega
/-- the tight bounds as the program reckons them -/
def boundM (n : Nat) (rs : List Rule) (i j : Int) : Option Int := if 0 ≤ i ∧ i < n ∧ 0 ≤ j ∧ j < n then getW (shortM (edgesM rs) n (n - 1)) (i, j) else none
theorem bound_noNeg (n : Nat) (rs : List Rule) (t : Int → Int) (h : ∀ r ∈ rs, r.keeps t) (i j a b : Int) (h1 : boundM n rs i j = some a) (h2 : boundM n rs j i = some b) : 0 ≤ a + b := by
  have g := good_short t (goodE t rs h) n (n - 1)
  unfold boundM at h1 h2
  split at h1
  · split at h2
    · have e1 := g.get h1
      have e2 := g.get h2
      simp only at e1 e2
      omega
    · cases h2
  · cases h1
theorem diag_nonneg {t : Int → Int} {m : Wk} (g : Good t m) {i l : Int} (h : getW m (i, i) = some l) : 0 ≤ l := by
  have e := g.get h
  simp only at e
  omega
end Abl
namespace Abl
/-! ### the plain mathematics: reductions -/
def d0 : Stp := ⟨true, 0, 0⟩
def curM (ss : List Stp) (left : List Nat) : List Stp := left.map fun n => ss.getD n d0
/-- the first place at which the index stands -/
def atM (left : List Nat) (i : Int) : Option Nat := left.findIdx? fun (n : Nat) => decide ((n : Int) = i)
def leftOne (ss : List Stp) (left : List Nat) (it : Option (Int × Int)) : Option (List Nat) :=
  match it with
  | none => none
  | some (i, j) => match atM left i, atM left j with
    | some a, some b => if idleM (curM ss left) a b = true then some (left.eraseIdx a) else none
    | _, _ => none
def leftAll (ss : List Stp) : List (Option (Int × Int)) → List Nat → Option (List Nat)
  | [], left => some left
  | it :: r, left => match leftOne ss left it with
    | none => none
    | some l => leftAll ss r l
def leftM (ss : List Stp) (its : Option (List (Option (Int × Int)))) : Option (List Nat) :=
  match its with
  | none => none
  | some l => leftAll ss l (List.range ss.length)
theorem curM_len (ss : List Stp) (left : List Nat) : (curM ss left).length = left.length := List.length_map _
theorem curM_range (ss : List Stp) : curM ss (List.range ss.length) = ss := by
  unfold curM
  refine List.ext_getElem? fun i => ?_
  rw [List.getElem?_map]
  by_cases h : i < ss.length
  · rw [List.getElem?_range h]
    show some (ss.getD i d0) = ss[i]?
    rw [List.getD_eq_getElem?_getD, List.getElem?_eq_getElem h]
    rfl
  · rw [List.getElem?_eq_none (by simp; omega), List.getElem?_eq_none (by omega)]
    rfl
theorem map_erase {α β : Type} (f : α → β) : ∀ (l : List α) (a : Nat), (l.eraseIdx a).map f = (l.map f).eraseIdx a
  | [], _ => rfl
  | _ :: _, 0 => rfl
  | x :: r, a + 1 => congrArg (f x :: ·) (map_erase f r a)
theorem curM_erase (ss : List Stp) (left : List Nat) (a : Nat) : curM ss (left.eraseIdx a) = (curM ss left).eraseIdx a := by
  unfold curM
  exact (map_erase _ left a)
theorem leftOne_some {ss : List Stp} {left l : List Nat} {it : Option (Int × Int)} (h : leftOne ss left it = some l) : ∃ a b, idleM (curM ss left) a b = true ∧ l = left.eraseIdx a := by
  unfold leftOne at h
  split at h
  · cases h
  · split at h
    · split at h
      · rename_i a b _ _ hi
        exact ⟨a, b, hi, (Option.some.inj h).symm⟩
      · cases h
    · cases h
theorem leftAll_run (B : Int → Int → Option Int) (nn : NoNeg B) (ts : List Int) (ss : List Stp) : ∀ (its : List (Option (Int × Int))) (left l : List Nat), leftAll ss its left = some l → runM B ts (curM ss l) = runM B ts (curM ss left)
  | [], left, l, h => by
    have e : left = l := Option.some.inj h
    rw [e]
  | it :: r, left, l, h => by
    unfold leftAll at h
    cases e : leftOne ss left it with
    | none => rw [e] at h; cases h
    | some l1 =>
      rw [e] at h
      obtain ⟨a, b, hi, e1⟩ := leftOne_some e
      rw [leftAll_run B nn ts ss r l1 l h, e1, curM_erase, runM_idle B nn ts _ a b hi]
/-- what is left leads to the same heights -/
theorem leftM_run (B : Int → Int → Option Int) (nn : NoNeg B) (ts : List Int) (ss : List Stp) (its : Option (List (Option (Int × Int)))) (l : List Nat) (h : leftM ss its = some l) : runM B ts (curM ss l) = runM B ts ss := by
  unfold leftM at h
  split at h
  · cases h
  · rw [leftAll_run B nn ts ss _ _ _ h, curM_range]
end Abl
namespace Abl
open PySem PySem.Spec PyProof.Rows L2
/-! ### the text by places; a def that may be called -/
def topS (i : Nat) : Stmt := PySem.Challenge.pw_allbide_k44_whole_reductions_by_whomever.main.body.getD i (.Pass ⟨0, 0, 0, 0⟩)
/-- a def of the text as it stands behind the top, under its name -/
structure Has (K : PySem.W.Frag) (mg : Str → Option Value) (x : Str) (st : Stmt) (ps : List Str) : Prop where
  ex : ∃ (f : Addr) (fd : FuncData), FunD K x x (defArgs st) (defBody st) (defScope st) [] [] f fd ∧ mg x = some (.ref f) ∧ Binds K fd ps []
/-- what a body has to show -/
def Shows (P : Program) (w : World) (K : PySem.W.Frag) (mg : Str → Option Value) (base : Heap) (k : Nat) (x : Str) (st : Stmt) (N : List Str) (sp : Sp) : Prop :=
  ∀ (f : Addr) (cdv : Value) (A : Around) (outer : List Env) (s : Shared) (H : Hp) (vs : List V) (Q : VK) (E : XK), Room k (A.deeper (envOfC x (defScope st) s.heap.objs.size f cdv)) → sp vs H Q E →
    ∃ t, PSs (cxOf C8.CX0 P w K mg base N x (defScope st) f cdv A outer s H E).nox (defBody st) t ∧ t { nx := fun _ H' => Q .non H', rt := Q } (start N vs) H
theorem cal_of {P : Program} {w : World} {K : PySem.W.Frag} {mg : Str → Option Value} {base : Heap} {x : Str} {st : Stmt} {N ps : List Str} {k : Nat} {sp : Sp} (F : Has K mg x st ps) (S : FnScope N ps (defScope st))
    (len : ∀ vs H Q E, sp vs H Q E → vs.length = ps.length) (body : Shows P w K mg base k x st N sp) : C8.Cal P w K mg base (k + 1) x sp [] := by
  obtain ⟨f, fd, F1, g, b⟩ := F.ex
  refine ⟨f, fd, ps, [], F1.ok S len (fun cdv A outer s H vs Q E hr h => ?_), g, F1.kp, b, .nil⟩
  obtain ⟨t, h1, h2⟩ := body f cdv A outer s H vs Q E hr h
  exact ⟨t, h1.nox, h2⟩
/-- the names of the module that the defs ask for -/
structure Gm (mg : Str → Option Value) : Prop where
  len : mg "len" = none
  isinstance : mg "isinstance" = none
  all : mg "all" = none
  any : mg "any" = none
  tuple : mg "tuple" = none
  list : mg "list" = none
  int : mg "int" = none
  abs : mg "abs" = none
  max : mg "max" = none
  min : mg "min" = none
  range : mg "range" = none
  enumerate : mg "enumerate" = none
  int_ : mg "int" = none
  bool_ : mg "bool" = none
  str_ : mg "str" = none
  tuple_ : mg "tuple" = none
  cMOST_EVENTS : ∃ u, mg "MOST_EVENTS" = some u ∧ RelV (.int 6) u
  cMOST_RULES : ∃ u, mg "MOST_RULES" = some u ∧ RelV (.int 12) u
  cFARTHEST : ∃ u, mg "FARTHEST" = some u ∧ RelV (.int 100) u
  cLATEST : ∃ u, mg "LATEST" = some u ∧ RelV (.int 1000) u
  cMOST_EVENT : ∃ u, mg "MOST_EVENT" = some u ∧ RelV (.int 5) u
  cMOST_TIME : ∃ u, mg "MOST_TIME" = some u ∧ RelV (.int 500) u
  cMOST_STEPS : ∃ u, mg "MOST_STEPS" = some u ∧ RelV (.int 16) u
/-! ### heaps: what was tracked stands; all tuples stand -/
open Evl (Ex)
abbrev Tu (H H' : Hp) : Prop := ∀ a xs, H a = some (.tup xs) → H' a = some (.tup xs)
theorem Tu.of {H H' : Hp} (e : Ex H H') : Tu H H' := fun a xs h => e a _ h
theorem Tu.refl (H : Hp) : Tu H H := fun _ _ h => h
theorem Tu.trans {H H1 H2 : Hp} (a : Tu H H1) (b : Tu H1 H2) : Tu H H2 := fun c xs h => b c xs (a c xs h)
/-- a list changes -/
theorem Tu.put {H : Hp} {l : Addr} {o u : HO} (h : H l = some o) (no : ∀ xs, o ≠ .tup xs) : Tu H (upd H l u) := fun a xs e => by
  rw [upd_ne (ne_of e h fun z => no xs z.symm)]
  exact e
/-- a value as a rule of a net has it -/
def optV : Option Int → V
  | none => .non
  | some i => .int i
def RuleAt (H : Hp) (a : Addr) (r : Rule) : Prop := H a = some (.tup [.int r.s, .int r.e, optV r.lo, optV r.hi])
def NetAt (H : Hp) (a : Addr) (n : Nat) (rs : List Rule) : Prop := ∃ (R : Addr) (as : List Addr), H a = some (.tup [.int (n : Int), .ref R]) ∧ H R = some (.tup (as.map V.ref)) ∧ Paired (RuleAt H) as rs
def IntsAt (H : Hp) (a : Addr) (ts : List Int) : Prop := H a = some (.tup (ts.map V.int))
def Rule.ok (n : Nat) (r : Rule) : Prop := 0 ≤ r.s ∧ r.s < n ∧ 0 ≤ r.e ∧ r.e < n ∧ r.s ≠ r.e ∧ (∀ l, r.lo = some l → -100 ≤ l ∧ l ≤ 100) ∧ (∀ l, r.hi = some l → -100 ≤ l ∧ l ≤ 100) ∧ ¬ (r.lo = none ∧ r.hi = none)
structure NetOk (n : Nat) (rs : List Rule) : Prop where
  n1 : 1 ≤ n
  n4 : n ≤ 4
  r5 : rs.length ≤ 5
  ok : ∀ r ∈ rs, r.ok n
/-- the time of an event -/
def timeF (ts : List Int) (i : Int) : Int := ts.getD i.toNat 0
structure TimesOk (n : Nat) (rs : List Rule) (ts : List Int) : Prop where
  len : ts.length = n
  bd : ∀ t ∈ ts, -1000 ≤ t ∧ t ≤ 1000
  kp : ∀ r ∈ rs, r.keeps (timeF ts)
theorem pair_map {α β : Type} {F G : α → β → Prop} {l1 : List α} {l2 : List β} (h : Paired F l1 l2) (f : ∀ a b, F a b → G a b) : Paired G l1 l2 := L2.Paired.mapP h f
theorem NetAt.ts {H H' : Hp} {a : Addr} {n : Nat} {rs : List Rule} (e : Tu H H') (h : NetAt H a n rs) : NetAt H' a n rs := by
  obtain ⟨R, as, h1, h2, h3⟩ := h
  exact ⟨R, as, e _ _ h1, e _ _ h2, pair_map h3 fun a b q => e _ _ q⟩
theorem nat_at {α : Type} {l : List α} {i : Nat} {z : Int} {x : α} (e : z = (i : Int)) (h : l[i]? = some x) : atI l z = some x := by
  rw [e]
  exact atI_nat h
theorem pair_len {α β : Type} {F : α → β → Prop} {l1 : List α} {l2 : List β} (h : Paired F l1 l2) : l1.length = l2.length := Paired.length h
theorem pair_at {α β : Type} {F : α → β → Prop} : ∀ {l1 : List α} {l2 : List β}, Paired F l1 l2 → ∀ {i : Nat} {b : β}, l2[i]? = some b → ∃ a, l1[i]? = some a ∧ F a b
  | _, _, .nil, i, b, h => by simp at h
  | a :: r, b2 :: q, .cons h t, 0, b, e => by
    have e2 : b2 = b := Option.some.inj e
    subst e2
    exact ⟨a, rfl, h⟩
  | a :: r, b2 :: q, .cons h t, i + 1, b, e => pair_at (l1 := r) (l2 := q) t (i := i) e
theorem pair_at2 {α β : Type} {F : α → β → Prop} : ∀ {l1 : List α} {l2 : List β}, Paired F l1 l2 → ∀ {i : Nat} {a : α}, l1[i]? = some a → ∃ b, l2[i]? = some b ∧ F a b
  | _, _, .nil, i, b, h => by simp at h
  | a2 :: r, b :: q, .cons h t, 0, a, e => by
    have e2 : a2 = a := Option.some.inj e
    subst e2
    exact ⟨b, rfl, h⟩
  | a2 :: r, b :: q, .cons h t, i + 1, a, e => pair_at2 (l1 := r) (l2 := q) t (i := i) e
theorem pair_drop {α β : Type} {F : α → β → Prop} : ∀ {l1 : List α} {l2 : List β} (n : Nat), Paired F l1 l2 → Paired F (l1.drop n) (l2.drop n)
  | _, _, 0, h => h
  | _, _, _ + 1, .nil => .nil
  | _, _, n + 1, .cons _ t => pair_drop n t
theorem pair_take {α β : Type} {F : α → β → Prop} : ∀ {l1 : List α} {l2 : List β} (n : Nat), Paired F l1 l2 → Paired F (l1.take n) (l2.take n)
  | _, _, 0, _ => .nil
  | _, _, _ + 1, .nil => .nil
  | _, _, n + 1, .cons h t => .cons h (pair_take n t)
theorem range_all {α : Type} (l : List α) (d : α) (g : α → Bool) : (List.range l.length).all (fun k => g (l.getD k d)) = l.all g := by
  rw [Bool.eq_iff_iff, List.all_eq_true, List.all_eq_true]
  refine ⟨fun h x hx => ?_, fun h k hk => ?_⟩
  · obtain ⟨k, hk, e⟩ := List.getElem_of_mem hx
    have h2 := h k (List.mem_range.mpr hk)
    rw [List.getD_eq_getElem?_getD, List.getElem?_eq_getElem hk] at h2
    rw [← e]
    exact h2
  · have hk2 := List.mem_range.mp hk
    rw [List.getD_eq_getElem?_getD, List.getElem?_eq_getElem hk2]
    exact h _ (List.getElem_mem hk2)
theorem getD_of {α : Type} {l : List α} {k : Nat} {x d : α} (h : l[k]? = some x) : l.getD k d = x := by
  rw [List.getD_eq_getElem?_getD, h]
  rfl
theorem pair_snoc {α β : Type} {F : α → β → Prop} : ∀ {l1 : List α} {l2 : List β} {a : α} {b : β}, Paired F l1 l2 → F a b → Paired F (l1 ++ [a]) (l2 ++ [b])
  | _, _, _, _, .nil, h => .cons h .nil
  | _, _, _, _, .cons g t, h => .cons g (pair_snoc t h)
/-! ### steps -/
def kindS (b : Bool) : Str := if b then "raise" else "lower"
def StpAt (H : Hp) (a : Addr) (s : Stp) : Prop := H a = some (.tup [.str (kindS s.up), .int s.e, .int s.t])
def StepsAt (H : Hp) (a : Addr) (ss : List Stp) : Prop := ∃ as : List Addr, H a = some (.tup (as.map V.ref)) ∧ Paired (StpAt H) as ss
def Stp.ok (s : Stp) : Prop := 0 ≤ s.e ∧ s.e ≤ 2 ∧ -500 ≤ s.t ∧ s.t ≤ 500
structure StepsOk (ss : List Stp) : Prop where
  len : ss.length ≤ 12
  ok : ∀ s ∈ ss, s.ok
theorem StepsAt.ts {H H' : Hp} {a : Addr} {ss : List Stp} (e : Tu H H') (h : StepsAt H a ss) : StepsAt H' a ss := by
  obtain ⟨as, h1, h2⟩ := h
  exact ⟨as, e _ _ h1, pair_map h2 fun _ _ q => e _ _ q⟩
/-- a list of steps -/
def StepsL (H : Hp) (a : Addr) (ss : List Stp) : Prop := ∃ as : List Addr, H a = some (.lst (as.map V.ref)) ∧ Paired (StpAt H) as ss
theorem StepsL.ex {H H' : Hp} {a : Addr} {ss : List Stp} (e : Evl.Ex H H') (h : StepsL H a ss) : StepsL H' a ss := by
  obtain ⟨as, h1, h2⟩ := h
  exact ⟨as, e _ _ h1, pair_map h2 fun _ _ q => e _ _ q⟩
theorem kind_ne : ¬ (Str.ofString "raise" = Str.ofString "lower") := by decide +kernel
theorem kind_eq (a b : Bool) : decide (V.str (kindS a) = V.str (kindS b)) = decide (a = b) := by
  cases a <;> cases b
  · rfl
  · exact decide_eq_false fun z => kind_ne (V.str.inj z).symm
  · exact decide_eq_false fun z => kind_ne (V.str.inj z)
  · rfl
theorem kind_up (a : Bool) : decide (V.str (kindS a) = V.str (Str.ofString "raise")) = a := by
  have h := kind_eq a true
  rw [show kindS true = Str.ofString "raise" from rfl] at h
  rw [h]
  cases a <;> rfl
theorem kind_dn (a : Bool) : decide (V.str (kindS a) = V.str (Str.ofString "lower")) = !a := by
  have h := kind_eq a false
  rw [show kindS false = Str.ofString "lower" from rfl] at h
  rw [h]
  cases a <;> rfl
/-! ### evaluation: a few more words -/
section
open Evl
variable {K : PySem.W.Frag} {σ : L2.St} {H : Hp} {ta tb te : TE} {x v : V} {r : R2}
/-- isinstance of a value of a built-in type -/
theorem ev_isi {c : String} {t : String} {b : Bool} (ha : Ev ta σ H x) (hb : Ev tb σ H (.ty c)) (h : ∀ H1, Ex H H1 → TyX K H1 x (.type t)) (k : kitB t c = some b) : Ev (tCB (rIsi K) (tCons ta (tCons tb tNil))) σ H (.bl b) := fun H1 e Q q =>
  ha H1 e _ fun H2 e2 => hb H2 (e.trans e2) _ fun H3 e3 => ⟨x, .ty c, .type t, .type c, b, rfl, .ty c, h H3 ((e.trans e2).trans e3), kit_ty k, q H3 (e2.trans e3)⟩
theorem ty_int {H : Hp} {i : Int} : TyX K H (.int i) (.type "int") := .base (.int i)
theorem ty_str {H : Hp} {s : Str} : TyX K H (.str s) (.type "str") := .base (.str s)
theorem ty_bl {H : Hp} {b : Bool} : TyX K H (.bl b) (.type "bool") := .base (.bl b)
theorem ty_non {H : Hp} : TyX K H .non (.type "NoneType") := .base .non
theorem ty_tup {H : Hp} {a : Addr} {xs : List V} (h : H a = some (.tup xs)) : TyX K H (.ref a) (.type "tuple") := .base (.tup h)
theorem ty_lst {H : Hp} {a : Addr} {xs : List V} (h : H a = some (.lst xs)) : TyX K H (.ref a) (.type "list") := .base (.lst h)
theorem kit_ii : kitB "int" "int" = some true := by decide +kernel
theorem kit_ib : kitB "int" "bool" = some false := by decide +kernel
theorem kit_bi : kitB "bool" "int" = some true := by decide +kernel
theorem kit_bb : kitB "bool" "bool" = some true := by decide +kernel
theorem kit_ss : kitB "str" "str" = some true := by decide +kernel
theorem kit_tt : kitB "tuple" "tuple" = some true := by decide +kernel
theorem kit_lt : kitB "list" "tuple" = some false := by decide +kernel
theorem kit_nt : kitB "NoneType" "tuple" = some false := by decide +kernel
/-- len of a tuple -/
theorem ev_lenT {p : Addr} {xs : List V} (ha : Ev ta σ H (.ref p)) (h : H p = some (.tup xs)) : Ev (tCB (rLenS K) (tCons ta tNil)) σ H (.int (xs.length : Int)) := fun H1 e Q q =>
  ha H1 e _ fun H2 e2 => ⟨p, xs, rfl, Or.inr (SqT.of (e2 _ _ (e _ _ h))), q H2 e2⟩
/-- an item of a tuple, of a list -/
theorem ev_ixT {p : Addr} {xs : List V} {i : Int} (ha : Ev ta σ H (.ref p)) (hb : Ev tb σ H (.int i)) (h : H p = some (.tup xs)) (hi : atI xs i = some v) : Ev (tOp (rIxT K) ta tb) σ H v := ev_op ha hb (rv_ixT (SqT.of h) hi)
theorem ev_ixL {p : Addr} {xs : List V} {i : Int} (ha : Ev ta σ H (.ref p)) (hb : Ev tb σ H (.int i)) (h : H p = some (.lst xs)) (hi : atI xs i = some v) : Ev (tOp (rIxL K) ta tb) σ H v := ev_op ha hb (rv_ixL (SqL.of h) hi)
/-- a chain of two comparisons of whole numbers -/
theorem ev_chain {tc : TE} {p q : Int → Int → Bool} {i j k : Int} (ha : Ev ta σ H (.int i)) (hb : Ev tb σ H (.int j)) (hc : Ev tc σ H (.int k)) : Ev (tChain (rI0 fun a b => .bl (p a b)) (rI0 fun a b => .bl (q a b)) ta tb tc) σ H (.bl (p i j && q j k)) := fun H1 e Q z =>
  ha H1 e _ fun H2 e2 => hb H2 (e.trans e2) _ fun H3 e3 => ⟨i, j, rfl, rfl, p i j, rfl, by
    cases hp : p i j with
    | true =>
      rw [hp] at z
      rw [if_pos rfl]
      exact hc H3 ((e.trans e2).trans e3) _ fun H4 e4 => ⟨j, k, rfl, rfl, z H4 ((e2.trans e3).trans e4)⟩
    | false =>
      rw [hp] at z
      rw [if_neg Bool.false_ne_true]
      exact z H3 (e2.trans e3)⟩
/-- .. as a test: pt_chain's own reading -/
theorem et_chain {tc : TE} {p q : Int → Int → Bool} {i j k : Int} (ha : Ev ta σ H (.int i)) (hb : Ev tb σ H (.int j)) (hc : Ev tc σ H (.int k)) : EvT (tTest (tChain (rI0 fun a b => .bl (p a b)) (rI0 fun a b => .bl (q a b)) ta tb tc)) σ H (p i j && q j k) := et_test (ev_chain ha hb hc)
theorem ev_isN (ha : Ev ta σ H x) : Ev (tOp (fun x y H Q => y = .non ∧ Q (.bl (decide (x = .non))) H) ta (tC .non)) σ H (.bl (decide (x = .non))) := fun H1 e Q q => ha H1 e _ fun H2 e2 => ⟨rfl, q H2 e2⟩
theorem ev_notN (ha : Ev ta σ H x) : Ev (tOp (fun x y H Q => y = .non ∧ Q (.bl (!decide (x = .non))) H) ta (tC .non)) σ H (.bl (!decide (x = .non))) := fun H1 e Q q => ha H1 e _ fun H2 e2 => ⟨rfl, q H2 e2⟩
/-- if t: .. (no else), the answer known -/
theorem q_no {t : TT} {D : Ends} {tu tz : TS} (h : EvT t σ H false) (k : ∀ H1, Ex H H1 → tz D σ H1) : tSeq (tIfS t tu tNext) tz D σ H := q_when h (fun z => nomatch z) fun _ => k
theorem q_yes {t : TT} {D : Ends} {tu tz : TS} (h : EvT t σ H true) (k : ∀ H1, Ex H H1 → tu { D with nx := tz D } σ H1) : tSeq (tIfS t tu tNext) tz D σ H := q_when h (fun _ => k) fun z => nomatch z
theorem s_no {t : TT} {D : Ends} {tu tw : TS} (h : EvT t σ H false) (k : ∀ H1, Ex H H1 → tw D σ H1) : tIfS t tu tw D σ H := s_if h (fun z => nomatch z) fun _ => k
theorem s_yes {t : TT} {D : Ends} {tu tw : TS} (h : EvT t σ H true) (k : ∀ H1, Ex H H1 → tu D σ H1) : tIfS t tu tw D σ H := s_if h (fun _ => k) fun z => nomatch z
/-- x, y, .. = e -/
theorem q_unp2 {a : Addr} {i j : Nat} {x y : V} {D : Ends} {tz : TS} (h : Ev te σ H (.ref a)) (ha : H a = some (.tup [x, y])) (k : ∀ H1, Ex H H1 → tz D ((σ.set i (some x)).set j (some y)) H1) : tSeq (tAsg te (gTup K 2 (gCons (gName i) (gCons (gName j) gNil)))) tz D σ H :=
  h H (Ex.refl H) _ fun H1 e => ⟨a, _, rfl, SqT.of (e _ _ ha), rfl, x, _, rfl, y, _, rfl, rfl, k H1 e⟩
theorem q_unp3 {a : Addr} {i j l : Nat} {x y z : V} {D : Ends} {tz : TS} (h : Ev te σ H (.ref a)) (ha : H a = some (.tup [x, y, z])) (k : ∀ H1, Ex H H1 → tz D (((σ.set i (some x)).set j (some y)).set l (some z)) H1) :
    tSeq (tAsg te (gTup K 3 (gCons (gName i) (gCons (gName j) (gCons (gName l) gNil))))) tz D σ H :=
  h H (Ex.refl H) _ fun H1 e => ⟨a, _, rfl, SqT.of (e _ _ ha), rfl, x, _, rfl, y, _, rfl, z, _, rfl, rfl, k H1 e⟩
theorem q_unp4 {a : Addr} {i j l m : Nat} {x y z u : V} {D : Ends} {tz : TS} (h : Ev te σ H (.ref a)) (ha : H a = some (.tup [x, y, z, u])) (k : ∀ H1, Ex H H1 → tz D ((((σ.set i (some x)).set j (some y)).set l (some z)).set m (some u)) H1) :
    tSeq (tAsg te (gTup K 4 (gCons (gName i) (gCons (gName j) (gCons (gName l) (gCons (gName m) gNil)))))) tz D σ H :=
  h H (Ex.refl H) _ fun H1 e => ⟨a, _, rfl, SqT.of (e _ _ ha), rfl, x, _, rfl, y, _, rfl, z, _, rfl, u, _, rfl, rfl, k H1 e⟩
/-- [e for x in t], t a tuple, a list, a range: no test -/
theorem et_yes : EvT tYes σ H true := fun H1 _ _ q => q H1 (Ex.refl H1)
theorem given_all (n : Nat) (v : Nat → V) : given n (fun _ => true) v = (List.range n).map v := by
  unfold given
  rw [List.filter_eq_self.mpr (fun _ _ => rfl)]
theorem el_mapT {a : Addr} {xs : List V} {tl : TE} {j : Nat} {vs : List Nat} (v : Nat → V) (h : Ev tl σ H (.ref a)) (hx : H a = some (.tup xs)) (hz : xs.length ≤ 40000) (hw : ∀ x, wipe ((wipe σ vs).set j (some x)) vs = wipe σ vs)
    (he : ∀ (i : Nat) (x : V) H1, Ex H H1 → xs[i]? = some x → Ev te ((wipe σ vs).set j (some x)) H1 (v i)) : EvL (tLc (iTup K tl) (gName j) tYes te vs) σ H ((List.range xs.length).map v) := fun H0 e Q q => h H0 e _ fun H1 e1 =>
  ⟨a, rfl, ⟨xs, SqT.of (e1 _ _ (e _ _ hx))⟩, fun Dl hD =>
    lc_tup (xs := xs) (Cw H1 (fun _ => true) v Dl) ⟨hD, Ex.new hD, upd_same⟩ (fun i H' _ p => SqT.of (p.2.1 _ _ (e1 _ _ (e _ _ hx)))) (fun i x H' hi p => ⟨hw x, cw_turn p (by have := (List.getElem?_eq_some_iff.mp hi).1; omega) et_yes (fun _ => he i x H1 (e.trans e1) hi)⟩)
      (fun H' p => by
        have p2 := p.2.2
        rw [given_all] at p2
        exact q Dl H' (fresh_back e1 p.1) (e1.trans p.2.1) p2)⟩
theorem el_mapL {a : Addr} {xs : List V} {tl : TE} {j : Nat} {vs : List Nat} (v : Nat → V) (h : Ev tl σ H (.ref a)) (hx : H a = some (.lst xs)) (hz : xs.length ≤ 40000) (hw : ∀ x, wipe ((wipe σ vs).set j (some x)) vs = wipe σ vs)
    (he : ∀ (i : Nat) (x : V) H1, Ex H H1 → xs[i]? = some x → Ev te ((wipe σ vs).set j (some x)) H1 (v i)) : EvL (tLc (iList K tl) (gName j) tYes te vs) σ H ((List.range xs.length).map v) := by
  rw [← given_all]
  exact el_lcL (fun _ => true) v h (SqL.of hx) hz hw (fun _ _ _ _ _ => et_yes) fun i x H1 e hi _ => he i x H1 e hi
/-- over a new list -/
theorem el_mapN {xs : List V} {tl : TE} {j : Nat} {vs : List Nat} (v : Nat → V) (h : EvL tl σ H xs) (hz : xs.length ≤ 40000) (hw : ∀ x, wipe ((wipe σ vs).set j (some x)) vs = wipe σ vs)
    (he : ∀ (i : Nat) (x : V) H1, Ex H H1 → xs[i]? = some x → Ev te ((wipe σ vs).set j (some x)) H1 (v i)) : EvL (tLc (iList K tl) (gName j) tYes te vs) σ H ((List.range xs.length).map v) := by
  rw [← given_all]
  exact el_lcNL (fun _ => true) v h hz hw (fun _ _ _ _ _ => et_yes) fun i x H1 e hi _ => he i x H1 e hi
theorem el_mapR {ta : TA} {j : Nat} {vs : List Nat} {n : Int} (v : Nat → V) (h : EvA ta σ H [.int n]) (hn : 0 ≤ n ∧ n ≤ 40000) (hw : ∀ x, wipe ((wipe σ vs).set j (some x)) vs = wipe σ vs)
    (he : ∀ (i : Nat) H1, Ex H H1 → (i : Int) < n → Ev te ((wipe σ vs).set j (some (.int (i : Int)))) H1 (v i)) : EvL (tLc (iRng1 ta) (gName j) tYes te vs) σ H ((List.range n.toNat).map v) := by
  rw [← given_all]
  exact el_lcR1 (fun _ => true) v h hn hw (fun _ _ _ _ => et_yes) fun i H1 e hi _ => he i H1 e hi
/-- all, any of a new list of truths -/
theorem ev_all {ta : TE} {bs : List Bool} (h : EvL ta σ H (bs.map V.bl)) : Ev (tCB (rAll K) (tCons ta tNil)) σ H (.bl (bs.all id)) := fun H1 e Q q =>
  h H1 e _ fun p H2 _ e2 h2 => ⟨p, bs, rfl, SqL.of h2, q H2 e2⟩
theorem ev_any {ta : TE} {bs : List Bool} (h : EvL ta σ H (bs.map V.bl)) : Ev (tCB (rAny K) (tCons ta tNil)) σ H (.bl (bs.any id)) := fun H1 e Q q =>
  h H1 e _ fun p H2 _ e2 h2 => ⟨p, bs, rfl, SqL.of h2, q H2 e2⟩
theorem ev_allF {ta : TE} {n : Nat} {b : Nat → Bool} (h : EvL ta σ H ((List.range n).map fun i => V.bl (b i))) : Ev (tCB (rAll K) (tCons ta tNil)) σ H (.bl ((List.range n).all b)) := by
  have h2 : EvL ta σ H (((List.range n).map b).map V.bl) := by
    rw [List.map_map]
    exact h
  have h3 := ev_all (K := K) h2
  rw [List.all_map] at h3
  exact h3
theorem ev_anyF {ta : TE} {n : Nat} {b : Nat → Bool} (h : EvL ta σ H ((List.range n).map fun i => V.bl (b i))) : Ev (tCB (rAny K) (tCons ta tNil)) σ H (.bl ((List.range n).any b)) := by
  have h2 : EvL ta σ H (((List.range n).map b).map V.bl) := by
    rw [List.map_map]
    exact h
  have h3 := ev_any (K := K) h2
  rw [List.any_map] at h3
  exact h3
theorem range_yes (n : Nat) : (List.range n).all (fun _ => true) = true := List.all_eq_true.mpr fun _ _ => rfl
theorem range_no (n : Nat) : (List.range n).any (fun _ => false) = false := by
  rw [List.any_eq_false]
  intro _ _ h
  cases h
theorem ev_allY {ta : TE} {n : Nat} (h : EvL ta σ H ((List.range n).map fun _ => V.bl true)) : Ev (tCB (rAll K) (tCons ta tNil)) σ H (.bl true) := by
  have h2 := ev_allF (K := K) (b := fun _ => true) h
  rw [range_yes] at h2
  exact h2
theorem ev_anyN {ta : TE} {n : Nat} (h : EvL ta σ H ((List.range n).map fun _ => V.bl false)) : Ev (tCB (rAny K) (tCons ta tNil)) σ H (.bl false) := by
  have h2 := ev_anyF (K := K) (b := fun _ => false) h
  rw [range_no] at h2
  exact h2
theorem ref_at {as : List Addr} {i : Nat} {x : V} (h : (as.map V.ref)[i]? = some x) : ∃ a, as[i]? = some a ∧ x = .ref a := by
  rw [List.getElem?_map] at h
  cases e : as[i]? with
  | none => rw [e] at h; cases h
  | some a => rw [e] at h; exact ⟨a, rfl, (Option.some.inj h).symm⟩
theorem int_at {ns : List Int} {i : Nat} {x : V} (h : (ns.map V.int)[i]? = some x) : ∃ a, ns[i]? = some a ∧ x = .int a := by
  rw [List.getElem?_map] at h
  cases e : ns[i]? with
  | none => rw [e] at h; cases h
  | some a => rw [e] at h; exact ⟨a, rfl, (Option.some.inj h).symm⟩
/-- a if t else b, a new tuple either way -/
theorem eu_ifT {t : TT} {xs : List V} (h : EvT t σ H true) (ha : EvU ta σ H xs) : EvU (tIf t ta tb) σ H xs := fun H1 e Q q => h H1 e _ fun H2 e2 => by
  show ta σ H2 Q
  exact ha H2 (e.trans e2) Q fun p H3 hp e3 h3 => q p H3 (fresh_back e2 hp) (e2.trans e3) h3
theorem eu_ifF {t : TT} {xs : List V} (h : EvT t σ H false) (hb : EvU tb σ H xs) : EvU (tIf t ta tb) σ H xs := fun H1 e Q q => h H1 e _ fun H2 e2 => by
  show tb σ H2 Q
  exact hb H2 (e.trans e2) Q fun p H3 hp e3 h3 => q p H3 (fresh_back e2 hp) (e2.trans e3) h3
theorem q_unpU2 {i j : Nat} {x y : V} {D : Ends} {tz : TS} (h : EvU te σ H [x, y]) (k : ∀ H1, Ex H H1 → tz D ((σ.set i (some x)).set j (some y)) H1) : tSeq (tAsg te (gTup K 2 (gCons (gName i) (gCons (gName j) gNil)))) tz D σ H :=
  h H (Ex.refl H) _ fun p H1 _ e h1 => ⟨p, _, rfl, SqT.of h1, rfl, x, _, rfl, y, _, rfl, rfl, k H1 e⟩
/-- t[lo:hi], a true part of the tuple -/
theorem eu_slA {tl th : TO} {a : Addr} {xs : List V} {lo hi : Option Int} (h : Ev te σ H (.ref a)) (h1 : EvO tl σ H lo) (h2 : EvO th σ H hi) (hs : H a = some (.tup xs)) (hn : ¬ (HT.sIx xs.length 0 lo = 0 ∧ HT.sIx xs.length xs.length hi = xs.length)) : EvU (tSl (rSlA K) te tl th) σ H (cutV xs lo hi) := fun H1 e _ q =>
  h H1 e _ fun H2 e2 => h1 H2 (e.trans e2) _ fun H3 e3 => h2 H3 ((e.trans e2).trans e3) _ fun H4 e4 =>
    ⟨a, xs, rfl, SqT.of ((((e.trans e2).trans e3).trans e4) _ _ hs), fun z => absurd z hn, fun _ p hp => q p _ (fresh_back ((e2.trans e3).trans e4) hp) (((e2.trans e3).trans e4).trans (Ex.new hp)) upd_same⟩
/-- == and != of data -/
theorem rv_neD {y : V} {d e : PyData} (hd : ∀ H1, Ex H H1 → Dp K H1 x d) (he : ∀ H1, Ex H H1 → Dp K H1 y e) (sd : SeqAt.shaped d = true) (se : SeqAt.shaped e = true) : RV (rNeD K) x y H (.bl (!PyData.eqv d e)) := fun H1 e1 _ q => ⟨d, e, hd H1 e1, he H1 e1, sd, se, q H1 (Ex.refl H1)⟩
theorem dec_i (i j : Int) : decide (V.int i = V.int j) = decide (i = j) := by
  by_cases h : i = j
  · rw [h, decide_eq_true rfl, decide_eq_true rfl]
  · rw [decide_eq_false h, decide_eq_false fun z => h (V.int.inj z)]
theorem ev_call1 {sp : Sp} {E : XK} {ta : TA} {vs : List V} {z : V} (h : EvA ta σ H vs) (hs : ∀ H1, Ex H H1 → ∀ Q : VK, (∀ H2, Ex H1 H2 → Q z H2) → sp vs H1 Q E) : Ev (tCall sp [] E ta) σ H z := fun H1 e Q q =>
  h H1 e _ fun H2 e2 => by
    show sp (vs ++ []) H2 Q E
    rw [List.append_nil]
    exact hs H2 (e.trans e2) Q fun H3 e3 => q H3 (e2.trans e3)
end
end Abl
namespace Abl
open PySem PySem.Spec PyProof.Rows L2
open Evl (Ex Ev EvT EvA EvL EvU ev_var ev_c ev_op ev_is et_is ev_andV ev_orV ev_notV et_and et_or et_not et_B et_test rv_I0 rv_eq rv_ne ea_nil ea_cons s_ret s_if s_when q_when q_asg ev_if RetV)
section
variable {P : Program} {w : World} {K : PySem.W.Frag} {mg : Str → Option Value} {base : Heap}
abbrev s_is_between : Stmt := topS 8
theorem sc_is_between : FnScope ["value", "low", "high"] ["value", "low", "high"] (defScope s_is_between) := ⟨rfl, rfl, rfl, by decide +kernel, rfl, by decide +kernel, by decide +kernel⟩
def spBetween : Sp := fun vs H Q _ => ∃ i a b : Int, vs = [.int i, .int a, .int b] ∧ ∀ H', Ex H H' → Q (.bl (decide (a ≤ i) && decide (i ≤ b))) H'
theorem ok_is_between (F : Has K mg "is_between" s_is_between ["value", "low", "high"]) (B : Gm mg) : C8.Cal P w K mg base 1 "is_between" spBetween [] := by
  refine cal_of F sc_is_between (fun vs H Q E h => ?_) (fun f cdv A outer s H vs Q E hr h => ?_)
  · obtain ⟨i, a, b, rfl, _⟩ := h
    rfl
  · obtain ⟨i, a, b, rfl, q⟩ := h
    refine ⟨_, (pss_one (ps_ret (pe_and (pe_callB call_isi (by rfl) B.isinstance (by decide +kernel) (pa_cons (pv 0) (pa_cons (pe_bltn (v := .ty "int") (by rfl) B.int_ (by decide +kernel) rfl) pa_nil))) (pe_and (pe_not (pe_callB call_isi (by rfl) B.isinstance (by decide +kernel) (pa_cons (pv 0) (pa_cons (pe_bltn (v := .ty "bool") (by rfl) B.bool_ (by decide +kernel) rfl) pa_nil)))) (pe_one (pe_chain op_le op_le (pv 1) (pv 0) (pv 2))))))), ?_⟩
    exact s_ret (ev_andV (ev_isi (ev_var rfl) ev_c (fun _ _ => ty_int) kit_ii) fun _ => ev_andV (ev_notV (ev_isi (ev_var rfl) ev_c (fun _ _ => ty_int) kit_ib)) fun _ => ev_chain (ev_var rfl) (ev_var rfl) (ev_var rfl)) fun H1 e1 => q H1 e1
/-- a call of it, between its bounds -/
theorem call_between {σ : L2.St} {H : Hp} {t1 t2 t3 : TE} {i a b : Int} (h1 : Ev t1 σ H (.int i)) (h2 : Ev t2 σ H (.int a)) (h3 : Ev t3 σ H (.int b)) (ha : a ≤ i) (hb : i ≤ b) : Ev (tCall spBetween [] C8.E0 (tCons t1 (tCons t2 (tCons t3 tNil)))) σ H (.bl true) :=
  ev_call1 (ea_cons h1 (ea_cons h2 (ea_cons h3 ea_nil))) fun H1 _ Q q => ⟨i, a, b, rfl, fun H' e' => by
    rw [decide_eq_true ha, decide_eq_true hb]
    exact q H' e'⟩
abbrev s_is_side : Stmt := topS 9
theorem sc_is_side : FnScope ["value"] ["value"] (defScope s_is_side) := ⟨rfl, rfl, rfl, by decide +kernel, rfl, by decide +kernel, by decide +kernel⟩
def spSide : Sp := fun vs H Q _ => ∃ o : Option Int, vs = [optV o] ∧ (∀ l, o = some l → -100 ≤ l ∧ l ≤ 100) ∧ RetV (.bl true) H Q
theorem ok_is_side (F : Has K mg "is_side" s_is_side ["value"]) (B : Gm mg) (G_is_between : C8.Cal P w K mg base 1 "is_between" spBetween []) : C8.Cal P w K mg base 2 "is_side" spSide [] := by
  refine cal_of F sc_is_side (fun vs H Q E h => ?_) (fun f cdv A outer s H vs Q E hr h => ?_)
  · obtain ⟨o, rfl, _⟩ := h
    rfl
  · obtain ⟨o, rfl, hb, q⟩ := h
    refine ⟨_, (pss_one (ps_ret (pe_or (pe_cmpR op_isN (pv 0) pe_non (nomark _)) (pe_one (C8.pe_c G_is_between hr (by decide) (by rfl) (pa_cons (pv 0) (pa_cons (pe_op op_sub pe_int (C8.pe_gc (by rfl) B.cFARTHEST)) (pa_cons (C8.pe_gc (by rfl) B.cFARTHEST) pa_nil)))))))), ?_⟩
    cases o with
    | none => exact s_ret (ev_orV (b := true) (ev_isN (ev_var rfl)) fun z => nomatch z) fun H1 e1 => q H1 e1
    | some l =>
      obtain ⟨h1, h2⟩ := hb l rfl
      exact s_ret (ev_orV (ev_isN (x := .int l) (ev_var rfl)) fun _ => call_between (ev_var rfl) (ev_op ev_c ev_c rv_I0) ev_c (by omega) h2) fun H1 e1 => q H1 e1
abbrev s_is_rule : Stmt := topS 10
theorem sc_is_rule : FnScope ["value", "size", "start", "end", "low", "high"] ["value", "size"] (defScope s_is_rule) := ⟨rfl, rfl, rfl, by decide +kernel, rfl, by decide +kernel, by decide +kernel⟩
def spRule : Sp := fun vs H Q _ => ∃ (a : Addr) (n : Nat) (r : Rule), vs = [.ref a, .int (n : Int)] ∧ RuleAt H a r ∧ r.ok n ∧ RetV (.bl true) H Q
theorem call_side {σ : L2.St} {H : Hp} {t1 : TE} {o : Option Int} (h1 : Ev t1 σ H (optV o)) (hb : ∀ l, o = some l → -100 ≤ l ∧ l ≤ 100) : Ev (tCall spSide [] C8.E0 (tCons t1 tNil)) σ H (.bl true) :=
  ev_call1 (ea_cons h1 ea_nil) fun H1 _ Q q => ⟨o, rfl, hb, q⟩
theorem ok_is_rule (F : Has K mg "is_rule" s_is_rule ["value", "size"]) (B : Gm mg) (G_is_between : C8.Cal P w K mg base 1 "is_between" spBetween []) (G_is_side : C8.Cal P w K mg base 2 "is_side" spSide []) : C8.Cal P w K mg base 3 "is_rule" spRule [] := by
  refine cal_of F sc_is_rule (fun vs H Q E h => ?_) (fun f cdv A outer s H vs Q E hr h => ?_)
  · obtain ⟨a, n, r, rfl, _⟩ := h
    rfl
  · obtain ⟨a, n, r, rfl, hA, ⟨s0, sn, e0, en, hse, hlo, hhi, hno⟩, q⟩ := h
    refine ⟨_, (pss_cons (ps_if (PW.pt (pw_or (pt_not (pt_val (pe_callB call_isi (by rfl) B.isinstance (by decide +kernel) (pa_cons (pv 0) (pa_cons (pe_bltn (v := .ty "tuple") (by rfl) B.tuple_ (by decide +kernel) rfl) pa_nil))))) (pw_or1 (pt_cmpR op_ne (pe_callB call_len_seq (by rfl) B.len (by decide +kernel) (pa_cons (pv 0) pa_nil)) pe_int (nomark _))))) (pss_one (ps_ret pe_bl)) pss_nil)
  (pss_cons (ps_asg (pv 0) (pg_tup (by rfl) (pgs_cons (pg_name (i := 2) sc_is_rule.nd rfl (by first | exact .inl rfl | exact .inr rfl)) (pgs_cons (pg_name (i := 3) sc_is_rule.nd rfl (by first | exact .inl rfl | exact .inr rfl)) (pgs_cons (pg_name (i := 4) sc_is_rule.nd rfl (by first | exact .inl rfl | exact .inr rfl)) (pgs_cons (pg_name (i := 5) sc_is_rule.nd rfl (by first | exact .inl rfl | exact .inr rfl)) pgs_nil))))))
  (pss_cons (ps_if (PW.pt (pw_or (pt_not (pt_val (C8.pe_c G_is_between hr (by decide) (by rfl) (pa_cons (pv 2) (pa_cons pe_int (pa_cons (pe_op op_sub (pv 1) pe_int) pa_nil)))))) (pw_or (pt_not (pt_val (C8.pe_c G_is_between hr (by decide) (by rfl) (pa_cons (pv 3) (pa_cons pe_int (pa_cons (pe_op op_sub (pv 1) pe_int) pa_nil)))))) (pw_or1 (pt_cmpR op_eq (pv 2) (pv 3) (nomark _)))))) (pss_one (ps_ret pe_bl)) pss_nil)
  (pss_one (ps_ret (pe_and (C8.pe_c G_is_side hr (by decide) (by rfl) (pa_cons (pv 4) pa_nil)) (pe_and (C8.pe_c G_is_side hr (by decide) (by rfl) (pa_cons (pv 5) pa_nil)) (pe_one (pe_or (pe_cmpR op_notN (pv 4) pe_non (nomark _)) (pe_one (pe_cmpR op_notN (pv 5) pe_non (nomark _)))))))))))), ?_⟩
    refine q_no (et_is (et_or (et_not (et_B (ev_isi (ev_var rfl) ev_c (fun _ e => ty_tup (e _ _ hA)) kit_tt))) fun _ => et_test (ev_op (ev_lenT (ev_var rfl) hA) ev_c (rv_ne rfl))) rfl) fun H1 e1 => ?_
    refine q_unp4 (ev_var rfl) (e1 _ _ hA) fun H2 e2 => ?_
    refine q_no (et_is (et_or (et_not (et_B (call_between (ev_var rfl) ev_c (ev_op (ev_var rfl) ev_c rv_I0) s0 (by omega)))) fun _ => et_or (et_not (et_B (call_between (ev_var rfl) ev_c (ev_op (ev_var rfl) ev_c rv_I0) e0 (by omega)))) fun _ => et_test (ev_op (ev_var rfl) (ev_var rfl) (rv_eq rfl))) (by
      rw [decide_eq_false (fun z => hse (V.int.inj z))]
      rfl)) fun H3 e3 => ?_
    refine s_ret (ev_is (ev_andV (call_side (ev_var rfl) hlo) fun _ => ev_andV (call_side (ev_var rfl) hhi) fun _ => ev_orV (ev_notN (ev_var rfl)) fun _ => ev_notN (ev_var rfl)) ?_) fun H4 e4 => q H4 (((e1.trans e2).trans e3).trans e4)
    cases e1 : r.lo with
    | some l => rfl
    | none =>
      cases e2 : r.hi with
      | some l => rfl
      | none => exact absurd ⟨e1, e2⟩ hno
end
end Abl
namespace Abl
open PySem PySem.Spec PyProof.Rows L2
open Evl (Ex Ev EvT EvA EvL EvU ev_var ev_c ev_op ev_is et_is ev_andV ev_orV ev_notV et_and et_or et_not et_B et_test rv_I0 rv_eq rv_ne ea_nil ea_cons s_ret s_if s_when q_when q_asg ev_if RetV)
section
variable {P : Program} {w : World} {K : PySem.W.Frag} {mg : Str → Option Value} {base : Heap}
theorem call_rule {σ : L2.St} {H : Hp} {t1 t2 : TE} {a : Addr} {n : Nat} {r : Rule} (h1 : Ev t1 σ H (.ref a)) (h2 : Ev t2 σ H (.int (n : Int))) (hA : RuleAt H a r) (ho : r.ok n) : Ev (tCall spRule [] C8.E0 (tCons t1 (tCons t2 tNil))) σ H (.bl true) :=
  ev_call1 (ea_cons h1 (ea_cons h2 ea_nil)) fun H1 e Q q => ⟨a, n, r, rfl, e _ _ hA, ho, q⟩
abbrev s_is_net : Stmt := topS 11
theorem sc_is_net : FnScope ["value", "rule"] ["value"] (defScope s_is_net) := ⟨rfl, rfl, rfl, by decide +kernel, rfl, by decide +kernel, by decide +kernel⟩
def spNet : Sp := fun vs H Q _ => ∃ (a : Addr) (n : Nat) (rs : List Rule), vs = [.ref a] ∧ NetAt H a n rs ∧ NetOk n rs ∧ RetV (.bl true) H Q
theorem ok_is_net (F : Has K mg "is_net" s_is_net ["value"]) (B : Gm mg) (G_is_between : C8.Cal P w K mg base 1 "is_between" spBetween []) (G_is_rule : C8.Cal P w K mg base 3 "is_rule" spRule []) : C8.Cal P w K mg base 4 "is_net" spNet [] := by
  refine cal_of F sc_is_net (fun vs H Q E h => ?_) (fun f cdv A outer s H vs Q E hr h => ?_)
  · obtain ⟨a, n, rs, rfl, _⟩ := h
    rfl
  · obtain ⟨a, n, rs, rfl, ⟨R, as, hA, hR, hP⟩, ho, q⟩ := h
    have n1 := ho.n1
    have n4 := ho.n4
    have r5 := ho.r5
    have el : (as.map V.ref).length = rs.length := by
      rw [List.length_map]
      exact pair_len hP
    refine ⟨_, (pss_cons (ps_if (PW.pt (pw_or (pt_not (pt_val (pe_callB call_isi (by rfl) B.isinstance (by decide +kernel) (pa_cons (pv 0) (pa_cons (pe_bltn (v := .ty "tuple") (by rfl) B.tuple_ (by decide +kernel) rfl) pa_nil))))) (pw_or (pt_cmpR op_ne (pe_callB call_len_seq (by rfl) B.len (by decide +kernel) (pa_cons (pv 0) pa_nil)) pe_int (nomark _)) (pw_or1 (pt_not (pt_val (C8.pe_c G_is_between hr (by decide) (by rfl) (pa_cons (pe_ix ix_tup (pv 0) pe_int (fun _ _ => rfl)) (pa_cons pe_int (pa_cons (C8.pe_gc (by rfl) B.cMOST_EVENTS) pa_nil)))))))))) (pss_one (ps_ret pe_bl)) pss_nil)
  (pss_cons (ps_if (PW.pt (pw_or (pt_not (pt_val (pe_callB call_isi (by rfl) B.isinstance (by decide +kernel) (pa_cons (pe_ix ix_tup (pv 0) pe_int (fun _ _ => rfl)) (pa_cons (pe_bltn (v := .ty "tuple") (by rfl) B.tuple_ (by decide +kernel) rfl) pa_nil))))) (pw_or1 (pt_cmpR op_gt (pe_callB call_len_seq (by rfl) B.len (by decide +kernel) (pa_cons (pe_ix ix_tup (pv 0) pe_int (fun _ _ => rfl)) pa_nil)) (C8.pe_gc (by rfl) B.cMOST_RULES) (nomark _))))) (pss_one (ps_ret pe_bl)) pss_nil)
  (pss_one (ps_ret (pe_callB (cr_all rfl) (by rfl) B.all (by decide +kernel) (pa_cons (pe_lc (own := [("rule", 1)]) rfl sc_is_net.nd (pi_tup (pe_ix ix_tup (pv 0) pe_int (fun _ _ => rfl))) (blkOk_by (N := ["value", "rule"]) (sc := (defScope s_is_net)) (by decide +kernel)) (fun _ _ _ _ _ => (pg_name (i := 1) sc_is_net.nd rfl (by first | exact .inl rfl | exact .inr rfl))) (fun _ _ _ _ _ => pts_nil) (fun _ _ _ _ _ => (C8.pe_c G_is_rule hr (by decide) (by rfl) (pa_cons (pv 1) (pa_cons (pe_ix (r := rIxT K) ix_tup (pv 0) pe_int (fun _ _ => rfl)) pa_nil))))) pa_nil)))))), ?_⟩
    refine q_no (et_is (et_or (et_not (et_B (ev_isi (ev_var rfl) ev_c (fun _ e => ty_tup (e _ _ hA)) kit_tt))) fun _ => et_or (et_test (ev_op (ev_lenT (ev_var rfl) hA) ev_c (rv_ne rfl))) fun _ => et_not (et_B (call_between (ev_ixT (ev_var rfl) ev_c hA rfl) ev_c ev_c (by omega) (by omega)))) rfl) fun H1 e1 => ?_
    have hA1 := e1 _ _ hA
    have hR1 := e1 _ _ hR
    refine q_no (et_is (et_or (et_not (et_B (ev_isi (ev_ixT (ev_var rfl) ev_c hA1 rfl) ev_c (fun _ e => ty_tup (e _ _ hR1)) kit_tt))) fun _ => et_test (ev_op (ev_lenT (ev_ixT (ev_var rfl) ev_c hA1 rfl) hR1) ev_c rv_I0)) (by
      rw [el, decide_eq_false (by omega)]
      rfl)) fun H2 e2 => ?_
    refine s_ret (ev_allY (el_mapT (fun _ => V.bl true) (ev_ixT (ev_var rfl) ev_c (e2 _ _ hA1) rfl) (e2 _ _ hR1) (by omega) (fun _ => rfl) fun i x H3 e3 hi => ?_)) fun H4 e4 => q H4 ((e1.trans e2).trans e4)
    obtain ⟨b, hb, rfl⟩ := ref_at hi
    obtain ⟨r, hr2, hrb⟩ := pair_at2 hP hb
    exact call_rule (ev_var rfl) (ev_ixT (ev_var rfl) ev_c (e3 _ _ (e2 _ _ hA1)) rfl) (e3 _ _ (e2 _ _ (e1 _ _ hrb))) (ho.ok r (List.mem_of_getElem? hr2))
abbrev s_is_times : Stmt := topS 12
theorem sc_is_times : FnScope ["value", "net", "one"] ["value", "net"] (defScope s_is_times) := ⟨rfl, rfl, rfl, by decide +kernel, rfl, by decide +kernel, by decide +kernel⟩
def spTimes : Sp := fun vs H Q _ => ∃ (a b : Addr) (n : Nat) (rs : List Rule) (ts : List Int), vs = [.ref a, .ref b] ∧ IntsAt H a ts ∧ NetAt H b n rs ∧ ts.length = n ∧ n ≤ 4 ∧ (∀ t ∈ ts, -1000 ≤ t ∧ t ≤ 1000) ∧ RetV (.bl true) H Q
theorem ok_is_times (F : Has K mg "is_times" s_is_times ["value", "net"]) (B : Gm mg) (G_is_between : C8.Cal P w K mg base 1 "is_between" spBetween []) : C8.Cal P w K mg base 2 "is_times" spTimes [] := by
  refine cal_of F sc_is_times (fun vs H Q E h => ?_) (fun f cdv A outer s H vs Q E hr h => ?_)
  · obtain ⟨a, b, n, rs, ts, rfl, _⟩ := h
    rfl
  · obtain ⟨a, b, n, rs, ts, rfl, hA, ⟨R, as, hB, hR, hP⟩, hl, h4, hb, q⟩ := h
    have el : (ts.map V.int).length = n := by
      rw [List.length_map]
      exact hl
    refine ⟨_, (pss_cons (ps_if (PW.pt (pw_or (pt_not (pt_val (pe_callB call_isi (by rfl) B.isinstance (by decide +kernel) (pa_cons (pv 0) (pa_cons (pe_bltn (v := .ty "tuple") (by rfl) B.tuple_ (by decide +kernel) rfl) pa_nil))))) (pw_or1 (pt_cmpR op_ne (pe_callB call_len_seq (by rfl) B.len (by decide +kernel) (pa_cons (pv 0) pa_nil)) (pe_ix ix_tup (pv 1) pe_int (fun _ _ => rfl)) (nomark _))))) (pss_one (ps_ret pe_bl)) pss_nil)
  (pss_one (ps_ret (pe_callB (cr_all rfl) (by rfl) B.all (by decide +kernel) (pa_cons (pe_lc (own := [("one", 2)]) rfl sc_is_times.nd (pi_tup (pv 0)) (blkOk_by (N := ["value", "net", "one"]) (sc := (defScope s_is_times)) (by decide +kernel)) (fun _ _ _ _ _ => (pg_name (i := 2) sc_is_times.nd rfl (by first | exact .inl rfl | exact .inr rfl))) (fun _ _ _ _ _ => pts_nil) (fun _ _ _ _ _ => (C8.pe_c G_is_between hr (by decide) (by rfl) (pa_cons (pv 2) (pa_cons (pe_op op_sub pe_int (C8.pe_gc (by rfl) B.cLATEST)) (pa_cons (C8.pe_gc (by rfl) B.cLATEST) pa_nil)))))) pa_nil))))), ?_⟩
    refine q_no (et_is (et_or (et_not (et_B (ev_isi (ev_var rfl) ev_c (fun _ e => ty_tup (e _ _ hA)) kit_tt))) fun _ => et_test (ev_op (ev_lenT (ev_var rfl) hA) (ev_ixT (ev_var rfl) ev_c hB rfl) (rv_ne rfl))) (by
      rw [el, decide_eq_true rfl]
      rfl)) fun H1 e1 => ?_
    refine s_ret (ev_allY (el_mapT (fun _ => V.bl true) (ev_var rfl) (e1 _ _ hA) (by omega) (fun _ => rfl) fun i x H3 e3 hi => ?_)) fun H4 e4 => q H4 (e1.trans e4)
    obtain ⟨z, hz, rfl⟩ := int_at hi
    obtain ⟨h1, h2⟩ := hb z (List.mem_of_getElem? hz)
    exact call_between (ev_var rfl) (ev_op ev_c ev_c rv_I0) ev_c (by omega) h2
abbrev s_excess_of : Stmt := topS 13
theorem sc_excess_of : FnScope ["rule", "times", "start", "end", "low", "high", "far"] ["rule", "times"] (defScope s_excess_of) := ⟨rfl, rfl, rfl, by decide +kernel, rfl, by decide +kernel, by decide +kernel⟩
def spExcess : Sp := fun vs H Q _ => ∃ (a b : Addr) (n : Nat) (r : Rule) (ts : List Int), vs = [.ref a, .ref b] ∧ RuleAt H a r ∧ IntsAt H b ts ∧ r.ok n ∧ ts.length = n ∧ r.keeps (timeF ts) ∧ RetV (.int 0) H Q
theorem time_at {ts : List Int} {i : Int} (h0 : 0 ≤ i) (h1 : i < (ts.length : Int)) : atI (ts.map V.int) i = some (.int (timeF ts i)) := by
  have hl : i.toNat < ts.length := by omega
  refine nat_at (i := i.toNat) (by omega) ?_
  rw [List.getElem?_map, List.getElem?_eq_getElem hl]
  unfold timeF
  rw [List.getD_eq_getElem?_getD, List.getElem?_eq_getElem hl]
  rfl
theorem ok_excess_of (F : Has K mg "excess_of" s_excess_of ["rule", "times"]) (B : Gm mg) : C8.Cal P w K mg base 1 "excess_of" spExcess [] := by
  refine cal_of F sc_excess_of (fun vs H Q E h => ?_) (fun f cdv A outer s H vs Q E hr h => ?_)
  · obtain ⟨a, b, n, r, ts, rfl, _⟩ := h
    rfl
  · obtain ⟨a, b, n, ⟨rs, re, lo, hi⟩, ts, rfl, hA, hB, ⟨s0, sn, e0, en, hse, hlo, hhi, hno⟩, hl, ⟨k1, k2⟩, q⟩ := h
    simp only at s0 sn e0 en hse hlo hhi hno k1 k2
    refine ⟨_, (pss_cons (ps_asg (pv 0) (pg_tup (by rfl) (pgs_cons (pg_name (i := 2) sc_excess_of.nd rfl (by first | exact .inl rfl | exact .inr rfl)) (pgs_cons (pg_name (i := 3) sc_excess_of.nd rfl (by first | exact .inl rfl | exact .inr rfl)) (pgs_cons (pg_name (i := 4) sc_excess_of.nd rfl (by first | exact .inl rfl | exact .inr rfl)) (pgs_cons (pg_name (i := 5) sc_excess_of.nd rfl (by first | exact .inl rfl | exact .inr rfl)) pgs_nil))))))
  (pss_cons (ps_set (i := 6) sc_excess_of.nd rfl (by first | exact .inl rfl | exact .inr rfl) (pe_op op_sub (pe_ix ix_tup (pv 1) (pv 3) (fun _ _ => rfl)) (pe_ix ix_tup (pv 1) (pv 2) (fun _ _ => rfl))))
  (pss_cons (ps_if (PW.pt (pw_and (pt_cmpR op_notN (pv 4) pe_non (nomark _)) (pw_and1 (pt_cmpR op_lt (pv 6) (pv 4) (nomark _))))) (pss_one (ps_ret (pe_op op_sub (pv 6) (pv 4)))) pss_nil)
  (pss_cons (ps_if (PW.pt (pw_and (pt_cmpR op_notN (pv 5) pe_non (nomark _)) (pw_and1 (pt_cmpR op_gt (pv 6) (pv 5) (nomark _))))) (pss_one (ps_ret (pe_op op_sub (pv 6) (pv 5)))) pss_nil)
  (pss_one (ps_ret pe_int)))))), ?_⟩
    refine q_unp4 (ev_var rfl) hA fun H1 e1 => ?_
    refine q_asg (ev_op (ev_ixT (ev_var rfl) (ev_var rfl) (e1 _ _ hB) (time_at e0 (show re < (ts.length : Int) by omega))) (ev_ixT (ev_var rfl) (ev_var rfl) (e1 _ _ hB) (time_at s0 (show rs < (ts.length : Int) by omega))) rv_I0) fun H2 e2 => ?_
    refine q_no (et_is (b := false) (et_and (b := decide (timeF ts re - timeF ts rs < lo.getD 0)) (et_test (ev_notN (ev_var rfl))) fun z => ?_) ?_) fun H3 e3 => ?_
    · cases lo with
      | none => simp [optV] at z
      | some l => exact et_test (ev_op (ev_var rfl) (ev_var rfl) rv_I0)
    · cases lo with
      | none => rfl
      | some l =>
        have := k1 l rfl
        rw [Bool.and_eq_false_iff]
        right
        exact decide_eq_false (show ¬ (_ < l) by omega)
    refine q_no (et_is (b := false) (et_and (b := decide (hi.getD 0 < timeF ts re - timeF ts rs)) (et_test (ev_notN (ev_var rfl))) fun z => ?_) ?_) fun H4 e4 => ?_
    · cases hi with
      | none => simp [optV] at z
      | some l => exact et_test (ev_op (ev_var rfl) (ev_var rfl) rv_I0)
    · cases hi with
      | none => rfl
      | some l =>
        have := k2 l rfl
        rw [Bool.and_eq_false_iff]
        right
        exact decide_eq_false (show ¬ (l < _) by omega)
    exact s_ret ev_c fun H5 e5 => q H5 ((((e1.trans e2).trans e3).trans e4).trans e5)
abbrev s_all_hold : Stmt := topS 14
theorem sc_all_hold : FnScope ["net", "times", "rule"] ["net", "times"] (defScope s_all_hold) := ⟨rfl, rfl, rfl, by decide +kernel, rfl, by decide +kernel, by decide +kernel⟩
def spHold : Sp := fun vs H Q _ => ∃ (a b : Addr) (n : Nat) (rs : List Rule) (ts : List Int), vs = [.ref a, .ref b] ∧ NetAt H a n rs ∧ IntsAt H b ts ∧ NetOk n rs ∧ TimesOk n rs ts ∧ RetV (.bl true) H Q
theorem ok_all_hold (F : Has K mg "all_hold" s_all_hold ["net", "times"]) (B : Gm mg) (G_excess_of : C8.Cal P w K mg base 1 "excess_of" spExcess []) : C8.Cal P w K mg base 2 "all_hold" spHold [] := by
  refine cal_of F sc_all_hold (fun vs H Q E h => ?_) (fun f cdv A outer s H vs Q E hr h => ?_)
  · obtain ⟨a, b, n, rs, ts, rfl, _⟩ := h
    rfl
  · obtain ⟨a, b, n, rs, ts, rfl, ⟨R, as, hA, hR, hP⟩, hB, ho, ht, q⟩ := h
    have r5 := ho.r5
    have el : (as.map V.ref).length = rs.length := by
      rw [List.length_map]
      exact pair_len hP
    refine ⟨_, (pss_one (ps_ret (pe_callB (cr_all rfl) (by rfl) B.all (by decide +kernel) (pa_cons (pe_lc (own := [("rule", 2)]) rfl sc_all_hold.nd (pi_tup (pe_ix ix_tup (pv 0) pe_int (fun _ _ => rfl))) (blkOk_by (N := ["net", "times", "rule"]) (sc := (defScope s_all_hold)) (by decide +kernel)) (fun _ _ _ _ _ => (pg_name (i := 2) sc_all_hold.nd rfl (by first | exact .inl rfl | exact .inr rfl))) (fun _ _ _ _ _ => pts_nil) (fun _ _ _ _ _ => (pe_cmpR op_eq (C8.pe_c G_excess_of hr (by decide) (by rfl) (pa_cons (pv 2) (pa_cons (pv 1) pa_nil))) pe_int (nomark _)))) pa_nil)))), ?_⟩
    refine s_ret (ev_allY (el_mapT (fun _ => V.bl true) (ev_ixT (ev_var rfl) ev_c hA rfl) hR (by omega) (fun _ => rfl) fun i x H3 e3 hi => ?_)) fun H4 e4 => q H4 e4
    obtain ⟨c, hc, rfl⟩ := ref_at hi
    obtain ⟨r, hr2, hrb⟩ := pair_at2 hP hc
    refine ev_op (x := .int 0) (ev_call1 (ea_cons (ev_var rfl) (ea_cons (ev_var rfl) ea_nil)) fun H5 e5 Q q => ⟨c, b, n, r, ts, rfl, e5 _ _ (e3 _ _ hrb), e5 _ _ (e3 _ _ hB), ho.ok r (List.mem_of_getElem? hr2), ht.len, ht.kp r (List.mem_of_getElem? hr2), q⟩) ev_c (rv_eq rfl)
end
end Abl
namespace Abl
open PySem PySem.Spec PyProof.Rows L2
open Evl (Ex Ev EvT EvA EvL EvU ev_var ev_c ev_op ev_is et_is ev_andV ev_orV ev_notV et_and et_or et_not et_B et_test rv_I0 rv_eq rv_ne ea_nil ea_cons s_ret s_if s_when q_when q_asg ev_if RetV eu_tup ev_inU ev_un ru_neg)
section
variable {P : Program} {w : World} {K : PySem.W.Frag} {mg : Str → Option Value} {base : Heap}
abbrev s_is_integer : Stmt := topS 17
theorem sc_is_integer : FnScope ["value"] ["value"] (defScope s_is_integer) := ⟨rfl, rfl, rfl, by decide +kernel, rfl, by decide +kernel, by decide +kernel⟩
def isI : V → Bool
  | .int _ => true
  | _ => false
def Num (v : V) : Prop := (∃ i, v = .int i) ∨ ∃ b, v = .bl b
def spInteger : Sp := fun vs H Q _ => ∃ v : V, vs = [v] ∧ Num v ∧ RetV (.bl (isI v)) H Q
theorem ok_is_integer (F : Has K mg "is_integer" s_is_integer ["value"]) (B : Gm mg) : C8.Cal P w K mg base 1 "is_integer" spInteger [] := by
  refine cal_of F sc_is_integer (fun vs H Q E h => ?_) (fun f cdv A outer s H vs Q E hr h => ?_)
  · obtain ⟨v, rfl, _⟩ := h
    rfl
  · obtain ⟨v, rfl, hv, q⟩ := h
    refine ⟨_, (pss_one (ps_ret (pe_and (pe_callB call_isi (by rfl) B.isinstance (by decide +kernel) (pa_cons (pv 0) (pa_cons (pe_bltn (v := .ty "int") (by rfl) B.int_ (by decide +kernel) rfl) pa_nil))) (pe_one (pe_not (pe_callB call_isi (by rfl) B.isinstance (by decide +kernel) (pa_cons (pv 0) (pa_cons (pe_bltn (v := .ty "bool") (by rfl) B.bool_ (by decide +kernel) rfl) pa_nil)))))))), ?_⟩
    rcases hv with ⟨i, rfl⟩ | ⟨b, rfl⟩
    · exact s_ret (ev_andV (ev_isi (ev_var rfl) ev_c (fun _ _ => ty_int) kit_ii) fun _ => ev_notV (ev_isi (ev_var rfl) ev_c (fun _ _ => ty_int) kit_ib)) fun H1 e1 => q H1 e1
    · exact s_ret (ev_andV (ev_isi (ev_var rfl) ev_c (fun _ _ => ty_bl) kit_bi) fun _ => ev_notV (ev_isi (ev_var rfl) ev_c (fun _ _ => ty_bl) kit_bb)) fun H1 e1 => q H1 e1
theorem call_integer {σ : L2.St} {H : Hp} {t1 : TE} {v : V} (h1 : Ev t1 σ H v) (hv : Num v) : Ev (tCall spInteger [] C8.E0 (tCons t1 tNil)) σ H (.bl (isI v)) :=
  ev_call1 (ea_cons h1 ea_nil) fun H1 e Q q => ⟨v, rfl, hv, q⟩
abbrev s_check_net : Stmt := topS 18
theorem sc_check_net : FnScope ["net"] ["net"] (defScope s_check_net) := ⟨rfl, rfl, rfl, by decide +kernel, rfl, by decide +kernel, by decide +kernel⟩
def spChkNet : Sp := fun vs H Q _ => ∃ (a : Addr) (n : Nat) (rs : List Rule), vs = [.ref a] ∧ NetAt H a n rs ∧ NetOk n rs ∧ RetV .non H Q
theorem ok_check_net (F : Has K mg "check_net" s_check_net ["net"]) (B : Gm mg) (G_is_net : C8.Cal P w K mg base 4 "is_net" spNet []) : C8.Cal P w K mg base 5 "check_net" spChkNet [] := by
  refine cal_of F sc_check_net (fun vs H Q E h => ?_) (fun f cdv A outer s H vs Q E hr h => ?_)
  · obtain ⟨a, n, rs, rfl, _⟩ := h
    rfl
  · obtain ⟨a, n, rs, rfl, hA, ho, q⟩ := h
    refine ⟨_, (pss_one (ps_if (pt_not (pt_val (C8.pe_c G_is_net hr (by decide) (by rfl) (pa_cons (pv 0) pa_nil)))) (pss_one ps_never) pss_nil)), ?_⟩
    exact s_no (et_is (et_not (et_B (ev_call1 (z := .bl true) (ea_cons (ev_var rfl) ea_nil) fun H1 e Q q => ⟨a, n, rs, rfl, hA.ts (Tu.of e), ho, q⟩))) rfl) fun H1 e1 => q H1 e1
abbrev s_check_times : Stmt := topS 26
theorem sc_check_times : FnScope ["net", "times"] ["net", "times"] (defScope s_check_times) := ⟨rfl, rfl, rfl, by decide +kernel, rfl, by decide +kernel, by decide +kernel⟩
def spChkTimes : Sp := fun vs H Q _ => ∃ (a b : Addr) (n : Nat) (rs : List Rule) (ts : List Int), vs = [.ref a, .ref b] ∧ NetAt H a n rs ∧ IntsAt H b ts ∧ NetOk n rs ∧ TimesOk n rs ts ∧ RetV .non H Q
theorem ok_check_times (F : Has K mg "check_times" s_check_times ["net", "times"]) (B : Gm mg) (G_is_times : C8.Cal P w K mg base 2 "is_times" spTimes []) (G_all_hold : C8.Cal P w K mg base 2 "all_hold" spHold []) : C8.Cal P w K mg base 3 "check_times" spChkTimes [] := by
  refine cal_of F sc_check_times (fun vs H Q E h => ?_) (fun f cdv A outer s H vs Q E hr h => ?_)
  · obtain ⟨a, b, n, rs, ts, rfl, _⟩ := h
    rfl
  · obtain ⟨a, b, n, rs, ts, rfl, hA, hB, ho, ht, q⟩ := h
    refine ⟨_, (pss_one (ps_if (PW.pt (pw_or (pt_not (pt_val (C8.pe_c G_is_times hr (by decide) (by rfl) (pa_cons (pv 1) (pa_cons (pv 0) pa_nil))))) (pw_or1 (pt_not (pt_val (C8.pe_c G_all_hold hr (by decide) (by rfl) (pa_cons (pv 0) (pa_cons (pv 1) pa_nil)))))))) (pss_one ps_never) pss_nil)), ?_⟩
    exact s_no (et_is (et_or (et_not (et_B (ev_call1 (z := .bl true) (ea_cons (ev_var rfl) (ea_cons (ev_var rfl) ea_nil)) fun H1 e Q q => ⟨b, a, n, rs, ts, rfl, e _ _ hB, hA.ts (Tu.of e), ht.len, ho.n4, ht.bd, q⟩))) fun _ => et_not (et_B (ev_call1 (z := .bl true) (ea_cons (ev_var rfl) (ea_cons (ev_var rfl) ea_nil)) fun H1 e Q q => ⟨a, b, n, rs, ts, rfl, hA.ts (Tu.of e), e _ _ hB, ho, ht, q⟩))) rfl) fun H1 e1 => q H1 e1
abbrev s_is_event_time : Stmt := topS 31
theorem sc_is_event_time : FnScope ["event", "time"] ["event", "time"] (defScope s_is_event_time) := ⟨rfl, rfl, rfl, by decide +kernel, rfl, by decide +kernel, by decide +kernel⟩
def spEvTime : Sp := fun vs H Q _ => ∃ e t : Int, vs = [.int e, .int t] ∧ 0 ≤ e ∧ e ≤ 5 ∧ -500 ≤ t ∧ t ≤ 500 ∧ RetV (.bl true) H Q
theorem ok_is_event_time (F : Has K mg "is_event_time" s_is_event_time ["event", "time"]) (B : Gm mg) (G_is_integer : C8.Cal P w K mg base 1 "is_integer" spInteger []) : C8.Cal P w K mg base 2 "is_event_time" spEvTime [] := by
  refine cal_of F sc_is_event_time (fun vs H Q E h => ?_) (fun f cdv A outer s H vs Q E hr h => ?_)
  · obtain ⟨e, t, rfl, _⟩ := h
    rfl
  · obtain ⟨e, t, rfl, h1, h2, h3, h4, q⟩ := h
    refine ⟨_, (pss_cons (ps_if (PW.pt (pw_or (pt_not (pt_val (C8.pe_c G_is_integer hr (by decide) (by rfl) (pa_cons (pv 0) pa_nil)))) (pw_or1 (pt_not (pt_chain op_le op_le pe_int (pv 0) (C8.pe_gc (by rfl) B.cMOST_EVENT)))))) (pss_one (ps_ret pe_bl)) pss_nil)
  (pss_one (ps_ret (pe_and (C8.pe_c G_is_integer hr (by decide) (by rfl) (pa_cons (pv 1) pa_nil)) (pe_one (pe_chain op_le op_le (pe_un un_neg (C8.pe_gc (by rfl) B.cMOST_TIME)) (pv 1) (C8.pe_gc (by rfl) B.cMOST_TIME))))))), ?_⟩
    refine q_no (et_is (et_or (et_not (et_B (call_integer (ev_var rfl) (.inl ⟨e, rfl⟩)))) fun _ => et_not (et_chain ev_c (ev_var rfl) ev_c)) (by
      rw [decide_eq_true h1, decide_eq_true h2]
      rfl)) fun H1 e1 => ?_
    refine s_ret (ev_is (ev_andV (call_integer (ev_var rfl) (.inl ⟨t, rfl⟩)) fun _ => ev_chain (ev_un ev_c ru_neg) (ev_var rfl) ev_c) (by
      rw [decide_eq_true h3, decide_eq_true h4]
      rfl)) fun H2 e2 => q H2 (e1.trans e2)
abbrev s_is_step : Stmt := topS 32
theorem sc_is_step : FnScope ["value"] ["value"] (defScope s_is_step) := ⟨rfl, rfl, rfl, by decide +kernel, rfl, by decide +kernel, by decide +kernel⟩
def spStep : Sp := fun vs H Q _ => ∃ (a : Addr) (s : Stp), vs = [.ref a] ∧ StpAt H a s ∧ s.ok ∧ RetV (.bl true) H Q
theorem ok_is_step (F : Has K mg "is_step" s_is_step ["value"]) (B : Gm mg) (G_is_event_time : C8.Cal P w K mg base 2 "is_event_time" spEvTime []) : C8.Cal P w K mg base 3 "is_step" spStep [] := by
  refine cal_of F sc_is_step (fun vs H Q E h => ?_) (fun f cdv A outer s H vs Q E hr h => ?_)
  · obtain ⟨a, st, rfl, _⟩ := h
    rfl
  · obtain ⟨a, st, rfl, hA, ⟨h1, h2, h3, h4⟩, q⟩ := h
    refine ⟨_, (pss_cons (ps_if (PW.pt (pw_or (pt_not (pt_val (pe_callB call_isi (by rfl) B.isinstance (by decide +kernel) (pa_cons (pv 0) (pa_cons (pe_bltn (v := .ty "tuple") (by rfl) B.tuple_ (by decide +kernel) rfl) pa_nil))))) (pw_or (pt_cmpR op_ne (pe_callB call_len_seq (by rfl) B.len (by decide +kernel) (pa_cons (pv 0) pa_nil)) pe_int (nomark _)) (pw_or1 (pt_not (pt_val (pe_callB call_isi (by rfl) B.isinstance (by decide +kernel) (pa_cons (pe_ix ix_tup (pv 0) pe_int (fun _ _ => rfl)) (pa_cons (pe_bltn (v := .ty "str") (by rfl) B.str_ (by decide +kernel) rfl) pa_nil))))))))) (pss_one (ps_ret pe_bl)) pss_nil)
  (pss_one (ps_ret (pe_and (pe_cmpR op_in_seq (pe_ix ix_tup (pv 0) pe_int (fun _ _ => rfl)) (pe_tup (pa_cons pe_str (pa_cons pe_str pa_nil))) (by rfl)) (pe_one (C8.pe_c G_is_event_time hr (by decide) (by rfl) (pa_cons (pe_ix ix_tup (pv 0) pe_int (fun _ _ => rfl)) (pa_cons (pe_ix ix_tup (pv 0) pe_int (fun _ _ => rfl)) pa_nil)))))))), ?_⟩
    refine q_no (et_is (et_or (et_not (et_B (ev_isi (ev_var rfl) ev_c (fun _ e => ty_tup (e _ _ hA)) kit_tt))) fun _ => et_or (et_test (ev_op (ev_lenT (ev_var rfl) hA) ev_c (rv_ne rfl))) fun _ => et_not (et_B (ev_isi (ev_ixT (ev_var rfl) ev_c hA rfl) ev_c (fun _ _ => ty_str) kit_ss))) rfl) fun H1 e1 => ?_
    have hA1 := e1 _ _ hA
    refine s_ret (ev_is (ev_andV (ev_inU (ev_ixT (ev_var rfl) ev_c hA1 rfl) (eu_tup (ea_cons ev_c (ea_cons ev_c ea_nil)) (by decide)) rfl rfl) fun _ => ev_call1 (ea_cons (ev_ixT (ev_var rfl) ev_c hA1 rfl) (ea_cons (ev_ixT (ev_var rfl) ev_c hA1 rfl) ea_nil)) fun H2 e2 Q q => ⟨st.e, st.t, rfl, h1, by omega, h3, h4, q⟩) ?_) fun H2 e2 => q H2 (e1.trans e2)
    cases st.up <;> decide +kernel
abbrev s_are_steps : Stmt := topS 33
theorem sc_are_steps : FnScope ["value", "one"] ["value"] (defScope s_are_steps) := ⟨rfl, rfl, rfl, by decide +kernel, rfl, by decide +kernel, by decide +kernel⟩
def spSteps : Sp := fun vs H Q _ => ∃ (a : Addr) (ss : List Stp), vs = [.ref a] ∧ StepsAt H a ss ∧ StepsOk ss ∧ RetV (.bl true) H Q
theorem ok_are_steps (F : Has K mg "are_steps" s_are_steps ["value"]) (B : Gm mg) (G_is_step : C8.Cal P w K mg base 3 "is_step" spStep []) : C8.Cal P w K mg base 4 "are_steps" spSteps [] := by
  refine cal_of F sc_are_steps (fun vs H Q E h => ?_) (fun f cdv A outer s H vs Q E hr h => ?_)
  · obtain ⟨a, st, rfl, _⟩ := h
    rfl
  · obtain ⟨a, ss, rfl, ⟨as, hA, hP⟩, ho, q⟩ := h
    have l1 := ho.len
    have el : (as.map V.ref).length = ss.length := by
      rw [List.length_map]
      exact pair_len hP
    refine ⟨_, (pss_one (ps_ret (pe_and (pe_callB call_isi (by rfl) B.isinstance (by decide +kernel) (pa_cons (pv 0) (pa_cons (pe_bltn (v := .ty "tuple") (by rfl) B.tuple_ (by decide +kernel) rfl) pa_nil))) (pe_and (pe_cmpR op_le (pe_callB call_len_seq (by rfl) B.len (by decide +kernel) (pa_cons (pv 0) pa_nil)) (C8.pe_gc (by rfl) B.cMOST_STEPS) (nomark _)) (pe_one (pe_callB (cr_all rfl) (by rfl) B.all (by decide +kernel) (pa_cons (pe_lc (own := [("one", 1)]) rfl sc_are_steps.nd (pi_tup (pv 0)) (blkOk_by (N := ["value", "one"]) (sc := (defScope s_are_steps)) (by decide +kernel)) (fun _ _ _ _ _ => (pg_name (i := 1) sc_are_steps.nd rfl (by first | exact .inl rfl | exact .inr rfl))) (fun _ _ _ _ _ => pts_nil) (fun _ _ _ _ _ => (C8.pe_c G_is_step hr (by decide) (by rfl) (pa_cons (pv 1) pa_nil)))) pa_nil))))))), ?_⟩
    refine s_ret (ev_is (ev_andV (ev_isi (ev_var rfl) ev_c (fun _ e => ty_tup (e _ _ hA)) kit_tt) fun _ => ev_andV (ev_op (ev_lenT (ev_var rfl) hA) ev_c rv_I0) fun _ => ev_allY (el_mapT (fun _ => V.bl true) (ev_var rfl) hA (by omega) (fun _ => rfl) fun i x H3 e3 hi => ?_)) (by
      rw [el, decide_eq_true (by omega)]
      rfl)) fun H4 e4 => q H4 e4
    obtain ⟨c, hc, rfl⟩ := ref_at hi
    obtain ⟨r, hr2, hrb⟩ := pair_at2 hP hc
    exact ev_call1 (ea_cons (ev_var rfl) ea_nil) fun H5 e5 Q q => ⟨c, r, rfl, e5 _ _ (e3 _ _ hrb), ho.ok r (List.mem_of_getElem? hr2), q⟩
abbrev s_check_steps : Stmt := topS 34
theorem sc_check_steps : FnScope ["steps"] ["steps"] (defScope s_check_steps) := ⟨rfl, rfl, rfl, by decide +kernel, rfl, by decide +kernel, by decide +kernel⟩
def spChkSteps : Sp := fun vs H Q _ => ∃ (a : Addr) (ss : List Stp), vs = [.ref a] ∧ StepsAt H a ss ∧ StepsOk ss ∧ RetV .non H Q
theorem ok_check_steps (F : Has K mg "check_steps" s_check_steps ["steps"]) (B : Gm mg) (G_are_steps : C8.Cal P w K mg base 4 "are_steps" spSteps []) : C8.Cal P w K mg base 5 "check_steps" spChkSteps [] := by
  refine cal_of F sc_check_steps (fun vs H Q E h => ?_) (fun f cdv A outer s H vs Q E hr h => ?_)
  · obtain ⟨a, st, rfl, _⟩ := h
    rfl
  · obtain ⟨a, ss, rfl, hA, ho, q⟩ := h
    refine ⟨_, (pss_one (ps_if (pt_not (pt_val (C8.pe_c G_are_steps hr (by decide) (by rfl) (pa_cons (pv 0) pa_nil)))) (pss_one ps_never) pss_nil)), ?_⟩
    exact s_no (et_is (et_not (et_B (ev_call1 (z := .bl true) (ea_cons (ev_var rfl) ea_nil) fun H1 e Q q => ⟨a, ss, rfl, hA.ts (Tu.of e), ho, q⟩))) rfl) fun H1 e1 => q H1 e1
abbrev s_do_commute : Stmt := topS 35
theorem sc_do_commute : FnScope ["one", "other", "first", "second"] ["one", "other"] (defScope s_do_commute) := ⟨rfl, rfl, rfl, by decide +kernel, rfl, by decide +kernel, by decide +kernel⟩
def spCommute : Sp := fun vs H Q _ => ∃ (a b : Addr) (x y : Stp), vs = [.ref a, .ref b] ∧ StpAt H a x ∧ StpAt H b y ∧ RetV (.bl (commM x y)) H Q
theorem ok_do_commute (F : Has K mg "do_commute" s_do_commute ["one", "other"]) (B : Gm mg) : C8.Cal P w K mg base 1 "do_commute" spCommute [] := by
  refine cal_of F sc_do_commute (fun vs H Q E h => ?_) (fun f cdv A outer s H vs Q E hr h => ?_)
  · obtain ⟨a, b, x, y, rfl, _⟩ := h
    rfl
  · obtain ⟨a, b, x, y, rfl, hA, hB, q⟩ := h
    refine ⟨_, (pss_cons (ps_if (pt_cmpR op_eq (pe_ix ix_tup (pv 0) pe_int (fun _ _ => rfl)) (pe_ix ix_tup (pv 1) pe_int (fun _ _ => rfl)) (nomark _)) (pss_one (ps_ret pe_bl)) pss_nil)
  (pss_cons (ps_asg (pe_ifExp (pt_cmpR op_eq (pe_ix ix_tup (pv 0) pe_int (fun _ _ => rfl)) pe_str (nomark _)) (pe_tup (pa_cons (pv 0) (pa_cons (pv 1) pa_nil))) (pe_tup (pa_cons (pv 1) (pa_cons (pv 0) pa_nil)))) (pg_tup (by rfl) (pgs_cons (pg_name (i := 2) sc_do_commute.nd rfl (by first | exact .inl rfl | exact .inr rfl)) (pgs_cons (pg_name (i := 3) sc_do_commute.nd rfl (by first | exact .inl rfl | exact .inr rfl)) pgs_nil))))
  (pss_one (ps_ret (pe_and (pe_cmpR op_eq (pe_ix ix_tup (pv 2) pe_int (fun _ _ => rfl)) (pe_ix ix_tup (pv 3) pe_int (fun _ _ => rfl)) (nomark _)) (pe_one (pe_cmpR op_le (pe_ix ix_tup (pv 2) pe_int (fun _ _ => rfl)) (pe_ix ix_tup (pv 3) pe_int (fun _ _ => rfl)) (nomark _)))))))), ?_⟩
    refine q_when (et_is (b := decide (x.up = y.up)) (et_test (ev_op (ev_ixT (ev_var rfl) ev_c hA rfl) (ev_ixT (ev_var rfl) ev_c hB rfl) (rv_eq rfl))) (kind_eq x.up y.up)) (fun z H1 e1 => s_ret ev_c fun H2 e2 => ?_) fun z H1 e1 => ?_
    · have q2 := q H2 (e1.trans e2)
      unfold commM at q2
      rw [if_pos (of_decide_eq_true z)] at q2
      exact q2
    · have hA1 := e1 _ _ hA
      have hB1 := e1 _ _ hB
      unfold commM at q
      rw [if_neg (of_decide_eq_false z)] at q
      cases hx : x.up with
      | true =>
        rw [hx, if_pos rfl] at q
        refine q_unpU2 (x := .ref a) (y := .ref b) (eu_ifT (et_is (et_test (ev_op (ev_ixT (ev_var rfl) ev_c hA1 rfl) ev_c (rv_eq rfl))) ((kind_up x.up).trans hx)) (eu_tup (ea_cons (ev_var rfl) (ea_cons (ev_var rfl) ea_nil)) (show 2 ≤ 100000 by decide))) fun H2 e2 => ?_
        refine s_ret (ev_is (ev_andV (ev_op (ev_ixT (ev_var rfl) ev_c (e2 _ _ hA1) rfl) (ev_ixT (ev_var rfl) ev_c (e2 _ _ hB1) rfl) (rv_eq rfl)) fun _ => ev_op (ev_ixT (ev_var rfl) ev_c (e2 _ _ hA1) rfl) (ev_ixT (ev_var rfl) ev_c (e2 _ _ hB1) rfl) rv_I0) ?_) fun H3 e3 => q H3 ((e1.trans e2).trans e3)
        rw [dec_i]
      | false =>
        rw [hx, if_neg (by decide)] at q
        refine q_unpU2 (x := .ref b) (y := .ref a) (eu_ifF (et_is (et_test (ev_op (ev_ixT (ev_var rfl) ev_c hA1 rfl) ev_c (rv_eq rfl))) ((kind_up x.up).trans hx)) (eu_tup (ea_cons (ev_var rfl) (ea_cons (ev_var rfl) ea_nil)) (show 2 ≤ 100000 by decide))) fun H2 e2 => ?_
        refine s_ret (ev_is (ev_andV (ev_op (ev_ixT (ev_var rfl) ev_c (e2 _ _ hB1) rfl) (ev_ixT (ev_var rfl) ev_c (e2 _ _ hA1) rfl) (rv_eq rfl)) fun _ => ev_op (ev_ixT (ev_var rfl) ev_c (e2 _ _ hB1) rfl) (ev_ixT (ev_var rfl) ev_c (e2 _ _ hA1) rfl) rv_I0) ?_) fun H3 e3 => q H3 ((e1.trans e2).trans e3)
        rw [dec_i]
abbrev s_is_stronger : Stmt := topS 39
theorem sc_is_stronger : FnScope ["one", "other"] ["one", "other"] (defScope s_is_stronger) := ⟨rfl, rfl, rfl, by decide +kernel, rfl, by decide +kernel, by decide +kernel⟩
def spStronger : Sp := fun vs H Q _ => ∃ (a b : Addr) (x y : Stp), vs = [.ref a, .ref b] ∧ StpAt H a x ∧ StpAt H b y ∧ RetV (.bl (strongM x y)) H Q
theorem ok_is_stronger (F : Has K mg "is_stronger" s_is_stronger ["one", "other"]) (B : Gm mg) : C8.Cal P w K mg base 1 "is_stronger" spStronger [] := by
  refine cal_of F sc_is_stronger (fun vs H Q E h => ?_) (fun f cdv A outer s H vs Q E hr h => ?_)
  · obtain ⟨a, b, x, y, rfl, _⟩ := h
    rfl
  · obtain ⟨a, b, x, y, rfl, hA, hB, q⟩ := h
    refine ⟨_, (pss_one (ps_ret (pe_ifExp (pt_cmpR op_eq (pe_ix ix_tup (pv 0) pe_int (fun _ _ => rfl)) pe_str (nomark _)) (pe_cmpR op_gt (pe_ix ix_tup (pv 0) pe_int (fun _ _ => rfl)) (pe_ix ix_tup (pv 1) pe_int (fun _ _ => rfl)) (nomark _)) (pe_cmpR op_lt (pe_ix ix_tup (pv 0) pe_int (fun _ _ => rfl)) (pe_ix ix_tup (pv 1) pe_int (fun _ _ => rfl)) (nomark _))))), ?_⟩
    refine s_ret (ev_if (v := .bl (strongM x y)) (et_is (et_test (ev_op (ev_ixT (ev_var rfl) ev_c hA rfl) ev_c (rv_eq rfl))) (kind_up x.up)) (fun z => ?_) fun z => ?_) fun H1 e1 => q H1 e1
    · unfold strongM
      rw [if_pos z]
      exact ev_op (ev_ixT (ev_var rfl) ev_c hA rfl) (ev_ixT (ev_var rfl) ev_c hB rfl) rv_I0
    · unfold strongM
      rw [if_neg (by rw [z]; decide)]
      exact ev_op (ev_ixT (ev_var rfl) ev_c hA rfl) (ev_ixT (ev_var rfl) ev_c hB rfl) rv_I0
end
end Abl
namespace Abl
open PySem PySem.Spec PyProof.Rows L2
open Evl (Ex Ev EvT EvA EvL EvU EvO ev_var ev_c ev_op ev_is et_is ev_andV ev_orV ev_notV et_and et_or et_not et_B et_test rv_I0 rv_eq rv_ne ea_nil ea_cons s_ret s_if s_when q_when q_asg ev_if RetV eu_tup ev_inU ev_un ru_neg eo_none eo_some el_sl ev_opUU)
section
variable {P : Program} {w : World} {K : PySem.W.Frag} {mg : Str → Option Value} {base : Heap}
/-! ### idle steps -/
theorem call_stronger {σ : L2.St} {H : Hp} {t1 t2 : TE} {a b : Addr} {x y : Stp} (h1 : Ev t1 σ H (.ref a)) (h2 : Ev t2 σ H (.ref b)) (hA : StpAt H a x) (hB : StpAt H b y) : Ev (tCall spStronger [] C8.E0 (tCons t1 (tCons t2 tNil))) σ H (.bl (strongM x y)) :=
  ev_call1 (ea_cons h1 (ea_cons h2 ea_nil)) fun H1 e Q q => ⟨a, b, x, y, rfl, e _ _ hA, e _ _ hB, q⟩
theorem call_commute {σ : L2.St} {H : Hp} {t1 t2 : TE} {a b : Addr} {x y : Stp} (h1 : Ev t1 σ H (.ref a)) (h2 : Ev t2 σ H (.ref b)) (hA : StpAt H a x) (hB : StpAt H b y) : Ev (tCall spCommute [] C8.E0 (tCons t1 (tCons t2 tNil))) σ H (.bl (commM x y)) :=
  ev_call1 (ea_cons h1 (ea_cons h2 ea_nil)) fun H1 e Q q => ⟨a, b, x, y, rfl, e _ _ hA, e _ _ hB, q⟩
theorem cut_ref (as : List Addr) (lo hi : Option Int) : cutV (as.map V.ref) lo hi = ((as.drop (HT.sIx as.length 0 lo)).take (HT.sIx as.length as.length hi - HT.sIx as.length 0 lo)).map V.ref := by
  unfold cutV
  rw [List.length_map, List.map_take, List.map_drop]
theorem dec_n (i j : Nat) : decide (V.int (i : Int) = V.int (j : Int)) = decide (i = j) := by
  rw [dec_i]
  by_cases h : i = j
  · rw [decide_eq_true h, decide_eq_true (congrArg _ h)]
  · rw [decide_eq_false h]
    exact decide_eq_false fun z => h (by omega)
theorem dec_lt (i j : Nat) : decide ((i : Int) < (j : Int)) = decide (i < j) := by
  by_cases h : i < j
  · rw [decide_eq_true h, decide_eq_true (by omega)]
  · rw [decide_eq_false h, decide_eq_false (by omega)]
def twoD (s : Stp) : PyData := .tuple [.str (kindS s.up), .int s.e]
theorem two_shaped (s : Stp) : SeqAt.shaped (twoD s) = true := by
  unfold twoD SeqAt.shaped
  cases s.up
  · rw [show PyData.canLay0 (.tuple [.str (kindS false), .int s.e]) = true from (by
      show (PyData.canLay0 (.str (kindS false)) && (true && true)) = true
      rw [show PyData.canLay0 (.str (kindS false)) = true by decide +kernel]
      rfl)]
    rfl
  · rw [show PyData.canLay0 (.tuple [.str (kindS true), .int s.e]) = true from (by
      show (PyData.canLay0 (.str (kindS true)) && (true && true)) = true
      rw [show PyData.canLay0 (.str (kindS true)) = true by decide +kernel]
      rfl)]
    rfl
theorem two_eqv (x y : Stp) : PyData.eqv (twoD x) (twoD y) = (decide (x.up = y.up) && decide (x.e = y.e)) := by
  show ((kindS x.up == kindS y.up) && ((x.e == y.e) && true)) = _
  have h1 : (kindS x.up == kindS y.up) = decide (x.up = y.up) := by
    rw [← kind_eq, dec_str]
  rw [h1, Bool.and_true]
  rfl
theorem two_dp {H : Hp} {p : Addr} {s : Stp} (h : H p = some (.tup [.str (kindS s.up), .int s.e])) : Dp K H (.ref p) (twoD s) := .tup (SqT.of h) (.cons (.str _) (.cons (.int _) .nil))
abbrev s_makes_idle : Stmt := topS 40
theorem sc_makes_idle : FnScope ["steps", "index", "by", "step", "other", "between"] ["steps", "index", "by"] (defScope s_makes_idle) := ⟨rfl, rfl, rfl, by decide +kernel, rfl, by decide +kernel, by decide +kernel⟩
def spIdle : Sp := fun vs H Q _ => ∃ (p : Addr) (i j : Nat) (ss : List Stp), vs = [.ref p, .int (i : Int), .int (j : Int)] ∧ StepsL H p ss ∧ i < ss.length ∧ j < ss.length ∧ ss.length ≤ 12 ∧ RetV (.bl (idleM ss i j)) H Q
theorem ok_makes_idle (F : Has K mg "makes_idle" s_makes_idle ["steps", "index", "by"]) (B : Gm mg) (G_is_stronger : C8.Cal P w K mg base 1 "is_stronger" spStronger []) (G_do_commute : C8.Cal P w K mg base 1 "do_commute" spCommute []) : C8.Cal P w K mg base 2 "makes_idle" spIdle [] := by
  refine cal_of F sc_makes_idle (fun vs H Q E h => ?_) (fun f cdv A outer s H vs Q E hr h => ?_)
  · obtain ⟨p, i, j, ss, rfl, _⟩ := h
    rfl
  · obtain ⟨p, i, j, ss, rfl, ⟨as, hL, hP⟩, hi, hj, h12, q⟩ := h
    have hlen := pair_len hP
    obtain ⟨a, ha, hA⟩ := pair_at hP (List.getElem?_eq_getElem hi)
    obtain ⟨b, hb, hB⟩ := pair_at hP (List.getElem?_eq_getElem hj)
    have ex := List.getElem?_eq_getElem hi
    have ey := List.getElem?_eq_getElem hj
    generalize ss[i] = x at hA ex
    generalize ss[j] = y at hB ey
    have ra : (as.map V.ref)[i]? = some (.ref a) := by rw [List.getElem?_map, ha]; rfl
    have rb : (as.map V.ref)[j]? = some (.ref b) := by rw [List.getElem?_map, hb]; rfl
    have em : idleM ss i j = if i = j ∨ x.up ≠ y.up ∨ x.e ≠ y.e then false else if i < j then !strongM x y else strongM y x && ((ss.take i).drop (j + 1)).all (commM x) := by
      unfold idleM
      rw [ex, ey]
    refine ⟨_, (pss_cons (ps_asg (pe_tup (pa_cons (pe_ix ix_list (pv 0) (pv 1) (fun _ _ => rfl)) (pa_cons (pe_ix ix_list (pv 0) (pv 2) (fun _ _ => rfl)) pa_nil))) (pg_tup (by rfl) (pgs_cons (pg_name (i := 3) sc_makes_idle.nd rfl (by first | exact .inl rfl | exact .inr rfl)) (pgs_cons (pg_name (i := 4) sc_makes_idle.nd rfl (by first | exact .inl rfl | exact .inr rfl)) pgs_nil))))
  (pss_cons (ps_if (PW.pt (pw_or (pt_cmpR op_eq (pv 1) (pv 2) (nomark _)) (pw_or1 (pt_cmpR (op_neD hr.units) (pe_slice sl_tupA (pv 3) po_none (po_some pe_int)) (pe_slice sl_tupA (pv 4) po_none (po_some pe_int)) (nomark _))))) (pss_one (ps_ret pe_bl)) pss_nil)
  (pss_cons (ps_if (pt_cmpR op_gt (pv 2) (pv 1) (nomark _)) (pss_one (ps_ret (pe_not (C8.pe_c G_is_stronger hr (by decide) (by rfl) (pa_cons (pv 3) (pa_cons (pv 4) pa_nil)))))) pss_nil)
  (pss_one (ps_ret (pe_and (C8.pe_c G_is_stronger hr (by decide) (by rfl) (pa_cons (pv 4) (pa_cons (pv 3) pa_nil))) (pe_one (pe_callB (cr_all rfl) (by rfl) B.all (by decide +kernel) (pa_cons (pe_lc (own := [("between", 5)]) rfl sc_makes_idle.nd (pi_list (pe_slice sl_list (pv 0) (po_some (pe_op op_add (pv 2) pe_int)) (po_some (pv 1)))) (blkOk_by (N := ["steps", "index", "by", "step", "other", "between"]) (sc := (defScope s_makes_idle)) (by decide +kernel)) (fun _ _ _ _ _ => (pg_name (i := 5) sc_makes_idle.nd rfl (by first | exact .inl rfl | exact .inr rfl))) (fun _ _ _ _ _ => pts_nil) (fun _ _ _ _ _ => (C8.pe_c G_do_commute hr (by decide) (by rfl) (pa_cons (pv 3) (pa_cons (pv 5) pa_nil))))) pa_nil))))))))), ?_⟩
    refine q_unpU2 (x := .ref a) (y := .ref b) (eu_tup (ea_cons (ev_ixL (ev_var rfl) (ev_var rfl) hL (atI_nat ra)) (ea_cons (ev_ixL (ev_var rfl) (ev_var rfl) hL (atI_nat rb)) ea_nil)) (show 2 ≤ 100000 by decide)) fun H1 e1 => ?_
    have hA1 := e1 _ _ hA
    have hB1 := e1 _ _ hB
    refine q_when (et_is (b := decide (i = j ∨ x.up ≠ y.up ∨ x.e ≠ y.e)) (et_or (et_test (ev_op (ev_var rfl) (ev_var rfl) (rv_eq rfl))) fun _ => et_test (ev_opUU (xs := [.str (kindS x.up), .int x.e]) (ys := [.str (kindS y.up), .int y.e]) (eu_slA (ev_var rfl) eo_none (eo_some ev_c) hA1 (by
        show ¬ (0 = 0 ∧ 2 = 3)
        omega)) (eu_slA (ev_var rfl) eo_none (eo_some ev_c) hB1 (by
        show ¬ (0 = 0 ∧ 2 = 3)
        omega)) fun p1 p2 H2 h1 h2 _ => rv_neD (fun H3 e3 => two_dp (e3 _ _ h1)) (fun H3 e3 => two_dp (e3 _ _ h2)) (two_shaped x) (two_shaped y))) ?_) (fun z H2 e2 => s_ret ev_c fun H3 e3 => ?_) fun z H2 e2 => ?_
    · rw [dec_n, two_eqv]
      by_cases h1 : i = j
      · simp [h1]
      · by_cases h2 : x.up = y.up
        · by_cases h3 : x.e = y.e
          · simp [h1, h2, h3]
          · simp [h1, h2, h3]
        · simp [h1, h2]
    · have q2 := q H3 ((e1.trans e2).trans e3)
      rw [em, if_pos (of_decide_eq_true z)] at q2
      exact q2
    · rw [em, if_neg (of_decide_eq_false z)] at q
      have hij : i ≠ j := fun e => of_decide_eq_false z (.inl e)
      refine q_when (et_is (et_test (ev_op (ev_var rfl) (ev_var rfl) rv_I0)) (dec_lt i j)) (fun z2 H3 e3 => ?_) fun z2 H3 e3 => ?_
      · rw [if_pos (of_decide_eq_true z2)] at q
        exact s_ret (ev_notV (call_stronger (ev_var rfl) (ev_var rfl) (e3 _ _ (e2 _ _ hA1)) (e3 _ _ (e2 _ _ hB1)))) fun H4 e4 => q H4 (((e1.trans e2).trans e3).trans e4)
      · have hlt : j < i := by
          have := of_decide_eq_false z2
          omega
        rw [if_neg (of_decide_eq_false z2)] at q
        have e123 := (e1.trans e2).trans e3
        have sl1 : HT.sIx as.length 0 (some ((j : Int) + 1)) = j + 1 := by
          rw [show (j : Int) + 1 = ((j + 1 : Nat) : Int) by omega, HT.sIx_nat]
          omega
        have sl2 : HT.sIx as.length as.length (some (i : Int)) = i := by
          rw [HT.sIx_nat]
          omega
        have ec : cutV (as.map V.ref) (some ((j : Int) + 1)) (some (i : Int)) = ((as.drop (j + 1)).take (i - (j + 1))).map V.ref := by
          rw [cut_ref, sl1, sl2]
        have hP2 : Paired (StpAt H3) ((as.drop (j + 1)).take (i - (j + 1))) ((ss.take i).drop (j + 1)) := by
          rw [List.drop_take]
          exact pair_take _ (pair_drop _ (pair_map hP fun _ _ q => e123 _ _ q))
        have hll := pair_len hP2
        generalize ((as.drop (j + 1)).take (i - (j + 1))) = cs at ec hP2 hll
        generalize hms : (ss.take i).drop (j + 1) = ms at q hP2 hll
        have hm12 : ms.length ≤ 12 := by
          rw [← hms, List.length_drop, List.length_take]
          omega
        refine s_ret (ev_is (ev_andV (call_stronger (ev_var rfl) (ev_var rfl) (e3 _ _ (e2 _ _ hB1)) (e3 _ _ (e2 _ _ hA1))) fun _ => ev_allF (b := fun k => commM x (ms.getD k d0)) (n := ms.length) ?_) ?_) fun H4 e4 => q H4 (e123.trans e4)
        · have hcl : (cutV (as.map V.ref) (some ((j : Int) + 1)) (some (i : Int))).length = ms.length := by
            rw [ec, List.length_map, hll]
          rw [← hcl]
          refine el_mapN (fun k => V.bl (commM x (ms.getD k d0))) (el_sl (ev_var rfl) (eo_some (ev_op (ev_var rfl) ev_c rv_I0)) (eo_some (ev_var rfl)) (SqL.of (e123 _ _ hL))) (by rw [hcl]; omega) (fun _ => rfl) fun k v H4 e4 hk => ?_
          rw [ec] at hk
          obtain ⟨c, hc, rfl⟩ := ref_at hk
          obtain ⟨m, hm, hC⟩ := pair_at2 hP2 hc
          rw [getD_of hm]
          exact call_commute (ev_var rfl) (ev_var rfl) (e4 _ _ (e3 _ _ (e2 _ _ hA1))) (e4 _ _ hC)
        · rw [range_all ms d0 (commM x)]
end
end Abl
namespace Abl
open PySem PySem.Spec PyProof.Rows L2
/-! ### more words: values told by a property; lists of places -/
section
open Evl
variable {K : PySem.W.Frag} {σ : L2.St} {H H' : Hp} {ta tb te : TE} {x v : V} {D : Ends} {tu tw tz : TS}
/-- gives some value of which R holds -/
def EvP (te : TE) (σ : L2.St) (H : Hp) (R : V → Hp → Prop) : Prop := ∀ H1, Ex H H1 → ∀ Q : VK, (∀ v H2, Ex H1 H2 → R v H2 → Q v H2) → te σ H1 Q
theorem EvP.mono {R : V → Hp → Prop} (e : Ex H H') (h : EvP te σ H R) : EvP te σ H' R := fun H1 a Q q => h H1 (e.trans a) Q q
theorem q_asgP {i : Nat} {R : V → Hp → Prop} (h : EvP te σ H R) (k : ∀ v H1, Ex H H1 → R v H1 → tz D (σ.set i (some v)) H1) : tSeq (tAsg te (gName i)) tz D σ H := h H (Ex.refl H) _ fun v H1 e r => k v H1 e r
theorem s_retP {R : V → Hp → Prop} (h : EvP te σ H R) (k : ∀ v H1, Ex H H1 → R v H1 → D.rt v H1) : tRet te D σ H := h H (Ex.refl H) _ k
theorem evp_call {sp : Sp} {E : XK} {ta : TA} {vs : List V} {R : V → Hp → Prop} (h : EvA ta σ H vs) (hs : ∀ H1, Ex H H1 → ∀ Q : VK, (∀ v H2, Ex H1 H2 → R v H2 → Q v H2) → sp vs H1 Q E) : EvP (tCall sp [] E ta) σ H R := fun H1 e Q q =>
  h H1 e _ fun H2 e2 => by
    show sp (vs ++ []) H2 Q E
    rw [List.append_nil]
    exact hs H2 (e.trans e2) Q fun v H3 e3 r => q v H3 (e2.trans e3) r
/-- the one argument a new list -/
theorem evp_callL {sp : Sp} {E : XK} {xs : List V} {R : V → Hp → Prop} (h : EvL te σ H xs) (hs : ∀ p H1, H1 p = some (.lst xs) → Ex H H1 → ∀ Q : VK, (∀ v H2, Ex H1 H2 → R v H2 → Q v H2) → sp [.ref p] H1 Q E) : EvP (tCall sp [] E (tCons te tNil)) σ H R := fun H1 e Q q =>
  h H1 e _ fun p H2 _ e2 hp => hs p H2 hp (e.trans e2) Q fun v H3 e3 r => q v H3 (e2.trans e3) r
/-- the first of three a new list -/
theorem ev_callL3 {sp : Sp} {E : XK} {xs : List V} {y z u : V} (h : EvL te σ H xs) (ha : Ev ta σ H y) (hb : Ev tb σ H z) (hs : ∀ p H1, H1 p = some (.lst xs) → Ex H H1 → ∀ Q : VK, (∀ H2, Ex H1 H2 → Q u H2) → sp [.ref p, y, z] H1 Q E) :
    Ev (tCall sp [] E (tCons te (tCons ta (tCons tb tNil)))) σ H u := fun H1 e Q q =>
  h H1 e _ fun p H2 _ e2 hp => ha H2 (e.trans e2) _ fun H3 e3 => hb H3 ((e.trans e2).trans e3) _ fun H4 e4 =>
    hs p H4 ((e3.trans e4) _ _ hp) (((e.trans e2).trans e3).trans e4) Q fun H5 e5 => q H5 (((e2.trans e3).trans e4).trans e5)
/-- tuple(l), l a list: a new tuple -/
def rTupOf (K : PySem.W.Frag) : List V → Hp → VK → Prop := fun xs H Q => ∃ p ys, xs = [.ref p] ∧ ((SqL K H p ys ∧ ∀ l, H l = none → Q (.ref l) (upd H l (.tup ys))) ∨ (SqT K H p ys ∧ Q (.ref p) H))
theorem eu_tupL {p : Addr} {xs : List V} (ha : Ev ta σ H (.ref p)) (h : H p = some (.lst xs)) : EvU (tCB (rTupOf K) (tCons ta tNil)) σ H xs := fun H1 e Q q =>
  ha H1 e _ fun H2 e2 => ⟨p, xs, rfl, .inl ⟨SqL.of (e2 _ _ (e _ _ h)), fun l hl => q l _ (fresh_back e2 hl) (e2.trans (Ex.new hl)) upd_same⟩⟩
theorem eu_tupN {xs : List V} (ha : EvL ta σ H xs) : EvU (tCB (rTupOf K) (tCons ta tNil)) σ H xs := fun H1 e Q q =>
  ha H1 e _ fun p H2 _ e2 hp => ⟨p, xs, rfl, .inl ⟨SqL.of hp, fun l hl => q l _ (fresh_back e2 hl) (e2.trans (Ex.new hl)) upd_same⟩⟩
/-- return (new tuple, e) -/
theorem s_retT2 {xs : List V} (h1 : EvU ta σ H xs) (h2 : Ev tb σ H v) (k : ∀ p g H1, Ex H H1 → H1 g = some (.tup xs) → H1 p = some (.tup [.ref g, v]) → D.rt (.ref p) H1) : tRet (tTup (tCons ta (tCons tb tNil))) D σ H :=
  h1 H (Ex.refl H) _ fun g H1 _ e1 hg => h2 H1 e1 _ fun H2 e2 => ⟨sz_of (show 2 ≤ 100000 by decide), fun p hp => k p g _ ((e1.trans e2).trans (Ex.new hp)) (Ex.new hp _ _ (e2 _ _ hg)) upd_same⟩
/-- list(range(n)) -/
def nv (ls : List Nat) : List V := ls.map fun (n : Nat) => V.int (n : Int)
theorem el_rng {n : Nat} (ha : Ev ta σ H (.int (n : Int))) (hn : n ≤ 1000) : EvL (tLstRg (tRg1 ta)) σ H (nv (List.range n)) := fun H1 e Q q =>
  ha H1 e _ fun H2 e2 => ⟨(n : Int), rfl, RgOk.of_le (by omega) (by omega) (by omega) (by omega), fun p hp => by
    refine q p _ (fresh_back e2 hp) (e2.trans (Ex.new hp)) ?_
    rw [upd_same]
    unfold rgV nv
    rw [show ((n : Int) - 0).toNat = n by omega]
    congr 1
    congr 1
    refine List.map_congr_left fun i _ => ?_
    rw [Int.zero_add]⟩
/-- l.pop(i) -/
theorem q_pop {l : Addr} {xs : List V} {j : Nat} (hl : H l = some (.lst xs)) (ha : Ev ta σ H (.ref l)) (h : Ev te σ H (.int (j : Int))) (hj : j < xs.length) (hz : xs.length ≤ 100000) (k : ∀ H1, Ex H H1 → D.nx σ (upd H1 l (.lst (xs.eraseIdx j)))) :
    tDrop (tBM K "list" rPopAt ta (tCons te tNil)) D σ H := ha H (Ex.refl H) _ fun H1 e1 =>
  ⟨Or.inl ⟨rfl, xs, SqL.of (e1 l _ hl)⟩, h H1 e1 _ fun H2 e2 => ⟨l, xs, (j : Int), j, xs[j], rfl, rfl, e2 l _ (e1 l _ hl), by omega, by omega, (ixN_seq (ixN_nat hj)).1, List.getElem?_eq_getElem hj, k H2 (e1.trans e2)⟩⟩
/-- l.index(i), l.remove(i): whole numbers -/
theorem ev_index {l : Addr} {ls : List Nat} {i : Int} {j : Nat} (hl : H l = some (.lst (nv ls))) (ha : Ev ta σ H (.ref l)) (h : Ev te σ H (.int i)) (hj : atM ls i = some j) : Ev (tBM K "list" (rIndex K) ta (tCons te tNil)) σ H (.int (j : Int)) := fun H0 e0 Q q =>
  ha H0 e0 _ fun H1 e1 => ⟨Or.inl ⟨rfl, _, SqL.of (e1 l _ (e0 l _ hl))⟩, h H1 (e0.trans e1) _ fun H2 e2 => by
    unfold atM at hj
    obtain ⟨hlt, h1, h2⟩ := List.findIdx?_eq_some_iff_getElem.mp hj
    refine ⟨l, nv ls, .int i, j, .int (ls[j] : Nat), rfl, rfl, SqL.of (e2 l _ (e1 l _ (e0 l _ hl))), rfl, ?_, ?_, ?_, fun m z' hm hz => ?_, q H2 (e1.trans e2)⟩
    · rw [List.all_eq_true]
      intro y hy
      obtain ⟨n, _, rfl⟩ := List.mem_map.mp hy
      rfl
    · unfold nv
      rw [List.getElem?_map, List.getElem?_eq_getElem hlt]
      rfl
    · have h3 := of_decide_eq_true h1
      show ((ls[j] : Nat) : Int) == i
      rw [h3]
      exact beq_self_eq_true i
    · unfold nv at hz
      have hml : m < ls.length := by omega
      rw [List.getElem?_map, List.getElem?_eq_getElem hml] at hz
      have hz2 : V.int ((ls[m] : Nat) : Int) = z' := Option.some.inj hz
      rw [← hz2]
      have h4 := h2 m hm
      have h5 : ¬ ((ls[m] : Nat) : Int) = i := by simpa using h4
      show ((((ls[m] : Nat) : Int) == i) : Bool) = false
      simpa using h5⟩
theorem q_remove {l : Addr} {ls : List Nat} {i : Int} {j : Nat} (hl : H l = some (.lst (nv ls))) (ha : Ev ta σ H (.ref l)) (h : Ev te σ H (.int i)) (hj : atM ls i = some j) (k : ∀ H1, Ex H H1 → D.nx σ (upd H1 l (.lst (nv (ls.eraseIdx j))))) :
    tDrop (tBM K "list" rRemI ta (tCons te tNil)) D σ H := ha H (Ex.refl H) _ fun H1 e1 =>
  ⟨Or.inl ⟨rfl, _, SqL.of (e1 l _ hl)⟩, h H1 e1 _ fun H2 e2 => by
    unfold atM at hj
    obtain ⟨hlt, h1, h2⟩ := List.findIdx?_eq_some_iff_getElem.mp hj
    have ei : ∀ q : List Nat, nv q = (q.map fun (n : Nat) => (n : Int)).map V.int := fun q => by
      unfold nv
      rw [List.map_map]
      rfl
    refine ⟨l, ls.map fun (n : Nat) => (n : Int), i, j, rfl, rfl, ?_, ?_, fun m hm hz => ?_, ?_⟩
    · rw [← ei]
      exact e2 l _ (e1 l _ hl)
    · rw [List.getElem?_map, List.getElem?_eq_getElem hlt]
      exact congrArg some (of_decide_eq_true h1)
    · have hml : m < ls.length := by omega
      rw [List.getElem?_map, List.getElem?_eq_getElem hml] at hz
      have hz2 : ((ls[m] : Nat) : Int) = i := Option.some.inj hz
      have h4 := h2 m hm
      have h5 : ¬ ((ls[m] : Nat) : Int) = i := by simpa using h4
      exact h5 hz2
    · rw [← map_erase, ← ei]
      exact k H2 (e1.trans e2)⟩
theorem nv_flat (ls : List Nat) : (nv ls).all flatV = true := by
  rw [List.all_eq_true]
  intro y hy
  obtain ⟨n, _, rfl⟩ := List.mem_map.mp hy
  rfl
theorem inV_nv (ls : List Nat) (i : Int) : inV (.int i) (nv ls) = (atM ls i).isSome := by
  unfold inV nv atM
  rw [List.any_map, List.findIdx?_isSome]
  rfl
theorem range_map {α β : Type} (l : List α) (d : α) (g : α → β) : (List.range l.length).map (fun k => g (l.getD k d)) = l.map g := by
  refine List.ext_getElem? fun i => ?_
  rw [List.getElem?_map, List.getElem?_map]
  by_cases h : i < l.length
  · rw [List.getElem?_range h, List.getElem?_eq_getElem h]
    show some (g (l.getD i d)) = some (g l[i])
    rw [List.getD_eq_getElem?_getD, List.getElem?_eq_getElem h]
    rfl
  · rw [List.getElem?_eq_none (by simp; omega), List.getElem?_eq_none (by omega)]
    rfl
/-- the steps that are left, by their addresses -/
def curA (as : List Addr) (left : List Nat) : List Addr := left.map fun n => as.getD n 0
theorem cur_pair {F : Addr → Stp → Prop} {as : List Addr} {ss : List Stp} (h : Paired F as ss) : ∀ {ls : List Nat}, (∀ n ∈ ls, n < ss.length) → Paired F (curA as ls) (curM ss ls)
  | [], _ => .nil
  | n :: r, hl => by
    have hn := hl n (List.mem_cons_self ..)
    obtain ⟨a, ha, hA⟩ := pair_at h (List.getElem?_eq_getElem hn)
    refine .cons ?_ ?_
    · show F (as.getD n 0) (ss.getD n d0)
      rw [getD_of ha, getD_of (List.getElem?_eq_getElem hn)]
      exact hA
    · exact cur_pair h fun m hm => hl m (List.mem_cons_of_mem _ hm)
/-- [t[k] for k in l] -/
theorem el_cur {a l : Addr} {as : List Addr} {ls : List Nat} {tl tt : TE} {j : Nat} {vs : List Nat} (hl : Ev tl σ H (.ref l)) (hL : H l = some (.lst (nv ls))) (hz : ls.length ≤ 1000) (hw : ∀ x, wipe ((wipe σ vs).set j (some x)) vs = wipe σ vs)
    (hT : H a = some (.tup (as.map V.ref))) (hb : ∀ n ∈ ls, n < as.length) (ht : ∀ x H1, Ev tt ((wipe σ vs).set j (some x)) H1 (.ref a)) (hx : ∀ x H1, Ev te ((wipe σ vs).set j (some x)) H1 x) :
    EvL (tLc (iList K tl) (gName j) tYes (tOp (rIxT K) tt te) vs) σ H ((curA as ls).map V.ref) := by
  have e : (curA as ls).map V.ref = (List.range (nv ls).length).map fun k => V.ref (as.getD (ls.getD k 0) 0) := by
    have h := range_map ls 0 fun n => V.ref (as.getD n 0)
    unfold curA nv
    rw [List.length_map, h, List.map_map]
    rfl
  rw [e]
  refine el_mapL (fun k => V.ref (as.getD (ls.getD k 0) 0)) hl hL (by unfold nv; rw [List.length_map]; omega) hw fun i x H1 e1 hi => ?_
  unfold nv at hi
  rw [List.getElem?_map] at hi
  cases hn : ls[i]? with
  | none => rw [hn] at hi; cases hi
  | some n =>
    rw [hn] at hi
    have hx2 : V.int (n : Int) = x := Option.some.inj hi
    have hlt := hb n (List.mem_of_getElem? hn)
    rw [getD_of hn]
    subst hx2
    refine ev_ixT (ht _ H1) (hx _ H1) (e1 _ _ hT) (atI_nat ?_)
    rw [List.getElem?_map, List.getElem?_eq_getElem hlt, List.getD_eq_getElem?_getD, List.getElem?_eq_getElem hlt]
    rfl
end
end Abl
namespace Abl
open PySem PySem.Spec PyProof.Rows L2
open Evl (Ex Ev EvT EvA EvL EvU EvO ev_var ev_c ev_op ev_is et_is ev_andV ev_orV ev_notV et_and et_or et_not et_B et_test rv_I0 rv_eq rv_ne ea_nil ea_cons s_ret s_if s_when q_when q_asg q_asgL ev_if RetV eu_tup el_lst ev_inU ev_un ru_neg eo_none eo_some el_sl ev_opUU ev_len q_forR1 q_while s_while s_appU q_appU)
section
variable {P : Program} {w : World} {K : PySem.W.Frag} {mg : Str → Option Value} {base : Heap}
theorem lenL {H : Hp} {p : Addr} {ss : List Stp} (h : StepsL H p ss) : ∃ xs, H p = some (.lst xs) ∧ xs.length = ss.length := by
  obtain ⟨as, h1, h2⟩ := h
  exact ⟨_, h1, by rw [List.length_map]; exact pair_len h2⟩
abbrev s_why_idle : Stmt := topS 41
theorem sc_why_idle : FnScope ["steps", "index", "by"] ["steps", "index"] (defScope s_why_idle) := ⟨rfl, rfl, rfl, by decide +kernel, rfl, by decide +kernel, by decide +kernel⟩
def rWhy (n : Nat) (v : V) (_ : Hp) : Prop := v = .non ∨ ∃ j : Nat, j < n ∧ v = .int (j : Int)
def spWhy : Sp := fun vs H Q _ => ∃ (p : Addr) (i : Nat) (ss : List Stp), vs = [.ref p, .int (i : Int)] ∧ StepsL H p ss ∧ i < ss.length ∧ ss.length ≤ 12 ∧ ∀ v H', Ex H H' → rWhy ss.length v H' → Q v H'
theorem ok_why_idle (F : Has K mg "why_idle" s_why_idle ["steps", "index"]) (B : Gm mg) (G_makes_idle : C8.Cal P w K mg base 2 "makes_idle" spIdle []) : C8.Cal P w K mg base 3 "why_idle" spWhy [] := by
  refine cal_of F sc_why_idle (fun vs H Q E h => ?_) (fun f cdv A outer s H vs Q E hr h => ?_)
  · obtain ⟨p, i, ss, rfl, _⟩ := h
    rfl
  · obtain ⟨p, i, ss, rfl, hS, hi, h12, q⟩ := h
    obtain ⟨xs, hL, hlen⟩ := lenL hS
    refine ⟨_, (pss_cons (ps_for PassesOwn.never rfl (pi_range1 (by rfl) B.range (pa_cons (pe_callB call_len_seq (by rfl) B.len (by decide +kernel) (pa_cons (pv 0) pa_nil)) pa_nil)) (pg_name (i := 2) sc_why_idle.nd rfl (by first | exact .inl rfl | exact .inr rfl)) (pss_one (ps_if (pt_val (C8.pe_c G_makes_idle hr (by decide) (by rfl) (pa_cons (pv 0) (pa_cons (pv 1) (pa_cons (pv 2) pa_nil))))) (pss_one (ps_ret (pv 2))) pss_nil)))
  (pss_one (ps_ret pe_non))), ?_⟩
    refine q_forR1 (ea_cons (ev_len (ev_var rfl) (SqL.of hL)) ea_nil) ⟨by omega, by omega⟩ (fun k σ' H' => Ex H H' ∧ ∃ o, σ' = [some (.ref p), some (.int (i : Int)), o]) (fun H1 e1 => ⟨e1, _, rfl⟩) (fun k σ' H' hk hp => ?_) fun σ' H' hp => ?_
    · obtain ⟨e1, o, rfl⟩ := hp
      refine s_when (b := idleM ss i k) (et_B (ev_call1 (ea_cons (ev_var rfl) (ea_cons (ev_var rfl) (ea_cons (ev_var rfl) ea_nil))) fun H2 e2 Q2 q2 => ⟨p, i, k, ss, rfl, hS.ex (e1.trans e2), hi, by omega, h12, q2⟩)) (fun _ H2 e2 => ?_) fun _ H2 e2 => ?_
      · exact s_ret (ev_var rfl) fun H3 e3 => q _ H3 ((e1.trans e2).trans e3) (.inr ⟨k, by omega, rfl⟩)
      · exact ⟨e1.trans e2, _, rfl⟩
    · obtain ⟨e1, o, rfl⟩ := hp
      exact s_ret ev_c fun H3 e3 => q _ H3 (e1.trans e3) (.inl rfl)
abbrev s_first_idle : Stmt := topS 42
theorem sc_first_idle : FnScope ["steps", "index", "by"] ["steps"] (defScope s_first_idle) := ⟨rfl, rfl, rfl, by decide +kernel, rfl, by decide +kernel, by decide +kernel⟩
def rFirst (n : Nat) (v : V) (H : Hp) : Prop := v = .non ∨ ∃ (i j : Nat) (t : Addr), i < n ∧ j < n ∧ v = .ref t ∧ H t = some (.tup [.int (i : Int), .int (j : Int)])
def spFirst : Sp := fun vs H Q _ => ∃ (p : Addr) (ss : List Stp), vs = [.ref p] ∧ StepsL H p ss ∧ ss.length ≤ 12 ∧ ∀ v H', Ex H H' → rFirst ss.length v H' → Q v H'
theorem ok_first_idle (F : Has K mg "first_idle" s_first_idle ["steps"]) (B : Gm mg) (G_why_idle : C8.Cal P w K mg base 3 "why_idle" spWhy []) : C8.Cal P w K mg base 4 "first_idle" spFirst [] := by
  refine cal_of F sc_first_idle (fun vs H Q E h => ?_) (fun f cdv A outer s H vs Q E hr h => ?_)
  · obtain ⟨p, ss, rfl, _⟩ := h
    rfl
  · obtain ⟨p, ss, rfl, hS, h12, q⟩ := h
    obtain ⟨xs, hL, hlen⟩ := lenL hS
    refine ⟨_, (pss_cons (ps_for PassesOwn.never rfl (pi_range1 (by rfl) B.range (pa_cons (pe_callB call_len_seq (by rfl) B.len (by decide +kernel) (pa_cons (pv 0) pa_nil)) pa_nil)) (pg_name (i := 1) sc_first_idle.nd rfl (by first | exact .inl rfl | exact .inr rfl)) (pss_cons (ps_set (i := 2) sc_first_idle.nd rfl (by first | exact .inl rfl | exact .inr rfl) (C8.pe_c G_why_idle hr (by decide) (by rfl) (pa_cons (pv 0) (pa_cons (pv 1) pa_nil))))
  (pss_one (ps_if (pt_cmpR op_notN (pv 2) pe_non (nomark _)) (pss_one (ps_ret (pe_tup (pa_cons (pv 1) (pa_cons (pv 2) pa_nil))))) pss_nil))))
  (pss_one (ps_ret pe_non))), ?_⟩
    refine q_forR1 (ea_cons (ev_len (ev_var rfl) (SqL.of hL)) ea_nil) ⟨by omega, by omega⟩ (fun k σ' H' => Ex H H' ∧ ∃ o u, σ' = [some (.ref p), o, u]) (fun H1 e1 => ⟨e1, _, _, rfl⟩) (fun k σ' H' hk hp => ?_) fun σ' H' hp => ?_
    · obtain ⟨e1, o, u, rfl⟩ := hp
      refine q_asgP (evp_call (R := rWhy ss.length) (ea_cons (ev_var rfl) (ea_cons (ev_var rfl) ea_nil)) fun H2 e2 Q2 q2 => ⟨p, k, ss, rfl, hS.ex (e1.trans e2), by omega, h12, q2⟩) fun v H2 e2 hv => ?_
      rcases hv with rfl | ⟨j, hj, rfl⟩
      · exact s_no (et_is (et_test (ev_notN (ev_var rfl))) rfl) fun H3 e3 => ⟨(e1.trans e2).trans e3, _, _, rfl⟩
      · refine s_yes (et_is (et_test (ev_notN (x := .int (j : Int)) (ev_var rfl))) rfl) fun H3 e3 => ?_
        exact Evl.s_retU (eu_tup (ea_cons (ev_var rfl) (ea_cons (ev_var rfl) ea_nil)) (show 2 ≤ 100000 by decide)) fun t H4 _ e4 ht => q _ H4 (((e1.trans e2).trans e3).trans e4) (.inr ⟨k, j, t, by omega, hj, rfl, ht⟩)
    · obtain ⟨e1, o, u, rfl⟩ := hp
      exact s_ret ev_c fun H3 e3 => q _ H3 (e1.trans e3) (.inl rfl)
/-- a tuple of pairs of whole numbers -/
def PairsAt (H : Hp) (a : Addr) (n : Nat) : Prop := ∃ fs : List Addr, H a = some (.tup (fs.map V.ref)) ∧ fs.length ≤ n ∧ ∀ c ∈ fs, ∃ x y : Int, H c = some (.tup [.int x, .int y])
theorem PairsAt.ts {H H' : Hp} {a : Addr} {n : Nat} (e : Tu H H') (h : PairsAt H a n) : PairsAt H' a n := by
  obtain ⟨fs, h1, h2, h3⟩ := h
  exact ⟨fs, e _ _ h1, h2, fun c hc => let ⟨x, y, h4⟩ := h3 c hc; ⟨x, y, e _ _ h4⟩⟩
abbrev s_reduction_of : Stmt := topS 43
theorem sc_reduction_of : FnScope ["steps", "left", "found", "pair", "at"] ["steps"] (defScope s_reduction_of) := ⟨rfl, rfl, rfl, by decide +kernel, rfl, by decide +kernel, by decide +kernel⟩
def rRedOf (v : V) (H : Hp) : Prop := ∃ (t g : Addr) (u : V), v = .ref t ∧ H t = some (.tup [.ref g, u]) ∧ PairsAt H g 12
def spRedOf : Sp := fun vs H Q _ => ∃ (a : Addr) (ss : List Stp), vs = [.ref a] ∧ StepsAt H a ss ∧ ss.length ≤ 12 ∧ ∀ v H', Ex H H' → rRedOf v H' → Q v H'
theorem ok_reduction_of (F : Has K mg "reduction_of" s_reduction_of ["steps"]) (B : Gm mg) (G_first_idle : C8.Cal P w K mg base 4 "first_idle" spFirst []) : C8.Cal P w K mg base 5 "reduction_of" spRedOf [] := by
  refine cal_of F sc_reduction_of (fun vs H Q E h => ?_) (fun f cdv A outer s H vs Q E hr h => ?_)
  · obtain ⟨a, ss, rfl, _⟩ := h
    rfl
  · obtain ⟨a, ss, rfl, ⟨as, hA, hP⟩, h12, q⟩ := h
    have hlen := pair_len hP
    refine ⟨_, (pss_cons (ps_set (i := 1) sc_reduction_of.nd rfl (by first | exact .inl rfl | exact .inr rfl) (pe_listRg rfl (by rfl) B.list (prg_1 (by rfl) B.range (pe_callB call_len_seq (by rfl) B.len (by decide +kernel) (pa_cons (pv 0) pa_nil)))))
  (pss_cons (ps_set (i := 2) sc_reduction_of.nd rfl (by first | exact .inl rfl | exact .inr rfl) (pe_lst pa_nil))
  (pss_one (ps_while PassesOwn.never (pt_val pe_bl) (pss_cons (ps_set (i := 3) sc_reduction_of.nd rfl (by first | exact .inl rfl | exact .inr rfl) (C8.pe_c G_first_idle hr (by decide) (by rfl) (pa_cons (pe_lc (own := [("at", 4)]) rfl sc_reduction_of.nd (pi_list (pv 1)) (blkOk_by (N := ["steps", "left", "found", "pair", "at"]) (sc := (defScope s_reduction_of)) (by decide +kernel)) (fun _ _ _ _ _ => (pg_name (i := 4) sc_reduction_of.nd rfl (by first | exact .inl rfl | exact .inr rfl))) (fun _ _ _ _ _ => pts_nil) (fun _ _ _ _ _ => (pe_ix (r := rIxT K) ix_tup (pv 0) (pv 4) (fun _ _ => rfl)))) pa_nil)))
  (pss_cons (ps_if (pt_cmpR op_isN (pv 3) pe_non (nomark _)) (pss_one (ps_ret (pe_tup (pa_cons (pe_callTy call_tuple_of (by rfl) B.tuple (by decide +kernel) (pa_cons (pv 2) pa_nil)) (pa_cons (pv 1) pa_nil))))) pss_nil)
  (pss_cons (ps_expr (pe_bm PySem.F.plainAttrs_list PySem.F.slot_list_append PySem.F.type_list_append mt_append (pv 2) (pa_cons (pe_tup (pa_cons (pe_ix ix_list (pv 1) (pe_ix ix_tup (pv 3) pe_int (fun _ _ => rfl)) (fun _ _ => rfl)) (pa_cons (pe_ix ix_list (pv 1) (pe_ix ix_tup (pv 3) pe_int (fun _ _ => rfl)) (fun _ _ => rfl)) pa_nil))) pa_nil)))
  (pss_one (ps_expr (pe_bm PySem.F.plainAttrs_list PySem.F.slot_list_pop PySem.F.type_list_pop mt_popAt (pv 1) (pa_cons (pe_ix ix_tup (pv 3) pe_int (fun _ _ => rfl)) pa_nil))))))))))), ?_⟩
    refine q_asgL (el_rng (n := ss.length) (ev_is (ev_lenT (ev_var rfl) hA) (by rw [List.length_map, hlen])) (by omega)) fun l H1 nl e1 hl => ?_
    refine q_asgL (el_lst ea_nil (by decide)) fun g H2 ng e2 hg => ?_
    have nlg : l ≠ g := ne_of_none hl ng
    refine s_while (fun m σ' H' => ∃ (ls : List Nat) (fs : List Addr) (o u : Option V), σ' = [some (.ref a), some (.ref l), some (.ref g), o, u] ∧ ls.length = m ∧ Ex H H' ∧ H' l = some (.lst (nv ls)) ∧ H' g = some (.lst (fs.map V.ref)) ∧ (∀ n ∈ ls, n < ss.length) ∧ fs.length + ls.length ≤ ss.length ∧ ∀ c ∈ fs, ∃ x y : Int, H' c = some (.tup [.int x, .int y]))
      ss.length ⟨List.range ss.length, [], _, _, rfl, List.length_range, e1.trans e2, e2 _ _ hl, hg, fun n hn => List.mem_range.mp hn, by simp, fun c hc => nomatch hc⟩ (fun m σ' H' hw => ?_)
    obtain ⟨ls, fs, o, u, rfl, hm, e3, hl3, hg3, hlt, hsum, hfs⟩ := hw
    refine ⟨true, et_B ev_c, fun _ H4 e4 => ?_, fun z => nomatch z⟩
    have e34 := e3.trans e4
    refine ⟨fun σ2 H5 => ∃ (ls : List Nat) (fs : List Addr) (o u : Option V), σ2 = [some (.ref a), some (.ref l), some (.ref g), o, u] ∧ ls.length < m ∧ Ex H H5 ∧ H5 l = some (.lst (nv ls)) ∧ H5 g = some (.lst (fs.map V.ref)) ∧ (∀ n ∈ ls, n < ss.length) ∧ fs.length + ls.length ≤ ss.length ∧ ∀ c ∈ fs, ∃ x y : Int, H5 c = some (.tup [.int x, .int y]), fun σ2 H5 h5 => ?_, ?_⟩
    · obtain ⟨ls2, fs2, o2, u2, h1, h2, h3⟩ := h5
      exact ⟨ls2.length, h2, ls2, fs2, o2, u2, h1, rfl, h3⟩
    have hPx : ∀ H5, Ex H4 H5 → Paired (StpAt H5) (curA as ls) (curM ss ls) := fun H5 e5 => cur_pair (pair_map hP fun _ _ q => (e34.trans e5) _ _ q) hlt
    refine q_asgP (evp_callL (R := rFirst ls.length) (el_cur (a := a) (as := as) (ev_var rfl) (e4 _ _ hl3) (by omega) (fun _ => rfl) (e34 _ _ hA) (fun n hn => by rw [hlen]; exact hlt n hn) (fun _ _ => ev_var rfl) fun _ _ => ev_var rfl) fun p H5 hp e5 Q2 q2 => ⟨p, curM ss ls, rfl, ⟨_, hp, hPx H5 e5⟩, by rw [curM_len]; omega, fun v H6 e6 r => q2 v H6 e6 (by rw [curM_len] at r; exact r)⟩) fun v H5 e5 hv => ?_
    have hl5 := e5 _ _ (e4 _ _ hl3)
    have hg5 := e5 _ _ (e4 _ _ hg3)
    have e35 := e34.trans e5
    rcases hv with rfl | ⟨i, j, t, hi, hj, rfl, ht⟩
    · refine q_yes (et_is (et_test (ev_isN (ev_var rfl))) rfl) fun H6 e6 => ?_
      refine s_retT2 (eu_tupL (ev_var rfl) (e6 _ _ hg5)) (ev_var rfl) fun p c H7 e7 hc hp => ?_
      exact q _ H7 (e35.trans (e6.trans e7)) ⟨p, c, .ref l, rfl, hp, fs, hc, by omega, fun c2 h2 => let ⟨x, y, h3⟩ := hfs c2 h2; ⟨x, y, e7 _ _ (e6 _ _ (e5 _ _ (e4 _ _ h3)))⟩⟩
    · refine q_no (et_is (et_test (ev_isN (x := .ref t) (ev_var rfl))) rfl) fun H6 e6 => ?_
      have hl6 := e6 _ _ hl5
      have ht6 := e6 _ _ ht
      have gi : atI (nv ls) (i : Int) = some (.int (ls[i] : Nat)) := atI_nat (by unfold nv; rw [List.getElem?_map, List.getElem?_eq_getElem hi]; rfl)
      have gj : atI (nv ls) (j : Int) = some (.int (ls[j] : Nat)) := atI_nat (by unfold nv; rw [List.getElem?_map, List.getElem?_eq_getElem hj]; rfl)
      refine q_appU (e6 _ _ hg5) (ev_var rfl) (eu_tup (ea_cons (ev_ixL (ev_var rfl) (ev_ixT (ev_var rfl) ev_c ht6 rfl) hl6 gi) (ea_cons (ev_ixL (ev_var rfl) (ev_ixT (ev_var rfl) ev_c ht6 rfl) hl6 gj) ea_nil)) (show 2 ≤ 100000 by decide)) (by rw [List.length_map]; omega) fun c H7 nc e7 hc => ?_
      have hg7 := e7 _ _ (e6 _ _ hg5)
      have hl7 := e7 _ _ hl6
      have t8 : Tu H7 (upd H7 g (.lst (fs.map V.ref ++ [.ref c]))) := Tu.put hg7 fun _ z => nomatch z
      have e38 : Ex H (upd H7 g (.lst (fs.map V.ref ++ [.ref c]))) := (e35.trans (e6.trans e7)).mut (Evl.fresh_back e1 ng)
      have hl8 : (upd H7 g (.lst (fs.map V.ref ++ [.ref c]))) l = some (.lst (nv ls)) := by
        rw [upd_ne nlg]
        exact hl7
      refine q_pop (j := i) hl8 (ev_var rfl) (ev_ixT (ev_var rfl) ev_c (t8 _ _ (e7 _ _ ht6)) rfl) (by unfold nv; rw [List.length_map]; exact hi) (by unfold nv; rw [List.length_map]; omega) fun H9 e9 => ?_
      have t10 : Tu H9 (upd H9 l (.lst ((nv ls).eraseIdx i))) := Tu.put (e9 _ _ hl8) fun _ z => nomatch z
      refine ⟨ls.eraseIdx i, fs ++ [c], _, _, rfl, ?_, (e38.trans e9).mut nl, ?_, ?_, fun n hn => hlt n (List.mem_of_mem_eraseIdx hn), ?_, fun c2 h2 => ?_⟩
      · rw [List.length_eraseIdx, if_pos hi]
        omega
      · rw [upd_same]
        unfold nv
        rw [map_erase]
      · rw [upd_ne nlg.symm]
        refine (e9 _ _ upd_same).trans ?_
        rw [List.map_append]
        rfl
      · rw [List.length_append, List.length_singleton, List.length_eraseIdx, if_pos hi]
        omega
      · rcases List.mem_append.mp h2 with h2 | h2
        · obtain ⟨x, y, h3⟩ := hfs c2 h2
          exact ⟨x, y, t10 _ _ (e9 _ _ (t8 _ _ (e7 _ _ (e6 _ _ (e5 _ _ (e4 _ _ h3))))))⟩
        · have h3 := List.mem_singleton.mp h2
          subst h3
          exact ⟨_, _, t10 _ _ (e9 _ _ (t8 _ _ hc))⟩
abbrev s_reduction : Stmt := topS 44
theorem sc_reduction : FnScope ["steps"] ["steps"] (defScope s_reduction) := ⟨rfl, rfl, rfl, by decide +kernel, rfl, by decide +kernel, by decide +kernel⟩
def rRed (v : V) (H : Hp) : Prop := ∃ g : Addr, v = .ref g ∧ PairsAt H g 12
def spRed : Sp := fun vs H Q _ => ∃ (a : Addr) (ss : List Stp), vs = [.ref a] ∧ StepsAt H a ss ∧ StepsOk ss ∧ ∀ v H', Ex H H' → rRed v H' → Q v H'
theorem ok_reduction (F : Has K mg "reduction" s_reduction ["steps"]) (B : Gm mg) (G_check_steps : C8.Cal P w K mg base 5 "check_steps" spChkSteps []) (G_reduction_of : C8.Cal P w K mg base 5 "reduction_of" spRedOf []) : C8.Cal P w K mg base 6 "reduction" spRed [] := by
  refine cal_of F sc_reduction (fun vs H Q E h => ?_) (fun f cdv A outer s H vs Q E hr h => ?_)
  · obtain ⟨a, ss, rfl, _⟩ := h
    rfl
  · obtain ⟨a, ss, rfl, hA, ho, q⟩ := h
    refine ⟨_, (pss_cons (ps_expr (C8.pe_c G_check_steps hr (by decide) (by rfl) (pa_cons (pv 0) pa_nil)))
  (pss_one (ps_ret (pe_ix ix_tup (C8.pe_c G_reduction_of hr (by decide) (by rfl) (pa_cons (pv 0) pa_nil)) pe_int (fun _ _ => rfl))))), ?_⟩
    refine Evl.q_drop (v := .non) (ev_call1 (ea_cons (ev_var rfl) ea_nil) fun H1 e1 Q1 q1 => ⟨a, ss, rfl, hA.ts (Tu.of e1), ho, q1⟩) fun H1 e1 => ?_
    refine evp_call (R := rRedOf) (ea_cons (ev_var rfl) ea_nil) (fun H2 e2 Q2 q2 => ⟨a, ss, rfl, hA.ts (Tu.of (e1.trans e2)), ho.len, q2⟩) H1 (Ex.refl H1) _ fun v H2 e2 hv => ?_
    obtain ⟨t, g, u, rfl, ht, hg⟩ := hv
    refine ⟨t, _, 0, .ref g, rfl, rfl, SqT.of ht, rfl, ?_⟩
    exact q _ H2 (e1.trans e2) ⟨g, rfl, hg⟩
end
end Abl
namespace Abl
open PySem PySem.Spec PyProof.Rows L2
open Evl (Ex Ev EvT EvA EvL EvU EvO ev_var ev_c ev_op ev_is et_is ev_andV ev_orV ev_notV et_and et_or et_not et_B et_test rv_I0 rv_eq rv_ne ea_nil ea_cons s_ret s_retU s_if s_when q_when q_asg q_asgL ev_if RetV eu_tup el_lst ev_inU ev_un ru_neg eo_none eo_some el_sl ev_opUU ev_len q_forR1 q_forT rv_isL q_while s_while s_appU q_appU)
section
variable {P : Program} {w : World} {K : PySem.W.Frag} {mg : Str → Option Value} {base : Heap}
/-! ### values that may be a reduction -/
def pairOf : List V → Option (Int × Int)
  | [.int i, .int j] => some (i, j)
  | _ => none
def ItemAt (H : Hp) (v : V) (it : Option (Int × Int)) : Prop := (v = .non ∧ it = none) ∨ (∃ (a : Addr) (xs : List V), v = .ref a ∧ H a = some (.lst xs) ∧ it = none) ∨
  ∃ (a : Addr) (xs : List V), v = .ref a ∧ H a = some (.tup xs) ∧ (∀ x ∈ xs, Num x) ∧ xs.length ≤ 100 ∧ it = pairOf xs
def ValAt (H : Hp) (v : V) (its : Option (List (Option (Int × Int)))) : Prop := (v = .non ∧ its = none) ∨ (∃ (a : Addr) (xs : List V), v = .ref a ∧ H a = some (.lst xs) ∧ its = none) ∨
  ∃ (a : Addr) (xs : List V) (l : List (Option (Int × Int))), v = .ref a ∧ H a = some (.tup xs) ∧ Paired (ItemAt H) xs l ∧ xs.length ≤ 100 ∧ its = some l
theorem ItemAt.ex {H H' : Hp} {v : V} {it : Option (Int × Int)} (e : Ex H H') (h : ItemAt H v it) : ItemAt H' v it := by
  rcases h with h | ⟨a, xs, h1, h2, h3⟩ | ⟨a, xs, h1, h2, h3⟩
  · exact .inl h
  · exact .inr (.inl ⟨a, xs, h1, e _ _ h2, h3⟩)
  · exact .inr (.inr ⟨a, xs, h1, e _ _ h2, h3⟩)
theorem ValAt.ex {H H' : Hp} {v : V} {its : Option (List (Option (Int × Int)))} (e : Ex H H') (h : ValAt H v its) : ValAt H' v its := by
  rcases h with h | ⟨a, xs, h1, h2, h3⟩ | ⟨a, xs, l, h1, h2, h3, h4⟩
  · exact .inl h
  · exact .inr (.inl ⟨a, xs, h1, e _ _ h2, h3⟩)
  · exact .inr (.inr ⟨a, xs, l, h1, e _ _ h2, pair_map h3 fun _ _ q => q.ex e, h4⟩)
/-- what comes: the steps that are left, or None -/
def rLeft (ss : List Stp) (its : Option (List (Option (Int × Int)))) (v : V) (H : Hp) : Prop := match leftM ss its with
  | none => v = .non
  | some ls => ∃ p : Addr, v = .ref p ∧ StepsAt H p (curM ss ls)
theorem leftOne_none {ss : List Stp} {left : List Nat} : leftOne ss left none = none := rfl
/-- both indexes of a pair are there -/
def bothB (ls : List Nat) (i j : Int) : Bool := (atM ls i).isSome && (atM ls j).isSome
theorem leftOne_no {ss : List Stp} {left : List Nat} {i j : Int} (h : bothB left i j = false) : leftOne ss left (some (i, j)) = none := by
  unfold leftOne
  unfold bothB at h
  simp only
  cases e1 : atM left i with
  | none => rfl
  | some a =>
    cases e2 : atM left j with
    | none => rfl
    | some b =>
      rw [e1, e2] at h
      cases h
theorem leftOne_yes {ss : List Stp} {left : List Nat} {i j : Int} {a b : Nat} (h1 : atM left i = some a) (h2 : atM left j = some b) : leftOne ss left (some (i, j)) = if idleM (curM ss left) a b = true then some (left.eraseIdx a) else none := by
  unfold leftOne
  simp only
  rw [h1, h2]
theorem both_some {ls : List Nat} {i j : Int} (h : bothB ls i j = true) : ∃ a b, atM ls i = some a ∧ atM ls j = some b := by
  unfold bothB at h
  cases e1 : atM ls i with
  | none => rw [e1] at h; cases h
  | some a =>
    cases e2 : atM ls j with
    | none => rw [e1, e2] at h; cases h
    | some b => exact ⟨a, b, rfl, rfl⟩
theorem atM_lt {ls : List Nat} {i : Int} {a : Nat} (h : atM ls i = some a) : a < ls.length := by
  unfold atM at h
  exact (List.findIdx?_eq_some_iff_getElem.mp h).1
/-- one look at an item: is it a pair of indexes that are there (as both readers ask it) -/
def itemB (ls : List Nat) (x : V) : Bool := isI x && inV x (nv ls)
theorem items_all (ls : List Nat) (i j : Int) : ([V.int i, V.int j] : List V).all (itemB ls) = bothB ls i j := by
  show ((true && inV (.int i) (nv ls)) && ((true && inV (.int j) (nv ls)) && true)) = _
  rw [inV_nv, inV_nv]
  unfold bothB
  simp
theorem num_flat {x : V} (h : Num x) : flatV x = true := by
  rcases h with ⟨i, rfl⟩ | ⟨b, rfl⟩ <;> rfl
/-- all([is_integer(at) and at in left for at in pair]) -/
theorem ev_items {σ : L2.St} {H : Hp} {tl tc : TE} {sp : TE} {j l a : Nat} {vs : List Nat} {xs : List V} {ls : List Nat} (hp : Ev tl σ H (.ref a)) (hT : H a = some (.tup xs)) (hN : ∀ x ∈ xs, Num x) (hz : xs.length ≤ 100) (hw : ∀ x, wipe ((wipe σ vs).set j (some x)) vs = wipe σ vs)
    (hL : H l = some (.lst (nv ls))) (hi : ∀ x H1, Num x → Ev sp ((wipe σ vs).set j (some x)) H1 (.bl (isI x))) (hx : ∀ x H1, Ev (tVar j) ((wipe σ vs).set j (some x)) H1 x) (hl : ∀ x H1, Ev tc ((wipe σ vs).set j (some x)) H1 (.ref l)) :
    Ev (tCB (rAll K) (tCons (tLc (iTup K tl) (gName j) tYes (tAndV sp (tOp (rIn K false) (tVar j) tc)) vs) tNil)) σ H (.bl (xs.all (itemB ls))) := by
  rw [← range_all xs .non (itemB ls)]
  refine ev_allF (el_mapT (fun k => V.bl (itemB ls (xs.getD k .non))) hp hT (by omega) hw fun k x H1 e1 hk => ?_)
  have hn := hN x (List.mem_of_getElem? hk)
  rw [getD_of hk]
  exact ev_andV (hi x H1 hn) fun _ => ev_op (hx x H1) (hl x H1) (rv_isL (SqL.of (e1 _ _ hL)) (num_flat hn) (nv_flat ls))
abbrev s_left_behind : Stmt := topS 45
theorem sc_left_behind : FnScope ["steps", "value", "left", "pair", "at"] ["steps", "value"] (defScope s_left_behind) := ⟨rfl, rfl, rfl, by decide +kernel, rfl, by decide +kernel, by decide +kernel⟩
def spLeft : Sp := fun vs H Q _ => ∃ (a : Addr) (v : V) (ss : List Stp) (its : Option (List (Option (Int × Int)))), vs = [.ref a, v] ∧ StepsAt H a ss ∧ ss.length ≤ 12 ∧ ValAt H v its ∧ ∀ r H', Ex H H' → rLeft ss its r H' → Q r H'
theorem call_idle {σ : L2.St} {H : Hp} {te t1 t2 : TE} {as : List Addr} {ss : List Stp} {ls : List Nat} {i j : Nat} (h0 : EvL te σ H ((curA as ls).map V.ref)) (h1 : Ev t1 σ H (.int (i : Int))) (h2 : Ev t2 σ H (.int (j : Int))) (hP : Paired (StpAt H) as ss) (hlt : ∀ n ∈ ls, n < ss.length) (hi : i < ls.length) (hj : j < ls.length) (h12 : ls.length ≤ 12) :
    Ev (tCall spIdle [] C8.E0 (tCons te (tCons t1 (tCons t2 tNil)))) σ H (.bl (idleM (curM ss ls) i j)) :=
  ev_callL3 h0 h1 h2 fun p H1 hp e1 Q q => ⟨p, i, j, curM ss ls, rfl, ⟨_, hp, cur_pair (pair_map hP fun _ _ z => e1 _ _ z) hlt⟩, by rw [curM_len]; exact hi, by rw [curM_len]; exact hj, by rw [curM_len]; exact h12, q⟩
theorem ok_left_behind (F : Has K mg "left_behind" s_left_behind ["steps", "value"]) (B : Gm mg) (G_is_integer : C8.Cal P w K mg base 1 "is_integer" spInteger []) (G_makes_idle : C8.Cal P w K mg base 2 "makes_idle" spIdle []) : C8.Cal P w K mg base 3 "left_behind" spLeft [] := by
  refine cal_of F sc_left_behind (fun vs H Q E h => ?_) (fun f cdv A outer s H vs Q E hr h => ?_)
  · obtain ⟨a, v, ss, its, rfl, _⟩ := h
    rfl
  · obtain ⟨a, v, ss, its, rfl, ⟨as, hA, hP⟩, h12, hv, q⟩ := h
    have hlen := pair_len hP
    refine ⟨_, (pss_cons (ps_if (pt_not (pt_val (pe_callB call_isi (by rfl) B.isinstance (by decide +kernel) (pa_cons (pv 1) (pa_cons (pe_bltn (v := .ty "tuple") (by rfl) B.tuple_ (by decide +kernel) rfl) pa_nil))))) (pss_one (ps_ret pe_non)) pss_nil)
  (pss_cons (ps_set (i := 2) sc_left_behind.nd rfl (by first | exact .inl rfl | exact .inr rfl) (pe_listRg rfl (by rfl) B.list (prg_1 (by rfl) B.range (pe_callB call_len_seq (by rfl) B.len (by decide +kernel) (pa_cons (pv 0) pa_nil)))))
  (pss_cons (ps_for PassesOwn.never rfl (pi_tup (pv 1)) (pg_name (i := 3) sc_left_behind.nd rfl (by first | exact .inl rfl | exact .inr rfl)) (pss_cons (ps_if (PW.pt (pw_or (pt_not (pt_val (pe_callB call_isi (by rfl) B.isinstance (by decide +kernel) (pa_cons (pv 3) (pa_cons (pe_bltn (v := .ty "tuple") (by rfl) B.tuple_ (by decide +kernel) rfl) pa_nil))))) (pw_or (pt_cmpR op_ne (pe_callB call_len_seq (by rfl) B.len (by decide +kernel) (pa_cons (pv 3) pa_nil)) pe_int (nomark _)) (pw_or1 (pt_not (pt_val (pe_callB (cr_all rfl) (by rfl) B.all (by decide +kernel) (pa_cons (pe_lc (own := [("at", 4)]) rfl sc_left_behind.nd (pi_tup (pv 3)) (blkOk_by (N := ["steps", "value", "left", "pair", "at"]) (sc := (defScope s_left_behind)) (by decide +kernel)) (fun _ _ _ _ _ => (pg_name (i := 4) sc_left_behind.nd rfl (by first | exact .inl rfl | exact .inr rfl))) (fun _ _ _ _ _ => pts_nil) (fun _ _ _ _ _ => (pe_and (C8.pe_c G_is_integer hr (by decide) (by rfl) (pa_cons (pv 4) pa_nil)) (pe_one (pe_cmpR (r := rIn K false) op_in_seq (pv 4) (pv 2) (by rfl)))))) pa_nil)))))))) (pss_one (ps_ret pe_non)) pss_nil)
  (pss_cons (ps_if (pt_not (pt_val (C8.pe_c G_makes_idle hr (by decide) (by rfl) (pa_cons (pe_lc (own := [("at", 4)]) rfl sc_left_behind.nd (pi_list (pv 2)) (blkOk_by (N := ["steps", "value", "left", "pair", "at"]) (sc := (defScope s_left_behind)) (by decide +kernel)) (fun _ _ _ _ _ => (pg_name (i := 4) sc_left_behind.nd rfl (by first | exact .inl rfl | exact .inr rfl))) (fun _ _ _ _ _ => pts_nil) (fun _ _ _ _ _ => (pe_ix (r := rIxT K) ix_tup (pv 0) (pv 4) (fun _ _ => rfl)))) (pa_cons (pe_bm PySem.F.plainAttrs_list PySem.F.slot_list_index PySem.F.type_list_index mt_index (pv 2) (pa_cons (pe_ix ix_tup (pv 3) pe_int (fun _ _ => rfl)) pa_nil)) (pa_cons (pe_bm PySem.F.plainAttrs_list PySem.F.slot_list_index PySem.F.type_list_index mt_index (pv 2) (pa_cons (pe_ix ix_tup (pv 3) pe_int (fun _ _ => rfl)) pa_nil)) pa_nil)))))) (pss_one (ps_ret pe_non)) pss_nil)
  (pss_one (ps_expr (pe_bm PySem.F.plainAttrs_list PySem.F.slot_list_remove PySem.F.type_list_remove mt_remove (pv 2) (pa_cons (pe_ix ix_tup (pv 3) pe_int (fun _ _ => rfl)) pa_nil)))))))
  (pss_one (ps_ret (pe_callTy call_tuple_of (by rfl) B.tuple (by decide +kernel) (pa_cons (pe_lc (own := [("at", 4)]) rfl sc_left_behind.nd (pi_list (pv 2)) (blkOk_by (N := ["steps", "value", "left", "pair", "at"]) (sc := (defScope s_left_behind)) (by decide +kernel)) (fun _ _ _ _ _ => (pg_name (i := 4) sc_left_behind.nd rfl (by first | exact .inl rfl | exact .inr rfl))) (fun _ _ _ _ _ => pts_nil) (fun _ _ _ _ _ => (pe_ix (r := rIxT K) ix_tup (pv 0) (pv 4) (fun _ _ => rfl)))) pa_nil))))))), ?_⟩
    rcases hv with ⟨rfl, rfl⟩ | ⟨b, xs, rfl, hB, rfl⟩ | ⟨b, xs, l, rfl, hB, hI, hz, rfl⟩
    · refine q_yes (et_is (et_not (et_B (ev_isi (ev_var rfl) ev_c (fun _ _ => ty_non) kit_nt))) rfl) fun H1 e1 => ?_
      exact s_ret ev_c fun H2 e2 => q _ H2 (e1.trans e2) rfl
    · refine q_yes (et_is (et_not (et_B (ev_isi (ev_var rfl) ev_c (fun _ e => ty_lst (e _ _ hB)) kit_lt))) rfl) fun H1 e1 => ?_
      exact s_ret ev_c fun H2 e2 => q _ H2 (e1.trans e2) rfl
    refine q_no (et_is (et_not (et_B (ev_isi (ev_var rfl) ev_c (fun _ e => ty_tup (e _ _ hB)) kit_tt))) rfl) fun H1 e1 => ?_
    refine q_asgL (el_rng (n := ss.length) (ev_is (ev_lenT (ev_var rfl) (e1 _ _ hA)) (by rw [List.length_map, hlen])) (by omega)) fun lf H2 nl e2 hl => ?_
    have n0 := Evl.fresh_back e1 nl
    refine q_forT (a := b) (xs := xs) (ev_var rfl) (SqT.of (e2 _ _ (e1 _ _ hB))) (fun k σ' H' => ∃ (ls : List Nat) (o u : Option V), σ' = [some (.ref a), some (.ref b), some (.ref lf), o, u] ∧ Ex H H' ∧ H' lf = some (.lst (nv ls)) ∧ (∀ n ∈ ls, n < ss.length) ∧ ls.length ≤ ss.length ∧ leftAll ss (l.drop k) ls = leftM ss (some l))
      (fun H3 e3 => ⟨List.range ss.length, _, _, rfl, (e1.trans e2).trans e3, e3 _ _ hl, fun n hn => List.mem_range.mp hn, by rw [List.length_range]; exact Nat.le_refl _, rfl⟩)
      (fun k σ' H' _ hp => let ⟨_, _, _, _, e, _⟩ := hp; SqT.of (e _ _ hB)) (fun k x σ' H' hk hp => ?_) fun σ' H' hp => ?_
    · obtain ⟨ls, o, u, rfl, e3, hl3, hlt, hle, hall⟩ := hp
      obtain ⟨it, hit, hItem⟩ := pair_at2 hI hk
      have hItem := hItem.ex e3
      have ed : l.drop k = it :: l.drop (k + 1) := by
        obtain ⟨hk2, e⟩ := List.getElem?_eq_some_iff.mp hit
        rw [← e]
        exact List.drop_eq_getElem_cons hk2
      rw [ed] at hall
      have bad : leftOne ss ls it = none → leftM ss (some l) = none := fun z => by
        rw [← hall]
        unfold leftAll
        rw [z]
      have hPx : ∀ H5, Ex H' H5 → Paired (StpAt H5) as ss := fun H5 e5 => pair_map hP fun _ _ z => (e3.trans e5) _ _ z
      have giveNone : ∀ H5, Ex H H5 → leftOne ss ls it = none → Q .non H5 := fun H5 e5 z => q _ H5 e5 (by
        unfold rLeft
        rw [bad z])
      rcases hItem with ⟨rfl, rfl⟩ | ⟨c, ys, rfl, hC, rfl⟩ | ⟨c, ys, rfl, hC, hN, hyz, rfl⟩
      · refine q_yes (et_is (et_or (b := false) (et_not (et_B (ev_isi (ev_var rfl) ev_c (fun _ _ => ty_non) kit_nt))) fun z => nomatch z) rfl) fun H4 e4 => ?_
        exact s_ret ev_c fun H5 e5 => giveNone H5 (e3.trans (e4.trans e5)) rfl
      · refine q_yes (et_is (et_or (b := false) (et_not (et_B (ev_isi (ev_var rfl) ev_c (fun _ e => ty_lst (e _ _ hC)) kit_lt))) fun z => nomatch z) rfl) fun H4 e4 => ?_
        exact s_ret ev_c fun H5 e5 => giveNone H5 (e3.trans (e4.trans e5)) rfl
      · refine q_when (b := !(decide (ys.length = 2) && ys.all (itemB ls))) (et_is (et_or (et_not (et_B (ev_isi (ev_var rfl) ev_c (fun _ e => ty_tup (e _ _ hC)) kit_tt))) fun _ => et_or (et_test (ev_op (ev_lenT (ev_var rfl) hC) ev_c (rv_ne rfl))) fun _ =>
          et_not (et_B (ev_items (ev_var rfl) hC hN hyz (fun _ => rfl) hl3 (fun x H4 hn => call_integer (ev_var rfl) hn) (fun _ _ => ev_var rfl) fun _ _ => ev_var rfl))) ?_) (fun z H4 e4 => ?_) fun z H4 e4 => ?_
        · rw [show decide (V.int (ys.length : Int) = V.int 2) = decide (ys.length = 2) from dec_n ys.length 2]
          cases decide (ys.length = 2) <;> simp
        · refine s_ret ev_c fun H5 e5 => giveNone H5 (e3.trans (e4.trans e5)) ?_
          unfold pairOf
          split
          · refine leftOne_no ?_
            rw [items_all] at z
            simpa using z
          · rfl
        · have z2 : (decide (ys.length = 2) && ys.all (itemB ls)) = true := by
            cases hq : (decide (ys.length = 2) && ys.all (itemB ls)) with
            | true => rfl
            | false => rw [hq] at z; cases z
          rw [Bool.and_eq_true] at z2
          obtain ⟨y0, y1, rfl⟩ : ∃ y0 y1, ys = [y0, y1] := by
            have h2 := of_decide_eq_true z2.1
            match ys, h2 with
            | [y0, y1], _ => exact ⟨y0, y1, rfl⟩
          obtain ⟨i0, rfl⟩ : ∃ i, y0 = V.int i := by
            rcases hN y0 (List.mem_cons_self ..) with h | ⟨b0, rfl⟩
            · exact h
            · have h3 := z2.2
              rw [List.all_cons] at h3
              cases h3
          obtain ⟨i1, rfl⟩ : ∃ i, y1 = V.int i := by
            rcases hN y1 (List.mem_cons_of_mem _ (List.mem_cons_self ..)) with h | ⟨b0, rfl⟩
            · exact h
            · have h3 := z2.2
              rw [List.all_cons, List.all_cons, Bool.and_eq_true] at h3
              have h4 := h3.2
              cases h4
          rw [items_all] at z2
          obtain ⟨ia, ib, ha, hb⟩ := both_some z2.2
          have hl4 := e4 _ _ hl3
          have hC4 := e4 _ _ hC
          have el := leftOne_yes (ss := ss) ha hb
          refine q_when (b := !idleM (curM ss ls) ia ib) (et_not (et_B (call_idle (el_cur (a := a) (as := as) (ev_var rfl) hl4 (by omega) (fun _ => rfl) ((e3.trans e4) _ _ hA) (fun n hn => by rw [hlen]; exact hlt n hn) (fun _ _ => ev_var rfl) fun _ _ => ev_var rfl)
            (ev_index hl4 (ev_var rfl) (ev_ixT (ev_var rfl) ev_c hC4 rfl) ha) (ev_index hl4 (ev_var rfl) (ev_ixT (ev_var rfl) ev_c hC4 rfl) hb) (hPx H4 e4) hlt (atM_lt ha) (atM_lt hb) (by omega)))) (fun y H5 e5 => ?_) fun y H5 e5 => ?_
          · refine s_ret ev_c fun H6 e6 => giveNone H6 (e3.trans (e4.trans (e5.trans e6))) ?_
            show leftOne ss ls (some (i0, i1)) = none
            rw [el, if_neg (by cases hq : idleM (curM ss ls) ia ib <;> rw [hq] at y <;> simp_all)]
          · have yi : idleM (curM ss ls) ia ib = true := by
              cases hq : idleM (curM ss ls) ia ib with
              | true => rfl
              | false => rw [hq] at y; cases y
            rw [if_pos yi] at el
            refine q_remove (e5 _ _ hl4) (ev_var rfl) (ev_ixT (ev_var rfl) ev_c (e5 _ _ hC4) rfl) ha fun H6 e6 => ?_
            refine ⟨ls.eraseIdx ia, _, _, rfl, (e3.trans (e4.trans (e5.trans e6))).mut n0, upd_same, fun n hn => hlt n (List.mem_of_mem_eraseIdx hn), Nat.le_trans (List.length_eraseIdx_le ls ia) hle, ?_⟩
            rw [← hall]
            have h6 : leftOne ss ls (pairOf [V.int i0, V.int i1]) = some (ls.eraseIdx ia) := el
            show leftAll ss (l.drop (k + 1)) (ls.eraseIdx ia) = leftAll ss (pairOf [V.int i0, V.int i1] :: l.drop (k + 1)) ls
            conv => rhs; unfold leftAll
            rw [h6]
    · obtain ⟨ls, o, u, rfl, e3, hl3, hlt, hle, hall⟩ := hp
      have ed : l.drop xs.length = [] := List.drop_eq_nil_of_le (by rw [pair_len hI]; exact Nat.le_refl _)
      rw [ed] at hall
      have hM : leftM ss (some l) = some ls := hall.symm
      refine s_retU (eu_tupN (el_cur (a := a) (as := as) (ev_var rfl) hl3 (by omega) (fun _ => rfl) (e3 _ _ hA) (fun n hn => by rw [hlen]; exact hlt n hn) (fun _ _ => ev_var rfl) fun _ _ => ev_var rfl)) fun p H4 _ e4 hp => ?_
      refine q _ H4 (e3.trans e4) ?_
      unfold rLeft
      rw [hM]
      exact ⟨p, rfl, _, hp, cur_pair (pair_map hP fun _ _ z => (e3.trans e4) _ _ z) hlt⟩
abbrev s_reduced : Stmt := topS 46
theorem sc_reduced : FnScope ["steps", "value"] ["steps", "value"] (defScope s_reduced) := ⟨rfl, rfl, rfl, by decide +kernel, rfl, by decide +kernel, by decide +kernel⟩
def spReduced : Sp := fun vs H Q _ => ∃ (a : Addr) (v : V) (ss : List Stp) (its : Option (List (Option (Int × Int)))), vs = [.ref a, v] ∧ StepsAt H a ss ∧ StepsOk ss ∧ ValAt H v its ∧ ∀ r H', Ex H H' → rLeft ss its r H' → Q r H'
theorem ok_reduced (F : Has K mg "reduced" s_reduced ["steps", "value"]) (B : Gm mg) (G_check_steps : C8.Cal P w K mg base 5 "check_steps" spChkSteps []) (G_left_behind : C8.Cal P w K mg base 3 "left_behind" spLeft []) : C8.Cal P w K mg base 6 "reduced" spReduced [] := by
  refine cal_of F sc_reduced (fun vs H Q E h => ?_) (fun f cdv A outer s H vs Q E hr h => ?_)
  · obtain ⟨a, v, ss, its, rfl, _⟩ := h
    rfl
  · obtain ⟨a, v, ss, its, rfl, hA, ho, hv, q⟩ := h
    refine ⟨_, (pss_cons (ps_expr (C8.pe_c G_check_steps hr (by decide) (by rfl) (pa_cons (pv 0) pa_nil)))
  (pss_one (ps_ret (C8.pe_c G_left_behind hr (by decide) (by rfl) (pa_cons (pv 0) (pa_cons (pv 1) pa_nil)))))), ?_⟩
    refine Evl.q_drop (v := .non) (ev_call1 (ea_cons (ev_var rfl) ea_nil) fun H1 e1 Q1 q1 => ⟨a, ss, rfl, hA.ts (Tu.of e1), ho, q1⟩) fun H1 e1 => ?_
    exact s_retP (evp_call (R := rLeft ss its) (ea_cons (ev_var rfl) (ea_cons (ev_var rfl) ea_nil)) fun H2 e2 Q2 q2 => ⟨a, v, ss, its, rfl, hA.ts (Tu.of (e1.trans e2)), ho.len, hv.ex (e1.trans e2), q2⟩) fun r H2 e2 hr2 => q r H2 (e1.trans e2) hr2
end
end Abl
namespace Abl
open PySem PySem.Spec PyProof.Rows L2 HT
/-! ### t[::-1], t a tuple -/
section
variable {prog : Program} {w : World} {A : Around} {E : Value → Shared → Prop} {s : Shared}
theorem back_places (n : Nat) : Builtin.Slice.slicePlaces ((n : Int) - 1) (-1) (-1) = n := by
  unfold Builtin.Slice.slicePlaces
  rw [if_neg (by decide)]
  split <;> simp <;> omega
theorem fm_congr {α β : Type} {f g : α → Option β} : ∀ {l : List α}, (∀ k ∈ l, f k = g k) → l.filterMap f = l.filterMap g
  | [], _ => rfl
  | a :: r, h => by
    rw [List.filterMap_cons, List.filterMap_cons, h a (List.mem_cons_self ..), fm_congr fun k hk => h k (List.mem_cons_of_mem _ hk)]
theorem back_pick (xs : List Value) : ((List.range xs.length).filterMap fun (k : Nat) => xs.toArray[((xs.length : Int) - 1 + (k : Int) * (-1)).toNat]?) = xs.reverse := by
  have e : ∀ k ∈ List.range xs.length, xs.toArray[((xs.length : Int) - 1 + (k : Int) * (-1)).toNat]? = xs.reverse[k]? := fun k hk => by
    have hlt := List.mem_range.mp hk
    rw [show ((xs.length : Int) - 1 + (k : Int) * (-1)).toNat = xs.length - 1 - k by omega, List.getElem?_toArray, List.getElem?_reverse hlt]
  rw [fm_congr e]
  have h : ∀ ys : List Value, (List.range ys.length).filterMap (fun k => ys[k]?) = ys := by
    intro ys
    induction ys with
    | nil => rfl
    | cons y r ih =>
      rw [List.length_cons, List.range_succ_eq_map, List.filterMap_cons]
      show y :: (List.filterMap (fun k => (y :: r)[k]?) ((List.range r.length).map Nat.succ)) = y :: r
      rw [List.filterMap_map]
      exact congrArg (y :: ·) ih
  have h2 := h xs.reverse
  rw [List.length_reverse] at h2
  exact h2
theorem back_slice {sl : Addr} {u : Tok} {n : Nat} {Q : Int × Int × Nat → Shared → Prop} (hs : s.heap.IsSliceOf sl .none .none (.int (-1) u)) (h : Q ((n : Int) - 1, -1, n) s) :
    wpAny (model prog w) A (Builtin.Slice.sliceApplied (.ref sl) (pure (n : Int))) Q E s := by
  obtain ⟨os, g1, g2, g3⟩ := id hs
  unfold Builtin.Slice.sliceApplied
  refine wpAny_bind ?_
  unfold Builtin.Slice.sliceFields
  refine wpAny_bind (wpAny_field g1 g3 (x := .none) rfl ?_)
  refine wpAny_bind (wpAny_field g1 g3 (x := .none) rfl ?_)
  refine wpAny_bind (wpAny_field g1 g3 (x := .int (-1) u) rfl (wpAny_pure ?_))
  refine wpAny_bind (slicePart_int ?_)
  show wpAny _ _ (if ((-1 : Int) == 0) = true then _ else _) _ _ s
  rw [if_neg (by decide)]
  refine wpAny_bind (slicePart_none ?_)
  refine wpAny_bind (slicePart_none ?_)
  refine wpAny_bind (wpAny_pure ?_)
  have ea : Builtin.Slice.sliceAdjust none none (-1) (n : Int) = ((n : Int) - 1, -1) := rfl
  show wpAny _ _ (match Builtin.Slice.sliceAdjust none none (-1) (n : Int) with | (lo, hi) => pure (lo, (-1 : Int), Builtin.Slice.slicePlaces lo hi (-1))) _ _ s
  rw [ea]
  show wpAny _ _ (pure ((n : Int) - 1, (-1 : Int), Builtin.Slice.slicePlaces ((n : Int) - 1) (-1) (-1))) _ _ s
  rw [back_places]
  exact wpAny_pure h
theorem back_item {t sl : Addr} {its : List Value} {u : Tok} {Q : Value → Shared → Prop} (ht : IsTup s.heap t its.toArray) (hs : s.heap.IsSliceOf sl .none .none (.int (-1) u))
    (h : Q (.ref s.heap.objs.size) { s with heap := s.heap.push { cls := .type "tuple", data := .seq its.reverse.toArray } }) (hz : its.length ≤ sizeLine) : wpAny (model prog w) A (getItem (.ref t) (.ref sl)) Q E s := by
  have ok : sizeOk (.seq its.reverse.toArray) := by
    show its.reverse.toArray.size ≤ sizeLine
    rw [List.size_toArray, List.length_reverse]
    exact hz
  have hT : s.TypeIs (.ref sl) "slice" := by
    obtain ⟨os, g1, g2, _⟩ := id hs
    exact ⟨os, g1, g2⟩
  unfold getItem
  try with_reducible refine wpAny_holding ?_
  first | refine wpAny_bind (wpAny_pure ?_) | skip
  refine wpAny_bind (wpAny_sequenceKey ht.typeIs (by decide) ?_)
  refine wpAny_bind (wpAny_callSpecial?_slot (name := Str.ofString "__getitem__") ht.typeIs PyProof.Rows.slot_tuple_getitem ?_)
  refine wpAny_call_entry PyProof.Rows.slot_tuple_getitem ht.typeIs entry_tuple_getitem ?_ (args_tuple_getitem _ _)
  show wpAny _ _ (Builtin.Tuple.tupleItemsOf (.ref t) >>= _) _ _ s
  refine wpAny_bind (tupleItemsOf_ ht (wpAny_bind (wpAny_typeOf hT ?_)))
  rw [if_pos (by decide)]
  have esz : its.toArray.size = its.length := List.size_toArray ..
  refine wpAny_bind (back_slice (n := its.toArray.size) hs ?_)
  rw [esz]
  have hno : ¬ ((((its.length : Int) - 1 == 0) && ((-1 : Int) == 1) && (its.length == its.length)) = true) := by
    rw [show ((-1 : Int) == 1) = false by decide, Bool.and_false, Bool.false_and]
    decide
  show wpAny _ _ (if (((its.length : Int) - 1 == 0) && ((-1 : Int) == 1) && (its.length == its.length)) = true then _ else _) _ _ s
  rw [if_neg hno, back_pick]
  first
    | exact wpAny_bind (m := Builtin.Tuple.tupleExact _) (wpAny_newObj_type (wpAny_pure ⟨_, rfl, wpAny_pure h⟩) ok)
    | exact wpAny_bind (m := Builtin.Tuple.tupleExact _) (wpAny_newObj_type (wpAny_bind (wpAny_pure (wpAny_pure ⟨_, rfl, wpAny_pure h⟩))) ok)
    | exact wpAny_bind (wpAny_bind (m := Builtin.Tuple.tupleExact _) (wpAny_newObj_type (wpAny_pure (wpAny_pure ⟨_, rfl, wpAny_pure h⟩)) ok))
    | exact wpAny_bind (wpAny_bind (m := Builtin.Tuple.tupleExact _) (wpAny_newObj_type (wpAny_pure ⟨_, rfl, wpAny_pure h⟩) ok))
end
section
variable {X : Cx}
def tBackT (K : PySem.W.Frag) (te : TE) : TE := fun σ H Q => te σ H fun x H1 => ∃ a xs, x = .ref a ∧ SqT K H1 a xs ∧ ∀ p, H1 p = none → Q (.ref p) (upd H1 p (.tup xs.reverse))
theorem pe_revT {e : Expr} {te : TE} {k : Nat} {p1 p2 p3 pos : Pos} (he : PE X e te) : PE X (.Subscript e (.Slice none none (some (.UnaryOp .USub (.Constant (.int 1) k p1) p2)) p3) pos) (tBackT X.K te) := by
  have minus : PE X (.UnaryOp .USub (.Constant (.int 1) k p1) p2) (tUn (rU fun i => .int (-i)) (tC (.int 1))) := pe_un un_neg pe_int
  refine ⟨fun pins s σ H Q I h => Subscript_ (thn (he.run pins s σ H _ I h) fun v s1 ⟨x, H1, I1, r1, q1⟩ => ?_)⟩
  obtain ⟨a, xs, rfl, hx, q⟩ := q1
  cases r1
  refine wpAny_Slice ?_
  rw [evalPart_none]
  refine wpAny_pure (wpAny_pure ?_)
  rw [evalPart_some]
  refine thn (minus.run pins s1 σ H1 (fun y H2 => y = .int (-1) ∧ H2 = H1) I1 ⟨1, rfl, rfl, rfl⟩) fun vs s2 ⟨y, H2, I2, r2, ey, eH⟩ => ?_
  subst ey eH
  obtain ⟨tk, rfl⟩ := r2
  have I3 : Inv X pins σ H2 { s2 with heap := s2.heap.push { cls := .type "slice", data := .fields #[.none, .none, .int (-1) tk] } } := I2.kept (t' := s2.toks) fun b ob z => Heap.get?_push_of_some _ z
  obtain ⟨its, r, ht, hz⟩ := I3.tuple hx
  show wpAny (model X.prog X.w) X.A (subscriptTail e (.Slice none none (some (.UnaryOp .USub (.Constant (.int 1) k p1) p2)) p3) (.ref a) (.ref s2.heap.objs.size)) (EP X pins σ Q) X.xe { s2 with heap := s2.heap.push { cls := .type "slice", data := .fields #[.none, .none, .int (-1) tk] } }
  refine tail_any (ops := [.ref a, .ref s2.heap.objs.size]) ht.typeIs PyProof.Rows.slot_tuple_getitem.lookup ?_ (by with_unfolding_all rfl)
  refine back_item ht (Heap.IsSliceOf.new _ .none .none (.int (-1) tk)) ?_ (by rw [← r.length]; exact hz)
  refine ⟨.ref _, _, I3.laid (t' := s2.toks) (o := .tup xs.reverse) (fun b ob z => Heap.get?_push_of_some _ z) (Nat.le_refl _) ?_, rfl, q _ (I3.hok.fresh (Nat.le_refl _))⟩
  exact ⟨by rw [List.length_reverse]; exact hz, _, r.reverse, IsTup.new _ _⟩
end
end Abl
namespace Abl
open PySem PySem.Spec PyProof.Rows L2
/-! ### enumerate(t), t a tuple -/
set_option maxHeartbeats 1000000 in
theorem enum_new1 {v : Value} {o : Obj} {Hd : Heap → Prop} (B : Begins v o Hd) :
    Meets (Builtin.«enumerate.__new__» ⟨[.type "enumerate", v], []⟩) (fun _ R s => Hd s.heap ∧
      R (.ok (.ret (.ref (s.heap.push o).objs.size))) { s with heap := (s.heap.push o).push { cls := .type "enumerate", data := .fields #[.none, .bool false, .ref s.heap.objs.size, rawInt 0, .none, .none] } }) :=
  .of_wp fun prog w A R s h => by
    obtain ⟨hp, g, d, tk, os⟩ := s
    obtain ⟨h1, h⟩ := h
    have hsub := sub_enumerate
    have q1 : ∀ {A' : Around} {E : Value → Shared → Prop} {Q : Value → Shared → Prop}, Q (.ref hp.objs.size) ⟨hp.push o, g, d, tk, os⟩ → wpAny (model prog w) A' (pyIter v) Q E ⟨hp, g, d, tk, os⟩ :=
      fun q => B.iter prog w _ _ ⟨hp, g, d, tk, os⟩ _ h1 q
    wp_walk using q1
    refine wpAny_stack_any fun st => wpAny_pure ?_
    split
    · rename_i c _ _ _ _ _
      cases (c == Value.type "enumerate") <;> (wp_walk using q1; exact ⟨_, rfl, h⟩)
    · wp_walk using q1
      exact ⟨_, rfl, h⟩
section
variable {prog : Program} {w : World} {A : Around} {E : Value → Shared → Prop} {s : Shared}
theorem enum_call1 {v : Value} {o : Obj} {Hd : Heap → Prop} {Q : Value → Shared → Prop} (B : Begins v o Hd) (h1 : Hd s.heap)
    (h : ∀ h', IsEnum h' (s.heap.objs.size + 1) s.heap.objs.size 0 .none → h'.get? s.heap.objs.size = some o → (∀ b q, s.heap.get? b = some q → h'.get? b = some q) → Q (.ref (s.heap.objs.size + 1)) { s with heap := h' }) :
    wpAny (model prog w) A (call (.type "enumerate") [v]) Q E s := by
  refine callType_new F.called_enumerate (by decide) (F.typeCall_enumerate_1 _) (F.newCall_enumerate_1 _) (fun obj => F.args_object_init_2 obj _) F.entry_enumerate_new (enum_new1 B) ⟨h1, ?_⟩
  have hz : (s.heap.push o).objs.size = s.heap.objs.size + 1 := Heap.size_push ..
  have he : IsEnum ((s.heap.push o).push { cls := .type "enumerate", data := .fields #[.none, .bool false, .ref s.heap.objs.size, rawInt 0, .none, .none] }) (s.heap.objs.size + 1) s.heap.objs.size 0 .none := by
    have g := Heap.get?_push_size (s.heap.push o) (o := { cls := .type "enumerate", data := .fields #[.none, .bool false, .ref s.heap.objs.size, rawInt 0, .none, .none] }) rfl
    rw [hz] at g
    exact g
  show _ ∧ _
  rw [hz]
  exact ⟨⟨_, he, rfl⟩, h _ he (Heap.get?_push_of_some _ (Heap.get?_push_size _ B.free)) fun b q x => Heap.get?_push_of_some _ (Heap.get?_push_of_some _ x)⟩
end
/-- the tuple at a, each item in a new pair with its place -/
def IteT (K : PySem.W.Frag) (a : Addr) : It :=
  ⟨fun i H => ∃ (xs : List V) (x : V), SqT K H a xs ∧ xs[i]? = some x, fun i H v H' => ∃ T x, v = .ref T ∧ H T = none ∧ H' = upd H T (.tup [.int (i : Nat), x]) ∧ ∀ xs, SqT K H a xs → xs[i]? = some x, fun i H => ∃ xs : List V, SqT K H a xs ∧ xs.length ≤ i⟩
theorem cls_apart {h : Heap} {a b : Addr} {o u : Obj} (ha : h.get? a = some o) (hb : h.get? b = some u) (d : o.cls ≠ u.cls) : a ≠ b := fun e => by
  subst e
  rw [ha] at hb
  exact d (congrArg Obj.cls (Option.some.inj hb))
theorem turn_enumT {P : Program} {w : World} {K : PySem.W.Frag} {elts : List Expr} {kk : Nat} {tpos : Pos} (a e it : Addr) :
    Turn P w K (.Tuple elts kk tpos) (IteT K a) [e, it] e (fun i h => (∃ old, IsEnum h e it ((i : Nat) : Int) old) ∧ h.IsTupleIter it a i) where
  mem := List.mem_cons_self ..
  obj := fun i h st b hb => by
    obtain ⟨⟨old, he⟩, o, ho, hc, hd⟩ := st
    rcases List.mem_cons.mp hb with rfl | hb
    · exact ⟨_, he, fun v q => nomatch q⟩
    · rw [List.mem_singleton.mp hb]
      exact ⟨o, ho, fun v q => by rw [hd] at q; cases q⟩
  keep := fun i h h' st k => ⟨st.1.imp fun old he => k e (List.mem_cons_self ..) _ he, st.2.at fun o q => k it (List.mem_cons_of_mem _ (List.mem_singleton.mpr rfl)) o q⟩
  item := by
    intro X hP hw hK hc i pins s σ H E I hf st hg
    subst hP hw hK
    obtain ⟨⟨old, he⟩, hit⟩ := st
    obtain ⟨xs, x, hq, hx⟩ := hg
    obtain ⟨its, rv, hT, hz⟩ := I.tuple hq
    obtain ⟨u, hu, ru⟩ := rv.get hx
    obtain ⟨oT, hoT, cT, dT⟩ := id hT
    obtain ⟨oI, hoI, cI, _⟩ := id hit
    have n1 : e ≠ it := cls_apart he hoI (by rw [cI]; intro z; injection z with z; exact absurd z (by decide))
    have n2 : a ≠ it := cls_apart hoT hoI (by rw [cT, cI]; intro z; injection z with z; exact absurd z (by decide))
    have n3 : e ≠ a := cls_apart he hoT (by rw [cT]; intro z; injection z with z; exact absurd z (by decide))
    have hel : e < s.heap.objs.size := Heap.lt_size he
    have hil : it < s.heap.objs.size := Heap.lt_size hoI
    have hlt : i < its.toArray.size := by
      rw [List.size_toArray]
      exact (List.getElem?_eq_some_iff.mp hu).1
    refine wpAny_pyNext_enum_itemC (Draws.tuple (A := X.A.in1) (show X.A.in1.handled = none from I.ok.hd hc) it a n2 its.toArray) he ⟨hit, hT⟩ hlt n1 (by simp [n1, n3]) fun y h' tk hy ho st' hN hsz hk => ?_
    have eyu : u = y := by
      have hy2 : its.toArray[i]? = some y := hy
      rw [List.getElem?_toArray, hu] at hy2
      exact Option.some.inj hy2
    subst eyu
    refine ⟨_, rfl, wpAny_letOwnedTupleGo_enum (s := { s with heap := h', toks := tk + 1 }) ho fun h'' he' sb => ?_⟩
    have hN2 : h''.get? s.heap.objs.size = some { cls := .type "tuple", data := .seq #[.int i tk, u] } := (sb.2 _ (Nat.ne_of_gt hel)).trans hN
    have new : ObjOk X.prog X.w (upd H s.heap.objs.size (.tup [.int (i : Nat), x])) h'' s.heap.objs.size (.tup [.int (i : Nat), x]) :=
      ⟨by show 2 ≤ sizeLine; decide, [.int i tk, u], .cons ⟨_, rfl⟩ (.cons ru .nil), ⟨_, hN2, rfl, _, rfl⟩⟩
    have I1 : Inv X pins σ (upd H s.heap.objs.size (.tup [.int (i : Nat), x])) { s with heap := h'', toks := tk + 1 } :=
      I.turnedNew (ch := [e, it]) (fun b ob hb q => (sb.2 b fun z => hb (by simp [z])).trans (hk b ob (fun z => hb (by simp [z])) (fun z => hb (by simp [z])) q)) hf (Nat.le_refl _) new
    refine ⟨.ref s.heap.objs.size, _, I1, rfl, ⟨_, x, rfl, I.hok.fresh (Nat.le_refl _), rfl, fun ys hy => by rw [I.tuple_inj hy hq]; exact hx⟩, ⟨⟨u, ?_⟩, st'.1.at fun o q => (sb.2 it (Ne.symm n1)).trans q⟩, fun b hb => ?_⟩
    · rw [show ((i + 1 : Nat) : Int) = (i : Int) + 1 by omega]
      exact he'
    · have hb' : b < s.heap.objs.size := by
        rcases List.mem_cons.mp hb with z | z
        · rw [z]; exact hel
        · rw [List.mem_singleton.mp z]; exact hil
      rw [upd_ne (Nat.ne_of_lt hb')]
      exact (hf b hb).1
  done := by
    intro X hP hw hK hc i pins s σ H E I hf st hg
    subst hP hw hK
    obtain ⟨⟨old, he⟩, hit⟩ := st
    obtain ⟨xs, hq, hx⟩ := hg
    obtain ⟨its, rv, hT, hz⟩ := I.tuple hq
    obtain ⟨oT, hoT, cT, dT⟩ := id hT
    obtain ⟨oI, hoI, cI, dI⟩ := id hit
    have n2 : a ≠ it := cls_apart hoT hoI (by rw [cT, cI]; intro z; injection z with z; exact absurd z (by decide))
    obtain ⟨f0, f1, f2, f3, f4, f5⟩ := hf it (List.mem_cons_of_mem _ (List.mem_singleton.mpr rfl))
    have D : Draws X.prog X.w X.A.in1 it [it, a] i (fun _ _ => True) (fun k h => k = i ∧ h.IsTupleIter it a i ∧ h.IsTuple a its.toArray) :=
      { live := fun _ _ z => let ⟨o, ho, _⟩ := z.2.1; ⟨o, ho⟩
        frame := fun _ _ _ z hk => ⟨z.1, z.2.1.at fun o e2 => hk it (by simp) o e2, z.2.2.at fun o e2 => hk a (by simp) o e2⟩
        item := fun k s' Q' E' hk z hQ => absurd z.1 (Nat.ne_of_lt hk)
        done := fun s' Q' E' z hE => wpAny_nextOf_tuple_end (show X.A.in1.handled = none from I.ok.hd hc) z.2.1 z.2.2 (Array.getElem?_eq_none (by rw [List.size_toArray, ← rv.length]; exact hx)) hE }
    exact wpAny_pyNext_enum_endD D he ⟨rfl, hit, hT⟩ fun h' eb => ⟨rfl, I.turned (t' := s.toks) (fun b o hb q => eb b o hb q) f0 f1 f3 f4 f5⟩
  self := fun A i s Q E st h => let ⟨⟨_, he⟩, _⟩ := st; wpAny_pyIter_enum he h
section
variable {X : Cx}
def iEnumT (K : PySem.W.Frag) (ta : TA) : TI := fun σ H R => ta σ H fun vs H1 => ∃ a xs, vs = [.ref a] ∧ SqT K H1 a xs ∧ R (IteT K a) H1
theorem pi_enumT {e : Expr} {ta : TA} {p pos tpos : Pos} {elts : List Expr} {kk : Nat} (hg : Gl X "enumerate") (hm : X.mg "enumerate" = none) (ha : PA X [e] ta) (hs : starEach [e] X.env = [(false, eval e X.env)] := by rfl) :
    PI X (.Tuple elts kk tpos) (.Call (.Name "enumerate" p) [e] [] pos) (iEnumT X.K ta) := by
  refine ⟨fun pins s σ H R I h => Call_ (ld_blt I hg hm boot_enumerate (PyProof.Rows.callWith_type1 (thn (ha.run pos pins s σ H _ I h) fun us s1 ⟨vs, H1, I1, r1, q1⟩ => ?_) hs rfl))⟩
  obtain ⟨a, xs, rfl, hq, q⟩ := q1
  obtain ⟨u, rfl, ru⟩ := vals1 r1
  cases ru
  obtain ⟨its, rv, hT, hz⟩ := I1.tuple hq
  refine enum_call1 (begins_tuple a its.toArray) hT fun h' he hit hk => wpAny_pyIter_enum he ?_
  have I2 : Inv X pins σ H1 { s1 with heap := h' } := I1.kept (t' := s1.toks) hk
  have hfree : ∀ b ∈ [s1.heap.objs.size + 1, s1.heap.objs.size], FpOk X pins H1 b := fun b hb => by
    have hle : s1.heap.objs.size ≤ b := by
      rcases List.mem_cons.mp hb with z | z
      · rw [z]; exact Nat.le_succ _
      · rw [List.mem_singleton.mp z]; exact Nat.le_refl _
    exact I1.fpOk hle (I1.hok.fresh hle)
  exact ⟨_, _, _, _, H1, rfl, I2, turn_enumT a (s1.heap.objs.size + 1) s1.heap.objs.size, ⟨⟨.none, he⟩, _, hit, rfl, rfl⟩, hfree, q⟩
end
/-- over a tuple that stays: each turn's pair is new -/
theorem for_enumT {K : PySem.W.Frag} {a : Addr} {xs : List V} {g : TG} {tb : TS} {D : Ends} {σ : L2.St} {H : Hp} (Pv : Nat → L2.St → Hp → Prop) (h0 : Pv 0 σ H) (hl : ∀ i σ H, i ≤ xs.length → Pv i σ H → SqT K H a xs)
    (hs : ∀ i x T σ H, xs[i]? = some x → Pv i σ H → H T = none → g (.ref T) σ (upd H T (.tup [.int (i : Nat), x])) fun σ2 H2 => tb { D with nx := Pv (i + 1), ct := Pv (i + 1), bk := D.nx } σ2 H2) (hd : ∀ σ H, Pv xs.length σ H → D.nx σ H) :
    ∃ W : Nat → Nat → L2.St → Hp → Prop, (∃ m, W 0 m σ H) ∧ ∀ i m σ H, W i m σ H →
      ((IteT K a).stop i H ∧ D.nx σ H) ∨ ((IteT K a).go i H ∧ ∃ N : L2.St → Hp → Prop, (∀ σ' H', N σ' H' → ∃ m', m' < m ∧ W (i + 1) m' σ' H') ∧ ∀ x H', (IteT K a).yld i H x H' → g x σ H' fun σ2 H2 => tb { D with nx := N, ct := N, bk := D.nx } σ2 H2) := by
  refine ⟨fun i m σ H => m + i = xs.length ∧ Pv i σ H, ⟨xs.length, rfl, h0⟩, fun i m σ H hw => ?_⟩
  obtain ⟨em, p⟩ := hw
  have q := hl i σ H (by omega) p
  cases m with
  | zero =>
    have e : i = xs.length := by omega
    subst e
    exact .inl ⟨⟨xs, q, Nat.le_refl _⟩, hd σ H p⟩
  | succ m =>
    have hlt : i < xs.length := by omega
    refine .inr ⟨⟨xs, xs[i], q, List.getElem?_eq_getElem hlt⟩, Pv (i + 1), fun σ' H' p' => ⟨m, Nat.lt_succ_self _, by omega, p'⟩, fun y H' hy => ?_⟩
    obtain ⟨T, x, rfl, nT, rfl, f⟩ := hy
    exact hs i x T σ H (f xs q) p nT
end Abl
namespace Abl
open PySem PySem.Spec PyProof.Rows L2
/-! ### a dict comprehension whose keys are tuples -/
section
variable {X : Cx} {pins : List (Addr × Obj)} {σ : L2.St} {H : Hp} {s : Shared}
/-- one entry, by the comprehension's own store -/
theorem put_tup {E : Value → Shared → Prop} {Dl b : Addr} {kvs : List (List Key × V)} {ky : List Key} {v : V} {r : Value} {Q : Unit → Shared → Prop} (hu : X.A.units + 1 < cLine) (I : Inv X pins σ H s) (hD : H Dl = some (.dT kvs)) (hB : H b = some (.tup (ky.map kV)))
    (small : kvs.length < sizeLine) (rv : RelV v r) (k : ∀ s', Inv X pins σ (upd H Dl (.dT (putK kvs ky v))) s' → Q () s') : wpAny (model X.prog X.w) X.A (dictSet Dl (.ref b) r) Q E s := by
  obtain ⟨_, nsys, xs, rel, dd⟩ := dt_of I.hok hD
  have hx : xs.length ≤ sizeLine := Nat.le_of_lt (by rw [← Paired.length rel]; exact small)
  have room : (tupleKind (mixKind X.prog X.w)).room X.A := show X.A.units < cLine by omega
  refine wpAny_dictSet_heap (hsz := hx) room (key_of I.hok hB) dd fun h' dd' same => k _ ?_
  obtain ⟨o, es, ep, g1, g2, g3, g4, _, g5⟩ := dd'
  have fit : (putK kvs ky v).length ≤ sizeLine := Nat.le_trans (length_putK kvs ky v) small
  have rel2 := KT.keeps (H' := upd H Dl (.dT (putK kvs ky v))) (KT.put rel ky hB rv) fun c ys hc => by
    rw [upd_ne (ne_of hc hD fun z => nomatch z)]
    exact hc
  exact d_write I (by rw [hD]; exact trivial) same ⟨o, g1⟩ ⟨fit, nsys, _, rel2, o, es, ep, g1, g2, g3, g4, g5⟩
end
section
variable {X : Cx}
/-- what one turn of it has to do: from the item to the next word -/
def turnD (g : TG) (tk tv : TE) (vs : List Nat) (Dl : Addr) (Nx : Hp → Prop) (σ : L2.St) (x : V) (H : Hp) : Prop :=
  g x (wipe σ vs) H fun σ2 H2 => wipe σ2 vs = wipe σ vs ∧ tk σ2 H2 fun y H3 => tv σ2 H3 fun z H4 => ∃ (kvs : List (List Key × V)) (ky : List Key) (b : Addr), y = .ref b ∧ H4 b = some (.tup (ky.map kV)) ∧ H4 Dl = some (.dT kvs) ∧ kvs.length < sizeLine ∧ Nx (upd H4 Dl (.dT (putK kvs ky z)))
/-- {k: v for target in iter} -/
def tDcT (wi : TI) (g : TG) (tk tv : TE) (vs : List Nat) : TE := fun σ H Q => wi σ H fun J H1 => ∀ Dl, H1 Dl = none → ∃ W : Nat → Nat → Hp → Prop, (∃ m, W 0 m (upd H1 Dl (.dT []))) ∧ ∀ i m H, W i m H →
  (J.stop i H ∧ Q (.ref Dl) H) ∨ (J.go i H ∧ ∃ Nx : Hp → Prop, (∀ H', Nx H' → ∃ m', m' < m ∧ W (i + 1) m' H') ∧ ∀ x H', J.yld i H x H' → turnD g tk tv vs Dl Nx σ x H')
theorem dct_core {pins : List (Addr × Obj)} {s : Shared} {σ : L2.St} {H : Hp} {Q : VK} {kx vx tg iter : Expr} {scope : Scope} {own : List (Str × Nat)} {pos pos' : Pos} {wi : TI} {g : TG} {tk tv : TE} {use : Option (Value → Sem Unit)} {Qf : Value → Shared → Prop}
    (hu : X.A.units + 1 < cLine) (calm : X.calm = true) (nd : X.N.Nodup) (I : Inv X pins σ H s) (hi : PI X tg iter wi) (ok : BlkOk X.N X.env.scope scope own)
    (hg : ∀ (s : Shared) (H : Hp) (C : Addr) (cl : List (Str × Addr)) (fp : List Addr), PG (X.blk s H scope (compEnvC scope cl C X.env) fp) tg g)
    (hk : ∀ (s : Shared) (H : Hp) (C : Addr) (cl : List (Str × Addr)) (fp : List Addr), PE (X.blk s H scope (compEnvC scope cl C X.env) fp) kx tk)
    (hv : ∀ (s : Shared) (H : Hp) (C : Addr) (cl : List (Str × Addr)) (fp : List Addr), PE (X.blk s H scope (compEnvC scope cl C X.env) fp) vx tv) (fold : ∀ x, foldedSetIterable iter X.env x = pure x)
    (want : tDcT wi g tk tv (own.map (·.2)) σ H Q)
    (fin : ∀ Dl C s' m H', Inv X pins σ H' s' → Q (.ref Dl) H' → s'.heap.Ns C m → FpOk X pins H' C → compPost (model X.prog X.w) X.A X.xe use Qf (.ref Dl) C (.ok .next) s') :
    wpAny (model X.prog X.w) X.A (comprehension (.DictComp kx vx [⟨tg, iter, [], 0⟩] scope pos) scope X.env pos' newDict false (eval iter X.env) use) Qf X.xe s := by
  have caught : ∀ y ∈ scope.names, y.2 = .free → ∃ c, X.env.cells.lookup y.1 = some c := fun y hy e => (ok.free y hy e).elim (fun z => I.ok.has _ (.inl z)) fun z => I.ok.has _ (.inr z)
  refine wpAny_comprehension_free (use := use) rfl fold (closure_ok caught) ok.kind (fun y hy e => by rw [ok.uniq y hy, e]) (thn (hi.run pins s σ H _ I want) fun xv sA hA => thn hA fun itv sB hB => ?_)
  obtain ⟨it, fp, tn, J, HB, rfl, IB, T, stB, fB, qB⟩ := hB
  -- the new dict at Dl, the block's frame behind it
  refine wpAny_newObj_type (newEnv_comp ?_)
  obtain ⟨Dl, eD⟩ : ∃ Dl, Dl = sB.heap.objs.size := ⟨_, rfl⟩
  obtain ⟨sC, eC⟩ : ∃ sC : Shared, sC = { sB with heap := sB.heap.push { cls := .type "dict", data := .dict #[] } } := ⟨_, rfl⟩
  have heapC : sC.heap = sB.heap.push { cls := .type "dict", data := .dict #[] } := congrArg Shared.heap eC
  have freeD : HB Dl = none := IB.hok.fresh (Nat.le_of_eq eD.symm)
  obtain ⟨W, ⟨m0, w0⟩, turn⟩ := qB Dl freeD
  obtain ⟨HC, eH⟩ : ∃ HC, HC = upd HB Dl (.dT []) := ⟨_, rfl⟩
  rw [← eH] at w0
  have IC : Inv X pins σ HC sC := by
    rw [eH, eC]
    refine IB.laid (t' := sB.toks) (fun b o e => Heap.get?_push_of_some _ e) (Nat.le_of_eq eD.symm) ?_
    rw [eD]
    exact dt_empty sB.heap IB.big
  have below : ∀ b ∈ fp, b < sB.heap.objs.size := fun b hb => let ⟨_, e, _⟩ := T.obj _ _ stB b hb; Heap.lt_size e
  have freeF : ∀ b ∈ fp, HC b = none := fun b hb => by
    rw [eH, upd_ne (by rw [eD]; exact Nat.ne_of_lt (below b hb))]
    exact (fB b hb).1
  have fC : ∀ b ∈ fp, FpOk X pins HC b ∧ b < sC.heap.objs.size := fun b hb => ⟨⟨freeF b hb, (fB b hb).2⟩, by
    rw [heapC, Heap.size_push]
    exact Nat.lt_succ_of_lt (below b hb)⟩
  have stC : tn 0 sC.heap := T.keep _ _ _ stB fun b _ o e => by
    rw [heapC]
    exact Heap.get?_push_of_some _ e
  have IE := block_start IC ok nd fC
  obtain ⟨ce, ee⟩ : ∃ ce, ce = compEnvC scope (cellsFrom (sC.heap.objs.size + 1) scope.names (cloFrom X.env.cells scope.names [])) sC.heap.objs.size X.env := ⟨_, rfl⟩
  have pg := hg sC HC sC.heap.objs.size (cellsFrom (sC.heap.objs.size + 1) scope.names (cloFrom X.env.cells scope.names [])) fp
  have pk := hk sC HC sC.heap.objs.size (cellsFrom (sC.heap.objs.size + 1) scope.names (cloFrom X.env.cells scope.names [])) fp
  have pv2 := hv sC HC sC.heap.objs.size (cellsFrom (sC.heap.objs.size + 1) scope.names (cloFrom X.env.cells scope.names [])) fp
  obtain ⟨sE, eE⟩ : ∃ sE : Shared, sE = { sC with heap := pushCells (sC.heap.push { cls := .type "dict", data := .dict #[] }) scope.names } := ⟨_, rfl⟩
  have locE : ce.locals = sC.heap.objs.size := by rw [ee]; rfl
  have stE : tn 0 sE.heap := T.keep _ _ _ stC fun b _ o e => by
    rw [eE]
    exact pushCells_keeps _ _ _ _ (Heap.get?_push_of_some _ e)
  have goal : codeAny (model X.prog X.w) X.A (.compStart (.DictComp kx vx [⟨tg, iter, [], 0⟩] scope pos) 0 (.ref it) (.ref Dl) ce) (compPost (model X.prog X.w) X.A X.xe use Qf (.ref Dl) sC.heap.objs.size) sE := by
    rw [← ee] at IE pg pk pv2
    rw [← eE] at IE
    -- the iterator's own cells stay apart
    have apart : ∀ {σ' : L2.St} {H' : Hp} {s' : Shared}, Inv (X.blk sC HC scope ce fp) [] σ' H' s' → (∀ b ∈ fp, H' b = none) → ∀ b ∈ fp, FpOk (X.blk sC HC scope ce fp) [] H' b := fun {σ' H' s'} I' no b hb =>
      ⟨no b hb, (I'.ok.exf b hb).1, I'.ok.exfs b hb, .inl hb, fun x c e => (I'.ok.exf b hb).2 x c e, fun p hp => nomatch hp⟩
    have loop : codeAny (model X.prog X.w) X.A (.compLoop (.DictComp kx vx [⟨tg, iter, [], 0⟩] scope pos) 0 (.ref it) (.ref Dl) ce) (compPost (model X.prog X.w) X.A X.xe use Qf (.ref Dl) sC.heap.objs.size) sE := by
      refine compLoop_anyD (fun n s' => ∃ i H', Inv (X.blk sC HC scope ce fp) [] (wipe σ (own.map (·.2))) H' s' ∧ tn i s'.heap ∧ (∀ b ∈ fp, H' b = none) ∧ W i n H') (fun n s1 h1 => ?_) m0 ⟨0, HC, IE, stE, freeF, w0⟩
      obtain ⟨i, H1, I1, st1, no1, w1⟩ := h1
      rcases turn i n H1 w1 with ⟨stop, qq⟩ | ⟨go, Nx, next, step⟩
      · refine thnF (T.done (X.blk sC HC scope ce fp) rfl rfl rfl calm i [] s1 _ H1 (fun _ _ => False) I1 (apart I1 no1) st1 stop) fun r s2 h2 => ?_
        obtain ⟨rfl, I2⟩ := h2
        have back : Inv X pins σ H1 s2 := IC.call' (ch := fp) I2.os I2.base I2.hok I2.bare fun b hb => let z := (fC b hb).1.2; ⟨z.2.2.1, z.1, z.2.2.2.1, z.2.2.2.2⟩
        have noC : H1 sC.heap.objs.size = none := by
          have z : H1 ce.locals = none := I2.free
          rw [locE] at z
          exact z
        obtain ⟨m, names, _⟩ := I2.loc
        have names : s2.heap.Ns ce.locals m := names
        rw [locE] at names
        exact fin Dl sC.heap.objs.size s2 m H1 back qq names (IC.fpOk (Nat.le_refl _) noC)
      · refine thnF (T.item (X.blk sC HC scope ce fp) rfl rfl rfl calm i [] s1 _ H1 (fun _ _ => False) I1 (apart I1 no1) st1 go) fun r s2 h2 => ?_
        obtain ⟨u, rfl, h2⟩ := h2
        refine thnF h2 fun _ s3 h3 => ?_
        obtain ⟨x, H3, I3, r3, y3, st3, no3⟩ := h3
        refine thnF (pg.run _ s3 _ H3 x u _ (I3.pinned (apart I3 no3) (T.obj _ _ st3)) r3 (step x H3 y3)) fun _ s4 h4 => ?_
        obtain ⟨σ4, H4, I4, ew, q4⟩ := h4
        -- no tests
        refine wpAny_tests_nil ?_
        rw [if_pos rfl]
        refine thnF (pk.run _ s4 σ4 H4 _ I4 q4) fun kv s5 h5 => ?_
        obtain ⟨yk, H5, I5, r5, q5⟩ := h5
        refine thnF (pv2.run _ s5 σ4 H5 _ I5 q5) fun vv s6 h6 => ?_
        obtain ⟨yv, H6, I6, r6, kvs, ky, b, rfl, hB, hD, small, nx⟩ := h6
        cases r5
        refine put_tup (X := X.blk sC HC scope ce fp) hu I6 hD hB small r6 fun s7 I7 => ?_
        obtain ⟨m', lt, w7⟩ := next _ nx
        have pinned : ∀ b ∈ fp, ∀ o, s3.heap.get? b = some o → s7.heap.get? b = some o ∧ (upd H6 Dl (.dT (putK kvs ky yv))) b = none := fun b hb o e =>
          let z := I7.pin (b, o) (List.mem_append_right _ (List.mem_append_right _ (mem_pinsAt hb e)))
          ⟨z.1, z.2.1⟩
        refine ⟨m', lt, i + 1, _, (I7.unpinned (pins := [])).weak (by rw [← ew, wipe_length]) (fun j v e => ?_), T.keep _ _ _ st3 fun b hb o e => (pinned b hb o e).1, fun b hb => ?_, w7⟩
        · rw [← ew] at e
          exact (wipe_some e).1
        · obtain ⟨o, e, _⟩ := T.obj _ _ st3 b hb
          exact (pinned b hb o e).2
    exact codeAny_compStart_dict loop (T.self X.A 0 _ _ _ stE loop)
  rw [eE, ee, eC, eD] at goal
  exact goal
/-- name = {..} on one line, the name a local -/
theorem sw_dict {kx vx : Expr} {gs : List Comprehension} {scope : Scope} {pos py : Pos} {y : Str} {l : Nat} {env : Env} (fn : env.scope.kind = .function) (hy : env.scope.names.lookup y = some .local) (line : (py.line == pos.line) = true)
    (other : (scope.names.any fun (n, k) => n == y && (k == .local || k == .cell)) = false) : swapsWith (.DictComp kx vx gs scope pos) (some (.Name y py)) l env = pure true := by
  have e1 : env.kindOf y = some .local := hy
  have e2 : env.blockKind = .function := by
    unfold Env.blockKind
    rw [fn] <;> rfl
  unfold swapsWith
  simp only [e1, e2, other, line, Expr.pos]
  rfl
theorem ps_setDcT {i : Nat} {y : Str} {py : Pos} {kx vx tg iter : Expr} {scope : Scope} {own : List (Str × Nat)} {pos spos : Pos} {wi : TI} {g : TG} {tk tv : TE} (hu : X.A.units + 1 < cLine) (sw : swapsWith (.DictComp kx vx [⟨tg, iter, [], 0⟩] scope pos) (some (.Name y py)) spos.line X.env = pure true)
    (calm : X.calm = true) (nd : X.N.Nodup) (hy : X.N[i]? = some y) (loc : X.env.scope.names.lookup y = some .local) (hi : PI X tg iter wi) (ok : BlkOk X.N X.env.scope scope own)
    (hg : ∀ (s : Shared) (H : Hp) (C : Addr) (cl : List (Str × Addr)) (fp : List Addr), PG (X.blk s H scope (compEnvC scope cl C X.env) fp) tg g)
    (hk : ∀ (s : Shared) (H : Hp) (C : Addr) (cl : List (Str × Addr)) (fp : List Addr), PE (X.blk s H scope (compEnvC scope cl C X.env) fp) kx tk)
    (hv : ∀ (s : Shared) (H : Hp) (C : Addr) (cl : List (Str × Addr)) (fp : List Addr), PE (X.blk s H scope (compEnvC scope cl C X.env) fp) vx tv) (fold : ∀ x, foldedSetIterable iter X.env x = pure x := by intro _; rfl) :
    PS X (.Assign [.Name y py] (.DictComp kx vx [⟨tg, iter, [], 0⟩] scope pos) spos) (tAsg (tDcT wi g tk tv (own.map (·.2))) (gName i)) := by
  refine ⟨fun pins s σ H D I want => ?_⟩
  rw [exec_Assign_Name_used _ _ _ _ sw]
  refine wpAny_bind (wpAny_standAt (wpAny_bind ?_))
  show wpAny _ X.A (do let _ ← comprehension (.DictComp kx vx [⟨tg, iter, [], 0⟩] scope pos) scope X.env (firstIterPos [⟨tg, iter, [], 0⟩] pos) newDict false (eval iter X.env) (some (assign (.Name y py) X.env))) _ _ s
  have want : tDcT wi g tk tv (own.map (·.2)) σ H (fun x H1 => gName i x σ H1 D.nx) := want
  refine wpAny_bind (thn (dct_core (Qf := fun _ s' => SP X pins D .next s') hu calm nd I hi ok hg hk hv fold want fun L C s' m H' I' q names cell => ?_) fun _ s' hq => wpAny_pure (wpAny_pure hq))
  show wpAny _ _ (assign (.Name y py) X.env (.ref L)) _ _ _
  obtain ⟨f0, f1, f2, f3, f4, f5⟩ := cell
  refine wpAny_assign_Name (store_ok2 (v := V.ref L) I' nd hy (.inl loc) rfl (fun s2 I2 h2 => ?_) (.inr loc))
  obtain ⟨a, sb, ha⟩ := h2
  have nCa : C ≠ a := ha.elim (fun z => by rw [z]; exact f1) fun z e => f4 y a z e.symm
  refine ⟨m, names.sameBut sb nCa, fun h3 sb3 => ⟨_, H', ?_, q⟩⟩
  exact I2.turned (t' := s2.toks) (fun b o hb e => (sb3.2 b hb).trans e) f0 f1 f3 f4 f5
/-- a comprehension within a comprehension: its names, the captured ones told apart -/
def blkI (N : List Str) (scope : Scope) (own : List (Str × Nat)) (fs : List Str) : Bool :=
  (match scope.kind with | .function => true | _ => false) && (scope.names.all fun y => decide (scope.names.lookup y.1 = some y.2)) && (own.all fun p => decide (N[p.2]? = some p.1)) &&
    (scope.names.all fun y => (!decide (y.2 = .free) || decide (y.1 ∈ fs)) && (!decide (y.2 = .local) && !decide (y.2 = .cell) || decide (y.1 ∈ own.map (·.1)) || decide (y.1 ∉ N)))
theorem blk_in {N : List Str} {sc scope : Scope} {own : List (Str × Nat)} {fs : List Str} (h : blkI N scope own fs = true) (hf : ∀ x ∈ fs, sc.names.lookup x = some .cell ∨ sc.names.lookup x = some .free) : BlkOk N sc scope own := by
  unfold blkI at h
  simp only [Bool.and_eq_true, List.all_eq_true, decide_eq_true_eq, Bool.or_eq_true, Bool.not_eq_true', decide_eq_false_iff_not] at h
  obtain ⟨⟨⟨h1, h2⟩, h3⟩, h4⟩ := h
  refine ⟨?_, h2, h3, fun y hy e => ?_, fun y hy e => ?_⟩
  · split at h1
    · assumption
    · cases h1
  · rcases (h4 y hy).1 with z | z
    · exact absurd e z
    · exact hf _ z
  · rcases (h4 y hy).2 with (z | z) | z
    · rcases e with e | e
      · exact absurd e z.1
      · exact absurd e z.2
    · exact .inl z
    · exact .inr z
/-- over a range -/
theorem dct_range {n : Nat} {g : TG} {tk tv : TE} {vs : List Nat} {σ : L2.St} {H1 : Hp} {Dl : Addr} {Qd : Hp → Prop} (Pv : Nat → Hp → Prop) (h0 : Pv 0 (upd H1 Dl (.dT [])))
    (hs : ∀ i H, i < n → Pv i H → turnD g tk tv vs Dl (Pv (i + 1)) σ (.int (0 + (i : Int))) H) (hd : ∀ H, Pv n H → Qd H) :
    ∃ W : Nat → Nat → Hp → Prop, (∃ m, W 0 m (upd H1 Dl (.dT []))) ∧ ∀ i m H, W i m H → ((Itr 0 n).stop i H ∧ Qd H) ∨ ((Itr 0 n).go i H ∧ ∃ Nx : Hp → Prop, (∀ H', Nx H' → ∃ m', m' < m ∧ W (i + 1) m' H') ∧ ∀ x H', (Itr 0 n).yld i H x H' → turnD g tk tv vs Dl Nx σ x H') := by
  refine ⟨fun i m H => m + i = n ∧ Pv i H, ⟨n, rfl, h0⟩, fun i m H hw => ?_⟩
  obtain ⟨em, p⟩ := hw
  cases m with
  | zero =>
    have e : i = n := by omega
    subst e
    exact .inl ⟨Nat.le_refl _, hd H p⟩
  | succ m =>
    have lt : i < n := by omega
    refine .inr ⟨lt, Pv (i + 1), fun H' p' => ⟨m, Nat.lt_succ_self _, by omega, p'⟩, fun x H' hy => ?_⟩
    obtain ⟨rfl, rfl⟩ := hy
    exact hs i _ lt p
/-- over the keys of a dict that is locked -/
theorem dct_keys {d : Addr} {od : Obj} {ks : List (List Key × V)} {g : TG} {tk tv : TE} {vs : List Nat} {σ : L2.St} {H1 : Hp} {Dl : Addr} {Qd : Hp → Prop} (Pv : Nat → Hp → Prop) (h0 : Pv 0 (upd H1 Dl (.dT []))) (hl : ∀ i H, i ≤ ks.length → Pv i H → H d = some (.frz od (.dT ks)))
    (hs : ∀ i p b H, ks[i]? = some p → H b = some (.tup (p.1.map kV)) → Pv i H → turnD g tk tv vs Dl (Pv (i + 1)) σ (.ref b) H) (hd : ∀ H, Pv ks.length H → Qd H) :
    ∃ W : Nat → Nat → Hp → Prop, (∃ m, W 0 m (upd H1 Dl (.dT []))) ∧ ∀ i m H, W i m H → ((Itkt d od ks).stop i H ∧ Qd H) ∨ ((Itkt d od ks).go i H ∧ ∃ Nx : Hp → Prop, (∀ H', Nx H' → ∃ m', m' < m ∧ W (i + 1) m' H') ∧ ∀ x H', (Itkt d od ks).yld i H x H' → turnD g tk tv vs Dl Nx σ x H') := by
  refine ⟨fun i m H => m + i = ks.length ∧ Pv i H, ⟨ks.length, rfl, h0⟩, fun i m H hw => ?_⟩
  obtain ⟨em, p⟩ := hw
  have lk := hl i H (by omega) p
  cases m with
  | zero =>
    have e : i = ks.length := by omega
    subst e
    exact .inl ⟨⟨lk, Nat.le_refl _⟩, hd H p⟩
  | succ m =>
    refine .inr ⟨⟨lk, by omega⟩, Pv (i + 1), fun H' p' => ⟨m, Nat.lt_succ_self _, by omega, p'⟩, fun x H' hy => ?_⟩
    obtain ⟨rfl, ky, v, b, hk, rfl, hb⟩ := hy
    exact hs i (ky, v) b _ hk hb p
end
end Abl
namespace Abl
open PySem PySem.Spec PyProof.Rows L2
/-! ### all but one object stand -/
def But (d : Addr) (H H' : Hp) : Prop := ∀ b o, b ≠ d → H b = some o → H' b = some o
theorem But.refl (d : Addr) (H : Hp) : But d H H := fun _ _ _ h => h
theorem But.of {d : Addr} {H H' : Hp} (e : Evl.Ex H H') : But d H H' := fun b o _ h => e b o h
theorem But.trans {d : Addr} {H H1 H2 : Hp} (a : But d H H1) (b : But d H1 H2) : But d H H2 := fun c o n h => b c o n (a c o n h)
theorem But.put {d : Addr} {H H' : Hp} {o : HO} (a : But d H H') : But d H (upd H' d o) := fun b u n h => by
  rw [upd_ne n]
  exact a b u n h
theorem But.tu {d : Addr} {H H' : Hp} {o : HO} (a : But d H H') (hd : H d = some o) (no : ∀ xs, o ≠ .tup xs) : Tu H H' := fun b xs h => a b _ (ne_of h hd fun z => no xs z.symm) h
/-- what was locked is free again -/
theorem But.ex {d : Addr} {H H' : Hp} (a : But d H H') {o : HO} (hd : H d = some o) (h2 : H' d = some o) : Evl.Ex H H' := fun b u h => by
  by_cases e : b = d
  · subst e
    rw [hd] at h
    cases h
    exact h2
  · exact a b u e h
theorem But.mut {d p : Addr} {H H' : Hp} {o : HO} (a : But d H H') (h : H p = none) : But d H (upd H' p o) := fun b u n hb => by
  rw [upd_ne (ne_of_none hb h)]
  exact a b u n hb
theorem ne_of_none' {H : Hp} {a b : Addr} {o : HO} (h : H a = none) (h' : H b = some o) : a ≠ b := fun e => by
  rw [e, h'] at h
  cases h
/-! ### dicts of walks -/
def kk (k : Ky) : List Key := [.inl k.1, .inl k.2]
theorem kk_inj {a b : Ky} (h : kk a = kk b) : a = b := by
  unfold kk at h
  injection h with h1 h2
  injection h2 with h2 _
  injection h1 with h1
  injection h2 with h2
  exact Prod.ext h1 h2
theorem kk_map (k : Ky) : (kk k).map kV = [V.int k.1, V.int k.2] := rfl
/-- what is stored: the length and the walk, of at most n edges -/
def Wr (n : Nat) (H : Hp) (v : V) (l : Int) : Prop := ∃ (t w : Addr) (xs : List V), v = .ref t ∧ H t = some (.tup [.int l, .ref w]) ∧ H w = some (.tup xs) ∧ xs.length ≤ n
def WR (n : Nat) (H : Hp) (p : List Key × V) (q : Ky × Int) : Prop := p.1 = kk q.1 ∧ Wr n H p.2 q.2
abbrev Wks (n : Nat) (H : Hp) (kvs : List (List Key × V)) (m : Wk) : Prop := Paired (WR n H) kvs m
theorem Wr.ts {n : Nat} {H H' : Hp} {v : V} {l : Int} (e : Tu H H') (h : Wr n H v l) : Wr n H' v l := by
  obtain ⟨t, w, xs, h1, h2, h3, h4⟩ := h
  exact ⟨t, w, xs, h1, e _ _ h2, e _ _ h3, h4⟩
theorem Wr.le {n n' : Nat} {H : Hp} {v : V} {l : Int} (e : n ≤ n') (h : Wr n H v l) : Wr n' H v l := by
  obtain ⟨t, w, xs, h1, h2, h3, h4⟩ := h
  exact ⟨t, w, xs, h1, h2, h3, Nat.le_trans h4 e⟩
theorem wks_ts {n : Nat} {H H' : Hp} {kvs : List (List Key × V)} {m : Wk} (e : Tu H H') (h : Wks n H kvs m) : Wks n H' kvs m := pair_map h fun _ _ q => ⟨q.1, q.2.ts e⟩
theorem wks_le {n n' : Nat} {H : Hp} {kvs : List (List Key × V)} {m : Wk} (e : n ≤ n') (h : Wks n H kvs m) : Wks n' H kvs m := pair_map h fun _ _ q => ⟨q.1, q.2.le e⟩
theorem wks_none {n : Nat} {H : Hp} {k : Ky} : ∀ {kvs : List (List Key × V)} {m : Wk}, Wks n H kvs m → getW m k = none → valV kvs (kk k) = none
  | _, _, .nil, _ => rfl
  | p :: r, q :: s, .cons h t, g => by
    have hne : ¬ q.1 = k := fun e => by
      unfold getW at g
      rw [List.find?_cons, decide_eq_true e] at g
      cases g
    have g2 : getW s k = none := by
      unfold getW at g ⊢
      rw [List.find?_cons, decide_eq_false hne] at g
      exact g
    rw [valV_neg (fun e => hne (kk_inj (h.1.symm.trans e)))]
    exact wks_none t g2
theorem wks_some {n : Nat} {H : Hp} {k : Ky} {l : Int} : ∀ {kvs : List (List Key × V)} {m : Wk}, Wks n H kvs m → getW m k = some l → ∃ v, valV kvs (kk k) = some v ∧ Wr n H v l
  | _, _, .nil, g => by cases g
  | p :: r, q :: s, .cons h t, g => by
    by_cases hne : q.1 = k
    · unfold getW at g
      rw [List.find?_cons, decide_eq_true hne] at g
      have e : q.2 = l := Option.some.inj g
      refine ⟨p.2, valV_pos (h.1.trans (by rw [hne])), ?_⟩
      rw [← e]
      exact h.2
    · have g2 : getW s k = some l := by
        unfold getW at g ⊢
        rw [List.find?_cons, decide_eq_false hne] at g
        exact g
      rw [valV_neg (fun e => hne (kk_inj (h.1.symm.trans e)))]
      exact wks_some t g2
theorem wks_any {n : Nat} {H : Hp} {k : Ky} : ∀ {kvs : List (List Key × V)} {m : Wk}, Wks n H kvs m → (kvs.any fun p => decide (p.1 = kk k)) = m.any fun q => decide (q.1 = k)
  | _, _, .nil => rfl
  | p :: r, q :: s, .cons h t => by
    rw [List.any_cons, List.any_cons, wks_any t]
    congr 1
    rw [h.1]
    by_cases e : q.1 = k
    · rw [e, decide_eq_true rfl, decide_eq_true rfl]
    · rw [decide_eq_false e, decide_eq_false fun z => e (kk_inj z)]
theorem wks_repl {n : Nat} {H : Hp} {k : Ky} {v : V} {l : Int} (hv : Wr n H v l) : ∀ {kvs : List (List Key × V)} {m : Wk}, Wks n H kvs m → Wks n H (kvs.map fun p => if p.1 = kk k then (p.1, v) else p) (m.map fun q => if q.1 = k then (q.1, l) else q)
  | _, _, .nil => .nil
  | p :: r, q :: s, .cons h t => by
    refine .cons ?_ (wks_repl hv t)
    show WR n H (if p.1 = kk k then (p.1, v) else p) (if q.1 = k then (q.1, l) else q)
    by_cases e : q.1 = k
    · rw [if_pos e, if_pos (h.1.trans (by rw [e]))]
      exact ⟨h.1, hv⟩
    · rw [if_neg e, if_neg (fun z => e (kk_inj (h.1.symm.trans z)))]
      exact h
theorem wks_put {n : Nat} {H : Hp} {k : Ky} {v : V} {l : Int} {kvs : List (List Key × V)} {m : Wk} (h : Wks n H kvs m) (hv : Wr n H v l) : Wks n H (putK kvs (kk k) v) (putW m k l) := by
  unfold putK putW
  rw [wks_any h]
  split
  · exact wks_repl hv h
  · exact pair_snoc h ⟨rfl, hv⟩
/-! ### evaluation over them -/
section
open Evl
variable {K : PySem.W.Frag} {σ : L2.St} {H H' : Hp} {ta tb te td ty tv : TE} {x v : V} {D : Ends} {tu tw tz : TS}
theorem rd_ex {H H' : Hp} {a : Addr} {u : HO} (e : Ex H H') (h : Rd H a u) : Rd H' a u := ex_rd e h
/-- d[k], k in d, k not in d: the key a new tuple, a tuple that stands -/
theorem ev_dgetU {d : Addr} {kvs : List (List Key × V)} {k : List Key} (h1 : Ev td σ H (.ref d)) (h2 : EvU ty σ H (k.map kV)) (hd : Rd H d (.dT kvs)) (hv : valV kvs k = some v) : Ev (tDGet td ty) σ H v := fun H0 e0 Q q =>
  h1 H0 e0 _ fun H1 e1 => h2 H1 (e0.trans e1) _ fun p H2 _ e2 hp => ⟨d, v, rfl, .inr ⟨kvs, k, p, rd_ex ((e0.trans e1).trans e2) hd, rfl, hp, hv.symm⟩, q H2 (e1.trans e2)⟩
theorem ev_dget {d b : Addr} {kvs : List (List Key × V)} {k : List Key} (h1 : Ev td σ H (.ref d)) (h2 : Ev ty σ H (.ref b)) (hb : H b = some (.tup (k.map kV))) (hd : Rd H d (.dT kvs)) (hv : valV kvs k = some v) : Ev (tDGet td ty) σ H v := fun H0 e0 Q q =>
  h1 H0 e0 _ fun H1 e1 => h2 H1 (e0.trans e1) _ fun H2 e2 => ⟨d, v, rfl, .inr ⟨kvs, k, b, rd_ex ((e0.trans e1).trans e2) hd, rfl, ((e0.trans e1).trans e2) _ _ hb, hv.symm⟩, q H2 (e1.trans e2)⟩
theorem ev_dinU {d : Addr} {kvs : List (List Key × V)} {k : List Key} (h2 : EvU ty σ H (k.map kV)) (h1 : Ev td σ H (.ref d)) (hd : Rd H d (.dT kvs)) : Ev (tDIn ty td) σ H (.bl (valV kvs k).isSome) := fun H0 e0 Q q =>
  h2 H0 e0 _ fun p H1 _ e1 hp => h1 H1 (e0.trans e1) _ fun H2 e2 => ⟨d, _, rfl, .inr ⟨kvs, k, p, rd_ex ((e0.trans e1).trans e2) hd, rfl, e2 _ _ hp, rfl⟩, q H2 (e1.trans e2)⟩
theorem ev_dninU {d : Addr} {kvs : List (List Key × V)} {k : List Key} (h2 : EvU ty σ H (k.map kV)) (h1 : Ev td σ H (.ref d)) (hd : Rd H d (.dT kvs)) : Ev (tDNotIn ty td) σ H (.bl (!(valV kvs k).isSome)) := fun H0 e0 Q q =>
  h2 H0 e0 _ fun p H1 _ e1 hp => h1 H1 (e0.trans e1) _ fun H2 e2 => ⟨d, _, rfl, .inr ⟨kvs, k, p, rd_ex ((e0.trans e1).trans e2) hd, rfl, e2 _ _ hp, rfl⟩, q H2 (e1.trans e2)⟩
theorem ev_dnin {d b : Addr} {kvs : List (List Key × V)} {k : List Key} (h2 : Ev ty σ H (.ref b)) (hb : H b = some (.tup (k.map kV))) (h1 : Ev td σ H (.ref d)) (hd : Rd H d (.dT kvs)) : Ev (tDNotIn ty td) σ H (.bl (!(valV kvs k).isSome)) := fun H0 e0 Q q =>
  h2 H0 e0 _ fun H1 e1 => h1 H1 (e0.trans e1) _ fun H2 e2 => ⟨d, _, rfl, .inr ⟨kvs, k, b, rd_ex ((e0.trans e1).trans e2) hd, rfl, ((e0.trans e1).trans e2) _ _ hb, rfl⟩, q H2 (e1.trans e2)⟩
/-- {} -/
theorem q_asgD {i : Nat} (k : ∀ p H1, H p = none → Ex H H1 → H1 p = some (.dT []) → tz D (σ.set i (some (.ref p))) H1) : tSeq (tAsg tDNewT (gName i)) tz D σ H := fun p hp => k p _ hp (Ex.new hp) upd_same
/-- d[k] = v -/
theorem s_dputU {d : Addr} {kvs : List (List Key × V)} {k : List Key} {R : V → Hp → Prop} (hd : H d = some (.dT kvs)) (hv : EvP tv σ H R) (h1 : Ev td σ H (.ref d)) (h2 : EvU ty σ H (k.map kV)) (small : kvs.length < 100000)
    (go : ∀ v H1 H2, Ex H H1 → R v H1 → Ex H1 H2 → D.nx σ (upd H2 d (.dT (putK kvs k v)))) : sDPut td ty tv D σ H :=
  hv H (Ex.refl H) _ fun v H1 e1 r => h1 H1 e1 _ fun H2 e2 => h2 H2 (e1.trans e2) _ fun p H3 _ e3 hp => ⟨d, _, rfl, .inr ⟨kvs, k, p, ((e1.trans e2).trans e3) _ _ hd, rfl, hp, sz_lt small, rfl⟩, go v H1 H3 e1 r (e2.trans e3)⟩
theorem q_dput {d b : Addr} {kvs : List (List Key × V)} {k : List Key} (hd : H d = some (.dT kvs)) (hv : Ev tv σ H v) (h1 : Ev td σ H (.ref d)) (h2 : Ev ty σ H (.ref b)) (hb : H b = some (.tup (k.map kV))) (small : kvs.length < 100000)
    (go : ∀ H1, Ex H H1 → tz D σ (upd H1 d (.dT (putK kvs k v)))) : tSeq (sDPut td ty tv) tz D σ H :=
  hv H (Ex.refl H) _ fun H1 e1 => h1 H1 e1 _ fun H2 e2 => h2 H2 (e1.trans e2) _ fun H3 e3 => ⟨d, _, rfl, .inr ⟨kvs, k, b, ((e1.trans e2).trans e3) _ _ hd, rfl, ((e1.trans e2).trans e3) _ _ hb, sz_lt small, rfl⟩, go H3 ((e1.trans e2).trans e3)⟩
/-- t + u, u not empty -/
theorem evp_cat {a : Addr} {xs ys : List V} (h1 : Ev ta σ H (.ref a)) (h2 : EvU tb σ H ys) (ha : H a = some (.tup xs)) (hy : ys ≠ []) (small : xs.length + ys.length ≤ 100000) : EvP (tOp (rCatA K) ta tb) σ H (fun v H' => ∃ w, v = .ref w ∧ H' w = some (.tup (xs ++ ys))) := fun H0 e0 Q q =>
  h1 H0 e0 _ fun H1 e1 => h2 H1 (e0.trans e1) _ fun p H2 _ e2 hp => ⟨a, p, xs, ys, rfl, rfl, SqT.of (((e0.trans e1).trans e2) _ _ ha), SqT.of hp, sz_of small, fun z => q _ H2 (e1.trans e2) ⟨p, rfl, by rw [z]; exact hp⟩, fun _ z => absurd z hy, fun _ _ w hw => q _ _ ((e1.trans e2).trans (Ex.new hw)) ⟨w, rfl, upd_same⟩⟩
/-- (e, f): the second told by a property -/
theorem evp_tup2 {R : V → Hp → Prop} (h1 : Ev ta σ H x) (h2 : EvP tb σ H R) : EvP (tTup (tCons ta (tCons tb tNil))) σ H (fun v H' => ∃ t y H0, v = .ref t ∧ H' t = some (.tup [x, y]) ∧ Ex H0 H' ∧ R y H0) := fun H0 e0 Q q =>
  h1 H0 e0 _ fun H1 e1 => h2 H1 (e0.trans e1) _ fun y H2 e2 r => ⟨sz_of (show 2 ≤ 100000 by decide), fun p hp => q _ _ ((e1.trans e2).trans (Ex.new hp)) ⟨p, y, H2, rfl, upd_same, Ex.new hp, r⟩⟩
/-- (a new tuple, x, y, z) -/
theorem evp_tup4 {t1 t2 t3 t4 : TE} {xs : List V} {y z u : V} (h1 : EvU t1 σ H xs) (h2 : Ev t2 σ H y) (h3 : Ev t3 σ H z) (h4 : Ev t4 σ H u) :
    EvP (tTup (tCons t1 (tCons t2 (tCons t3 (tCons t4 tNil))))) σ H (fun v H' => ∃ p g, v = .ref p ∧ H' p = some (.tup [.ref g, y, z, u]) ∧ H' g = some (.tup xs)) := fun H0 e0 Q q =>
  h1 H0 e0 _ fun g H1 _ e1 hg => h2 H1 (e0.trans e1) _ fun H2 e2 => h3 H2 ((e0.trans e1).trans e2) _ fun H3 e3 => h4 H3 (((e0.trans e1).trans e2).trans e3) _ fun H4 e4 =>
    ⟨sz_of (show 4 ≤ 100000 by decide), fun p hp => q _ _ ((((e1.trans e2).trans e3).trans e4).trans (Ex.new hp)) ⟨p, g, rfl, upd_same, Ex.new hp _ _ (((e2.trans e3).trans e4) _ _ hg)⟩⟩
/-- l.append(e) -/
theorem s_appP {l : Addr} {xs : List V} {R : V → Hp → Prop} (hl : H l = some (.lst xs)) (ha : Ev ta σ H (.ref l)) (h : EvP te σ H R) (hz : xs.length < 100000) (k : ∀ v H1, Ex H H1 → R v H1 → D.nx σ (upd H1 l (.lst (xs ++ [v])))) :
    tDrop (tBM K "list" rAppend ta (tCons te tNil)) D σ H := ha H (Ex.refl H) _ fun H1 e1 =>
  ⟨Or.inl ⟨rfl, xs, SqL.of (e1 l _ hl)⟩, h H1 e1 _ fun v H2 e2 r => ⟨l, xs, v, rfl, rfl, e2 l _ (e1 l _ hl), sz_lt hz, k v H2 (e1.trans e2) r⟩⟩
end
end Abl
namespace Abl
open PySem PySem.Spec PyProof.Rows L2
open Evl (Ex Ev EvT EvA EvL EvU EvO ev_var ev_c ev_op ev_is et_is ev_andV ev_orV ev_notV et_and et_or et_not et_B et_test rv_I0 rv_eq rv_ne ea_nil ea_cons s_ret s_retU s_if s_when q_when q_asg q_asgL ev_if RetV eu_tup el_lst ev_inU ev_un ru_neg eo_none eo_some el_sl ev_opUU ev_len q_forR1 q_forT rv_isL q_while s_while s_appU q_appU q_cut)
section
variable {P : Program} {w : World} {K : PySem.W.Frag} {mg : Str → Option Value} {base : Heap}
def EdgeAt (H : Hp) (a : Addr) (p : Int × Int × Int) : Prop := ∃ g : Addr, H a = some (.tup [.ref g, .int p.1, .int p.2.1, .int p.2.2])
def EdgesL (H : Hp) (p : Addr) (es : List (Int × Int × Int)) : Prop := ∃ as : List Addr, H p = some (.lst (as.map V.ref)) ∧ Paired (EdgeAt H) as es
theorem edges_ts {H H' : Hp} {as : List Addr} {es : List (Int × Int × Int)} (e : Tu H H') (h : Paired (EdgeAt H) as es) : Paired (EdgeAt H') as es := pair_map h fun _ _ q => let ⟨g, z⟩ := q; ⟨g, e _ _ z⟩
theorem EdgesL.ex {H H' : Hp} {p : Addr} {es : List (Int × Int × Int)} (e : Ex H H') (h : EdgesL H p es) : EdgesL H' p es := by
  obtain ⟨as, h1, h2⟩ := h
  exact ⟨as, e _ _ h1, edges_ts (Tu.of e) h2⟩
def hiE (r : Rule) : List (Int × Int × Int) := match r.hi with | some h => [(r.s, r.e, h)] | none => []
def loE (r : Rule) : List (Int × Int × Int) := match r.lo with | some l => [(r.e, r.s, 0 - l)] | none => []
theorem edges_take {rs : List Rule} {i : Nat} {r : Rule} (h : rs[i]? = some r) : edgesM (rs.take (i + 1)) = (edgesM (rs.take i) ++ hiE r) ++ loE r := by
  unfold edgesM
  rw [List.take_add_one, h, List.flatMap_append, List.append_assoc]
  show _ ++ (r.edges ++ []) = _
  rw [List.append_nil]
  rfl
abbrev s_edges_of : Stmt := topS 15
theorem sc_edges_of : FnScope ["net", "found", "at", "rule", "start", "end", "low", "high"] ["net"] (defScope s_edges_of) := ⟨rfl, rfl, rfl, by decide +kernel, rfl, by decide +kernel, by decide +kernel⟩
def spEdges : Sp := fun vs H Q _ => ∃ (a : Addr) (n : Nat) (rs : List Rule), vs = [.ref a] ∧ NetAt H a n rs ∧ NetOk n rs ∧ ∀ p H', Ex H H' → EdgesL H' p (edgesM rs) → Q (.ref p) H'
theorem ok_edges_of (F : Has K mg "edges_of" s_edges_of ["net"]) (B : Gm mg) : C8.Cal P w K mg base 1 "edges_of" spEdges [] := by
  refine cal_of F sc_edges_of (fun vs H Q E h => ?_) (fun f cdv A outer s H vs Q E hr h => ?_)
  · obtain ⟨a, n, rs, rfl, _⟩ := h
    rfl
  · obtain ⟨a, n, rs, rfl, ⟨R, as, hA, hR, hP⟩, ho, q⟩ := h
    have r5 := ho.r5
    have hl := pair_len hP
    refine ⟨_, (pss_cons (ps_set (i := 1) sc_edges_of.nd rfl (by first | exact .inl rfl | exact .inr rfl) (pe_lst pa_nil))
  (pss_cons (ps_for PassesOwn.never rfl (pi_enumT (by rfl) B.enumerate (pa_cons (pe_ix ix_tup (pv 0) pe_int (fun _ _ => rfl)) pa_nil)) (pg_tup (by rfl) (pgs_cons (pg_name (i := 2) sc_edges_of.nd rfl (by first | exact .inl rfl | exact .inr rfl)) (pgs_cons (pg_name (i := 3) sc_edges_of.nd rfl (by first | exact .inl rfl | exact .inr rfl)) pgs_nil))) (pss_cons (ps_asg (pv 3) (pg_tup (by rfl) (pgs_cons (pg_name (i := 4) sc_edges_of.nd rfl (by first | exact .inl rfl | exact .inr rfl)) (pgs_cons (pg_name (i := 5) sc_edges_of.nd rfl (by first | exact .inl rfl | exact .inr rfl)) (pgs_cons (pg_name (i := 6) sc_edges_of.nd rfl (by first | exact .inl rfl | exact .inr rfl)) (pgs_cons (pg_name (i := 7) sc_edges_of.nd rfl (by first | exact .inl rfl | exact .inr rfl)) pgs_nil))))))
  (Evl.pss_cut (ps_if (pt_cmpR op_notN (pv 7) pe_non (nomark _)) (pss_one (ps_expr (pe_bm PySem.F.plainAttrs_list PySem.F.slot_list_append PySem.F.type_list_append mt_append (pv 1) (pa_cons (pe_tup (pa_cons (pe_tup (pa_cons (pv 2) (pa_cons pe_str pa_nil))) (pa_cons (pv 4) (pa_cons (pv 5) (pa_cons (pv 7) pa_nil))))) pa_nil)))) pss_nil)
  (pss_one (ps_if (pt_cmpR op_notN (pv 6) pe_non (nomark _)) (pss_one (ps_expr (pe_bm PySem.F.plainAttrs_list PySem.F.slot_list_append PySem.F.type_list_append mt_append (pv 1) (pa_cons (pe_tup (pa_cons (pe_tup (pa_cons (pv 2) (pa_cons pe_str pa_nil))) (pa_cons (pv 5) (pa_cons (pv 4) (pa_cons (pe_op op_sub pe_int (pv 6)) pa_nil))))) pa_nil)))) pss_nil)))))
  (pss_one (ps_ret (pv 1))))), ?_⟩
    refine q_asgL (el_lst ea_nil (by decide)) fun l H1 nl e1 hl1 => ?_
    refine ev_ixT (ev_var rfl) ev_c (e1 _ _ hA) rfl H1 (Ex.refl H1) _ fun H2 e2 => ?_
    have e02 := e1.trans e2
    refine ⟨R, as.map V.ref, rfl, SqT.of (e02 _ _ hR), for_enumT (xs := as.map V.ref) (fun i σ' H' => ∃ (bs : List Addr) (o2 o3 o4 o5 o6 o7 : Option V), σ' = [some (.ref a), some (.ref l), o2, o3, o4, o5, o6, o7] ∧ Ex H H' ∧ H' l = some (.lst (bs.map V.ref)) ∧ Paired (EdgeAt H') bs (edgesM (rs.take i)))
      ⟨[], _, _, _, _, _, _, rfl, e02, e2 _ _ hl1, .nil⟩ (fun i σ' H' _ hp => let ⟨_, _, _, _, _, _, _, _, e, _⟩ := hp; SqT.of (e _ _ hR)) (fun i x T σ' H' hx hp nT => ?_) fun σ' H' hp => ?_⟩
    · obtain ⟨bs, o2, o3, o4, o5, o6, o7, rfl, e3, hl3, hE⟩ := hp
      obtain ⟨c, hc, rfl⟩ := ref_at hx
      obtain ⟨r, hr2, hRl⟩ := pair_at2 hP hc
      have hi5 : i < rs.length := (List.getElem?_eq_some_iff.mp hr2).1
      have hlen : ∀ k, bs.length = (edgesM (rs.take k)).length → bs.length ≤ 2 * rs.length := fun k e => by
        rw [e]
        have h1 := edgesM_len (rs.take k)
        have h2 : (rs.take k).length ≤ rs.length := by rw [List.length_take]; omega
        omega
      have lb := hlen i (pair_len hE)
      generalize hH4 : upd H' T (.tup [.int (i : Nat), .ref c]) = H4
      have e4 : Ex H' H4 := hH4 ▸ Ex.new nT
      have hT : H4 T = some (.tup [.int (i : Nat), .ref c]) := hH4 ▸ upd_same
      refine ⟨T, _, rfl, SqT.of hT, rfl, _, _, rfl, _, _, rfl, rfl, ?_⟩
      have hC4 := e4 _ _ (e3 _ _ hRl)
      refine q_unp4 (ev_var rfl) hC4 fun H5 e5 => ?_
      have e45 := e4.trans e5
      refine q_cut (M := fun σ2 H6 => σ2 = [some (.ref a), some (.ref l), some (.int (i : Nat)), some (.ref c), some (.int r.s), some (.int r.e), some (optV r.lo), some (optV r.hi)] ∧ ∃ bs : List Addr, Ex H H6 ∧ H6 l = some (.lst (bs.map V.ref)) ∧ Paired (EdgeAt H6) bs (edgesM (rs.take i) ++ hiE r)) ?_ fun σ2 H6 h6 => ?_
      · cases eh : r.hi with
        | none =>
          refine s_no (et_is (et_test (ev_notN (x := .non) (ev_var (by rw [show optV none = V.non from rfl]; rfl)))) rfl) fun H6 e6 => ⟨by rw [← eh]; rfl, bs, e3.trans (e45.trans e6), (e45.trans e6) _ _ hl3, ?_⟩
          unfold hiE
          rw [eh, List.append_nil]
          exact edges_ts (Tu.of (e45.trans e6)) hE
        | some z =>
          refine s_yes (et_is (et_test (ev_notN (x := .int z) (ev_var (by rw [show optV (some z) = V.int z from rfl]; rfl)))) rfl) fun H6 e6 => ?_
          refine s_appP ((e45.trans e6) _ _ hl3) (ev_var rfl) (evp_tup4 (eu_tup (ea_cons (ev_var rfl) (ea_cons ev_c ea_nil)) (show 2 ≤ 100000 by decide)) (ev_var rfl) (ev_var rfl) (ev_var rfl)) (by rw [List.length_map]; omega) fun v H7 e7 hv => ?_
          obtain ⟨p, g, rfl, hp, hg⟩ := hv
          have e37 := e45.trans (e6.trans e7)
          have t8 : Tu H7 (upd H7 l (.lst (bs.map V.ref ++ [.ref p]))) := Tu.put (e37 _ _ hl3) fun _ z => nomatch z
          refine ⟨by rw [← eh]; rfl, bs ++ [p], (e3.trans e37).mut nl, by rw [upd_same, List.map_append]; rfl, ?_⟩
          unfold hiE
          rw [eh]
          exact pair_snoc (edges_ts t8 (edges_ts (Tu.of e37) hE)) ⟨g, t8 _ _ hp⟩
      · obtain ⟨rfl, bs2, e6, hl6, hE6⟩ := h6
        have lb2 : bs2.length ≤ 2 * rs.length + 1 := by
          rw [pair_len hE6, List.length_append]
          have h1 := edgesM_len (rs.take i)
          have h2 : (rs.take i).length ≤ rs.length := by rw [List.length_take]; omega
          have h3 : (hiE r).length ≤ 1 := by unfold hiE; cases r.hi <;> simp
          omega
        cases eh : r.lo with
        | none =>
          refine s_no (et_is (et_test (ev_notN (x := .non) (ev_var (by rw [show optV none = V.non from rfl]; rfl)))) rfl) fun H7 e7 => ⟨bs2, _, _, _, _, _, _, rfl, e6.trans e7, e7 _ _ hl6, ?_⟩
          rw [edges_take hr2]
          unfold loE
          rw [eh, List.append_nil]
          exact edges_ts (Tu.of e7) hE6
        | some z =>
          refine s_yes (et_is (et_test (ev_notN (x := .int z) (ev_var (by rw [show optV (some z) = V.int z from rfl]; rfl)))) rfl) fun H7 e7 => ?_
          refine s_appP (e7 _ _ hl6) (ev_var rfl) (evp_tup4 (eu_tup (ea_cons (ev_var rfl) (ea_cons ev_c ea_nil)) (show 2 ≤ 100000 by decide)) (ev_var rfl) (ev_var rfl) (ev_op ev_c (ev_var (v := .int z) rfl) rv_I0)) (by rw [List.length_map]; omega) fun v H8 e8 hv => ?_
          obtain ⟨p, g, rfl, hp, hg⟩ := hv
          have e78 := e7.trans e8
          have t8 : Tu H8 (upd H8 l (.lst (bs2.map V.ref ++ [.ref p]))) := Tu.put (e78 _ _ hl6) fun _ z => nomatch z
          refine ⟨bs2 ++ [p], _, _, _, _, _, _, rfl, (e6.trans e78).mut nl, by rw [upd_same, List.map_append]; rfl, ?_⟩
          rw [edges_take hr2]
          unfold loE
          rw [eh]
          exact pair_snoc (edges_ts t8 (edges_ts (Tu.of e78) hE6)) ⟨g, t8 _ _ hp⟩
    · obtain ⟨bs, o2, o3, o4, o5, o6, o7, rfl, e3, hl3, hE⟩ := hp
      refine s_ret (ev_var rfl) fun H4 e4 => q _ H4 (e3.trans e4) ⟨bs, e4 _ _ hl3, ?_⟩
      rw [List.length_map, hl, List.take_length] at hE
      exact edges_ts (Tu.of e4) hE
end
end Abl
namespace Abl
open PySem PySem.Spec PyProof.Rows L2
open Evl (Ex Ev EvT EvA EvL EvU EvO ev_var ev_c ev_op ev_is et_is ev_andV ev_orV ev_notV et_and et_or et_not et_B et_test rv_I0 rv_eq rv_ne ea_nil ea_cons s_ret s_retU s_if s_when q_when q_asg q_asgL ev_if RetV eu_tup el_lst ev_inU ev_un ru_neg eo_none eo_some el_sl ev_opUU ev_len q_forR1 q_forT rv_isL q_while s_while s_appU q_appU q_cut)
section
variable {P : Program} {w : World} {K : PySem.W.Frag} {mg : Str → Option Value} {base : Heap}
abbrev s_longer_walks : Stmt := topS 19
theorem sc_longer_walks : FnScope ["net", "walks", "found", "start", "here", "length", "walk", "edge", "near", "far", "weight"] ["net", "walks"] (defScope s_longer_walks) := ⟨rfl, rfl, rfl, by decide +kernel, rfl, by decide +kernel, by decide +kernel⟩
def spLonger : Sp := fun vs H Q _ => ∃ (a d : Addr) (n k : Nat) (rs : List Rule) (kvs : List (List Key × V)) (m : Wk), vs = [.ref a, .ref d] ∧ NetAt H a n rs ∧ NetOk n rs ∧ H d = some (.dT kvs) ∧ Wks k H kvs m ∧ k ≤ 100 ∧ m.length ≤ 5000 ∧
  ∀ p H' kvs', Ex H H' → H' p = some (.dT kvs') → H p = none → Wks (k + 1) H' kvs' (longerM (edgesM rs) m) → Q (.ref p) H'
theorem take_fold {α β : Type} (f : β → α → β) (b : β) (l : List α) {i : Nat} {x : α} (h : l[i]? = some x) : (l.take (i + 1)).foldl f b = f ((l.take i).foldl f b) x := by
  rw [List.take_add_one, h, List.foldl_append]
  rfl
theorem better_eq {n : Nat} {H : Hp} {kvs : List (List Key × V)} {m : Wk} (h : Wks n H kvs m) (k : Ky) : (valV kvs (kk k)).isSome = (getW m k).isSome := by
  cases e : getW m k with
  | none => rw [wks_none h e]; rfl
  | some l =>
    obtain ⟨v, hv, _⟩ := wks_some h e
    rw [hv]
    rfl
theorem ok_longer_walks (F : Has K mg "longer_walks" s_longer_walks ["net", "walks"]) (B : Gm mg) (G_edges_of : C8.Cal P w K mg base 1 "edges_of" spEdges []) : C8.Cal P w K mg base 2 "longer_walks" spLonger [] := by
  refine cal_of F sc_longer_walks (fun vs H Q E h => ?_) (fun f cdv A outer s H vs Q E hr h => ?_)
  · obtain ⟨a, d, n, k, rs, kvs, m, rfl, _⟩ := h
    rfl
  · obtain ⟨a, d, n, k, rs, kvs, m, rfl, hN, ho, hD, hW, hk, hm, q⟩ := h
    have r5 := ho.r5
    have hlW := pair_len hW
    have hes : (edgesM rs).length ≤ 10 := Nat.le_trans (edgesM_len rs) (by omega)
    refine ⟨_, (pss_cons (ps_set (i := 2) sc_longer_walks.nd rfl (by first | exact .inl rfl | exact .inr rfl) pe_dnewT)
  (pss_cons (ps_lock (ps_for PassesOwn.never rfl (pi_keys (pv 1)) (pg_tup (by rfl) (pgs_cons (pg_name (i := 3) sc_longer_walks.nd rfl (by first | exact .inl rfl | exact .inr rfl)) (pgs_cons (pg_name (i := 4) sc_longer_walks.nd rfl (by first | exact .inl rfl | exact .inr rfl)) pgs_nil))) (pss_cons (ps_asg (pe_dget (hu_of hr) (pv 1) (pe_tup (pa_cons (pv 3) (pa_cons (pv 4) pa_nil))) (fun _ _ => rfl)) (pg_tup (by rfl) (pgs_cons (pg_name (i := 5) sc_longer_walks.nd rfl (by first | exact .inl rfl | exact .inr rfl)) (pgs_cons (pg_name (i := 6) sc_longer_walks.nd rfl (by first | exact .inl rfl | exact .inr rfl)) pgs_nil))))
  (pss_one (ps_for PassesOwn.never rfl (pi_list (C8.pe_c G_edges_of hr (by decide) (by rfl) (pa_cons (pv 0) pa_nil))) (pg_tup (by rfl) (pgs_cons (pg_name (i := 7) sc_longer_walks.nd rfl (by first | exact .inl rfl | exact .inr rfl)) (pgs_cons (pg_name (i := 8) sc_longer_walks.nd rfl (by first | exact .inl rfl | exact .inr rfl)) (pgs_cons (pg_name (i := 9) sc_longer_walks.nd rfl (by first | exact .inl rfl | exact .inr rfl)) (pgs_cons (pg_name (i := 10) sc_longer_walks.nd rfl (by first | exact .inl rfl | exact .inr rfl)) pgs_nil))))) (pss_one (ps_if (PW.pt (pw_and (pt_cmpR op_eq (pv 8) (pv 4) (nomark _)) (pw_and1 (PW.pt (pw_or (pt_cmp (pc_dnotin (hu_of hr) (pe_tup (pa_cons (pv 3) (pa_cons (pv 9) pa_nil))) (pv 2))) (pw_or1 (pt_cmpR op_lt (pe_op op_add (pv 5) (pv 10)) (pe_ix ix_tup (pe_dget (hu_of hr) (pv 2) (pe_tup (pa_cons (pv 3) (pa_cons (pv 9) pa_nil))) (fun _ _ => rfl)) pe_int (fun _ _ => rfl)) (nomark _)))))))) (pss_one (ps_dput (hu_of hr) (pv 2) (pe_tup (pa_cons (pv 3) (pa_cons (pv 9) pa_nil))) (pe_tup (pa_cons (pe_op op_add (pv 5) (pv 10)) (pa_cons (pe_op op_catA (pv 6) (pe_tup (pa_cons (pv 7) pa_nil))) pa_nil))) rfl)) pss_nil)))))))
  (pss_one (ps_ret (pv 2))))), ?_⟩
    refine q_asgD fun fd H1 nf e1 hf1 => ?_
    have hD1 := e1 _ _ hD
    have nfd : fd ≠ d := fun z => by rw [z, hD] at nf; cases nf
    refine ⟨d, .dT kvs, hD1, trivial, fun od => ?_⟩
    -- locked
    generalize hHl : upd H1 d (.frz od (.dT kvs)) = Hl
    have hDl : Hl d = some (.frz od (.dT kvs)) := hHl ▸ upd_same
    have t1l : Tu H1 Hl := hHl ▸ Tu.put hD1 fun _ z => nomatch z
    have hfl : Hl fd = some (.dT []) := by
      rw [← hHl, upd_ne nfd]
      exact hf1
    have tl : Tu H Hl := (Tu.of e1).trans t1l
    have backEx : ∀ H', But fd Hl H' → Ex H (upd H' d (.dT kvs)) := fun H' b c o hc => by
      by_cases e : c = d
      · subst e
        rw [upd_same, ← hc, hD]
      · rw [upd_ne e]
        refine b c o (fun z => ?_) ?_
        · rw [z, nf] at hc
          cases hc
        · rw [← hHl, upd_ne e]
          exact e1 _ _ hc
    have tf : ∀ H', But fd Hl H' → Tu Hl H' := fun H' b => b.tu hfl fun _ z => nomatch z
    refine ⟨.ref d, rfl, d, od, rfl, .inr ⟨kvs, hDl, for_it walk_keysT (fun i σ' H' => ∃ (fk : List (List Key × V)) (o3 o4 o5 o6 o7 o8 o9 o10 : Option V), σ' = [some (.ref a), some (.ref d), some (.ref fd), o3, o4, o5, o6, o7, o8, o9, o10] ∧ But fd Hl H' ∧ H' fd = some (.dT fk) ∧ Wks (k + 1) H' fk ((m.take i).foldl (relaxAll (edgesM rs) m) []))
      ⟨[], _, _, _, _, _, _, _, _, rfl, But.refl _ _, hfl, .nil⟩ (fun i σ' H' _ hp => let ⟨_, _, _, _, _, _, _, _, _, _, b, _⟩ := hp; b _ _ (Ne.symm nfd) hDl) (fun i x σ' H' H'' hi hp hy => ?_) fun σ' H' hp => ?_⟩⟩
    · obtain ⟨fk, o3, o4, o5, o6, o7, o8, o9, o10, rfl, b2, hf2, hW2⟩ := hp
      obtain ⟨rfl, ky, v, qa, hky, rfl, hqa⟩ := hy
      obtain ⟨mq, hmq, hke, hwr⟩ := pair_at2 hW hky
      simp only at hke hwr
      subst hke
      obtain ⟨len, hlen⟩ := any_key (List.mem_of_getElem? hmq)
      obtain ⟨v2, hv2, hwr2⟩ := wks_some hW hlen
      have hD2 : H'' d = some (.frz od (.dT kvs)) := b2 _ _ (Ne.symm nfd) hDl
      obtain ⟨t, wa, xs, rfl, ht, hwa, hxs⟩ := hwr2.ts (tl.trans (tf _ b2))
      rw [kk_map] at hqa
      have htake := take_fold (relaxAll (edgesM rs) m) [] m hmq
      generalize hf0 : (m.take i).foldl (relaxAll (edgesM rs) m) [] = f0 at hW2 htake
      have len0 : f0.length ≤ i * 10 := by
        rw [← hf0]
        have h1 := longerL_len (edgesM rs) m (m.take i) []
        have h2 : (m.take i).length ≤ i := by rw [List.length_take]; omega
        have h3 : (m.take i).length * (edgesM rs).length ≤ i * 10 := Nat.mul_le_mul h2 hes
        simp only [List.length_nil] at h1
        omega
      have him : i < 5000 := by
        have := (List.getElem?_eq_some_iff.mp hmq).1
        omega
      -- start, here = the key
      refine ⟨qa, _, rfl, SqT.of hqa, rfl, _, _, rfl, _, _, rfl, rfl, ?_⟩
      -- length, walk = walks[start, here]
      refine q_unp2 (ev_dgetU (k := kk mq.1) (ev_var rfl) (eu_tup (ea_cons (ev_var rfl) (ea_cons (ev_var rfl) ea_nil)) (show 2 ≤ 100000 by decide)) (.inr ⟨od, hD2⟩) hv2) ht fun H3 e3 => ?_
      have b3 : But fd Hl H3 := b2.trans (But.of e3)
      -- the edges
      refine ⟨_, rfl, a, n, rs, rfl, hN.ts (tl.trans (tf _ b3)), ho, fun p H4 e4 hE => ?_⟩
      obtain ⟨as, hp, hEs⟩ := hE
      have b4 : But fd Hl H4 := b3.trans (But.of e4)
      have hf4 := e4 _ _ (e3 _ _ hf2)
      have npf : p ≠ fd := ne_of hp hf4 fun z => nomatch z
      have tf4 : ∀ H', But fd H4 H' → Tu H4 H' := fun H' b => b.tu hf4 fun _ z => nomatch z
      refine ⟨p, rfl, ⟨_, SqL.of hp⟩, for_list (xs := as.map V.ref) (fun j σ' H' => ∃ (fk : List (List Key × V)) (o7 o8 o9 o10 : Option V), σ' = [some (.ref a), some (.ref d), some (.ref fd), some (.int mq.1.1), some (.int mq.1.2), some (.int len), some (.ref wa), o7, o8, o9, o10] ∧ But fd H4 H' ∧ H' fd = some (.dT fk) ∧ Wks (k + 1) H' fk (((edgesM rs).take j).foldl (relaxM mq.1 len) f0))
        ⟨fk, _, _, _, _, rfl, But.refl _ _, hf4, wks_ts ((Tu.of e3).trans (Tu.of e4)) hW2⟩ (fun j σ' H' _ hp2 => let ⟨_, _, _, _, _, _, b, _⟩ := hp2; SqL.of (b _ _ npf hp)) (fun j x σ' H' hj hp2 => ?_) fun σ' H' hp2 => ?_⟩
      · obtain ⟨fk, o7, o8, o9, o10, rfl, b5, hf5, hW5⟩ := hp2
        obtain ⟨c, hc, rfl⟩ := ref_at hj
        obtain ⟨ed, hed, g, hEc⟩ := pair_at2 hEs hc
        have htk := take_fold (relaxM mq.1 len) f0 (edgesM rs) hed
        have lenj : (((edgesM rs).take j).foldl (relaxM mq.1 len) f0).length ≤ f0.length + 10 := by
          have h1 := relaxes_len mq.1 len ((edgesM rs).take j) f0
          have h2 : ((edgesM rs).take j).length ≤ (edgesM rs).length := by rw [List.length_take]; omega
          omega
        generalize hfj : ((edgesM rs).take j).foldl (relaxM mq.1 len) f0 = fj at hW5 htk lenj
        have lf := pair_len hW5
        refine ⟨c, _, rfl, SqT.of (tf4 _ b5 _ _ hEc), rfl, _, _, rfl, _, _, rfl, _, _, rfl, _, _, rfl, rfl, ?_⟩
        have kd : (kk (mq.1.1, ed.2.1)).map kV = [V.int mq.1.1, V.int ed.2.1] := rfl
        refine s_when (b := decide (ed.1 = mq.1.2) && betterM (getW fj (mq.1.1, ed.2.1)) (len + ed.2.2)) (et_and (et_is (et_test (ev_op (ev_var rfl) (ev_var rfl) (rv_eq rfl))) (dec_i _ _)) fun _ => ?_) (fun z H6 e6 => ?_) fun z H6 e6 => ?_
        · cases hg : getW fj (mq.1.1, ed.2.1) with
          | none =>
            refine et_is (et_or (b := false) (et_B (ev_dninU (k := kk (mq.1.1, ed.2.1)) (eu_tup (ea_cons (ev_var rfl) (ea_cons (ev_var rfl) ea_nil)) (show 2 ≤ 100000 by decide)) (ev_var rfl) (.inl hf5))) fun y => ?_) ?_
            · rw [wks_none hW5 hg] at y
              cases y
            · rw [wks_none hW5 hg]
              rfl
          | some l =>
            obtain ⟨v3, hv3, t3, w3, xs3, rfl, ht3, _⟩ := wks_some hW5 hg
            refine et_is (et_or (et_B (ev_dninU (k := kk (mq.1.1, ed.2.1)) (eu_tup (ea_cons (ev_var rfl) (ea_cons (ev_var rfl) ea_nil)) (show 2 ≤ 100000 by decide)) (ev_var rfl) (.inl hf5))) fun y => et_test (ev_op (ev_op (ev_var rfl) (ev_var rfl) rv_I0) (ev_ixT (ev_dgetU (k := kk (mq.1.1, ed.2.1)) (ev_var rfl) (eu_tup (ea_cons (ev_var rfl) (ea_cons (ev_var rfl) ea_nil)) (show 2 ≤ 100000 by decide)) (.inl hf5) hv3) ev_c ht3 rfl) rv_I0)) ?_
            rw [hv3]
            rfl
        · refine s_dputU (k := kk (mq.1.1, ed.2.1)) (e6 _ _ hf5) (evp_tup2 (ev_op (ev_var rfl) (ev_var rfl) rv_I0) (evp_cat (ev_var rfl) (eu_tup (ea_cons (ev_var rfl) ea_nil) (show 1 ≤ 100000 by decide)) (e6 _ _ (tf4 _ b5 _ _ (e4 _ _ (e3 _ _ hwa)))) (by simp) (by show xs.length + 1 ≤ 100000; omega))) (ev_var rfl) (eu_tup (ea_cons (ev_var rfl) (ea_cons (ev_var rfl) ea_nil)) (show 2 ≤ 100000 by decide)) (by omega) fun v H7 H8 e7 hv e8 => ?_
          obtain ⟨t3, y3, H9, rfl, ht3, e9, w3, rfl, hw3⟩ := hv
          have e68 := e6.trans (e7.trans e8)
          have hf8 := e68 _ _ hf5
          have t9 : Tu H8 (upd H8 fd (.dT (putK fk (kk (mq.1.1, ed.2.1)) (.ref t3)))) := Tu.put hf8 fun _ z => nomatch z
          refine ⟨_, _, _, _, _, rfl, (b5.trans (But.of e68)).put, upd_same, ?_⟩
          rw [htk]
          unfold relaxM
          rw [if_pos z]
          refine wks_put (wks_ts ((Tu.of e68).trans t9) hW5) ⟨t3, w3, _, rfl, t9 _ _ (e8 _ _ ht3), t9 _ _ (e8 _ _ (e9 _ _ hw3)), ?_⟩
          rw [List.length_append]
          show xs.length + 1 ≤ k + 1
          omega
        · refine ⟨fk, _, _, _, _, rfl, b5.trans (But.of e6), e6 _ _ hf5, ?_⟩
          rw [htk]
          unfold relaxM
          rw [if_neg (by rw [z]; decide)]
          exact wks_ts (Tu.of e6) hW5
      · obtain ⟨fk, o7, o8, o9, o10, rfl, b5, hf5, hW5⟩ := hp2
        refine ⟨fk, _, _, _, _, _, _, _, _, rfl, b4.trans b5, hf5, ?_⟩
        rw [htake]
        unfold relaxAll
        rw [hlen]
        rw [List.length_map, pair_len hEs, List.take_length] at hW5
        exact hW5
    · obtain ⟨fk, o3, o4, o5, o6, o7, o8, o9, o10, rfl, b2, hf2, hW2⟩ := hp
      refine ⟨b2 _ _ (Ne.symm nfd) hDl, ?_⟩
      have hfu : (upd H' d (.dT kvs)) fd = some (.dT fk) := by
        rw [upd_ne nfd]
        exact hf2
      have tu : Tu H' (upd H' d (.dT kvs)) := Tu.put (b2 _ _ (Ne.symm nfd) hDl) fun _ z => nomatch z
      refine s_ret (ev_var rfl) fun H5 e5 => q fd H5 fk ((backEx H' b2).trans e5) (e5 _ _ hfu) nf ?_
      rw [hlW, List.take_length] at hW2
      exact wks_ts (tu.trans (Tu.of e5)) hW2
end
end Abl
namespace Abl
open PySem PySem.Spec PyProof.Rows L2
open Evl (Ex Ev EvT EvA EvL EvU EvO ev_var ev_c ev_op ev_is et_is ev_andV ev_orV ev_notV et_and et_or et_not et_B et_test rv_I0 rv_eq rv_ne ea_nil ea_cons s_ret s_retU s_if s_when q_when q_asg q_asgL ev_if RetV eu_tup el_lst ev_inU ev_un ru_neg eo_none eo_some el_sl ev_opUU ev_len q_forR1 s_forR1 q_forT rv_isL q_while s_while s_appU q_appU q_cut)
section
variable {P : Program} {w : World} {K : PySem.W.Frag} {mg : Str → Option Value} {base : Heap}
abbrev s_with_walk : Stmt := topS 22
theorem sc_with_walk : FnScope ["best", "pair", "value", "found", "key"] ["best", "pair", "value"] (defScope s_with_walk) := ⟨rfl, rfl, rfl, by decide +kernel, rfl, by decide +kernel, by decide +kernel⟩
def spWith : Sp := fun vs H Q _ => ∃ (d b : Addr) (v : V) (k : Nat) (key : Ky) (l : Int) (kvs : List (List Key × V)) (m : Wk), vs = [.ref d, .ref b, v] ∧ H d = some (.dT kvs) ∧ Wks k H kvs m ∧ H b = some (.tup ((kk key).map kV)) ∧ Wr k H v l ∧ m.length ≤ 90000 ∧
  ∀ p H' kvs', Ex H H' → H' p = some (.dT kvs') → Wks k H' kvs' (withM m key l) → Q (.ref p) H'
theorem copy_len (m l : Wk) : (l.foldl (copyOne m) []).length ≤ l.length := copyL_len m l
theorem ok_with_walk (F : Has K mg "with_walk" s_with_walk ["best", "pair", "value"]) (B : Gm mg) : C8.Cal P w K mg base 1 "with_walk" spWith [] := by
  refine cal_of F sc_with_walk (fun vs H Q E h => ?_) (fun f cdv A outer s H vs Q E hr h => ?_)
  · obtain ⟨d, b, v, k, key, l, kvs, m, rfl, _⟩ := h
    rfl
  · obtain ⟨d, b, v, k, key, l, kvs, m, rfl, hD, hW, hB, hV, hm, q⟩ := h
    have hlW := pair_len hW
    refine ⟨_, (pss_cons (ps_lock (ps_setDcT (i := 3) (hu_of hr) (sw_dict rfl rfl rfl (by decide +kernel)) (own := [("key", 4)]) rfl sc_with_walk.nd rfl rfl (pi_keys (pv 0)) (blkOk_by (N := ["best", "pair", "value", "found", "key"]) (sc := (defScope s_with_walk)) (by decide +kernel)) (fun _ _ _ _ _ => (pg_name (i := 4) sc_with_walk.nd rfl (by first | exact .inl rfl | exact .inr rfl))) (fun _ _ _ _ _ => (pv 4)) (fun _ _ _ _ _ => (pe_dget (hu_of hr) (pv 0) (pv 4) (fun _ _ => rfl)))))
  (pss_cons (ps_dput (hu_of hr) (pv 3) (pv 1) (pv 2) rfl)
  (pss_one (ps_ret (pv 3))))), ?_⟩
    refine ⟨d, .dT kvs, hD, trivial, fun od => ?_⟩
    generalize hHl : upd H d (.frz od (.dT kvs)) = Hl
    have hDl : Hl d = some (.frz od (.dT kvs)) := hHl ▸ upd_same
    have tl : Tu H Hl := hHl ▸ Tu.put hD fun _ z => nomatch z
    refine ⟨.ref d, rfl, d, od, rfl, .inr ⟨kvs, hDl, fun Dl nDl => ?_⟩⟩
    have nd : Dl ≠ d := fun z => by rw [z, hDl] at nDl; cases nDl
    have tf : ∀ {H'}, But Dl Hl H' → Tu Hl H' := fun {H'} bt c xs hc => bt c _ (ne_of_none hc nDl) hc
    refine dct_keys (ks := kvs) (fun i H' => But Dl Hl H' ∧ ∃ acc : List (List Key × V), H' Dl = some (.dT acc) ∧ Wks k H' acc ((m.take i).foldl (copyOne m) [])) ⟨(But.refl _ _).put, [], upd_same, .nil⟩ (fun i H' _ hp => hp.1 _ _ nd.symm hDl) (fun i x c H' hi hc hp => ?_) fun H' hp => ?_
    · obtain ⟨bt, acc, hA, hWa⟩ := hp
      obtain ⟨mq, hmq, hke, _⟩ := pair_at2 hW hi
      obtain ⟨len, hlen⟩ := any_key (List.mem_of_getElem? hmq)
      obtain ⟨v2, hv2, hwr2⟩ := wks_some hW hlen
      have htk := take_fold (copyOne m) [] m hmq
      have hla := pair_len hWa
      have hcl := copy_len m (m.take i)
      have hti : (m.take i).length ≤ m.length := by rw [List.length_take]; omega
      refine ⟨rfl, .ref c, rfl, ?_⟩
      refine ev_dget (k := x.1) (v := v2) (ev_var rfl) (ev_var rfl) hc (.inr ⟨od, bt _ _ nd.symm hDl⟩) (by rw [hke]; exact hv2) H' (Ex.refl H') _ fun H4 e4 => ?_
      have hA4 := e4 _ _ hA
      have t5 : Tu H4 (upd H4 Dl (.dT (putK acc x.1 v2))) := Tu.put hA4 fun _ z => nomatch z
      refine ⟨acc, x.1, c, rfl, e4 _ _ hc, hA4, Evl.sz_lt (by omega), (bt.trans (But.of e4)).put, _, upd_same, ?_⟩
      rw [htk, hke]
      unfold copyOne
      rw [hlen]
      exact wks_put (wks_ts ((Tu.of e4).trans (hke ▸ t5)) hWa) (hwr2.ts ((tl.trans (tf bt)).trans ((Tu.of e4).trans (hke ▸ t5))))
    · obtain ⟨bt, acc, hA, hWa⟩ := hp
      rw [hlW, List.take_length] at hWa
      have hdl' := bt _ _ nd.symm hDl
      refine ⟨hdl', ?_⟩
      have ex1 : Ex H (upd H' d (.dT kvs)) := fun c o hc => by
        by_cases e : c = d
        · subst e
          rw [upd_same, ← hc, hD]
        · rw [upd_ne e]
          have hcl : Hl c = some o := by
            rw [← hHl, upd_ne e]
            exact hc
          exact bt c o (ne_of_none hcl nDl) hcl
      have hAu : (upd H' d (.dT kvs)) Dl = some (.dT acc) := by
        rw [upd_ne nd]
        exact hA
      have tu : Tu H' (upd H' d (.dT kvs)) := Tu.put hdl' fun _ z => nomatch z
      have hl2 := pair_len hWa
      have hl3 := copyL_len m m
      have hl4 : acc.length ≤ m.length := by rw [hl2]; exact hl3
      refine q_dput (k := kk key) (v := v) hAu (ev_var rfl) (ev_var rfl) (ev_var rfl) (ex1 _ _ hB) (by omega) fun H5 e5 => ?_
      have t6 : Tu H5 (upd H5 Dl (.dT (putK acc (kk key) v))) := Tu.put (e5 _ _ hAu) fun _ z => nomatch z
      have noD : H Dl = none := by
        rw [← hHl, upd_ne nd] at nDl
        exact nDl
      refine s_ret (ev_var rfl) fun H7 e7 => q Dl H7 _ (((ex1.trans e5).mut noD).trans e7) (e7 _ _ upd_same) ?_
      refine wks_ts (Tu.of e7) (wks_put (wks_ts (tu.trans ((Tu.of e5).trans t6)) hWa) (hV.ts ((Tu.of (ex1.trans e5)).trans t6)))
/-- {(e, e): (0, ()) for e in range(net[0])} -/
theorem q_diag {σ : L2.St} {H : Hp} {D : Ends} {tz : TS} {a : Addr} {n : Nat} {rs : List Rule} {i j : Nat} {ta : TE} (hN : NetAt H a n rs) (hn : n ≤ 4) (h1 : ∀ H1, Ex H H1 → Ev ta σ H1 (.ref a)) (hw : ∀ x, wipe ((wipe σ [j]).set j (some x)) [j] = wipe σ [j]) (hj : ∀ x, ((wipe σ [j]).set j (some x))[j]? = some (some x))
    (k : ∀ p H1 kvs, Ex H H1 → H1 p = some (.dT kvs) → Wks 0 H1 kvs (diagM n) → tz D (σ.set i (some (.ref p))) H1) :
    tSeq (tAsg (tDcT (iRng1 (tCons (tOp (rIxT K) ta (tC (.int 0))) tNil)) (gName j) (tTup (tCons (tVar j) (tCons (tVar j) tNil))) (tTup (tCons (tC (.int 0)) (tCons (tTup tNil) tNil))) [j]) (gName i)) tz D σ H := by
  obtain ⟨R, as, hA, hR, hP⟩ := hN
  have hev : EvA (tCons (tOp (rIxT K) ta (tC (.int 0))) tNil) σ H [.int (n : Int)] := ea_cons (ev_ixT (h1 H (Ex.refl H)) ev_c hA rfl) ea_nil
  unfold tSeq tAsg tDcT iRng1
  refine hev H (Ex.refl H) _ fun H1 e1 => ⟨(n : Int), rfl, by omega, by omega, fun Dl nD => ?_⟩
  have noD : H Dl = none := Evl.fresh_back e1 nD
  refine dct_range (n := (n : Int).toNat) (fun i H' => Ex H H' ∧ ∃ acc : List (List Key × V), H' Dl = some (.dT acc) ∧ Wks 0 H' acc (diagM i)) ⟨e1.trans (Evl.Ex.new nD), [], upd_same, .nil⟩ (fun c H' hc hp => ?_) fun H' hp => ?_
  · obtain ⟨e2, acc, hA2, hW⟩ := hp
    rw [Int.zero_add]
    refine ⟨hw _, ?_⟩
    refine eu_tup (ea_cons (ev_var (hj _)) (ea_cons (ev_var (hj _)) ea_nil)) (show 2 ≤ 100000 by decide) H' (Ex.refl H') _ fun kp H3 _ e3 hk => ?_
    refine evp_tup2 (R := fun v H' => ∃ w, v = .ref w ∧ H' w = some (.tup [])) ev_c (fun H4 e4 Q4 q4 => eu_tup ea_nil (by decide) H4 (Ex.refl H4) _ fun w H5 _ e5 hw5 => q4 _ H5 e5 ⟨w, rfl, hw5⟩) H3 (Ex.refl H3) _ fun v H6 e6 hv => ?_
    obtain ⟨t, y, H7, rfl, ht, e7, w7, rfl, hw7⟩ := hv
    have hA6 := e6 _ _ (e3 _ _ hA2)
    have hl := pair_len hW
    have hd := diag_len c
    have t8 : Tu H6 (upd H6 Dl (.dT (putK acc (kk ((c : Int), (c : Int))) (.ref t)))) := Tu.put hA6 fun _ z => nomatch z
    refine ⟨acc, kk ((c : Int), (c : Int)), kp, rfl, e6 _ _ hk, hA6, Evl.sz_lt (by omega), (e2.trans (e3.trans e6)).mut noD, _, upd_same, ?_⟩
    rw [diag_step]
    exact wks_put (wks_ts ((Tu.of (e3.trans e6)).trans t8) hW) ⟨t, w7, [], rfl, t8 _ _ ht, t8 _ _ (e7 _ _ hw7), Nat.le_refl _⟩
  · obtain ⟨e2, acc, hA2, hW⟩ := hp
    rw [Int.toNat_natCast] at hW
    exact k Dl H' acc e2 hA2 hW
def rLonger (es : List (Int × Int × Int)) (n k : Nat) (v : V) (H : Hp) : Prop := ∃ (p : Addr) (kvs : List (List Key × V)), v = .ref p ∧ H p = some (.dT kvs) ∧ Wks (k + 1) H kvs (walksM es n (k + 1))
theorem call_longer {σ : L2.St} {H : Hp} {t1 t2 : TE} {a d : Addr} {n k : Nat} {rs : List Rule} {kvs : List (List Key × V)} (h1 : Ev t1 σ H (.ref a)) (h2 : Ev t2 σ H (.ref d)) (hN : NetAt H a n rs) (ho : NetOk n rs) (hD : H d = some (.dT kvs)) (hW : Wks k H kvs (walksM (edgesM rs) n k)) (hk : k ≤ 3) :
    EvP (tCall spLonger [] C8.E0 (tCons t1 (tCons t2 tNil))) σ H (fun v H' => ∃ (p : Addr) (kvs : List (List Key × V)), v = .ref p ∧ H' p = some (.dT kvs) ∧ H p = none ∧ Wks (k + 1) H' kvs (walksM (edgesM rs) n (k + 1))) := by
  have hes : (edgesM rs).length ≤ 10 := Nat.le_trans (edgesM_len rs) (by have := ho.r5; omega)
  have hl := walks_len (edgesM rs) hes n ho.n4 k
  have hp : (10 : Nat) ^ k ≤ 10 ^ 3 := Nat.pow_le_pow_right (by decide) hk
  exact evp_call (ea_cons h1 (ea_cons h2 ea_nil)) fun H1 e1 Q q => ⟨a, d, n, k, rs, kvs, _, rfl, hN.ts (Tu.of e1), ho, e1 _ _ hD, wks_ts (Tu.of e1) hW, by omega, by omega, fun p H' kvs' e2 h3 h4 h5 => q _ H' e2 ⟨p, kvs', rfl, h3, Evl.fresh_back e1 h4, h5⟩⟩
theorem net_size {σ : L2.St} {H : Hp} {ta : TE} {a : Addr} {n : Nat} {rs : List Rule} (h1 : Ev ta σ H (.ref a)) (hN : NetAt H a n rs) : Ev (tOp (rIxT K) ta (tC (.int 0))) σ H (.int (n : Int)) := by
  obtain ⟨R, as, hA, hR, hP⟩ := hN
  exact ev_ixT h1 ev_c hA rfl
abbrev s_first_round : Stmt := topS 20
theorem sc_first_round : FnScope ["net", "event", "walks", "turn"] ["net"] (defScope s_first_round) := ⟨rfl, rfl, rfl, by decide +kernel, rfl, by decide +kernel, by decide +kernel⟩
def spRound : Sp := fun vs H Q _ => ∃ (a : Addr) (n : Nat) (rs : List Rule) (t : Int → Int), vs = [.ref a] ∧ NetAt H a n rs ∧ NetOk n rs ∧ (∀ r ∈ rs, r.keeps t) ∧ RetV .non H Q
theorem ok_first_round (F : Has K mg "first_round" s_first_round ["net"]) (B : Gm mg) (G_longer_walks : C8.Cal P w K mg base 2 "longer_walks" spLonger []) : C8.Cal P w K mg base 3 "first_round" spRound [] := by
  refine cal_of F sc_first_round (fun vs H Q E h => ?_) (fun f cdv A outer s H vs Q E hr h => ?_)
  · obtain ⟨a, n, rs, t, rfl, _⟩ := h
    rfl
  · obtain ⟨a, n, rs, t, rfl, hN, ho, hk, q⟩ := h
    have n4 := ho.n4
    refine ⟨_, (pss_cons (ps_setDcT (i := 2) (hu_of hr) (sw_dict rfl rfl rfl (by decide +kernel)) (own := [("event", 1)]) rfl sc_first_round.nd rfl rfl (pi_range1 (by rfl) B.range (pa_cons (pe_ix ix_tup (pv 0) pe_int (fun _ _ => rfl)) pa_nil)) (blkOk_by (N := ["net", "event", "walks", "turn"]) (sc := (defScope s_first_round)) (by decide +kernel)) (fun _ _ _ _ _ => (pg_name (i := 1) sc_first_round.nd rfl (by first | exact .inl rfl | exact .inr rfl))) (fun _ _ _ _ _ => (pe_tup (pa_cons (pv 1) (pa_cons (pv 1) pa_nil)))) (fun _ _ _ _ _ => (pe_tup (pa_cons pe_int (pa_cons (pe_tup pa_nil) pa_nil)))))
  (pss_cons (ps_for PassesOwn.never rfl (pi_range1 (by rfl) B.range (pa_cons (pe_ix ix_tup (pv 0) pe_int (fun _ _ => rfl)) pa_nil)) (pg_name (i := 3) sc_first_round.nd rfl (by first | exact .inl rfl | exact .inr rfl)) (pss_cons (ps_set (i := 2) sc_first_round.nd rfl (by first | exact .inl rfl | exact .inr rfl) (C8.pe_c G_longer_walks hr (by decide) (by rfl) (pa_cons (pv 0) (pa_cons (pv 2) pa_nil))))
  (pss_one (ps_for PassesOwn.never rfl (pi_range1 (by rfl) B.range (pa_cons (pe_ix ix_tup (pv 0) pe_int (fun _ _ => rfl)) pa_nil)) (pg_name (i := 1) sc_first_round.nd rfl (by first | exact .inl rfl | exact .inr rfl)) (pss_one (ps_if (PW.pt (pw_and (pt_cmp (pc_din (hu_of hr) (pe_tup (pa_cons (pv 1) (pa_cons (pv 1) pa_nil))) (pv 2))) (pw_and1 (pt_cmpR op_lt (pe_ix ix_tup (pe_dget (hu_of hr) (pv 2) (pe_tup (pa_cons (pv 1) (pa_cons (pv 1) pa_nil))) (fun _ _ => rfl)) pe_int (fun _ _ => rfl)) pe_int (nomark _))))) (pss_one (ps_ret (pe_ix ix_tup (pe_dget (hu_of hr) (pv 2) (pe_tup (pa_cons (pv 1) (pa_cons (pv 1) pa_nil))) (fun _ _ => rfl)) pe_int (fun _ _ => rfl)))) pss_nil))))))
  (pss_one (ps_ret pe_non)))), ?_⟩
    refine q_diag hN ho.n4 (fun _ _ => ev_var rfl) (fun _ => rfl) (fun _ => rfl) fun p H1 kvs e1 hp hW => ?_
    refine q_forR1 (ea_cons (net_size (ev_var rfl) (hN.ts (Tu.of e1))) ea_nil) ⟨by omega, by omega⟩ (fun k σ' H' => ∃ (p : Addr) (kvs : List (List Key × V)) (o1 o3 : Option V), σ' = [some (.ref a), o1, some (.ref p), o3] ∧ Ex H H' ∧ H' p = some (.dT kvs) ∧ Wks k H' kvs (walksM (edgesM rs) n k))
      (fun H2 e2 => ⟨p, kvs, _, _, rfl, e1.trans e2, e2 _ _ hp, wks_ts (Tu.of e2) hW⟩) (fun k σ' H' hkn hq => ?_) fun σ' H' hq => ?_
    · obtain ⟨p, kvs, o1, o3, rfl, e2, hp2, hW2⟩ := hq
      refine q_asgP (call_longer (k := k) (ev_var rfl) (ev_var rfl) (hN.ts (Tu.of e2)) ho hp2 hW2 (by omega)) fun v H3 e3 hv => ?_
      obtain ⟨p3, kvs3, rfl, hp3, _, hW3⟩ := hv
      have e23 := e2.trans e3
      have good := good_walks t (goodE t rs hk) n (k + 1)
      refine s_forR1 (ea_cons (net_size (ev_var rfl) (hN.ts (Tu.of e23))) ea_nil) ⟨by omega, by omega⟩ (fun j σ' H' => ∃ (o1 o3 : Option V), σ' = [some (.ref a), o1, some (.ref p3), o3] ∧ Ex H3 H') (fun H4 e4 => ⟨_, _, rfl, e4⟩) (fun j σ' H' hj hq => ?_) fun σ' H' hq => ?_
      · obtain ⟨o1, o3, rfl, e4⟩ := hq
        have hp4 := e4 _ _ hp3
        have hW4 := wks_ts (Tu.of e4) hW3
        refine s_no ?_ fun H5 e5 => ⟨_, _, rfl, e4.trans e5⟩
        cases hg : getW (walksM (edgesM rs) n (k + 1)) ((j : Int), (j : Int)) with
        | none =>
          refine et_is (et_and (b := false) (et_B (ev_dinU (k := kk ((j : Int), (j : Int))) (eu_tup (ea_cons (ev_var rfl) (ea_cons (ev_var rfl) ea_nil)) (show 2 ≤ 100000 by decide)) (ev_var rfl) (.inl hp4))) fun y => ?_) ?_
          · rw [wks_none hW4 hg] at y
            cases y
          · rw [wks_none hW4 hg]
            rfl
        | some l =>
          obtain ⟨v3, hv3, t3, w3, xs3, rfl, ht3, _⟩ := wks_some hW4 hg
          have hl0 := diag_nonneg good hg
          refine et_is (et_and (et_B (ev_dinU (k := kk ((j : Int), (j : Int))) (eu_tup (ea_cons (ev_var rfl) (ea_cons (ev_var rfl) ea_nil)) (show 2 ≤ 100000 by decide)) (ev_var rfl) (.inl hp4))) fun y => et_test (ev_op (ev_ixT (ev_dgetU (k := kk ((j : Int), (j : Int))) (ev_var rfl) (eu_tup (ea_cons (ev_var rfl) (ea_cons (ev_var rfl) ea_nil)) (show 2 ≤ 100000 by decide)) (.inl hp4) hv3) ev_c ht3 rfl) ev_c rv_I0)) ?_
          rw [hv3, decide_eq_false (show ¬ l < 0 by omega)]
          rfl
      · obtain ⟨o1, o3, rfl, e4⟩ := hq
        exact ⟨p3, kvs3, _, _, rfl, e23.trans e4, e4 _ _ hp3, wks_ts (Tu.of e4) hW3⟩
    · obtain ⟨p, kvs, o1, o3, rfl, e2, hp2, hW2⟩ := hq
      exact s_ret ev_c fun H5 e5 => q H5 (e2.trans e5)
end
end Abl
namespace Abl
open PySem PySem.Spec PyProof.Rows L2
open Evl (Ex Ev EvT EvA EvL EvU EvO ev_var ev_c ev_op ev_is et_is ev_andV ev_orV ev_notV et_and et_or et_not et_B et_test rv_I0 rv_eq rv_ne ea_nil ea_cons s_ret s_retU s_if s_when q_when q_asg q_asgL ev_if RetV eu_tup el_lst ev_inU ev_un ru_neg eo_none eo_some el_sl ev_opUU ev_len q_forR1 s_forR1 q_forT rv_isL q_while s_while s_appU q_appU q_cut)
section
variable {P : Program} {w : World} {K : PySem.W.Frag} {mg : Str → Option Value} {base : Heap}
abbrev s_shortest_walks : Stmt := topS 21
theorem sc_shortest_walks : FnScope ["net", "best", "walks", "turn", "pair", "event"] ["net"] (defScope s_shortest_walks) := ⟨rfl, rfl, rfl, by decide +kernel, rfl, by decide +kernel, by decide +kernel⟩
def rShort (es : List (Int × Int × Int)) (n : Nat) (v : V) (H : Hp) : Prop := ∃ (p : Addr) (kvs : List (List Key × V)) (k : Nat), v = .ref p ∧ H p = some (.dT kvs) ∧ Wks k H kvs (shortM es n (n - 1))
def spShort : Sp := fun vs H Q _ => ∃ (a : Addr) (n : Nat) (rs : List Rule), vs = [.ref a] ∧ NetAt H a n rs ∧ NetOk n rs ∧ ∀ v H', Ex H H' → rShort (edgesM rs) n v H' → Q v H'
theorem ok_shortest_walks (F : Has K mg "shortest_walks" s_shortest_walks ["net"]) (B : Gm mg) (G_longer_walks : C8.Cal P w K mg base 2 "longer_walks" spLonger []) (G_with_walk : C8.Cal P w K mg base 1 "with_walk" spWith []) : C8.Cal P w K mg base 3 "shortest_walks" spShort [] := by
  refine cal_of F sc_shortest_walks (fun vs H Q E h => ?_) (fun f cdv A outer s H vs Q E hr h => ?_)
  · obtain ⟨a, n, rs, rfl, _⟩ := h
    rfl
  · obtain ⟨a, n, rs, rfl, hN, ho, q⟩ := h
    have n4 := ho.n4
    have n1 := ho.n1
    have hes : (edgesM rs).length ≤ 10 := Nat.le_trans (edgesM_len rs) (by have := ho.r5; omega)
    refine ⟨_, (pss_cons (ps_setDcT (i := 1) (hu_of hr) (sw_dict rfl rfl rfl (by decide +kernel)) (own := [("event", 5)]) rfl sc_shortest_walks.nd rfl rfl (pi_range1 (by rfl) B.range (pa_cons (pe_ix ix_tup (pv 0) pe_int (fun _ _ => rfl)) pa_nil)) (blkOk_by (N := ["net", "best", "walks", "turn", "pair", "event"]) (sc := (defScope s_shortest_walks)) (by decide +kernel)) (fun _ _ _ _ _ => (pg_name (i := 5) sc_shortest_walks.nd rfl (by first | exact .inl rfl | exact .inr rfl))) (fun _ _ _ _ _ => (pe_tup (pa_cons (pv 5) (pa_cons (pv 5) pa_nil)))) (fun _ _ _ _ _ => (pe_tup (pa_cons pe_int (pa_cons (pe_tup pa_nil) pa_nil)))))
  (pss_cons (ps_set (i := 2) sc_shortest_walks.nd rfl (by first | exact .inl rfl | exact .inr rfl) (pv 1))
  (pss_cons (ps_for PassesOwn.never rfl (pi_range1 (by rfl) B.range (pa_cons (pe_op op_sub (pe_ix ix_tup (pv 0) pe_int (fun _ _ => rfl)) pe_int) pa_nil)) (pg_name (i := 3) sc_shortest_walks.nd rfl (by first | exact .inl rfl | exact .inr rfl)) (pss_cons (ps_set (i := 2) sc_shortest_walks.nd rfl (by first | exact .inl rfl | exact .inr rfl) (C8.pe_c G_longer_walks hr (by decide) (by rfl) (pa_cons (pv 0) (pa_cons (pv 2) pa_nil))))
  (pss_one (ps_lock (ps_for PassesOwn.never rfl (pi_keys (pv 2)) (pg_name (i := 4) sc_shortest_walks.nd rfl (by first | exact .inl rfl | exact .inr rfl)) (pss_one (ps_if (PW.pt (pw_or (pt_cmp (pc_dnotin (hu_of hr) (pv 4) (pv 1))) (pw_or1 (pt_cmpR op_lt (pe_ix ix_tup (pe_dget (hu_of hr) (pv 2) (pv 4) (fun _ _ => rfl)) pe_int (fun _ _ => rfl)) (pe_ix ix_tup (pe_dget (hu_of hr) (pv 1) (pv 4) (fun _ _ => rfl)) pe_int (fun _ _ => rfl)) (nomark _))))) (pss_one (ps_set (i := 1) sc_shortest_walks.nd rfl (by first | exact .inl rfl | exact .inr rfl) (C8.pe_c G_with_walk hr (by decide) (by rfl) (pa_cons (pv 1) (pa_cons (pv 4) (pa_cons (pe_dget (hu_of hr) (pv 2) (pv 4) (fun _ _ => rfl)) pa_nil)))))) pss_nil)))))))
  (pss_one (ps_ret (pv 1)))))), ?_⟩
    refine q_diag hN ho.n4 (fun _ _ => ev_var rfl) (fun _ => rfl) (fun _ => rfl) fun p H1 kvs e1 hp hW => ?_
    refine q_asg (ev_var rfl) fun H2 e2 => ?_
    have e12 := e1.trans e2
    refine q_forR1 (n := (n : Int) - 1) (ea_cons (ev_op (net_size (ev_var rfl) (hN.ts (Tu.of e12))) ev_c rv_I0) ea_nil) ⟨by omega, by omega⟩
      (fun k σ' H' => ∃ (p b : Addr) (kvs kb : List (List Key × V)) (o3 o4 o5 : Option V), σ' = [some (.ref a), some (.ref b), some (.ref p), o3, o4, o5] ∧ Ex H H' ∧ H' p = some (.dT kvs) ∧ Wks k H' kvs (walksM (edgesM rs) n k) ∧ H' b = some (.dT kb) ∧ Wks k H' kb (shortM (edgesM rs) n k))
      (fun H3 e3 => ⟨p, p, kvs, kvs, _, _, _, rfl, e12.trans e3, (e2.trans e3) _ _ hp, wks_ts (Tu.of (e2.trans e3)) hW, (e2.trans e3) _ _ hp, wks_ts (Tu.of (e2.trans e3)) hW⟩) (fun k σ' H' hkn hq => ?_) fun σ' H' hq => ?_
    · obtain ⟨p, b, kvs, kb, o3, o4, o5, rfl, e3, hp3, hW3, hb3, hB3⟩ := hq
      refine q_asgP (call_longer (k := k) (ev_var rfl) (ev_var rfl) (hN.ts (Tu.of e3)) ho hp3 hW3 (by omega)) fun v H4 e4 hv => ?_
      obtain ⟨p4, kvs4, rfl, hp4, np4, hW4⟩ := hv
      have hb4 := e4 _ _ hb3
      have nbp : b ≠ p4 := ne_of_none hb3 np4
      have hB4 : Wks (k + 1) H4 kb (shortM (edgesM rs) n k) := wks_le (Nat.le_succ k) (wks_ts (Tu.of e4) hB3)
      have hlm := pair_len hW4
      have e34 := e3.trans e4
      -- locked
      refine ⟨p4, .dT kvs4, hp4, trivial, fun od => ?_⟩
      generalize hHl : upd H4 p4 (.frz od (.dT kvs4)) = Hl
      have hpl : Hl p4 = some (.frz od (.dT kvs4)) := hHl ▸ upd_same
      have tl : Tu H4 Hl := hHl ▸ Tu.put hp4 fun _ z => nomatch z
      have hbl : Hl b = some (.dT kb) := by
        rw [← hHl, upd_ne nbp]
        exact hb4
      refine ⟨.ref p4, rfl, p4, od, rfl, .inr ⟨kvs4, hpl, for_it walk_keysT (fun i σ' H' => ∃ (b : Addr) (kb : List (List Key × V)) (o3 o4 o5 : Option V), σ' = [some (.ref a), some (.ref b), some (.ref p4), o3, o4, o5] ∧ Ex Hl H' ∧ H' b = some (.dT kb) ∧ Wks (k + 1) H' kb (((walksM (edgesM rs) n (k + 1)).take i).foldl (bestOne (walksM (edgesM rs) n (k + 1))) (shortM (edgesM rs) n k)))
        ⟨b, kb, _, _, _, rfl, Ex.refl Hl, hbl, wks_ts tl hB4⟩ (fun i σ' H' _ hq => let ⟨_, _, _, _, _, _, e, _⟩ := hq; e _ _ hpl) (fun i x σ' H' H'' hi hq hy => ?_) fun σ' H' hq => ?_⟩⟩
      · obtain ⟨b5, kb5, o3, o4, o5, rfl, e5, hb5, hB5⟩ := hq
        obtain ⟨rfl, ky, v, c, hky, rfl, hc⟩ := hy
        obtain ⟨mq, hmq, hke, _⟩ := pair_at2 hW4 hky
        simp only at hke
        subst hke
        generalize hM : walksM (edgesM rs) n (k + 1) = M at hW4 hmq hB5 hlm
        obtain ⟨len, hlen⟩ := any_key (List.mem_of_getElem? hmq)
        obtain ⟨v2, hv2, hwr2⟩ := wks_some hW4 hlen
        have hwr5 := hwr2.ts (tl.trans (Tu.of e5))
        have hwr6 := hwr5
        obtain ⟨t, wa, xs, rfl, ht, hwa, hxs⟩ := hwr6
        have htk := take_fold (bestOne M) (shortM (edgesM rs) n k) M hmq
        have hMl : M.length ≤ 4 * 10 ^ 3 := by
          rw [← hM]
          have h1 := walks_len (edgesM rs) hes n n4 (k + 1)
          have h2 : (10 : Nat) ^ (k + 1) ≤ 10 ^ 3 := Nat.pow_le_pow_right (by decide) (by omega)
          omega
        have hSl : (shortM (edgesM rs) n k).length ≤ 4 * 10 ^ 3 * 2 := by
          have h1 := short_len (edgesM rs) hes n n4 k
          have h2 : (10 : Nat) ^ k ≤ 10 ^ 3 := Nat.pow_le_pow_right (by decide) (by omega)
          omega
        have hfl := bestL_len M (M.take i) (shortM (edgesM rs) n k)
        have hti : (M.take i).length ≤ M.length := by rw [List.length_take]; omega
        generalize hf0 : (M.take i).foldl (bestOne M) (shortM (edgesM rs) n k) = f0 at hB5 htk hfl
        have hp5 : H'' p4 = some (.frz od (.dT kvs4)) := e5 _ _ hpl
        show tIfS _ _ _ _ [some (.ref a), some (.ref b5), some (.ref p4), o3, some (.ref c), o5] H''
        refine s_when (b := betterM (getW f0 mq.1) len) ?_ (fun z H6 e6 => ?_) fun z H6 e6 => ?_
        · cases hg : getW f0 mq.1 with
          | none =>
            refine et_is (et_or (b := false) (et_B (ev_dnin (k := kk mq.1) (ev_var rfl) hc (ev_var rfl) (.inl hb5))) fun y => ?_) ?_
            · rw [wks_none hB5 hg] at y
              cases y
            · rw [wks_none hB5 hg]
              rfl
          | some l =>
            obtain ⟨v3, hv3, t3, w3, xs3, rfl, ht3, _⟩ := wks_some hB5 hg
            refine et_is (et_or (et_B (ev_dnin (k := kk mq.1) (ev_var rfl) hc (ev_var rfl) (.inl hb5))) fun y => et_test (ev_op (ev_ixT (ev_dget (k := kk mq.1) (ev_var rfl) (ev_var rfl) hc (.inr ⟨od, hp5⟩) hv2) ev_c ht rfl) (ev_ixT (ev_dget (k := kk mq.1) (ev_var rfl) (ev_var rfl) hc (.inl hb5) hv3) ev_c ht3 rfl) rv_I0)) ?_
            rw [hv3]
            rfl
        · refine evp_call (R := fun v H' => ∃ (p : Addr) (kvs : List (List Key × V)), v = .ref p ∧ H' p = some (.dT kvs) ∧ Wks (k + 1) H' kvs (withM f0 mq.1 len)) (ea_cons (ev_var rfl) (ea_cons (ev_var rfl) (ea_cons (ev_dget (k := kk mq.1) (v := .ref t) (ev_var rfl) (ev_var rfl) (e6 _ _ hc) (.inr ⟨od, e6 _ _ hp5⟩) hv2) ea_nil)))
            (fun H7 e7 Q7 q7 => ⟨b5, c, .ref t, k + 1, mq.1, len, kb5, f0, rfl, e7 _ _ (e6 _ _ hb5), wks_ts (Tu.of (e6.trans e7)) hB5, e7 _ _ (e6 _ _ hc), hwr5.ts (Tu.of (e6.trans e7)), by omega, fun p H' kvs' e8 h3 h4 => q7 _ H' e8 ⟨p, kvs', rfl, h3, h4⟩⟩) H6 (Ex.refl H6) _ fun v H8 e8 hv => ?_
          obtain ⟨p9, kv9, rfl, hp9, hW9⟩ := hv
          refine ⟨p9, kv9, _, _, _, rfl, e5.trans (e6.trans e8), hp9, ?_⟩
          rw [htk]
          unfold bestOne
          rw [hlen]
          show Wks (k + 1) H8 kv9 (if betterM (getW f0 mq.1) len = true then withM f0 mq.1 len else f0)
          rw [if_pos z]
          exact hW9
        · refine ⟨b5, kb5, _, _, _, rfl, e5.trans e6, e6 _ _ hb5, ?_⟩
          rw [htk]
          unfold bestOne
          rw [hlen]
          show Wks (k + 1) H6 kb5 (if betterM (getW f0 mq.1) len = true then withM f0 mq.1 len else f0)
          rw [if_neg (by rw [z]; decide)]
          exact wks_ts (Tu.of e6) hB5
      · obtain ⟨b5, kb5, o3, o4, o5, rfl, e5, hb5, hB5⟩ := hq
        have hp5 : H' p4 = some (.frz od (.dT kvs4)) := e5 _ _ hpl
        have nb5 : b5 ≠ p4 := ne_of hb5 hp5 fun z => nomatch z
        have tu : Tu H' (upd H' p4 (.dT kvs4)) := Tu.put hp5 fun _ z => nomatch z
        refine ⟨hp5, p4, b5, kvs4, kb5, _, _, _, rfl, fun c o hc => ?_, upd_same, wks_ts (tl.trans ((Tu.of e5).trans tu)) hW4, ?_, ?_⟩
        · have h4 := e34 _ _ hc
          by_cases ez : c = p4
          · subst ez
            rw [upd_same, ← h4, hp4]
          · rw [upd_ne ez]
            refine e5 _ _ ?_
            rw [← hHl, upd_ne ez]
            exact h4
        · rw [upd_ne nb5]
          exact hb5
        · rw [hlm, List.take_length] at hB5
          exact wks_ts tu hB5
    · obtain ⟨p, b, kvs, kb, o3, o4, o5, rfl, e3, hp3, hW3, hb3, hB3⟩ := hq
      rw [show ((n : Int) - 1).toNat = n - 1 by omega] at hB3
      exact s_ret (ev_var rfl) fun H5 e5 => q _ H5 (e3.trans e5) ⟨b, kb, n - 1, rfl, e5 _ _ hb3, wks_ts (Tu.of e5) hB3⟩
/-- the table of the tight bounds -/
def BoundsAt (H : Hp) (p : Addr) (n : Nat) (B : Int → Int → Option Int) : Prop := ∃ ps : List Addr, H p = some (.lst (ps.map V.ref)) ∧ ps.length = n ∧ ∀ (i : Nat) (a : Addr), ps[i]? = some a → H a = some (.lst ((List.range n).map fun (j : Nat) => optV (B (i : Int) (j : Int))))
theorem BoundsAt.but {d : Addr} {H H' : Hp} {p : Addr} {n : Nat} {B : Int → Int → Option Int} (e : Ex H H') (h : BoundsAt H p n B) : BoundsAt H' p n B := by
  obtain ⟨ps, h1, h2, h3⟩ := h
  exact ⟨ps, e _ _ h1, h2, fun i a hi => e _ _ (h3 i a hi)⟩
theorem yes_ite {σ : L2.St} {H : Hp} {A B : Hp → Prop} (h : A H) : tYes σ H (fun b H3 => if b = true then A H3 else B H3) := by
  show if true = true then A H else B H
  rw [if_pos rfl]
  exact h
abbrev s_bounds_of : Stmt := topS 23
theorem sc_bounds_of : FnScope ["net", "walks", "size", "i", "j"] ["net"] (defScope s_bounds_of) := ⟨rfl, rfl, rfl, by decide +kernel, rfl, by decide +kernel, by decide +kernel⟩
def rBounds (n : Nat) (rs : List Rule) (v : V) (H : Hp) : Prop := ∃ p : Addr, v = .ref p ∧ BoundsAt H p n (boundM n rs)
def spBounds : Sp := fun vs H Q _ => ∃ (a : Addr) (n : Nat) (rs : List Rule) (t : Int → Int), vs = [.ref a] ∧ NetAt H a n rs ∧ NetOk n rs ∧ (∀ r ∈ rs, r.keeps t) ∧ ∀ v H', Ex H H' → rBounds n rs v H' → Q v H'
theorem bound_in {n : Nat} {rs : List Rule} {i j : Nat} (hi : i < n) (hj : j < n) : boundM n rs (i : Int) (j : Int) = getW (shortM (edgesM rs) n (n - 1)) ((i : Int), (j : Int)) := by
  unfold boundM
  rw [if_pos ⟨by omega, by omega, by omega, by omega⟩]
theorem ok_bounds_of (F : Has K mg "bounds_of" s_bounds_of ["net"]) (B : Gm mg) (G_first_round : C8.Cal P w K mg base 3 "first_round" spRound []) (G_shortest_walks : C8.Cal P w K mg base 3 "shortest_walks" spShort []) : C8.Cal P w K mg base 4 "bounds_of" spBounds [] := by
  refine cal_of F sc_bounds_of (fun vs H Q E h => ?_) (fun f cdv A outer s H vs Q E hr h => ?_)
  · obtain ⟨a, n, rs, t, rfl, _⟩ := h
    rfl
  · obtain ⟨a, n, rs, t, rfl, hN, ho, hk, q⟩ := h
    have n4 := ho.n4
    refine ⟨_, (pss_cons (ps_if (pt_cmpR op_notN (C8.pe_c G_first_round hr (by decide) (by rfl) (pa_cons (pv 0) pa_nil)) pe_non (nomark _)) (pss_one (ps_ret pe_non)) pss_nil)
  (pss_cons (ps_set (i := 1) sc_bounds_of.nd rfl (by first | exact .inl rfl | exact .inr rfl) (C8.pe_c G_shortest_walks hr (by decide) (by rfl) (pa_cons (pv 0) pa_nil)))
  (pss_cons (ps_set (i := 2) sc_bounds_of.nd rfl (by first | exact .inl rfl | exact .inr rfl) (pe_ix ix_tup (pv 0) pe_int (fun _ _ => rfl)))
  (pss_one (ps_ret (pe_lc (own := [("i", 3)]) rfl sc_bounds_of.nd (pi_range1 (by rfl) B.range (pa_cons (pv 2) pa_nil)) (blkOk_by (N := ["net", "walks", "size", "i", "j"]) (sc := (defScope s_bounds_of)) (by decide +kernel)) (fun _ _ _ _ _ => (pg_name (i := 3) sc_bounds_of.nd rfl (by first | exact .inl rfl | exact .inr rfl))) (fun _ _ _ _ _ => pts_nil) (fun _ _ _ _ _ => (pe_lc (own := [("j", 4)]) rfl sc_bounds_of.nd (pi_range1 (by rfl) B.range (pa_cons (pv 2) pa_nil)) (blk_in (N := ["net", "walks", "size", "i", "j"]) (fs := ["walks", "i"]) (by decide +kernel) (List.forall_mem_cons.mpr ⟨by first | exact .inl rfl | exact .inr rfl, List.forall_mem_cons.mpr ⟨by first | exact .inl rfl | exact .inr rfl, fun _ hx => nomatch hx⟩⟩)) (fun _ _ _ _ _ => (pg_name (i := 4) sc_bounds_of.nd rfl (by first | exact .inl rfl | exact .inr rfl))) (fun _ _ _ _ _ => pts_nil) (fun _ _ _ _ _ => (pe_ifExp (pt_cmp (pc_din (hu_of hr) (pe_tup (pa_cons (pv 3) (pa_cons (pv 4) pa_nil))) (pv 1))) (pe_ix (r := rIxT K) ix_tup (pe_dget (hu_of hr) (pv 1) (pe_tup (pa_cons (pv 3) (pa_cons (pv 4) pa_nil))) (fun _ _ => rfl)) pe_int (fun _ _ => rfl)) pe_non)))))))))), ?_⟩
    refine q_no (et_is (et_test (ev_notN (ev_call1 (z := .non) (ea_cons (ev_var rfl) ea_nil) fun H1 e1 Q1 q1 => ⟨a, n, rs, t, rfl, hN.ts (Tu.of e1), ho, hk, q1⟩))) rfl) fun H1 e1 => ?_
    refine q_asgP (evp_call (R := rShort (edgesM rs) n) (ea_cons (ev_var rfl) ea_nil) fun H2 e2 Q2 q2 => ⟨a, n, rs, rfl, hN.ts (Tu.of (e1.trans e2)), ho, q2⟩) fun v H2 e2 hv => ?_
    obtain ⟨d, kvs, kd, rfl, hd, hW⟩ := hv
    refine q_asg (net_size (ev_var rfl) (hN.ts (Tu.of (e1.trans e2)))) fun H3 e3 => ?_
    have e03 := (e1.trans e2).trans e3
    have hd3 := e3 _ _ hd
    have hW3 := wks_ts (Tu.of e3) hW
    refine ⟨_, rfl, (n : Int), rfl, by omega, by omega, fun Dl nD => ?_⟩
    refine lc_range (lo := 0) (n := (n : Int).toNat) (fun i H' => Ex H3 H' ∧ ∃ ps : List Addr, H' Dl = some (.lst (ps.map V.ref)) ∧ ps.length = i ∧ ∀ (j : Nat) (a : Addr), ps[j]? = some a → H' a = some (.lst ((List.range n).map fun (z : Nat) => optV (boundM n rs (j : Int) (z : Int)))))
      ⟨Evl.Ex.new nD, [], upd_same, rfl, fun j a hj => by simp at hj⟩ (fun i H' hi hp => ?_) fun H' hp => ?_
    · obtain ⟨e4, ps, hl4, hlen, hrows⟩ := hp
      rw [Int.toNat_natCast] at hi
      rw [Int.zero_add]
      refine ⟨rfl, yes_ite ?_⟩
      have row := el_mapR (σ := [some (.ref a), some (.ref d), some (.int (n : Int)), some (.int (i : Int)), none]) (H := H') (j := 4) (vs := [4]) (n := (n : Int)) (ta := tCons (tVar 2) tNil)
        (te := tIf (tB (tDIn (tTup (tCons (tVar 3) (tCons (tVar 4) tNil))) (tVar 1))) (tOp (rIxT K) (tDGet (tVar 1) (tTup (tCons (tVar 3) (tCons (tVar 4) tNil)))) (tC (.int 0))) (tC .non)) (fun z => optV (boundM n rs (i : Int) (z : Int))) (ea_cons (ev_var rfl) ea_nil) ⟨by omega, by omega⟩ (fun _ => rfl) (fun z H5 e5 hz => ?_)
      · rw [Int.toNat_natCast] at row
        refine row H' (Ex.refl H') _ fun p H6 np e6 hp6 => ⟨ps.map V.ref, e6 _ _ hl4, Evl.sz_lt (by rw [List.length_map]; omega), ?_⟩
        have npD : p ≠ Dl := ne_of_none' np hl4
        refine ⟨(e4.trans e6).mut nD, ps ++ [p], by rw [upd_same, List.map_append]; rfl, by rw [List.length_append, hlen]; rfl, fun j c hj => ?_⟩
        by_cases hji : j < ps.length
        · rw [List.getElem?_append_left hji] at hj
          have h7 := hrows j c hj
          have ncD : c ≠ Dl := fun z => by
            subst z
            rw [hl4] at h7
            have h8 := HO.lst.inj (Option.some.inj h7)
            have h9 : (ps.map V.ref)[0]? = ((List.range n).map fun (z : Nat) => optV (boundM n rs (j : Int) (z : Int)))[0]? := by rw [h8]
            rw [List.getElem?_map, List.getElem?_map, List.getElem?_range (by omega), List.getElem?_eq_getElem (show 0 < ps.length by omega)] at h9
            have h10 : V.ref ps[0] = optV (boundM n rs (j : Int) ((0 : Nat) : Int)) := Option.some.inj h9
            cases hb : boundM n rs (j : Int) ((0 : Nat) : Int) <;> rw [hb] at h10 <;> cases h10
          rw [upd_ne ncD]
          exact e6 _ _ h7
        · have hj2 : j = ps.length := by
            have := (List.getElem?_eq_some_iff.mp hj).1
            rw [List.length_append, List.length_singleton] at this
            omega
          subst hj2
          rw [List.getElem?_append_right (Nat.le_refl _), Nat.sub_self] at hj
          have hc : p = c := Option.some.inj hj
          subst hc
          rw [upd_ne npD, hp6, hlen]
      · have hd5 := e5 _ _ (e4 _ _ hd3)
        have hW5 := wks_ts (Tu.of (e4.trans e5)) hW3
        have hzn : z < n := by omega
        rw [bound_in hi hzn]
        cases hg : getW (shortM (edgesM rs) n (n - 1)) ((i : Int), (z : Int)) with
        | none =>
          refine ev_if (b := false) (et_is (et_B (ev_dinU (k := kk ((i : Int), (z : Int))) (eu_tup (ea_cons (ev_var rfl) (ea_cons (ev_var rfl) ea_nil)) (show 2 ≤ 100000 by decide)) (ev_var rfl) (.inl hd5))) (by rw [wks_none hW5 hg]; rfl)) (fun y => nomatch y) fun _ => ev_c
        | some l =>
          obtain ⟨v3, hv3, t3, w3, xs3, rfl, ht3, _⟩ := wks_some hW5 hg
          exact ev_if (b := true) (et_is (et_B (ev_dinU (k := kk ((i : Int), (z : Int))) (eu_tup (ea_cons (ev_var rfl) (ea_cons (ev_var rfl) ea_nil)) (show 2 ≤ 100000 by decide)) (ev_var rfl) (.inl hd5))) (by rw [hv3]; rfl)) (fun _ => ev_ixT (ev_dgetU (k := kk ((i : Int), (z : Int))) (ev_var rfl) (eu_tup (ea_cons (ev_var rfl) (ea_cons (ev_var rfl) ea_nil)) (show 2 ≤ 100000 by decide)) (.inl hd5) hv3) ev_c ht3 rfl) fun y => nomatch y
    · obtain ⟨e4, ps, hl4, hlen, hrows⟩ := hp
      rw [Int.toNat_natCast] at hlen
      exact q _ H' (e03.trans e4) ⟨Dl, rfl, ps, hl4, hlen, hrows⟩
abbrev s_known_bounds : Stmt := topS 25
theorem sc_known_bounds : FnScope ["net", "bounds"] ["net"] (defScope s_known_bounds) := ⟨rfl, rfl, rfl, by decide +kernel, rfl, by decide +kernel, by decide +kernel⟩
theorem ok_known_bounds (F : Has K mg "known_bounds" s_known_bounds ["net"]) (B : Gm mg) (G_check_net : C8.Cal P w K mg base 5 "check_net" spChkNet []) (G_bounds_of : C8.Cal P w K mg base 4 "bounds_of" spBounds []) : C8.Cal P w K mg base 6 "known_bounds" spBounds [] := by
  refine cal_of F sc_known_bounds (fun vs H Q E h => ?_) (fun f cdv A outer s H vs Q E hr h => ?_)
  · obtain ⟨a, n, rs, t, rfl, _⟩ := h
    rfl
  · obtain ⟨a, n, rs, t, rfl, hN, ho, hk, q⟩ := h
    refine ⟨_, (pss_cons (ps_expr (C8.pe_c G_check_net hr (by decide) (by rfl) (pa_cons (pv 0) pa_nil)))
  (pss_cons (ps_set (i := 1) sc_known_bounds.nd rfl (by first | exact .inl rfl | exact .inr rfl) (C8.pe_c G_bounds_of hr (by decide) (by rfl) (pa_cons (pv 0) pa_nil)))
  (pss_cons (ps_if (pt_cmpR op_isN (pv 1) pe_non (nomark _)) (pss_one ps_never) pss_nil)
  (pss_one (ps_ret (pv 1)))))), ?_⟩
    refine Evl.q_drop (v := .non) (ev_call1 (ea_cons (ev_var rfl) ea_nil) fun H1 e1 Q1 q1 => ⟨a, n, rs, rfl, hN.ts (Tu.of e1), ho, q1⟩) fun H1 e1 => ?_
    refine q_asgP (evp_call (R := rBounds n rs) (ea_cons (ev_var rfl) ea_nil) fun H2 e2 Q2 q2 => ⟨a, n, rs, t, rfl, hN.ts (Tu.of (e1.trans e2)), ho, hk, q2⟩) fun v H2 e2 hv => ?_
    obtain ⟨p, rfl, hB⟩ := hv
    refine q_no (et_is (et_test (ev_isN (x := .ref p) (ev_var rfl))) rfl) fun H3 e3 => ?_
    exact s_ret (ev_var rfl) fun H4 e4 => q _ H4 (((e1.trans e2).trans e3).trans e4) ⟨p, rfl, hB.but (d := 0) (e3.trans e4)⟩
end
end Abl
namespace Abl
open PySem PySem.Spec PyProof.Rows L2
open Evl (Ex Ev EvT EvA EvL EvU EvO ev_var ev_c ev_op ev_is et_is ev_andV ev_orV ev_notV et_and et_or et_not et_B et_test rv_I0 rv_eq rv_ne ea_nil ea_cons s_ret s_retU s_if s_when q_when q_asg s_asg q_asgL ev_if RetV eu_tup el_lst ev_inU ev_un ru_neg eo_none eo_some el_sl ev_opUU ev_len q_forR1 s_forR1 q_forT rv_isL q_while s_while s_app s_appU q_appU q_cut ev_max2)
section
variable {P : Program} {w : World} {K : PySem.W.Frag} {mg : Str → Option Value} {base : Heap}
section
variable {σ : L2.St} {H : Hp} {ta tb te ti tj : TE}
/-- bounds[i][j] -/
theorem ev_bound {b : Addr} {n : Nat} {B : Int → Int → Option Int} {i j : Int} (hB : BoundsAt H b n B) (ha : Ev ta σ H (.ref b)) (hi : Ev ti σ H (.int i)) (hj : Ev tj σ H (.int j)) (i0 : 0 ≤ i) (i1 : i < n) (j0 : 0 ≤ j) (j1 : j < n) : Ev (tOp (rIxL K) (tOp (rIxL K) ta ti) tj) σ H (optV (B i j)) := by
  obtain ⟨ps, h1, h2, h3⟩ := hB
  have hlt : i.toNat < ps.length := by omega
  have g := List.getElem?_eq_getElem hlt
  have h4 := h3 i.toNat _ g
  rw [show ((i.toNat : Nat) : Int) = i by omega] at h4
  refine ev_ixL (ev_ixL ha hi h1 (nat_at (i := i.toNat) (by omega) (by rw [List.getElem?_map, g]; rfl))) hj h4 (nat_at (i := j.toNat) (by omega) ?_)
  rw [List.getElem?_map, List.getElem?_range (by omega)]
  show some (optV (B i ((j.toNat : Nat) : Int))) = _
  rw [show ((j.toNat : Nat) : Int) = j by omega]
def rMin2 : List V → Hp → VK → Prop := fun xs H Q => ∃ i j, xs = [.int i, .int j] ∧ Q (.int (if j < i then j else i)) H
theorem ev_min2 {i j : Int} (ha : Ev ta σ H (.int i)) (hb : Ev tb σ H (.int j)) : Ev (tCB rMin2 (tCons ta (tCons tb tNil))) σ H (.int (if j < i then j else i)) := fun H1 e Q q =>
  ha H1 e _ fun H2 e2 => hb H2 (e.trans e2) _ fun H3 e3 => ⟨i, j, rfl, q H3 (e2.trans e3)⟩
/-- [e for a, b, .. in t] -/
theorem el_mapG {a : Addr} {xs : List V} {g : TG} {vs : List Nat} (σ2 : Nat → L2.St) (v : Nat → V) (h : Ev ta σ H (.ref a)) (hx : H a = some (.tup xs)) (hz : xs.length ≤ 40000) (hw : ∀ i, i < xs.length → wipe (σ2 i) vs = wipe σ vs)
    (hg : ∀ (i : Nat) (x : V) H1, Ex H H1 → xs[i]? = some x → ∀ Q : L2.St → Hp → Prop, Q (σ2 i) H1 → g x (wipe σ vs) H1 Q) (he : ∀ (i : Nat) (x : V) H1, Ex H H1 → xs[i]? = some x → Ev te (σ2 i) H1 (v i)) :
    EvL (tLc (iTup K ta) g tYes te vs) σ H ((List.range xs.length).map v) := fun H0 e Q q => h H0 e _ fun H1 e1 =>
  ⟨a, rfl, ⟨xs, SqT.of (e1 _ _ (e _ _ hx))⟩, fun Dl hD =>
    lc_tup (xs := xs) (Evl.Cw H1 (fun _ => true) v Dl) ⟨hD, Ex.new hD, upd_same⟩ (fun i H' _ p => SqT.of (p.2.1 _ _ (e1 _ _ (e _ _ hx))))
      (fun i x H' hi p => by
        have hlt := (List.getElem?_eq_some_iff.mp hi).1
        exact hg i x H' ((e.trans e1).trans p.2.1) hi _ ⟨hw i hlt, Evl.cw_turn p (by omega) et_yes fun _ => he i x H1 (e.trans e1) hi⟩)
      (fun H' p => by
        have p2 := p.2.2
        rw [given_all] at p2
        exact q Dl H' (Evl.fresh_back e1 p.1) (e1.trans p.2.1) p2)⟩
end
theorem act_uS (B : Int → Int → Option Int) (c : Int) (st : Stp) (h : Int) {d : Int} (hu : st.up = true) (hb : B c st.e = some d) : act B c st h = mx h (st.t - d) := by
  unfold act
  rw [if_pos hu, hb]
theorem act_dS (B : Int → Int → Option Int) (c : Int) (st : Stp) (h : Int) {d : Int} (hu : st.up = false) (hb : B st.e c = some d) : act B c st h = mn h (st.t + d) := by
  unfold act
  rw [if_neg (by rw [hu]; decide), hb]
abbrev s_step_moved : Stmt := topS 36
theorem sc_step_moved : FnScope ["bounds", "times", "step", "kind", "other", "time", "found", "event", "height"] ["bounds", "times", "step"] (defScope s_step_moved) := ⟨rfl, rfl, rfl, by decide +kernel, rfl, by decide +kernel, by decide +kernel⟩
def spMoved : Sp := fun vs H Q _ => ∃ (b t s : Addr) (n : Nat) (B : Int → Int → Option Int) (ts : List Int) (st : Stp), vs = [.ref b, .ref t, .ref s] ∧ BoundsAt H b n B ∧ IntsAt H t ts ∧ StpAt H s st ∧ ts.length = n ∧ n ≤ 4 ∧ 0 ≤ st.e ∧ st.e < n ∧
  ∀ p H', Ex H H' → IntsAt H' p (stepM B ts st) → Q (.ref p) H'
theorem stepM_take (B : Int → Int → Option Int) (ts : List Int) (st : Stp) {i : Nat} {h : Int} (e : ts[i]? = some h) : (stepM B ts st).take (i + 1) = (stepM B ts st).take i ++ [act B (i : Int) st h] := by
  rw [List.take_add_one]
  unfold stepM
  rw [List.getElem?_mapIdx, e]
  rfl
theorem ok_step_moved (F : Has K mg "step_moved" s_step_moved ["bounds", "times", "step"]) (B : Gm mg) : C8.Cal P w K mg base 1 "step_moved" spMoved [] := by
  refine cal_of F sc_step_moved (fun vs H Q E h => ?_) (fun f cdv A outer s H vs Q E hr h => ?_)
  · obtain ⟨b, t, s, n, B, ts, st, rfl, _⟩ := h
    rfl
  · obtain ⟨b, t, sp, n, Bd, ts, st, rfl, hB, hT, hS, hl, h4, se0, se1, q⟩ := h
    refine ⟨_, (pss_cons (ps_asg (pv 2) (pg_tup (by rfl) (pgs_cons (pg_name (i := 3) sc_step_moved.nd rfl (by first | exact .inl rfl | exact .inr rfl)) (pgs_cons (pg_name (i := 4) sc_step_moved.nd rfl (by first | exact .inl rfl | exact .inr rfl)) (pgs_cons (pg_name (i := 5) sc_step_moved.nd rfl (by first | exact .inl rfl | exact .inr rfl)) pgs_nil)))))
  (pss_cons (ps_set (i := 6) sc_step_moved.nd rfl (by first | exact .inl rfl | exact .inr rfl) (pe_lst pa_nil))
  (pss_cons (ps_for PassesOwn.never rfl (pi_enumT (by rfl) B.enumerate (pa_cons (pv 1) pa_nil)) (pg_tup (by rfl) (pgs_cons (pg_name (i := 7) sc_step_moved.nd rfl (by first | exact .inl rfl | exact .inr rfl)) (pgs_cons (pg_name (i := 8) sc_step_moved.nd rfl (by first | exact .inl rfl | exact .inr rfl)) pgs_nil))) (Evl.pss_cut (ps_if (PW.pt (pw_and (pt_cmpR op_eq (pv 3) pe_str (nomark _)) (pw_and1 (pt_cmpR op_notN (pe_ix ix_list (pe_ix ix_list (pv 0) (pv 7) (fun _ _ => rfl)) (pv 4) (fun _ _ => rfl)) pe_non (nomark _))))) (pss_one (ps_set (i := 8) sc_step_moved.nd rfl (by first | exact .inl rfl | exact .inr rfl) (pe_callB (call_max2 rfl) (by rfl) B.max (by decide +kernel) (pa_cons (pv 8) (pa_cons (pe_op op_sub (pv 5) (pe_ix ix_list (pe_ix ix_list (pv 0) (pv 7) (fun _ _ => rfl)) (pv 4) (fun _ _ => rfl))) pa_nil))))) pss_nil)
  (Evl.pss_cut (ps_if (PW.pt (pw_and (pt_cmpR op_eq (pv 3) pe_str (nomark _)) (pw_and1 (pt_cmpR op_notN (pe_ix ix_list (pe_ix ix_list (pv 0) (pv 4) (fun _ _ => rfl)) (pv 7) (fun _ _ => rfl)) pe_non (nomark _))))) (pss_one (ps_set (i := 8) sc_step_moved.nd rfl (by first | exact .inl rfl | exact .inr rfl) (pe_callB (call_min2 rfl) (by rfl) B.min (by decide +kernel) (pa_cons (pv 8) (pa_cons (pe_op op_add (pv 5) (pe_ix ix_list (pe_ix ix_list (pv 0) (pv 4) (fun _ _ => rfl)) (pv 7) (fun _ _ => rfl))) pa_nil))))) pss_nil)
  (pss_one (ps_expr (pe_bm PySem.F.plainAttrs_list PySem.F.slot_list_append PySem.F.type_list_append mt_append (pv 6) (pa_cons (pv 8) pa_nil)))))))
  (pss_one (ps_ret (pe_callTy call_tuple_of (by rfl) B.tuple (by decide +kernel) (pa_cons (pv 6) pa_nil))))))), ?_⟩
    refine q_unp3 (ev_var rfl) hS fun H1 e1 => ?_
    refine q_asgL (el_lst ea_nil (by decide)) fun l H2 nl e2 hl2 => ?_
    have e02 := e1.trans e2
    have nl0 : H l = none := Evl.fresh_back e1 nl
    refine ⟨_, rfl, t, ts.map V.int, rfl, SqT.of (e02 _ _ hT), for_enumT (xs := ts.map V.int) (fun i σ' H' => ∃ (o7 o8 : Option V), σ' = [some (.ref b), some (.ref t), some (.ref sp), some (.str (kindS st.up)), some (.int st.e), some (.int st.t), some (.ref l), o7, o8] ∧ Ex H H' ∧ H' l = some (.lst (((stepM Bd ts st).take i).map V.int)))
      ⟨_, _, rfl, e02, hl2⟩ (fun i σ' H' _ hp => let ⟨_, _, _, e, _⟩ := hp; SqT.of (e _ _ hT)) (fun i x T σ' H' hx hp nT => ?_) fun σ' H' hp => ?_⟩
    · obtain ⟨o7, o8, rfl, e3, hl3⟩ := hp
      obtain ⟨h, hh, rfl⟩ := int_at hx
      have hi4 : i < n := by
        have := (List.getElem?_eq_some_iff.mp hh).1
        omega
      generalize hH4 : upd H' T (.tup [.int (i : Nat), .int h]) = H4
      have e4 : Ex H' H4 := hH4 ▸ Ex.new nT
      have hT4 : H4 T = some (.tup [.int (i : Nat), .int h]) := hH4 ▸ upd_same
      have hB4 : BoundsAt H4 b n Bd := hB.but (d := 0) (e3.trans e4)
      refine ⟨T, _, rfl, SqT.of hT4, rfl, _, _, rfl, _, _, rfl, rfl, ?_⟩
      refine q_cut (M := fun σ2 H6 => σ2 = [some (.ref b), some (.ref t), some (.ref sp), some (.str (kindS st.up)), some (.int st.e), some (.int st.t), some (.ref l), some (.int (i : Nat)), some (.int (if st.up = true then act Bd (i : Int) st h else h))] ∧ Ex H4 H6) ?_ fun σ2 H6 h6 => ?_
      · refine s_when (et_and (et_is (et_test (ev_op (ev_var rfl) ev_c (rv_eq rfl))) (kind_up st.up)) fun z => et_test (ev_notN (ev_bound hB4 (ev_var rfl) (ev_var rfl) (ev_var rfl) (by omega) (by omega) se0 se1))) (fun z H5 e5 => ?_) fun z H5 e5 => ?_
        · rw [Bool.and_eq_true] at z
          cases hb : Bd (i : Int) st.e with
          | none =>
            rw [hb] at z
            exact absurd z.2 (by decide)
          | some d =>
            have hB5 := hB4.but (d := 0) e5
            refine s_asg (ev_is (ev_max2 (ev_var rfl) (ev_op (ev_var rfl) (ev_is (ev_bound hB5 (ev_var rfl) (ev_var rfl) (ev_var rfl) (by omega) (by omega) se0 se1) (by rw [hb]; rfl)) rv_I0)) (v := .int _) rfl) fun H6 e6 => ⟨?_, e5.trans e6⟩
            rw [if_pos z.1, act_uS Bd (i : Int) st h z.1 hb]
            rfl
        · refine ⟨?_, e5⟩
          cases hu : st.up with
          | false => rfl
          | true =>
            rw [hu] at z
            cases hb : Bd (i : Int) st.e with
            | none =>
              rw [if_pos rfl]
              unfold act
              rw [hu, if_pos rfl, hb]
              rfl
            | some d =>
              rw [hb] at z
              exact absurd z (by simp [optV])
      · obtain ⟨rfl, e6⟩ := h6
        have hB6 := hB4.but (d := 0) e6
        refine q_cut (M := fun σ2 H8 => σ2 = [some (.ref b), some (.ref t), some (.ref sp), some (.str (kindS st.up)), some (.int st.e), some (.int st.t), some (.ref l), some (.int (i : Nat)), some (.int (act Bd (i : Int) st h))] ∧ Ex H4 H8) ?_ fun σ2 H8 h8 => ?_
        · refine s_when (et_and (et_is (et_test (ev_op (ev_var rfl) ev_c (rv_eq rfl))) (kind_dn st.up)) fun z => et_test (ev_notN (ev_bound hB6 (ev_var rfl) (ev_var rfl) (ev_var rfl) se0 se1 (by omega) (by omega)))) (fun z H5 e5 => ?_) fun z H5 e5 => ?_
          · rw [Bool.and_eq_true] at z
            have hu : st.up = false := by simpa using z.1
            cases hb : Bd st.e (i : Int) with
            | none =>
              rw [hb] at z
              exact absurd z.2 (by decide)
            | some d =>
              have hB5 := hB6.but (d := 0) e5
              refine s_asg (ev_is (ev_min2 (ev_var rfl) (ev_op (ev_var rfl) (ev_is (ev_bound hB5 (ev_var rfl) (ev_var rfl) (ev_var rfl) se0 se1 (by omega) (by omega)) (by rw [hb]; rfl)) rv_I0)) (v := .int _) rfl) fun H7 e7 => ⟨?_, e6.trans (e5.trans e7)⟩
              rw [act_dS Bd (i : Int) st h hu hb, hu, if_neg (by decide)]
              rfl
          · refine ⟨?_, e6.trans e5⟩
            cases hu : st.up with
            | true => rfl
            | false =>
              rw [hu] at z
              cases hb : Bd st.e (i : Int) with
              | none =>
                rw [if_neg (by decide)]
                unfold act
                rw [hu, if_neg (by decide), hb]
              | some d =>
                rw [hb] at z
                exact absurd z (by simp [optV])
        · obtain ⟨rfl, e8⟩ := h8
          have hl8 := e8 _ _ (e4 _ _ hl3)
          refine s_app hl8 (ev_var rfl) (ev_var rfl) (by rw [List.length_map, List.length_take]; omega) fun H9 e9 => ?_
          refine ⟨_, _, rfl, (e3.trans (e4.trans (e8.trans e9))).mut nl0, ?_⟩
          rw [upd_same, stepM_take Bd ts st hh, List.map_append]
          rfl
    · obtain ⟨o7, o8, rfl, e3, hl3⟩ := hp
      have hfull : (stepM Bd ts st).take (ts.map V.int).length = stepM Bd ts st := List.take_of_length_le (by
        unfold stepM
        rw [List.length_mapIdx, List.length_map]
        exact Nat.le_refl _)
      rw [hfull] at hl3
      exact s_retU (eu_tupL (ev_var rfl) hl3) fun p H5 _ e5 hp => q p H5 (e3.trans e5) hp
abbrev s_stepped : Stmt := topS 37
theorem sc_stepped : FnScope ["net", "times", "steps", "bounds", "step", "kind", "event", "time"] ["net", "times", "steps"] (defScope s_stepped) := ⟨rfl, rfl, rfl, by decide +kernel, rfl, by decide +kernel, by decide +kernel⟩
def spStepped : Sp := fun vs H Q _ => ∃ (a t s : Addr) (n : Nat) (rs : List Rule) (ts : List Int) (ss : List Stp), vs = [.ref a, .ref t, .ref s] ∧ NetAt H a n rs ∧ IntsAt H t ts ∧ StepsAt H s ss ∧ NetOk n rs ∧ TimesOk n rs ts ∧ StepsOk ss ∧ 3 ≤ n ∧
  ∀ p H', Ex H H' → IntsAt H' p (runM (boundM n rs) ts ss) → Q (.ref p) H'
theorem ok_stepped (F : Has K mg "stepped" s_stepped ["net", "times", "steps"]) (B : Gm mg) (G_known_bounds : C8.Cal P w K mg base 6 "known_bounds" spBounds []) (G_check_times : C8.Cal P w K mg base 3 "check_times" spChkTimes []) (G_check_steps : C8.Cal P w K mg base 5 "check_steps" spChkSteps []) (G_step_moved : C8.Cal P w K mg base 1 "step_moved" spMoved []) : C8.Cal P w K mg base 7 "stepped" spStepped [] := by
  refine cal_of F sc_stepped (fun vs H Q E h => ?_) (fun f cdv A outer s H vs Q E hr h => ?_)
  · obtain ⟨a, t, s, n, rs, ts, ss, rfl, _⟩ := h
    rfl
  · obtain ⟨a, t, sp, n, rs, ts, ss, rfl, hN, hT, ⟨as, hA, hP⟩, ho, ht, hso, h3, q⟩ := h
    have n4 := ho.n4
    have s12 := hso.len
    have el : (as.map V.ref).length = ss.length := by rw [List.length_map]; exact pair_len hP
    refine ⟨_, (pss_cons (ps_set (i := 3) sc_stepped.nd rfl (by first | exact .inl rfl | exact .inr rfl) (C8.pe_c G_known_bounds hr (by decide) (by rfl) (pa_cons (pv 0) pa_nil)))
  (pss_cons (ps_expr (C8.pe_c G_check_times hr (by decide) (by rfl) (pa_cons (pv 0) (pa_cons (pv 1) pa_nil))))
  (pss_cons (ps_expr (C8.pe_c G_check_steps hr (by decide) (by rfl) (pa_cons (pv 2) pa_nil)))
  (pss_cons (ps_if (pt_val (pe_callB (cr_any rfl) (by rfl) B.any (by decide +kernel) (pa_cons (pe_lc (own := [("kind", 5), ("event", 6), ("time", 7)]) (g := (gTup K 3 (gCons (gName 5) (gCons (gName 6) (gCons (gName 7) gNil))))) rfl sc_stepped.nd (pi_tup (pv 2)) (blkOk_by (N := ["net", "times", "steps", "bounds", "step", "kind", "event", "time"]) (sc := (defScope s_stepped)) (by decide +kernel)) (fun _ _ _ _ _ => (pg_tup (by rfl) (pgs_cons (pg_name (i := 5) sc_stepped.nd rfl (by first | exact .inl rfl | exact .inr rfl)) (pgs_cons (pg_name (i := 6) sc_stepped.nd rfl (by first | exact .inl rfl | exact .inr rfl)) (pgs_cons (pg_name (i := 7) sc_stepped.nd rfl (by first | exact .inl rfl | exact .inr rfl)) pgs_nil))))) (fun _ _ _ _ _ => pts_nil) (fun _ _ _ _ _ => (pe_cmpR op_ge (pv 6) (pe_ix (r := rIxT K) ix_tup (pv 0) pe_int (fun _ _ => rfl)) (nomark _)))) pa_nil))) (pss_one ps_never) pss_nil)
  (pss_cons (ps_for PassesOwn.never rfl (pi_tup (pv 2)) (pg_name (i := 4) sc_stepped.nd rfl (by first | exact .inl rfl | exact .inr rfl)) (pss_one (ps_set (i := 1) sc_stepped.nd rfl (by first | exact .inl rfl | exact .inr rfl) (C8.pe_c G_step_moved hr (by decide) (by rfl) (pa_cons (pv 3) (pa_cons (pv 1) (pa_cons (pv 4) pa_nil)))))))
  (pss_one (ps_ret (pv 1)))))))), ?_⟩
    refine q_asgP (evp_call (R := rBounds n rs) (ea_cons (ev_var rfl) ea_nil) fun H2 e2 Q2 q2 => ⟨a, n, rs, timeF ts, rfl, hN.ts (Tu.of e2), ho, ht.kp, q2⟩) fun v H2 e2 hv => ?_
    obtain ⟨b, rfl, hB⟩ := hv
    refine Evl.q_drop (v := .non) (ev_call1 (ea_cons (ev_var rfl) (ea_cons (ev_var rfl) ea_nil)) fun H3 e3 Q3 q3 => ⟨a, t, n, rs, ts, rfl, hN.ts (Tu.of (e2.trans e3)), (e2.trans e3) _ _ hT, ho, ht, q3⟩) fun H3 e3 => ?_
    refine Evl.q_drop (v := .non) (ev_call1 (ea_cons (ev_var rfl) ea_nil) fun H4 e4 Q4 q4 => ⟨sp, ss, rfl, ⟨as, (e2.trans (e3.trans e4)) _ _ hA, pair_map hP fun _ _ z => (e2.trans (e3.trans e4)) _ _ z⟩, hso, q4⟩) fun H4 e4 => ?_
    have e04 := e2.trans (e3.trans e4)
    have hN4 := hN.ts (Tu.of e04)
    refine q_no (et_B (ev_anyN (n := (as.map V.ref).length) (el_mapG (fun i => [some (.ref a), some (.ref t), some (.ref sp), some (.ref b), none, some (.str (kindS (ss.getD i d0).up)), some (.int (ss.getD i d0).e), some (.int (ss.getD i d0).t)]) (fun _ => V.bl false) (ev_var rfl) (e04 _ _ hA) (by omega) (fun _ _ => rfl) (fun i x H5 e5 hi Q5 q5 => ?_) fun i x H5 e5 hi => ?_))) fun H5 e5 => ?_
    · obtain ⟨c, hc, rfl⟩ := ref_at hi
      obtain ⟨st, hst, hC⟩ := pair_at2 hP hc
      rw [getD_of hst] at q5
      exact ⟨c, _, rfl, SqT.of (e5 _ _ (e04 _ _ hC)), rfl, _, _, rfl, _, _, rfl, _, _, rfl, rfl, q5⟩
    · obtain ⟨c, hc, rfl⟩ := ref_at hi
      obtain ⟨st, hst, hC⟩ := pair_at2 hP hc
      have ho2 := hso.ok st (List.mem_of_getElem? hst)
      obtain ⟨h1, h2, _, _⟩ := ho2
      rw [getD_of hst]
      refine ev_is (ev_op (ev_var rfl) (net_size (ev_var rfl) (hN4.ts (Tu.of e5))) rv_I0) ?_
      rw [decide_eq_false (by omega)]
    · have e05 := e04.trans e5
      have hB5 := (hB.but (d := 0) (e3.trans e4)).but (d := 0) e5
      refine q_forT (a := sp) (xs := as.map V.ref) (ev_var rfl) (SqT.of (e05 _ _ hA)) (fun i σ' H' => ∃ (t : Addr) (o4 o5 o6 o7 : Option V), σ' = [some (.ref a), some (.ref t), some (.ref sp), some (.ref b), o4, o5, o6, o7] ∧ Ex H5 H' ∧ IntsAt H' t (runM (boundM n rs) ts (ss.take i)))
        (fun H6 e6 => ⟨t, _, _, _, _, rfl, e6, e6 _ _ (e05 _ _ hT)⟩) (fun i σ' H' _ hp => let ⟨_, _, _, _, _, _, e, _⟩ := hp; SqT.of (e _ _ (e05 _ _ hA))) (fun i x σ' H' hi hp => ?_) fun σ' H' hp => ?_
      · obtain ⟨t6, o4, o5, o6, o7, rfl, e6, hT6⟩ := hp
        obtain ⟨c, hc, rfl⟩ := ref_at hi
        obtain ⟨st, hst, hC⟩ := pair_at2 hP hc
        obtain ⟨h1, h2, _, _⟩ := hso.ok st (List.mem_of_getElem? hst)
        refine evp_call (R := fun v H' => ∃ p, v = .ref p ∧ IntsAt H' p (stepM (boundM n rs) (runM (boundM n rs) ts (ss.take i)) st)) (ea_cons (ev_var rfl) (ea_cons (ev_var rfl) (ea_cons (ev_var rfl) ea_nil)))
          (fun H7 e7 Q7 q7 => ⟨b, t6, c, n, boundM n rs, _, st, rfl, hB5.but (d := 0) (e6.trans e7), e7 _ _ hT6, (e6.trans e7) _ _ (e05 _ _ hC), by rw [runM_length, ht.len], n4, h1, by omega, fun p H' e8 h8 => q7 _ H' e8 ⟨p, rfl, h8⟩⟩) H' (Ex.refl H') _ fun v H8 e8 hv => ?_
        obtain ⟨p, rfl, hp8⟩ := hv
        refine ⟨p, _, _, _, _, rfl, e6.trans e8, ?_⟩
        have htk : runM (boundM n rs) ts (ss.take (i + 1)) = stepM (boundM n rs) (runM (boundM n rs) ts (ss.take i)) st := take_fold (stepM (boundM n rs)) ts ss hst
        rw [htk]
        exact hp8
      · obtain ⟨t6, o4, o5, o6, o7, rfl, e6, hT6⟩ := hp
        rw [el, List.take_length] at hT6
        exact s_ret (ev_var rfl) fun H7 e7 => q t6 H7 (e05.trans (e6.trans e7)) (e7 _ _ hT6)
end
end Abl
namespace Abl
open PySem PySem.Spec PyProof.Rows L2
open Evl (Ex Ev EvT EvA EvL EvU EvO ev_var ev_c ev_op ev_is et_is ev_andV ev_orV ev_notV et_and et_or et_not et_B et_test rv_I0 rv_I rv_eq rv_ne ea_nil ea_cons s_ret s_retU s_if s_when q_when q_asg s_asg q_asgL ev_if RetV eu_tup el_lst ev_inU ev_un ru_neg eo_none eo_some el_sl ev_opUU ev_len q_forR1 s_forR1 q_forT rv_isL q_while s_while s_app s_appU q_appU q_cut q_setL s_setL ev_max2 ev_cb)
section
variable {P : Program} {w : World} {K : PySem.W.Frag} {mg : Str → Option Value} {base : Heap}
/-! ### the stream of the law: a list of the script's copy, a rest, a place -/
def Strm (S L : Addr) (H : Hp) : Prop := ∃ (ns : List Int) (c k : Int), H S = some (.lst [.ref L, .int c, .int k]) ∧ H L = some (.lst (ns.map V.int)) ∧ 0 ≤ c ∧ 0 ≤ k ∧ L ≠ S
theorem Strm.ex {H H' : Hp} {S L : Addr} (e : Ex H H') (h : Strm S L H) : Strm S L H' := by
  obtain ⟨ns, c, k, h1, h2, h3⟩ := h
  exact ⟨ns, c, k, e _ _ h1, e _ _ h2, h3⟩
/-- what a call that reads of the stream keeps -/
def Go (S L : Addr) (H H' : Hp) : Prop := But S H H' ∧ Strm S L H'
theorem Go.refl {S L : Addr} {H : Hp} (h : Strm S L H) : Go S L H H := ⟨But.refl S H, h⟩
theorem Go.trans {S L : Addr} {H H1 H2 : Hp} (a : Go S L H H1) (b : Go S L H1 H2) : Go S L H H2 := ⟨a.1.trans b.1, b.2⟩
theorem Go.ex {S L : Addr} {H H1 H2 : Hp} (a : Go S L H H1) (e : Ex H1 H2) : Go S L H H2 := ⟨a.1.trans (But.of e), a.2.ex e⟩
theorem Go.of {S L : Addr} {H H2 : Hp} (h : Strm S L H) (e : Ex H H2) : Go S L H H2 := (Go.refl h).ex e
/-- a list made on the way changes -/
theorem Go.mut {S L : Addr} {H H' : Hp} {p : Addr} {o : HO} (h0 : Strm S L H) (a : Go S L H H') (h : H p = none) : Go S L H (upd H' p o) := by
  obtain ⟨ns0, c0, k0, g1, g2, _⟩ := h0
  obtain ⟨b, ns, c, k, h1, h2, h3⟩ := a
  refine ⟨b.mut h, ns, c, k, ?_, ?_, h3⟩
  · rw [upd_ne (ne_of_none g1 h)]
    exact h1
  · rw [upd_ne (ne_of_none g2 h)]
    exact h2
/-- tuples stand -/
theorem Go.tu {S L : Addr} {H H' : Hp} (h0 : Strm S L H) (a : Go S L H H') : Tu H H' := by
  obtain ⟨_, _, _, g1, _⟩ := h0
  intro b xs h
  exact a.1 b _ (ne_of h g1 fun z => nomatch z) h
/-- the list l, made on the way, stands -/
theorem Go.at {S L : Addr} {H H' : Hp} {p : Addr} {o : HO} (a : Go S L H H') (n : p ≠ S) (h : H p = some o) : H' p = some o := a.1 p o n h
theorem Strm.ne {S L : Addr} {H : Hp} (h : Strm S L H) {p : Addr} (n : H p = none) : p ≠ S := by
  obtain ⟨_, _, _, g1, _⟩ := h
  exact fun e => by rw [e, g1] at n; cases n
abbrev s_law_stream : Stmt := topS 48
theorem sc_law_stream : FnScope ["_law_script"] ["_law_script"] (defScope s_law_stream) := ⟨rfl, rfl, rfl, by decide +kernel, rfl, by decide +kernel, by decide +kernel⟩
def spStream : Sp := fun vs H Q _ => ∃ (a : Addr) (ns : List Int), vs = [.ref a] ∧ SqL K H a (ns.map V.int) ∧ ∀ p L H', Ex H H' → Strm p L H' → Q (.ref p) H'
theorem ok_law_stream (F : Has K mg "_law_stream" s_law_stream ["_law_script"]) (B : Gm mg) : C8.Cal P w K mg base 1 "_law_stream" (spStream (K := K)) [] := by
  refine cal_of F sc_law_stream (fun vs H Q E h => ?_) (fun f cdv A outer s H vs Q E hr h => ?_)
  · obtain ⟨a, ns, rfl, _⟩ := h
    rfl
  · obtain ⟨a, ns, rfl, hS, q⟩ := h
    refine ⟨_, (pss_one (ps_ret (pe_lst (pa_cons (pe_callTy call_list_of (by rfl) B.list (by decide +kernel) (pa_cons (pv 0) pa_nil)) (pa_cons pe_int (pa_cons pe_int pa_nil)))))), ?_⟩
    refine ⟨_, rfl, a, ns.map V.int, rfl, .inl hS, fun L nL => ?_⟩
    refine ⟨show 3 ≤ sizeLine by decide, fun p np => ?_⟩
    have e1 : Ex H (upd H L (.lst (ns.map V.int))) := Ex.new nL
    have nLp : L ≠ p := ne_of_none (upd_same (H := H) (a := L) (o := .lst (ns.map V.int))) np
    refine q p L _ (e1.trans (Ex.new np)) ⟨ns, 0, 0, upd_same, ?_, Int.le_refl _, Int.le_refl _, nLp⟩
    rw [upd_ne nLp]
    exact upd_same
theorem ev_int {σ : L2.St} {H : Hp} {ta : TE} {i : Int} (h : Ev ta σ H (.int i)) : Ev (tCB (fun xs H Q => (∃ i, xs = [.int i] ∧ Q (.int i) H) ∨ ∃ k, xs = [.bl k] ∧ Q (.int (if k then 1 else 0)) H) (tCons ta tNil)) σ H (.int i) := fun H1 e Q q =>
  h H1 e _ fun H2 e2 => .inl ⟨i, rfl, q H2 e2⟩
theorem ev_abs {σ : L2.St} {H : Hp} {ta : TE} {i : Int} (h : Ev ta σ H (.int i)) : Ev (tCB (fun xs H Q => ∃ i, xs = [.int i] ∧ Q (.int (if i < 0 then -i else i)) H) (tCons ta tNil)) σ H (.int (if i < 0 then -i else i)) := fun H1 e Q q =>
  h H1 e _ fun H2 e2 => ⟨i, rfl, q H2 e2⟩
abbrev s_law_next : Stmt := topS 49
theorem sc_law_next : FnScope ["_law_stream_here", "_law_many", "_law_k", "_law_cell", "_law_digit"] ["_law_stream_here", "_law_many"] (defScope s_law_next) := ⟨rfl, rfl, rfl, by decide +kernel, rfl, by decide +kernel, by decide +kernel⟩
def spNext : Sp := fun vs H Q _ => ∃ (S L : Addr) (m : Int), vs = [.ref S, .int m] ∧ Strm S L H ∧ 0 < m ∧ m < 1073741824 ∧ ∀ n H', 0 ≤ n → n < m → Go S L H H' → Q (.int n) H'
theorem ok_law_next (F : Has K mg "_law_next" s_law_next ["_law_stream_here", "_law_many"]) (B : Gm mg) : C8.Cal P w K mg base 1 "_law_next" spNext [] := by
  refine cal_of F sc_law_next (fun vs H Q E h => ?_) (fun f cdv A outer s H vs Q E hr h => ?_)
  · obtain ⟨S, L, m, rfl, _⟩ := h
    rfl
  · obtain ⟨S, L, m, rfl, ⟨ns, c, k, hS, hL, c0, k0, hLS⟩, m0, m1, q⟩ := h
    refine ⟨_, (Evl.pss_cut (ps_if (pt_cmpR op_eq (pe_ix ix_list (pv 0) pe_int (fun _ _ => rfl)) pe_int (nomark _)) (pss_cons (ps_set (i := 2) sc_law_next.nd rfl (by first | exact .inl rfl | exact .inr rfl) (pe_ix ix_list (pv 0) pe_int (fun _ _ => rfl)))
  (pss_cons (ps_set (i := 3) sc_law_next.nd rfl (by first | exact .inl rfl | exact .inr rfl) (pe_op op_add pe_int (pv 2)))
  (Evl.pss_cut (ps_if (pt_cmpR op_lt (pv 2) (pe_callB call_len_seq (by rfl) B.len (by decide +kernel) (pa_cons (pe_ix ix_list (pv 0) pe_int (fun _ _ => rfl)) pa_nil)) (nomark _)) (pss_one (ps_set (i := 3) sc_law_next.nd rfl (by first | exact .inl rfl | exact .inr rfl) (pe_callB call_abs (by rfl) B.abs (by decide +kernel) (pa_cons (pe_ix ix_list (pe_ix ix_list (pv 0) pe_int (fun _ _ => rfl)) (pv 2) (fun _ _ => rfl)) pa_nil)))) pss_nil)
  (Evl.pss_cut (ps_if (pt_cmpR op_lt (pv 3) (pe_op op_pow pe_int pe_int) (nomark _)) (pss_cons (ps_set (i := 3) sc_law_next.nd rfl (by first | exact .inl rfl | exact .inr rfl) (pe_op op_mod (pe_callTy call_int1 (by rfl) B.int (by decide +kernel) (pa_cons (pe_op op_add (pe_op op_add (pe_op op_mul (pv 3) pe_int) (pe_op op_mul (pv 2) pe_int)) pe_int) pa_nil)) pe_int))
  (pss_one (ps_set (i := 3) sc_law_next.nd rfl (by first | exact .inl rfl | exact .inr rfl) (pe_op op_add (pe_op op_mul (pe_op op_mod (pe_callTy call_int1 (by rfl) B.int (by decide +kernel) (pa_cons (pe_op op_add (pe_op op_mul (pv 3) pe_int) pe_int) pa_nil)) pe_int) pe_int) (pv 3))))) pss_nil)
  (pss_cons (ps_asg (pv 3) (pg_sub (pv 0) pe_int set_list))
  (pss_one (ps_asg (pe_op op_add (pv 2) pe_int) (pg_sub (pv 0) pe_int set_list)))))))) pss_nil)
  (pss_cons (ps_set (i := 4) sc_law_next.nd rfl (by first | exact .inl rfl | exact .inr rfl) (pe_op op_mod (pe_callTy call_int1 (by rfl) B.int (by decide +kernel) (pa_cons (pe_ix ix_list (pv 0) pe_int (fun _ _ => rfl)) pa_nil)) (pv 1)))
  (pss_cons (ps_asg (pe_op op_fdiv (pe_ix ix_list (pv 0) pe_int (fun _ _ => rfl)) (pv 1)) (pg_sub (pv 0) pe_int set_list))
  (pss_one (ps_ret (pv 4)))))), ?_⟩
    refine q_cut (M := fun σ2 H2 => (∃ o2 o3 o4, σ2 = [some (.ref S), some (.int m), o2, o3, o4]) ∧ Go S L H H2) ?_ fun σ2 H2 h2 => ?_
    · refine s_when (et_test (ev_op (ev_ixL (ev_var rfl) ev_c hS rfl) ev_c (rv_eq rfl))) (fun z H1 e1 => ?_) fun z H1 e1 => ⟨⟨_, _, _, rfl⟩, But.of e1, ns, c, k, e1 _ _ hS, e1 _ _ hL, c0, k0, hLS⟩
      refine q_asg (ev_ixL (ev_var rfl) ev_c (e1 _ _ hS) rfl) fun H2 e2 => ?_
      refine q_asg (ev_op ev_c (ev_var rfl) rv_I0) fun H3 e3 => ?_
      have e13 := e1.trans (e2.trans e3)
      refine q_cut (M := fun σ2 H4 => ∃ cell : Int, σ2 = [some (.ref S), some (.int m), some (.int k), some (.int cell), none] ∧ 0 ≤ cell ∧ Ex H H4) ?_ fun σ2 H4 h4 => ?_
      · refine s_when (et_test (ev_op (ev_var rfl) (ev_len (ev_ixL (ev_var rfl) ev_c (e13 _ _ hS) rfl) (SqL.of (e13 _ _ hL))) rv_I0)) (fun z H4 e4 => ?_) fun z H4 e4 => ⟨7 + k, rfl, by omega, e13.trans e4⟩
        have hk := of_decide_eq_true z
        rw [List.length_map] at hk
        have hlt : k.toNat < ns.length := by omega
        have e14 := e13.trans e4
        refine s_asg (ev_abs (i := ns[k.toNat]) (ev_ixL (ev_ixL (ev_var rfl) ev_c (e14 _ _ hS) rfl) (ev_var rfl) (e14 _ _ hL) (nat_at (i := k.toNat) (by omega) (by rw [List.getElem?_map, List.getElem?_eq_getElem hlt]; rfl)))) fun H5 e5 => ⟨_, rfl, ?_, e14.trans e5⟩
        split <;> omega
      · obtain ⟨cell, rfl, cell0, e4⟩ := h4
        refine q_cut (M := fun σ2 H4 => ∃ cell : Int, σ2 = [some (.ref S), some (.int m), some (.int k), some (.int cell), none] ∧ 0 ≤ cell ∧ Ex H H4) ?_ fun σ2 H5 h5 => ?_
        · refine s_when (et_test (ev_op (ev_var rfl) (ev_op ev_c ev_c (rv_I ⟨by decide, by decide, by decide⟩)) rv_I0)) (fun z H5 e5 => ?_) fun z H5 e5 => ⟨cell, rfl, cell0, e4.trans e5⟩
          refine q_asg (ev_op (ev_int (ev_op (ev_op (ev_op (ev_var rfl) ev_c (rv_I (.inr ⟨by decide, by decide⟩))) (ev_op (ev_var rfl) ev_c (rv_I (.inr ⟨by decide, by decide⟩))) rv_I0) ev_c rv_I0)) ev_c (rv_I (by decide))) fun H6 e6 => ?_
          refine s_asg (ev_op (ev_op (ev_op (ev_int (ev_op (ev_op (ev_var rfl) ev_c (rv_I (.inr ⟨by decide, by decide⟩))) ev_c rv_I0)) ev_c (rv_I (by decide))) ev_c (rv_I (.inr ⟨by decide, by decide⟩))) (ev_var rfl) rv_I0) fun H7 e7 => ⟨_, rfl, ?_, e4.trans (e5.trans (e6.trans e7))⟩
          have a1 := Int.emod_nonneg (cell * 48271 + k * 69621 + 11) (show (2147483647 : Int) ≠ 0 by decide)
          have a2 := Int.emod_nonneg ((cell * 48271 + k * 69621 + 11) % 2147483647 * 16807 + 13) (show (2147483647 : Int) ≠ 0 by decide)
          omega
        · obtain ⟨cell2, rfl, cell20, e5⟩ := h5
          refine q_setL (j := 1) (e5 _ _ hS) (ev_var rfl) (ev_var rfl) ev_c (show 1 < 3 by decide) fun H6 e6 => ?_
          have e56 := e5.trans e6
          refine s_setL (j := 2) upd_same (ev_op (ev_var rfl) ev_c rv_I0) (ev_var rfl) ev_c (show 2 < 3 by decide) fun H7 e7 => ?_
          refine ⟨⟨_, _, _, rfl⟩, (((But.of e56).put).trans (But.of e7)).put, ns, cell2, k + 1, upd_same, ?_, cell20, by omega, hLS⟩
          rw [upd_ne hLS]
          refine e7 _ _ ?_
          rw [upd_ne hLS]
          exact e56 _ _ hL
    · obtain ⟨⟨o2, o3, o4, rfl⟩, b2, ns2, c2, k2, hS2, hL2, c20, k20, hLS2⟩ := h2
      refine q_asg (ev_op (ev_int (ev_ixL (ev_var rfl) ev_c hS2 rfl)) (ev_var rfl) (rv_I m0)) fun H3 e3 => ?_
      refine q_setL (j := 1) (e3 _ _ hS2) (ev_op (ev_ixL (ev_var rfl) ev_c (e3 _ _ hS2) rfl) (ev_var rfl) (rv_I ⟨m0, m1⟩)) (ev_var rfl) ev_c (show 1 < 3 by decide) fun H4 e4 => ?_
      refine s_ret (ev_var rfl) fun H5 e5 => q _ H5 (Int.emod_nonneg _ (by omega)) (Int.emod_lt_of_pos _ m0) ⟨((b2.trans (But.of (e3.trans e4))).put).trans (But.of e5), ns2, c2 / m, k2, e5 _ _ upd_same, e5 _ _ ?_, Int.ediv_nonneg c20 (by omega), k20, hLS2⟩
      rw [upd_ne hLS2]
      exact (e3.trans e4) _ _ hL2
end
end Abl
namespace Abl
open PySem PySem.Spec PyProof.Rows L2
open Evl (Ex Ev EvT EvA EvL EvU EvO ev_var ev_c ev_op ev_is et_is ev_andV ev_orV ev_notV et_and et_or et_not et_B et_test rv_I0 rv_eq rv_ne ea_nil ea_cons s_ret s_if s_when q_when q_asg ev_if RetV eu_tup ev_inU ev_un ru_neg eo_none eo_some el_sl ev_opUU q_cut s_asg)
section
variable {P : Program} {w : World} {K : PySem.W.Frag} {mg : Str → Option Value} {base : Heap}
abbrev s_law_is_integer : Stmt := topS 50
theorem sc_law_is_integer : FnScope ["_law_actual"] ["_law_actual"] (defScope s_law_is_integer) := ⟨rfl, rfl, rfl, by decide +kernel, rfl, by decide +kernel, by decide +kernel⟩
theorem ok_law_is_integer (F : Has K mg "_law_is_integer" s_law_is_integer ["_law_actual"]) (B : Gm mg) : C8.Cal P w K mg base 1 "_law_is_integer" spInteger [] := by
  refine cal_of F sc_law_is_integer (fun vs H Q E h => ?_) (fun f cdv A outer s H vs Q E hr h => ?_)
  · obtain ⟨v, rfl, _⟩ := h
    rfl
  · obtain ⟨v, rfl, hv, q⟩ := h
    refine ⟨_, (pss_one (ps_ret (pe_and (pe_callB call_isi (by rfl) B.isinstance (by decide +kernel) (pa_cons (pv 0) (pa_cons (pe_bltn (v := .ty "int") (by rfl) B.int_ (by decide +kernel) rfl) pa_nil))) (pe_one (pe_not (pe_callB call_isi (by rfl) B.isinstance (by decide +kernel) (pa_cons (pv 0) (pa_cons (pe_bltn (v := .ty "bool") (by rfl) B.bool_ (by decide +kernel) rfl) pa_nil)))))))), ?_⟩
    rcases hv with ⟨i, rfl⟩ | ⟨b, rfl⟩
    · exact s_ret (ev_andV (ev_isi (ev_var rfl) ev_c (fun _ _ => ty_int) kit_ii) fun _ => ev_notV (ev_isi (ev_var rfl) ev_c (fun _ _ => ty_int) kit_ib)) fun H1 e1 => q H1 e1
    · exact s_ret (ev_andV (ev_isi (ev_var rfl) ev_c (fun _ _ => ty_bl) kit_bi) fun _ => ev_notV (ev_isi (ev_var rfl) ev_c (fun _ _ => ty_bl) kit_bb)) fun H1 e1 => q H1 e1
/-- the steps commute, the first one a raise or of the other's kind -/
abbrev s_law_commute : Stmt := topS 54
theorem sc_law_commute : FnScope ["_law_one", "_law_other"] ["_law_one", "_law_other"] (defScope s_law_commute) := ⟨rfl, rfl, rfl, by decide +kernel, rfl, by decide +kernel, by decide +kernel⟩
def spLcom1 : Sp := fun vs H Q _ => ∃ (a b : Addr) (x y : Stp), vs = [.ref a, .ref b] ∧ StpAt H a x ∧ StpAt H b y ∧ (x.up = y.up ∨ x.up = true) ∧ RetV (.bl (commM x y)) H Q
theorem ok_law_commute1 (F : Has K mg "_law_commute" s_law_commute ["_law_one", "_law_other"]) (B : Gm mg) : C8.Cal P w K mg base 1 "_law_commute" spLcom1 [] := by
  refine cal_of F sc_law_commute (fun vs H Q E h => ?_) (fun f cdv A outer s H vs Q E hr h => ?_)
  · obtain ⟨a, b, x, y, rfl, _⟩ := h
    rfl
  · obtain ⟨a, b, x, y, rfl, hA, hB, hu, q⟩ := h
    refine ⟨_, (pss_cons (ps_if (pt_cmpR op_eq (pe_ix ix_tup (pv 0) pe_int (fun _ _ => rfl)) (pe_ix ix_tup (pv 1) pe_int (fun _ _ => rfl)) (nomark _)) (pss_one (ps_ret pe_bl)) pss_nil)
  (pss_cons (ps_if (pt_cmpR op_eq (pe_ix ix_tup (pv 0) pe_int (fun _ _ => rfl)) pe_str (nomark _)) (pss_one ps_never) pss_nil)
  (pss_one (ps_ret (pe_and (pe_cmpR op_eq (pe_ix ix_tup (pv 0) pe_int (fun _ _ => rfl)) (pe_ix ix_tup (pv 1) pe_int (fun _ _ => rfl)) (nomark _)) (pe_one (pe_cmpR op_le (pe_ix ix_tup (pv 0) pe_int (fun _ _ => rfl)) (pe_ix ix_tup (pv 1) pe_int (fun _ _ => rfl)) (nomark _)))))))), ?_⟩
    refine q_when (et_is (b := decide (x.up = y.up)) (et_test (ev_op (ev_ixT (ev_var rfl) ev_c hA rfl) (ev_ixT (ev_var rfl) ev_c hB rfl) (rv_eq rfl))) (kind_eq x.up y.up)) (fun z H1 e1 => s_ret ev_c fun H2 e2 => ?_) fun z H1 e1 => ?_
    · have q2 := q H2 (e1.trans e2)
      unfold commM at q2
      rw [if_pos (of_decide_eq_true z)] at q2
      exact q2
    · have hA1 := e1 _ _ hA
      have hB1 := e1 _ _ hB
      have hx : x.up = true := hu.resolve_left (of_decide_eq_false z)
      unfold commM at q
      rw [if_neg (of_decide_eq_false z), hx, if_pos rfl] at q
      refine q_no (et_is (et_test (ev_op (ev_ixT (ev_var rfl) ev_c hA1 rfl) ev_c (rv_eq rfl))) ((kind_dn x.up).trans (by rw [hx]; rfl))) fun H2 e2 => ?_
      refine s_ret (ev_is (ev_andV (ev_op (ev_ixT (ev_var rfl) ev_c (e2 _ _ hA1) rfl) (ev_ixT (ev_var rfl) ev_c (e2 _ _ hB1) rfl) (rv_eq rfl)) fun _ => ev_op (ev_ixT (ev_var rfl) ev_c (e2 _ _ hA1) rfl) (ev_ixT (ev_var rfl) ev_c (e2 _ _ hB1) rfl) rv_I0) ?_) fun H3 e3 => q H3 ((e1.trans e2).trans e3)
      rw [dec_i]
theorem commM_symm (x y : Stp) : commM x y = commM y x := by
  obtain ⟨u, e, t⟩ := x
  obtain ⟨u2, e2, t2⟩ := y
  cases u <;> cases u2 <;> rfl
theorem ok_law_commute (F : Has K mg "_law_commute" s_law_commute ["_law_one", "_law_other"]) (B : Gm mg) (G_law_commute : C8.Cal P w K mg base 1 "_law_commute" spLcom1 []) : C8.Cal P w K mg base 2 "_law_commute" spCommute [] := by
  refine cal_of F sc_law_commute (fun vs H Q E h => ?_) (fun f cdv A outer s H vs Q E hr h => ?_)
  · obtain ⟨a, b, x, y, rfl, _⟩ := h
    rfl
  · obtain ⟨a, b, x, y, rfl, hA, hB, q⟩ := h
    refine ⟨_, (pss_cons (ps_if (pt_cmpR op_eq (pe_ix ix_tup (pv 0) pe_int (fun _ _ => rfl)) (pe_ix ix_tup (pv 1) pe_int (fun _ _ => rfl)) (nomark _)) (pss_one (ps_ret pe_bl)) pss_nil)
  (pss_cons (ps_if (pt_cmpR op_eq (pe_ix ix_tup (pv 0) pe_int (fun _ _ => rfl)) pe_str (nomark _)) (pss_one (ps_ret (C8.pe_c G_law_commute hr (by decide) (by rfl) (pa_cons (pv 1) (pa_cons (pv 0) pa_nil))))) pss_nil)
  (pss_one (ps_ret (pe_and (pe_cmpR op_eq (pe_ix ix_tup (pv 0) pe_int (fun _ _ => rfl)) (pe_ix ix_tup (pv 1) pe_int (fun _ _ => rfl)) (nomark _)) (pe_one (pe_cmpR op_le (pe_ix ix_tup (pv 0) pe_int (fun _ _ => rfl)) (pe_ix ix_tup (pv 1) pe_int (fun _ _ => rfl)) (nomark _)))))))), ?_⟩
    refine q_when (et_is (b := decide (x.up = y.up)) (et_test (ev_op (ev_ixT (ev_var rfl) ev_c hA rfl) (ev_ixT (ev_var rfl) ev_c hB rfl) (rv_eq rfl))) (kind_eq x.up y.up)) (fun z H1 e1 => s_ret ev_c fun H2 e2 => ?_) fun z H1 e1 => ?_
    · have q2 := q H2 (e1.trans e2)
      unfold commM at q2
      rw [if_pos (of_decide_eq_true z)] at q2
      exact q2
    · have hA1 := e1 _ _ hA
      have hB1 := e1 _ _ hB
      have hne := of_decide_eq_false z
      cases hx : x.up with
      | false =>
        have hy : y.up = true := by
          cases hy : y.up with
          | false => exact absurd (hx.trans hy.symm) hne
          | true => rfl
        refine q_yes (et_is (et_test (ev_op (ev_ixT (ev_var rfl) ev_c hA1 rfl) ev_c (rv_eq rfl))) ((kind_dn x.up).trans (by rw [hx]; rfl))) fun H2 e2 => ?_
        refine s_ret (ev_call1 (z := .bl (commM x y)) (ea_cons (ev_var rfl) (ea_cons (ev_var rfl) ea_nil)) fun H3 e3 Q3 q3 => ⟨b, a, y, x, rfl, e3 _ _ (e2 _ _ hB1), e3 _ _ (e2 _ _ hA1), .inr hy, ?_⟩) fun H3 e3 => q H3 ((e1.trans e2).trans e3)
        rw [commM_symm y x]
        exact q3
      | true =>
        unfold commM at q
        rw [if_neg hne, hx, if_pos rfl] at q
        refine q_no (et_is (et_test (ev_op (ev_ixT (ev_var rfl) ev_c hA1 rfl) ev_c (rv_eq rfl))) ((kind_dn x.up).trans (by rw [hx]; rfl))) fun H2 e2 => ?_
        refine s_ret (ev_is (ev_andV (ev_op (ev_ixT (ev_var rfl) ev_c (e2 _ _ hA1) rfl) (ev_ixT (ev_var rfl) ev_c (e2 _ _ hB1) rfl) (rv_eq rfl)) fun _ => ev_op (ev_ixT (ev_var rfl) ev_c (e2 _ _ hA1) rfl) (ev_ixT (ev_var rfl) ev_c (e2 _ _ hB1) rfl) rv_I0) ?_) fun H3 e3 => q H3 ((e1.trans e2).trans e3)
        rw [dec_i]
/-- [e for k in range(lo, hi)]: no test -/
theorem el_mapR2 {σ : L2.St} {H : Hp} {te : TE} {ta : TA} {j : Nat} {vs : List Nat} {lo n : Int} (v : Nat → V) (h : EvA ta σ H [.int lo, .int n]) (hn : 0 ≤ lo ∧ lo ≤ 40000 ∧ 0 ≤ n ∧ n ≤ 40000) (hw : ∀ x, wipe ((wipe σ vs).set j (some x)) vs = wipe σ vs)
    (he : ∀ (i : Nat) H1, Ex H H1 → lo + (i : Int) < n → Ev te ((wipe σ vs).set j (some (.int (lo + (i : Int))))) H1 (v i)) : EvL (tLc (iRng2 ta) (gName j) tYes te vs) σ H ((List.range (n - lo).toNat).map v) := fun H0 e Q q => h H0 e _ fun H1 e1 => ⟨lo, n, rfl, ⟨by omega, by omega, by omega, by omega⟩, fun Dl hD =>
  lc_range (lo := lo) (n := (n - lo).toNat) (Evl.Cw H1 (fun _ => true) v Dl) ⟨hD, Ex.new hD, upd_same⟩ (fun i H' hi p => ⟨hw _, Evl.cw_turn p (by omega) et_yes fun _ => he i H1 (e.trans e1) (by omega)⟩) fun H' p => by
    have p2 := p.2.2
    rw [given_all] at p2
    exact q Dl H' (Evl.fresh_back e1 p.1) (e1.trans p.2.1) p2⟩
theorem call_lcommute {σ : L2.St} {H : Hp} {t1 t2 : TE} {a b : Addr} {x y : Stp} (h1 : Ev t1 σ H (.ref a)) (h2 : Ev t2 σ H (.ref b)) (hA : StpAt H a x) (hB : StpAt H b y) : Ev (tCall spCommute [] C8.E0 (tCons t1 (tCons t2 tNil))) σ H (.bl (commM x y)) := call_commute h1 h2 hA hB
abbrev s_law_idle_by : Stmt := topS 55
theorem sc_law_idle_by : FnScope ["_law_steps_here", "_law_index", "_law_by", "_law_kind", "_law_event", "_law_time", "_law_beyond", "_law_k"] ["_law_steps_here", "_law_index", "_law_by"] (defScope s_law_idle_by) := ⟨rfl, rfl, rfl, by decide +kernel, rfl, by decide +kernel, by decide +kernel⟩
theorem ok_law_idle_by (F : Has K mg "_law_idle_by" s_law_idle_by ["_law_steps_here", "_law_index", "_law_by"]) (B : Gm mg) (G_law_commute : C8.Cal P w K mg base 2 "_law_commute" spCommute []) : C8.Cal P w K mg base 3 "_law_idle_by" spIdle [] := by
  refine cal_of F sc_law_idle_by (fun vs H Q E h => ?_) (fun f cdv A outer s H vs Q E hr h => ?_)
  · obtain ⟨p, i, j, ss, rfl, _⟩ := h
    rfl
  · obtain ⟨p, i, j, ss, rfl, ⟨as, hL, hP⟩, hi, hj, h12, q⟩ := h
    have hlen := pair_len hP
    obtain ⟨a, ha, hA⟩ := pair_at hP (List.getElem?_eq_getElem hi)
    obtain ⟨b, hb, hB⟩ := pair_at hP (List.getElem?_eq_getElem hj)
    have ex := List.getElem?_eq_getElem hi
    have ey := List.getElem?_eq_getElem hj
    generalize ss[i] = x at hA ex
    generalize ss[j] = y at hB ey
    have ra : (as.map V.ref)[i]? = some (.ref a) := by rw [List.getElem?_map, ha]; rfl
    have rb : (as.map V.ref)[j]? = some (.ref b) := by rw [List.getElem?_map, hb]; rfl
    have em : idleM ss i j = if i = j ∨ x.up ≠ y.up ∨ x.e ≠ y.e then false else if i < j then !strongM x y else strongM y x && ((ss.take i).drop (j + 1)).all (commM x) := by
      unfold idleM
      rw [ex, ey]
    refine ⟨_, (pss_cons (ps_asg (pe_ix ix_list (pv 0) (pv 1) (fun _ _ => rfl)) (pg_tup (by rfl) (pgs_cons (pg_name (i := 3) sc_law_idle_by.nd rfl (by first | exact .inl rfl | exact .inr rfl)) (pgs_cons (pg_name (i := 4) sc_law_idle_by.nd rfl (by first | exact .inl rfl | exact .inr rfl)) (pgs_cons (pg_name (i := 5) sc_law_idle_by.nd rfl (by first | exact .inl rfl | exact .inr rfl)) pgs_nil)))))
  (pss_cons (ps_if (PW.pt (pw_or (pt_cmpR op_eq (pv 1) (pv 2) (nomark _)) (pw_or (pt_cmpR op_ne (pe_ix ix_tup (pe_ix ix_list (pv 0) (pv 2) (fun _ _ => rfl)) pe_int (fun _ _ => rfl)) (pv 3) (nomark _)) (pw_or1 (pt_cmpR op_ne (pe_ix ix_tup (pe_ix ix_list (pv 0) (pv 2) (fun _ _ => rfl)) pe_int (fun _ _ => rfl)) (pv 4) (nomark _)))))) (pss_one (ps_ret pe_bl)) pss_nil)
  (pss_cons (ps_set (i := 6) sc_law_idle_by.nd rfl (by first | exact .inl rfl | exact .inr rfl) (pe_op op_sub (pe_ix ix_tup (pe_ix ix_list (pv 0) (pv 2) (fun _ _ => rfl)) pe_int (fun _ _ => rfl)) (pv 5)))
  (Evl.pss_cut (ps_if (pt_cmpR op_eq (pv 3) pe_str (nomark _)) (pss_one (ps_set (i := 6) sc_law_idle_by.nd rfl (by first | exact .inl rfl | exact .inr rfl) (pe_op op_sub pe_int (pv 6)))) pss_nil)
  (pss_cons (ps_if (pt_cmpR op_gt (pv 2) (pv 1) (nomark _)) (pss_one (ps_ret (pe_cmpR op_ge (pv 6) pe_int (nomark _)))) pss_nil)
  (pss_one (ps_ret (pe_and (pe_cmpR op_gt (pv 6) pe_int (nomark _)) (pe_one (pe_callB (cr_all rfl) (by rfl) B.all (by decide +kernel) (pa_cons (pe_lc (own := [("_law_k", 7)]) rfl sc_law_idle_by.nd (pi_range2 (by rfl) B.range (pa_cons (pe_op op_add (pv 2) pe_int) (pa_cons (pv 1) pa_nil))) (blkOk_by (N := ["_law_steps_here", "_law_index", "_law_by", "_law_kind", "_law_event", "_law_time", "_law_beyond", "_law_k"]) (sc := (defScope s_law_idle_by)) (by decide +kernel)) (fun _ _ _ _ _ => (pg_name (i := 7) sc_law_idle_by.nd rfl (by first | exact .inl rfl | exact .inr rfl))) (fun _ _ _ _ _ => pts_nil) (fun _ _ _ _ _ => (C8.pe_c G_law_commute hr (by decide) (by rfl) (pa_cons (pe_ix (r := rIxL K) ix_list (pv 0) (pv 1) (fun _ _ => rfl)) (pa_cons (pe_ix (r := rIxL K) ix_list (pv 0) (pv 7) (fun _ _ => rfl)) pa_nil))))) pa_nil))))))))))), ?_⟩
    refine q_unp3 (x := .str (kindS x.up)) (y := .int x.e) (z := .int x.t) (ev_ixL (ev_var rfl) (ev_var rfl) hL (atI_nat ra)) hA fun H1 e1 => ?_
    have hA1 := e1 _ _ hA
    have hB1 := e1 _ _ hB
    have hL1 := e1 _ _ hL
    refine q_when (et_is (b := decide (i = j ∨ x.up ≠ y.up ∨ x.e ≠ y.e)) (et_or (et_test (ev_op (ev_var rfl) (ev_var rfl) (rv_eq rfl))) fun _ => et_or (et_test (ev_op (ev_ixT (ev_ixL (ev_var rfl) (ev_var rfl) hL1 (atI_nat rb)) ev_c hB1 rfl) (ev_var rfl) (rv_ne rfl))) fun _ =>
      et_test (ev_op (ev_ixT (ev_ixL (ev_var rfl) (ev_var rfl) hL1 (atI_nat rb)) ev_c hB1 rfl) (ev_var rfl) (rv_ne rfl))) ?_) (fun z H2 e2 => s_ret ev_c fun H3 e3 => ?_) fun z H2 e2 => ?_
    · rw [dec_n, kind_eq, dec_i]
      by_cases h1 : i = j
      · simp [h1]
      · by_cases h2 : x.up = y.up
        · by_cases h3 : x.e = y.e
          · simp [h1, h2, h3]
          · have h4 : ¬ y.e = x.e := fun e => h3 e.symm
            simp [h1, h2, h3, h4]
        · have h4 : ¬ y.up = x.up := fun e => h2 e.symm
          simp [h1, h2, h4]
    · have q2 := q H3 ((e1.trans e2).trans e3)
      rw [em, if_pos (of_decide_eq_true z)] at q2
      exact q2
    · rw [em, if_neg (of_decide_eq_false z)] at q
      have hij : i ≠ j := fun e => of_decide_eq_false z (.inl e)
      have hup : x.up = y.up := Classical.byContradiction fun e => of_decide_eq_false z (.inr (.inl e))
      refine q_asg (ev_op (ev_ixT (ev_ixL (ev_var rfl) (ev_var rfl) (e2 _ _ hL1) (atI_nat rb)) ev_c (e2 _ _ hB1) rfl) (ev_var rfl) rv_I0) fun H3 e3 => ?_
      refine q_cut (M := fun σ2 H4 => σ2 = [some (.ref p), some (.int (i : Int)), some (.int (j : Int)), some (.str (kindS x.up)), some (.int x.e), some (.int x.t), some (.int (if x.up = true then y.t - x.t else x.t - y.t)), none] ∧ Ex H3 H4) ?_ fun σ2 H4 h4 => ?_
      · refine s_when (et_is (et_test (ev_op (ev_var rfl) ev_c (rv_eq rfl))) (kind_dn x.up)) (fun z2 H4 e4 => ?_) fun z2 H4 e4 => ?_
        · have hu : x.up = false := by simpa using z2
          refine s_asg (ev_op ev_c (ev_var rfl) rv_I0) fun H5 e5 => ⟨?_, e4.trans e5⟩
          rw [hu, if_neg (by decide), show x.t - y.t = 0 - (y.t - x.t) by omega]
          rfl
        · have hu : x.up = true := by simpa using z2
          refine ⟨?_, e4⟩
          rw [hu, if_pos rfl]
          rfl
      · obtain ⟨rfl, e4⟩ := h4
        have e04 := (e1.trans e2).trans (e3.trans e4)
        refine q_when (et_is (et_test (ev_op (ev_var rfl) (ev_var rfl) rv_I0)) (dec_lt i j)) (fun z2 H5 e5 => ?_) fun z2 H5 e5 => ?_
        · rw [if_pos (of_decide_eq_true z2)] at q
          refine s_ret (ev_is (ev_op (ev_var rfl) ev_c rv_I0) ?_) fun H6 e6 => q H6 (e04.trans (e5.trans e6))
          unfold strongM
          cases hu : x.up with
          | true =>
            rw [if_pos rfl, if_pos rfl]
            by_cases h : y.t < x.t
            · rw [decide_eq_true h]
              exact congrArg V.bl (decide_eq_false (by omega))
            · rw [decide_eq_false h]
              exact congrArg V.bl (decide_eq_true (by omega))
          | false =>
            rw [if_neg (by decide), if_neg (by decide)]
            by_cases h : x.t < y.t
            · rw [decide_eq_true h]
              exact congrArg V.bl (decide_eq_false (by omega))
            · rw [decide_eq_false h]
              exact congrArg V.bl (decide_eq_true (by omega))
        · have hlt : j < i := by
            have := of_decide_eq_false z2
            omega
          rw [if_neg (of_decide_eq_false z2)] at q
          have e05 := e04.trans e5
          have hP2 : Paired (StpAt H5) ((as.take i).drop (j + 1)) ((ss.take i).drop (j + 1)) := pair_drop _ (pair_take _ (pair_map hP fun _ _ q => e05 _ _ q))
          have hll := pair_len hP2
          generalize hcs : (as.take i).drop (j + 1) = cs at hP2 hll
          generalize hms : (ss.take i).drop (j + 1) = ms at q hP2 hll
          have hml : ms.length = i - (j + 1) := by
            rw [← hms, List.length_drop, List.length_take]
            omega
          refine s_ret (ev_is (ev_andV (ev_op (ev_var rfl) ev_c rv_I0) fun _ => ev_allF (b := fun k => commM x (ms.getD k d0)) (n := ms.length) ?_) ?_) fun H6 e6 => q H6 (e05.trans e6)
          · rw [show ms.length = ((i : Int) - ((j : Int) + 1)).toNat by omega]
            refine el_mapR2 (fun k => V.bl (commM x (ms.getD k d0))) (ea_cons (ev_op (ev_var rfl) ev_c rv_I0) (ea_cons (ev_var rfl) ea_nil)) ⟨by omega, by omega, by omega, by omega⟩ (fun _ => rfl) fun k H6 e6 hk => ?_
            have hkl : k < ms.length := by omega
            obtain ⟨c, hc, hC⟩ := pair_at hP2 (List.getElem?_eq_getElem hkl)
            have hca : as[j + 1 + k]? = some c := by
              rw [← hcs, List.getElem?_drop, List.getElem?_take] at hc
              split at hc
              · exact hc
              · cases hc
            rw [getD_of (List.getElem?_eq_getElem hkl)]
            refine call_commute (a := a) (b := c) (ev_ixL (ev_var rfl) (ev_var rfl) (e6 _ _ (e05 _ _ hL)) (atI_nat ra)) (ev_ixL (ev_var rfl) (ev_var rfl) (e6 _ _ (e05 _ _ hL)) (nat_at (i := j + 1 + k) (by omega) (by rw [List.getElem?_map, hca]; rfl))) (e6 _ _ (e05 _ _ hA)) (e6 _ _ hC)
          · rw [range_all ms d0 (commM x)]
            have h7 : decide ((if x.up = true then y.t - x.t else x.t - y.t) > 0) = strongM y x := by
              unfold strongM
              rw [← hup]
              cases hu : x.up with
              | true =>
                rw [if_pos rfl, if_pos rfl]
                by_cases h : x.t < y.t
                · rw [decide_eq_true h]
                  exact decide_eq_true (by omega)
                · rw [decide_eq_false h]
                  exact decide_eq_false (by omega)
              | false =>
                rw [if_neg (by decide), if_neg (by decide)]
                by_cases h : y.t < x.t
                · rw [decide_eq_true h]
                  exact decide_eq_true (by omega)
                · rw [decide_eq_false h]
                  exact decide_eq_false (by omega)
            rw [← h7]
end
end Abl
namespace Abl
open PySem PySem.Spec PyProof.Rows L2
open Evl (Ex Ev EvT EvA EvL EvU EvO ev_var ev_c ev_op ev_is et_is ev_andV ev_orV ev_notV et_and et_or et_not et_B et_test rv_I0 rv_eq rv_ne ea_nil ea_cons s_ret s_retU s_if s_when q_when q_asg q_asgL ev_if RetV eu_tup el_lst ev_inU ev_un ru_neg eo_none eo_some el_sl ev_opUU ev_len q_forR1 q_forT rv_isL q_while s_while s_appU q_appU)
section
variable {P : Program} {w : World} {K : PySem.W.Frag} {mg : Str → Option Value} {base : Heap}
abbrev s_law_left : Stmt := topS 63
theorem sc_law_left : FnScope ["_law_steps_here", "_law_value", "_law_left_here", "_law_pair", "_law_here", "_law_at"] ["_law_steps_here", "_law_value"] (defScope s_law_left) := ⟨rfl, rfl, rfl, by decide +kernel, rfl, by decide +kernel, by decide +kernel⟩
theorem ok_law_left (F : Has K mg "_law_left" s_law_left ["_law_steps_here", "_law_value"]) (B : Gm mg) (G_law_is_integer : C8.Cal P w K mg base 1 "_law_is_integer" spInteger []) (G_law_idle_by : C8.Cal P w K mg base 3 "_law_idle_by" spIdle []) : C8.Cal P w K mg base 4 "_law_left" spLeft [] := by
  refine cal_of F sc_law_left (fun vs H Q E h => ?_) (fun f cdv A outer s H vs Q E hr h => ?_)
  · obtain ⟨a, v, ss, its, rfl, _⟩ := h
    rfl
  · obtain ⟨a, v, ss, its, rfl, ⟨as, hA, hP⟩, h12, hv, q⟩ := h
    have hlen := pair_len hP
    refine ⟨_, (pss_cons (ps_if (pt_not (pt_val (pe_callB call_isi (by rfl) B.isinstance (by decide +kernel) (pa_cons (pv 1) (pa_cons (pe_bltn (v := .ty "tuple") (by rfl) B.tuple_ (by decide +kernel) rfl) pa_nil))))) (pss_one (ps_ret pe_non)) pss_nil)
  (pss_cons (ps_set (i := 2) sc_law_left.nd rfl (by first | exact .inl rfl | exact .inr rfl) (pe_listRg rfl (by rfl) B.list (prg_1 (by rfl) B.range (pe_callB call_len_seq (by rfl) B.len (by decide +kernel) (pa_cons (pv 0) pa_nil)))))
  (pss_cons (ps_for PassesOwn.never rfl (pi_tup (pv 1)) (pg_name (i := 3) sc_law_left.nd rfl (by first | exact .inl rfl | exact .inr rfl)) (pss_cons (ps_if (PW.pt (pw_or (pt_not (pt_val (pe_callB call_isi (by rfl) B.isinstance (by decide +kernel) (pa_cons (pv 3) (pa_cons (pe_bltn (v := .ty "tuple") (by rfl) B.tuple_ (by decide +kernel) rfl) pa_nil))))) (pw_or (pt_cmpR op_ne (pe_callB call_len_seq (by rfl) B.len (by decide +kernel) (pa_cons (pv 3) pa_nil)) pe_int (nomark _)) (pw_or1 (pt_not (pt_val (pe_callB (cr_all rfl) (by rfl) B.all (by decide +kernel) (pa_cons (pe_lc (own := [("_law_at", 5)]) rfl sc_law_left.nd (pi_tup (pv 3)) (blkOk_by (N := ["_law_steps_here", "_law_value", "_law_left_here", "_law_pair", "_law_here", "_law_at"]) (sc := (defScope s_law_left)) (by decide +kernel)) (fun _ _ _ _ _ => (pg_name (i := 5) sc_law_left.nd rfl (by first | exact .inl rfl | exact .inr rfl))) (fun _ _ _ _ _ => pts_nil) (fun _ _ _ _ _ => (pe_and (C8.pe_c G_law_is_integer hr (by decide) (by rfl) (pa_cons (pv 5) pa_nil)) (pe_one (pe_cmpR (r := rIn K false) op_in_seq (pv 5) (pv 2) (by rfl)))))) pa_nil)))))))) (pss_one (ps_ret pe_non)) pss_nil)
  (pss_cons (ps_setLc (i := 4) (hc := rfl) (hN := sc_law_left.nd) (hy := rfl) (hyl := rfl) (hsw := sw_true rfl rfl rfl (by decide +kernel)) (own := [("_law_at", 5)]) (pi_list (pv 2)) (blkOk_by (N := ["_law_steps_here", "_law_value", "_law_left_here", "_law_pair", "_law_here", "_law_at"]) (sc := (defScope s_law_left)) (by decide +kernel)) (fun _ _ _ _ _ => (pg_name (i := 5) sc_law_left.nd rfl (by first | exact .inl rfl | exact .inr rfl))) (fun _ _ _ _ _ => pts_nil) (fun _ _ _ _ _ => (pe_ix (r := rIxT K) ix_tup (pv 0) (pv 5) (fun _ _ => rfl))))
  (pss_cons (ps_if (pt_not (pt_val (C8.pe_c G_law_idle_by hr (by decide) (by rfl) (pa_cons (pv 4) (pa_cons (pe_bm PySem.F.plainAttrs_list PySem.F.slot_list_index PySem.F.type_list_index mt_index (pv 2) (pa_cons (pe_ix ix_tup (pv 3) pe_int (fun _ _ => rfl)) pa_nil)) (pa_cons (pe_bm PySem.F.plainAttrs_list PySem.F.slot_list_index PySem.F.type_list_index mt_index (pv 2) (pa_cons (pe_ix ix_tup (pv 3) pe_int (fun _ _ => rfl)) pa_nil)) pa_nil)))))) (pss_one (ps_ret pe_non)) pss_nil)
  (pss_one (ps_expr (pe_bm PySem.F.plainAttrs_list PySem.F.slot_list_remove PySem.F.type_list_remove mt_remove (pv 2) (pa_cons (pe_ix ix_tup (pv 3) pe_int (fun _ _ => rfl)) pa_nil))))))))
  (pss_one (ps_ret (pe_callTy call_tuple_of (by rfl) B.tuple (by decide +kernel) (pa_cons (pe_lc (own := [("_law_at", 5)]) rfl sc_law_left.nd (pi_list (pv 2)) (blkOk_by (N := ["_law_steps_here", "_law_value", "_law_left_here", "_law_pair", "_law_here", "_law_at"]) (sc := (defScope s_law_left)) (by decide +kernel)) (fun _ _ _ _ _ => (pg_name (i := 5) sc_law_left.nd rfl (by first | exact .inl rfl | exact .inr rfl))) (fun _ _ _ _ _ => pts_nil) (fun _ _ _ _ _ => (pe_ix (r := rIxT K) ix_tup (pv 0) (pv 5) (fun _ _ => rfl)))) pa_nil))))))), ?_⟩
    rcases hv with ⟨rfl, rfl⟩ | ⟨b, xs, rfl, hB, rfl⟩ | ⟨b, xs, l, rfl, hB, hI, hz, rfl⟩
    · refine q_yes (et_is (et_not (et_B (ev_isi (ev_var rfl) ev_c (fun _ _ => ty_non) kit_nt))) rfl) fun H1 e1 => ?_
      exact s_ret ev_c fun H2 e2 => q _ H2 (e1.trans e2) rfl
    · refine q_yes (et_is (et_not (et_B (ev_isi (ev_var rfl) ev_c (fun _ e => ty_lst (e _ _ hB)) kit_lt))) rfl) fun H1 e1 => ?_
      exact s_ret ev_c fun H2 e2 => q _ H2 (e1.trans e2) rfl
    refine q_no (et_is (et_not (et_B (ev_isi (ev_var rfl) ev_c (fun _ e => ty_tup (e _ _ hB)) kit_tt))) rfl) fun H1 e1 => ?_
    refine q_asgL (el_rng (n := ss.length) (ev_is (ev_lenT (ev_var rfl) (e1 _ _ hA)) (by rw [List.length_map, hlen])) (by omega)) fun lf H2 nl e2 hl => ?_
    have n0 := Evl.fresh_back e1 nl
    refine q_forT (a := b) (xs := xs) (ev_var rfl) (SqT.of (e2 _ _ (e1 _ _ hB))) (fun k σ' H' => ∃ (ls : List Nat) (o u u2 : Option V), σ' = [some (.ref a), some (.ref b), some (.ref lf), o, u, u2] ∧ Ex H H' ∧ H' lf = some (.lst (nv ls)) ∧ (∀ n ∈ ls, n < ss.length) ∧ ls.length ≤ ss.length ∧ leftAll ss (l.drop k) ls = leftM ss (some l))
      (fun H3 e3 => ⟨List.range ss.length, _, _, _, rfl, (e1.trans e2).trans e3, e3 _ _ hl, fun n hn => List.mem_range.mp hn, by rw [List.length_range]; exact Nat.le_refl _, rfl⟩)
      (fun k σ' H' _ hp => let ⟨_, _, _, _, _, e, _⟩ := hp; SqT.of (e _ _ hB)) (fun k x σ' H' hk hp => ?_) fun σ' H' hp => ?_
    · obtain ⟨ls, o, u, u2, rfl, e3, hl3, hlt, hle, hall⟩ := hp
      obtain ⟨it, hit, hItem⟩ := pair_at2 hI hk
      have hItem := hItem.ex e3
      have ed : l.drop k = it :: l.drop (k + 1) := by
        obtain ⟨hk2, e⟩ := List.getElem?_eq_some_iff.mp hit
        rw [← e]
        exact List.drop_eq_getElem_cons hk2
      rw [ed] at hall
      have bad : leftOne ss ls it = none → leftM ss (some l) = none := fun z => by
        rw [← hall]
        unfold leftAll
        rw [z]
      have hPx : ∀ H5, Ex H' H5 → Paired (StpAt H5) as ss := fun H5 e5 => pair_map hP fun _ _ z => (e3.trans e5) _ _ z
      have giveNone : ∀ H5, Ex H H5 → leftOne ss ls it = none → Q .non H5 := fun H5 e5 z => q _ H5 e5 (by
        unfold rLeft
        rw [bad z])
      rcases hItem with ⟨rfl, rfl⟩ | ⟨c, ys, rfl, hC, rfl⟩ | ⟨c, ys, rfl, hC, hN, hyz, rfl⟩
      · refine q_yes (et_is (et_or (b := false) (et_not (et_B (ev_isi (ev_var rfl) ev_c (fun _ _ => ty_non) kit_nt))) fun z => nomatch z) rfl) fun H4 e4 => ?_
        exact s_ret ev_c fun H5 e5 => giveNone H5 (e3.trans (e4.trans e5)) rfl
      · refine q_yes (et_is (et_or (b := false) (et_not (et_B (ev_isi (ev_var rfl) ev_c (fun _ e => ty_lst (e _ _ hC)) kit_lt))) fun z => nomatch z) rfl) fun H4 e4 => ?_
        exact s_ret ev_c fun H5 e5 => giveNone H5 (e3.trans (e4.trans e5)) rfl
      · refine q_when (b := !(decide (ys.length = 2) && ys.all (itemB ls))) (et_is (et_or (et_not (et_B (ev_isi (ev_var rfl) ev_c (fun _ e => ty_tup (e _ _ hC)) kit_tt))) fun _ => et_or (et_test (ev_op (ev_lenT (ev_var rfl) hC) ev_c (rv_ne rfl))) fun _ =>
          et_not (et_B (ev_items (ev_var rfl) hC hN hyz (fun _ => rfl) hl3 (fun x H4 hn => call_integer (ev_var rfl) hn) (fun _ _ => ev_var rfl) fun _ _ => ev_var rfl))) ?_) (fun z H4 e4 => ?_) fun z H4 e4 => ?_
        · rw [show decide (V.int (ys.length : Int) = V.int 2) = decide (ys.length = 2) from dec_n ys.length 2]
          cases decide (ys.length = 2) <;> simp
        · refine s_ret ev_c fun H5 e5 => giveNone H5 (e3.trans (e4.trans e5)) ?_
          unfold pairOf
          split
          · refine leftOne_no ?_
            rw [items_all] at z
            simpa using z
          · rfl
        · have z2 : (decide (ys.length = 2) && ys.all (itemB ls)) = true := by
            cases hq : (decide (ys.length = 2) && ys.all (itemB ls)) with
            | true => rfl
            | false => rw [hq] at z; cases z
          rw [Bool.and_eq_true] at z2
          obtain ⟨y0, y1, rfl⟩ : ∃ y0 y1, ys = [y0, y1] := by
            have h2 := of_decide_eq_true z2.1
            match ys, h2 with
            | [y0, y1], _ => exact ⟨y0, y1, rfl⟩
          obtain ⟨i0, rfl⟩ : ∃ i, y0 = V.int i := by
            rcases hN y0 (List.mem_cons_self ..) with h | ⟨b0, rfl⟩
            · exact h
            · have h3 := z2.2
              rw [List.all_cons] at h3
              cases h3
          obtain ⟨i1, rfl⟩ : ∃ i, y1 = V.int i := by
            rcases hN y1 (List.mem_cons_of_mem _ (List.mem_cons_self ..)) with h | ⟨b0, rfl⟩
            · exact h
            · have h3 := z2.2
              rw [List.all_cons, List.all_cons, Bool.and_eq_true] at h3
              have h4 := h3.2
              cases h4
          rw [items_all] at z2
          obtain ⟨ia, ib, ha, hb⟩ := both_some z2.2
          have hl4 := e4 _ _ hl3
          have hC4 := e4 _ _ hC
          have el := leftOne_yes (ss := ss) ha hb
          refine q_asgL (el_cur (a := a) (as := as) (ev_var rfl) hl4 (by omega) (fun _ => rfl) ((e3.trans e4) _ _ hA) (fun n hn => by rw [hlen]; exact hlt n hn) (fun _ _ => ev_var rfl) fun _ _ => ev_var rfl) fun hh H4b _ e4b hhh => ?_
          have hl4b := e4b _ _ hl4
          have hC4b := e4b _ _ hC4
          refine q_when (b := !idleM (curM ss ls) ia ib) (et_not (et_B (ev_call1 (ea_cons (ev_var rfl) (ea_cons (ev_index hl4b (ev_var rfl) (ev_ixT (ev_var rfl) ev_c hC4b rfl) ha) (ea_cons (ev_index hl4b (ev_var rfl) (ev_ixT (ev_var rfl) ev_c hC4b rfl) hb) ea_nil)))
            fun H5 e5 Q5 q5 => ⟨hh, ia, ib, curM ss ls, rfl, ⟨_, e5 _ _ hhh, cur_pair (pair_map (hPx H4b (e4.trans e4b)) fun _ _ z => e5 _ _ z) hlt⟩, by rw [curM_len]; exact atM_lt ha, by rw [curM_len]; exact atM_lt hb, by rw [curM_len]; omega, q5⟩))) (fun y H5 e5 => ?_) fun y H5 e5 => ?_
          · refine s_ret ev_c fun H6 e6 => giveNone H6 (e3.trans (e4.trans (e4b.trans (e5.trans e6)))) ?_
            show leftOne ss ls (some (i0, i1)) = none
            rw [el, if_neg (by cases hq : idleM (curM ss ls) ia ib <;> rw [hq] at y <;> simp_all)]
          · have yi : idleM (curM ss ls) ia ib = true := by
              cases hq : idleM (curM ss ls) ia ib with
              | true => rfl
              | false => rw [hq] at y; cases y
            rw [if_pos yi] at el
            refine q_remove (e5 _ _ hl4b) (ev_var rfl) (ev_ixT (ev_var rfl) ev_c (e5 _ _ hC4b) rfl) ha fun H6 e6 => ?_
            refine ⟨ls.eraseIdx ia, _, _, _, rfl, (e3.trans (e4.trans (e4b.trans (e5.trans e6)))).mut n0, upd_same, fun n hn => hlt n (List.mem_of_mem_eraseIdx hn), Nat.le_trans (List.length_eraseIdx_le ls ia) hle, ?_⟩
            rw [← hall]
            have h6 : leftOne ss ls (pairOf [V.int i0, V.int i1]) = some (ls.eraseIdx ia) := el
            show leftAll ss (l.drop (k + 1)) (ls.eraseIdx ia) = leftAll ss (pairOf [V.int i0, V.int i1] :: l.drop (k + 1)) ls
            conv => rhs; unfold leftAll
            rw [h6]
    · obtain ⟨ls, o, u, u2, rfl, e3, hl3, hlt, hle, hall⟩ := hp
      have ed : l.drop xs.length = [] := List.drop_eq_nil_of_le (by rw [pair_len hI]; exact Nat.le_refl _)
      rw [ed] at hall
      have hM : leftM ss (some l) = some ls := hall.symm
      refine s_retU (eu_tupN (el_cur (a := a) (as := as) (ev_var rfl) hl3 (by omega) (fun _ => rfl) (e3 _ _ hA) (fun n hn => by rw [hlen]; exact hlt n hn) (fun _ _ => ev_var rfl) fun _ _ => ev_var rfl)) fun p H4 _ e4 hp => ?_
      refine q _ H4 (e3.trans e4) ?_
      unfold rLeft
      rw [hM]
      exact ⟨p, rfl, _, hp, cur_pair (pair_map hP fun _ _ z => (e3.trans e4) _ _ z) hlt⟩
end
end Abl
namespace Abl
open PySem PySem.Spec PyProof.Rows L2
open Evl (Ex Ev EvT EvA EvL EvU EvO ev_var ev_c ev_op ev_is et_is ev_andV ev_orV ev_notV et_and et_or et_not et_B et_test rv_I0 rv_I rv_eq rv_ne ea_nil ea_cons s_ret s_retU s_if s_when q_when q_asg s_asg q_asgL ev_if RetV eu_tup el_lst ev_inU ev_un ru_neg eo_none eo_some el_sl ev_opUU ev_len q_forR1 s_forR1 q_forT s_forT rv_isL q_while s_while s_app s_appU q_appU q_cut q_setL s_setL ev_max2 ev_cb)
section
variable {P : Program} {w : World} {K : PySem.W.Frag} {mg : Str → Option Value} {base : Heap}
/-! ### evaluation that reads of the stream -/
section
variable {S L : Addr} {σ : L2.St} {H H' : Hp} {ta tb tc te : TE} {D : Ends} {tu tw tz : TS} {R : V → Hp → Prop}
/-- gives some value of which R holds, reading of the stream on the way -/
def EvG (S L : Addr) (te : TE) (σ : L2.St) (H : Hp) (R : V → Hp → Prop) : Prop := ∀ H1, Go S L H H1 → ∀ Q : VK, (∀ v H2, Go S L H1 H2 → R v H2 → Q v H2) → te σ H1 Q
/-- a whole number from a to b -/
def IR (a b : Int) (v : V) (_ : Hp) : Prop := ∃ n : Int, v = .int n ∧ a ≤ n ∧ n ≤ b
theorem eg_ev {v : V} (he : ∀ H1, Go S L H H1 → Ev te σ H1 v) : EvG S L te σ H (fun x _ => x = v) := fun H1 g Q q => he H1 g H1 (Ex.refl H1) Q fun H2 e2 => q v H2 (Go.of g.2 e2) rfl
theorem eg_evp (he : ∀ H1, Go S L H H1 → EvP te σ H1 R) : EvG S L te σ H R := fun H1 g Q q => he H1 g H1 (Ex.refl H1) Q fun v H2 e2 r => q v H2 (Go.of g.2 e2) r
theorem eg_i {a b c : Int} (he : ∀ H1, Go S L H H1 → Ev te σ H1 (.int c)) (h1 : a ≤ c) (h2 : c ≤ b) : EvG S L te σ H (IR a b) := fun H1 g Q q => he H1 g H1 (Ex.refl H1) Q fun H2 e2 => q _ H2 (Go.of g.2 e2) ⟨c, rfl, h1, h2⟩
theorem eg_call {sp : Sp} {E : XK} {ta : TA} {vs : List V} (ha : ∀ H1, Go S L H H1 → EvA ta σ H1 vs) (hs : ∀ H1, Go S L H H1 → ∀ Q : VK, (∀ v H2, Go S L H1 H2 → R v H2 → Q v H2) → sp vs H1 Q E) : EvG S L (tCall sp [] E ta) σ H R := fun H1 g Q q =>
  ha H1 g H1 (Ex.refl H1) _ fun H2 e2 => by
    show sp (vs ++ []) H2 Q E
    rw [List.append_nil]
    exact hs H2 (g.ex e2) Q fun v H3 g3 r => q v H3 ((Go.of g.2 e2).trans g3) r
theorem eg_next {t1 t2 : TE} {m : Int} (ha : ∀ H1, Go S L H H1 → Ev t1 σ H1 (.ref S)) (hb : ∀ H1, Go S L H H1 → Ev t2 σ H1 (.int m)) (m0 : 0 < m) (m1 : m < 1073741824) : EvG S L (tCall spNext [] C8.E0 (tCons t1 (tCons t2 tNil))) σ H (IR 0 (m - 1)) :=
  eg_call (fun H1 g => ea_cons (ha H1 g) (ea_cons (hb H1 g) ea_nil)) fun H1 g Q q => ⟨S, L, m, rfl, g.2, m0, m1, fun n H2 n0 n1 g2 => q _ H2 g2 ⟨n, rfl, n0, by omega⟩⟩
theorem eg_op {r : R2} {R1 R2 R3 : V → Prop} (h1 : EvG S L ta σ H (fun v _ => R1 v)) (h2 : EvG S L tb σ H (fun v _ => R2 v)) (hr : ∀ x y H1, Go S L H H1 → R1 x → R2 y → ∃ z, R3 z ∧ ∀ Q : VK, Q z H1 → r x y H1 Q) : EvG S L (tOp r ta tb) σ H (fun v _ => R3 v) := fun H1 g Q q =>
  h1 H1 g _ fun x H2 g2 r1 => h2 H2 (g.trans g2) _ fun y H3 g3 r2 => by
    obtain ⟨z, r3, hz⟩ := hr x y H3 ((g.trans g2).trans g3) r1 r2
    exact hz _ (q z H3 (g2.trans g3) r3)
theorem eg_opI {f : Int → Int → Int} {a b c d e u : Int} (h1 : EvG S L ta σ H (IR a b)) (h2 : EvG S L tb σ H (IR c d)) (hf : ∀ i j, a ≤ i → i ≤ b → c ≤ j → j ≤ d → e ≤ f i j ∧ f i j ≤ u) : EvG S L (tOp (rI0 fun i j => .int (f i j)) ta tb) σ H (IR e u) := fun H1 g Q q =>
  h1 H1 g _ fun x H2 g2 r1 => h2 H2 (g.trans g2) _ fun y H3 g3 r2 => by
    obtain ⟨i, rfl, i0, i1⟩ := r1
    obtain ⟨j, rfl, j0, j1⟩ := r2
    have z := hf i j i0 i1 j0 j1
    exact ⟨i, j, rfl, rfl, q _ H3 (g2.trans g3) ⟨_, rfl, z.1, z.2⟩⟩
/-- max, min of two -/
theorem eg_max2 {a b c d e u : Int} (h1 : EvG S L ta σ H (IR a b)) (h2 : EvG S L tb σ H (IR c d)) (hf : ∀ i j, a ≤ i → i ≤ b → c ≤ j → j ≤ d → e ≤ mx i j ∧ mx i j ≤ u) : EvG S L (tCB Evl.rMax2 (tCons ta (tCons tb tNil))) σ H (IR e u) := fun H1 g Q q =>
  h1 H1 g _ fun x H2 g2 r1 => h2 H2 (g.trans g2) _ fun y H3 g3 r2 => by
    obtain ⟨i, rfl, i0, i1⟩ := r1
    obtain ⟨j, rfl, j0, j1⟩ := r2
    have z := hf i j i0 i1 j0 j1
    exact ⟨i, j, rfl, q _ H3 (g2.trans g3) ⟨_, rfl, z.1, z.2⟩⟩
theorem eg_min2 {a b c d e u : Int} (h1 : EvG S L ta σ H (IR a b)) (h2 : EvG S L tb σ H (IR c d)) (hf : ∀ i j, a ≤ i → i ≤ b → c ≤ j → j ≤ d → e ≤ mn i j ∧ mn i j ≤ u) : EvG S L (tCB rMin2 (tCons ta (tCons tb tNil))) σ H (IR e u) := fun H1 g Q q =>
  h1 H1 g _ fun x H2 g2 r1 => h2 H2 (g.trans g2) _ fun y H3 g3 r2 => by
    obtain ⟨i, rfl, i0, i1⟩ := r1
    obtain ⟨j, rfl, j0, j1⟩ := r2
    have z := hf i j i0 i1 j0 j1
    exact ⟨i, j, rfl, q _ H3 (g2.trans g3) ⟨_, rfl, z.1, z.2⟩⟩
/-- new tuples -/
theorem eg_tup2 {R1 R2 : V → Prop} (h1 : EvG S L ta σ H (fun v _ => R1 v)) (h2 : EvG S L tb σ H (fun v _ => R2 v)) : EvG S L (tTup (tCons ta (tCons tb tNil))) σ H (fun v H' => ∃ p x y, v = .ref p ∧ H' p = some (.tup [x, y]) ∧ R1 x ∧ R2 y) := fun H1 g Q q =>
  h1 H1 g _ fun x H2 g2 r1 => h2 H2 (g.trans g2) _ fun y H3 g3 r2 => ⟨Evl.sz_of (show 2 ≤ 100000 by decide), fun p hp => q _ _ ((g2.trans g3).ex (Ex.new hp)) ⟨p, x, y, rfl, upd_same, r1, r2⟩⟩
theorem eg_tup3 {R1 R2 R3 : V → Prop} (h1 : EvG S L ta σ H (fun v _ => R1 v)) (h2 : EvG S L tb σ H (fun v _ => R2 v)) (h3 : EvG S L tc σ H (fun v _ => R3 v)) : EvG S L (tTup (tCons ta (tCons tb (tCons tc tNil)))) σ H (fun v H' => ∃ p x y z, v = .ref p ∧ H' p = some (.tup [x, y, z]) ∧ R1 x ∧ R2 y ∧ R3 z) := fun H1 g Q q =>
  h1 H1 g _ fun x H2 g2 r1 => h2 H2 (g.trans g2) _ fun y H3 g3 r2 => h3 H3 ((g.trans g2).trans g3) _ fun z H4 g4 r3 => ⟨Evl.sz_of (show 3 ≤ 100000 by decide), fun p hp => q _ _ (((g2.trans g3).trans g4).ex (Ex.new hp)) ⟨p, x, y, z, rfl, upd_same, r1, r2, r3⟩⟩
theorem eg_mono {R R' : V → Hp → Prop} (h : EvG S L te σ H R) (f : ∀ v H1, R v H1 → R' v H1) : EvG S L te σ H R' := fun H1 g Q q => h H1 g Q fun v H2 g2 r => q v H2 g2 (f v H2 r)
/-- an item of a new list of plain values, of a list that stands: the place read of the stream -/
theorem eg_ixN {ta : TA} {vs : List V} (h0 : ∀ H1, Go S L H H1 → EvL (tLst ta) σ H1 vs) (h : EvG S L tb σ H (IR 0 ((vs.length : Int) - 1))) : EvG S L (tOp (rIxL K) (tLst ta) tb) σ H (fun v _ => v ∈ vs) := fun H1 g Q q =>
  h0 H1 g H1 (Ex.refl H1) _ fun p H2 np e2 hp => h H2 (g.ex e2) _ fun y H3 g3 r => by
    obtain ⟨n, rfl, n0, n1⟩ := r
    have hlt : n.toNat < vs.length := by omega
    have nS : p ≠ S := g.2.ne np
    exact ⟨p, vs, n, vs[n.toNat], rfl, rfl, SqL.of (g3.at nS hp), nat_at (i := n.toNat) (by omega) (List.getElem?_eq_getElem hlt), q _ H3 ((Go.of g.2 e2).trans g3) (List.getElem_mem hlt)⟩
theorem eg_ixL {a : Addr} {vs : List V} (h0 : ∀ H1, Go S L H H1 → Ev ta σ H1 (.ref a)) (ha : H a = some (.lst vs)) (n : a ≠ S) (h : EvG S L tb σ H (IR 0 ((vs.length : Int) - 1))) : EvG S L (tOp (rIxL K) ta tb) σ H (fun v _ => v ∈ vs) := fun H1 g Q q =>
  h0 H1 g H1 (Ex.refl H1) _ fun H2 e2 => h H2 (g.ex e2) _ fun y H3 g3 r => by
    obtain ⟨n, rfl, n0, n1⟩ := r
    have hlt : n.toNat < vs.length := by omega
    exact ⟨a, vs, n, vs[n.toNat], rfl, rfl, SqL.of (((g.ex e2).trans g3).at ‹a ≠ S› ha), nat_at (i := n.toNat) (by omega) (List.getElem?_eq_getElem hlt), q _ H3 ((Go.of g.2 e2).trans g3) (List.getElem_mem hlt)⟩
/-- statements -/
theorem s_asgG {i : Nat} (hs : Strm S L H) (h : EvG S L te σ H R) (k : ∀ v H1, Go S L H H1 → R v H1 → D.nx (σ.set i (some v)) H1) : tAsg te (gName i) D σ H := h H (Go.refl hs) _ k
theorem q_asgG {i : Nat} (hs : Strm S L H) (h : EvG S L te σ H R) (k : ∀ v H1, Go S L H H1 → R v H1 → tz D (σ.set i (some v)) H1) : tSeq (tAsg te (gName i)) tz D σ H := h H (Go.refl hs) _ k
theorem s_retG (hs : Strm S L H) (h : EvG S L te σ H R) (k : ∀ v H1, Go S L H H1 → R v H1 → D.rt v H1) : tRet te D σ H := h H (Go.refl hs) _ k
/-- if e: .. -/
theorem q_whenG {t : TT} (hs : Strm S L H) (h : ∀ Q : Bool → Hp → Prop, (∀ k H1, Go S L H H1 → Q k H1) → t σ H Q) (h1 : ∀ H1, Go S L H H1 → tu { D with nx := tz D } σ H1) (h2 : ∀ H1, Go S L H H1 → tz D σ H1) : tSeq (tIfS t tu tNext) tz D σ H :=
  h _ fun k H1 g => by
    cases k with
    | true => exact h1 H1 g
    | false => exact h2 H1 g
/-- for k in range(n), n read of the stream -/
theorem q_forG {j : Nat} {m : Int} (hs : Strm S L H) (h : EvG S L te σ H (IR 0 m)) (hm : m ≤ 1000) (Pv : Int → Nat → L2.St → Hp → Prop) (h0 : ∀ n H1, n ≤ m → Go S L H H1 → Pv n 0 σ H1)
    (hi : ∀ n (i : Nat) σ' H', (i : Int) < n → Pv n i σ' H' → tu { D with nx := Pv n (i + 1), ct := Pv n (i + 1), bk := tz D } (σ'.set j (some (.int (i : Int)))) H') (hd : ∀ (n : Int) σ' H', 0 ≤ n → Pv n n.toNat σ' H' → tz D σ' H') : tSeq (tFor (iRng1 (tCons te tNil)) (gName j) tu) tz D σ H :=
  h H (Go.refl hs) _ fun v H1 g r => by
    obtain ⟨n, rfl, n0, n1⟩ := r
    refine ⟨n, rfl, by omega, by omega, for_range (lo := 0) (n := n.toNat) (Pv n) (h0 n H1 n1 g) (fun i σ' H' hi2 p => ?_) fun σ' H' p => hd n σ' H' n0 p⟩
    have e0 : (0 : Int) + (i : Int) = (i : Int) := Int.zero_add _
    show tu { D with nx := Pv n (i + 1), ct := Pv n (i + 1), bk := tz D } (σ'.set j (some (.int ((0 : Int) + (i : Int))))) H'
    rw [e0]
    exact hi n i σ' H' (by omega) p
/-- l.append(e) -/
theorem s_appG {l : Addr} {xs : List V} (hs : Strm S L H) (hl : H l = some (.lst xs)) (nl : l ≠ S) (ha : Ev ta σ H (.ref l)) (h : EvG S L te σ H R) (hz : xs.length < 100000) (k : ∀ v H1, Go S L H H1 → R v H1 → D.nx σ (upd H1 l (.lst (xs ++ [v])))) :
    tDrop (tBM K "list" rAppend ta (tCons te tNil)) D σ H := ha H (Ex.refl H) _ fun H1 e1 =>
  ⟨Or.inl ⟨rfl, xs, SqL.of (e1 l _ hl)⟩, h H1 (Go.of hs e1) _ fun v H2 g2 r => ⟨l, xs, v, rfl, rfl, g2.at nl (e1 l _ hl), Evl.sz_lt hz, k v H2 ((Go.of hs e1).trans g2) r⟩⟩
end
section
variable {σ : L2.St} {H : Hp} {ta tb te : TE} {D : Ends}
theorem q1_asgP {i : Nat} {R : V → Hp → Prop} (h : EvP te σ H R) (k : ∀ v H1, Ex H H1 → R v H1 → D.nx (σ.set i (some v)) H1) : tAsg te (gName i) D σ H := h H (Ex.refl H) _ fun v H1 e r => k v H1 e r
/-- [new tuple, new tuple] -/
theorem evp_lst2 {xs ys : List V} (h1 : EvU ta σ H xs) (h2 : EvU tb σ H ys) : EvP (tLst (tCons ta (tCons tb tNil))) σ H (fun v H' => ∃ l p1 p2, v = .ref l ∧ H' l = some (.lst [.ref p1, .ref p2]) ∧ H' p1 = some (.tup xs) ∧ H' p2 = some (.tup ys)) := fun H1 e Q q =>
  h1 H1 e _ fun p1 H2 _ e2 hp1 => h2 H2 (e.trans e2) _ fun p2 H3 _ e3 hp2 => ⟨Evl.sz_of (show 2 ≤ 100000 by decide), fun l hl => q _ _ ((e2.trans e3).trans (Ex.new hl)) ⟨l, p1, p2, rfl, upd_same, Ex.new hl _ _ (e3 _ _ hp1), Ex.new hl _ _ hp2⟩⟩
/-- l + m, m a list told by a property -/
theorem evp_catL {l : Addr} {xs : List V} {R : V → Hp → Prop} (h1 : Ev ta σ H (.ref l)) (hl : H l = some (.lst xs)) (h2 : EvP tb σ H R) (hR : ∀ v H1, Ex H H1 → R v H1 → ∃ b zs, v = .ref b ∧ H1 b = some (.lst zs) ∧ xs.length + zs.length ≤ 100000) :
    EvP (tOp rCat ta tb) σ H (fun v H' => ∃ p zs H0 b, v = .ref p ∧ H' p = some (.lst (xs ++ zs)) ∧ Ex H0 H' ∧ H0 b = some (.lst zs) ∧ R (.ref b) H0) := fun H1 e Q q =>
  h1 H1 e _ fun H2 e2 => h2 H2 (e.trans e2) _ fun v H3 e3 r => by
    obtain ⟨b, zs, rfl, hb, hz⟩ := hR v H3 ((e.trans e2).trans e3) r
    exact ⟨l, b, xs, zs, rfl, rfl, ((e.trans e2).trans e3) _ _ hl, hb, Evl.sz_of hz, fun p hp => q _ _ ((e2.trans e3).trans (Ex.new hp)) ⟨p, zs, H3, b, rfl, upd_same, Ex.new hp, hb, r⟩⟩
end
/-! ### lists of steps, of news -/
def StpV (H : Hp) (v : V) : Prop := ∃ (b : Addr) (s : Stp), v = .ref b ∧ StpAt H b s ∧ s.ok
theorem StpV.ts {H H' : Hp} {v : V} (e : Tu H H') (h : StpV H v) : StpV H' v := by
  obtain ⟨b, s, h1, h2, h3⟩ := h
  exact ⟨b, s, h1, e _ _ h2, h3⟩
theorem steps_of {H : Hp} : ∀ {xs : List V}, (∀ x ∈ xs, StpV H x) → ∃ (as : List Addr) (ss : List Stp), xs = as.map V.ref ∧ Paired (StpAt H) as ss ∧ ∀ s ∈ ss, s.ok
  | [], _ => ⟨[], [], rfl, .nil, fun _ h => nomatch h⟩
  | x :: r, h => by
    obtain ⟨b, s, rfl, h2, h3⟩ := h x (List.mem_cons_self ..)
    obtain ⟨as, ss, e, hp, ho⟩ := steps_of (xs := r) fun y hy => h y (List.mem_cons_of_mem _ hy)
    refine ⟨b :: as, s :: ss, by rw [e]; rfl, .cons h2 hp, fun t ht => ?_⟩
    rcases List.mem_cons.mp ht with e | ht
    · rw [e]; exact h3
    · exact ho t ht
/-- a tuple of steps, as the law draws them -/
def rSteps (v : V) (H : Hp) : Prop := ∃ (p : Addr) (ss : List Stp), v = .ref p ∧ StepsAt H p ss ∧ StepsOk ss
theorem rSteps_of {H : Hp} {p : Addr} {xs : List V} (hp : H p = some (.tup xs)) (h : ∀ x ∈ xs, StpV H x) (hl : xs.length ≤ 12) : rSteps (.ref p) H := by
  obtain ⟨as, ss, rfl, h2, h3⟩ := steps_of h
  refine ⟨p, ss, rfl, ⟨as, hp, h2⟩, ⟨?_, h3⟩⟩
  rw [← pair_len h2]
  rw [List.length_map] at hl
  exact hl
def NewV (H : Hp) (v : V) : Prop := ∃ (b : Addr) (e t : Int), v = .ref b ∧ H b = some (.tup [.int e, .int t]) ∧ 0 ≤ e ∧ e ≤ 2 ∧ -500 ≤ t ∧ t ≤ 500
theorem NewV.ts {H H' : Hp} {v : V} (e : Tu H H') (h : NewV H v) : NewV H' v := by
  obtain ⟨b, x, y, h1, h2, h3⟩ := h
  exact ⟨b, x, y, h1, e _ _ h2, h3⟩
def rNews (v : V) (H : Hp) : Prop := ∃ (p : Addr) (xs : List V), v = .ref p ∧ H p = some (.tup xs) ∧ xs.length ≤ 6 ∧ ∀ x ∈ xs, NewV H x
abbrev s_law_steps : Stmt := topS 52
theorem sc_law_steps : FnScope ["_law_row", "_law_found", "_law_event", "_law_time"] ["_law_row"] (defScope s_law_steps) := ⟨rfl, rfl, rfl, by decide +kernel, rfl, by decide +kernel, by decide +kernel⟩
def spLSteps : Sp := fun vs H Q _ => ∃ v, vs = [v] ∧ rNews v H ∧ ∀ v H', Ex H H' → rSteps v H' → Q v H'
theorem ok_law_steps (F : Has K mg "_law_steps" s_law_steps ["_law_row"]) (B : Gm mg) : C8.Cal P w K mg base 1 "_law_steps" spLSteps [] := by
  refine cal_of F sc_law_steps (fun vs H Q E h => ?_) (fun f cdv A outer s H vs Q E hr h => ?_)
  · obtain ⟨v, rfl, _⟩ := h
    rfl
  · obtain ⟨_, rfl, ⟨p, xs, rfl, hp, h6, hx⟩, q⟩ := h
    refine ⟨_, (pss_cons (ps_set (i := 1) sc_law_steps.nd rfl (by first | exact .inl rfl | exact .inr rfl) (pe_lst pa_nil))
  (pss_cons (ps_for PassesOwn.never rfl (pi_tup (pv 0)) (pg_tup (by rfl) (pgs_cons (pg_name (i := 2) sc_law_steps.nd rfl (by first | exact .inl rfl | exact .inr rfl)) (pgs_cons (pg_name (i := 3) sc_law_steps.nd rfl (by first | exact .inl rfl | exact .inr rfl)) pgs_nil))) (pss_one (ps_set (i := 1) sc_law_steps.nd rfl (by first | exact .inl rfl | exact .inr rfl) (pe_op op_cat (pv 1) (pe_lst (pa_cons (pe_tup (pa_cons pe_str (pa_cons (pv 2) (pa_cons (pv 3) pa_nil)))) (pa_cons (pe_tup (pa_cons pe_str (pa_cons (pv 2) (pa_cons (pv 3) pa_nil)))) pa_nil)))))))
  (pss_one (ps_ret (pe_callTy call_tuple_of (by rfl) B.tuple (by decide +kernel) (pa_cons (pv 1) pa_nil)))))), ?_⟩
    refine q_asgL (el_lst ea_nil (by decide)) fun l H1 nl e1 hl => ?_
    refine q_forT (a := p) (xs := xs) (ev_var rfl) (SqT.of (e1 _ _ hp)) (fun k σ' H' => ∃ (l : Addr) (ys : List V) (o u : Option V), σ' = [some (.ref p), some (.ref l), o, u] ∧ Ex H H' ∧ H' l = some (.lst ys) ∧ ys.length = 2 * k ∧ ∀ y ∈ ys, StpV H' y)
      (fun H2 e2 => ⟨l, [], _, _, rfl, e1.trans e2, e2 _ _ hl, rfl, fun _ h => nomatch h⟩) (fun k σ' H' _ hv => let ⟨_, _, _, _, _, e, _⟩ := hv; SqT.of (e _ _ hp)) (fun k x σ' H' hk hv => ?_) fun σ' H' hv => ?_
    · obtain ⟨l, ys, o, u, rfl, e2, hl2, hn, hy⟩ := hv
      obtain ⟨b, e, t, rfl, hb, g1, g2, g3, g4⟩ := hx x (List.mem_of_getElem? hk)
      have hk6 := (List.getElem?_eq_some_iff.mp hk).1
      refine ⟨b, _, rfl, SqT.of (e2 _ _ hb), rfl, _, _, rfl, _, _, rfl, rfl, ?_⟩
      refine q1_asgP (evp_catL (ev_var rfl) hl2 (evp_lst2 (eu_tup (vs := [.str (kindS true), .int e, .int t]) (ea_cons ev_c (ea_cons (ev_var rfl) (ea_cons (ev_var rfl) ea_nil))) (show 3 ≤ 100000 by decide)) (eu_tup (vs := [.str (kindS false), .int e, .int t]) (ea_cons ev_c (ea_cons (ev_var rfl) (ea_cons (ev_var rfl) ea_nil))) (show 3 ≤ 100000 by decide)))
        fun v H3 e3 hv3 => ?_) fun v H3 e3 hv3 => ?_
      · obtain ⟨l2, p1, p2, rfl, h1, _⟩ := hv3
        exact ⟨l2, _, rfl, h1, by show ys.length + 2 ≤ 100000; omega⟩
      obtain ⟨l3, zs, H0, b2, rfl, hl3, e6, hb2, hR⟩ := hv3
      obtain ⟨_, p1, p2, hbb, h1, hp1, hp2⟩ := hR
      cases hbb
      have hz := hb2.symm.trans h1
      have hz2 : zs = [.ref p1, .ref p2] := by
        injection hz with hz
        injection hz
      subst hz2
      refine ⟨l3, ys ++ [.ref p1, .ref p2], _, _, rfl, e2.trans e3, hl3, by rw [List.length_append, hn]; show 2 * k + 2 = _; omega, fun y hm => ?_⟩
      rcases List.mem_append.mp hm with hm | hm
      · exact (hy y hm).ts (Tu.of e3)
      · rcases List.mem_cons.mp hm with rfl | hm
        · exact ⟨p1, ⟨true, e, t⟩, rfl, e6 _ _ hp1, g1, g2, g3, g4⟩
        · have := List.mem_singleton.mp hm
          subst this
          exact ⟨p2, ⟨false, e, t⟩, rfl, e6 _ _ hp2, g1, g2, g3, g4⟩
    · obtain ⟨l, ys, o, u, rfl, e2, hl2, hn, hy⟩ := hv
      exact s_retU (eu_tupL (ev_var rfl) hl2) fun p H3 _ e3 hp3 => q _ H3 (e2.trans e3) (rSteps_of hp3 (fun y hm => (hy y hm).ts (Tu.of e3)) (by omega))
end
end Abl
namespace Abl
open PySem PySem.Spec PyProof.Rows L2
open Evl (Ex Ev EvT EvA EvL EvU EvO ev_var ev_c ev_op ev_is et_is ev_andV ev_orV ev_notV et_and et_or et_not et_B et_test rv_I0 rv_I rv_eq rv_ne ea_nil ea_cons s_ret s_retU s_if s_when q_when q_asg s_asg q_asgL ev_if RetV eu_tup el_lst ev_inU ev_un ru_neg eo_none eo_some el_sl ev_opUU ev_len q_forR1 s_forR1 q_forT s_forT rv_isL q_while s_while s_app s_appU q_appU q_cut q_setL s_setL ev_max2 ev_cb)
section
variable {P : Program} {w : World} {K : PySem.W.Frag} {mg : Str → Option Value} {base : Heap}
abbrev s_law_some_steps : Stmt := topS 53
theorem sc_law_some_steps : FnScope ["_law_stream_here", "_law_events", "_law_most", "_law_found", "_law_k", "_law_word"] ["_law_stream_here", "_law_events", "_law_most"] (defScope s_law_some_steps) := ⟨rfl, rfl, rfl, by decide +kernel, rfl, by decide +kernel, by decide +kernel⟩
/-- steps drawn of the stream -/
def spSome : Sp := fun vs H Q _ => ∃ (S L : Addr), vs = [.ref S, .int 3, .int 10] ∧ Strm S L H ∧ ∀ v H', Go S L H H' → rSteps v H' → Q v H'
theorem ok_law_some_steps (F : Has K mg "_law_some_steps" s_law_some_steps ["_law_stream_here", "_law_events", "_law_most"]) (B : Gm mg) (G_law_next : C8.Cal P w K mg base 1 "_law_next" spNext []) : C8.Cal P w K mg base 2 "_law_some_steps" spSome [] := by
  refine cal_of F sc_law_some_steps (fun vs H Q E h => ?_) (fun f cdv A outer s H vs Q E hr h => ?_)
  · obtain ⟨S, L, rfl, _⟩ := h
    rfl
  · obtain ⟨S, L, rfl, hS, q⟩ := h
    refine ⟨_, (pss_cons (ps_set (i := 3) sc_law_some_steps.nd rfl (by first | exact .inl rfl | exact .inr rfl) (pe_lst pa_nil))
  (pss_cons (ps_for PassesOwn.never rfl (pi_range1 (by rfl) B.range (pa_cons (C8.pe_c G_law_next hr (by decide) (by rfl) (pa_cons (pv 0) (pa_cons (pe_op op_add (pv 2) pe_int) pa_nil))) pa_nil)) (pg_name (i := 4) sc_law_some_steps.nd rfl (by first | exact .inl rfl | exact .inr rfl)) (pss_cons (ps_set (i := 5) sc_law_some_steps.nd rfl (by first | exact .inl rfl | exact .inr rfl) (pe_ix ix_list (pe_lst (pa_cons pe_str (pa_cons pe_str pa_nil))) (C8.pe_c G_law_next hr (by decide) (by rfl) (pa_cons (pv 0) (pa_cons pe_int pa_nil))) (fun _ _ => rfl)))
  (pss_one (ps_expr (pe_bm PySem.F.plainAttrs_list PySem.F.slot_list_append PySem.F.type_list_append mt_append (pv 3) (pa_cons (pe_tup (pa_cons (pv 5) (pa_cons (C8.pe_c G_law_next hr (by decide) (by rfl) (pa_cons (pv 0) (pa_cons (pv 1) pa_nil))) (pa_cons (pe_op op_sub (C8.pe_c G_law_next hr (by decide) (by rfl) (pa_cons (pv 0) (pa_cons pe_int pa_nil))) pe_int) pa_nil)))) pa_nil))))))
  (pss_one (ps_ret (pe_callTy call_tuple_of (by rfl) B.tuple (by decide +kernel) (pa_cons (pv 3) pa_nil)))))), ?_⟩
    refine q_asgL (el_lst ea_nil (by decide)) fun l H1 nl e1 hl => ?_
    have nlS := hS.ne nl
    have g1 : Go S L H H1 := Go.of hS e1
    refine q_forG (S := S) (L := L) (m := 10) g1.2 (eg_next (m := 11) (fun _ _ => ev_var rfl) (fun _ _ => ev_op (ev_var rfl) ev_c rv_I0) (by decide) (by decide)) (by decide) (fun n k σ' H' => n ≤ 10 ∧ ∃ (xs : List V) (o u : Option V), σ' = [some (.ref S), some (.int 3), some (.int 10), some (.ref l), o, u] ∧ Go S L H H' ∧ H' l = some (.lst xs) ∧ xs.length = k ∧ ∀ x ∈ xs, StpV H' x)
      (fun n H2 hn g2 => ⟨hn, [], _, _, rfl, g1.trans g2, g2.at nlS hl, rfl, fun _ h => nomatch h⟩) (fun n k σ' H' hk hv => ?_) fun n σ' H' hn hv => ?_
    · obtain ⟨hn, xs, o, u, rfl, g2, hl2, hlen, hx⟩ := hv
      refine q_asgG g2.2 (eg_ixN (vs := [.str (kindS true), .str (kindS false)]) (fun _ _ => el_lst (ea_cons ev_c (ea_cons ev_c ea_nil)) (show 2 ≤ 100000 by decide)) (eg_next (m := 2) (fun _ _ => ev_var rfl) (fun _ _ => ev_c) (by decide) (by decide))) fun v H3 g3 hv => ?_
      obtain ⟨up, rfl⟩ : ∃ up, v = .str (kindS up) := by
        rcases List.mem_cons.mp hv with rfl | hv
        · exact ⟨true, rfl⟩
        · have := List.mem_singleton.mp hv
          subst this
          exact ⟨false, rfl⟩
      refine s_appG (S := S) (L := L) g3.2 (g3.at nlS hl2) nlS (ev_var rfl) (eg_tup3 (R1 := fun v => v = .str (kindS up)) (R2 := fun v => IR 0 2 v H) (R3 := fun v => IR (-3) 3 v H) (eg_ev fun _ _ => ev_var rfl) (eg_next (m := 3) (fun _ _ => ev_var rfl) (fun _ _ => ev_var rfl) (by decide) (by decide))
        (eg_opI (a := 0) (b := 6) (c := 3) (d := 3) (eg_next (m := 7) (fun _ _ => ev_var rfl) (fun _ _ => ev_c) (by decide) (by decide)) (eg_i (fun _ _ => ev_c) (by decide) (by decide)) fun i j _ _ _ _ => by omega)) (by omega) fun v H4 g4 r => ?_
      obtain ⟨p, x, y, z, rfl, hp, rfl, ⟨ye, rfl, y0, y1⟩, ⟨zt, rfl, z0, z1⟩⟩ := r
      have g24 := g3.trans g4
      have t5 : Tu H4 (upd H4 l (.lst (xs ++ [.ref p]))) := Tu.put (g24.at nlS hl2) fun _ z => nomatch z
      refine ⟨hn, xs ++ [.ref p], _, _, rfl, (g2.trans g24).mut hS nl, upd_same, by rw [List.length_append, hlen]; rfl, fun a ha => ?_⟩
      rcases List.mem_append.mp ha with ha | ha
      · exact (hx a ha).ts ((g24.tu g2.2).trans t5)
      · have := List.mem_singleton.mp ha
        subst this
        exact ⟨p, ⟨up, ye, zt⟩, rfl, t5 _ _ hp, y0, y1, show -500 ≤ zt by omega, show zt ≤ 500 by omega⟩
    · obtain ⟨hn, xs, o, u, rfl, g2, hl2, hlen, hx⟩ := hv
      exact s_retU (eu_tupL (ev_var rfl) hl2) fun p H3 _ e3 hp3 => q _ H3 (g2.ex e3) (rSteps_of hp3 (fun y hm => (hx y hm).ts (Tu.of e3)) (by omega))
abbrev s_law_news : Stmt := topS 51
theorem sc_law_news : FnScope ["_law_stream_here", "_law_events", "_law_most", "_law_row", "_law_k", "_law_news_here", "_law_pick"] ["_law_stream_here", "_law_events", "_law_most"] (defScope s_law_news) := ⟨rfl, rfl, rfl, by decide +kernel, rfl, by decide +kernel, by decide +kernel⟩
def spNews : Sp := fun vs H Q _ => ∃ (S L : Addr), vs = [.ref S, .int 3, .int 6] ∧ Strm S L H ∧ ∀ v H', Go S L H H' → rNews v H' → Q v H'
theorem truL {H : Hp} {l : Addr} {xs : List V} (h : H l = some (.lst xs)) : TruV K (.ref l) H (!xs.isEmpty) := .inl ⟨xs, SqL.of h, rfl⟩
/-- if a list: .. -/
theorem et_tru {σ : L2.St} {H : Hp} {te : TE} {l : Addr} {xs : List V} (h : Ev te σ H (.ref l)) (hl : H l = some (.lst xs)) : EvT (fun σ H Q => te σ H fun x H' => ∃ k, TruV K x H' k ∧ Q k H') σ H (!xs.isEmpty) := fun H1 e Q q =>
  h H1 e _ fun H2 e2 => ⟨_, truL (e2 _ _ (e _ _ hl)), q H2 e2⟩
theorem ok_law_news (F : Has K mg "_law_news" s_law_news ["_law_stream_here", "_law_events", "_law_most"]) (B : Gm mg) (G_law_next : C8.Cal P w K mg base 1 "_law_next" spNext []) : C8.Cal P w K mg base 2 "_law_news" spNews [] := by
  refine cal_of F sc_law_news (fun vs H Q E h => ?_) (fun f cdv A outer s H vs Q E hr h => ?_)
  · obtain ⟨S, L, rfl, _⟩ := h
    rfl
  · obtain ⟨S, L, rfl, hS, q⟩ := h
    refine ⟨_, (pss_cons (ps_set (i := 3) sc_law_news.nd rfl (by first | exact .inl rfl | exact .inr rfl) (pe_lst pa_nil))
  (pss_cons (ps_for PassesOwn.never rfl (pi_range1 (by rfl) B.range (pa_cons (C8.pe_c G_law_next hr (by decide) (by rfl) (pa_cons (pv 0) (pa_cons (pe_op op_add (pv 2) pe_int) pa_nil))) pa_nil)) (pg_name (i := 4) sc_law_news.nd rfl (by first | exact .inl rfl | exact .inr rfl)) (pss_cons (ps_set (i := 5) sc_law_news.nd rfl (by first | exact .inl rfl | exact .inr rfl) (pe_tup (pa_cons (C8.pe_c G_law_next hr (by decide) (by rfl) (pa_cons (pv 0) (pa_cons (pv 1) pa_nil))) (pa_cons (pe_op op_sub (C8.pe_c G_law_next hr (by decide) (by rfl) (pa_cons (pv 0) (pa_cons pe_int pa_nil))) pe_int) pa_nil))))
  (pss_cons (ps_set (i := 6) sc_law_news.nd rfl (by first | exact .inl rfl | exact .inr rfl) (C8.pe_c G_law_next hr (by decide) (by rfl) (pa_cons (pv 0) (pa_cons pe_int pa_nil))))
  (Evl.pss_cut (ps_if (PW.pt (pw_and (pt_cmpR op_eq (pv 6) pe_int (nomark _)) (pw_and1 (pt_truth (pv 3) (by intro _; rfl))))) (pss_one (ps_set (i := 5) sc_law_news.nd rfl (by first | exact .inl rfl | exact .inr rfl) (pe_ix ix_list (pv 3) (C8.pe_c G_law_next hr (by decide) (by rfl) (pa_cons (pv 0) (pa_cons (pe_callB call_len_seq (by rfl) B.len (by decide +kernel) (pa_cons (pv 3) pa_nil)) pa_nil))) (fun _ _ => rfl)))) pss_nil)
  (Evl.pss_cut (ps_if (PW.pt (pw_and (pt_cmpR op_eq (pv 6) pe_int (nomark _)) (pw_and1 (pt_truth (pv 3) (by intro _; rfl))))) (pss_one (ps_set (i := 5) sc_law_news.nd rfl (by first | exact .inl rfl | exact .inr rfl) (pe_tup (pa_cons (pe_ix ix_tup (pe_ix ix_list (pv 3) (pe_un un_neg pe_int) (fun _ _ => rfl)) pe_int (fun _ _ => rfl)) (pa_cons (pe_callB (call_max2 rfl) (by rfl) B.max (by decide +kernel) (pa_cons (pe_un un_neg pe_int) (pa_cons (pe_callB (call_min2 rfl) (by rfl) B.min (by decide +kernel) (pa_cons pe_int (pa_cons (pe_op op_sub (pe_op op_add (pe_ix ix_tup (pe_ix ix_list (pv 3) (pe_un un_neg pe_int) (fun _ _ => rfl)) pe_int (fun _ _ => rfl)) (C8.pe_c G_law_next hr (by decide) (by rfl) (pa_cons (pv 0) (pa_cons pe_int pa_nil)))) pe_int) pa_nil))) pa_nil))) pa_nil))))) pss_nil)
  (Evl.pss_cut (ps_if (pt_cmpR op_eq (pv 6) pe_int (nomark _)) (pss_one (ps_set (i := 5) sc_law_news.nd rfl (by first | exact .inl rfl | exact .inr rfl) (pe_tup (pa_cons (pe_ix ix_tup (pv 5) pe_int (fun _ _ => rfl)) (pa_cons (pe_ix ix_list (pe_lst (pa_cons (pe_un un_neg pe_int) (pa_cons pe_int (pa_cons pe_int pa_nil)))) (C8.pe_c G_law_next hr (by decide) (by rfl) (pa_cons (pv 0) (pa_cons pe_int pa_nil))) (fun _ _ => rfl)) pa_nil))))) pss_nil)
  (pss_one (ps_expr (pe_bm PySem.F.plainAttrs_list PySem.F.slot_list_append PySem.F.type_list_append mt_append (pv 3) (pa_cons (pv 5) pa_nil))))))))))
  (pss_one (ps_ret (pe_callTy call_tuple_of (by rfl) B.tuple (by decide +kernel) (pa_cons (pv 3) pa_nil)))))), ?_⟩
    refine q_asgL (el_lst ea_nil (by decide)) fun l H1 nl e1 hl => ?_
    have nlS := hS.ne nl
    have g1 : Go S L H H1 := Go.of hS e1
    refine q_forG (S := S) (L := L) (m := 6) g1.2 (eg_next (m := 7) (fun _ _ => ev_var rfl) (fun _ _ => ev_op (ev_var rfl) ev_c rv_I0) (by decide) (by decide)) (by decide) (fun n k σ' H' => n ≤ 6 ∧ ∃ (xs : List V) (o u o2 : Option V), σ' = [some (.ref S), some (.int 3), some (.int 6), some (.ref l), o, u, o2] ∧ Go S L H H' ∧ H' l = some (.lst xs) ∧ xs.length = k ∧ ∀ x ∈ xs, NewV H' x)
      (fun n H2 hn g2 => ⟨hn, [], _, _, _, rfl, g1.trans g2, g2.at nlS hl, rfl, fun _ h => nomatch h⟩) (fun n k σ' H' hk hv => ?_) fun n σ' H' hn hv => ?_
    · obtain ⟨hn, xs, o, u, o2, rfl, g2, hl2, hlen, hx⟩ := hv
      refine q_asgG (S := S) (L := L) g2.2 (eg_tup2 (R1 := fun v => IR 0 2 v H) (R2 := fun v => IR (-4) 4 v H) (eg_next (m := 3) (fun _ _ => ev_var rfl) (fun _ _ => ev_var rfl) (by decide) (by decide))
        (eg_opI (a := 0) (b := 8) (c := 4) (d := 4) (eg_next (m := 9) (fun _ _ => ev_var rfl) (fun _ _ => ev_c) (by decide) (by decide)) (eg_i (fun _ _ => ev_c) (by decide) (by decide)) fun i j _ _ _ _ => by omega)) fun v H3 g3 hv => ?_
      have hv3 : NewV H3 v := by
        obtain ⟨p, x, y, rfl, hp, ⟨e, rfl, h1, h2⟩, ⟨t, rfl, h3, h4⟩⟩ := hv
        exact ⟨p, e, t, rfl, hp, h1, h2, by omega, by omega⟩
      refine q_asgG (S := S) (L := L) g3.2 (eg_next (m := 6) (fun _ _ => ev_var rfl) (fun _ _ => ev_c) (by decide) (by decide)) fun v6 H4 g4 hv6 => ?_
      obtain ⟨pk, rfl, _, _⟩ := hv6
      have g34 := g3.trans g4
      have g04 := g2.trans g34
      have hl4 := g34.at nlS hl2
      have hx4 : ∀ x ∈ xs, NewV H4 x := fun x h => (hx x h).ts (g34.tu g2.2)
      -- the picks: each leaves some news of the kind
      have hv4 := hv3.ts (g4.tu g3.2)
      clear hv hv3
      refine q_cut (M := fun σ2 H5 => ∃ v, σ2 = [some (.ref S), some (.int 3), some (.int 6), some (.ref l), some (.int (k : Int)), some v, some (.int pk)] ∧ Go S L H4 H5 ∧ NewV H5 v) ?_ fun σ2 H5 h5 => ?_
      · refine s_when (et_and (et_test (ev_op (ev_var rfl) ev_c (rv_eq rfl))) fun _ => et_tru (ev_var rfl) hl4) (fun z H5 e5 => ?_) fun z H5 e5 => ⟨v, rfl, Go.of g04.2 e5, hv4.ts (Tu.of e5)⟩
        have hl5 := e5 _ _ hl4
        have g5 := Go.of g04.2 e5
        rw [Bool.and_eq_true] at z
        have hpos : 0 < xs.length := by
          cases xs with
          | nil => exact absurd z.2 (by decide)
          | cons => exact Nat.succ_pos _
        refine s_asgG (S := S) (L := L) g5.2 (eg_ixL (a := l) (vs := xs) (fun _ _ => ev_var rfl) hl5 nlS (eg_next (m := (xs.length : Int)) (fun _ _ => ev_var rfl) (fun H6 g6 => ev_len (ev_var rfl) (SqL.of (g6.at nlS hl5))) (by omega) (by omega))) fun x H6 g6 hm => ?_
        exact ⟨x, rfl, g5.trans g6, (hx4 x hm).ts ((Tu.of e5).trans (g6.tu g5.2))⟩
      obtain ⟨v5, rfl, g5, hv5⟩ := h5
      have g05 := g04.trans g5
      have hl5 := g5.at nlS hl4
      have hx5 : ∀ x ∈ xs, NewV H5 x := fun x h => (hx4 x h).ts (g5.tu g04.2)
      refine q_cut (M := fun σ2 H6 => ∃ v, σ2 = [some (.ref S), some (.int 3), some (.int 6), some (.ref l), some (.int (k : Int)), some v, some (.int pk)] ∧ Go S L H5 H6 ∧ NewV H6 v) ?_ fun σ2 H6 h6 => ?_
      · refine s_when (et_and (et_test (ev_op (ev_var rfl) ev_c (rv_eq rfl))) fun _ => et_tru (ev_var rfl) hl5) (fun z H6 e6 => ?_) fun z H6 e6 => ⟨v5, rfl, Go.of g05.2 e6, hv5.ts (Tu.of e6)⟩
        have hl6 := e6 _ _ hl5
        have g6 := Go.of g05.2 e6
        rw [Bool.and_eq_true] at z
        have hpos : 0 < xs.length := by
          cases xs with
          | nil => exact absurd z.2 (by decide)
          | cons => exact Nat.succ_pos _
        have hlast : xs[xs.length - 1]? = some xs[xs.length - 1] := List.getElem?_eq_getElem (by omega)
        obtain ⟨b, e, t, hb1, hb2, h1, h2, h3, h4⟩ := (hx5 _ (List.getElem_mem (show xs.length - 1 < xs.length by omega))).ts (Tu.of e6)
        rw [hb1] at hlast
        have atl : atI xs (-1) = some (.ref b) := by
          unfold atI ixN
          rw [if_neg (by decide), if_pos (by omega), show ((-1 : Int) + (xs.length : Int)).toNat = xs.length - 1 by omega]
          exact hlast
        refine s_asgG (S := S) (L := L) g6.2 (eg_tup2 (R1 := fun v => IR 0 2 v H) (R2 := fun v => IR (-500) 500 v H) (eg_i (c := e) (fun H7 g7 => ev_ixT (ev_ixL (ev_var rfl) (ev_un ev_c ru_neg) (g7.at nlS hl6) atl) ev_c ((g7.tu g6.2) _ _ hb2) rfl) h1 h2)
          (eg_max2 (a := -500) (b := -500) (c := -1000) (d := 500) (eg_i (c := -500) (fun _ _ => ev_un ev_c ru_neg) (by decide) (by decide)) (eg_min2 (a := 500) (b := 500) (c := -501) (d := 502) (eg_i (fun _ _ => ev_c) (by decide) (by decide)) (eg_opI (a := -500) (b := 503) (c := 1) (d := 1) (eg_opI (a := -500) (b := 500) (c := 0) (d := 2) (eg_i (c := t) (fun H7 g7 => ev_ixT (ev_ixL (ev_var rfl) (ev_un ev_c ru_neg) (g7.at nlS hl6) atl) ev_c ((g7.tu g6.2) _ _ hb2) rfl) h3 h4)
            (eg_next (m := 3) (fun _ _ => ev_var rfl) (fun _ _ => ev_c) (by decide) (by decide)) fun i j _ _ _ _ => by omega) (eg_i (fun _ _ => ev_c) (by decide) (by decide)) fun i j _ _ _ _ => by omega) fun i j _ _ _ _ => by unfold mn; split <;> omega) fun i j _ _ _ _ => by unfold mx; split <;> omega)) fun x H7 g7 r => ?_
        obtain ⟨p, x1, y1, rfl, hp, ⟨e2, rfl, q1, q2⟩, ⟨t2, rfl, q3, q4⟩⟩ := r
        exact ⟨_, rfl, g6.trans g7, p, e2, t2, rfl, hp, q1, q2, q3, q4⟩
      obtain ⟨v6, rfl, g6, hv6⟩ := h6
      have g06 := g05.trans g6
      refine q_cut (M := fun σ2 H7 => ∃ v, σ2 = [some (.ref S), some (.int 3), some (.int 6), some (.ref l), some (.int (k : Int)), some v, some (.int pk)] ∧ Go S L H6 H7 ∧ NewV H7 v) ?_ fun σ2 H7 h7 => ?_
      · refine s_when (et_test (ev_op (ev_var rfl) ev_c (rv_eq rfl))) (fun z H7 e7 => ?_) fun z H7 e7 => ⟨v6, rfl, Go.of g06.2 e7, hv6.ts (Tu.of e7)⟩
        have g7 := Go.of g06.2 e7
        obtain ⟨b, e, t, rfl, hb, h1, h2, h3, h4⟩ := hv6.ts (Tu.of e7)
        refine s_asgG (S := S) (L := L) g7.2 (eg_tup2 (R1 := fun v => IR 0 2 v H) (R2 := fun v => v ∈ [V.int (-500), V.int 500, V.int 499]) (eg_i (c := e) (fun H8 g8 => ev_ixT (ev_var rfl) ev_c ((g8.tu g7.2) _ _ hb) rfl) h1 h2)
          (eg_ixN (fun _ _ => el_lst (ea_cons (ev_un ev_c ru_neg) (ea_cons ev_c (ea_cons ev_c ea_nil))) (show 3 ≤ 100000 by decide)) (eg_next (m := 3) (fun _ _ => ev_var rfl) (fun _ _ => ev_c) (by decide) (by decide)))) fun x H8 g8 r => ?_
        obtain ⟨p, x1, y1, rfl, hp, ⟨e2, rfl, q1, q2⟩, hy⟩ := r
        refine ⟨_, rfl, g7.trans g8, p, e2, ?_⟩
        rcases List.mem_cons.mp hy with rfl | hy
        · exact ⟨-500, rfl, hp, q1, q2, by decide, by decide⟩
        · rcases List.mem_cons.mp hy with rfl | hy
          · exact ⟨500, rfl, hp, q1, q2, by decide, by decide⟩
          · have := List.mem_singleton.mp hy
            subst this
            exact ⟨499, rfl, hp, q1, q2, by decide, by decide⟩
      obtain ⟨v7, rfl, g7, hv7⟩ := h7
      have g07 := g06.trans g7
      have g47 := g5.trans (g6.trans g7)
      have hl7 := g47.at nlS hl4
      refine s_app (v := v7) hl7 (ev_var rfl) (ev_var rfl) (by omega) fun H8 e8 => ?_
      have t9 : Tu H8 (upd H8 l (.lst (xs ++ [v7]))) := Tu.put (e8 _ _ hl7) fun _ z => nomatch z
      refine ⟨hn, xs ++ [v7], _, _, _, rfl, (g07.ex e8).mut hS nl, upd_same, by rw [List.length_append, hlen]; rfl, fun a ha => ?_⟩
      rcases List.mem_append.mp ha with ha | ha
      · exact (hx4 a ha).ts ((g47.tu g04.2).trans ((Tu.of e8).trans t9))
      · have := List.mem_singleton.mp ha
        subst this
        exact hv7.ts ((Tu.of e8).trans t9)
    · obtain ⟨hn, xs, o, u, o2, rfl, g2, hl2, hlen, hx⟩ := hv
      exact s_retU (eu_tupL (ev_var rfl) hl2) fun p H3 _ e3 hp3 => q _ H3 (g2.ex e3) ⟨p, xs, rfl, hp3, by omega, fun y hm => (hx y hm).ts (Tu.of e3)⟩
abbrev s_law_drawn : Stmt := topS 62
theorem sc_law_drawn : FnScope ["_law_stream_here", "_law_events"] ["_law_stream_here", "_law_events"] (defScope s_law_drawn) := ⟨rfl, rfl, rfl, by decide +kernel, rfl, by decide +kernel, by decide +kernel⟩
def spDrawn : Sp := fun vs H Q _ => ∃ (S L : Addr), vs = [.ref S, .int 3] ∧ Strm S L H ∧ ∀ v H', Go S L H H' → rSteps v H' → Q v H'
theorem ok_law_drawn (F : Has K mg "_law_drawn" s_law_drawn ["_law_stream_here", "_law_events"]) (B : Gm mg) (G_law_next : C8.Cal P w K mg base 1 "_law_next" spNext []) (G_law_some_steps : C8.Cal P w K mg base 2 "_law_some_steps" spSome []) (G_law_news : C8.Cal P w K mg base 2 "_law_news" spNews []) (G_law_steps : C8.Cal P w K mg base 1 "_law_steps" spLSteps []) : C8.Cal P w K mg base 3 "_law_drawn" spDrawn [] := by
  refine cal_of F sc_law_drawn (fun vs H Q E h => ?_) (fun f cdv A outer s H vs Q E hr h => ?_)
  · obtain ⟨S, L, rfl, _⟩ := h
    rfl
  · obtain ⟨S, L, rfl, hS, q⟩ := h
    refine ⟨_, (pss_cons (ps_if (pt_cmpR op_eq (C8.pe_c G_law_next hr (by decide) (by rfl) (pa_cons (pv 0) (pa_cons pe_int pa_nil))) pe_int (nomark _)) (pss_one (ps_ret (C8.pe_c G_law_some_steps hr (by decide) (by rfl) (pa_cons (pv 0) (pa_cons (pv 1) (pa_cons pe_int pa_nil)))))) pss_nil)
  (pss_one (ps_ret (C8.pe_c G_law_steps hr (by decide) (by rfl) (pa_cons (C8.pe_c G_law_news hr (by decide) (by rfl) (pa_cons (pv 0) (pa_cons (pv 1) (pa_cons pe_int pa_nil)))) pa_nil))))), ?_⟩
    refine q_whenG (S := S) (L := L) hS (fun Q2 q2 => ?_) (fun H1 g1 => ?_) fun H1 g1 => ?_
    · refine (eg_op (S := S) (L := L) (r := rEq) (R1 := fun v => IR 0 1 v H) (R2 := fun v => v = .int 1) (R3 := fun v => ∃ b, v = .bl b) (eg_next (m := 2) (fun _ _ => ev_var rfl) (fun _ _ => ev_c) (by decide) (by decide)) (eg_ev fun _ _ => ev_c) fun x y H1 _ r1 r2 => ?_) H (Go.refl hS) _ fun v H1 g1 r => ?_
      · obtain ⟨n, rfl, _, _⟩ := r1
        subst r2
        exact ⟨_, ⟨_, rfl⟩, fun Q3 q3 => ⟨rfl, q3⟩⟩
      · obtain ⟨b, rfl⟩ := r
        exact ⟨b, rfl, q2 b H1 g1⟩
    · exact s_retG (S := S) (L := L) g1.2 (eg_call (R := rSteps) (fun _ _ => ea_cons (ev_var rfl) (ea_cons (ev_var rfl) (ea_cons ev_c ea_nil))) fun H2 g2 Q2 q2 => ⟨S, L, rfl, g2.2, q2⟩) fun v H2 g2 r => q v H2 (g1.trans g2) r
    · refine s_retG (S := S) (L := L) g1.2 (R := rSteps) (fun H2 g2 Q2 q2 => ?_) fun v H2 g2 r => q v H2 (g1.trans g2) r
      refine (eg_call (S := S) (L := L) (R := rNews) (fun _ _ => ea_cons (ev_var rfl) (ea_cons (ev_var rfl) (ea_cons ev_c ea_nil))) fun H3 g3 Q3 q3 => ⟨S, L, rfl, g3.2, q3⟩) H2 g2 _ fun v H3 g3 r => ?_
      exact ⟨v, rfl, r, fun v2 H4 e4 r2 => q2 v2 H4 (g3.ex e4) r2⟩
end
end Abl
namespace Abl
open PySem PySem.Spec PyProof.Rows L2
open Evl (Ex Ev EvT EvA EvL EvU EvO ev_var ev_c ev_op ev_is et_is ev_andV ev_orV ev_notV et_and et_or et_not et_B et_test rv_I0 rv_I rv_eq rv_ne ea_nil ea_cons s_ret s_retU s_if s_when q_when q_asg s_asg q_asgL ev_if RetV eu_tup el_lst ev_inU ev_un ru_neg eo_none eo_some el_sl ev_opUU ev_len q_forR1 s_forR1 q_forT s_forT rv_isL q_while s_while s_app s_appU q_appU q_cut q_setL s_setL ev_max2 ev_cb)
section
variable {P : Program} {w : World} {K : PySem.W.Frag} {mg : Str → Option Value} {base : Heap}
section
variable {S L : Addr} {σ : L2.St} {H : Hp} {ta tb te : TE}
/-- [e for k in range(n)], e read of the stream -/
theorem eg_lcR {R1 : V → Prop} {j : Nat} {vs : List Nat} {n : Int} (ha : ∀ H1, Go S L H H1 → Ev ta σ H1 (.int n)) (hn : 0 ≤ n ∧ n ≤ 40000) (hw : ∀ x, wipe ((wipe σ vs).set j (some x)) vs = wipe σ vs)
    (he : ∀ (i : Int) H1, Go S L H H1 → EvG S L te ((wipe σ vs).set j (some (.int i))) H1 (fun v _ => R1 v)) : EvG S L (tLc (iRng1 (tCons ta tNil)) (gName j) tYes te vs) σ H (fun v H' => ∃ p xs, v = .ref p ∧ H' p = some (.lst xs) ∧ xs.length = n.toNat ∧ ∀ x ∈ xs, R1 x) := fun H1 g Q q =>
  ha H1 g H1 (Ex.refl H1) _ fun H2 e2 => ⟨n, rfl, by omega, by omega, fun Dl hD => by
    have g2 := g.ex e2
    have nS := g2.2.ne hD
    refine lc_range (lo := 0) (n := n.toNat) (fun i H' => Go S L H2 H' ∧ ∃ xs, H' Dl = some (.lst xs) ∧ xs.length = i ∧ ∀ x ∈ xs, R1 x) ⟨Go.of g2.2 (Ex.new hD), [], upd_same, rfl, fun _ h => nomatch h⟩ (fun i H' hi p => ⟨hw _, ?_⟩) fun H' p => ?_
    · obtain ⟨g3, xs, h1, h2, h3⟩ := p
      show te ((wipe σ vs).set j (some (.int (0 + (i : Int))))) H' fun y H4 => ∃ acc, H4 Dl = some (.lst acc) ∧ acc.length < sizeLine ∧ (Go S L H2 (upd H4 Dl (.lst (acc ++ [y]))) ∧ ∃ xs, (upd H4 Dl (.lst (acc ++ [y]))) Dl = some (.lst xs) ∧ xs.length = i + 1 ∧ ∀ x ∈ xs, R1 x)
      refine he _ H' (g2.trans g3) H' (Go.refl g3.2) _ fun y H4 g4 r => ?_
      refine ⟨xs, g4.at nS h1, Evl.sz_lt (by omega), (g3.trans g4).mut g2.2 hD, xs ++ [y], upd_same, by rw [List.length_append, h2]; rfl, fun x hx => ?_⟩
      rcases List.mem_append.mp hx with hx | hx
      · exact h3 x hx
      · have := List.mem_singleton.mp hx
        subst this
        exact r
    · obtain ⟨g3, xs, h1, h2, h3⟩ := p
      exact q _ H' ((Go.of g.2 e2).trans g3) ⟨Dl, xs, rfl, h1, h2, h3⟩⟩
/-- tuple(l) -/
theorem eg_tupOf {F : List V → Prop} (h : EvG S L ta σ H (fun v H' => ∃ p xs, v = .ref p ∧ H' p = some (.lst xs) ∧ F xs)) : EvG S L (tCB (rTupOf K) (tCons ta tNil)) σ H (fun v H' => ∃ p xs, v = .ref p ∧ H' p = some (.tup xs) ∧ F xs) := fun H1 g Q q =>
  h H1 g _ fun v H2 g2 r => by
    obtain ⟨p, xs, rfl, hp, hF⟩ := r
    exact ⟨p, xs, rfl, .inl ⟨SqL.of hp, fun l hl => q _ _ (g2.ex (Ex.new hl)) ⟨l, xs, rfl, upd_same, hF⟩⟩⟩
theorem evp_U {xs : List V} (h : EvU te σ H xs) : EvP te σ H (fun v H' => ∃ p, v = .ref p ∧ H' p = some (.tup xs)) := fun H1 e Q q => h H1 e Q fun p H2 _ e2 hp => q _ H2 e2 ⟨p, rfl, hp⟩
theorem evp_lst2P {y : V} {R : V → Hp → Prop} (h1 : EvP ta σ H R) (h2 : Ev tb σ H y) : EvP (tLst (tCons ta (tCons tb tNil))) σ H (fun v H' => ∃ l x H0, v = .ref l ∧ H' l = some (.lst [x, y]) ∧ Ex H0 H' ∧ R x H0) := fun H1 e Q q =>
  h1 H1 e _ fun x H2 e2 r => h2 H2 (e.trans e2) _ fun H3 e3 => ⟨Evl.sz_of (show 2 ≤ 100000 by decide), fun l hl => q _ _ ((e2.trans e3).trans (Ex.new hl)) ⟨l, x, H2, rfl, upd_same, e3.trans (Ex.new hl), r⟩⟩
end
theorem ints_of {a b : Int} {H : Hp} : ∀ {xs : List V}, (∀ x ∈ xs, IR a b x H) → ∃ ts : List Int, xs = ts.map V.int ∧ ∀ t ∈ ts, a ≤ t ∧ t ≤ b
  | [], _ => ⟨[], rfl, fun _ h => nomatch h⟩
  | x :: r, h => by
    obtain ⟨n, rfl, n0, n1⟩ := h x (List.mem_cons_self ..)
    obtain ⟨ts, e, ht⟩ := ints_of (xs := r) fun y hy => h y (List.mem_cons_of_mem _ hy)
    refine ⟨n :: ts, by rw [e]; rfl, fun t hm => ?_⟩
    rcases List.mem_cons.mp hm with e | hm
    · rw [e]; exact ⟨n0, n1⟩
    · exact ht t hm
theorem timeL_at {ts : List Int} {i : Int} (i0 : 0 ≤ i) (i1 : i < ts.length) : atI (ts.map V.int) i = some (.int (timeF ts i)) ∧ timeF ts i ∈ ts := by
  have hlt : i.toNat < ts.length := by omega
  have e : timeF ts i = ts[i.toNat] := by
    unfold timeF
    rw [List.getD_eq_getElem?_getD, List.getElem?_eq_getElem hlt]
    rfl
  rw [e]
  exact ⟨nat_at (i := i.toNat) (by omega) (by rw [List.getElem?_map, List.getElem?_eq_getElem hlt]; rfl), List.getElem_mem hlt⟩
abbrev s_law_net : Stmt := topS 59
theorem sc_law_net : FnScope ["_law_stream_here", "_law_least", "_law_sizes", "_law_size", "_law_times", "_law_rules", "_law_k", "_law_start", "_law_end", "_law_gap", "_law_low", "_law_high", "_law_pick", "_law_event"] ["_law_stream_here", "_law_least", "_law_sizes"] (defScope s_law_net) := ⟨rfl, rfl, rfl, by decide +kernel, rfl, by decide +kernel, by decide +kernel⟩
/-- a net, and times that keep its rules -/
def rLNet (v : V) (H : Hp) : Prop := ∃ (p N T : Addr) (n : Nat) (rs : List Rule) (ts : List Int), v = .ref p ∧ H p = some (.lst [.ref N, .ref T]) ∧ NetAt H N n rs ∧ IntsAt H T ts ∧ NetOk n rs ∧ TimesOk n rs ts ∧ 3 ≤ n
def spLNet : Sp := fun vs H Q _ => ∃ (S L : Addr), vs = [.ref S, .int 3, .int 2] ∧ Strm S L H ∧ ∀ v H', Go S L H H' → rLNet v H' → Q v H'
def wRs (H : Hp) (n : Nat) (ts : List Int) (l : Addr) (k : Nat) : Prop := ∃ (as : List Addr) (rs : List Rule), H l = some (.lst (as.map V.ref)) ∧ Paired (RuleAt H) as rs ∧ as.length ≤ k ∧ ∀ r ∈ rs, r.ok n ∧ r.keeps (timeF ts)
theorem ok_law_net (F : Has K mg "_law_net" s_law_net ["_law_stream_here", "_law_least", "_law_sizes"]) (B : Gm mg) (G_law_next : C8.Cal P w K mg base 1 "_law_next" spNext []) : C8.Cal P w K mg base 2 "_law_net" spLNet [] := by
  refine cal_of F sc_law_net (fun vs H Q E h => ?_) (fun f cdv A outer s H vs Q E hr h => ?_)
  · obtain ⟨S, L, rfl, _⟩ := h
    rfl
  · obtain ⟨S, L, rfl, hS, q⟩ := h
    refine ⟨_, (pss_cons (ps_set (i := 3) sc_law_net.nd rfl (by first | exact .inl rfl | exact .inr rfl) (pe_op op_add (pv 1) (C8.pe_c G_law_next hr (by decide) (by rfl) (pa_cons (pv 0) (pa_cons (pv 2) pa_nil)))))
  (pss_cons (ps_set (i := 4) sc_law_net.nd rfl (by first | exact .inl rfl | exact .inr rfl) (pe_callTy call_tuple_of (by rfl) B.tuple (by decide +kernel) (pa_cons (pe_lc (own := [("_law_event", 13)]) rfl sc_law_net.nd (pi_range1 (by rfl) B.range (pa_cons (pv 3) pa_nil)) (blkOk_by (N := ["_law_stream_here", "_law_least", "_law_sizes", "_law_size", "_law_times", "_law_rules", "_law_k", "_law_start", "_law_end", "_law_gap", "_law_low", "_law_high", "_law_pick", "_law_event"]) (sc := (defScope s_law_net)) (by decide +kernel)) (fun _ _ _ _ _ => (pg_name (i := 13) sc_law_net.nd rfl (by first | exact .inl rfl | exact .inr rfl))) (fun _ _ _ _ _ => pts_nil) (fun _ _ _ _ _ => (pe_op op_sub (C8.pe_c G_law_next hr (by decide) (by rfl) (pa_cons (pv 0) (pa_cons pe_int pa_nil))) pe_int))) pa_nil)))
  (pss_cons (ps_set (i := 5) sc_law_net.nd rfl (by first | exact .inl rfl | exact .inr rfl) (pe_lst pa_nil))
  (pss_cons (ps_for PassesOwn.never rfl (pi_range1 (by rfl) B.range (pa_cons (C8.pe_c G_law_next hr (by decide) (by rfl) (pa_cons (pv 0) (pa_cons pe_int pa_nil))) pa_nil)) (pg_name (i := 6) sc_law_net.nd rfl (by first | exact .inl rfl | exact .inr rfl)) (pss_cons (ps_set (i := 7) sc_law_net.nd rfl (by first | exact .inl rfl | exact .inr rfl) (C8.pe_c G_law_next hr (by decide) (by rfl) (pa_cons (pv 0) (pa_cons (pv 3) pa_nil))))
  (pss_cons (ps_set (i := 8) sc_law_net.nd rfl (by first | exact .inl rfl | exact .inr rfl) (C8.pe_c G_law_next hr (by decide) (by rfl) (pa_cons (pv 0) (pa_cons (pv 3) pa_nil))))
  (pss_cons (ps_set (i := 9) sc_law_net.nd rfl (by first | exact .inl rfl | exact .inr rfl) (pe_op op_sub (pe_ix ix_tup (pv 4) (pv 8) (fun _ _ => rfl)) (pe_ix ix_tup (pv 4) (pv 7) (fun _ _ => rfl))))
  (pss_cons (ps_set (i := 10) sc_law_net.nd rfl (by first | exact .inl rfl | exact .inr rfl) (pe_op op_sub (pv 9) (C8.pe_c G_law_next hr (by decide) (by rfl) (pa_cons (pv 0) (pa_cons pe_int pa_nil)))))
  (pss_cons (ps_set (i := 11) sc_law_net.nd rfl (by first | exact .inl rfl | exact .inr rfl) (pe_op op_add (pv 9) (C8.pe_c G_law_next hr (by decide) (by rfl) (pa_cons (pv 0) (pa_cons pe_int pa_nil)))))
  (pss_cons (ps_set (i := 12) sc_law_net.nd rfl (by first | exact .inl rfl | exact .inr rfl) (C8.pe_c G_law_next hr (by decide) (by rfl) (pa_cons (pv 0) (pa_cons pe_int pa_nil))))
  (Evl.pss_cut (ps_if (pt_cmpR op_eq (pv 12) pe_int (nomark _)) (pss_one (ps_set (i := 10) sc_law_net.nd rfl (by first | exact .inl rfl | exact .inr rfl) pe_non)) pss_nil)
  (Evl.pss_cut (ps_if (pt_cmpR op_eq (pv 12) pe_int (nomark _)) (pss_one (ps_set (i := 11) sc_law_net.nd rfl (by first | exact .inl rfl | exact .inr rfl) pe_non)) pss_nil)
  (pss_one (ps_if (pt_cmpR op_ne (pv 7) (pv 8) (nomark _)) (pss_one (ps_expr (pe_bm PySem.F.plainAttrs_list PySem.F.slot_list_append PySem.F.type_list_append mt_append (pv 5) (pa_cons (pe_tup (pa_cons (pv 7) (pa_cons (pv 8) (pa_cons (pv 10) (pa_cons (pv 11) pa_nil))))) pa_nil)))) pss_nil)))))))))))
  (pss_one (ps_ret (pe_lst (pa_cons (pe_tup (pa_cons (pv 3) (pa_cons (pe_callTy call_tuple_of (by rfl) B.tuple (by decide +kernel) (pa_cons (pv 5) pa_nil)) pa_nil))) (pa_cons (pv 4) pa_nil))))))))), ?_⟩
    refine q_asgG (S := S) (L := L) hS (eg_opI (a := 3) (b := 3) (c := 0) (d := 1) (e := 3) (u := 4) (eg_i (fun _ _ => ev_var rfl) (by decide) (by decide)) (eg_next (m := 2) (fun _ _ => ev_var rfl) (fun _ _ => ev_var rfl) (by decide) (by decide)) fun i j _ _ _ _ => by omega) fun vn H1 g1 hvn => ?_
    obtain ⟨ni, rfl, n3, n4⟩ := hvn
    obtain ⟨n, rfl⟩ := Int.eq_ofNat_of_zero_le (show 0 ≤ ni by omega)
    refine q_asgG (S := S) (L := L) g1.2 (eg_tupOf (eg_lcR (R1 := fun v => IR (-6) 6 v H) (n := (n : Int)) (fun _ _ => ev_var rfl) (by omega) (fun _ => rfl) fun i H2 g2 => eg_opI (a := 0) (b := 12) (c := 6) (d := 6) (eg_next (m := 13) (fun _ _ => ev_var rfl) (fun _ _ => ev_c) (by decide) (by decide)) (eg_i (fun _ _ => ev_c) (by decide) (by decide)) fun i j _ _ _ _ => by omega)) fun vt H2 g2 hvt => ?_
    obtain ⟨T, xs, rfl, hT, hlen, hI⟩ := hvt
    obtain ⟨ts, rfl, ht⟩ := ints_of hI
    rw [List.length_map] at hlen
    have htn : ts.length = n := by omega
    have g02 := g1.trans g2
    refine q_asgL (el_lst ea_nil (by decide)) fun l H3 nl2 e3 hl => ?_
    have g03 := g02.ex e3
    have nlS := g02.2.ne nl2
    have t3 : Tu H2 H3 := Tu.of e3
    refine q_forG (S := S) (L := L) (m := 5) g03.2 (eg_next (m := 6) (fun _ _ => ev_var rfl) (fun _ _ => ev_c) (by decide) (by decide)) (by decide) (fun m k σ' H' => m ≤ 5 ∧ ∃ (o6 o7 o8 o9 o10 o11 o12 : Option V), σ' = [some (.ref S), some (.int 3), some (.int 2), some (.int (n : Int)), some (.ref T), some (.ref l), o6, o7, o8, o9, o10, o11, o12, none] ∧ Go S L H2 H' ∧ wRs H' n ts l k)
      (fun m H4 hm g4 => ⟨hm, _, _, _, _, _, _, _, rfl, (Go.of g02.2 e3).trans g4, [], [], g4.at nlS hl, .nil, Nat.le_refl _, fun _ h => nomatch h⟩) (fun m k σ' H' hk hv => ?_) fun m σ' H' hm hv => ?_
    · obtain ⟨hm, o6, o7, o8, o9, o10, o11, o12, rfl, g4, as, rs, hl4, hP, hal, hR⟩ := hv
      refine q_asgG (S := S) (L := L) g4.2 (eg_next (m := (n : Int)) (fun _ _ => ev_var rfl) (fun _ _ => ev_var rfl) (by omega) (by omega)) fun v H5 g5 hv => ?_
      obtain ⟨st, rfl, st0, st1⟩ := hv
      refine q_asgG (S := S) (L := L) g5.2 (eg_next (m := (n : Int)) (fun _ _ => ev_var rfl) (fun _ _ => ev_var rfl) (by omega) (by omega)) fun v H6 g6 hv => ?_
      obtain ⟨en, rfl, en0, en1⟩ := hv
      have g46 := g5.trans g6
      have g26 := g4.trans g46
      have hT6 := (g26.tu g02.2) _ _ hT
      have as_ := timeL_at (ts := ts) st0 (by omega)
      have ae_ := timeL_at (ts := ts) en0 (by omega)
      have bs_ := ht _ as_.2
      have be_ := ht _ ae_.2
      refine q_asg (ev_op (ev_ixT (ev_var rfl) (ev_var rfl) hT6 ae_.1) (ev_ixT (ev_var rfl) (ev_var rfl) hT6 as_.1) rv_I0) fun H7 e7 => ?_
      generalize hgap : timeF ts en - timeF ts st = gap
      have g27 := g26.ex e7
      refine q_asgG (S := S) (L := L) g27.2 (eg_opI (a := gap) (b := gap) (c := 0) (d := 3) (e := gap - 3) (u := gap) (eg_i (fun _ _ => ev_var rfl) (Int.le_refl _) (Int.le_refl _)) (eg_next (m := 4) (fun _ _ => ev_var rfl) (fun _ _ => ev_c) (by decide) (by decide)) fun i j _ _ _ _ => by omega) fun v H8 g8 hv => ?_
      obtain ⟨lo, rfl, lo0, lo1⟩ := hv
      refine q_asgG (S := S) (L := L) g8.2 (eg_opI (a := gap) (b := gap) (c := 0) (d := 3) (e := gap) (u := gap + 3) (eg_i (fun _ _ => ev_var rfl) (Int.le_refl _) (Int.le_refl _)) (eg_next (m := 4) (fun _ _ => ev_var rfl) (fun _ _ => ev_c) (by decide) (by decide)) fun i j _ _ _ _ => by omega) fun v H9 g9 hv => ?_
      obtain ⟨hi, rfl, hi0, hi1⟩ := hv
      refine q_asgG (S := S) (L := L) g9.2 (eg_next (m := 4) (fun _ _ => ev_var rfl) (fun _ _ => ev_c) (by decide) (by decide)) fun v Ha ga hv => ?_
      obtain ⟨pk, rfl, pk0, pk1⟩ := hv
      have g7a := g8.trans (g9.trans ga)
      have g2a := g27.trans g7a
      have g4a : Go S L H' Ha := (g46.ex e7).trans g7a
      refine q_cut (M := fun σ2 Hb => ∃ lo2 : Option Int, (σ2 = [some (.ref S), some (.int 3), some (.int 2), some (.int (n : Int)), some (.ref T), some (.ref l), some (.int (k : Int)), some (.int st), some (.int en), some (.int gap), some (optV lo2), some (.int hi), some (.int pk), none]) ∧ Ex Ha Hb ∧ (∀ z, lo2 = some z → gap - 3 ≤ z ∧ z ≤ gap) ∧ (lo2 = none → pk = 0)) ?_ fun σ2 Hb hb => ?_
      · refine s_when (et_test (ev_op (ev_var rfl) ev_c (rv_eq rfl))) (fun z Hb eb => s_asg ev_c fun Hc ec => ⟨none, rfl, eb.trans ec, (fun _ z => nomatch z), fun _ => ?_⟩) fun z Hb eb => ⟨some lo, rfl, eb, (fun z2 hz => ?_), fun z => nomatch z⟩
        · rw [dec_i] at z
          exact of_decide_eq_true z
        · cases hz
          exact ⟨lo0, lo1⟩
      obtain ⟨lo2, rfl, eb, hlo, hlon⟩ := hb
      refine q_cut (M := fun σ2 Hc => ∃ hi2 : Option Int, (σ2 = [some (.ref S), some (.int 3), some (.int 2), some (.int (n : Int)), some (.ref T), some (.ref l), some (.int (k : Int)), some (.int st), some (.int en), some (.int gap), some (optV lo2), some (optV hi2), some (.int pk), none]) ∧ Ex Ha Hc ∧ (∀ z, hi2 = some z → gap ≤ z ∧ z ≤ gap + 3) ∧ (hi2 = none → pk = 1)) ?_ fun σ2 Hc hc => ?_
      · refine s_when (et_test (ev_op (ev_var rfl) ev_c (rv_eq rfl))) (fun z Hb2 eb2 => s_asg ev_c fun Hc ec => ⟨none, rfl, eb.trans (eb2.trans ec), (fun _ z => nomatch z), fun _ => ?_⟩) fun z Hb2 eb2 => ⟨some hi, rfl, eb.trans eb2, (fun z2 hz => ?_), fun z => nomatch z⟩
        · rw [dec_i] at z
          exact of_decide_eq_true z
        · cases hz
          exact ⟨hi0, hi1⟩
      obtain ⟨hi2, rfl, ec, hhi, hhin⟩ := hc
      refine s_when (b := !decide (st = en)) (et_is (et_test (ev_op (ev_var rfl) (ev_var rfl) (rv_ne rfl))) (by rw [dec_i])) (fun z Hd ed => ?_) fun z Hd ed => ?_
      · have hne : st ≠ en := by simpa using z
        have e4d := ec.trans ed
        have g4d := g4a.ex e4d
        have hld := g4d.at nlS hl4
        refine s_appU hld (ev_var rfl) (eu_tup (ea_cons (ev_var rfl) (ea_cons (ev_var rfl) (ea_cons (ev_var rfl) (ea_cons (ev_var rfl) ea_nil)))) (show 4 ≤ 100000 by decide)) (by rw [List.length_map]; omega) fun p He _ ee hp => ?_
        have t6 : Tu He (upd He l (.lst (as.map V.ref ++ [.ref p]))) := Tu.put (ee _ _ hld) fun _ z => nomatch z
        have tAll : Tu H' (upd He l (.lst (as.map V.ref ++ [.ref p]))) := (g4d.tu g4.2).trans ((Tu.of ee).trans t6)
        refine ⟨hm, _, _, _, _, _, _, _, rfl, (g2a.ex (e4d.trans ee)).mut g02.2 nl2, as ++ [p], rs ++ [⟨st, en, lo2, hi2⟩], ?_, ?_, by rw [List.length_append]; show as.length + 1 ≤ k + 1; omega, fun r hr2 => ?_⟩
        · rw [upd_same, List.map_append]
          rfl
        · exact pair_snoc (pair_map hP fun _ _ q => tAll _ _ q) (t6 _ _ hp)
        · rcases List.mem_append.mp hr2 with hr2 | hr2
          · exact hR r hr2
          · have := List.mem_singleton.mp hr2
            subst this
            refine ⟨⟨st0, show st < n by omega, en0, show en < n by omega, hne, fun z hz => ?_, fun z hz => ?_, fun hz => ?_⟩, fun z hz => ?_, fun z hz => ?_⟩
            · have := hlo z hz
              omega
            · have := hhi z hz
              omega
            · have h1 := hlon hz.1
              have h2 := hhin hz.2
              omega
            · have := hlo z hz
              show z ≤ timeF ts en - timeF ts st
              omega
            · have := hhi z hz
              show timeF ts en - timeF ts st ≤ z
              omega
      · have g4d := g4a.ex (ec.trans ed)
        exact ⟨hm, _, _, _, _, _, _, _, rfl, g2a.ex (ec.trans ed), as, rs, g4d.at nlS hl4, pair_map hP fun _ _ q => (g4d.tu g4.2) _ _ q, by omega, hR⟩
    · obtain ⟨hm5, o6, o7, o8, o9, o10, o11, o12, rfl, g4, as, rs, hl4, hP, hal, hR⟩ := hv
      refine s_retP (evp_lst2P (evp_tup2 (ev_var rfl) (evp_U (eu_tupL (ev_var rfl) hl4))) (ev_var rfl)) fun v H5 e5 hv => ?_
      obtain ⟨p, x, H6, rfl, hp, e6, N, y, H7, rfl, hN, e7, R, rfl, hR7⟩ := hv
      have hlr := pair_len hP
      refine q _ H5 ((g02.trans g4).ex e5) ⟨p, N, T, n, rs, ts, rfl, hp, ⟨R, as, e6 _ _ hN, e6 _ _ (e7 _ _ hR7), pair_map hP fun _ _ q => e5 _ _ q⟩, e5 _ _ ((g4.tu g02.2) _ _ hT), ⟨by omega, by omega, by omega, fun r h => (hR r h).1⟩, ⟨htn, fun t h => ?_, fun r h => (hR r h).2⟩, by omega⟩
      have := ht t h
      omega
end
end Abl
namespace Abl
open PySem PySem.Spec PyProof.Rows L2
open Evl (Ex Ev EvT EvA EvL EvU EvO ev_var ev_c ev_op ev_is et_is ev_andV ev_orV ev_notV et_and et_or et_not et_B et_test rv_I0 rv_I rv_eq rv_ne ea_nil ea_cons s_ret s_retU s_if s_when q_when q_asg s_asg q_asgL ev_if RetV eu_tup el_lst ev_inU ev_un ru_neg eo_none eo_some el_sl ev_opUU ev_len q_forR1 s_forR1 q_forT s_forT rv_isL q_while s_while s_app s_appU q_appU q_cut q_setL s_setL ev_max2 ev_cb)
section
variable {P : Program} {w : World} {K : PySem.W.Frag} {mg : Str → Option Value} {base : Heap}
section
variable {S L : Addr} {σ : L2.St} {H : Hp} {ta tb te : TE} {D : Ends} {tu tw tz : TS}
/-- [e for k in range(n) if t], each item told by a property -/
theorem evp_lcP {t : TT} {R1 : V → Hp → Prop} {aa : TA} {j : Nat} {vs : List Nat} {n : Int} (f : Nat → Bool) (ha : EvA aa σ H [.int n]) (hn : 0 ≤ n ∧ n ≤ 40000) (hw : ∀ x, wipe ((wipe σ vs).set j (some x)) vs = wipe σ vs) (hT : ∀ z H1 H2, Tu H1 H2 → R1 z H1 → R1 z H2)
    (ht : ∀ (i : Nat) H1, Ex H H1 → (i : Int) < n → EvT t ((wipe σ vs).set j (some (.int (i : Int)))) H1 (f i)) (he : ∀ (i : Nat) H1, Ex H H1 → (i : Int) < n → EvP te ((wipe σ vs).set j (some (.int (i : Int)))) H1 R1) :
    EvP (tLc (iRng1 aa) (gName j) t te vs) σ H (fun v H' => ∃ p zs, v = .ref p ∧ H' p = some (.lst zs) ∧ zs.length ≤ n.toNat ∧ ∀ z ∈ zs, R1 z H') := fun H1 e Q q =>
  ha H1 e _ fun H2 e2 => ⟨n, rfl, by omega, by omega, fun Dl hD => by
    refine lc_range (lo := 0) (n := n.toNat) (fun i H' => Ex H2 H' ∧ ∃ zs, H' Dl = some (.lst zs) ∧ zs.length ≤ i ∧ ∀ z ∈ zs, R1 z H') ⟨Ex.new hD, [], upd_same, Nat.le_refl _, fun _ h => nomatch h⟩ (fun i H' hi p => ?_) fun H' p => ?_
    · obtain ⟨e3, zs, h1, h2, h3⟩ := p
      have e0 : (0 : Int) + (i : Int) = (i : Int) := Int.zero_add _
      show wipe ((wipe σ vs).set j (some (.int ((0 : Int) + (i : Int))))) vs = wipe σ vs ∧ t ((wipe σ vs).set j (some (.int ((0 : Int) + (i : Int))))) H' fun b H3 => if b = true then te ((wipe σ vs).set j (some (.int ((0 : Int) + (i : Int))))) H3 fun y H4 => ∃ acc, H4 Dl = some (.lst acc) ∧ acc.length < sizeLine ∧ (Ex H2 (upd H4 Dl (.lst (acc ++ [y]))) ∧ ∃ zs, (upd H4 Dl (.lst (acc ++ [y]))) Dl = some (.lst zs) ∧ zs.length ≤ i + 1 ∧ ∀ z ∈ zs, R1 z (upd H4 Dl (.lst (acc ++ [y])))) else (Ex H2 H3 ∧ ∃ zs, H3 Dl = some (.lst zs) ∧ zs.length ≤ i + 1 ∧ ∀ z ∈ zs, R1 z H3)
      rw [e0]
      refine ⟨hw _, ht i H' ((e.trans e2).trans e3) (by omega) H' (Ex.refl H') _ fun H3 e4 => ?_⟩
      cases f i with
      | true =>
        refine he i H' ((e.trans e2).trans e3) (by omega) H3 e4 _ fun y H4 e5 r => ?_
        have t6 : Tu H4 (upd H4 Dl (.lst (zs ++ [y]))) := Tu.put (e5 _ _ (e4 _ _ h1)) fun _ z => nomatch z
        refine ⟨zs, e5 _ _ (e4 _ _ h1), Evl.sz_lt (by omega), (e3.trans (e4.trans e5)).mut hD, zs ++ [y], upd_same, by rw [List.length_append]; show zs.length + 1 ≤ i + 1; omega, fun z hz => ?_⟩
        rcases List.mem_append.mp hz with hz | hz
        · exact hT z _ _ ((Tu.of (e4.trans e5)).trans t6) (h3 z hz)
        · have := List.mem_singleton.mp hz
          subst this
          exact hT _ _ _ t6 r
      | false => exact ⟨e3.trans e4, zs, e4 _ _ h1, by omega, fun z hz => hT z _ _ (Tu.of e4) (h3 z hz)⟩
    · obtain ⟨e3, zs, h1, h2, h3⟩ := p
      exact q _ H' (e2.trans e3) ⟨Dl, zs, rfl, h1, h2, h3⟩⟩
end
/-- a pair of places -/
def PrV (n : Nat) (z : V) (H : Hp) : Prop := ∃ (c : Addr) (x y : Nat), z = .ref c ∧ x < n ∧ y < n ∧ H c = some (.tup [.int (x : Int), .int (y : Int)])
theorem PrV.ts {n : Nat} {H1 H2 : Hp} {z : V} (e : Tu H1 H2) (h : PrV n z H1) : PrV n z H2 := by
  obtain ⟨c, x, y, h1, h2, h3, h4⟩ := h
  exact ⟨c, x, y, h1, h2, h3, e _ _ h4⟩
theorem evp_U2 {σ : L2.St} {H : Hp} {te : TE} {n x y : Nat} (h : EvU te σ H [.int (x : Int), .int (y : Int)]) (hx : x < n) (hy : y < n) : EvP te σ H (PrV n) := fun H1 e Q q => h H1 e Q fun p H2 _ e2 hp => q _ H2 e2 ⟨p, x, y, rfl, hx, hy, hp⟩
abbrev s_law_any : Stmt := topS 64
theorem sc_law_any : FnScope ["_law_stream_here", "_law_steps_here", "_law_left_here", "_law_found", "_law_turn", "_law_here", "_law_pairs", "_law_k", "_law_by", "_law_at"] ["_law_stream_here", "_law_steps_here"] (defScope s_law_any) := ⟨rfl, rfl, rfl, by decide +kernel, rfl, by decide +kernel, by decide +kernel⟩
def spAny : Sp := fun vs H Q _ => ∃ (S L A : Addr) (ss : List Stp), vs = [.ref S, .ref A] ∧ Strm S L H ∧ StepsAt H A ss ∧ ss.length ≤ 12 ∧ ∀ v H', Go S L H H' → rRed v H' → Q v H'
theorem ok_law_any (F : Has K mg "_law_any" s_law_any ["_law_stream_here", "_law_steps_here"]) (B : Gm mg) (G_law_next : C8.Cal P w K mg base 1 "_law_next" spNext []) (G_law_idle_by : C8.Cal P w K mg base 3 "_law_idle_by" spIdle []) : C8.Cal P w K mg base 4 "_law_any" spAny [] := by
  refine cal_of F sc_law_any (fun vs H Q E h => ?_) (fun f cdv A outer s H vs Q E hr h => ?_)
  · obtain ⟨S, L, A, ss, rfl, _⟩ := h
    rfl
  · obtain ⟨S, L, a, ss, rfl, hS, ⟨as, hA, hP⟩, h12, q⟩ := h
    have hlen := pair_len hP
    refine ⟨_, (pss_cons (ps_set (i := 2) sc_law_any.nd rfl (by first | exact .inl rfl | exact .inr rfl) (pe_listRg rfl (by rfl) B.list (prg_1 (by rfl) B.range (pe_callB call_len_seq (by rfl) B.len (by decide +kernel) (pa_cons (pv 1) pa_nil)))))
  (pss_cons (ps_set (i := 3) sc_law_any.nd rfl (by first | exact .inl rfl | exact .inr rfl) (pe_lst pa_nil))
  (pss_cons (ps_for PassesOwn.never rfl (pi_range1 (by rfl) B.range (pa_cons (C8.pe_c G_law_next hr (by decide) (by rfl) (pa_cons (pv 0) (pa_cons (pe_op op_add (pe_callB call_len_seq (by rfl) B.len (by decide +kernel) (pa_cons (pv 1) pa_nil)) pe_int) pa_nil))) pa_nil)) (pg_name (i := 4) sc_law_any.nd rfl (by first | exact .inl rfl | exact .inr rfl)) (pss_cons (ps_set (i := 5) sc_law_any.nd rfl (by first | exact .inl rfl | exact .inr rfl) (pe_lc (own := [("_law_at", 9)]) rfl sc_law_any.nd (pi_list (pv 2)) (blkOk_by (N := ["_law_stream_here", "_law_steps_here", "_law_left_here", "_law_found", "_law_turn", "_law_here", "_law_pairs", "_law_k", "_law_by", "_law_at"]) (sc := (defScope s_law_any)) (by decide +kernel)) (fun _ _ _ _ _ => (pg_name (i := 9) sc_law_any.nd rfl (by first | exact .inl rfl | exact .inr rfl))) (fun _ _ _ _ _ => pts_nil) (fun _ _ _ _ _ => (pe_ix (r := rIxT K) ix_tup (pv 1) (pv 9) (fun _ _ => rfl)))))
  (pss_cons (ps_set (i := 6) sc_law_any.nd rfl (by first | exact .inl rfl | exact .inr rfl) (pe_lst pa_nil))
  (pss_cons (ps_for PassesOwn.never rfl (pi_range1 (by rfl) B.range (pa_cons (pe_callB call_len_seq (by rfl) B.len (by decide +kernel) (pa_cons (pv 5) pa_nil)) pa_nil)) (pg_name (i := 7) sc_law_any.nd rfl (by first | exact .inl rfl | exact .inr rfl)) (pss_one (ps_set (i := 6) sc_law_any.nd rfl (by first | exact .inl rfl | exact .inr rfl) (pe_op op_cat (pv 6) (pe_lc (own := [("_law_by", 8)]) rfl sc_law_any.nd (pi_range1 (by rfl) B.range (pa_cons (pe_callB call_len_seq (by rfl) B.len (by decide +kernel) (pa_cons (pv 5) pa_nil)) pa_nil)) (blkOk_by (N := ["_law_stream_here", "_law_steps_here", "_law_left_here", "_law_found", "_law_turn", "_law_here", "_law_pairs", "_law_k", "_law_by", "_law_at"]) (sc := (defScope s_law_any)) (by decide +kernel)) (fun _ _ _ _ _ => (pg_name (i := 8) sc_law_any.nd rfl (by first | exact .inl rfl | exact .inr rfl))) (fun _ _ _ _ _ => (pts_one (pt_val (C8.pe_c G_law_idle_by hr (by decide) (by rfl) (pa_cons (pv 5) (pa_cons (pv 7) (pa_cons (pv 8) pa_nil))))))) (fun _ _ _ _ _ => (pe_tup (pa_cons (pv 7) (pa_cons (pv 8) pa_nil)))))))))
  (pss_one (ps_if (pt_truth (pv 6) (by intro _; rfl)) (pss_cons (ps_asg (pe_ix ix_list (pv 6) (C8.pe_c G_law_next hr (by decide) (by rfl) (pa_cons (pv 0) (pa_cons (pe_callB call_len_seq (by rfl) B.len (by decide +kernel) (pa_cons (pv 6) pa_nil)) pa_nil))) (fun _ _ => rfl)) (pg_tup (by rfl) (pgs_cons (pg_name (i := 7) sc_law_any.nd rfl (by first | exact .inl rfl | exact .inr rfl)) (pgs_cons (pg_name (i := 8) sc_law_any.nd rfl (by first | exact .inl rfl | exact .inr rfl)) pgs_nil))))
  (pss_cons (ps_expr (pe_bm PySem.F.plainAttrs_list PySem.F.slot_list_append PySem.F.type_list_append mt_append (pv 3) (pa_cons (pe_tup (pa_cons (pe_ix ix_list (pv 2) (pv 7) (fun _ _ => rfl)) (pa_cons (pe_ix ix_list (pv 2) (pv 8) (fun _ _ => rfl)) pa_nil))) pa_nil)))
  (pss_one (ps_expr (pe_bm PySem.F.plainAttrs_list PySem.F.slot_list_pop PySem.F.type_list_pop mt_popAt (pv 2) (pa_cons (pv 7) pa_nil)))))) pss_nil))))))
  (pss_one (ps_ret (pe_callTy call_tuple_of (by rfl) B.tuple (by decide +kernel) (pa_cons (pv 3) pa_nil))))))), ?_⟩
    refine q_asgL (el_rng (n := ss.length) (ev_is (ev_lenT (ev_var rfl) hA) (by rw [List.length_map, hlen])) (by omega)) fun l H1 nl e1 hl => ?_
    refine q_asgL (el_lst ea_nil (by decide)) fun g H2 ng e2 hg => ?_
    have nlg : l ≠ g := ne_of_none hl ng
    have ng0 := Evl.fresh_back e1 ng
    have nlS := hS.ne nl
    have ngS := hS.ne ng0
    have g02 : Go S L H H2 := Go.of hS (e1.trans e2)
    refine q_forG (S := S) (L := L) (m := (ss.length : Int)) g02.2 (eg_mono (eg_next (m := (ss.length : Int) + 1) (fun _ _ => ev_var rfl) (fun H3 g3 => ev_is (ev_op (ev_lenT (ev_var rfl) (((g02.tu hS).trans (g3.tu g02.2)) _ _ hA)) ev_c rv_I0) (by rw [List.length_map, hlen])) (by omega) (by omega)) fun v _ r => by
        obtain ⟨n, rfl, h1, h2⟩ := r
        exact ⟨n, rfl, h1, by omega⟩) (by omega) (fun n k σ' H' => n ≤ ss.length ∧ ∃ (ls : List Nat) (fs : List Addr) (o4 o5 o6 o7 o8 : Option V), σ' = [some (.ref S), some (.ref a), some (.ref l), some (.ref g), o4, o5, o6, o7, o8, none] ∧ Go S L H H' ∧ H' l = some (.lst (nv ls)) ∧ H' g = some (.lst (fs.map V.ref)) ∧ (∀ n ∈ ls, n < ss.length) ∧ ls.length ≤ ss.length ∧ fs.length ≤ k ∧ ∀ c ∈ fs, ∃ x y : Int, H' c = some (.tup [.int x, .int y]))
      (fun n H3 hn g3 => ⟨hn, List.range ss.length, [], _, _, _, _, _, rfl, g02.trans g3, g3.at nlS (e2 _ _ hl), g3.at ngS hg, fun n hn => List.mem_range.mp hn, by rw [List.length_range]; exact Nat.le_refl _, Nat.le_refl _, fun c hc => nomatch hc⟩) (fun n k σ' H' hk hv => ?_) fun n σ' H' hn hv => ?_
    · obtain ⟨hn, ls, fs, o4, o5, o6, o7, o8, rfl, g3, hl3, hg3, hlt, hle, hfk, hfs⟩ := hv
      have t3 := g3.tu hS
      have hA3 := t3 _ _ hA
      have hP3 : Paired (StpAt H') as ss := pair_map hP fun _ _ q => t3 _ _ q
      refine q_asgL (el_cur (a := a) (as := as) (ev_var rfl) hl3 (by omega) (fun _ => rfl) hA3 (fun n hn => by rw [hlen]; exact hlt n hn) (fun _ _ => ev_var rfl) fun _ _ => ev_var rfl) fun hh H4 _ e4 hhh => ?_
      refine q_asgL (el_lst ea_nil (by decide)) fun pr H5 _ e5 hpr => ?_
      have hcl : ((curA as ls).map V.ref).length = ls.length := by
        unfold curA
        rw [List.length_map, List.length_map]
      have hhh5 := e5 _ _ hhh
      have hP5 : Paired (StpAt H5) (curA as ls) (curM ss ls) := cur_pair (pair_map hP3 fun _ _ q => e5 _ _ (e4 _ _ q)) hlt
      refine q_forR1 (n := (ls.length : Int)) (ea_cons (ev_is (ev_len (ev_var rfl) (SqL.of hhh5)) (by rw [hcl])) ea_nil) ⟨by omega, by omega⟩ (fun i σ2 H6 => ∃ (pr : Addr) (zs : List V) (o7 o8 : Option V), σ2 = [some (.ref S), some (.ref a), some (.ref l), some (.ref g), some (.int (k : Int)), some (.ref hh), some (.ref pr), o7, o8, none] ∧ Ex H5 H6 ∧ H6 pr = some (.lst zs) ∧ zs.length ≤ i * ls.length ∧ ∀ z ∈ zs, PrV ls.length z H6)
        (fun H6 e6 => ⟨pr, [], _, _, rfl, e6, e6 _ _ hpr, Nat.zero_le _, fun _ h => nomatch h⟩) (fun i σ2 H6 hi hw2 => ?_) fun σ2 H6 hw2 => ?_
      · obtain ⟨pr, zs, o7, o8, rfl, e6, hpr6, hzl, hzs⟩ := hw2
        have hi2 : i < ls.length := by omega
        have hi12 : i * ls.length ≤ 144 := Nat.mul_le_mul (show i ≤ 12 by omega) (show ls.length ≤ 12 by omega)
        refine q1_asgP (evp_catL (ev_var rfl) hpr6 (evp_lcP (n := (ls.length : Int)) (R1 := PrV ls.length) (fun j => idleM (curM ss ls) i j) (ea_cons (ev_is (ev_len (ev_var rfl) (SqL.of (e6 _ _ hhh5))) (by rw [hcl])) ea_nil) ⟨by omega, by omega⟩ (fun _ => rfl) (fun z _ _ t h => h.ts t)
          (fun j H7 e7 hj => et_B (ev_call1 (ea_cons (ev_var rfl) (ea_cons (ev_var rfl) (ea_cons (ev_var rfl) ea_nil))) fun H8 e8 Q8 q8 => ⟨hh, i, j, curM ss ls, rfl, ⟨_, e8 _ _ (e7 _ _ (e6 _ _ hhh5)), pair_map hP5 fun _ _ z => e8 _ _ (e7 _ _ (e6 _ _ z))⟩, by rw [curM_len]; omega, by rw [curM_len]; omega, by rw [curM_len]; omega, q8⟩))
          fun j H7 e7 hj => evp_U2 (eu_tup (ea_cons (ev_var rfl) (ea_cons (ev_var rfl) ea_nil)) (show 2 ≤ 100000 by decide)) hi2 (by omega)) fun v H7 e7 hv7 => ?_) fun v H7 e7 hv7 => ?_
        · obtain ⟨p, zs2, rfl, hp, hz2, _⟩ := hv7
          exact ⟨p, zs2, rfl, hp, by omega⟩
        · obtain ⟨p, zs2, H0, b, rfl, hp, e8, hb, hR⟩ := hv7
          obtain ⟨p2, zs3, hpp, hp2, hz3, hz4⟩ := hR
          cases hpp
          have hzz := hb.symm.trans hp2
          have hz5 : zs2 = zs3 := by
            injection hzz with hzz
            injection hzz
          subst hz5
          refine ⟨p, zs ++ zs2, _, _, rfl, e6.trans e7, hp, by rw [List.length_append, Nat.succ_mul]; omega, fun z hz => ?_⟩
          rcases List.mem_append.mp hz with hz | hz
          · exact (hzs z hz).ts (Tu.of e7)
          · exact (hz4 z hz).ts (Tu.of e8)
      · obtain ⟨pr, zs, o7, o8, rfl, e6, hpr6, hzl, hzs⟩ := hw2
        have g6 : Go S L H H6 := ((g3.ex e4).ex e5).ex e6
        have e36 : Ex H' H6 := e4.trans (e5.trans e6)
        have hl144 : zs.length ≤ 144 := Nat.le_trans hzl (Nat.mul_le_mul (show (ls.length : Int).toNat ≤ 12 by omega) (show ls.length ≤ 12 by omega))
        refine s_when (et_tru (ev_var rfl) hpr6) (fun z H7 e7 => ?_) fun z H7 e7 => ⟨hn, ls, fs, _, _, _, _, _, rfl, g6.ex e7, e7 _ _ (e36 _ _ hl3), e7 _ _ (e36 _ _ hg3), hlt, hle, by omega, fun c hc => let ⟨x, y, h⟩ := hfs c hc; ⟨x, y, e7 _ _ (e36 _ _ h)⟩⟩
        have hpos : 0 < zs.length := by
          cases zs with
          | nil => exact absurd z (by decide)
          | cons => exact Nat.succ_pos _
        have g7 := g6.ex e7
        have hpr7 := e7 _ _ hpr6
        have nprS : pr ≠ S := fun e => by
          obtain ⟨_, _, _, h1, _⟩ := g7.2
          rw [e, h1] at hpr7
          injection hpr7 with hpr7
          injection hpr7 with hpr7
          have h2 := hzs (.ref L) (by rw [← hpr7]; exact List.mem_cons_self ..)
          have h3 := hzs (.int _) (by rw [← hpr7]; exact List.mem_cons_of_mem _ (List.mem_cons_self ..))
          obtain ⟨c, x, y, h4, _⟩ := h3
          cases h4
        refine (eg_ixL (S := S) (L := L) (a := pr) (vs := zs) (H := H7) (fun _ _ => ev_var rfl) hpr7 nprS (eg_next (m := (zs.length : Int)) (fun _ _ => ev_var rfl) (fun H8 g8 => ev_len (ev_var rfl) (SqL.of (g8.at nprS hpr7))) (by omega) (by omega))) H7 (Go.refl g7.2) _ fun v H8 g8 hm => ?_
        have t78 := g8.tu g7.2
        obtain ⟨c, x, y, rfl, hx, hy, hc⟩ := ((hzs v hm).ts (Tu.of e7)).ts t78
        refine ⟨c, _, rfl, SqT.of hc, rfl, _, _, rfl, _, _, rfl, rfl, ?_⟩
        have hl8 := g8.at nlS (e7 _ _ (e36 _ _ hl3))
        have hg8 := g8.at ngS (e7 _ _ (e36 _ _ hg3))
        have gx : atI (nv ls) (x : Int) = some (.int (ls[x] : Nat)) := atI_nat (by unfold nv; rw [List.getElem?_map, List.getElem?_eq_getElem hx]; rfl)
        have gy : atI (nv ls) (y : Int) = some (.int (ls[y] : Nat)) := atI_nat (by unfold nv; rw [List.getElem?_map, List.getElem?_eq_getElem hy]; rfl)
        refine q_appU hg8 (ev_var rfl) (eu_tup (ea_cons (ev_ixL (ev_var rfl) (ev_var rfl) hl8 gx) (ea_cons (ev_ixL (ev_var rfl) (ev_var rfl) hl8 gy) ea_nil)) (show 2 ≤ 100000 by decide)) (by rw [List.length_map]; omega) fun cc H9 nc e9 hc9 => ?_
        have hg9 := e9 _ _ hg8
        have hl9 := e9 _ _ hl8
        have g8' := g7.trans g8
        have t10 : Tu H9 (upd H9 g (.lst (fs.map V.ref ++ [.ref cc]))) := Tu.put hg9 fun _ z => nomatch z
        have g10 : Go S L H (upd H9 g (.lst (fs.map V.ref ++ [.ref cc]))) := (g8'.ex e9).mut hS ng0
        have hl10 : (upd H9 g (.lst (fs.map V.ref ++ [.ref cc]))) l = some (.lst (nv ls)) := by
          rw [upd_ne nlg]
          exact hl9
        refine q_pop (j := x) hl10 (ev_var rfl) (ev_var rfl) (by unfold nv; rw [List.length_map]; exact hx) (by unfold nv; rw [List.length_map]; omega) fun Ha ea => ?_
        have ta : Tu Ha (upd Ha l (.lst ((nv ls).eraseIdx x))) := Tu.put (ea _ _ hl10) fun _ z => nomatch z
        refine ⟨hn, ls.eraseIdx x, fs ++ [cc], _, _, _, _, _, rfl, (g10.ex ea).mut hS nl, ?_, ?_, fun n hn => hlt n (List.mem_of_mem_eraseIdx hn), Nat.le_trans (List.length_eraseIdx_le ls x) hle, by rw [List.length_append]; show fs.length + 1 ≤ k + 1; omega, fun c2 h2 => ?_⟩
        · rw [upd_same]
          unfold nv
          rw [map_erase]
        · rw [upd_ne nlg.symm]
          refine (ea _ _ upd_same).trans ?_
          rw [List.map_append]
          rfl
        · rcases List.mem_append.mp h2 with h2 | h2
          · obtain ⟨x, y, h3⟩ := hfs c2 h2
            exact ⟨x, y, ta _ _ (ea _ _ (t10 _ _ (e9 _ _ (t78 _ _ (e7 _ _ (e36 _ _ h3))))))⟩
          · have h3 := List.mem_singleton.mp h2
            subst h3
            exact ⟨_, _, ta _ _ (ea _ _ (t10 _ _ hc9))⟩
    · obtain ⟨hn2, ls, fs, o4, o5, o6, o7, o8, rfl, g3, hl3, hg3, hlt, hle, hfk, hfs⟩ := hv
      exact s_retU (eu_tupL (ev_var rfl) hg3) fun p H4 _ e4 hp => q _ H4 (g3.ex e4) ⟨p, rfl, fs, hp, by omega, fun c hc => let ⟨x, y, h⟩ := hfs c hc; ⟨x, y, e4 _ _ h⟩⟩
end
end Abl
namespace Abl
open PySem PySem.Spec PyProof.Rows L2
open Evl (Ex Ev EvT EvA EvL EvU EvO ev_var ev_c ev_op ev_is et_is ev_andV ev_orV ev_notV et_and et_or et_not et_B et_test rv_I0 rv_I rv_eq rv_ne ea_nil ea_cons s_ret s_retU s_if s_when q_when q_asg s_asg q_asgL ev_if RetV eu_tup el_lst ev_inU ev_un ru_neg eo_none eo_some el_sl ev_opUU ev_len q_forR1 s_forR1 q_forT s_forT rv_isL q_while s_while s_app s_appU q_appU q_cut q_setL s_setL ev_max2 ev_cb)
section
variable {P : Program} {w : World} {K : PySem.W.Frag} {mg : Str → Option Value} {base : Heap}
/-! ### values of many kinds -/
def ItemV (v : V) (H : Hp) : Prop := ∃ it, ItemAt H v it
theorem ItemV.ts {v : V} {H H' : Hp} (hl : ∀ a xs, H a = some (.lst xs) → H' a = some (.lst xs)) (e : Tu H H') (h : ItemV v H) : ItemV v H' := by
  obtain ⟨it, h | ⟨a, xs, h1, h2, h3⟩ | ⟨a, xs, h1, h2, h3⟩⟩ := h
  · exact ⟨it, .inl h⟩
  · exact ⟨it, .inr (.inl ⟨a, xs, h1, hl _ _ h2, h3⟩)⟩
  · exact ⟨it, .inr (.inr ⟨a, xs, h1, e _ _ h2, h3⟩)⟩
theorem item_tup {H : Hp} {a : Addr} {xs : List V} (h : H a = some (.tup xs)) (hn : ∀ x ∈ xs, Num x) (hl : xs.length ≤ 100) : ItemV (.ref a) H := ⟨_, .inr (.inr ⟨a, xs, rfl, h, hn, hl, rfl⟩)⟩
theorem item_two {H : Hp} {a : Addr} {x y : V} (h : H a = some (.tup [x, y])) (hx : Num x) (hy : Num y) : ItemV (.ref a) H := item_tup h (fun z hz => by
  rcases List.mem_cons.mp hz with rfl | hz
  · exact hx
  · rw [List.mem_singleton.mp hz]; exact hy) (by show 2 ≤ 100; decide)
theorem items_of {H : Hp} : ∀ {xs : List V}, (∀ x ∈ xs, ItemV x H) → ∃ l, Paired (ItemAt H) xs l
  | [], _ => ⟨[], .nil⟩
  | x :: r, h => by
    obtain ⟨it, hi⟩ := h x (List.mem_cons_self ..)
    obtain ⟨l, hl⟩ := items_of (xs := r) fun y hy => h y (List.mem_cons_of_mem _ hy)
    exact ⟨it :: l, .cons hi hl⟩
def rChg (v : V) (H : Hp) : Prop := ∃ its, ValAt H v its
theorem chg_tup {H : Hp} {a : Addr} {xs : List V} (h : H a = some (.tup xs)) (hi : ∀ x ∈ xs, ItemV x H) (hl : xs.length ≤ 100) : rChg (.ref a) H := by
  obtain ⟨l, hp⟩ := items_of hi
  exact ⟨_, .inr (.inr ⟨a, xs, l, rfl, h, hp, hl, rfl⟩)⟩
theorem red_items {H : Hp} {g : Addr} {n : Nat} (h : PairsAt H g n) : ∃ xs, H g = some (.tup xs) ∧ xs.length ≤ n ∧ ∀ x ∈ xs, ∃ (c : Addr) (i j : Int), x = .ref c ∧ H c = some (.tup [.int i, .int j]) := by
  obtain ⟨fs, h1, h2, h3⟩ := h
  refine ⟨_, h1, by rw [List.length_map]; exact h2, fun x hx => ?_⟩
  obtain ⟨c, hc, rfl⟩ := List.mem_map.mp hx
  obtain ⟨i, j, h4⟩ := h3 c hc
  exact ⟨c, i, j, rfl, h4⟩
section
variable {S L : Addr} {σ : L2.St} {H : Hp} {ta tb te : TE} {R : V → Hp → Prop}
/-- values told by a property, in a row -/
def EvAP (ta : TA) (σ : L2.St) (H : Hp) (n : Nat) (R : V → Hp → Prop) : Prop := ∀ H1, Ex H H1 → ∀ Q : List V → Hp → Prop, (∀ vs H2, Ex H1 H2 → vs.length = n → (∀ v ∈ vs, R v H2) → Q vs H2) → ta σ H1 Q
theorem eap_nil : EvAP tNil σ H 0 R := fun H1 _ _ q => q [] H1 (Ex.refl H1) rfl fun _ h => nomatch h
theorem eap_cons {tr : TA} {n : Nat} (hR : ∀ v H1 H2, Ex H1 H2 → R v H1 → R v H2) (h : EvP te σ H R) (hr : EvAP tr σ H n R) : EvAP (tCons te tr) σ H (n + 1) R := fun H1 e Q q =>
  h H1 e _ fun v H2 e2 r => hr H2 (e.trans e2) _ fun vs H3 e3 hn hv => q (v :: vs) H3 (e2.trans e3) (by rw [List.length_cons, hn]) fun x hx => by
    rcases List.mem_cons.mp hx with rfl | hx
    · exact hR _ _ _ e3 r
    · exact hv x hx
/-- a list of them; it is not the stream -/
def LstR (S : Addr) (n : Nat) (R : V → Hp → Prop) (v : V) (H : Hp) : Prop := ∃ p xs, v = .ref p ∧ p ≠ S ∧ H p = some (.lst xs) ∧ xs.length = n ∧ ∀ x ∈ xs, R x H
theorem evp_lstP {ta : TA} {n : Nat} {o : HO} (hR : ∀ v H1 H2, Ex H1 H2 → R v H1 → R v H2) (hS : H S = some o) (h : EvAP ta σ H n R) (hz : n ≤ 100000) : EvP (tLst ta) σ H (LstR S n R) := fun H1 e Q q =>
  h H1 e _ fun vs H2 e2 hn hv => ⟨Evl.sz_of (by omega), fun p hp => q _ _ (e2.trans (Ex.new hp)) ⟨p, vs, rfl, ne_of_none' hp ((e.trans e2) _ _ hS), upd_same, hn, fun v h => hR _ _ _ (Ex.new hp) (hv v h)⟩⟩
/-- an item of such a list, the place read of the stream -/
theorem eg_ixP {n : Nat} (hR : ∀ v H1 H2, Strm S L H1 → Go S L H1 H2 → R v H1 → R v H2) (h0 : EvG S L ta σ H (LstR S n R)) (h : EvG S L tb σ H (IR 0 ((n : Int) - 1))) : EvG S L (tOp (rIxL K) ta tb) σ H R := fun H1 g Q q =>
  h0 H1 g _ fun v H2 g2 r => h H2 (g.trans g2) _ fun y H3 g3 r2 => by
    obtain ⟨p, xs, rfl, hpS, hp, hn, hx⟩ := r
    obtain ⟨m, rfl, m0, m1⟩ := r2
    have hlt : m.toNat < xs.length := by omega
    exact ⟨p, xs, m, xs[m.toNat], rfl, rfl, SqL.of (g3.at hpS hp), nat_at (i := m.toNat) (by omega) (List.getElem?_eq_getElem hlt), q _ H3 (g2.trans g3) (hR _ _ _ g2.2 g3 (hx _ (List.getElem_mem hlt)))⟩
theorem evp_ev {v : V} (h : Ev te σ H v) (hR : ∀ H1, Ex H H1 → R v H1) : EvP te σ H R := fun H1 e Q q => h H1 e Q fun H2 e2 => q v H2 e2 (hR H2 (e.trans e2))
theorem evp_mono {R' : V → Hp → Prop} (h : EvP te σ H R) (f : ∀ v H1, Ex H H1 → R v H1 → R' v H1) : EvP te σ H R' := fun H1 e Q q => h H1 e Q fun v H2 e2 r => q v H2 e2 (f v H2 (e.trans e2) r)
/-- is a tuple of these values -/
def TupR (xs : List V) (v : V) (H : Hp) : Prop := ∃ p, v = .ref p ∧ H p = some (.tup xs)
theorem evp_tupR {xs : List V} {a : Addr} (h : Ev te σ H (.ref a)) (ha : H a = some (.tup xs)) : EvP te σ H (TupR xs) := evp_ev h fun H1 e => ⟨a, rfl, e _ _ ha⟩
theorem evp_UR {xs : List V} (h : EvU te σ H xs) : EvP te σ H (TupR xs) := evp_U h
/-- t[lo:hi] -/
theorem evp_slR {tl th : TO} {a : Addr} {xs : List V} {lo hi : Option Int} (h : Ev te σ H (.ref a)) (h1 : EvO tl σ H lo) (h2 : EvO th σ H hi) (hs : H a = some (.tup xs)) : EvP (tSl (rSlA K) te tl th) σ H (TupR (cutV xs lo hi)) := fun H1 e _ q =>
  h H1 e _ fun H2 e2 => h1 H2 (e.trans e2) _ fun H3 e3 => h2 H3 ((e.trans e2).trans e3) _ fun H4 e4 => by
    have ha := (((e.trans e2).trans e3).trans e4) _ _ hs
    refine ⟨a, xs, rfl, SqT.of ha, fun z => q _ H4 ((e2.trans e3).trans e4) ⟨a, rfl, ?_⟩, fun _ p hp => q _ _ (((e2.trans e3).trans e4).trans (Ex.new hp)) ⟨p, rfl, upd_same⟩⟩
    rw [ha]
    unfold cutV
    rw [z.1, z.2, List.drop_zero, Nat.sub_zero, List.take_length]
/-- t + u -/
theorem evp_catR {xs ys : List V} (h1 : EvP ta σ H (TupR xs)) (h2 : EvP tb σ H (TupR ys)) (small : xs.length + ys.length ≤ 100000) : EvP (tOp (rCatA K) ta tb) σ H (TupR (xs ++ ys)) := fun H0 e0 Q q =>
  h1 H0 e0 _ fun v H1 e1 r1 => h2 H1 (e0.trans e1) _ fun v2 H2 e2 r2 => by
    obtain ⟨a, rfl, ha⟩ := r1
    obtain ⟨b, rfl, hb⟩ := r2
    have ha2 := e2 _ _ ha
    refine ⟨a, b, xs, ys, rfl, rfl, SqT.of ha2, SqT.of hb, Evl.sz_of small, fun z => q _ H2 (e1.trans e2) ⟨b, rfl, by rw [z]; exact hb⟩, fun _ z => q _ H2 (e1.trans e2) ⟨a, rfl, by rw [z, List.append_nil]; exact ha2⟩, fun _ _ p hp => q _ _ ((e1.trans e2).trans (Ex.new hp)) ⟨p, rfl, upd_same⟩⟩
theorem evp_backR {xs : List V} {a : Addr} (h : Ev te σ H (.ref a)) (ha : H a = some (.tup xs)) : EvP (tBackT K te) σ H (TupR xs.reverse) := fun H1 e Q q =>
  h H1 e _ fun H2 e2 => ⟨a, xs, rfl, SqT.of ((e.trans e2) _ _ ha), fun p hp => q _ _ (e2.trans (Ex.new hp)) ⟨p, rfl, upd_same⟩⟩
/-- list(t): a new list, not the stream -/
theorem evp_listQ {xs : List V} {a : Addr} {o : HO} (hS : H S = some o) (h : Ev te σ H (.ref a)) (ha : H a = some (.tup xs)) : EvP (tCB (Evl.rListS K) (tCons te tNil)) σ H (fun v H' => ∃ p, v = .ref p ∧ p ≠ S ∧ H' p = some (.lst xs)) := fun H1 e Q q =>
  h H1 e _ fun H2 e2 => ⟨a, xs, rfl, .inr (SqT.of ((e.trans e2) _ _ ha)), fun p hp => q _ _ (e2.trans (Ex.new hp)) ⟨p, rfl, ne_of_none' hp ((e.trans e2) _ _ hS), upd_same⟩⟩
/-- [e for i, j in t], each item a new tuple of the two -/
theorem evp_swap {xs : List V} {a : Addr} {i j : Nat} {vs : List Nat} (h : Ev ta σ H (.ref a)) (ha : H a = some (.tup xs)) (hz : xs.length ≤ 40000) (hx : ∀ x ∈ xs, ∃ (c : Addr) (i j : Int), x = .ref c ∧ H c = some (.tup [.int i, .int j])) (hw : ∀ x y, wipe (((wipe σ vs).set i (some x)).set j (some y)) vs = wipe σ vs)
    (he : ∀ (x y : Int) H1, EvU te (((wipe σ vs).set i (some (.int x))).set j (some (.int y))) H1 [.int y, .int x]) : EvP (tLc (iTup K ta) (gTup K 2 (gCons (gName i) (gCons (gName j) gNil))) tYes te vs) σ H (fun v H' => ∃ p zs, v = .ref p ∧ H' p = some (.lst zs) ∧ zs.length ≤ xs.length ∧ ∀ z ∈ zs, ∃ (c : Addr) (x y : Int), z = .ref c ∧ H' c = some (.tup [.int x, .int y])) := fun H1 e Q q =>
  h H1 e _ fun H2 e2 => ⟨a, rfl, ⟨xs, SqT.of ((e.trans e2) _ _ ha)⟩, fun Dl hD => by
    refine lc_tup (xs := xs) (fun k H' => Ex H2 H' ∧ ∃ zs, H' Dl = some (.lst zs) ∧ zs.length ≤ k ∧ ∀ z ∈ zs, ∃ (c : Addr) (x y : Int), z = .ref c ∧ H' c = some (.tup [.int x, .int y])) ⟨Ex.new hD, [], upd_same, Nat.le_refl _, fun _ h => nomatch h⟩ (fun k H' _ p => SqT.of (p.1 _ _ ((e.trans e2) _ _ ha))) (fun k x H' hk p => ?_) fun H' p => ?_
    · obtain ⟨e3, zs, h1, h2, h3⟩ := p
      obtain ⟨c, ix, jx, rfl, hc⟩ := hx x (List.mem_of_getElem? hk)
      have hk2 := (List.getElem?_eq_some_iff.mp hk).1
      refine ⟨c, _, rfl, SqT.of (((e.trans e2).trans e3) _ _ hc), rfl, _, _, rfl, _, _, rfl, rfl, hw _ _, ?_⟩
      refine he ix jx H' H' (Ex.refl H') _ fun p H4 _ e4 hp => ?_
      have t6 : Tu H4 (upd H4 Dl (.lst (zs ++ [.ref p]))) := Tu.put (e4 _ _ h1) fun _ z => nomatch z
      refine ⟨zs, e4 _ _ h1, Evl.sz_lt (by omega), (e3.trans e4).mut hD, zs ++ [.ref p], upd_same, by rw [List.length_append]; show zs.length + 1 ≤ k + 1; omega, fun z hz => ?_⟩
      rcases List.mem_append.mp hz with hz | hz
      · obtain ⟨c2, x2, y2, h4, h5⟩ := h3 z hz
        exact ⟨c2, x2, y2, h4, t6 _ _ (e4 _ _ h5)⟩
      · have := List.mem_singleton.mp hz
        subst this
        exact ⟨p, jx, ix, rfl, t6 _ _ hp⟩
    · obtain ⟨e3, zs, h1, h2, h3⟩ := p
      exact q _ H' (e2.trans e3) ⟨Dl, zs, rfl, h1, h2, h3⟩⟩
theorem evp_tupOfP {F : List V → Hp → Prop} (hF : ∀ xs H1 H2, Ex H1 H2 → F xs H1 → F xs H2) (h : EvP ta σ H (fun v H' => ∃ p zs, v = .ref p ∧ H' p = some (.lst zs) ∧ F zs H')) : EvP (tCB (rTupOf K) (tCons ta tNil)) σ H (fun v H' => ∃ p zs, v = .ref p ∧ H' p = some (.tup zs) ∧ F zs H') := fun H1 e Q q =>
  h H1 e _ fun v H2 e2 r => by
    obtain ⟨p, zs, rfl, hp, hf⟩ := r
    exact ⟨p, zs, rfl, .inl ⟨SqL.of hp, fun l hl => q _ _ (e2.trans (Ex.new hl)) ⟨l, zs, rfl, upd_same, hF _ _ _ (Ex.new hl) hf⟩⟩⟩
end
theorem ItemV.ex {v : V} {H H' : Hp} (e : Ex H H') (h : ItemV v H) : ItemV v H' := h.ts (fun a xs h => e a _ h) (Tu.of e)
/-- read of the stream: a list may be the stream itself; so an item is told without it -/
def ItemS (S : Addr) (v : V) (H : Hp) : Prop := v ≠ .ref S ∧ ItemV v H
theorem ItemS.go {S L : Addr} {v : V} {H H' : Hp} (hs : Strm S L H) (g : Go S L H H') (h : ItemS S v H) : ItemS S v H' := by
  obtain ⟨n, it, h⟩ := h
  refine ⟨n, it, ?_⟩
  have t := g.tu hs
  rcases h with h | ⟨a, xs, h1, h2, h3⟩ | ⟨a, xs, h1, h2, h3⟩
  · exact .inl h
  · exact .inr (.inl ⟨a, xs, h1, g.at (fun e => n (by rw [h1, e])) h2, h3⟩)
  · exact .inr (.inr ⟨a, xs, h1, t _ _ h2, h3⟩)
theorem ItemS.ex {S : Addr} {v : V} {H H' : Hp} (e : Ex H H') (h : ItemS S v H) : ItemS S v H' := ⟨h.1, h.2.ex e⟩
theorem strm_tup {S L a : Addr} {xs : List V} {H : Hp} (hs : Strm S L H) (h : H a = some (.tup xs)) : V.ref a ≠ .ref S := fun e => by
  obtain ⟨_, _, _, h1, _⟩ := hs
  cases e
  rw [h1] at h
  cases h
def ChgS (S : Addr) (v : V) (H : Hp) : Prop := v = .non ∨ (∃ (a : Addr) (xs : List V), v = .ref a ∧ a ≠ S ∧ H a = some (.lst xs)) ∨ ∃ (a : Addr) (xs : List V), v = .ref a ∧ H a = some (.tup xs) ∧ (∀ x ∈ xs, ItemS S x H) ∧ xs.length ≤ 100
theorem ChgS.go {S L : Addr} {v : V} {H H' : Hp} (hs : Strm S L H) (g : Go S L H H') (h : ChgS S v H) : ChgS S v H' := by
  have t := g.tu hs
  rcases h with h | ⟨a, xs, h1, h2, h3⟩ | ⟨a, xs, h1, h2, h3, h4⟩
  · exact .inl h
  · exact .inr (.inl ⟨a, xs, h1, h2, g.at h2 h3⟩)
  · exact .inr (.inr ⟨a, xs, h1, t _ _ h2, fun x hx => (h3 x hx).go hs g, h4⟩)
theorem ChgS.ex {S : Addr} {v : V} {H H' : Hp} (e : Ex H H') (h : ChgS S v H) : ChgS S v H' := by
  rcases h with h | ⟨a, xs, h1, h2, h3⟩ | ⟨a, xs, h1, h2, h3, h4⟩
  · exact .inl h
  · exact .inr (.inl ⟨a, xs, h1, h2, e _ _ h3⟩)
  · exact .inr (.inr ⟨a, xs, h1, e _ _ h2, fun x hx => (h3 x hx).ex e, h4⟩)
theorem ChgS.chg {S : Addr} {v : V} {H : Hp} (h : ChgS S v H) : rChg v H := by
  rcases h with h | ⟨a, xs, h1, h2, h3⟩ | ⟨a, xs, h1, h2, h3, h4⟩
  · exact ⟨none, .inl ⟨h, rfl⟩⟩
  · exact ⟨none, .inr (.inl ⟨a, xs, h1, h3, rfl⟩)⟩
  · subst h1
    exact chg_tup h2 (fun x hx => (h3 x hx).2) h4
theorem chg_tupR {S : Addr} {xs : List V} {v : V} {H : Hp} (h : TupR xs v H) (hi : ∀ x ∈ xs, ItemS S x H) (hl : xs.length ≤ 100) : ChgS S v H := by
  obtain ⟨p, rfl, hp⟩ := h
  exact .inr (.inr ⟨p, xs, rfl, hp, hi, hl⟩)
theorem item_tupR {S L : Addr} {xs : List V} {v : V} {H : Hp} (hs : Strm S L H) (h : TupR xs v H) (hn : xs.all (fun x => match x with | .int _ => true | .bl _ => true | _ => false) = true) (hl : xs.length ≤ 100) : ItemS S v H := by
  obtain ⟨p, rfl, hp⟩ := h
  refine ⟨strm_tup hs hp, item_tup hp (fun x hx => ?_) hl⟩
  have h2 := List.all_eq_true.mp hn x hx
  cases x with
  | int i => exact .inl ⟨i, rfl⟩
  | bl b => exact .inr ⟨b, rfl⟩
  | _ => cases h2
theorem mem_cut {xs : List V} {lo hi : Option Int} {x : V} (h : x ∈ cutV xs lo hi) : x ∈ xs := List.mem_of_mem_drop (List.mem_of_mem_take h)
abbrev s_law_changed : Stmt := topS 65
theorem sc_law_changed : FnScope ["_law_stream_here", "_law_steps_here", "_law_value", "_law_at", "_law_many", "_law_pair", "_law_bad", "_law_one", "_law_pick", "_law_index", "_law_by"] ["_law_stream_here", "_law_steps_here", "_law_value"] (defScope s_law_changed) := ⟨rfl, rfl, rfl, by decide +kernel, rfl, by decide +kernel, by decide +kernel⟩
def spChanged : Sp := fun vs H Q _ => ∃ (S L A : Addr) (v : V) (ss : List Stp), vs = [.ref S, .ref A, v] ∧ Strm S L H ∧ StepsAt H A ss ∧ ss.length ≤ 12 ∧ rRed v H ∧ ∀ v H', Go S L H H' → rChg v H' → Q v H'
theorem ok_law_changed (F : Has K mg "_law_changed" s_law_changed ["_law_stream_here", "_law_steps_here", "_law_value"]) (B : Gm mg) (G_law_next : C8.Cal P w K mg base 1 "_law_next" spNext []) : C8.Cal P w K mg base 2 "_law_changed" spChanged [] := by
  refine cal_of F sc_law_changed (fun vs H Q E h => ?_) (fun f cdv A outer s H vs Q E hr h => ?_)
  · obtain ⟨S, L, A, v, ss, rfl, _⟩ := h
    rfl
  · obtain ⟨S, L, a, v, ss, rfl, hS, ⟨as, hA, hP⟩, h12, ⟨g, rfl, hg⟩, q⟩ := h
    have hlen := pair_len hP
    obtain ⟨xs, hg0, hxl, hx0⟩ := red_items hg
    refine ⟨_, (pss_cons (ps_set (i := 3) sc_law_changed.nd rfl (by first | exact .inl rfl | exact .inr rfl) (C8.pe_c G_law_next hr (by decide) (by rfl) (pa_cons (pv 0) (pa_cons (pe_op op_add (pe_callB call_len_seq (by rfl) B.len (by decide +kernel) (pa_cons (pv 2) pa_nil)) pe_int) pa_nil))))
  (pss_cons (ps_set (i := 4) sc_law_changed.nd rfl (by first | exact .inl rfl | exact .inr rfl) (pe_callB call_len_seq (by rfl) B.len (by decide +kernel) (pa_cons (pv 1) pa_nil)))
  (pss_cons (ps_set (i := 5) sc_law_changed.nd rfl (by first | exact .inl rfl | exact .inr rfl) (pe_tup (pa_cons (C8.pe_c G_law_next hr (by decide) (by rfl) (pa_cons (pv 0) (pa_cons (pe_op op_add (pv 4) pe_int) pa_nil))) (pa_cons (C8.pe_c G_law_next hr (by decide) (by rfl) (pa_cons (pv 0) (pa_cons (pe_op op_add (pv 4) pe_int) pa_nil))) pa_nil))))
  (pss_cons (ps_set (i := 6) sc_law_changed.nd rfl (by first | exact .inl rfl | exact .inr rfl) (pe_lst (pa_cons (pv 5) (pa_cons (pe_tup (pa_cons (pe_ix ix_tup (pv 5) pe_int (fun _ _ => rfl)) (pa_cons pe_bl pa_nil))) (pa_cons (pe_tup (pa_cons (pe_un un_neg pe_int) (pa_cons (pe_ix ix_tup (pv 5) pe_int (fun _ _ => rfl)) pa_nil))) (pa_cons (pe_tup (pa_cons (pv 4) (pa_cons pe_int pa_nil))) (pa_cons (pe_slice sl_tupA (pv 5) po_none (po_some pe_int)) (pa_cons (pe_op op_catA (pv 5) (pe_tup (pa_cons pe_int pa_nil))) (pa_cons (pe_callTy call_list_of (by rfl) B.list (by decide +kernel) (pa_cons (pv 5) pa_nil)) (pa_cons pe_non (pa_cons (pe_tup (pa_cons (pe_ix ix_tup (pv 5) pe_int (fun _ _ => rfl)) (pa_cons (pe_ix ix_tup (pv 5) pe_int (fun _ _ => rfl)) pa_nil))) pa_nil)))))))))))
  (pss_cons (ps_set (i := 7) sc_law_changed.nd rfl (by first | exact .inl rfl | exact .inr rfl) (pe_ix ix_list (pv 6) (C8.pe_c G_law_next hr (by decide) (by rfl) (pa_cons (pv 0) (pa_cons (pe_callB call_len_seq (by rfl) B.len (by decide +kernel) (pa_cons (pv 6) pa_nil)) pa_nil))) (fun _ _ => rfl)))
  (pss_cons (ps_set (i := 8) sc_law_changed.nd rfl (by first | exact .inl rfl | exact .inr rfl) (C8.pe_c G_law_next hr (by decide) (by rfl) (pa_cons (pv 0) (pa_cons pe_int pa_nil))))
  (pss_cons (ps_if (pt_cmpR op_eq (pv 8) pe_int (nomark _)) (pss_one (ps_ret (pe_op op_catA (pe_op op_catA (pe_slice sl_tupA (pv 2) po_none (po_some (pv 3))) (pe_tup (pa_cons (pv 7) pa_nil))) (pe_slice sl_tupA (pv 2) (po_some (pv 3)) po_none)))) pss_nil)
  (pss_cons (ps_if (pt_cmpR op_eq (pv 8) pe_int (nomark _)) (pss_one (ps_ret (pe_op op_catA (pe_op op_catA (pe_slice sl_tupA (pv 2) po_none (po_some (pv 3))) (pe_tup (pa_cons (pv 7) pa_nil))) (pe_slice sl_tupA (pv 2) (po_some (pe_op op_add (pv 3) pe_int)) po_none)))) pss_nil)
  (pss_cons (ps_if (pt_cmpR op_eq (pv 8) pe_int (nomark _)) (pss_one (ps_ret (pe_op op_catA (pe_slice sl_tupA (pv 2) po_none (po_some (pv 3))) (pe_slice sl_tupA (pv 2) (po_some (pe_op op_add (pv 3) pe_int)) po_none)))) pss_nil)
  (pss_cons (ps_if (pt_cmpR op_eq (pv 8) pe_int (nomark _)) (pss_one (ps_ret (pe_revT (pv 2)))) pss_nil)
  (pss_cons (ps_if (pt_cmpR op_eq (pv 8) pe_int (nomark _)) (pss_one (ps_ret (pe_ix ix_list (pe_lst (pa_cons (pe_callTy call_list_of (by rfl) B.list (by decide +kernel) (pa_cons (pv 2) pa_nil)) (pa_cons pe_non (pa_cons (pe_op op_catA (pv 2) (pe_slice sl_tupA (pv 2) po_none (po_some pe_int))) (pa_cons (pe_callTy call_tuple_of (by rfl) B.tuple (by decide +kernel) (pa_cons (pe_lc (own := [("_law_index", 9), ("_law_by", 10)]) (g := (gTup K 2 (gCons (gName 9) (gCons (gName 10) gNil)))) rfl sc_law_changed.nd (pi_tup (pv 2)) (blkOk_by (N := ["_law_stream_here", "_law_steps_here", "_law_value", "_law_at", "_law_many", "_law_pair", "_law_bad", "_law_one", "_law_pick", "_law_index", "_law_by"]) (sc := (defScope s_law_changed)) (by decide +kernel)) (fun _ _ _ _ _ => (pg_tup (by rfl) (pgs_cons (pg_name (i := 9) sc_law_changed.nd rfl (by first | exact .inl rfl | exact .inr rfl)) (pgs_cons (pg_name (i := 10) sc_law_changed.nd rfl (by first | exact .inl rfl | exact .inr rfl)) pgs_nil)))) (fun _ _ _ _ _ => pts_nil) (fun _ _ _ _ _ => (pe_tup (pa_cons (pv 10) (pa_cons (pv 9) pa_nil))))) pa_nil)) pa_nil))))) (C8.pe_c G_law_next hr (by decide) (by rfl) (pa_cons (pv 0) (pa_cons pe_int pa_nil))) (fun _ _ => rfl)))) pss_nil)
  (pss_one (ps_ret (pv 2)))))))))))))), ?_⟩
    refine q_asgG (S := S) (L := L) hS (eg_next (m := (xs.length : Int) + 1) (fun _ _ => ev_var rfl) (fun H3 g3 => ev_op (ev_lenT (ev_var rfl) ((g3.tu hS) _ _ hg0)) ev_c rv_I0) (by omega) (by omega)) fun v H1 g1 hv => ?_
    obtain ⟨at0, rfl, at1, at2⟩ := hv
    refine q_asg (ev_lenT (ev_var rfl) ((g1.tu hS) _ _ hA)) fun H2 e2 => ?_
    have eml : ((as.map V.ref).length : Int) = (ss.length : Int) := by rw [List.length_map, hlen]
    rw [eml]
    have g2 := g1.ex e2
    refine q_asgG (S := S) (L := L) g2.2 (eg_tup2 (R1 := fun v => ∃ n : Int, v = .int n) (R2 := fun v => ∃ n : Int, v = .int n) (eg_mono (eg_next (m := (ss.length : Int) + 1) (fun _ _ => ev_var rfl) (fun H3 g3 => ev_op (ev_var rfl) ev_c rv_I0) (by omega) (by omega)) fun v _ r => let ⟨n, h, _⟩ := r; ⟨n, h⟩)
      (eg_mono (eg_next (m := (ss.length : Int) + 1) (fun _ _ => ev_var rfl) (fun H3 g3 => ev_op (ev_var rfl) ev_c rv_I0) (by omega) (by omega)) fun v _ r => let ⟨n, h, _⟩ := r; ⟨n, h⟩)) fun v H3 g3 hv => ?_
    obtain ⟨pp, _, _, rfl, hpp, ⟨x, rfl⟩, ⟨y, rfl⟩⟩ := hv
    have g03 := g2.trans g3
    obtain ⟨ns3, c3, k3, hS3, _⟩ := id g03.2
    have sx : ∀ {H4 : Hp}, Ex H3 H4 → Strm S L H4 := fun e => g03.2.ex e
    refine q_asgP (evp_lstP (S := S) (R := ItemS S) (n := 9) (fun v _ _ e h => h.ex e) hS3 (eap_cons (fun v _ _ e h => h.ex e) (evp_mono (evp_tupR (ev_var rfl) hpp) fun v H4 e4 r => item_tupR (sx e4) r rfl (by show 2 ≤ 100; decide))
      (eap_cons (fun v _ _ e h => h.ex e) (evp_mono (evp_UR (eu_tup (ea_cons (ev_ixT (ev_var rfl) ev_c hpp rfl) (ea_cons ev_c ea_nil)) (show 2 ≤ 100000 by decide))) fun v H4 e4 r => item_tupR (sx e4) r rfl (by show 2 ≤ 100; decide))
      (eap_cons (fun v _ _ e h => h.ex e) (evp_mono (evp_UR (eu_tup (ea_cons (ev_un ev_c ru_neg) (ea_cons (ev_ixT (ev_var rfl) ev_c hpp rfl) ea_nil)) (show 2 ≤ 100000 by decide))) fun v H4 e4 r => item_tupR (sx e4) r rfl (by show 2 ≤ 100; decide))
      (eap_cons (fun v _ _ e h => h.ex e) (evp_mono (evp_UR (eu_tup (ea_cons (ev_var rfl) (ea_cons ev_c ea_nil)) (show 2 ≤ 100000 by decide))) fun v H4 e4 r => item_tupR (sx e4) r rfl (by show 2 ≤ 100; decide))
      (eap_cons (fun v _ _ e h => h.ex e) (evp_mono (evp_slR (ev_var rfl) eo_none (eo_some ev_c) hpp) fun v H4 e4 r => item_tupR (sx e4) r rfl (by show 1 ≤ 100; decide))
      (eap_cons (fun v _ _ e h => h.ex e) (evp_mono (evp_catR (evp_tupR (ev_var rfl) hpp) (evp_UR (eu_tup (ea_cons ev_c ea_nil) (show 1 ≤ 100000 by decide))) (by show 3 ≤ 100000; decide)) fun v H4 e4 r => item_tupR (sx e4) r rfl (by show 3 ≤ 100; decide))
      (eap_cons (fun v _ _ e h => h.ex e) (evp_mono (evp_listQ (S := S) hS3 (ev_var rfl) hpp) fun v H4 e4 r => let ⟨p, h1, h2, h3⟩ := r; ⟨(fun z => by rw [h1] at z; cases z; exact h2 rfl), none, .inr (.inl ⟨p, _, h1, h3, rfl⟩)⟩)
      (eap_cons (fun v _ _ e h => h.ex e) (evp_ev ev_c fun H4 e4 => ⟨(fun z => nomatch z), none, .inl ⟨rfl, rfl⟩⟩)
      (eap_cons (fun v _ _ e h => h.ex e) (evp_mono (evp_UR (eu_tup (ea_cons (ev_ixT (ev_var rfl) ev_c hpp rfl) (ea_cons (ev_ixT (ev_var rfl) ev_c hpp rfl) ea_nil)) (show 2 ≤ 100000 by decide))) fun v H4 e4 r => item_tupR (sx e4) r rfl (by show 2 ≤ 100; decide))
      eap_nil))))))))) (by decide)) fun v H4 e4 hv => ?_
    obtain ⟨bd, bs, rfl, nbS, hbd, hbl, hbs⟩ := hv
    have g04 := g03.ex e4
    refine q_asgG (S := S) (L := L) g04.2 (eg_ixL (a := bd) (vs := bs) (fun _ _ => ev_var rfl) hbd nbS (eg_next (m := (bs.length : Int)) (fun _ _ => ev_var rfl) (fun H6 g6 => ev_len (ev_var rfl) (SqL.of (g6.at nbS hbd))) (by omega) (by omega))) fun one H5 g5 hone => ?_
    have one5 := (hbs one hone).go g04.2 g5
    have g05 := g04.trans g5
    clear hbs hone
    refine q_asgG (S := S) (L := L) g05.2 (eg_next (m := 6) (fun _ _ => ev_var rfl) (fun _ _ => ev_c) (by decide) (by decide)) fun v H6 g6 hv => ?_
    obtain ⟨pk, rfl, _, _⟩ := hv
    have g06 := g05.trans g6
    have one6 := one5.go g05.2 g6
    have t06 := g06.tu hS
    have hg6 := t06 _ _ hg0
    have hx6 : ∀ x ∈ xs, ∃ (c : Addr) (i j : Int), x = .ref c ∧ H6 c = some (.tup [.int i, .int j]) := fun x hx => let ⟨c, i, j, h1, h2⟩ := hx0 x hx; ⟨c, i, j, h1, t06 _ _ h2⟩
    have hi6 : ∀ x ∈ xs, ItemS S x H6 := fun x hx => by
      obtain ⟨c, i, j, rfl, h2⟩ := hx6 x hx
      exact ⟨strm_tup g06.2 h2, item_two h2 (.inl ⟨i, rfl⟩) (.inl ⟨j, rfl⟩)⟩
    have cl : ∀ lo hi, (cutV xs lo hi).length ≤ 12 := fun lo hi => Nat.le_trans (cutV_length xs lo hi) hxl
    have isOne : ∀ x ∈ [one], ItemS S x H6 := fun x hx => by
      rw [List.mem_singleton.mp hx]
      exact one6
    have isCut : ∀ lo hi, ∀ x ∈ cutV xs lo hi, ItemS S x H6 := fun lo hi x hx => hi6 x (mem_cut hx)
    have isApp : ∀ {us ws : List V}, (∀ x ∈ us, ItemS S x H6) → (∀ x ∈ ws, ItemS S x H6) → ∀ x ∈ us ++ ws, ItemS S x H6 := fun h1 h2 x hx => (List.mem_append.mp hx).elim (h1 x) (h2 x)
    have fin : ∀ {v : V} {H8 : Hp}, Ex H6 H8 → ChgS S v H8 → Q v H8 := fun e h => q _ _ (g06.ex e) h.chg
    refine q_when (et_test (ev_op (ev_var rfl) ev_c (rv_eq rfl))) (fun _ H7 e7 => ?_) fun _ H7 e7 => ?_
    · refine s_retP (evp_catR (evp_catR (evp_slR (ev_var rfl) eo_none (eo_some (ev_var rfl)) (e7 _ _ hg6)) (evp_UR (eu_tup (ea_cons (ev_var rfl) ea_nil) (show 1 ≤ 100000 by decide))) ?_) (evp_slR (ev_var rfl) (eo_some (ev_var rfl)) eo_none (e7 _ _ hg6)) ?_) fun v H8 e8 r => fin (e7.trans e8) (chg_tupR r (fun x hx => (isApp (isApp (isCut _ _) isOne) (isCut _ _) x hx).ex (e7.trans e8)) ?_)
      · have := cl none (some at0)
        show _ + 1 ≤ 100000
        omega
      · have := cl none (some at0)
        have := cl (some at0) none
        rw [List.length_append]
        show _ + 1 + _ ≤ 100000
        omega
      · have := cl none (some at0)
        have := cl (some at0) none
        rw [List.length_append, List.length_append]
        show _ + 1 + _ ≤ 100
        omega
    refine q_when (et_test (ev_op (ev_var rfl) ev_c (rv_eq rfl))) (fun _ H8 e8 => ?_) fun _ H8 e8 => ?_
    · have e68 := e7.trans e8
      refine s_retP (evp_catR (evp_catR (evp_slR (ev_var rfl) eo_none (eo_some (ev_var rfl)) (e68 _ _ hg6)) (evp_UR (eu_tup (ea_cons (ev_var rfl) ea_nil) (show 1 ≤ 100000 by decide))) ?_) (evp_slR (ev_var rfl) (eo_some (ev_op (ev_var rfl) ev_c rv_I0)) eo_none (e68 _ _ hg6)) ?_) fun v H9 e9 r => fin (e68.trans e9) (chg_tupR r (fun x hx => (isApp (isApp (isCut _ _) isOne) (isCut _ _) x hx).ex (e68.trans e9)) ?_)
      · have := cl none (some at0)
        show _ + 1 ≤ 100000
        omega
      · have := cl none (some at0)
        have := cl (some (at0 + 1)) none
        rw [List.length_append]
        show _ + 1 + _ ≤ 100000
        omega
      · have := cl none (some at0)
        have := cl (some (at0 + 1)) none
        rw [List.length_append, List.length_append]
        show _ + 1 + _ ≤ 100
        omega
    refine q_when (et_test (ev_op (ev_var rfl) ev_c (rv_eq rfl))) (fun _ H9 e9 => ?_) fun _ H9 e9 => ?_
    · have e69 := e7.trans (e8.trans e9)
      refine s_retP (evp_catR (evp_slR (ev_var rfl) eo_none (eo_some (ev_var rfl)) (e69 _ _ hg6)) (evp_slR (ev_var rfl) (eo_some (ev_op (ev_var rfl) ev_c rv_I0)) eo_none (e69 _ _ hg6)) ?_) fun v Ha ea r => fin (e69.trans ea) (chg_tupR r (fun x hx => (isApp (isCut _ _) (isCut _ _) x hx).ex (e69.trans ea)) ?_)
      · have := cl none (some at0)
        have := cl (some (at0 + 1)) none
        omega
      · have := cl none (some at0)
        have := cl (some (at0 + 1)) none
        rw [List.length_append]
        omega
    refine q_when (et_test (ev_op (ev_var rfl) ev_c (rv_eq rfl))) (fun _ Ha ea => ?_) fun _ Ha ea => ?_
    · have e6a := e7.trans (e8.trans (e9.trans ea))
      exact s_retP (evp_backR (ev_var rfl) (e6a _ _ hg6)) fun v Hb eb r => fin (e6a.trans eb) (chg_tupR r (fun x hx => (hi6 x (List.mem_reverse.mp hx)).ex (e6a.trans eb)) (by rw [List.length_reverse]; omega))
    refine q_when (et_test (ev_op (ev_var rfl) ev_c (rv_eq rfl))) (fun _ Hb eb => ?_) fun _ Hb eb => ?_
    · have e6b := e7.trans (e8.trans (e9.trans (ea.trans eb)))
      have g0b := g06.ex e6b
      refine s_retG (S := S) (L := L) g0b.2 (eg_ixP (n := 4) (R := ChgS S) (fun v _ _ hs g h => h.go hs g) (eg_evp fun Hc gc => ?_) (eg_next (m := 4) (fun _ _ => ev_var rfl) (fun _ _ => ev_c) (by decide) (by decide))) fun v Hd gd r => q v Hd (g0b.trans gd) r.chg
      have g6c : Go S L H6 Hc := (Go.of g06.2 e6b).trans gc
      have t6c := g6c.tu g06.2
      have hgc := t6c _ _ hg6
      obtain ⟨ns4, c4, k4, hS4, _⟩ := id gc.2
      have hic : ∀ x ∈ xs, ItemS S x Hc := fun x hx => (hi6 x hx).go g06.2 g6c
      refine evp_lstP (S := S) (R := ChgS S) (n := 4) (fun v _ _ e h => h.ex e) hS4 (eap_cons (fun v _ _ e h => h.ex e) (evp_mono (evp_listQ hS4 (ev_var rfl) hgc) fun v He ee r => ?_)
        (eap_cons (fun v _ _ e h => h.ex e) (evp_ev ev_c fun He ee => .inl rfl)
        (eap_cons (fun v _ _ e h => h.ex e) (evp_mono (evp_catR (evp_tupR (ev_var rfl) hgc) (evp_slR (ev_var rfl) eo_none (eo_some ev_c) hgc) ?_) fun v He ee r => chg_tupR r (fun x hx => ((List.mem_append.mp hx).elim (hic x) fun h => hic x (mem_cut h)).ex ee) ?_)
        (eap_cons (fun v _ _ e h => h.ex e) (evp_mono (evp_tupOfP (F := fun zs H => zs.length ≤ xs.length ∧ ∀ z ∈ zs, ∃ (c : Addr) (x y : Int), z = .ref c ∧ H c = some (.tup [.int x, .int y])) (fun zs _ _ e h => ⟨h.1, fun z hz => let ⟨c, x, y, h1, h2⟩ := h.2 z hz; ⟨c, x, y, h1, e _ _ h2⟩⟩) (evp_swap (ev_var rfl) hgc (by omega) (fun x hx => let ⟨c, i, j, h1, h2⟩ := hx6 x hx; ⟨c, i, j, h1, t6c _ _ h2⟩) (fun _ _ => rfl) fun x y H1 => eu_tup (ea_cons (ev_var rfl) (ea_cons (ev_var rfl) ea_nil)) (show 2 ≤ 100000 by decide))) fun v He ee r => ?_)
        eap_nil)))) (by decide)
      · obtain ⟨p, rfl, hpS, hp⟩ := r
        exact .inr (.inl ⟨p, xs, rfl, hpS, hp⟩)
      · have := cl none (some 1)
        omega
      · have := cl none (some 1)
        rw [List.length_append]
        omega
      · obtain ⟨p, zs, rfl, hp, hzl, hz⟩ := r
        refine .inr (.inr ⟨p, zs, rfl, hp, fun z hm => ?_, by omega⟩)
        obtain ⟨c, x, y, rfl, h4⟩ := hz z hm
        exact ⟨strm_tup (gc.2.ex ee) h4, item_two h4 (.inl ⟨x, rfl⟩) (.inl ⟨y, rfl⟩)⟩
    · have e6b := e7.trans (e8.trans (e9.trans (ea.trans eb)))
      exact s_ret (ev_var rfl) fun Hc ec => fin (e6b.trans ec) (.inr (.inr ⟨g, xs, rfl, (e6b.trans ec) _ _ hg6, fun x hx => (hi6 x hx).ex (e6b.trans ec), by omega⟩))
end
end Abl
namespace Abl
open PySem PySem.Spec PyProof.Rows L2
open Evl (Ex Ev EvT EvA EvL EvU EvO ev_var ev_c ev_op ev_is et_is ev_andV ev_orV ev_notV et_and et_or et_not et_B et_test rv_I0 rv_I rv_eq rv_ne ea_nil ea_cons s_ret s_retU s_if s_when q_when q_asg s_asg q_asgL ev_if RetV eu_tup el_lst ev_inU ev_un ru_neg eo_none eo_some el_sl ev_opUU ev_len q_forR1 s_forR1 q_forT s_forT rv_isL q_while s_while s_app s_appU q_appU q_cut q_setL s_setL ev_max2 ev_cb)
section
variable {P : Program} {w : World} {K : PySem.W.Frag} {mg : Str → Option Value} {base : Heap}
/-! ### the law -/
def stpD (s : Stp) : PyData := .tuple [.str (kindS s.up), .int s.e, .int s.t]
theorem stp_can (s : Stp) : PyData.canLay0 (stpD s) = true := by
  show (PyData.canLay0 (.str (kindS s.up)) && (true && (true && true))) = true
  cases s.up
  · rw [show PyData.canLay0 (.str (kindS false)) = true by decide +kernel]
    rfl
  · rw [show PyData.canLay0 (.str (kindS true)) = true by decide +kernel]
    rfl
theorem depth_two {s : Stp} : PyData.depth (stpD s) ≤ 2 := by
  simp [stpD, PyData.depth, PyData.depthAll]
theorem depth_all {n : Nat} : ∀ {ds : List PyData}, (∀ d ∈ ds, d.depth ≤ n) → PyData.depthAll ds ≤ n
  | [], _ => by simp [PyData.depthAll]
  | d :: r, h => by
    have h1 := h d (List.mem_cons_self ..)
    have h2 := depth_all (ds := r) fun x hx => h x (List.mem_cons_of_mem _ hx)
    simp only [PyData.depthAll]
    omega
theorem can_all : ∀ {ds : List PyData}, (∀ d ∈ ds, d.canLay0 = true) → PyData.canLayAll0 ds = true
  | [], _ => by simp [PyData.canLayAll0]
  | d :: r, h => by
    simp only [PyData.canLayAll0]
    rw [h d (List.mem_cons_self ..), can_all (ds := r) fun x hx => h x (List.mem_cons_of_mem _ hx)]
    rfl
theorem shaped_tup {ds : List PyData} (h1 : ∀ d ∈ ds, d.canLay0 = true) (h2 : ∀ d ∈ ds, d.depth ≤ 2) : SeqAt.shaped (.tuple ds) = true := by
  unfold SeqAt.shaped
  have h3 := depth_all h2
  have h4 : PyData.canLay0 (.tuple ds) = true := by
    simp only [PyData.canLay0]
    exact can_all h1
  have h5 : PyData.depth (.tuple ds) ≤ 64 := by
    simp only [PyData.depth]
    omega
  rw [h4, decide_eq_true h5]
  rfl
theorem eqv_same {d : PyData} (h : SeqAt.shaped d = true) : PyData.eqv d d = true := SeqAt.eqv_refl d (SeqAt.canLay_of_shaped h)
def stepsD (ss : List Stp) : PyData := .tuple (ss.map stpD)
theorem steps_shaped (ss : List Stp) : SeqAt.shaped (stepsD ss) = true := shaped_tup (fun d hd => by
  obtain ⟨s, _, rfl⟩ := List.mem_map.mp hd
  exact stp_can s) fun d hd => by
  obtain ⟨s, _, rfl⟩ := List.mem_map.mp hd
  exact depth_two
def intsD (ts : List Int) : PyData := .tuple (ts.map PyData.int)
theorem ints_shaped (ts : List Int) : SeqAt.shaped (intsD ts) = true := shaped_tup (fun d hd => by
  obtain ⟨s, _, rfl⟩ := List.mem_map.mp hd
  rfl) fun d hd => by
  obtain ⟨s, _, rfl⟩ := List.mem_map.mp hd
  simp [PyData.depth]
theorem dp_ints {H : Hp} {p : Addr} {ts : List Int} (h : IntsAt H p ts) : Dp K H (.ref p) (intsD ts) := by
  refine .tup (SqT.of h) ?_
  have h2 : ∀ us : List Int, DpAll K H (us.map V.int) (us.map PyData.int) := by
    intro us
    induction us with
    | nil => exact .nil
    | cons x r ih => exact .cons (.int x) ih
  exact h2 ts
theorem dp_steps {H : Hp} {p : Addr} {ss : List Stp} (h : StepsAt H p ss) : Dp K H (.ref p) (stepsD ss) := by
  obtain ⟨as, h1, h2⟩ := h
  refine .tup (SqT.of h1) ?_
  clear h1
  induction h2 with
  | nil => exact .nil
  | cons h _ ih => exact .cons (.tup (SqT.of h) (.cons (.str _) (.cons (.int _) (.cons (.int _) .nil)))) ih
/-- what both readers leave is the same -/
theorem left_data {H : Hp} {ss : List Stp} {its : Option (List (Option (Int × Int)))} {v : V} (h : rLeft ss its v H) : ∃ d, (∀ H1, Ex H H1 → Dp K H1 v d) ∧ SeqAt.shaped d = true ∧ d = (match leftM ss its with | none => .none | some ls => stepsD (curM ss ls)) := by
  unfold rLeft at h
  cases e : leftM ss its with
  | none =>
    rw [e] at h
    subst h
    exact ⟨.none, fun _ _ => .non, rfl, rfl⟩
  | some ls =>
    rw [e] at h
    obtain ⟨p, rfl, hp⟩ := h
    exact ⟨_, fun H1 e1 => dp_steps (hp.ts (Tu.of e1)), steps_shaped _, rfl⟩
theorem leftAll_lt (ss : List Stp) : ∀ (its : List (Option (Int × Int))) (left l : List Nat), leftAll ss its left = some l → (∀ n ∈ left, n < ss.length) → (∀ n ∈ l, n < ss.length) ∧ l.length ≤ left.length
  | [], left, l, h, hl => by
    have e : left = l := Option.some.inj h
    rw [← e]
    exact ⟨hl, Nat.le_refl _⟩
  | it :: r, left, l, h, hl => by
    unfold leftAll at h
    cases e : leftOne ss left it with
    | none => rw [e] at h; cases h
    | some l1 =>
      rw [e] at h
      obtain ⟨a, b, _, e1⟩ := leftOne_some e
      have h2 := leftAll_lt ss r l1 l h fun n hn => hl n (by rw [e1] at hn; exact List.mem_of_mem_eraseIdx hn)
      refine ⟨h2.1, Nat.le_trans h2.2 ?_⟩
      rw [e1]
      exact List.length_eraseIdx_le left a
theorem left_ok {ss : List Stp} {its : Option (List (Option (Int × Int)))} {ls : List Nat} (ho : StepsOk ss) (h : leftM ss its = some ls) : StepsOk (curM ss ls) := by
  unfold leftM at h
  cases its with
  | none => cases h
  | some l =>
    obtain ⟨h1, h2⟩ := leftAll_lt ss l _ ls h fun n hn => List.mem_range.mp hn
    rw [List.length_range] at h2
    refine ⟨by rw [curM_len]; exact Nat.le_trans h2 ho.len, fun s hs => ?_⟩
    unfold curM at hs
    obtain ⟨n, hn, rfl⟩ := List.mem_map.mp hs
    have hlt := h1 n hn
    rw [List.getD_eq_getElem?_getD, List.getElem?_eq_getElem hlt]
    exact ho.ok _ (List.getElem_mem hlt)
theorem red_chg {S L : Addr} {v : V} {H : Hp} (hs : Strm S L H) (h : rRed v H) : rChg v H := by
  obtain ⟨g, rfl, hg⟩ := h
  obtain ⟨xs, h1, h2, h3⟩ := red_items hg
  refine chg_tup h1 (fun x hx => ?_) (by omega)
  obtain ⟨c, i, j, rfl, hc⟩ := h3 x hx
  exact item_two hc (.inl ⟨i, rfl⟩) (.inl ⟨j, rfl⟩)
theorem rRed.ts {v : V} {H H' : Hp} (e : Tu H H') (h : rRed v H) : rRed v H' := by
  obtain ⟨g, h1, h2⟩ := h
  exact ⟨g, h1, h2.ts e⟩
section
variable {S L : Addr} {σ : L2.St} {H : Hp} {ta tb te tc : TE} {R : V → Hp → Prop}
theorem eg_lst2 (hR : ∀ v H1 H2, Strm S L H1 → Go S L H1 H2 → R v H1 → R v H2) (h1 : EvG S L ta σ H R) (h2 : EvG S L tb σ H R) : EvG S L (tLst (tCons ta (tCons tb tNil))) σ H (LstR S 2 R) := fun H1 g Q q =>
  h1 H1 g _ fun x H2 g2 r1 => h2 H2 (g.trans g2) _ fun y H3 g3 r2 => ⟨Evl.sz_of (show 2 ≤ 100000 by decide), fun p hp => q _ _ ((g2.trans g3).ex (Ex.new hp)) ⟨p, [x, y], rfl, g3.2.ne hp, upd_same, rfl, fun z hz => by
    rcases List.mem_cons.mp hz with rfl | hz
    · exact hR _ _ _ g2.2 (g3.ex (Ex.new hp)) r1
    · rw [List.mem_singleton.mp hz]
      exact hR _ _ _ g3.2 (Go.of g3.2 (Ex.new hp)) r2⟩⟩
theorem s_whenG {t : TT} {D : Ends} {tu : TS} (hs : Strm S L H) (h : ∀ Q : Bool → Hp → Prop, (∀ k H1, Go S L H H1 → Q k H1) → t σ H Q) (h1 : ∀ H1, Go S L H H1 → tu D σ H1) (h2 : ∀ H1, Go S L H H1 → D.nx σ H1) : tIfS t tu tNext D σ H :=
  h _ fun k H1 g => by
    cases k with
    | true => exact h1 H1 g
    | false => exact h2 H1 g
/-- e != f: data, the first told by a property -/
theorem ev_neP {y : V} {c : Bool} (h1 : EvP ta σ H R) (h2 : Ev tb σ H y) (hr : ∀ x H1, Ex H H1 → R x H1 → ∀ Q : VK, Q (.bl c) H1 → rNeD K x y H1 Q) (hR : ∀ v H1 H2, Ex H1 H2 → R v H1 → R v H2) : Ev (tOp (rNeD K) ta tb) σ H (.bl c) := fun H1 e Q q =>
  h1 H1 e _ fun x H2 e2 r => h2 H2 (e.trans e2) _ fun H3 e3 => hr x H3 ((e.trans e2).trans e3) (hR _ _ _ e3 r) Q (q H3 (e2.trans e3))
end
theorem rLeft.ex {ss : List Stp} {its : Option (List (Option (Int × Int)))} {v : V} {H H' : Hp} (e : Ex H H') (h : rLeft ss its v H) : rLeft ss its v H' := by
  unfold rLeft at h ⊢
  split at h
  · exact h
  · obtain ⟨p, h1, h2⟩ := h
    exact ⟨p, h1, h2.ts (Tu.of e)⟩
abbrev s_law : Stmt := topS 66
theorem sc_law : FnScope ["_law_script", "_law_stream_here", "_law_net_here", "_law_times", "_law_steps_here", "_law_due", "_law_turn", "_law_value", "_law_left_here"] ["_law_script"] (defScope s_law) := ⟨rfl, rfl, rfl, by decide +kernel, rfl, by decide +kernel, by decide +kernel⟩
def spLaw : Sp := fun vs H Q _ => ∃ (a : Addr) (ns : List Int), vs = [.ref a] ∧ SqL K H a (ns.map V.int) ∧ ∀ H', Q (.bl true) H'
theorem law_shows (B : Gm mg) (G_law_stream : C8.Cal P w K mg base 1 "_law_stream" (spStream (K := K)) []) (G_law_net : C8.Cal P w K mg base 2 "_law_net" spLNet []) (G_law_drawn : C8.Cal P w K mg base 3 "_law_drawn" spDrawn [])
    (G_stepped : C8.Cal P w K mg base 7 "stepped" spStepped []) (G_reduction : C8.Cal P w K mg base 6 "reduction" spRed []) (G_law_any : C8.Cal P w K mg base 4 "_law_any" spAny []) (G_law_next : C8.Cal P w K mg base 1 "_law_next" spNext []) (G_law_changed : C8.Cal P w K mg base 2 "_law_changed" spChanged [])
    (G_law_left : C8.Cal P w K mg base 4 "_law_left" spLeft []) (G_reduced : C8.Cal P w K mg base 6 "reduced" spReduced []) : Shows P w K mg base 7 "law" s_law ["_law_script", "_law_stream_here", "_law_net_here", "_law_times", "_law_steps_here", "_law_due", "_law_turn", "_law_value", "_law_left_here"] (spLaw (K := K)) := by
  intro f cdv A outer s H vs Q E hr h
  · obtain ⟨a, ns, rfl, hSq, q⟩ := h
    refine ⟨_, (pss_cons (ps_set (i := 1) sc_law.nd rfl (by first | exact .inl rfl | exact .inr rfl) (C8.pe_c G_law_stream hr (by decide) (by rfl) (pa_cons (pv 0) pa_nil)))
  (pss_cons (ps_asg (C8.pe_c G_law_net hr (by decide) (by rfl) (pa_cons (pv 1) (pa_cons pe_int (pa_cons pe_int pa_nil)))) (pg_unl (by rfl) (pgs_cons (pg_name (i := 2) sc_law.nd rfl (by first | exact .inl rfl | exact .inr rfl)) (pgs_cons (pg_name (i := 3) sc_law.nd rfl (by first | exact .inl rfl | exact .inr rfl)) pgs_nil))))
  (pss_cons (ps_set (i := 4) sc_law.nd rfl (by first | exact .inl rfl | exact .inr rfl) (C8.pe_c G_law_drawn hr (by decide) (by rfl) (pa_cons (pv 1) (pa_cons pe_int pa_nil))))
  (pss_cons (ps_set (i := 5) sc_law.nd rfl (by first | exact .inl rfl | exact .inr rfl) (C8.pe_c G_stepped hr (by decide) (by rfl) (pa_cons (pv 2) (pa_cons (pv 3) (pa_cons (pv 4) pa_nil)))))
  (pss_cons (ps_for PassesOwn.never rfl (pi_range1 (by rfl) B.range (pa_cons pe_int pa_nil)) (pg_name (i := 6) sc_law.nd rfl (by first | exact .inl rfl | exact .inr rfl)) (pss_cons (ps_set (i := 7) sc_law.nd rfl (by first | exact .inl rfl | exact .inr rfl) (pe_ix ix_list (pe_lst (pa_cons (C8.pe_c G_reduction hr (by decide) (by rfl) (pa_cons (pv 4) pa_nil)) (pa_cons (C8.pe_c G_law_any hr (by decide) (by rfl) (pa_cons (pv 1) (pa_cons (pv 4) pa_nil))) pa_nil))) (C8.pe_c G_law_next hr (by decide) (by rfl) (pa_cons (pv 1) (pa_cons pe_int pa_nil))) (fun _ _ => rfl)))
  (Evl.pss_cut (ps_if (pt_cmpR op_gt (C8.pe_c G_law_next hr (by decide) (by rfl) (pa_cons (pv 1) (pa_cons pe_int pa_nil))) pe_int (nomark _)) (pss_one (ps_set (i := 7) sc_law.nd rfl (by first | exact .inl rfl | exact .inr rfl) (C8.pe_c G_law_changed hr (by decide) (by rfl) (pa_cons (pv 1) (pa_cons (pv 4) (pa_cons (pv 7) pa_nil)))))) pss_nil)
  (pss_cons (ps_set (i := 8) sc_law.nd rfl (by first | exact .inl rfl | exact .inr rfl) (C8.pe_c G_law_left hr (by decide) (by rfl) (pa_cons (pv 4) (pa_cons (pv 7) pa_nil))))
  (pss_cons (ps_if (pt_cmpR (op_neD hr.units) (C8.pe_c G_reduced hr (by decide) (by rfl) (pa_cons (pv 4) (pa_cons (pv 7) pa_nil))) (pv 8) (nomark _)) (pss_one (ps_ret pe_bl)) pss_nil)
  (pss_one (ps_if (PW.pt (pw_and (pt_cmpR op_notN (pv 8) pe_non (nomark _)) (pw_and1 (pt_cmpR (op_neD hr.units) (C8.pe_c G_stepped hr (by decide) (by rfl) (pa_cons (pv 2) (pa_cons (pv 3) (pa_cons (pv 8) pa_nil)))) (pv 5) (nomark _))))) (pss_one (ps_ret pe_bl)) pss_nil)))))))
  (pss_one (ps_ret pe_bl))))))), ?_⟩
    refine q_asgP (evp_call (R := fun v H' => ∃ S L, v = .ref S ∧ Strm S L H') (ea_cons (ev_var rfl) ea_nil) fun H1 e1 Q1 q1 => ⟨a, ns, rfl, Evl.ex_l e1 hSq, fun p L H2 e2 h => q1 _ H2 e2 ⟨p, L, rfl, h⟩⟩) fun v H1 e1 hv => ?_
    obtain ⟨S, L, rfl, hS⟩ := hv
    refine (eg_call (S := S) (L := L) (H := H1) (R := rLNet) (fun _ _ => ea_cons (ev_var rfl) (ea_cons ev_c (ea_cons ev_c ea_nil))) fun H2 g2 Q2 q2 => ⟨S, L, rfl, g2.2, q2⟩) H1 (Go.refl hS) _ fun v H2 g2 hv => ?_
    obtain ⟨pn, N, T, n, rs, ts, rfl, hpn, hN, hT, hNo, hTo, n3⟩ := hv
    refine ⟨pn, _, rfl, SqL.of hpn, rfl, _, _, rfl, _, _, rfl, rfl, ?_⟩
    refine q_asgG (S := S) (L := L) g2.2 (eg_call (R := rSteps) (fun _ _ => ea_cons (ev_var rfl) (ea_cons ev_c ea_nil)) fun H3 g3 Q3 q3 => ⟨S, L, rfl, g3.2, q3⟩) fun v H3 g3 hv => ?_
    obtain ⟨St, ss, rfl, hSt, hSo⟩ := hv
    have t23 := g3.tu g2.2
    have hN3 := hN.ts t23
    have hT3 : IntsAt H3 T ts := t23 _ _ hT
    refine q_asgP (evp_call (R := fun v H' => ∃ p, v = .ref p ∧ IntsAt H' p (runM (boundM n rs) ts ss)) (ea_cons (ev_var rfl) (ea_cons (ev_var rfl) (ea_cons (ev_var rfl) ea_nil))) fun H4 e4 Q4 q4 => ⟨N, T, St, n, rs, ts, ss, rfl, hN3.ts (Tu.of e4), e4 _ _ hT3, hSt.ts (Tu.of e4), hNo, hTo, hSo, n3, fun p H5 e5 h5 => q4 _ H5 e5 ⟨p, rfl, h5⟩⟩) fun v H4 e4 hv => ?_
    obtain ⟨Du, rfl, hDu⟩ := hv
    have hS4 := g3.2.ex e4
    have hN4 := hN3.ts (Tu.of e4)
    have hT4 : IntsAt H4 T ts := e4 _ _ hT3
    have hSt4 := hSt.ts (Tu.of e4)
    have nn : NoNeg (boundM n rs) := bound_noNeg n rs (timeF ts) hTo.kp
    refine q_forR1 (n := 6) (ea_cons ev_c ea_nil) ⟨by decide, by decide⟩ (fun i σ' H' => ∃ (o6 o7 o8 : Option V), σ' = [some (.ref a), some (.ref S), some (.ref N), some (.ref T), some (.ref St), some (.ref Du), o6, o7, o8] ∧ Go S L H4 H') (fun H5 e5 => ⟨_, _, _, rfl, Go.of hS4 e5⟩) (fun i σ' H5 hi hp => ?_) fun σ' H' hp => ?_
    · obtain ⟨o6, o7, o8, rfl, g5⟩ := hp
      have t5 := g5.tu hS4
      refine q_asgG (S := S) (L := L) g5.2 (eg_ixP (n := 2) (R := rRed) (fun v _ _ hs g h => h.ts (g.tu hs)) (eg_lst2 (fun v _ _ hs g h => h.ts (g.tu hs)) (eg_evp fun H6 g6 => evp_call (R := rRed) (ea_cons (ev_var rfl) ea_nil) fun H7 e7 Q7 q7 => ⟨St, ss, rfl, ((hSt4.ts t5).ts (g6.tu g5.2)).ts (Tu.of e7), hSo, q7⟩)
        (eg_call (R := rRed) (fun _ _ => ea_cons (ev_var rfl) (ea_cons (ev_var rfl) ea_nil)) fun H6 g6 Q6 q6 => ⟨S, L, St, ss, rfl, g6.2, (hSt4.ts t5).ts (g6.tu g5.2), hSo.len, q6⟩)) (eg_next (m := 2) (fun _ _ => ev_var rfl) (fun _ _ => ev_c) (by decide) (by decide))) fun v H6 g6 hv => ?_
      have g46 := g5.trans g6
      have t6 := g46.tu hS4
      refine q_cut (M := fun σ2 H7 => ∃ (v2 : V), σ2 = [some (.ref a), some (.ref S), some (.ref N), some (.ref T), some (.ref St), some (.ref Du), some (.int (i : Int)), some v2, o8] ∧ Go S L H4 H7 ∧ rChg v2 H7) ?_ fun σ2 H7 h7 => ?_
      · refine s_whenG (S := S) (L := L) g46.2 (fun Q2 q2 => ?_) (fun H7 g7 => ?_) fun H7 g7 => ⟨v, rfl, g46.trans g7, red_chg g7.2 (hv.ts (g7.tu g46.2))⟩
        · refine (eg_op (S := S) (L := L) (r := rI0 fun i j => .bl (decide (i > j))) (R1 := fun v => IR 0 3 v H) (R2 := fun v => v = .int 0) (R3 := fun v => ∃ b, v = .bl b) (eg_next (m := 4) (fun _ _ => ev_var rfl) (fun _ _ => ev_c) (by decide) (by decide)) (eg_ev fun _ _ => ev_c) fun x y H1 _ r1 r2 => ?_) H6 (Go.refl g46.2) _ fun v H1 g1 r => ?_
          · obtain ⟨m, rfl, _, _⟩ := r1
            subst r2
            exact ⟨_, ⟨_, rfl⟩, fun Q3 q3 => ⟨_, _, rfl, rfl, q3⟩⟩
          · obtain ⟨b, rfl⟩ := r
            exact ⟨b, rfl, q2 b H1 g1⟩
        · exact s_asgG (S := S) (L := L) g7.2 (eg_call (R := rChg) (fun _ _ => ea_cons (ev_var rfl) (ea_cons (ev_var rfl) (ea_cons (ev_var rfl) ea_nil))) fun H8 g8 Q8 q8 => ⟨S, L, St, v, ss, rfl, g8.2, ((hSt4.ts t6).ts (g7.tu g46.2)).ts (g8.tu g7.2), hSo.len, (hv.ts (g7.tu g46.2)).ts (g8.tu g7.2), q8⟩) fun v2 H8 g8 r => ⟨v2, rfl, g46.trans (g7.trans g8), r⟩
      obtain ⟨v2, rfl, g47, its, hval⟩ := h7
      have t7 := g47.tu hS4
      have hSt7 := hSt4.ts t7
      refine q_asgP (evp_call (R := rLeft ss its) (ea_cons (ev_var rfl) (ea_cons (ev_var rfl) ea_nil)) fun H8 e8 Q8 q8 => ⟨St, v2, ss, its, rfl, hSt7.ts (Tu.of e8), hSo.len, hval.ex e8, q8⟩) fun lf H8 e8 hlf => ?_
      obtain ⟨d1, hd1, hs1, ed1⟩ := left_data (K := K) hlf
      refine q_no (et_test (ev_neP (c := false) (R := rLeft ss its) (evp_call (R := rLeft ss its) (ea_cons (ev_var rfl) (ea_cons (ev_var rfl) ea_nil)) fun H9 e9 Q9 q9 => ⟨St, v2, ss, its, rfl, (hSt7.ts (Tu.of e8)).ts (Tu.of e9), hSo, (hval.ex e8).ex e9, q9⟩) (ev_var rfl) (fun x H9 e9 r Q9 q9 => ?_) fun v _ _ e h => h.ex e)) fun H9 e9 => ?_
      · obtain ⟨d2, hd2, hs2, ed2⟩ := left_data (K := K) r
        refine ⟨d2, d1, hd2 H9 (Ex.refl H9), hd1 H9 e9, hs2, hs1, ?_⟩
        rw [ed2.trans ed1.symm, eqv_same hs1]
        exact q9
      have hlf9 := hlf.ex e9
      have g49 := (g47.ex e8).ex e9
      unfold rLeft at hlf9
      cases hm : leftM ss its with
      | none =>
        rw [hm] at hlf9
        subst hlf9
        exact s_no (et_is (et_and (b := false) (et_test (ev_notN (ev_var rfl))) fun z => absurd z (by decide)) rfl) fun Ha ea => ⟨_, _, _, rfl, g49.ex ea⟩
      | some ls =>
        rw [hm] at hlf9
        obtain ⟨pl, rfl, hpl⟩ := hlf9
        have t9 := g49.tu hS4
        refine s_no (et_is (et_and (b := false) (et_test (ev_notN (ev_var rfl))) fun _ => et_test (ev_neP (c := false) (R := fun v H' => ∃ p, v = .ref p ∧ IntsAt H' p (runM (boundM n rs) ts (curM ss ls))) (evp_call (R := fun v H' => ∃ p, v = .ref p ∧ IntsAt H' p (runM (boundM n rs) ts (curM ss ls))) (ea_cons (ev_var rfl) (ea_cons (ev_var rfl) (ea_cons (ev_var rfl) ea_nil)))
          fun Ha ea Qa qa => ⟨N, T, pl, n, rs, ts, curM ss ls, rfl, (hN4.ts t9).ts (Tu.of ea), ea _ _ (t9 _ _ hT4), hpl.ts (Tu.of ea), hNo, hTo, left_ok hSo hm, n3, fun p Hb eb hb => qa _ Hb eb ⟨p, rfl, hb⟩⟩) (ev_var rfl) (fun x Ha ea r Qa qa => ?_) fun v _ _ e ⟨p, h1, h2⟩ => ⟨p, h1, e _ _ h2⟩)) rfl) fun Ha ea => ⟨_, _, _, rfl, g49.ex ea⟩
        obtain ⟨p, rfl, hp⟩ := r
        rw [leftM_run (boundM n rs) nn ts ss its ls hm] at hp
        refine ⟨intsD _, intsD _, dp_ints hp, dp_ints (show IntsAt Ha Du _ from ea _ _ (t9 _ _ hDu)), ints_shaped _, ints_shaped _, ?_⟩
        rw [eqv_same (ints_shaped _)]
        exact qa
    · obtain ⟨o6, o7, o8, rfl, g5⟩ := hp
      exact s_ret ev_c fun H6 e6 => q H6
theorem law_len (vs : List V) (H : Hp) (Q : VK) (E : XK) (h : spLaw (K := K) vs H Q E) : vs.length = ["_law_script"].length := by
  obtain ⟨a, ns, rfl, _⟩ := h
  rfl
/-- the law's def, told as the head wants it -/
theorem law_fn {f : Addr} {fd : FuncData} (F : FunD K "law" "law" (defArgs s_law) (defBody s_law) (defScope s_law) [] [] f fd) (S : Shows P w K mg base 7 "law" s_law ["_law_script", "_law_stream_here", "_law_net_here", "_law_times", "_law_steps_here", "_law_due", "_law_turn", "_law_value", "_law_left_here"] (spLaw (K := K))) : FnOk P w K mg base C8.CX0 8 f fd ["_law_script"] (spLaw (K := K)) :=
  F.ok sc_law law_len fun cdv A outer s H vs Q E hr h => by
    obtain ⟨t, h1, h2⟩ := S f cdv A outer s H vs Q E hr h
    exact ⟨t, h1.nox, h2⟩
end
end Abl
set_option maxHeartbeats 0
namespace Abl
open PySem PySem.Spec PyProof.Rows L2
/-! ### the head: facts by names -/
def dd_is_between : He.DefD := ⟨("is_between", none), "is_between", "is_between", defArgs (topS 8), defBody (topS 8), defScope (topS 8), [], []⟩
def dd_is_side : He.DefD := ⟨("is_side", none), "is_side", "is_side", defArgs (topS 9), defBody (topS 9), defScope (topS 9), [], []⟩
def dd_is_rule : He.DefD := ⟨("is_rule", none), "is_rule", "is_rule", defArgs (topS 10), defBody (topS 10), defScope (topS 10), [], []⟩
def dd_is_net : He.DefD := ⟨("is_net", none), "is_net", "is_net", defArgs (topS 11), defBody (topS 11), defScope (topS 11), [], []⟩
def dd_is_times : He.DefD := ⟨("is_times", none), "is_times", "is_times", defArgs (topS 12), defBody (topS 12), defScope (topS 12), [], []⟩
def dd_excess_of : He.DefD := ⟨("excess_of", none), "excess_of", "excess_of", defArgs (topS 13), defBody (topS 13), defScope (topS 13), [], []⟩
def dd_all_hold : He.DefD := ⟨("all_hold", none), "all_hold", "all_hold", defArgs (topS 14), defBody (topS 14), defScope (topS 14), [], []⟩
def dd_edges_of : He.DefD := ⟨("edges_of", none), "edges_of", "edges_of", defArgs (topS 15), defBody (topS 15), defScope (topS 15), [], []⟩
def dd_is_integer : He.DefD := ⟨("is_integer", none), "is_integer", "is_integer", defArgs (topS 17), defBody (topS 17), defScope (topS 17), [], []⟩
def dd_check_net : He.DefD := ⟨("check_net", none), "check_net", "check_net", defArgs (topS 18), defBody (topS 18), defScope (topS 18), [], []⟩
def dd_longer_walks : He.DefD := ⟨("longer_walks", none), "longer_walks", "longer_walks", defArgs (topS 19), defBody (topS 19), defScope (topS 19), [], []⟩
def dd_first_round : He.DefD := ⟨("first_round", none), "first_round", "first_round", defArgs (topS 20), defBody (topS 20), defScope (topS 20), [], []⟩
def dd_shortest_walks : He.DefD := ⟨("shortest_walks", none), "shortest_walks", "shortest_walks", defArgs (topS 21), defBody (topS 21), defScope (topS 21), [], []⟩
def dd_with_walk : He.DefD := ⟨("with_walk", none), "with_walk", "with_walk", defArgs (topS 22), defBody (topS 22), defScope (topS 22), [], []⟩
def dd_bounds_of : He.DefD := ⟨("bounds_of", none), "bounds_of", "bounds_of", defArgs (topS 23), defBody (topS 23), defScope (topS 23), [], []⟩
def dd_known_bounds : He.DefD := ⟨("known_bounds", none), "known_bounds", "known_bounds", defArgs (topS 25), defBody (topS 25), defScope (topS 25), [], []⟩
def dd_check_times : He.DefD := ⟨("check_times", none), "check_times", "check_times", defArgs (topS 26), defBody (topS 26), defScope (topS 26), [], []⟩
def dd_is_event_time : He.DefD := ⟨("is_event_time", none), "is_event_time", "is_event_time", defArgs (topS 31), defBody (topS 31), defScope (topS 31), [], []⟩
def dd_is_step : He.DefD := ⟨("is_step", none), "is_step", "is_step", defArgs (topS 32), defBody (topS 32), defScope (topS 32), [], []⟩
def dd_are_steps : He.DefD := ⟨("are_steps", none), "are_steps", "are_steps", defArgs (topS 33), defBody (topS 33), defScope (topS 33), [], []⟩
def dd_check_steps : He.DefD := ⟨("check_steps", none), "check_steps", "check_steps", defArgs (topS 34), defBody (topS 34), defScope (topS 34), [], []⟩
def dd_do_commute : He.DefD := ⟨("do_commute", none), "do_commute", "do_commute", defArgs (topS 35), defBody (topS 35), defScope (topS 35), [], []⟩
def dd_step_moved : He.DefD := ⟨("step_moved", none), "step_moved", "step_moved", defArgs (topS 36), defBody (topS 36), defScope (topS 36), [], []⟩
def dd_stepped : He.DefD := ⟨("stepped", none), "stepped", "stepped", defArgs (topS 37), defBody (topS 37), defScope (topS 37), [], []⟩
def dd_is_stronger : He.DefD := ⟨("is_stronger", none), "is_stronger", "is_stronger", defArgs (topS 39), defBody (topS 39), defScope (topS 39), [], []⟩
def dd_makes_idle : He.DefD := ⟨("makes_idle", none), "makes_idle", "makes_idle", defArgs (topS 40), defBody (topS 40), defScope (topS 40), [], []⟩
def dd_why_idle : He.DefD := ⟨("why_idle", none), "why_idle", "why_idle", defArgs (topS 41), defBody (topS 41), defScope (topS 41), [], []⟩
def dd_first_idle : He.DefD := ⟨("first_idle", none), "first_idle", "first_idle", defArgs (topS 42), defBody (topS 42), defScope (topS 42), [], []⟩
def dd_reduction_of : He.DefD := ⟨("reduction_of", none), "reduction_of", "reduction_of", defArgs (topS 43), defBody (topS 43), defScope (topS 43), [], []⟩
def dd_reduction : He.DefD := ⟨("reduction", none), "reduction", "reduction", defArgs (topS 44), defBody (topS 44), defScope (topS 44), [], []⟩
def dd_left_behind : He.DefD := ⟨("left_behind", none), "left_behind", "left_behind", defArgs (topS 45), defBody (topS 45), defScope (topS 45), [], []⟩
def dd_reduced : He.DefD := ⟨("reduced", none), "reduced", "reduced", defArgs (topS 46), defBody (topS 46), defScope (topS 46), [], []⟩
def dd_law_stream : He.DefD := ⟨("_law_stream", none), "_law_stream", "_law_stream", defArgs (topS 48), defBody (topS 48), defScope (topS 48), [], []⟩
def dd_law_next : He.DefD := ⟨("_law_next", none), "_law_next", "_law_next", defArgs (topS 49), defBody (topS 49), defScope (topS 49), [], []⟩
def dd_law_is_integer : He.DefD := ⟨("_law_is_integer", none), "_law_is_integer", "_law_is_integer", defArgs (topS 50), defBody (topS 50), defScope (topS 50), [], []⟩
def dd_law_news : He.DefD := ⟨("_law_news", none), "_law_news", "_law_news", defArgs (topS 51), defBody (topS 51), defScope (topS 51), [], []⟩
def dd_law_steps : He.DefD := ⟨("_law_steps", none), "_law_steps", "_law_steps", defArgs (topS 52), defBody (topS 52), defScope (topS 52), [], []⟩
def dd_law_some_steps : He.DefD := ⟨("_law_some_steps", none), "_law_some_steps", "_law_some_steps", defArgs (topS 53), defBody (topS 53), defScope (topS 53), [], []⟩
def dd_law_commute : He.DefD := ⟨("_law_commute", none), "_law_commute", "_law_commute", defArgs (topS 54), defBody (topS 54), defScope (topS 54), [], []⟩
def dd_law_idle_by : He.DefD := ⟨("_law_idle_by", none), "_law_idle_by", "_law_idle_by", defArgs (topS 55), defBody (topS 55), defScope (topS 55), [], []⟩
def dd_law_net : He.DefD := ⟨("_law_net", none), "_law_net", "_law_net", defArgs (topS 59), defBody (topS 59), defScope (topS 59), [], []⟩
def dd_law_drawn : He.DefD := ⟨("_law_drawn", none), "_law_drawn", "_law_drawn", defArgs (topS 62), defBody (topS 62), defScope (topS 62), [], []⟩
def dd_law_left : He.DefD := ⟨("_law_left", none), "_law_left", "_law_left", defArgs (topS 63), defBody (topS 63), defScope (topS 63), [], []⟩
def dd_law_any : He.DefD := ⟨("_law_any", none), "_law_any", "_law_any", defArgs (topS 64), defBody (topS 64), defScope (topS 64), [], []⟩
def dd_law_changed : He.DefD := ⟨("_law_changed", none), "_law_changed", "_law_changed", defArgs (topS 65), defBody (topS 65), defScope (topS 65), [], []⟩
def dd_law : He.DefD := ⟨("law", none), "law", "law", defArgs (topS 66), defBody (topS 66), defScope (topS 66), [], []⟩
def fnAll : List He.DefD := [dd_is_between, dd_is_side, dd_is_rule, dd_is_net, dd_is_times, dd_excess_of, dd_all_hold, dd_edges_of, dd_is_integer, dd_check_net, dd_longer_walks, dd_first_round, dd_shortest_walks, dd_with_walk, dd_bounds_of, dd_known_bounds, dd_check_times, dd_is_event_time, dd_is_step, dd_are_steps, dd_check_steps, dd_do_commute, dd_step_moved, dd_stepped, dd_is_stronger, dd_makes_idle, dd_why_idle, dd_first_idle, dd_reduction_of, dd_reduction, dd_left_behind, dd_reduced, dd_law_stream, dd_law_next, dd_law_is_integer, dd_law_news, dd_law_steps, dd_law_some_steps, dd_law_commute, dd_law_idle_by, dd_law_net, dd_law_drawn, dd_law_left, dd_law_any, dd_law_changed, dd_law]
def fa0 : List He.Fa := [.glo "is_between", .glo "is_side", .glo "is_rule", .glo "is_net", .glo "is_times", .glo "excess_of", .glo "all_hold", .glo "edges_of", .glo "is_integer", .glo "check_net", .glo "longer_walks", .glo "first_round", .glo "shortest_walks", .glo "with_walk", .glo "bounds_of", .glo "known_bounds", .glo "check_times", .glo "is_event_time", .glo "is_step", .glo "are_steps", .glo "check_steps", .glo "do_commute", .glo "step_moved", .glo "stepped", .glo "is_stronger", .glo "makes_idle", .glo "why_idle", .glo "first_idle", .glo "reduction_of", .glo "reduction"]
def fa1 : List He.Fa := [.glo "left_behind", .glo "reduced", .glo "_law_stream", .glo "_law_next", .glo "_law_is_integer", .glo "_law_news", .glo "_law_steps", .glo "_law_some_steps", .glo "_law_commute", .glo "_law_idle_by", .glo "_law_net", .glo "_law_drawn", .glo "_law_left", .glo "_law_any", .glo "_law_changed", .glo "law", .free "len", .free "isinstance", .free "all", .free "any", .free "tuple", .free "list", .free "int", .free "abs", .free "max", .free "min", .free "range", .free "enumerate", .free "bool", .free "str"]
def fa2 : List He.Fa := [.int "MOST_EVENTS" 6, .int "MOST_RULES" 12, .int "FARTHEST" 100, .int "LATEST" 1000, .int "MOST_EVENT" 5, .int "MOST_TIME" 500, .int "MOST_STEPS" 16]
def faAll : List He.Fa := fa0 ++ fa1 ++ fa2
def ln0 : List PySem.Str := ["BideError", "BadValue", "MOST_EVENTS", "MOST_RULES", "FARTHEST", "LATEST", "is_between", "is_side", "is_rule", "is_net", "is_times", "excess_of", "all_hold", "edges_of", "is_integer", "check_net", "longer_walks", "first_round", "shortest_walks", "with_walk", "bounds_of", "known_bounds", "check_times", "MOST_EVENT", "MOST_TIME", "MOST_STEPS", "is_event_time", "is_step", "are_steps", "check_steps"]
def ln1 : List PySem.Str := ["do_commute", "step_moved", "stepped", "is_stronger", "makes_idle", "why_idle", "first_idle", "reduction_of", "reduction", "left_behind", "reduced", "_law_stream", "_law_next", "_law_is_integer", "_law_news", "_law_steps", "_law_some_steps", "_law_commute", "_law_idle_by", "_law_told_reduction", "_law_remaining", "_law_layers", "_law_net", "_law_bounds", "_law_stepped", "_law_drawn", "_law_left", "_law_any", "_law_changed"]
def looseAll : List PySem.Str := ln0 ++ ln1
abbrev Rw : PySem.W.OpenRow := PySem.W.OpenLaw.row PySem.Challenge.rw_allbide_k44_whole_reductions_by_whomever
abbrev hk : PySem.W.Hook := He.hookD 4 faAll fnAll
def ob (s : PySem.W.SharedT) : He.AlD := He.obsDG 4 faAll fnAll (HandSHeadRun.getT s)
theorem ob_eq (s : PySem.W.SharedT) : ob s = hk.obs s.abs := He.obsDG_eq (HandSHeadRun.getT_eq s)
abbrev qview : Program := PySem.W.view Rw.prog [66]
theorem run (w : World) : HandSHeadRun.RunEq Rw qview hk ob 3000 looseAll w := by
  intro os
  kernel_rfl
section
variable {P : Program} {w : World} {K : PySem.W.Frag} {mg : Str → Option Value} {h : Heap}
theorem gm_of (X : K.In h) (G : h.Ns mainGlobals mg) (c : He.SaysD faAll fnAll K) : Gm mg := {
  len := He.free_ok X G (c.fact 46 (f := .free "len") rfl)
  isinstance := He.free_ok X G (c.fact 47 (f := .free "isinstance") rfl)
  all := He.free_ok X G (c.fact 48 (f := .free "all") rfl)
  any := He.free_ok X G (c.fact 49 (f := .free "any") rfl)
  tuple := He.free_ok X G (c.fact 50 (f := .free "tuple") rfl)
  list := He.free_ok X G (c.fact 51 (f := .free "list") rfl)
  int := He.free_ok X G (c.fact 52 (f := .free "int") rfl)
  abs := He.free_ok X G (c.fact 53 (f := .free "abs") rfl)
  max := He.free_ok X G (c.fact 54 (f := .free "max") rfl)
  min := He.free_ok X G (c.fact 55 (f := .free "min") rfl)
  range := He.free_ok X G (c.fact 56 (f := .free "range") rfl)
  enumerate := He.free_ok X G (c.fact 57 (f := .free "enumerate") rfl)
  int_ := He.free_ok X G (c.fact 52 (f := .free "int") rfl)
  bool_ := He.free_ok X G (c.fact 58 (f := .free "bool") rfl)
  str_ := He.free_ok X G (c.fact 59 (f := .free "str") rfl)
  tuple_ := He.free_ok X G (c.fact 50 (f := .free "tuple") rfl)
  cMOST_EVENTS := let ⟨t, e⟩ := He.int_ok X G (c.fact 60 (f := .int "MOST_EVENTS" 6) rfl); ⟨_, e, t, rfl⟩
  cMOST_RULES := let ⟨t, e⟩ := He.int_ok X G (c.fact 61 (f := .int "MOST_RULES" 12) rfl); ⟨_, e, t, rfl⟩
  cFARTHEST := let ⟨t, e⟩ := He.int_ok X G (c.fact 62 (f := .int "FARTHEST" 100) rfl); ⟨_, e, t, rfl⟩
  cLATEST := let ⟨t, e⟩ := He.int_ok X G (c.fact 63 (f := .int "LATEST" 1000) rfl); ⟨_, e, t, rfl⟩
  cMOST_EVENT := let ⟨t, e⟩ := He.int_ok X G (c.fact 64 (f := .int "MOST_EVENT" 5) rfl); ⟨_, e, t, rfl⟩
  cMOST_TIME := let ⟨t, e⟩ := He.int_ok X G (c.fact 65 (f := .int "MOST_TIME" 500) rfl); ⟨_, e, t, rfl⟩
  cMOST_STEPS := let ⟨t, e⟩ := He.int_ok X G (c.fact 66 (f := .int "MOST_STEPS" 16) rfl); ⟨_, e, t, rfl⟩
}
theorem has_is_between (X : K.In h) (G : h.Ns mainGlobals mg) (c : He.SaysD faAll fnAll K) : Has K mg "is_between" s_is_between ["value", "low", "high"] := by
  obtain ⟨fd, F⟩ := c.def_ 0 (d := dd_is_between) rfl
  exact ⟨_, fd, F, He.glo_ok X G (c.fact 0 (f := .glo "is_between") rfl), F.bindsN fun _ _ _ _ _ _ us hl => match us, hl with | [_, _, _], _ => rfl⟩
theorem has_is_side (X : K.In h) (G : h.Ns mainGlobals mg) (c : He.SaysD faAll fnAll K) : Has K mg "is_side" s_is_side ["value"] := by
  obtain ⟨fd, F⟩ := c.def_ 1 (d := dd_is_side) rfl
  exact ⟨_, fd, F, He.glo_ok X G (c.fact 1 (f := .glo "is_side") rfl), F.bindsN fun _ _ _ _ _ _ us hl => match us, hl with | [_], _ => rfl⟩
theorem has_is_rule (X : K.In h) (G : h.Ns mainGlobals mg) (c : He.SaysD faAll fnAll K) : Has K mg "is_rule" s_is_rule ["value", "size"] := by
  obtain ⟨fd, F⟩ := c.def_ 2 (d := dd_is_rule) rfl
  exact ⟨_, fd, F, He.glo_ok X G (c.fact 2 (f := .glo "is_rule") rfl), F.bindsN fun _ _ _ _ _ _ us hl => match us, hl with | [_, _], _ => rfl⟩
theorem has_is_net (X : K.In h) (G : h.Ns mainGlobals mg) (c : He.SaysD faAll fnAll K) : Has K mg "is_net" s_is_net ["value"] := by
  obtain ⟨fd, F⟩ := c.def_ 3 (d := dd_is_net) rfl
  exact ⟨_, fd, F, He.glo_ok X G (c.fact 3 (f := .glo "is_net") rfl), F.bindsN fun _ _ _ _ _ _ us hl => match us, hl with | [_], _ => rfl⟩
theorem has_is_times (X : K.In h) (G : h.Ns mainGlobals mg) (c : He.SaysD faAll fnAll K) : Has K mg "is_times" s_is_times ["value", "net"] := by
  obtain ⟨fd, F⟩ := c.def_ 4 (d := dd_is_times) rfl
  exact ⟨_, fd, F, He.glo_ok X G (c.fact 4 (f := .glo "is_times") rfl), F.bindsN fun _ _ _ _ _ _ us hl => match us, hl with | [_, _], _ => rfl⟩
theorem has_excess_of (X : K.In h) (G : h.Ns mainGlobals mg) (c : He.SaysD faAll fnAll K) : Has K mg "excess_of" s_excess_of ["rule", "times"] := by
  obtain ⟨fd, F⟩ := c.def_ 5 (d := dd_excess_of) rfl
  exact ⟨_, fd, F, He.glo_ok X G (c.fact 5 (f := .glo "excess_of") rfl), F.bindsN fun _ _ _ _ _ _ us hl => match us, hl with | [_, _], _ => rfl⟩
theorem has_all_hold (X : K.In h) (G : h.Ns mainGlobals mg) (c : He.SaysD faAll fnAll K) : Has K mg "all_hold" s_all_hold ["net", "times"] := by
  obtain ⟨fd, F⟩ := c.def_ 6 (d := dd_all_hold) rfl
  exact ⟨_, fd, F, He.glo_ok X G (c.fact 6 (f := .glo "all_hold") rfl), F.bindsN fun _ _ _ _ _ _ us hl => match us, hl with | [_, _], _ => rfl⟩
theorem has_edges_of (X : K.In h) (G : h.Ns mainGlobals mg) (c : He.SaysD faAll fnAll K) : Has K mg "edges_of" s_edges_of ["net"] := by
  obtain ⟨fd, F⟩ := c.def_ 7 (d := dd_edges_of) rfl
  exact ⟨_, fd, F, He.glo_ok X G (c.fact 7 (f := .glo "edges_of") rfl), F.bindsN fun _ _ _ _ _ _ us hl => match us, hl with | [_], _ => rfl⟩
theorem has_is_integer (X : K.In h) (G : h.Ns mainGlobals mg) (c : He.SaysD faAll fnAll K) : Has K mg "is_integer" s_is_integer ["value"] := by
  obtain ⟨fd, F⟩ := c.def_ 8 (d := dd_is_integer) rfl
  exact ⟨_, fd, F, He.glo_ok X G (c.fact 8 (f := .glo "is_integer") rfl), F.bindsN fun _ _ _ _ _ _ us hl => match us, hl with | [_], _ => rfl⟩
theorem has_check_net (X : K.In h) (G : h.Ns mainGlobals mg) (c : He.SaysD faAll fnAll K) : Has K mg "check_net" s_check_net ["net"] := by
  obtain ⟨fd, F⟩ := c.def_ 9 (d := dd_check_net) rfl
  exact ⟨_, fd, F, He.glo_ok X G (c.fact 9 (f := .glo "check_net") rfl), F.bindsN fun _ _ _ _ _ _ us hl => match us, hl with | [_], _ => rfl⟩
theorem has_longer_walks (X : K.In h) (G : h.Ns mainGlobals mg) (c : He.SaysD faAll fnAll K) : Has K mg "longer_walks" s_longer_walks ["net", "walks"] := by
  obtain ⟨fd, F⟩ := c.def_ 10 (d := dd_longer_walks) rfl
  exact ⟨_, fd, F, He.glo_ok X G (c.fact 10 (f := .glo "longer_walks") rfl), F.bindsN fun _ _ _ _ _ _ us hl => match us, hl with | [_, _], _ => rfl⟩
theorem has_first_round (X : K.In h) (G : h.Ns mainGlobals mg) (c : He.SaysD faAll fnAll K) : Has K mg "first_round" s_first_round ["net"] := by
  obtain ⟨fd, F⟩ := c.def_ 11 (d := dd_first_round) rfl
  exact ⟨_, fd, F, He.glo_ok X G (c.fact 11 (f := .glo "first_round") rfl), F.bindsN fun _ _ _ _ _ _ us hl => match us, hl with | [_], _ => rfl⟩
theorem has_shortest_walks (X : K.In h) (G : h.Ns mainGlobals mg) (c : He.SaysD faAll fnAll K) : Has K mg "shortest_walks" s_shortest_walks ["net"] := by
  obtain ⟨fd, F⟩ := c.def_ 12 (d := dd_shortest_walks) rfl
  exact ⟨_, fd, F, He.glo_ok X G (c.fact 12 (f := .glo "shortest_walks") rfl), F.bindsN fun _ _ _ _ _ _ us hl => match us, hl with | [_], _ => rfl⟩
theorem has_with_walk (X : K.In h) (G : h.Ns mainGlobals mg) (c : He.SaysD faAll fnAll K) : Has K mg "with_walk" s_with_walk ["best", "pair", "value"] := by
  obtain ⟨fd, F⟩ := c.def_ 13 (d := dd_with_walk) rfl
  exact ⟨_, fd, F, He.glo_ok X G (c.fact 13 (f := .glo "with_walk") rfl), F.bindsN fun _ _ _ _ _ _ us hl => match us, hl with | [_, _, _], _ => rfl⟩
theorem has_bounds_of (X : K.In h) (G : h.Ns mainGlobals mg) (c : He.SaysD faAll fnAll K) : Has K mg "bounds_of" s_bounds_of ["net"] := by
  obtain ⟨fd, F⟩ := c.def_ 14 (d := dd_bounds_of) rfl
  exact ⟨_, fd, F, He.glo_ok X G (c.fact 14 (f := .glo "bounds_of") rfl), F.bindsN fun _ _ _ _ _ _ us hl => match us, hl with | [_], _ => rfl⟩
theorem has_known_bounds (X : K.In h) (G : h.Ns mainGlobals mg) (c : He.SaysD faAll fnAll K) : Has K mg "known_bounds" s_known_bounds ["net"] := by
  obtain ⟨fd, F⟩ := c.def_ 15 (d := dd_known_bounds) rfl
  exact ⟨_, fd, F, He.glo_ok X G (c.fact 15 (f := .glo "known_bounds") rfl), F.bindsN fun _ _ _ _ _ _ us hl => match us, hl with | [_], _ => rfl⟩
theorem has_check_times (X : K.In h) (G : h.Ns mainGlobals mg) (c : He.SaysD faAll fnAll K) : Has K mg "check_times" s_check_times ["net", "times"] := by
  obtain ⟨fd, F⟩ := c.def_ 16 (d := dd_check_times) rfl
  exact ⟨_, fd, F, He.glo_ok X G (c.fact 16 (f := .glo "check_times") rfl), F.bindsN fun _ _ _ _ _ _ us hl => match us, hl with | [_, _], _ => rfl⟩
theorem has_is_event_time (X : K.In h) (G : h.Ns mainGlobals mg) (c : He.SaysD faAll fnAll K) : Has K mg "is_event_time" s_is_event_time ["event", "time"] := by
  obtain ⟨fd, F⟩ := c.def_ 17 (d := dd_is_event_time) rfl
  exact ⟨_, fd, F, He.glo_ok X G (c.fact 17 (f := .glo "is_event_time") rfl), F.bindsN fun _ _ _ _ _ _ us hl => match us, hl with | [_, _], _ => rfl⟩
theorem has_is_step (X : K.In h) (G : h.Ns mainGlobals mg) (c : He.SaysD faAll fnAll K) : Has K mg "is_step" s_is_step ["value"] := by
  obtain ⟨fd, F⟩ := c.def_ 18 (d := dd_is_step) rfl
  exact ⟨_, fd, F, He.glo_ok X G (c.fact 18 (f := .glo "is_step") rfl), F.bindsN fun _ _ _ _ _ _ us hl => match us, hl with | [_], _ => rfl⟩
theorem has_are_steps (X : K.In h) (G : h.Ns mainGlobals mg) (c : He.SaysD faAll fnAll K) : Has K mg "are_steps" s_are_steps ["value"] := by
  obtain ⟨fd, F⟩ := c.def_ 19 (d := dd_are_steps) rfl
  exact ⟨_, fd, F, He.glo_ok X G (c.fact 19 (f := .glo "are_steps") rfl), F.bindsN fun _ _ _ _ _ _ us hl => match us, hl with | [_], _ => rfl⟩
theorem has_check_steps (X : K.In h) (G : h.Ns mainGlobals mg) (c : He.SaysD faAll fnAll K) : Has K mg "check_steps" s_check_steps ["steps"] := by
  obtain ⟨fd, F⟩ := c.def_ 20 (d := dd_check_steps) rfl
  exact ⟨_, fd, F, He.glo_ok X G (c.fact 20 (f := .glo "check_steps") rfl), F.bindsN fun _ _ _ _ _ _ us hl => match us, hl with | [_], _ => rfl⟩
theorem has_do_commute (X : K.In h) (G : h.Ns mainGlobals mg) (c : He.SaysD faAll fnAll K) : Has K mg "do_commute" s_do_commute ["one", "other"] := by
  obtain ⟨fd, F⟩ := c.def_ 21 (d := dd_do_commute) rfl
  exact ⟨_, fd, F, He.glo_ok X G (c.fact 21 (f := .glo "do_commute") rfl), F.bindsN fun _ _ _ _ _ _ us hl => match us, hl with | [_, _], _ => rfl⟩
theorem has_step_moved (X : K.In h) (G : h.Ns mainGlobals mg) (c : He.SaysD faAll fnAll K) : Has K mg "step_moved" s_step_moved ["bounds", "times", "step"] := by
  obtain ⟨fd, F⟩ := c.def_ 22 (d := dd_step_moved) rfl
  exact ⟨_, fd, F, He.glo_ok X G (c.fact 22 (f := .glo "step_moved") rfl), F.bindsN fun _ _ _ _ _ _ us hl => match us, hl with | [_, _, _], _ => rfl⟩
theorem has_stepped (X : K.In h) (G : h.Ns mainGlobals mg) (c : He.SaysD faAll fnAll K) : Has K mg "stepped" s_stepped ["net", "times", "steps"] := by
  obtain ⟨fd, F⟩ := c.def_ 23 (d := dd_stepped) rfl
  exact ⟨_, fd, F, He.glo_ok X G (c.fact 23 (f := .glo "stepped") rfl), F.bindsN fun _ _ _ _ _ _ us hl => match us, hl with | [_, _, _], _ => rfl⟩
theorem has_is_stronger (X : K.In h) (G : h.Ns mainGlobals mg) (c : He.SaysD faAll fnAll K) : Has K mg "is_stronger" s_is_stronger ["one", "other"] := by
  obtain ⟨fd, F⟩ := c.def_ 24 (d := dd_is_stronger) rfl
  exact ⟨_, fd, F, He.glo_ok X G (c.fact 24 (f := .glo "is_stronger") rfl), F.bindsN fun _ _ _ _ _ _ us hl => match us, hl with | [_, _], _ => rfl⟩
theorem has_makes_idle (X : K.In h) (G : h.Ns mainGlobals mg) (c : He.SaysD faAll fnAll K) : Has K mg "makes_idle" s_makes_idle ["steps", "index", "by"] := by
  obtain ⟨fd, F⟩ := c.def_ 25 (d := dd_makes_idle) rfl
  exact ⟨_, fd, F, He.glo_ok X G (c.fact 25 (f := .glo "makes_idle") rfl), F.bindsN fun _ _ _ _ _ _ us hl => match us, hl with | [_, _, _], _ => rfl⟩
theorem has_why_idle (X : K.In h) (G : h.Ns mainGlobals mg) (c : He.SaysD faAll fnAll K) : Has K mg "why_idle" s_why_idle ["steps", "index"] := by
  obtain ⟨fd, F⟩ := c.def_ 26 (d := dd_why_idle) rfl
  exact ⟨_, fd, F, He.glo_ok X G (c.fact 26 (f := .glo "why_idle") rfl), F.bindsN fun _ _ _ _ _ _ us hl => match us, hl with | [_, _], _ => rfl⟩
theorem has_first_idle (X : K.In h) (G : h.Ns mainGlobals mg) (c : He.SaysD faAll fnAll K) : Has K mg "first_idle" s_first_idle ["steps"] := by
  obtain ⟨fd, F⟩ := c.def_ 27 (d := dd_first_idle) rfl
  exact ⟨_, fd, F, He.glo_ok X G (c.fact 27 (f := .glo "first_idle") rfl), F.bindsN fun _ _ _ _ _ _ us hl => match us, hl with | [_], _ => rfl⟩
theorem has_reduction_of (X : K.In h) (G : h.Ns mainGlobals mg) (c : He.SaysD faAll fnAll K) : Has K mg "reduction_of" s_reduction_of ["steps"] := by
  obtain ⟨fd, F⟩ := c.def_ 28 (d := dd_reduction_of) rfl
  exact ⟨_, fd, F, He.glo_ok X G (c.fact 28 (f := .glo "reduction_of") rfl), F.bindsN fun _ _ _ _ _ _ us hl => match us, hl with | [_], _ => rfl⟩
theorem has_reduction (X : K.In h) (G : h.Ns mainGlobals mg) (c : He.SaysD faAll fnAll K) : Has K mg "reduction" s_reduction ["steps"] := by
  obtain ⟨fd, F⟩ := c.def_ 29 (d := dd_reduction) rfl
  exact ⟨_, fd, F, He.glo_ok X G (c.fact 29 (f := .glo "reduction") rfl), F.bindsN fun _ _ _ _ _ _ us hl => match us, hl with | [_], _ => rfl⟩
theorem has_left_behind (X : K.In h) (G : h.Ns mainGlobals mg) (c : He.SaysD faAll fnAll K) : Has K mg "left_behind" s_left_behind ["steps", "value"] := by
  obtain ⟨fd, F⟩ := c.def_ 30 (d := dd_left_behind) rfl
  exact ⟨_, fd, F, He.glo_ok X G (c.fact 30 (f := .glo "left_behind") rfl), F.bindsN fun _ _ _ _ _ _ us hl => match us, hl with | [_, _], _ => rfl⟩
theorem has_reduced (X : K.In h) (G : h.Ns mainGlobals mg) (c : He.SaysD faAll fnAll K) : Has K mg "reduced" s_reduced ["steps", "value"] := by
  obtain ⟨fd, F⟩ := c.def_ 31 (d := dd_reduced) rfl
  exact ⟨_, fd, F, He.glo_ok X G (c.fact 31 (f := .glo "reduced") rfl), F.bindsN fun _ _ _ _ _ _ us hl => match us, hl with | [_, _], _ => rfl⟩
theorem has_law_stream (X : K.In h) (G : h.Ns mainGlobals mg) (c : He.SaysD faAll fnAll K) : Has K mg "_law_stream" s_law_stream ["_law_script"] := by
  obtain ⟨fd, F⟩ := c.def_ 32 (d := dd_law_stream) rfl
  exact ⟨_, fd, F, He.glo_ok X G (c.fact 32 (f := .glo "_law_stream") rfl), F.bindsN fun _ _ _ _ _ _ us hl => match us, hl with | [_], _ => rfl⟩
theorem has_law_next (X : K.In h) (G : h.Ns mainGlobals mg) (c : He.SaysD faAll fnAll K) : Has K mg "_law_next" s_law_next ["_law_stream_here", "_law_many"] := by
  obtain ⟨fd, F⟩ := c.def_ 33 (d := dd_law_next) rfl
  exact ⟨_, fd, F, He.glo_ok X G (c.fact 33 (f := .glo "_law_next") rfl), F.bindsN fun _ _ _ _ _ _ us hl => match us, hl with | [_, _], _ => rfl⟩
theorem has_law_is_integer (X : K.In h) (G : h.Ns mainGlobals mg) (c : He.SaysD faAll fnAll K) : Has K mg "_law_is_integer" s_law_is_integer ["_law_actual"] := by
  obtain ⟨fd, F⟩ := c.def_ 34 (d := dd_law_is_integer) rfl
  exact ⟨_, fd, F, He.glo_ok X G (c.fact 34 (f := .glo "_law_is_integer") rfl), F.bindsN fun _ _ _ _ _ _ us hl => match us, hl with | [_], _ => rfl⟩
theorem has_law_news (X : K.In h) (G : h.Ns mainGlobals mg) (c : He.SaysD faAll fnAll K) : Has K mg "_law_news" s_law_news ["_law_stream_here", "_law_events", "_law_most"] := by
  obtain ⟨fd, F⟩ := c.def_ 35 (d := dd_law_news) rfl
  exact ⟨_, fd, F, He.glo_ok X G (c.fact 35 (f := .glo "_law_news") rfl), F.bindsN fun _ _ _ _ _ _ us hl => match us, hl with | [_, _, _], _ => rfl⟩
theorem has_law_steps (X : K.In h) (G : h.Ns mainGlobals mg) (c : He.SaysD faAll fnAll K) : Has K mg "_law_steps" s_law_steps ["_law_row"] := by
  obtain ⟨fd, F⟩ := c.def_ 36 (d := dd_law_steps) rfl
  exact ⟨_, fd, F, He.glo_ok X G (c.fact 36 (f := .glo "_law_steps") rfl), F.bindsN fun _ _ _ _ _ _ us hl => match us, hl with | [_], _ => rfl⟩
theorem has_law_some_steps (X : K.In h) (G : h.Ns mainGlobals mg) (c : He.SaysD faAll fnAll K) : Has K mg "_law_some_steps" s_law_some_steps ["_law_stream_here", "_law_events", "_law_most"] := by
  obtain ⟨fd, F⟩ := c.def_ 37 (d := dd_law_some_steps) rfl
  exact ⟨_, fd, F, He.glo_ok X G (c.fact 37 (f := .glo "_law_some_steps") rfl), F.bindsN fun _ _ _ _ _ _ us hl => match us, hl with | [_, _, _], _ => rfl⟩
theorem has_law_commute (X : K.In h) (G : h.Ns mainGlobals mg) (c : He.SaysD faAll fnAll K) : Has K mg "_law_commute" s_law_commute ["_law_one", "_law_other"] := by
  obtain ⟨fd, F⟩ := c.def_ 38 (d := dd_law_commute) rfl
  exact ⟨_, fd, F, He.glo_ok X G (c.fact 38 (f := .glo "_law_commute") rfl), F.bindsN fun _ _ _ _ _ _ us hl => match us, hl with | [_, _], _ => rfl⟩
theorem has_law_idle_by (X : K.In h) (G : h.Ns mainGlobals mg) (c : He.SaysD faAll fnAll K) : Has K mg "_law_idle_by" s_law_idle_by ["_law_steps_here", "_law_index", "_law_by"] := by
  obtain ⟨fd, F⟩ := c.def_ 39 (d := dd_law_idle_by) rfl
  exact ⟨_, fd, F, He.glo_ok X G (c.fact 39 (f := .glo "_law_idle_by") rfl), F.bindsN fun _ _ _ _ _ _ us hl => match us, hl with | [_, _, _], _ => rfl⟩
theorem has_law_net (X : K.In h) (G : h.Ns mainGlobals mg) (c : He.SaysD faAll fnAll K) : Has K mg "_law_net" s_law_net ["_law_stream_here", "_law_least", "_law_sizes"] := by
  obtain ⟨fd, F⟩ := c.def_ 40 (d := dd_law_net) rfl
  exact ⟨_, fd, F, He.glo_ok X G (c.fact 40 (f := .glo "_law_net") rfl), F.bindsN fun _ _ _ _ _ _ us hl => match us, hl with | [_, _, _], _ => rfl⟩
theorem has_law_drawn (X : K.In h) (G : h.Ns mainGlobals mg) (c : He.SaysD faAll fnAll K) : Has K mg "_law_drawn" s_law_drawn ["_law_stream_here", "_law_events"] := by
  obtain ⟨fd, F⟩ := c.def_ 41 (d := dd_law_drawn) rfl
  exact ⟨_, fd, F, He.glo_ok X G (c.fact 41 (f := .glo "_law_drawn") rfl), F.bindsN fun _ _ _ _ _ _ us hl => match us, hl with | [_, _], _ => rfl⟩
theorem has_law_left (X : K.In h) (G : h.Ns mainGlobals mg) (c : He.SaysD faAll fnAll K) : Has K mg "_law_left" s_law_left ["_law_steps_here", "_law_value"] := by
  obtain ⟨fd, F⟩ := c.def_ 42 (d := dd_law_left) rfl
  exact ⟨_, fd, F, He.glo_ok X G (c.fact 42 (f := .glo "_law_left") rfl), F.bindsN fun _ _ _ _ _ _ us hl => match us, hl with | [_, _], _ => rfl⟩
theorem has_law_any (X : K.In h) (G : h.Ns mainGlobals mg) (c : He.SaysD faAll fnAll K) : Has K mg "_law_any" s_law_any ["_law_stream_here", "_law_steps_here"] := by
  obtain ⟨fd, F⟩ := c.def_ 43 (d := dd_law_any) rfl
  exact ⟨_, fd, F, He.glo_ok X G (c.fact 43 (f := .glo "_law_any") rfl), F.bindsN fun _ _ _ _ _ _ us hl => match us, hl with | [_, _], _ => rfl⟩
theorem has_law_changed (X : K.In h) (G : h.Ns mainGlobals mg) (c : He.SaysD faAll fnAll K) : Has K mg "_law_changed" s_law_changed ["_law_stream_here", "_law_steps_here", "_law_value"] := by
  obtain ⟨fd, F⟩ := c.def_ 44 (d := dd_law_changed) rfl
  exact ⟨_, fd, F, He.glo_ok X G (c.fact 44 (f := .glo "_law_changed") rfl), F.bindsN fun _ _ _ _ _ _ us hl => match us, hl with | [_, _, _], _ => rfl⟩
end
theorem facts {P : Program} {w : World} {K : PySem.W.Frag} {h : Heap} {mg : Str → Option Value} {f : Addr} (X : K.In h) (G : h.Ns mainGlobals mg) (hfa : mg ("law" : Str) = some (.ref f)) (c : He.SaysD faAll fnAll K) :
    ∃ fd : FuncData, (∀ (s : Shared) (v : Value), BindsTo s fd ⟨[v], []⟩ [("_law_script", v)]) ∧ ∀ base : Heap, K.In base → base.Ns mainGlobals mg → FnOk P w K mg base C8.CX0 8 f fd ["_law_script"] (spLaw (K := K)) := by
  obtain ⟨fd, F⟩ := c.def_ 45 (d := dd_law) rfl
  have e := hfa.symm.trans (He.glo_ok X G (c.fact 45 (f := .glo "law") rfl))
  cases e
  have b := FunD.bindsA (ps := ["_law_script"]) F fun _ _ _ _ _ _ us hl => match us, hl with | [_], _ => rfl
  refine ⟨fd, fun s v => b s [v] rfl, fun base _ _ => ?_⟩
  have B : Gm mg := gm_of X G c
  have cl0 : C8.Cal P w K mg base 1 "is_between" spBetween [] := ok_is_between (has_is_between X G c) B 
  have cl1 : C8.Cal P w K mg base 2 "is_side" spSide [] := ok_is_side (has_is_side X G c) B cl0
  have cl2 : C8.Cal P w K mg base 3 "is_rule" spRule [] := ok_is_rule (has_is_rule X G c) B cl0 cl1
  have cl3 : C8.Cal P w K mg base 4 "is_net" spNet [] := ok_is_net (has_is_net X G c) B cl0 cl2
  have cl4 : C8.Cal P w K mg base 2 "is_times" spTimes [] := ok_is_times (has_is_times X G c) B cl0
  have cl5 : C8.Cal P w K mg base 1 "excess_of" spExcess [] := ok_excess_of (has_excess_of X G c) B 
  have cl6 : C8.Cal P w K mg base 2 "all_hold" spHold [] := ok_all_hold (has_all_hold X G c) B cl5
  have cl7 : C8.Cal P w K mg base 1 "is_integer" spInteger [] := ok_is_integer (has_is_integer X G c) B 
  have cl8 : C8.Cal P w K mg base 5 "check_net" spChkNet [] := ok_check_net (has_check_net X G c) B cl3
  have cl9 : C8.Cal P w K mg base 3 "check_times" spChkTimes [] := ok_check_times (has_check_times X G c) B cl4 cl6
  have cl10 : C8.Cal P w K mg base 2 "is_event_time" spEvTime [] := ok_is_event_time (has_is_event_time X G c) B cl7
  have cl11 : C8.Cal P w K mg base 3 "is_step" spStep [] := ok_is_step (has_is_step X G c) B cl10
  have cl12 : C8.Cal P w K mg base 4 "are_steps" spSteps [] := ok_are_steps (has_are_steps X G c) B cl11
  have cl13 : C8.Cal P w K mg base 5 "check_steps" spChkSteps [] := ok_check_steps (has_check_steps X G c) B cl12
  have cl14 : C8.Cal P w K mg base 1 "do_commute" spCommute [] := ok_do_commute (has_do_commute X G c) B 
  have cl15 : C8.Cal P w K mg base 1 "is_stronger" spStronger [] := ok_is_stronger (has_is_stronger X G c) B 
  have cl16 : C8.Cal P w K mg base 2 "makes_idle" spIdle [] := ok_makes_idle (has_makes_idle X G c) B cl15 cl14
  have cl17 : C8.Cal P w K mg base 3 "why_idle" spWhy [] := ok_why_idle (has_why_idle X G c) B cl16
  have cl18 : C8.Cal P w K mg base 4 "first_idle" spFirst [] := ok_first_idle (has_first_idle X G c) B cl17
  have cl19 : C8.Cal P w K mg base 5 "reduction_of" spRedOf [] := ok_reduction_of (has_reduction_of X G c) B cl18
  have cl20 : C8.Cal P w K mg base 6 "reduction" spRed [] := ok_reduction (has_reduction X G c) B cl13 cl19
  have cl21 : C8.Cal P w K mg base 3 "left_behind" spLeft [] := ok_left_behind (has_left_behind X G c) B cl7 cl16
  have cl22 : C8.Cal P w K mg base 6 "reduced" spReduced [] := ok_reduced (has_reduced X G c) B cl13 cl21
  have cl23 : C8.Cal P w K mg base 1 "edges_of" spEdges [] := ok_edges_of (has_edges_of X G c) B 
  have cl24 : C8.Cal P w K mg base 2 "longer_walks" spLonger [] := ok_longer_walks (has_longer_walks X G c) B cl23
  have cl25 : C8.Cal P w K mg base 1 "with_walk" spWith [] := ok_with_walk (has_with_walk X G c) B 
  have cl26 : C8.Cal P w K mg base 3 "first_round" spRound [] := ok_first_round (has_first_round X G c) B cl24
  have cl27 : C8.Cal P w K mg base 3 "shortest_walks" spShort [] := ok_shortest_walks (has_shortest_walks X G c) B cl24 cl25
  have cl28 : C8.Cal P w K mg base 4 "bounds_of" spBounds [] := ok_bounds_of (has_bounds_of X G c) B cl26 cl27
  have cl29 : C8.Cal P w K mg base 6 "known_bounds" spBounds [] := ok_known_bounds (has_known_bounds X G c) B cl8 cl28
  have cl30 : C8.Cal P w K mg base 1 "step_moved" spMoved [] := ok_step_moved (has_step_moved X G c) B 
  have cl31 : C8.Cal P w K mg base 7 "stepped" spStepped [] := ok_stepped (has_stepped X G c) B cl29 cl9 cl13 cl30
  have cl32 : C8.Cal P w K mg base 1 "_law_stream" (spStream (K := K)) [] := ok_law_stream (has_law_stream X G c) B 
  have cl33 : C8.Cal P w K mg base 1 "_law_next" spNext [] := ok_law_next (has_law_next X G c) B 
  have cl34 : C8.Cal P w K mg base 1 "_law_is_integer" spInteger [] := ok_law_is_integer (has_law_is_integer X G c) B 
  have cl35 : C8.Cal P w K mg base 1 "_law_commute" spLcom1 [] := ok_law_commute1 (has_law_commute X G c) B 
  have cl36 : C8.Cal P w K mg base 2 "_law_commute" spCommute [] := ok_law_commute (has_law_commute X G c) B cl35
  have cl37 : C8.Cal P w K mg base 3 "_law_idle_by" spIdle [] := ok_law_idle_by (has_law_idle_by X G c) B cl36
  have cl38 : C8.Cal P w K mg base 4 "_law_left" spLeft [] := ok_law_left (has_law_left X G c) B cl34 cl37
  have cl39 : C8.Cal P w K mg base 1 "_law_steps" spLSteps [] := ok_law_steps (has_law_steps X G c) B 
  have cl40 : C8.Cal P w K mg base 2 "_law_some_steps" spSome [] := ok_law_some_steps (has_law_some_steps X G c) B cl33
  have cl41 : C8.Cal P w K mg base 2 "_law_news" spNews [] := ok_law_news (has_law_news X G c) B cl33
  have cl42 : C8.Cal P w K mg base 3 "_law_drawn" spDrawn [] := ok_law_drawn (has_law_drawn X G c) B cl33 cl40 cl41 cl39
  have cl43 : C8.Cal P w K mg base 2 "_law_net" spLNet [] := ok_law_net (has_law_net X G c) B cl33
  have cl44 : C8.Cal P w K mg base 4 "_law_any" spAny [] := ok_law_any (has_law_any X G c) B cl33 cl37
  have cl45 : C8.Cal P w K mg base 2 "_law_changed" spChanged [] := ok_law_changed (has_law_changed X G c) B cl33
  exact law_fn F (law_shows B cl32 cl43 cl42 cl31 cl20 cl44 cl33 cl45 cl38 cl22)
end Abl
open PySem PySem.W PySem.Calls PyProof.Rows
theorem PySem.Challenge.cw_allbide_k44_whole_reductions_by_whomever_holds : PySem.Challenge.rw_allbide_k44_whole_reductions_by_whomever.Holds := by
  w_on; o_law
  refine HandSHeadRun.head_any (r := Abl.Rw) (q := Abl.qview) (H := Abl.hk) (ob := Abl.ob) (M := 3000) (loose := Abl.looseAll) (d := HandSHeadRun.topDef Abl.Rw.prog 66) (kwd := []) Abl.ob_eq
    (by kernel_rfl) (fun s => by kernel_rfl) Abl.run (by kernel_rfl) (by kernel_rfl) (by kernel_rfl) (by rfl) (by first | assumption | decide +kernel) (by decide +kernel) ⟨rfl, rfl, rfl, rfl, rfl, by decide +kernel⟩ ?hw ?hc
  case hw => w_witness2
  case hc =>
    refine L2.walk_ofE (l := PySem.Challenge.rw_allbide_k44_whole_reductions_by_whomever) (n := 63) (k := 8) (x := "_law_script") (CX := C8.CX0) rfl (by decide) (by kernel_rfl) ⟨rfl, by decide, by decide⟩ ?F (fun _ _ _ _ z => z)
    intro w mg fa h Y G hmg0
    obtain ⟨K, KX, c⟩ := Y
    have hmg : mg ("law" : PySem.Str) = some (.ref fa) := by
      have e : (HandSHeadRun.topDef Abl.Rw.prog 66).name = ("law" : PySem.Str) := by kernel_rfl
      rw [← e]
      exact hmg0
    obtain ⟨fd, hb, hF⟩ := Abl.facts (P := (PySem.Challenge.rw_allbide_k44_whole_reductions_by_whomever).prog) (w := w) KX G hmg c
    exact ⟨K, fd, Abl.spLaw (K := K), KX, hb, fun H a ns hl _ hS => ⟨a, ns, rfl, hS, fun _ => rfl⟩, hF⟩
