import PyProof.Rows.All
import Wide.All
import OpenK.AllK
import Wide.FinOn
import HandS.ForMost
import KE.KDictKeyed
import HandS.Flow
import HandS.Walk
import HandS.TupLe
import HandS.SetFor
import HandS.Zip
import HandS.SortRule
import HandS.SortInts
import HandS.Conv
import HandS.More
import HandS.ForExc
import HandS.Deep
import HandS.Evl
import HandS.Style
import HandS.Codes
import HandS.Small
import HandS.WordsExc
import HandS.ExcOwn
import HandS.TryOnly
import HandS.Exc
import PySem.Challenge.RW_portermaze_k57_whole_plans_and_cuts
set_option linter.all false
namespace PM

inductive Pl where
  | beg | fin | spot (r m i : Int)
  deriving DecidableEq

abbrev Eg := Pl × Pl

def ins (U : List Eg) (p : Pl) : Nat := U.countP (fun e => decide (e.2 = p))
def outs (U : List Eg) (p : Pl) : Nat := U.countP (fun e => decide (e.1 = p))
def exc (U : List Eg) (p : Pl) : Int := (ins U p : Int) - (outs U p : Int)
def want (v : Int) (here p : Pl) : Int := (if p = .fin then v + 1 else 0) - (if p = .beg then v else 0) - (if p = here then 1 else 0)
def del (U : List Eg) (e : Eg) : List Eg := U.filter (fun x => decide (x ≠ e))

theorem countP_snoc (f : Eg → Bool) (U : List Eg) (e : Eg) : (U ++ [e]).countP f = U.countP f + (if f e = true then 1 else 0) := by
  rw [List.countP_append, List.countP_singleton]

theorem countP_del (f : Eg → Bool) (e : Eg) : ∀ (U : List Eg), U.Nodup → e ∈ U → U.countP f = (del U e).countP f + (if f e = true then 1 else 0)
  | [], _, h => by simp at h
  | x :: U, hn, h => by
    rw [List.nodup_cons] at hn
    by_cases hx : x = e
    · subst hx
      have hd : del (x :: U) x = U := by
        unfold del
        rw [List.filter_cons, if_neg (by simp)]
        refine List.filter_eq_self.mpr fun y hy => ?_
        refine decide_eq_true fun q => hn.1 (q ▸ hy)
      rw [hd, List.countP_cons]
    · have he : e ∈ U := by
        rcases List.mem_cons.mp h with q | q
        · exact absurd q.symm hx
        · exact q
      have ih := countP_del f e U hn.2 he
      have hd : del (x :: U) e = x :: del U e := by
        unfold del
        rw [List.filter_cons, if_pos (decide_eq_true hx)]
      rw [hd, List.countP_cons, List.countP_cons, ih]
      omega

theorem exc_snoc (U : List Eg) (a b p : Pl) : exc (U ++ [(a, b)]) p = exc U p + (if b = p then 1 else 0) - (if a = p then 1 else 0) := by
  unfold exc ins outs
  rw [countP_snoc, countP_snoc]
  simp only [decide_eq_true_eq]
  by_cases h1 : b = p <;> by_cases h2 : a = p <;> simp [h1, h2] <;> omega
theorem exc_del (U : List Eg) (a b p : Pl) (hn : U.Nodup) (h : (a, b) ∈ U) : exc (del U (a, b)) p = exc U p - (if b = p then 1 else 0) + (if a = p then 1 else 0) := by
  have h1 := countP_del (fun e => decide (e.2 = p)) (a, b) U hn h
  have h2 := countP_del (fun e => decide (e.1 = p)) (a, b) U hn h
  unfold exc ins outs
  rw [h1, h2]
  simp only [decide_eq_true_eq]
  by_cases h1 : b = p <;> by_cases h2 : a = p <;> simp [h1, h2] <;> omega
theorem mem_del {U : List Eg} {e x : Eg} : x ∈ del U e ↔ x ∈ U ∧ x ≠ e := by
  unfold del
  rw [List.mem_filter, decide_eq_true_eq]
theorem nodup_del {U : List Eg} (e : Eg) (h : U.Nodup) : (del U e).Nodup := h.sublist List.filter_sublist
theorem nodup_snoc {α : Type} {U : List α} {e : α} (h : U.Nodup) (hn : e ∉ U) : (U ++ [e]).Nodup := by
  rw [List.nodup_append]
  exact ⟨h, by simp, fun a ha b hb q => by
    simp at hb
    exact hn (hb ▸ q ▸ ha)⟩

/-- half a flow of v: one unit more comes to fin, from here -/
structure HF (Ed : Pl → Pl → Prop) (v : Int) (here : Pl) (U : List Eg) : Prop where
  ed : ∀ a b, (a, b) ∈ U → Ed a b
  nd : U.Nodup
  ex : ∀ p, exc U p = want v here p

section
variable {Ed : Pl → Pl → Prop} {v : Int} {here ahead : Pl} {U : List Eg}
theorem want_move (v : Int) (h a p : Pl) : want v a p = want v h p + (if h = p then 1 else 0) - (if a = p then 1 else 0) := by
  unfold want
  have e1 : (if p = a then (1 : Int) else 0) = if a = p then 1 else 0 := by
    by_cases h : a = p
    · rw [if_pos h, if_pos h.symm]
    · rw [if_neg h, if_neg (fun z => h z.symm)]
  have e2 : (if p = h then (1 : Int) else 0) = if h = p then 1 else 0 := by
    by_cases h' : h = p
    · rw [if_pos h', if_pos h'.symm]
    · rw [if_neg h', if_neg (fun z => h' z.symm)]
  rw [e1, e2]
  omega
theorem HF.del (x : HF Ed v here U) (h : (here, ahead) ∈ U) : HF Ed v ahead (del U (here, ahead)) :=
  ⟨fun a b q => x.ed a b (mem_del.mp q).1, nodup_del _ x.nd, fun p => by
    rw [exc_del U here ahead p x.nd h, x.ex p, want_move v here ahead p]
    omega⟩
theorem HF.put (x : HF Ed v here U) (he : Ed ahead here) (h : (ahead, here) ∉ U) : HF Ed v ahead (U ++ [(ahead, here)]) :=
  ⟨fun a b q => by
    rcases List.mem_append.mp q with q | q
    · exact x.ed a b q
    · simp at q
      rw [q.1, q.2]
      exact he, nodup_snoc x.nd h, fun p => by
    rw [exc_snoc, x.ex p, want_move v here ahead p]⟩
/-- a whole flow -/
abbrev Flow (Ed : Pl → Pl → Prop) (v : Int) (U : List Eg) : Prop := HF Ed v .fin U
theorem HF.done (x : HF Ed v .beg U) : Flow Ed (v + 1) U := ⟨x.ed, x.nd, fun p => by
  rw [x.ex p]
  unfold want
  by_cases h1 : p = .fin <;> by_cases h2 : p = .beg <;> simp [h1, h2] <;> omega⟩
theorem Flow.nil : Flow Ed 0 [] := ⟨fun _ _ h => by simp at h, List.nodup_nil, fun p => by
  unfold exc ins outs want
  by_cases h1 : p = .fin <;> by_cases h2 : p = .beg <;> simp [h1, h2]⟩

/-- what one more way may go by -/
def Res (Ed : Pl → Pl → Prop) (U : List Eg) (a b : Pl) : Prop := (Ed a b ∧ (a, b) ∉ U) ∨ (b, a) ∈ U

/-- what was come to, each with the place ahead -/
structure Fd (Ed : Pl → Pl → Prop) (U : List Eg) (fs : List (Pl × Option Pl)) : Prop where
  hd : fs[0]? = some (.beg, none)
  nd : (fs.map (·.1)).Nodup
  par : ∀ (i : Nat) (q : Pl) (o : Option Pl), fs[i]? = some (q, o) → 0 < i → ∃ p, o = some p ∧ Res Ed U p q ∧ ∃ j, j < i ∧ ∃ o', fs[j]? = some (p, o')
def Closed (Ed : Pl → Pl → Prop) (U : List Eg) (ks : List Pl) : Prop := ∀ p q, p ∈ ks → Res Ed U p q → q ∈ ks

theorem key_ix {fs : List (Pl × Option Pl)} (nd : (fs.map (·.1)).Nodup) {i j : Nat} {p : Pl} {o o' : Option Pl} (h1 : fs[i]? = some (p, o)) (h2 : fs[j]? = some (p, o')) : i = j := by
  have g1 : (fs.map (·.1))[i]? = some p := by rw [List.getElem?_map, h1]; rfl
  have g2 : (fs.map (·.1))[j]? = some p := by rw [List.getElem?_map, h2]; rfl
  exact (List.getElem?_inj (List.getElem?_eq_some_iff.mp g1).1 nd).mp (g1.trans g2.symm)

/-- the way back from here, at the i-th place of what was come to -/
structure PW (Ed : Pl → Pl → Prop) (v : Int) (fs : List (Pl × Option Pl)) (i : Nat) (here : Pl) (U : List Eg) : Prop where
  at_ : ∃ o, fs[i]? = some (here, o)
  hf : HF Ed v here U
  res : ∀ (j : Nat) (q p : Pl), j ≤ i → fs[j]? = some (q, some p) → Res Ed U p q

def putStep (U : List Eg) (here ahead : Pl) : List Eg := if (here, ahead) ∈ U then del U (here, ahead) else U ++ [(ahead, here)]

theorem Fd.rank {fs : List (Pl × Option Pl)} (F : Fd Ed U fs) {i : Nat} {q p : Pl} (h : fs[i]? = some (q, some p)) : 0 < i ∧ ∃ j, j < i ∧ ∃ o', fs[j]? = some (p, o') := by
  have hi : 0 < i := by
    cases i with
    | zero =>
      have := F.hd
      rw [h] at this
      cases this
    | succ n => omega
  obtain ⟨p', e, _, j, hj, o', ho⟩ := F.par i q (some p) h hi
  cases e
  exact ⟨hi, j, hj, o', ho⟩

theorem PW.start {fs : List (Pl × Option Pl)} (F : Fd Ed U fs) (hU : Flow Ed v U) {i : Nat} {o : Option Pl} (h : fs[i]? = some (.fin, o)) : PW Ed v fs i .fin U :=
  ⟨⟨o, h⟩, hU, fun j q p _ hj => by
    obtain ⟨hj0, _⟩ := F.rank hj
    obtain ⟨p', e, r, _⟩ := F.par j q (some p) hj hj0
    cases e
    exact r⟩

theorem PW.step {U0 : List Eg} {fs : List (Pl × Option Pl)} (F : Fd Ed U0 fs) {i : Nat} (x : PW Ed v fs i here U) (h : fs[i]? = some (here, some ahead)) :
    ((here, ahead) ∉ U → (ahead, here) ∉ U) ∧ ∃ j, j < i ∧ PW Ed v fs j ahead (putStep U here ahead) := by
  obtain ⟨hi, j, hj, o', ho⟩ := F.rank h
  have hr := x.res i here ahead (Nat.le_refl i) h
  have hnot : (here, ahead) ∉ U → Ed ahead here ∧ (ahead, here) ∉ U := fun hn => by
    rcases hr with q | q
    · exact q
    · exact absurd q hn
  refine ⟨fun hn => (hnot hn).2, j, hj, ⟨o', ho⟩, ?_, fun k q p hk hq => ?_⟩
  · unfold putStep
    by_cases hm : (here, ahead) ∈ U
    · rw [if_pos hm]; exact x.hf.del hm
    · rw [if_neg hm]; exact x.hf.put (hnot hm).1 (hnot hm).2
  · have old := x.res k q p (by omega) hq
    obtain ⟨_, l, hl, o2, ho2⟩ := F.rank hq
    have n1 : q ≠ here := fun z => by
      subst z
      have := key_ix F.nd hq h
      omega
    have n2 : p ≠ here := fun z => by
      subst z
      have := key_ix F.nd ho2 h
      omega
    unfold putStep
    by_cases hm : (here, ahead) ∈ U
    · rw [if_pos hm]
      rcases old with ⟨q1, q2⟩ | q1
      · exact .inl ⟨q1, fun z => q2 (mem_del.mp z).1⟩
      · refine .inr (mem_del.mpr ⟨q1, fun z => ?_⟩)
        injection z with z1 z2
        exact n1 z1
    · rw [if_neg hm]
      rcases old with ⟨q1, q2⟩ | q1
      · refine .inl ⟨q1, fun z => ?_⟩
        rcases List.mem_append.mp z with z | z
        · exact q2 z
        · simp at z
          exact n1 z.2
      · exact .inr (List.mem_append_left _ q1)
theorem PW.end_ {U0 : List Eg} {fs : List (Pl × Option Pl)} (F : Fd Ed U0 fs) {i : Nat} (x : PW Ed v fs i here U) (h : fs[i]? = some (here, none)) : here = .beg ∧ Flow Ed (v + 1) U := by
  have hi : i = 0 := by
    rcases Nat.eq_zero_or_pos i with z | z
    · exact z
    · obtain ⟨p, e, _⟩ := F.par i here none h z
      cases e
  subst hi
  rw [F.hd] at h
  injection h with h
  injection h with h1 h2
  subst h1
  exact ⟨rfl, x.hf.done⟩
end

/-! ### coming to places: the inner loop -/
def addOne (here : Pl) (st : List (Pl × Option Pl) × List Pl) (q : Pl) : List (Pl × Option Pl) × List Pl :=
  if q ∈ st.1.map (·.1) then st else (st.1 ++ [(q, some here)], st.2 ++ [q])

/-- ahead of a turn of the outer loop: left are those whose next ones are not yet looked at -/
structure Bf (Ed : Pl → Pl → Prop) (U : List Eg) (fs : List (Pl × Option Pl)) (left : List Pl) : Prop where
  fd : Fd Ed U fs
  lf : ∀ p ∈ left, p ∈ fs.map (·.1)
  cl : ∀ p q, p ∈ fs.map (·.1) → p ∉ left → Res Ed U p q → q ∈ fs.map (·.1)
/-- within a turn: here is looked at, of its next ones those of done are in -/
structure Bi (Ed : Pl → Pl → Prop) (U : List Eg) (here : Pl) (done : List Pl) (fs : List (Pl × Option Pl)) (left : List Pl) : Prop where
  fd : Fd Ed U fs
  hr : here ∈ fs.map (·.1)
  lf : ∀ p ∈ left, p ∈ fs.map (·.1)
  cl : ∀ p q, p ∈ fs.map (·.1) → p ∉ left → p ≠ here → Res Ed U p q → q ∈ fs.map (·.1)
  dn : ∀ q ∈ done, q ∈ fs.map (·.1)
section
variable {Ed : Pl → Pl → Prop} {U : List Eg} {fs : List (Pl × Option Pl)} {left done : List Pl} {here q : Pl}
theorem Bf.start : Bf Ed U [(.beg, none)] [.beg] :=
  ⟨⟨rfl, by simp, fun i q o h hi => by
    cases i with
    | zero => omega
    | succ n => simp at h⟩, fun p hp => by simpa using hp, fun p q hp hn => by
      simp at hp hn
      exact absurd hp hn⟩
theorem Bf.pop (x : Bf Ed U fs (here :: left)) : Bi Ed U here [] fs left :=
  ⟨x.fd, x.lf here List.mem_cons_self, fun p hp => x.lf p (List.mem_cons_of_mem _ hp), fun p q hp hn hne hr => x.cl p q hp (fun z => by
    rcases List.mem_cons.mp z with z | z
    · exact hne z
    · exact hn z) hr, fun q hq => by simp at hq⟩
theorem Bi.add (x : Bi Ed U here done fs left) (hq : Res Ed U here q) : Bi Ed U here (done ++ [q]) (addOne here (fs, left) q).1 (addOne here (fs, left) q).2 := by
  unfold addOne
  by_cases hm : q ∈ fs.map (·.1)
  · rw [if_pos hm]
    refine ⟨x.fd, x.hr, x.lf, x.cl, fun p hp => ?_⟩
    rcases List.mem_append.mp hp with hp | hp
    · exact x.dn p hp
    · simp at hp
      rw [hp]
      exact hm
  · rw [if_neg hm]
    have hmap : (fs ++ [(q, some here)]).map (·.1) = fs.map (·.1) ++ [q] := by simp
    have hpos : 0 < fs.length := by
      have := (List.getElem?_eq_some_iff.mp x.fd.hd).1
      exact this
    refine ⟨⟨?_, ?_, ?_⟩, ?_, ?_, ?_, ?_⟩
    · rw [List.getElem?_append_left hpos]
      exact x.fd.hd
    · rw [hmap]
      exact nodup_snoc x.fd.nd hm
    · intro i p o h hi
      rcases Nat.lt_or_ge i fs.length with hl | hl
      · rw [List.getElem?_append_left hl] at h
        obtain ⟨p', e, r, j, hj, o', ho⟩ := x.fd.par i p o h hi
        exact ⟨p', e, r, j, hj, o', by rw [List.getElem?_append_left (show j < fs.length by omega)]; exact ho⟩
      · rw [List.getElem?_append_right hl] at h
        have hi0 : i - fs.length = 0 := by
          have := (List.getElem?_eq_some_iff.mp h).1
          simp at this
          omega
        rw [hi0] at h
        simp at h
        obtain ⟨j, hj⟩ := List.mem_iff_getElem?.mp x.hr
        rw [List.getElem?_map] at hj
        cases hf : fs[j]? with
        | none => rw [hf] at hj; simp at hj
        | some y =>
          rw [hf] at hj
          simp at hj
          have hjl : j < fs.length := (List.getElem?_eq_some_iff.mp hf).1
          exact ⟨here, h.2.symm, by rw [← h.1]; exact hq, j, by have hl' : fs.length ≤ i := hl; omega, y.2, by
            rw [List.getElem?_append_left hjl, hf, ← hj]⟩
    · rw [hmap]
      exact List.mem_append_left _ x.hr
    · intro p hp
      rw [hmap]
      rcases List.mem_append.mp hp with hp | hp
      · exact List.mem_append_left _ (x.lf p hp)
      · exact List.mem_append_right _ hp
    · intro p r hp hn hne hr
      rw [hmap] at hp ⊢
      rcases List.mem_append.mp hp with hp | hp
      · exact List.mem_append_left _ (x.cl p r hp (fun z => hn (List.mem_append_left _ z)) hne hr)
      · exact absurd (List.mem_append_right _ hp) hn
    · intro p hp
      rw [hmap]
      rcases List.mem_append.mp hp with hp | hp
      · exact List.mem_append_left _ (x.dn p hp)
      · exact List.mem_append_right _ hp
theorem Bi.over (x : Bi Ed U here done fs left) (h : ∀ q, Res Ed U here q → q ∈ done) : Bf Ed U fs left :=
  ⟨x.fd, x.lf, fun p q hp hn hr => by
    by_cases hne : p = here
    · subst hne
      exact x.dn q (h q hr)
    · exact x.cl p q hp hn hne hr⟩
theorem Bf.closed (x : Bf Ed U fs []) : Closed Ed U (fs.map (·.1)) := fun p q hp hr => x.cl p q hp (by simp) hr

/-- a list without doubles within another one is no longer -/
theorem nodup_le {α : Type} [DecidableEq α] : ∀ {l m : List α}, l.Nodup → (∀ x ∈ l, x ∈ m) → l.length ≤ m.length
  | [], _, _, _ => Nat.zero_le _
  | a :: l, m, hn, hs => by
    rw [List.nodup_cons] at hn
    have ha : a ∈ m := hs a List.mem_cons_self
    have hl : l.length ≤ (m.erase a).length := nodup_le hn.2 fun x hx => (List.mem_erase_of_ne (fun z : x = a => hn.1 (z ▸ hx))).mpr (hs x (List.mem_cons_of_mem _ hx))
    rw [List.length_erase_of_mem ha] at hl
    have : 0 < m.length := List.length_pos_of_mem ha
    simp only [List.length_cons]
    omega
/-- the measure of the outer loop -/
theorem addOne_meas (fs : List (Pl × Option Pl)) (left : List Pl) (q : Pl) : ((addOne here (fs, left) q).1 = fs ∧ (addOne here (fs, left) q).2 = left) ∨ ((addOne here (fs, left) q).1 = fs ++ [(q, some here)] ∧ (addOne here (fs, left) q).2 = left ++ [q]) := by
  unfold addOne
  by_cases hm : q ∈ fs.map (·.1)
  · rw [if_pos hm]; exact .inl ⟨rfl, rfl⟩
  · rw [if_neg hm]; exact .inr ⟨rfl, rfl⟩
end
end PM
namespace PM
/-! ### the floor's places -/
def Adj (ds : List (Int × Int)) (a b : Int) : Prop := (a, b) ∈ ds ∨ (b, a) ∈ ds
def Step (ds : List (Int × Int)) (a b : Int) : Prop := b = a ∨ Adj ds a b
/-- a floor's doors -/
structure Doors (rooms : Int) (ds : List (Int × Int)) : Prop where
  lo : 1 ≤ rooms
  hi : rooms ≤ 8
  ok : ∀ a b, (a, b) ∈ ds → 0 ≤ a ∧ a < b ∧ b < rooms
/-- rooms handed in: rising, one to four, in the floor -/
structure Rooms (rooms : Int) (xs : List Int) : Prop where
  lo : 1 ≤ xs.length
  hi : xs.length ≤ 4
  ri : xs.Pairwise (· < ·)
  ok : ∀ x ∈ xs, 0 ≤ x ∧ x < rooms
theorem Rooms.nd {rooms : Int} {xs : List Int} (h : Rooms rooms xs) : xs.Nodup := h.ri.imp fun h => by omega
/-- a question: a floor, first rooms and wanted ones -/
structure Ask (rooms : Int) (ds : List (Int × Int)) (first wanted : List Int) (T : Nat) : Prop where
  ds : Doors rooms ds
  fi : Rooms rooms first
  wa : Rooms rooms wanted
  le : first.length = wanted.length
  ti : T ≤ 8

def VP (rooms : Int) (T : Nat) : Pl → Prop
  | .beg => True
  | .fin => True
  | .spot r m i => (0 ≤ r ∧ r < rooms) ∧ (0 ≤ m ∧ m ≤ (T : Int)) ∧ (i = 0 ∨ i = 1)
def On (ds : List (Int × Int)) (first wanted : List Int) (T : Nat) : Pl → Pl → Prop
  | .beg, .spot r m i => r ∈ first ∧ m = 0 ∧ i = 0
  | .spot r m i, .fin => i ≠ 0 ∧ m = (T : Int) ∧ r ∈ wanted
  | .spot r m i, .spot r' m' i' => (i = 0 ∧ r' = r ∧ m' = m ∧ i' = 1) ∨ (i ≠ 0 ∧ m ≠ (T : Int) ∧ m' = m + 1 ∧ i' = 0 ∧ Step ds r r')
  | _, _ => False
def Ed (rooms : Int) (ds : List (Int × Int)) (first wanted : List Int) (T : Nat) (a b : Pl) : Prop := VP rooms T a ∧ On ds first wanted T a b

section
variable {rooms : Int} {ds : List (Int × Int)} {first wanted : List Int} {T : Nat}
theorem Step.in (hd : Doors rooms ds) {a b : Int} (h : Step ds a b) (ha : 0 ≤ a ∧ a < rooms) : 0 ≤ b ∧ b < rooms := by
  rcases h with h | h | h
  · rw [h]; exact ha
  · have := hd.ok _ _ h; omega
  · have := hd.ok _ _ h; omega
theorem Ed.vp (A : Ask rooms ds first wanted T) {a b : Pl} (h : Ed rooms ds first wanted T a b) : VP rooms T a ∧ VP rooms T b := by
  refine ⟨h.1, ?_⟩
  obtain ⟨hv, h⟩ := h
  cases a with
  | beg =>
    cases b with
    | spot r m i =>
      obtain ⟨h1, h2, h3⟩ := h
      subst h2; subst h3
      exact ⟨A.fi.ok r h1, ⟨by omega, by omega⟩, .inl rfl⟩
    | _ => exact h.elim
  | fin => exact h.elim
  | spot r m i =>
    obtain ⟨hr, hm, hi⟩ := hv
    cases b with
    | beg => exact h.elim
    | fin => trivial
    | spot r' m' i' =>
      rcases h with ⟨h1, h2, h3, h4⟩ | ⟨h1, h2, h3, h4, h5⟩
      · subst h2; subst h3; subst h4
        exact ⟨hr, hm, .inr rfl⟩
      · subst h3; subst h4
        exact ⟨h5.in A.ds hr, ⟨by omega, by omega⟩, .inl rfl⟩
theorem Ed.no_beg {a : Pl} (h : Ed rooms ds first wanted T a .beg) : False := by
  obtain ⟨_, h⟩ := h
  cases a <;> exact h
theorem Ed.no_fin {a : Pl} (h : Ed rooms ds first wanted T .fin a) : False := by
  obtain ⟨_, h⟩ := h
  cases a <;> exact h
theorem Res.vp (A : Ask rooms ds first wanted T) {U : List Eg} (hU : ∀ a b, (a, b) ∈ U → Ed rooms ds first wanted T a b) {a b : Pl} (h : Res (Ed rooms ds first wanted T) U a b) : VP rooms T b := by
  rcases h with ⟨h, _⟩ | h
  · exact (h.vp A).2
  · exact (hU _ _ h).1

/-! ### how much can flow -/
theorem ins_zero {U : List Eg} {p : Pl} (h : ∀ a, (a, p) ∉ U) : ins U p = 0 := by
  unfold ins
  refine List.countP_eq_zero.mpr fun e he => ?_
  simp only [decide_eq_true_eq]
  rintro rfl
  exact h e.1 he
theorem outs_zero {U : List Eg} {p : Pl} (h : ∀ a, (p, a) ∉ U) : outs U p = 0 := by
  unfold outs
  refine List.countP_eq_zero.mpr fun e he => ?_
  simp only [decide_eq_true_eq]
  rintro rfl
  exact h e.2 he
theorem Flow.ins_fin {v : Int} {U : List Eg} (F : Flow (Ed rooms ds first wanted T) v U) : (ins U .fin : Int) = v := by
  have h := F.ex .fin
  have h0 : outs U .fin = 0 := outs_zero fun a ha => (F.ed _ _ ha).no_fin
  unfold exc want at h
  rw [h0] at h
  simp at h
  omega
theorem Flow.outs_beg {v : Int} {U : List Eg} (F : Flow (Ed rooms ds first wanted T) v U) : (outs U .beg : Int) = v := by
  have h := F.ex .beg
  have h0 : ins U .beg = 0 := ins_zero fun a ha => (F.ed _ _ ha).no_beg
  unfold exc want at h
  rw [h0] at h
  simp at h
  omega
theorem Flow.beg_edges {v : Int} {U : List Eg} (F : Flow (Ed rooms ds first wanted T) v U) : ∀ e ∈ U.filter (fun e => decide (e.1 = .beg)), e ∈ first.map (fun r => ((.beg, .spot r 0 0) : Eg)) := by
  intro e he
  obtain ⟨h1, h2⟩ := List.mem_filter.mp he
  obtain ⟨a, b⟩ := e
  have h2 : a = .beg := of_decide_eq_true h2
  subst h2
  obtain ⟨_, h⟩ := F.ed _ _ h1
  cases b with
  | spot r m i =>
    obtain ⟨h3, h4, h5⟩ := h
    subst h4; subst h5
    exact List.mem_map.mpr ⟨r, h3, rfl⟩
  | _ => exact h.elim
theorem Flow.le {v : Int} {U : List Eg} (F : Flow (Ed rooms ds first wanted T) v U) : 0 ≤ v ∧ v ≤ (first.length : Int) := by
  have h1 := F.ins_fin
  have h2 := F.outs_beg
  have h3 : outs U .beg ≤ (first.map (fun r => ((.beg, .spot r 0 0) : Eg))).length := by
    unfold outs
    rw [List.countP_eq_length_filter]
    exact nodup_le (F.nd.sublist List.filter_sublist) F.beg_edges
  rw [List.length_map] at h3
  omega
/-- a full flow goes from each first room -/
theorem Flow.full {U : List Eg} (A : Ask rooms ds first wanted T) (F : Flow (Ed rooms ds first wanted T) first.length U) {r : Int} (hr : r ∈ first) : ((.beg, .spot r 0 0) : Eg) ∈ U := by
  have h2 := F.outs_beg
  refine Classical.byContradiction fun hn => ?_
  have h3 : outs U .beg ≤ ((first.map (fun r => ((.beg, .spot r 0 0) : Eg))).erase (.beg, .spot r 0 0)).length := by
    unfold outs
    rw [List.countP_eq_length_filter]
    refine nodup_le (F.nd.sublist List.filter_sublist) fun e he => ?_
    refine (List.mem_erase_of_ne fun z => ?_).mpr (F.beg_edges e he)
    exact hn (z ▸ (List.mem_filter.mp he).1)
  rw [List.length_erase_of_mem (List.mem_map.mpr ⟨r, hr, rfl⟩), List.length_map] at h3
  have := A.fi.lo
  omega

/-! ### a cut -/
theorem sum_in (U : List Eg) : ∀ S : List Pl, S.Nodup → (S.map (fun p => (ins U p : Int))).sum = (U.countP (fun e => decide (e.2 ∈ S)) : Int)
  | [], _ => by
    have : U.countP (fun e => decide (e.2 ∈ ([] : List Pl))) = 0 := List.countP_eq_zero.mpr fun e _ => by simp
    rw [this]; rfl
  | p :: S, hn => by
    rw [List.nodup_cons] at hn
    rw [List.map_cons, List.sum_cons, sum_in U S hn.2]
    have key : ∀ V : List Eg, V.countP (fun e => decide (e.2 ∈ p :: S)) = V.countP (fun e => decide (e.2 = p)) + V.countP (fun e => decide (e.2 ∈ S)) := by
      intro V
      induction V with
      | nil => rfl
      | cons e V ih =>
        rw [List.countP_cons, List.countP_cons, List.countP_cons, ih]
        by_cases h1 : e.2 = p
        · have h2 : e.2 ∉ S := fun z => hn.1 (h1 ▸ z)
          have h3 : e.2 ∈ p :: S := by rw [h1]; exact List.mem_cons_self
          simp only [decide_eq_true h1, decide_eq_false h2, decide_eq_true h3]
          simp
          omega
        · by_cases h2 : e.2 ∈ S
          · have h3 : e.2 ∈ p :: S := List.mem_cons_of_mem _ h2
            simp only [decide_eq_false h1, decide_eq_true h2, decide_eq_true h3]
            simp
            omega
          · have h3 : e.2 ∉ p :: S := fun z => (List.mem_cons.mp z).elim h1 h2
            simp only [decide_eq_false h1, decide_eq_false h2, decide_eq_false h3]
            simp
    rw [key]
    unfold ins
    omega
theorem sum_out (U : List Eg) : ∀ S : List Pl, S.Nodup → (S.map (fun p => (outs U p : Int))).sum = (U.countP (fun e => decide (e.1 ∈ S)) : Int)
  | [], _ => by
    have : U.countP (fun e => decide (e.1 ∈ ([] : List Pl))) = 0 := List.countP_eq_zero.mpr fun e _ => by simp
    rw [this]; rfl
  | p :: S, hn => by
    rw [List.nodup_cons] at hn
    rw [List.map_cons, List.sum_cons, sum_out U S hn.2]
    have key : ∀ V : List Eg, V.countP (fun e => decide (e.1 ∈ p :: S)) = V.countP (fun e => decide (e.1 = p)) + V.countP (fun e => decide (e.1 ∈ S)) := by
      intro V
      induction V with
      | nil => rfl
      | cons e V ih =>
        rw [List.countP_cons, List.countP_cons, List.countP_cons, ih]
        by_cases h1 : e.1 = p
        · have h2 : e.1 ∉ S := fun z => hn.1 (h1 ▸ z)
          have h3 : e.1 ∈ p :: S := by rw [h1]; exact List.mem_cons_self
          simp only [decide_eq_true h1, decide_eq_false h2, decide_eq_true h3]
          simp
          omega
        · by_cases h2 : e.1 ∈ S
          · have h3 : e.1 ∈ p :: S := List.mem_cons_of_mem _ h2
            simp only [decide_eq_false h1, decide_eq_true h2, decide_eq_true h3]
            simp
            omega
          · have h3 : e.1 ∉ p :: S := fun z => (List.mem_cons.mp z).elim h1 h2
            simp only [decide_eq_false h1, decide_eq_false h2, decide_eq_false h3]
            simp
    rw [key]
    unfold outs
    omega
theorem sum_exc (U : List Eg) : ∀ S : List Pl, (S.map (exc U)).sum = (S.map (fun p => (ins U p : Int))).sum - (S.map (fun p => (outs U p : Int))).sum
  | [] => rfl
  | p :: S => by
    rw [List.map_cons, List.sum_cons, sum_exc U S, List.map_cons, List.sum_cons, List.map_cons, List.sum_cons]
    unfold exc
    omega
theorem sum_want (v : Int) : ∀ S : List Pl, S.Nodup → Pl.fin ∉ S → (S.map (want v .fin)).sum = if Pl.beg ∈ S then -v else 0
  | [], _, _ => by simp
  | p :: S, hn, hf => by
    rw [List.nodup_cons] at hn
    have hf1 : p ≠ .fin := fun z => hf (by rw [z]; exact List.mem_cons_self)
    have hf2 : Pl.fin ∉ S := fun z => hf (List.mem_cons_of_mem _ z)
    rw [List.map_cons, List.sum_cons, sum_want v S hn.2 hf2]
    unfold want
    rw [if_neg hf1, if_neg hf1]
    by_cases h : p = .beg
    · subst h
      rw [if_pos rfl, if_neg hn.1, if_pos List.mem_cons_self]
      omega
    · rw [if_neg h]
      by_cases h2 : Pl.beg ∈ S
      · rw [if_pos h2, if_pos (List.mem_cons_of_mem _ h2)]
        omega
      · rw [if_neg h2, if_neg (fun z => (List.mem_cons.mp z).elim (fun z => h z.symm) h2)]
        omega
def crosses (S : List Pl) (e : Eg) : Bool := decide (e.1 ∈ S) && !decide (e.2 ∈ S)
theorem crossing {v : Int} {U : List Eg} (F : Flow (Ed rooms ds first wanted T) v U) {S : List Pl} (hn : S.Nodup) (hb : Pl.beg ∈ S) (hf : Pl.fin ∉ S) (hc : ∀ a b, (a, b) ∈ U → b ∈ S → a ∈ S) : (U.countP (crosses S) : Int) = v := by
  have h1 := sum_exc U S
  have h2 : S.map (exc U) = S.map (want v .fin) := List.map_congr_left fun p _ => F.ex p
  rw [h2, sum_want v S hn hf, if_pos hb, sum_in U S hn, sum_out U S hn] at h1
  have key : ∀ V : List Eg, (∀ a b, (a, b) ∈ V → b ∈ S → a ∈ S) → V.countP (fun e => decide (e.1 ∈ S)) = V.countP (fun e => decide (e.2 ∈ S)) + V.countP (crosses S) := by
    intro V
    induction V with
    | nil => intro _; rfl
    | cons e V ih =>
      intro hV
      rw [List.countP_cons, List.countP_cons, List.countP_cons, ih fun a b h => hV a b (List.mem_cons_of_mem _ h)]
      have he := hV e.1 e.2 List.mem_cons_self
      unfold crosses
      by_cases h2 : e.2 ∈ S
      · simp only [decide_eq_true (he h2), decide_eq_true h2]
        simp
        omega
      · by_cases h1 : e.1 ∈ S
        · simp only [decide_eq_true h1, decide_eq_false h2]
          simp
          omega
        · simp only [decide_eq_false h1, decide_eq_false h2]
          simp
  have := key U hc
  omega

def spotOf : Eg → Int × Int
  | (.spot r m _, .fin) => (r, m)
  | (_, .spot r m _) => (r, m)
  | _ => (0, 0)
/-- what parts the found from the rest -/
def Parts (rooms : Int) (ds : List (Int × Int)) (first wanted : List Int) (T : Nat) (S : List Pl) (c : Int × Int) : Prop := ∃ a b, a ∈ S ∧ b ∉ S ∧ Ed rooms ds first wanted T a b ∧ spotOf (a, b) = c

structure IsCut (rooms : Int) (ds : List (Int × Int)) (first wanted : List Int) (T : Nat) (cs : List (Int × Int)) : Prop where
  few : cs.length < first.length
  rise : cs.Pairwise fun x y => x.1 < y.1 ∨ (x.1 = y.1 ∧ x.2 < y.2)
  ok : ∀ c ∈ cs, (0 ≤ c.1 ∧ c.1 < rooms) ∧ (0 ≤ c.2 ∧ c.2 ≤ (T : Int))
  cut : ∀ w : Nat → Int, w 0 ∈ first → (∀ k, k < T → Step ds (w k) (w (k + 1))) → w T ∈ wanted → ∃ k, k ≤ T ∧ (w k, (k : Int)) ∈ cs

theorem isCut (A : Ask rooms ds first wanted T) {v : Int} {U : List Eg} (F : Flow (Ed rooms ds first wanted T) v U) (hv : v < (first.length : Int)) {fs : List (Pl × Option Pl)} (D : Fd (Ed rooms ds first wanted T) U fs)
    (hc : Closed (Ed rooms ds first wanted T) U (fs.map (·.1))) (hf : Pl.fin ∉ fs.map (·.1)) {cs : List (Int × Int)} (hr : cs.Pairwise fun x y => x.1 < y.1 ∨ (x.1 = y.1 ∧ x.2 < y.2))
    (hcs : ∀ c, c ∈ cs ↔ Parts rooms ds first wanted T (fs.map (·.1)) c) : IsCut rooms ds first wanted T cs := by
  have hb : Pl.beg ∈ fs.map (·.1) := List.mem_map.mpr ⟨_, List.mem_of_getElem? D.hd, rfl⟩
  have hU : ∀ a b, a ∈ fs.map (·.1) → b ∉ fs.map (·.1) → Ed rooms ds first wanted T a b → (a, b) ∈ U := fun a b h1 h2 h3 => by
    refine Classical.byContradiction fun hn => h2 (hc a b h1 (.inl ⟨h3, hn⟩))
  refine ⟨?_, hr, fun c hcm => ?_, fun w h0 hs hT => ?_⟩
  · have hcr := crossing F D.nd hb hf fun a b h1 h2 => hc b a h2 (.inr h1)
    have hle : cs.length ≤ ((U.filter (crosses (fs.map (·.1)))).map spotOf).length := by
      refine nodup_le (hr.imp fun {x y} h e => ?_) fun c hcm => ?_
      · subst e; omega
      · obtain ⟨a, b, h1, h2, h3, h4⟩ := (hcs c).mp hcm
        refine List.mem_map.mpr ⟨(a, b), List.mem_filter.mpr ⟨hU a b h1 h2 h3, ?_⟩, h4⟩
        unfold crosses
        rw [decide_eq_true h1, decide_eq_false h2]
        rfl
    rw [List.length_map, ← List.countP_eq_length_filter] at hle
    omega
  · obtain ⟨a, b, h1, h2, h3, h4⟩ := (hcs c).mp hcm
    obtain ⟨va, vb⟩ := h3.vp A
    obtain ⟨_, on⟩ := h3
    subst h4
    cases a with
    | beg =>
      cases b with
      | spot r m i => exact ⟨vb.1, vb.2.1⟩
      | _ => exact on.elim
    | fin => exact on.elim
    | spot r m i =>
      cases b with
      | beg => exact on.elim
      | fin => exact ⟨va.1, va.2.1⟩
      | spot r' m' i' => exact ⟨vb.1, vb.2.1⟩
  · refine Classical.byContradiction fun hno => ?_
    have hn : ∀ k, k ≤ T → (w k, (k : Int)) ∉ cs := fun k hk z => hno ⟨k, hk, z⟩
    have inn : ∀ k, k ≤ T → (0 ≤ w k ∧ w k < rooms) → Pl.spot (w k) k 0 ∈ fs.map (·.1) → Pl.spot (w k) k 1 ∈ fs.map (·.1) := fun k hk hr h => by
      refine Classical.byContradiction fun hx => hn k hk ((hcs _).mpr ⟨_, _, h, hx, ⟨⟨hr, ⟨by omega, by omega⟩, .inl rfl⟩, .inl ⟨rfl, rfl, rfl, rfl⟩⟩, rfl⟩)
    have all : ∀ k, k ≤ T → (0 ≤ w k ∧ w k < rooms) ∧ Pl.spot (w k) k 1 ∈ fs.map (·.1) := by
      intro k
      induction k with
      | zero =>
        intro hk
        have hr := A.fi.ok _ h0
        refine ⟨hr, inn 0 hk hr ?_⟩
        refine Classical.byContradiction fun hx => hn 0 hk ((hcs _).mpr ⟨.beg, _, hb, hx, ⟨trivial, ⟨h0, rfl, rfl⟩⟩, rfl⟩)
      | succ k ih =>
        intro hk
        obtain ⟨hr, hm⟩ := ih (by omega)
        have hst := hs k (by omega)
        have hr' := hst.in A.ds hr
        refine ⟨hr', inn (k + 1) hk hr' ?_⟩
        refine Classical.byContradiction fun hx => hn (k + 1) hk ((hcs _).mpr ⟨_, _, hm, hx, ⟨⟨hr, ⟨by omega, by omega⟩, .inr rfl⟩, .inr ⟨by decide, by omega, by omega, rfl, hst⟩⟩, rfl⟩)
    obtain ⟨hr, hm⟩ := all T (Nat.le_refl T)
    refine hn T (Nat.le_refl T) ((hcs _).mpr ⟨_, .fin, hm, hf, ⟨⟨hr, ⟨by omega, by omega⟩, .inr rfl⟩, ⟨by decide, rfl, hT⟩⟩, rfl⟩)
end
end PM
namespace PM
section
variable {rooms : Int} {ds : List (Int × Int)} {first wanted : List Int} {T : Nat}
/-! ### a way followed through a flow -/
theorem ins_pos {U : List Eg} {a p : Pl} (h : (a, p) ∈ U) : 0 < ins U p := List.countP_pos_iff.mpr ⟨_, h, by simp⟩
theorem outs_ex {U : List Eg} {p : Pl} (h : 0 < outs U p) : ∃ q, (p, q) ∈ U := by
  obtain ⟨e, he, h2⟩ := List.countP_pos_iff.mp h
  have h2 : e.1 = p := of_decide_eq_true h2
  exact ⟨e.2, h2 ▸ he⟩
theorem Flow.bal {v : Int} {U : List Eg} (F : Flow (Ed rooms ds first wanted T) v U) (r m i : Int) : ins U (.spot r m i) = outs U (.spot r m i) := by
  have h := F.ex (.spot r m i)
  unfold exc want at h
  simp at h
  omega
theorem Flow.goes {v : Int} {U : List Eg} (F : Flow (Ed rooms ds first wanted T) v U) {r m i : Int} {a : Pl} (h : (a, .spot r m i) ∈ U) : ∃ q, (Pl.spot r m i, q) ∈ U :=
  outs_ex (by rw [← F.bal]; exact ins_pos h)
/-- into a spot's first side there leads one alone -/
theorem Flow.one {v : Int} {U : List Eg} (F : Flow (Ed rooms ds first wanted T) v U) {r m : Int} {a b : Pl} (ha : (a, .spot r m 0) ∈ U) (hb : (b, .spot r m 0) ∈ U) : a = b := by
  refine Classical.byContradiction fun hne => ?_
  have h1 : outs U (.spot r m 0) ≤ 1 := by
    unfold outs
    rw [List.countP_eq_length_filter]
    refine nodup_le (m := [(Pl.spot r m 0, Pl.spot r m 1)]) (F.nd.sublist List.filter_sublist) fun e he => ?_
    obtain ⟨h1, h2⟩ := List.mem_filter.mp he
    obtain ⟨x, y⟩ := e
    have h2 : x = .spot r m 0 := of_decide_eq_true h2
    subst h2
    obtain ⟨_, h⟩ := F.ed _ _ h1
    cases y with
    | beg => exact h.elim
    | fin => exact absurd rfl h.1
    | spot r' m' i' =>
      rcases h with ⟨h1, h2, h3, h4⟩ | ⟨h1, _⟩
      · subst h2; subst h3; subst h4
        simp
      · exact absurd rfl h1
  have h2 : [(a, Pl.spot r m 0), (b, Pl.spot r m 0)].length ≤ (U.filter (fun e => decide (e.2 = .spot r m 0))).length := by
    refine nodup_le ?_ fun e he => ?_
    · simp [hne]
    · rcases List.mem_cons.mp he with z | z
      · rw [z]; exact List.mem_filter.mpr ⟨ha, by simp⟩
      · rcases List.mem_cons.mp z with z | z
        · rw [z]; exact List.mem_filter.mpr ⟨hb, by simp⟩
        · simp at z
  rw [← List.countP_eq_length_filter] at h2
  have h3 := F.bal r m 0
  unfold ins at h3
  rw [h3] at h2
  simp at h2
  omega

/-- told: the rooms so far, here: the place come to -/
structure Tr (U : List Eg) (T : Nat) (room : Int) (told : List Int) (here : Pl) : Prop where
  st : ∀ r, told[0]? = some r → r = room
  c0 : ∀ (k : Nat) r, told[k]? = some r → (Pl.spot r k 0, Pl.spot r k 1) ∈ U
  c1 : ∀ (k : Nat) r r', told[k]? = some r → told[k + 1]? = some r' → (Pl.spot r k 1, Pl.spot r' ((k + 1 : Nat) : Int) 0) ∈ U
  hr : (∃ r : Int, here = .spot r told.length 0 ∧ (told = [] → r = room) ∧ (∀ (k : Nat) q, k + 1 = told.length → told[k]? = some q → (Pl.spot q k 1, here) ∈ U) ∧ ∃ a, (a, here) ∈ U) ∨
    (∃ (r : Int) (k : Nat), k + 1 = told.length ∧ told[k]? = some r ∧ here = .spot r k 1) ∨ (here = .fin ∧ told.length = T + 1 ∧ ∃ r, told[T]? = some r ∧ (Pl.spot r T 1, .fin) ∈ U)
theorem Tr.start {U : List Eg} {room : Int} (h : ((.beg, .spot room 0 0) : Eg) ∈ U) : Tr U T room [] (.spot room 0 0) :=
  ⟨fun r h => by simp at h, fun k r h => by simp at h, fun k r r' h => by simp at h, .inl ⟨room, rfl, fun _ => rfl, fun k q h => by simp at h, _, h⟩⟩
theorem snoc_get {α : Type} {l : List α} {x y : α} {k : Nat} (h : (l ++ [x])[k]? = some y) : (k < l.length ∧ l[k]? = some y) ∨ (k = l.length ∧ x = y) := by
  rcases Nat.lt_or_ge k l.length with hl | hl
  · rw [List.getElem?_append_left hl] at h
    exact .inl ⟨hl, h⟩
  · rw [List.getElem?_append_right hl] at h
    have hk := (List.getElem?_eq_some_iff.mp h).1
    simp at hk
    have e : k = l.length := by omega
    subst e
    simp at h
    exact .inr ⟨rfl, h⟩
/-- at the first side of a spot: it is told, and the next place is its other side -/
theorem Tr.tell {v : Int} {U : List Eg} (F : Flow (Ed rooms ds first wanted T) v U) {room r m : Int} {told : List Int} (x : Tr U T room told (.spot r m 0)) :
    m = told.length ∧ told.length ≤ T ∧ (∃ q, (Pl.spot r m 0, q) ∈ U) ∧ ∀ q, (Pl.spot r m 0, q) ∈ U → Tr U T room (told ++ [r]) q := by
  rcases x.hr with ⟨r', e, h1, h2, a, h3⟩ | ⟨r', k, _, _, e⟩ | ⟨e, _⟩
  · injection e with e1 e2 _
    subst e1
    have hq := F.goes h3
    obtain ⟨q0, hq0⟩ := hq
    have hv := (F.ed _ _ hq0).1
    refine ⟨e2, by have := hv.2.1; omega, ⟨q0, hq0⟩, fun q hq => ?_⟩
    have hqe : q = .spot r m 1 := by
      obtain ⟨_, on⟩ := F.ed _ _ hq
      cases q with
      | beg => exact on.elim
      | fin => exact absurd rfl on.1
      | spot r' m' i' =>
        rcases on with ⟨_, z2, z3, z4⟩ | ⟨z, _⟩
        · rw [z2, z3, z4]
        · exact absurd rfl z
    subst hqe
    rw [e2] at hq h2 ⊢
    refine ⟨fun s hs => ?_, fun k s hs => ?_, fun k s s' hs hs' => ?_, .inr (.inl ⟨r, told.length, by simp, by simp, rfl⟩)⟩
    · rcases snoc_get hs with ⟨_, z⟩ | ⟨z1, z2⟩
      · exact x.st s z
      · rw [← z2]; exact h1 (List.length_eq_zero_iff.mp z1.symm)
    · rcases snoc_get hs with ⟨_, z⟩ | ⟨z1, z2⟩
      · exact x.c0 k s z
      · subst z1; subst z2; exact hq
    · rcases snoc_get hs with ⟨l1, z⟩ | ⟨z1, z2⟩
      · rcases snoc_get hs' with ⟨_, z'⟩ | ⟨z1', z2'⟩
        · exact x.c1 k s s' z z'
        · subst z2'
          rw [z1']
          exact h2 k s z1' z
      · rcases snoc_get hs' with ⟨l2, _⟩ | ⟨z1', _⟩ <;> omega
  · injection e with _ _ e
    exact absurd e (by decide)
  · exact nomatch e
/-- at the other side: the next spot, or the end -/
theorem Tr.go {v : Int} {U : List Eg} (F : Flow (Ed rooms ds first wanted T) v U) {room r m i : Int} {told : List Int} (x : Tr U T room told (.spot r m i)) (hi : i ≠ 0) :
    (∃ q, (Pl.spot r m i, q) ∈ U) ∧ ∀ q, (Pl.spot r m i, q) ∈ U → Tr U T room told q := by
  rcases x.hr with ⟨r', e, h1, h2, a, h3⟩ | ⟨r', k, hk, hr, e⟩ | ⟨e, _⟩
  · injection e with _ _ e3
    exact absurd e3 hi
  · injection e with e1 e2 e3
    subst e1; subst e2; subst e3
    refine ⟨F.goes (x.c0 k r hr), fun q hq => ?_⟩
    obtain ⟨va, on⟩ := F.ed _ _ hq
    cases q with
    | beg => exact on.elim
    | fin =>
      obtain ⟨_, z2, _⟩ := on
      have e : k = T := by omega
      subst e
      exact ⟨x.st, x.c0, x.c1, .inr (.inr ⟨rfl, hk.symm, r, hr, hq⟩)⟩
    | spot r' m' i' =>
      rcases on with ⟨z, _⟩ | ⟨_, z2, z3, z4, z5⟩
      · exact absurd z (by decide)
      · subst z4
        have e : m' = (told.length : Int) := by omega
        subst e
        refine ⟨x.st, x.c0, x.c1, .inl ⟨r', rfl, fun z => ?_, fun k' q' hk' hq' => ?_, _, hq⟩⟩
        · rw [z] at hk; simp at hk
        · have e : k' = k := by omega
          subst e
          rw [hr] at hq'
          cases hq'
          exact hq
  · exact nomatch e
/-- how far: the measure of the loop -/
theorem Tr.at_end {U : List Eg} {room : Int} {told : List Int} (x : Tr U T room told .fin) : told.length = T + 1 ∧ told[0]? = some room ∧ ∃ r, told[T]? = some r ∧ (Pl.spot r T 1, .fin) ∈ U := by
  rcases x.hr with ⟨_, e, _⟩ | ⟨_, _, _, _, e⟩ | ⟨_, h1, h2⟩
  · exact nomatch e
  · exact nomatch e
  · refine ⟨h1, ?_, h2⟩
    have hg : told[0]? = some (told[0]'(by omega)) := List.getElem?_eq_getElem _
    rw [hg, ← x.st _ hg]

/-- ways by porters and minutes -/
structure GW (rooms : Int) (ds : List (Int × Int)) (first wanted : List Int) (T : Nat) (W : Nat → Nat → Int) : Prop where
  fst : ∀ i, i < first.length → first[i]? = some (W i 0)
  stp : ∀ i k, i < first.length → k < T → Step ds (W i k) (W i (k + 1))
  rng : ∀ i k, i < first.length → k ≤ T → 0 ≤ W i k ∧ W i k < rooms
  dis : ∀ i j k, i < first.length → j < first.length → i ≠ j → k ≤ T → W i k ≠ W j k
  lst : ∀ i, i < first.length → W i T ∈ wanted

theorem getD_of {l : List Int} {k : Nat} (h : k < l.length) : l[k]? = some (l.getD k 0) := by
  rw [List.getD_eq_getElem?_getD, List.getElem?_eq_getElem h]
  rfl
theorem gw_of {v : Int} {U : List Eg} (A : Ask rooms ds first wanted T) (F : Flow (Ed rooms ds first wanted T) v U) {ws : List (List Int)} (hl : ws.length = first.length)
    (h : ∀ (i : Nat) room w, first[i]? = some room → ws[i]? = some w → Tr U T room w .fin) : GW rooms ds first wanted T (fun i k => (ws.getD i []).getD k 0) := by
  have h' : ∀ i, i < first.length → ∃ room, first[i]? = some room ∧ Tr U T room (ws.getD i []) .fin := fun i hi => by
    have e : ws[i]? = some (ws.getD i []) := by
      rw [List.getD_eq_getElem?_getD, List.getElem?_eq_getElem (by omega : i < ws.length)]
      rfl
    exact ⟨first[i], List.getElem?_eq_getElem hi, h i _ _ (List.getElem?_eq_getElem hi) e⟩
  have hed : ∀ i k, i < first.length → k ≤ T → (Pl.spot ((ws.getD i []).getD k 0) k 0, Pl.spot ((ws.getD i []).getD k 0) k 1) ∈ U := fun i k hi hk => by
    obtain ⟨room, _, x⟩ := h' i hi
    exact x.c0 k _ (getD_of (by have := x.at_end.1; omega))
  have hed1 : ∀ i k, i < first.length → k < T → (Pl.spot ((ws.getD i []).getD k 0) k 1, Pl.spot ((ws.getD i []).getD (k + 1) 0) ((k + 1 : Nat) : Int) 0) ∈ U := fun i k hi hk => by
    obtain ⟨room, _, x⟩ := h' i hi
    have := x.at_end.1
    exact x.c1 k _ _ (getD_of (by omega)) (getD_of (by omega))
  have hf : ∀ i, i < first.length → first[i]? = some ((ws.getD i []).getD 0 0) := fun i hi => by
    obtain ⟨room, e, x⟩ := h' i hi
    obtain ⟨h1, h2, _⟩ := x.at_end
    have := getD_of (l := ws.getD i []) (k := 0) (by omega)
    rw [h2] at this
    rw [e, this]
  refine ⟨hf, fun i k hi hk => ?_, fun i k hi hk => (F.ed _ _ (hed i k hi hk)).1.1, fun i j k hi hj hij => ?_, fun i hi => ?_⟩
  · obtain ⟨va, on⟩ := F.ed _ _ (hed1 i k hi hk)
    rcases on with ⟨z, _⟩ | ⟨_, _, _, _, z⟩
    · exact absurd z (by decide)
    · exact z
  · induction k with
    | zero =>
      intro _ e
      have e1 := hf i hi
      have e2 := hf j hj
      rw [← e, ← e1] at e2
      exact hij ((List.getElem?_inj hi A.fi.nd).mp e2.symm)
    | succ k ih =>
      intro hk e
      have e1 := hed1 i k hi (by omega)
      have e2 := hed1 j k hj (by omega)
      rw [← e] at e2
      have := F.one e1 e2
      injection this with this
      exact ih (by omega) this
  · obtain ⟨room, _, x⟩ := h' i hi
    obtain ⟨h1, _, r, h3, h4⟩ := x.at_end
    have := getD_of (l := ws.getD i []) (k := T) (by omega)
    rw [h3] at this
    injection this with this
    obtain ⟨_, on⟩ := F.ed _ _ h4
    rw [← this]
    exact on.2.2

/-! ### ways that exchange are set right -/
def swp (i j : Nat) (a : Nat) : Nat := if a = i then j else if a = j then i else a
theorem swp_inj {i j a b : Nat} (h : swp i j a = swp i j b) : a = b := by
  unfold swp at h
  split at h <;> split at h <;> (try split at h) <;> (try split at h) <;> omega
theorem swp_lt {i j a n : Nat} (hi : i < n) (hj : j < n) (ha : a < n) : swp i j a < n := by
  unfold swp
  split
  · exact hj
  · split
    · exact hi
    · exact ha
theorem swp_l (i j : Nat) : swp i j i = j := by unfold swp; rw [if_pos rfl]
theorem swp_r (i j : Nat) : swp i j j = i := by
  unfold swp
  by_cases h : j = i
  · rw [if_pos h, h]
  · rw [if_neg h, if_pos rfl]
theorem swp_o {i j a : Nat} (h1 : a ≠ i) (h2 : a ≠ j) : swp i j a = a := by unfold swp; rw [if_neg h1, if_neg h2]
/-- from minute k + 1 on i goes as j did, and j as i -/
def exch (W : Nat → Nat → Int) (i j k : Nat) : Nat → Nat → Int := fun a c => if c ≤ k then W a c else W (swp i j a) c
def moves (W : Nat → Nat → Int) (n c : Nat) : Nat := (List.range n).countP fun a => decide (W a c ≠ W a (c + 1))
def mv (W : Nat → Nat → Int) (n T : Nat) : Nat := ((List.range T).map (moves W n)).sum
/-- two that exchange -/
def Swap (W : Nat → Nat → Int) (i j k : Nat) : Prop := W i k ≠ W j k ∧ W i (k + 1) = W j k ∧ W j (k + 1) = W i k
theorem exch_gw {W : Nat → Nat → Int} (G : GW rooms ds first wanted T W) {i j k : Nat} (hi : i < first.length) (hj : j < first.length) (hk : k < T) (hs : Swap W i j k) : GW rooms ds first wanted T (exch W i j k) := by
  obtain ⟨s1, s2, s3⟩ := hs
  refine ⟨fun a ha => ?_, fun a c ha hc => ?_, fun a c ha hc => ?_, fun a b c ha hb hab hc => ?_, fun a ha => ?_⟩
  · unfold exch; rw [if_pos (Nat.zero_le _)]; exact G.fst a ha
  · unfold exch
    by_cases h1 : c + 1 ≤ k
    · rw [if_pos (by omega), if_pos h1]; exact G.stp a c ha hc
    · by_cases h2 : c ≤ k
      · have e : c = k := by omega
        subst e
        rw [if_pos h2, if_neg h1]
        by_cases e1 : a = i
        · subst e1; rw [swp_l]; exact .inl s3
        · by_cases e2 : a = j
          · subst e2; rw [swp_r]; exact .inl s2
          · rw [swp_o e1 e2]; exact G.stp a c ha hc
      · rw [if_neg h2, if_neg h1]; exact G.stp _ c (swp_lt hi hj ha) hc
  · unfold exch
    by_cases h2 : c ≤ k
    · rw [if_pos h2]; exact G.rng a c ha hc
    · rw [if_neg h2]; exact G.rng _ c (swp_lt hi hj ha) hc
  · unfold exch
    by_cases h2 : c ≤ k
    · rw [if_pos h2, if_pos h2]; exact G.dis a b c ha hb hab hc
    · rw [if_neg h2, if_neg h2]; exact G.dis _ _ c (swp_lt hi hj ha) (swp_lt hi hj hb) (fun z => hab (swp_inj z)) hc
  · unfold exch
    rw [if_neg (by omega)]
    exact G.lst _ (swp_lt hi hj ha)
theorem perm_of {l m : List Nat} (hl : l.Nodup) (hm : m.Nodup) (h : ∀ x, x ∈ l ↔ x ∈ m) : l.Perm m := by
  refine (List.perm_ext_iff_of_nodup hl hm).mpr h
theorem moves_swp (W : Nat → Nat → Int) {n i j : Nat} (c : Nat) (hi : i < n) (hj : j < n) : moves (fun a b => W (swp i j a) b) n c = moves W n c := by
  unfold moves
  have h : ((List.range n).map (swp i j)).Perm (List.range n) := by
    refine perm_of ?_ List.nodup_range fun x => ?_
    · exact List.Pairwise.map _ (fun a b h z => h (swp_inj z)) List.nodup_range
    · rw [List.mem_map, List.mem_range]
      constructor
      · rintro ⟨a, ha, rfl⟩
        exact swp_lt hi hj (List.mem_range.mp ha)
      · intro hx
        refine ⟨swp i j x, List.mem_range.mpr (swp_lt hi hj hx), ?_⟩
        by_cases e1 : x = i
        · subst e1; rw [swp_l, swp_r]
        · by_cases e2 : x = j
          · subst e2; rw [swp_r, swp_l]
          · rw [swp_o e1 e2, swp_o e1 e2]
  show List.countP ((fun a => decide (W a c ≠ W a (c + 1))) ∘ swp i j) (List.range n) = _
  rw [← List.countP_map, h.countP_eq]
theorem countP_le {l : List Nat} {f g : Nat → Bool} (h : ∀ a ∈ l, f a = true → g a = true) : l.countP f ≤ l.countP g := List.countP_mono_left h
theorem countP_lt {l : List Nat} {f g : Nat → Bool} (h : ∀ a ∈ l, f a = true → g a = true) {x : Nat} (hx : x ∈ l) (h1 : f x = false) (h2 : g x = true) : l.countP f < l.countP g := by
  induction l with
  | nil => simp at hx
  | cons a l ih =>
    rw [List.countP_cons, List.countP_cons]
    have hle := countP_le (l := l) fun b hb => h b (List.mem_cons_of_mem _ hb)
    rcases List.mem_cons.mp hx with e | e
    · subst e
      rw [h1, h2]
      simp
      omega
    · have := ih (fun b hb => h b (List.mem_cons_of_mem _ hb)) e
      have ha := h a List.mem_cons_self
      by_cases hf : f a = true
      · rw [hf, ha hf]; simp; omega
      · by_cases hg : g a = true
        · rw [if_neg hf, if_pos hg]; omega
        · rw [if_neg hf, if_neg hg]; omega
theorem sum_le {l : List Nat} {f g : Nat → Nat} (h : ∀ a ∈ l, f a ≤ g a) : (l.map f).sum ≤ (l.map g).sum := by
  induction l with
  | nil => exact Nat.le_refl _
  | cons a l ih =>
    rw [List.map_cons, List.sum_cons, List.map_cons, List.sum_cons]
    have h1 := ih fun b hb => h b (List.mem_cons_of_mem _ hb)
    have h2 := h a List.mem_cons_self
    omega
theorem sum_lt {l : List Nat} {f g : Nat → Nat} (h : ∀ a ∈ l, f a ≤ g a) {x : Nat} (hx : x ∈ l) (h1 : f x < g x) : (l.map f).sum < (l.map g).sum := by
  induction l with
  | nil => simp at hx
  | cons a l ih =>
    rw [List.map_cons, List.sum_cons, List.map_cons, List.sum_cons]
    have hle := sum_le (l := l) fun b hb => h b (List.mem_cons_of_mem _ hb)
    have h2 := h a List.mem_cons_self
    rcases List.mem_cons.mp hx with e | e
    · subst e; omega
    · have := ih (fun b hb => h b (List.mem_cons_of_mem _ hb)) e
      omega
theorem exch_mv {W : Nat → Nat → Int} {n i j k : Nat} (hi : i < n) (hj : j < n) (hk : k < T) (hs : Swap W i j k) : mv (exch W i j k) n T < mv W n T := by
  obtain ⟨s1, s2, s3⟩ := hs
  have hcol : ∀ c, c ≠ k → moves (exch W i j k) n c = moves W n c := fun c hc => by
    by_cases h : c < k
    · unfold moves
      refine List.countP_congr fun a _ => ?_
      unfold exch
      rw [if_pos (by omega), if_pos (by omega)]
    · rw [← moves_swp W c hi hj]
      unfold moves
      refine List.countP_congr fun a _ => ?_
      unfold exch
      rw [if_neg (by omega), if_neg (by omega)]
  have hkk : moves (exch W i j k) n k < moves W n k := by
    unfold moves
    have hz : ∀ a, (exch W i j k) a k = W a k := fun a => by unfold exch; rw [if_pos (Nat.le_refl k)]
    have hz1 : ∀ a, (exch W i j k) a (k + 1) = W (swp i j a) (k + 1) := fun a => by unfold exch; rw [if_neg (by omega)]
    refine countP_lt (x := i) (fun a _ h => ?_) (List.mem_range.mpr hi) ?_ ?_
    · rw [decide_eq_true_eq] at h ⊢
      rw [hz, hz1] at h
      by_cases e1 : a = i
      · subst e1; rw [swp_l] at h; exact absurd s3.symm h
      · by_cases e2 : a = j
        · subst e2; rw [swp_r] at h; exact absurd s2.symm h
        · rw [swp_o e1 e2] at h; exact h
    · rw [decide_eq_false_iff_not, hz, hz1, swp_l]
      exact fun z => z s3.symm
    · rw [decide_eq_true_eq, s2]
      exact s1
  unfold mv
  refine sum_lt (x := k) (fun c _ => ?_) (List.mem_range.mpr hk) hkk
  by_cases e : c = k
  · subst e; omega
  · exact Nat.le_of_eq (hcol c e)
theorem mv_le {W : Nat → Nat → Int} {n : Nat} : mv W n T ≤ T * n := by
  unfold mv
  have h : ∀ l : List Nat, (l.map (moves W n)).sum ≤ l.length * n := by
    intro l
    induction l with
    | nil => simp
    | cons a l ih =>
      rw [List.map_cons, List.sum_cons, List.length_cons, Nat.add_mul]
      have : moves W n a ≤ n := by
        unfold moves
        have := List.countP_le_length (p := fun b => decide (W b a ≠ W b (a + 1))) (l := List.range n)
        rw [List.length_range] at this
        exact this
      omega
  have := h (List.range T)
  rw [List.length_range] at this
  exact this

/-- one porter's row -/
def row (W : Nat → Nat → Int) (T i : Nat) : List Int := (List.range (T + 1)).map (W i)
theorem row_len (W : Nat → Nat → Int) (T i : Nat) : (row W T i).length = T + 1 := by unfold row; rw [List.length_map, List.length_range]
theorem row_get (W : Nat → Nat → Int) {T i k : Nat} (hk : k ≤ T) : (row W T i)[k]? = some (W i k) := by
  unfold row
  rw [List.getElem?_map, List.getElem?_range (by omega)]
  rfl
theorem row_none (W : Nat → Nat → Int) {T i k : Nat} (hk : T < k) : (row W T i)[k]? = none := by
  rw [List.getElem?_eq_none_iff, row_len]
  omega
theorem row_cut (W : Nat → Nat → Int) {T i j a k : Nat} (hk : k < T) (ha : ∀ c, k < c → exch W i j k a c = W (swp i j a) c) : (row W T a).take (k + 1) ++ (row W T (swp i j a)).drop (k + 1) = row (exch W i j k) T a := by
  refine List.ext_getElem? fun c => ?_
  by_cases h : c < k + 1
  · rw [List.getElem?_append_left (by rw [List.length_take, row_len]; omega), List.getElem?_take_of_lt h, row_get W (by omega), row_get _ (by omega)]
    unfold exch
    rw [if_pos (by omega)]
  · rw [List.getElem?_append_right (by rw [List.length_take, row_len]; omega), List.length_take, row_len, List.getElem?_drop, show k + 1 + (c - min (k + 1) (T + 1)) = c by omega]
    by_cases h2 : c ≤ T
    · rw [row_get _ h2, row_get _ h2, ha c (by omega)]
    · rw [row_none _ (by omega), row_none _ (by omega)]
theorem exch_row {W : Nat → Nat → Int} {T i j k a : Nat} (hk : k < T) : (row W T a).take (k + 1) ++ (row W T (swp i j a)).drop (k + 1) = row (exch W i j k) T a := row_cut W hk fun c hc => by
  unfold exch
  rw [if_neg (by omega)]
theorem exch_keep {W : Nat → Nat → Int} {T i j k a : Nat} (h1 : a ≠ i) (h2 : a ≠ j) : row (exch W i j k) T a = row W T a := by
  unfold row
  refine List.map_congr_left fun c _ => ?_
  unfold exch
  rw [swp_o h1 h2]
  split <;> rfl
/-- all rows -/
def rows (W : Nat → Nat → Int) (n T : Nat) : List (List Int) := (List.range n).map (row W T)
theorem rows_get (W : Nat → Nat → Int) {n T i : Nat} (hi : i < n) : (rows W n T)[i]? = some (row W T i) := by
  unfold rows
  rw [List.getElem?_map, List.getElem?_range hi]
  rfl
theorem rows_len (W : Nat → Nat → Int) (n T : Nat) : (rows W n T).length = n := by unfold rows; rw [List.length_map, List.length_range]
theorem rows_exch {W : Nat → Nat → Int} {n T i j k : Nat} (hi : i < n) (hj : j < n) (hij : i ≠ j) (hk : k < T) :
    ((rows W n T).set i ((row W T i).take (k + 1) ++ (row W T j).drop (k + 1))).set j ((row W T j).take (k + 1) ++ (row W T i).drop (k + 1)) = rows (exch W i j k) n T := by
  have e1 := exch_row (W := W) (T := T) (i := i) (j := j) (a := i) hk
  have e2 := exch_row (W := W) (T := T) (i := i) (j := j) (a := j) hk
  rw [swp_l] at e1
  rw [swp_r] at e2
  rw [e1, e2]
  refine List.ext_getElem? fun a => ?_
  by_cases ha : a < n
  · rw [rows_get _ ha]
    by_cases h2 : a = j
    · subst h2
      rw [List.getElem?_set_self (by rw [List.length_set, rows_len]; exact ha)]
    · rw [List.getElem?_set_ne (fun z => h2 z.symm)]
      by_cases h1 : a = i
      · subst h1
        rw [List.getElem?_set_self (by rw [rows_len]; exact ha)]
      · rw [List.getElem?_set_ne (fun z => h1 z.symm), rows_get _ ha, exch_keep h1 h2]
  · rw [List.getElem?_eq_none (by rw [List.length_set, List.length_set, rows_len]; omega), List.getElem?_eq_none (by rw [rows_len]; omega)]
theorem rows_of {ws : List (List Int)} {n T : Nat} (h1 : ws.length = n) (h2 : ∀ w ∈ ws, w.length = T + 1) : ws = rows (fun i k => (ws.getD i []).getD k 0) n T := by
  refine List.ext_getElem? fun a => ?_
  by_cases ha : a < n
  · rw [rows_get _ ha, List.getElem?_eq_getElem (by omega : a < ws.length)]
    congr 1
    have hw := h2 _ (List.getElem_mem (by omega : a < ws.length))
    have hg : ws.getD a [] = ws[a]'(by omega) := by
      rw [List.getD_eq_getElem?_getD, List.getElem?_eq_getElem (by omega : a < ws.length)]
      rfl
    refine List.ext_getElem? fun k => ?_
    by_cases hk : k ≤ T
    · rw [row_get _ hk, hg]
      exact getD_of (by omega)
    · rw [row_none _ (by omega), List.getElem?_eq_none (by omega)]
  · rw [List.getElem?_eq_none (by omega), List.getElem?_eq_none (by rw [rows_len]; omega)]
end
end PM
namespace PM
section
variable {rooms : Int} {ds : List (Int × Int)} {first wanted : List Int} {T : Nat}
/-- ways of which none exchange -/
structure Good (rooms : Int) (ds : List (Int × Int)) (first wanted : List Int) (T : Nat) (W : Nat → Nat → Int) : Prop extends GW rooms ds first wanted T W where
  ns : ∀ i j k, i < first.length → j < first.length → i ≠ j → k < T → ¬ Swap W i j k
def col (W : Nat → Nat → Int) (n k : Nat) : List Int := (List.range n).map fun i => W i k
def planOf (W : Nat → Nat → Int) (n T : Nat) : List (List Int) := (List.range (T + 1)).map (col W n)
def IsPlan (rooms : Int) (ds : List (Int × Int)) (first wanted : List Int) (T : Nat) (ps : List (List Int)) : Prop := ∃ W, Good rooms ds first wanted T W ∧ ps = planOf W first.length T
theorem col_len (W : Nat → Nat → Int) (n k : Nat) : (col W n k).length = n := by unfold col; rw [List.length_map, List.length_range]
theorem col_get (W : Nat → Nat → Int) {n k i : Nat} (hi : i < n) : (col W n k)[i]? = some (W i k) := by
  unfold col
  rw [List.getElem?_map, List.getElem?_range hi]
  rfl
theorem planOf_len (W : Nat → Nat → Int) (n T : Nat) : (planOf W n T).length = T + 1 := by unfold planOf; rw [List.length_map, List.length_range]
theorem planOf_get (W : Nat → Nat → Int) {n T k : Nat} (hk : k ≤ T) : (planOf W n T)[k]? = some (col W n k) := by
  unfold planOf
  rw [List.getElem?_map, List.getElem?_range (by omega)]
  rfl
/-- a minute more at the end -/
def later (T : Nat) (W : Nat → Nat → Int) : Nat → Nat → Int := fun i k => W i (min k T)
/-- a minute more at the beginning -/
def sooner (W : Nat → Nat → Int) : Nat → Nat → Int := fun i k => W i (k - 1)
theorem Good.later {W : Nat → Nat → Int} (G : Good rooms ds first wanted T W) {T' : Nat} (h : T ≤ T') : Good rooms ds first wanted T' (later T W) := by
  refine ⟨⟨fun i hi => ?_, fun i k hi hk => ?_, fun i k hi hk => ?_, fun i j k hi hj hij hk => ?_, fun i hi => ?_⟩, fun i j k hi hj hij hk => ?_⟩
  · unfold PM.later; rw [Nat.zero_min]; exact G.fst i hi
  · unfold PM.later
    by_cases h1 : k < T
    · rw [Nat.min_eq_left (by omega), Nat.min_eq_left (by omega)]; exact G.stp i k hi h1
    · rw [Nat.min_eq_right (by omega), Nat.min_eq_right (by omega)]; exact .inl rfl
  · exact G.rng i _ hi (Nat.min_le_right _ _)
  · exact G.dis i j _ hi hj hij (Nat.min_le_right _ _)
  · unfold PM.later; rw [Nat.min_eq_right h]; exact G.lst i hi
  · show ¬ (W i (min k T) ≠ W j (min k T) ∧ W i (min (k + 1) T) = W j (min k T) ∧ W j (min (k + 1) T) = W i (min k T))
    by_cases h1 : k < T
    · rw [Nat.min_eq_left (by omega), Nat.min_eq_left (by omega)]; exact G.ns i j k hi hj hij h1
    · rw [Nat.min_eq_right (by omega), Nat.min_eq_right (by omega)]
      rintro ⟨z1, z2, _⟩
      exact z1 z2
theorem Good.sooner {W : Nat → Nat → Int} (G : Good rooms ds first wanted T W) : Good rooms ds first wanted (T + 1) (sooner W) := by
  refine ⟨⟨fun i hi => G.fst i hi, fun i k hi hk => ?_, fun i k hi hk => G.rng i _ hi (by omega), fun i j k hi hj hij hk => G.dis i j _ hi hj hij (by omega), fun i hi => G.lst i hi⟩, fun i j k hi hj hij hk => ?_⟩
  · unfold PM.sooner
    cases k with
    | zero => exact .inl rfl
    | succ k => exact G.stp i k hi (by omega)
  · unfold PM.sooner Swap
    cases k with
    | zero =>
      rintro ⟨z1, z2, _⟩
      exact z1 z2
    | succ k => exact G.ns i j k hi hj hij (by omega)
theorem plan_later (W : Nat → Nat → Int) (n T : Nat) : planOf (later T W) n (T + 1) = planOf W n T ++ [col W n T] := by
  unfold planOf
  rw [List.range_succ, List.map_append]
  congr 1
  · refine List.map_congr_left fun k hk => ?_
    have := List.mem_range.mp hk
    unfold col later
    refine List.map_congr_left fun i _ => ?_
    rw [Nat.min_eq_left (by omega)]
  · unfold col later
    rw [List.map_singleton]
    congr 1
    refine List.map_congr_left fun i _ => ?_
    rw [Nat.min_eq_right (by omega)]
theorem plan_sooner (W : Nat → Nat → Int) (n T : Nat) : planOf (sooner W) n (T + 1) = col W n 0 :: planOf W n T := by
  unfold planOf
  rw [List.range_succ_eq_map, List.map_cons, List.map_map]
  rfl
theorem IsPlan.later {ps : List (List Int)} (h : IsPlan rooms ds first wanted T ps) : ∃ p, ps[T]? = some p ∧ IsPlan rooms ds first wanted (T + 1) (ps ++ [p]) := by
  obtain ⟨W, G, rfl⟩ := h
  exact ⟨_, planOf_get W (Nat.le_refl T), _, G.later (Nat.le_succ T), (plan_later W _ T).symm⟩
theorem IsPlan.sooner {ps : List (List Int)} (h : IsPlan rooms ds first wanted T ps) : ∃ p, ps[0]? = some p ∧ IsPlan rooms ds first wanted (T + 1) (p :: ps) := by
  obtain ⟨W, G, rfl⟩ := h
  exact ⟨_, planOf_get W (Nat.zero_le T), _, G.sooner, (plan_sooner W _ T).symm⟩
theorem no_both {W : Nat → Nat → Int} (G : GW rooms ds first wanted T W) {cs : List (Int × Int)} (C : IsCut rooms ds first wanted T cs) : False := by
  have h : ∀ i, i < first.length → ∃ k, k ≤ T ∧ (W i k, (k : Int)) ∈ cs := fun i hi => C.cut (W i) (List.mem_of_getElem? (G.fst i hi)) (fun k hk => G.stp i k hi hk) (G.lst i hi)
  have hk : ∀ i, ∃ k : Nat, i < first.length → k ≤ T ∧ (W i k, (k : Int)) ∈ cs := fun i => by
    by_cases hi : i < first.length
    · obtain ⟨k, hk⟩ := h i hi
      exact ⟨k, fun _ => hk⟩
    · exact ⟨0, fun z => absurd z hi⟩
  let f : Nat → Int × Int := fun i => (W i (Classical.choose (hk i)), ((Classical.choose (hk i) : Nat) : Int))
  have hf : ∀ i, i < first.length → f i ∈ cs := fun i hi => (Classical.choose_spec (hk i) hi).2
  have hle : ((List.range first.length).map f).length ≤ cs.length := by
    refine nodup_le ?_ fun x hx => ?_
    · refine List.pairwise_map.mpr ?_
      refine List.Pairwise.imp_of_mem (R := fun a b => a ≠ b) (fun {a b} ha hb hab e => ?_) List.nodup_range
      have ha := List.mem_range.mp ha
      have hb := List.mem_range.mp hb
      injection e with e1 e2
      have e2' : Classical.choose (hk a) = Classical.choose (hk b) := by omega
      rw [← e2'] at e1
      exact G.dis a b _ ha hb hab (Classical.choose_spec (hk a) ha).1 e1
    · obtain ⟨i, hi, rfl⟩ := List.mem_map.mp hx
      exact hf i (List.mem_range.mp hi)
  rw [List.length_map, List.length_range] at hle
  have := C.few
  omega
theorem plan_cut {t : Nat} {ps : List (List Int)} {cs : List (Int × Int)} (h : IsPlan rooms ds first wanted t ps) (ht : t ≤ T) (C : IsCut rooms ds first wanted T cs) : False := by
  obtain ⟨W, G, _⟩ := h
  exact no_both (G.later ht).toGW C

/-! ### the last stand has just the wanted rooms -/
theorem sorted_eq : ∀ {l m : List Int}, l.Perm m → l.Pairwise (· ≤ ·) → m.Pairwise (· ≤ ·) → l = m
  | [], m, hp, _, _ => by rw [hp.symm.eq_nil]
  | a :: l, [], hp, _, _ => by have := hp.eq_nil; cases this
  | a :: l, b :: m, hp, h1, h2 => by
    rw [List.pairwise_cons] at h1 h2
    have hab : a = b := by
      have ha : a ∈ b :: m := hp.subset List.mem_cons_self
      have hb : b ∈ a :: l := hp.symm.subset List.mem_cons_self
      rcases List.mem_cons.mp ha with e | ha
      · exact e
      · rcases List.mem_cons.mp hb with e | hb
        · exact e.symm
        · have := h2.1 a ha
          have := h1.1 b hb
          omega
    subst hab
    rw [sorted_eq (List.Perm.cons_inv hp) h1.2 h2.2]
theorem perm_sub {l m : List Int} (hl : l.Nodup) (hm : m.Nodup) (hs : ∀ x ∈ l, x ∈ m) (hle : m.length ≤ l.length) : l.Perm m := by
  refine (List.perm_ext_iff_of_nodup hl hm).mpr fun x => ⟨hs x, fun hx => ?_⟩
  refine Classical.byContradiction fun hn => ?_
  have : (x :: l).length ≤ m.length := nodup_le (List.nodup_cons.mpr ⟨hn, hl⟩) fun y hy => by
    rcases List.mem_cons.mp hy with e | hy
    · rw [e]; exact hx
    · exact hs y hy
  simp only [List.length_cons] at this
  omega
theorem col_nd {W : Nat → Nat → Int} (G : GW rooms ds first wanted T W) {k : Nat} (hk : k ≤ T) : (col W first.length k).Nodup := by
  unfold col
  refine List.pairwise_map.mpr ?_
  refine List.Pairwise.imp_of_mem (R := fun a b => a ≠ b) (fun {a b} ha hb hab => ?_) List.nodup_range
  exact G.dis a b k (List.mem_range.mp ha) (List.mem_range.mp hb) hab hk
theorem col_rng {W : Nat → Nat → Int} (G : GW rooms ds first wanted T W) {k : Nat} (hk : k ≤ T) : ∀ x ∈ col W first.length k, 0 ≤ x ∧ x < rooms := fun x hx => by
  obtain ⟨i, hi, rfl⟩ := List.mem_map.mp hx
  exact G.rng i k (List.mem_range.mp hi) hk
theorem col_first {W : Nat → Nat → Int} (G : GW rooms ds first wanted T W) : col W first.length 0 = first := by
  refine List.ext_getElem? fun i => ?_
  by_cases hi : i < first.length
  · rw [col_get W hi, G.fst i hi]
  · rw [List.getElem?_eq_none (by rw [col_len]; omega), List.getElem?_eq_none (by omega)]
theorem col_last {W : Nat → Nat → Int} (A : Ask rooms ds first wanted T) (G : GW rooms ds first wanted T W) {l : List Int} (hp : l.Perm (col W first.length T)) (hs : l.Pairwise (· ≤ ·)) : l = wanted := by
  refine sorted_eq (hp.trans (perm_sub (col_nd G (Nat.le_refl T)) A.wa.nd (fun x hx => ?_) ?_)) hs (A.wa.ri.imp fun h => by omega)
  · obtain ⟨i, hi, rfl⟩ := List.mem_map.mp hx
    exact G.lst i (List.mem_range.mp hi)
  · rw [col_len, A.le]
    exact Nat.le_refl _

/-! ### what can be come to by a way that meets none of the spots -/
def Reach (ds : List (Int × Int)) (first : List Int) (cs : List (Int × Int)) (m : Nat) (r : Int) : Prop :=
  ∃ w : Nat → Int, w 0 ∈ first ∧ (∀ k, k < m → Step ds (w k) (w (k + 1))) ∧ w m = r ∧ ∀ k, k ≤ m → (w k, (k : Int)) ∉ cs
theorem Reach.start {cs : List (Int × Int)} {r : Int} (h : r ∈ first) (hn : (r, (0 : Int)) ∉ cs) : Reach ds first cs 0 r :=
  ⟨fun _ => r, h, fun k hk => absurd hk (Nat.not_lt_zero k), rfl, fun k hk => by
    have : k = 0 := by omega
    subst this
    exact hn⟩
theorem Reach.step {cs : List (Int × Int)} {m : Nat} {r s : Int} (h : Reach ds first cs m r) (hs : Step ds r s) (hn : (s, ((m + 1 : Nat) : Int)) ∉ cs) : Reach ds first cs (m + 1) s := by
  obtain ⟨w, h0, h1, h2, h3⟩ := h
  refine ⟨fun k => if k ≤ m then w k else s, ?_, fun k hk => ?_, ?_, fun k hk => ?_⟩
  · show (if 0 ≤ m then w 0 else s) ∈ first
    rw [if_pos (Nat.zero_le m)]; exact h0
  · show Step ds (if k ≤ m then w k else s) (if k + 1 ≤ m then w (k + 1) else s)
    by_cases e : k + 1 ≤ m
    · rw [if_pos (by omega), if_pos e]; exact h1 k (by omega)
    · have e' : k = m := by omega
      subst e'
      rw [if_pos (Nat.le_refl k), if_neg e, h2]; exact hs
  · show (if m + 1 ≤ m then w (m + 1) else s) = s
    rw [if_neg (by omega)]
  · show (if k ≤ m then w k else s, (k : Int)) ∉ cs
    by_cases e : k ≤ m
    · rw [if_pos e]; exact h3 k e
    · have e' : k = m + 1 := by omega
      subst e'
      rw [if_neg e]; exact hn
theorem IsCut.no_reach {cs : List (Int × Int)} (C : IsCut rooms ds first wanted T cs) {r : Int} (h : Reach ds first cs T r) : r ∉ wanted := fun hw => by
  obtain ⟨w, h0, h1, h2, h3⟩ := h
  obtain ⟨k, hk, hc⟩ := C.cut w h0 h1 (by rw [h2]; exact hw)
  exact h3 k hk hc
end
end PM
set_option Elab.async false
set_option linter.all false
set_option maxRecDepth 100000
set_option maxHeartbeats 4000000
/-! dicts whose keys are texts and tuples, nested, mixed: the search -/
namespace PMD
open PySem PySem.Spec PyProof.Rows
open Sem (wp)

def VIs (h : Heap) (k : NestedKey) (v : Value) : Prop := NestedIs h k v ∧ k.depth ≤ 8
theorem VIs.inj {h : Heap} {x y : NestedKey} {v : Value} (a : VIs h x v) (b : VIs h y v) : x = y := NestedIs.inj _ _ _ a.1 b.1
def entV (w : World) (x : NestedKey × Value × Value) : DictEntry := ⟨x.1.hash w, x.2.1, x.2.2⟩
abbrev VE := List (NestedKey × Value × Value)
section
variable {prog : Program} {w : World} {A : Around} {E : Value → Shared → Prop} {s : Shared}

theorem v_at {es : Array DictEntry} {xs : VE} (he : es.toList = xs.map (entV w)) (j : Nat) : es[j]? = (xs[j]?).map (entV w) := by
  rw [← Array.getElem?_toList, he, List.getElem?_map]
theorem v_size {es : Array DictEntry} {xs : VE} (he : es.toList = xs.map (entV w)) : es.size = xs.length := by
  rw [← Array.length_toList, he, List.length_map]
theorem v_ix {xs : VE} (hn : (xs.map (·.1)).Nodup) {i j : Nat} {k : NestedKey} {p q : Value × Value} (hi : xs[i]? = some (k, p)) (hj : xs[j]? = some (k, q)) : i = j := by
  have hi' : (xs.map (·.1))[i]? = some k := by rw [List.getElem?_map, hi]; rfl
  have hj' : (xs.map (·.1))[j]? = some k := by rw [List.getElem?_map, hj]; rfl
  exact (List.getElem?_inj (List.getElem?_eq_some_iff.mp hi').1 hn).mp (hi'.trans hj'.symm)
theorem v_mem {es : Array DictEntry} {xs : VE} (he : es.toList = xs.map (entV w)) : ∀ e ∈ es, ∃ x ∈ xs, e = entV w x := by
  intro e hin
  have : e ∈ xs.map (entV w) := he ▸ Array.mem_toList_iff.mpr hin
  obtain ⟨x, hx, rfl⟩ := List.mem_map.mp this
  exact ⟨x, hx, rfl⟩
theorem quiet_v {k : NestedKey} {v : Value} {Q : Bool → Shared → Prop} (hk : VIs s.heap k v) (h : Q true s) : wpAny (model prog w) A (eqIsQuiet 8 v) Q E s := quiet_key k _ 8 s hk.1 hk.2 A E Q h
theorem eq_v {x y : NestedKey} {a b : Value} {Q : Bool → Shared → Prop} (hu : A.units + 8 < cLine) (hx : VIs s.heap x a) (hy : VIs s.heap y b) (h : Q (decide (x = y)) s) : wpAny (model prog w) A (eqBool a b) Q E s :=
  eqAt_key x y A s _ _ hx.1 hy.1 (by have := hx.2; omega) _ _ _ _ (by rw [← NestedKey.decide_eq]; exact h)
theorem hash_v {k : NestedKey} {v : Value} {Q : Int → Shared → Prop} (hu : A.units + 8 < cLine) (hk : VIs s.heap k v) (h : Q (k.hash w) { s with toks := s.toks + k.draws }) : wpAny (model prog w) A (pyHash v) Q E s :=
  pyHash_key _ _ _ _ _ hk.1 (by have := hk.2; omega) h

/-- asking the keys tells nothing -/
theorem tell_v {key : Value} {k : NestedKey} {stored : List Value} {Q : Bool → Shared → Prop} (hkey : VIs s.heap k key) (hst : ∀ v ∈ stored, ∃ k', VIs s.heap k' v) (h : Q false s) :
    wpAny (model prog w) A (tableMayTell key stored) Q E s := by
  unfold tableMayTell
  by_cases he : stored.isEmpty = true
  · rw [if_pos he]
    exact wpAny_pure h
  · rw [if_neg he]
    refine wpAny_bind (quiet_v hkey ?_)
    rw [if_neg (by decide)]
    refine wpAny_bind (wpAny_forIn_list _ (fun rest r s' => (s' = s ∧ r = (none, ())) ∧ ∀ v ∈ rest, ∃ k', VIs s.heap k' v) _ ?_ ?_ _ _ ⟨⟨rfl, rfl⟩, hst⟩)
    · intro v rest r s' hI
      obtain ⟨⟨e1, e2⟩, hr⟩ := hI
      subst e1; subst e2
      obtain ⟨k', hv⟩ := hr v (List.mem_cons_self ..)
      refine wpAny_bind (quiet_v hv ?_)
      rw [if_neg (by decide)]
      exact wpAny_pure ⟨⟨rfl, rfl⟩, fun u hu => hr u (List.mem_cons_of_mem _ hu)⟩
    · intro r s' hI
      obtain ⟨⟨e1, e2⟩, _⟩ := hI
      subst e1; subst e2
      exact wpAny_pure h

/-- what was asked so far: the places of done; hit: the place found -/
def Seen (xs : VE) (k : NestedKey) (done : List Nat) (hit : Option Nat) : Prop :=
  (hit = none ∧ ∀ j ∈ done, ∀ p, xs[j]? ≠ some (k, p)) ∨ ∃ j p, hit = some j ∧ xs[j]? = some (k, p) ∧ j ∈ done
theorem Seen.miss {xs : VE} {k : NestedKey} {done : List Nat} {hit : Option Nat} (x : Seen xs k done hit) {i : Nat} (h : ∀ p, xs[i]? ≠ some (k, p)) : Seen xs k (done ++ [i]) hit := by
  rcases x with ⟨e, hn⟩ | ⟨j, p, e, hj, hm⟩
  · refine .inl ⟨e, fun j hj => ?_⟩
    rcases List.mem_append.mp hj with hj | hj
    · exact hn j hj
    · rw [List.mem_singleton.mp hj]; exact h
  · exact .inr ⟨j, p, e, hj, List.mem_append_left _ hm⟩
/-- the places that bear the hash are all looked at -/
theorem Seen.all {es : Array DictEntry} {xs : VE} (he : es.toList = xs.map (entV w)) {k : NestedKey} {hit : Option Nat} (x : Seen xs k (placesWithHash es.size (fun i => es[i]?.map (·.hash)) (k.hash w)) hit) :
    (hit = none ∧ ∀ (j : Nat) (p : Value × Value), xs[j]? ≠ some (k, p)) ∨ ∃ j p, hit = some j ∧ xs[j]? = some (k, p) := by
  rcases x with ⟨e, hn⟩ | ⟨j, p, e, hj, _⟩
  · refine .inl ⟨e, fun j p hj => hn j ?_ p hj⟩
    have hl : j < es.size := by
      rw [v_size he]
      exact (List.getElem?_eq_some_iff.mp hj).1
    refine List.mem_filter.mpr ⟨List.mem_range.mpr hl, ?_⟩
    show ((es[j]?.map (·.hash)) == some (k.hash w)) = true
    rw [v_at he j, hj]
    exact beq_self_eq_true _
  · exact .inr ⟨j, p, e, hj⟩

/-- the search, whatever the key: a text or a tuple -/
theorem find_v {d : Addr} {key : Value} {o : Obj} {es : Array DictEntry} {ep : Nat} {xs : VE} {k : NestedKey} {Q : Option Nat → Shared → Prop} (hu : A.units + 8 < cLine) (hkey : VIs s.heap k key) (hs : (∃ a, key = .ref a) ∨ ∃ x t, key = .str x t)
    (ho : s.heap.get? d = some o) (hd : o.data = .dict es ep) (he : es.toList = xs.map (entV w)) (his : ∀ x ∈ xs, VIs s.heap x.1 x.2.1) (hn : (xs.map (·.1)).Nodup)
    (hnone : (∀ (j : Nat) (p : Value × Value), xs[j]? ≠ some (k, p)) → Q none s) (hsome : ∀ (j : Nat) (p : Value × Value), xs[j]? = some (k, p) → Q (some j) s) :
    wpAny (model prog w) A (dictFind d key (k.hash w)) Q E s := by
  generalize hP : placesWithHash es.size (fun i => es[i]?.map (·.hash)) (k.hash w) = P
  have hPl : ∀ i ∈ P, ∃ (k' : NestedKey) (u v : Value), xs[i]? = some (k', u, v) ∧ es[i]? = some ⟨k'.hash w, u, v⟩ ∧ VIs s.heap k' u ∧ (k'.hash w == k.hash w) = true := fun i hi => by
    rw [← hP] at hi
    obtain ⟨h1, h2⟩ := List.mem_filter.mp hi
    have hl : i < xs.length := by rw [← v_size he]; exact List.mem_range.mp h1
    have hx : xs[i]? = some xs[i] := List.getElem?_eq_getElem hl
    have hx2 : es[i]? = some (entV w xs[i]) := by rw [v_at he i, hx]; rfl
    refine ⟨xs[i].1, xs[i].2.1, xs[i].2.2, hx, hx2, his _ (List.getElem_mem hl), ?_⟩
    have h2 : ((es[i]?.map (·.hash)) == some (k.hash w)) = true := h2
    rw [hx2] at h2
    exact h2
  have hst : ∀ v ∈ P.filterMap (fun i => es[i]?.map (·.key)), ∃ k', VIs s.heap k' v := fun v hv => by
    obtain ⟨i, hi, e⟩ := List.mem_filterMap.mp hv
    obtain ⟨k', u, v', _, h2, h3, _⟩ := hPl i hi
    rw [h2] at e
    cases e
    exact ⟨k', h3⟩
  have hend : ∀ hit, Seen xs k P hit → Q hit s := fun hit x => by
    rw [← hP] at x
    rcases x.all he with ⟨e, hno⟩ | ⟨j, p, e, hj⟩
    · rw [e]; exact hnone hno
    · rw [e]; exact hsome j p hj
  have nil : Seen xs k [] none := .inl ⟨rfl, fun j hj => by simp at hj⟩
  have one : ∀ (i : Nat) (k' : NestedKey) (u v : Value), xs[i]? = some (k', u, v) → ¬ k' = k → ∀ p, xs[i]? ≠ some (k, p) := fun i k' u v h hne p hp => by
    rw [h] at hp
    cases hp
    exact hne rfl
  unfold dictFind
  try with_reducible refine wpAny_holding ?_
  refine wpAny_bind (wpAny_dictEntries ho hd ?_)
  dsimp only
  rw [hP]
  rcases hs with ⟨a, rfl⟩ | ⟨x0, t0, rfl⟩
  rotate_left
  dsimp only
  by_cases hstrs : (es.all fun e => isExactStrKey e.key) = true
  · rw [if_pos hstrs]
    have hk0 : k = .text x0 := by
      cases hkey.1
      rfl
    unfold foundByValue
    cases hf : es.findIdx? (fun e => e.key.isStr x0) with
    | none =>
      refine wpAny_pure (hnone fun j p hj => ?_)
      have hje : es[j]? = some (entV w (k, p)) := by rw [v_at he j, hj]; rfl
      have hno : p.1.isStr x0 = false := Array.findIdx?_eq_none_iff.mp hf _ (Array.mem_of_getElem? hje)
      have hv := (his _ (List.mem_of_getElem? hj)).1
      rw [hk0] at hv
      have hv : NestedIs s.heap (.text x0) p.1 := hv
      revert hno
      generalize p.1 = pv at hv
      cases hv
      simp [Value.isStr]
    | some i =>
      obtain ⟨hlt, hi, _⟩ := Array.findIdx?_eq_some_iff_getElem.mp hf
      have hx : xs[i]? = some (xs[i]'(by rw [← v_size he]; exact hlt)) := List.getElem?_eq_getElem _
      generalize xs[i]'(by rw [← v_size he]; exact hlt) = y at hx
      have hex : es[i]? = some (entV w y) := by rw [v_at he i, hx]; rfl
      have hei : es[i] = entV w y := by
        rw [Array.getElem?_eq_getElem hlt] at hex
        exact Option.some.inj hex
      rw [hei] at hi
      have hv := his y (List.mem_of_getElem? hx)
      have hkk : y.1 = k := by
        obtain ⟨k', u, v⟩ := y
        have hi2 : u.isStr x0 = true := hi
        have hv2 : NestedIs s.heap k' u := hv.1
        clear hi hv hei hex hx
        rw [hk0]
        cases hv2 with
        | text x t => rw [show x = x0 by simpa [Value.isStr] using hi2]
        | none => simp [Value.isStr] at hi2
        | bool _ => simp [Value.isStr] at hi2
        | int _ _ => simp [Value.isStr] at hi2
        | tup _ _ _ _ => simp [Value.isStr] at hi2
      simp only [hex]
      refine wpAny_bind (wpAny_dictEpoch ho hd (wpAny_bind (eq_v hu hv hkey (wpAny_bind (wpAny_dictEpoch ho hd ?_)))))
      rw [if_neg (by simp), decide_eq_true hkk]
      exact wpAny_bind (wpAny_rule (wpAny_pure (hsome i y.2 (by rw [hx, ← hkk]))))
  rw [if_neg hstrs]
  by_cases hall : ((Value.str x0 t0 :: P.filterMap fun i => es[i]?.map (·.key)).all carriedByValue) = true
  · rw [if_pos hall]
    unfold dictWalkPlain
    refine wpAny_bind (wpAny_forIn_list _ (fun rest b s' => (s' = s ∧ b = (none, ())) ∧ ∃ done, P = done ++ rest ∧ Seen xs k done none) _ ?_ ?_ _ _ ⟨⟨rfl, rfl⟩, [], rfl, nil⟩)
    · intro i rest b s' hI
      obtain ⟨⟨e1, e2⟩, done, hd1, hS⟩ := hI
      subst e1; subst e2
      obtain ⟨k', u, v, hx, hex, hv, hh⟩ := hPl i (by rw [hd1]; simp)
      simp only [hex]
      rw [if_pos hh]
      refine wpAny_bind (wpAny_dictEpoch ho hd (wpAny_bind (eq_v hu hv hkey (wpAny_bind (wpAny_dictEpoch ho hd ?_)))))
      rw [if_neg (by simp)]
      by_cases hkk : k' = k
      · rw [decide_eq_true hkk]
        exact wpAny_bind (wpAny_rule (wpAny_pure (wpAny_pure (hsome i (u, v) (by rw [hx, hkk])))))
      · rw [decide_eq_false hkk]
        exact wpAny_bind (wpAny_rule (wpAny_pure ⟨⟨rfl, rfl⟩, done ++ [i], by rw [hd1]; simp, hS.miss (one i k' u v hx hkk)⟩))
    · intro b s' hI
      obtain ⟨⟨e1, e2⟩, done, hd1, hS⟩ := hI
      subst e1; subst e2
      rw [List.append_nil] at hd1
      exact wpAny_pure (hend none (by rw [hd1]; exact hS))
  rw [if_neg hall]
  by_cases hone : ((P.filterMap fun i => es[i]?.map (·.key)) == [Value.str x0 t0]) = true <;> first
    | (rw [if_pos hone]; refine wpAny_bind (wpAny_pure ?_))
    | (rw [if_neg hone]; refine wpAny_bind (tell_v hkey hst ?_))
  rotate_left 2
  have h1 : ¬ ((Value.ref a :: P.filterMap (fun i => es[i]?.map (·.key))).all carriedByValue) = true := by
    rw [List.all_cons]
    exact Bool.false_ne_true
  have h2 : ¬ (es.any fun e => e.key == Value.ref a && e.hash != k.hash w) = true := by
    rw [← Array.any_toList, he, List.any_map, List.any_eq_true]
    rintro ⟨y, hy, hc⟩
    have hc : (y.2.1 == Value.ref a && y.1.hash w != k.hash w) = true := hc
    rw [Bool.and_eq_true, beq_iff_eq] at hc
    have hv := his y hy
    rw [hc.1] at hv
    rw [hv.inj hkey] at hc
    simp at hc
  dsimp only
  rw [if_neg h1, if_neg h2]
  by_cases hone : ((P.filterMap fun i => es[i]?.map (·.key)) == [Value.ref a]) = true <;> first
    | (rw [if_pos hone]; refine wpAny_bind (wpAny_pure ?_))
    | (rw [if_neg hone]; refine wpAny_bind (tell_v hkey hst ?_))
  all_goals
    rw [Bool.false_and, if_neg Bool.false_ne_true]
    refine wpAny_bind (wpAny_forIn_list _ (fun rest b s' => (s' = s ∧ b.1 = none) ∧ ∃ done, P = done ++ rest ∧ Seen xs k done b.2) _ ?_ ?_ _ _ ⟨⟨rfl, rfl⟩, [], rfl, nil⟩)
    · intro i rest b s' hI
      obtain ⟨b1, hit⟩ := b
      obtain ⟨⟨e1, e2⟩, done, hd1, hS⟩ := hI
      have e2 : b1 = none := e2
      subst e1; subst e2
      have hS : Seen xs k done hit := hS
      obtain ⟨k', u, v, hx, hex, hv, hh⟩ := hPl i (by rw [hd1]; simp)
      simp only [hex]
      rw [if_pos hh]
      refine wpAny_bind (wpAny_dictEpoch ho hd (wpAny_bind (eq_v hu hv hkey (wpAny_bind (wpAny_dictEpoch ho hd ?_)))))
      rw [if_neg (by simp)]
      by_cases hkk : k' = k
      · rw [decide_eq_true hkk]
        have hx' : xs[i]? = some (k, u, v) := by rw [hx, hkk]
        rcases hS with ⟨e, hno⟩ | ⟨j, p, e, hj, hm⟩
        · subst e
          first | rw [if_pos rfl] | skip
          simp only [Option.isSome_none, Bool.false_eq_true, if_false]
          refine wpAny_bind (wpAny_rule ?_)
          split
          · exact wpAny_pure (wpAny_pure (hsome i (u, v) hx'))
          · exact wpAny_pure ⟨⟨rfl, rfl⟩, done ++ [i], by rw [hd1]; simp, .inr ⟨i, (u, v), rfl, hx', by simp⟩⟩
        · have hji : j = i := v_ix hn hj hx'
          have hnd : P.Nodup := by
            rw [← hP]
            exact List.nodup_range.sublist List.filter_sublist
          rw [hd1, List.nodup_append] at hnd
          exact absurd hji (hnd.2.2 j hm i (List.mem_cons_self ..))
      · rw [decide_eq_false hkk]
        simp only [Bool.false_eq_true, if_false, Bool.false_and]
        exact wpAny_bind (wpAny_rule (wpAny_pure ⟨⟨rfl, rfl⟩, done ++ [i], by rw [hd1]; simp, hS.miss (one i k' u v hx hkk)⟩))
    · intro b s' hI
      obtain ⟨b1, hit⟩ := b
      obtain ⟨⟨e1, e2⟩, done, hd1, hS⟩ := hI
      have e2 : b1 = none := e2
      subst e1; subst e2
      rw [List.append_nil] at hd1
      exact wpAny_pure (hend hit (by rw [hd1]; exact hS))
end
end PMD
set_option Elab.async false
set_option linter.all false
set_option maxRecDepth 100000
set_option maxHeartbeats 4000000
/-! dicts whose keys are texts and tuples, nested, mixed: the rules -/
namespace PMD
open PySem PySem.Spec PyProof.Rows L2
open Sem (wp)

/-! ### keys in the abstract heap -/
mutual
inductive KIn (H : Hp) : NestedKey → V → Prop
  | num (i : Int) : KIn H (.num i) (.int i)
  | text (x : Str) : KIn H (.text x) (.str x)
  | tup {a : Addr} {vs : List V} {ks : List NestedKey} : H a = some (.tup vs) → KIns H ks vs → KIn H (.tup ks) (.ref a)
inductive KIns (H : Hp) : List NestedKey → List V → Prop
  | nil : KIns H [] []
  | cons {k : NestedKey} {v : V} {ks : List NestedKey} {vs : List V} : KIn H k v → KIns H ks vs → KIns H (k :: ks) (v :: vs)
end
mutual
theorem KIn.mono {H H' : Hp} (ht : ∀ b ys, H b = some (.tup ys) → H' b = some (.tup ys)) : ∀ (k : NestedKey) (v : V), KIn H k v → KIn H' k v
  | .num i, _, h => by cases h; exact .num i
  | .text x, _, h => by cases h; exact .text x
  | .none, _, h => by cases h
  | .tup ks, _, h => by
    cases h with
    | tup h1 h2 => exact .tup (ht _ _ h1) (KIns.mono ht ks _ h2)
theorem KIns.mono {H H' : Hp} (ht : ∀ b ys, H b = some (.tup ys) → H' b = some (.tup ys)) : ∀ (ks : List NestedKey) (vs : List V), KIns H ks vs → KIns H' ks vs
  | [], _, h => by cases h; exact .nil
  | k :: ks, _, h => by
    cases h with
    | cons h1 h2 => exact .cons (KIn.mono ht k _ h1) (KIns.mono ht ks _ h2)
end
mutual
theorem kin_is {P : Program} {w : World} {H : Hp} {h : Heap} (ok : HOk P w H h) : ∀ (k : NestedKey) (v : V) (u : Value), KIn H k v → RelV v u → NestedIs h k u
  | .num i, _, u, q, r => by
    cases q
    obtain ⟨t, rfl⟩ := r
    exact .int i t
  | .text x, _, u, q, r => by
    cases q
    obtain ⟨t, rfl⟩ := r
    exact .text x t
  | .none, _, _, q, _ => by cases q
  | .tup ks, _, u, q, r => by
    cases q with
    | @tup a vs _ h1 h2 =>
      obtain rfl : u = Value.ref a := r
      obtain ⟨_, its, rv, o, e1, e2, n, e3⟩ := ok a _ h1
      exact .tup e1 e2 e3 (kins_are ok ks vs its h2 rv)
theorem kins_are {P : Program} {w : World} {H : Hp} {h : Heap} (ok : HOk P w H h) : ∀ (ks : List NestedKey) (vs : List V) (us : List Value), KIns H ks vs → Vals vs us → NestedAll h ks us
  | [], _, us, q, r => by
    cases q
    cases r
    exact .nil
  | k :: ks, _, us, q, r => by
    cases q with
    | cons q1 q2 =>
      cases r with
      | cons r1 r2 => exact .cons (kin_is ok k _ _ q1 r1) (kins_are ok ks _ _ q2 r2)
end
theorem kin_shape {H : Hp} {k : NestedKey} {v : V} {u : Value} (h : KIn H k v) (hk : ∀ i, k ≠ .num i) (r : RelV v u) : (∃ a, u = .ref a) ∨ ∃ x t, u = .str x t := by
  cases h with
  | num i => exact absurd rfl (hk i)
  | text x => obtain ⟨t, rfl⟩ := r; exact .inr ⟨x, t, rfl⟩
  | @tup a vs ks h1 h2 => exact .inl ⟨a, r⟩

/-! ### the dict -/
abbrev ME := List (NestedKey × V × V)
/-- a key that may stand in such a dict -/
def KOk (H : Hp) (k : NestedKey) (v : V) : Prop := KIn H k v ∧ k.depth ≤ 8 ∧ ∀ i, k ≠ .num i
def KOks (H : Hp) (kvs : ME) : Prop := ∀ p ∈ kvs, KOk H p.1 p.2.1
theorem KOk.mono {H H' : Hp} (ht : ∀ b ys, H b = some (.tup ys) → H' b = some (.tup ys)) {k : NestedKey} {v : V} (h : KOk H k v) : KOk H' k v := ⟨h.1.mono ht, h.2⟩
theorem KOks.mono {H H' : Hp} (ht : ∀ b ys, H b = some (.tup ys) → H' b = some (.tup ys)) {kvs : ME} (h : KOks H kvs) : KOks H' kvs := fun p hp => (h p hp).mono ht
abbrev MRel (kvs : ME) (xs : VE) : Prop := Paired (fun (p : NestedKey × V × V) (x : NestedKey × Value × Value) => p.1 = x.1 ∧ RelV p.2.1 x.2.1 ∧ RelV p.2.2 x.2.2) kvs xs
def MAt (w : World) (d : Addr) (kvs : ME) (h : Heap) : Prop :=
  ((d == sysModules) = false ∧ kvs.length ≤ sizeLine ∧ (kvs.map (·.1)).Nodup) ∧ ∃ (o : Obj) (es : Array DictEntry) (ep : Nat) (xs : VE), h.get? d = some o ∧ o.ExactDict ∧ o.data = .dict es ep ∧ es.toList = xs.map (entV w) ∧ MRel kvs xs
def dmO (d : Addr) (w : World) (kvs : ME) : HO := .ext (MAt w d kvs)
theorem dm_ok {P : Program} {w : World} {H : Hp} {h : Heap} {d : Addr} {kvs : ME} (x : MAt w d kvs h) : ObjOk P w H h d (dmO d w kvs) :=
  ⟨x, (let ⟨_, o, _, _, _, e, _⟩ := x; ⟨o, e⟩), fun h1 h2 x1 k => let ⟨a, o, es, ep, xs, e, r⟩ := x1; ⟨a, o, es, ep, xs, k o e, r⟩⟩
theorem dm_rd {P : Program} {w : World} {H : Hp} {h : Heap} {d : Addr} {kvs : ME} (ok : HOk P w H h) (r : Rd H d (dmO d w kvs)) : MAt w d kvs h := (show ObjOk P w H h d (.ext (MAt w d kvs)) from r.ok ok).1
theorem mrel_keys {kvs : ME} {xs : VE} (r : MRel kvs xs) : kvs.map (·.1) = xs.map (·.1) := by
  induction r with
  | nil => rfl
  | cons h t ih => rw [List.map_cons, List.map_cons, ih, h.1]
theorem mrel_vis {P : Program} {w : World} {H : Hp} {h : Heap} (ok : HOk P w H h) {kvs : ME} {xs : VE} (r : MRel kvs xs) (hk : KOks H kvs) : ∀ x ∈ xs, VIs h x.1 x.2.1 := by
  induction r with
  | nil => intro x hx; simp at hx
  | @cons p y ps ys e t ih =>
    intro x hx
    rcases List.mem_cons.mp hx with z | z
    · subst z
      obtain ⟨k1, k2, _⟩ := hk p List.mem_cons_self
      refine ⟨?_, by rw [← e.1]; exact k2⟩
      rw [← e.1]
      exact kin_is ok _ _ _ k1 e.2.1
    · exact ih (fun q hq => hk q (List.mem_cons_of_mem _ hq)) x z
/-- what stands at a key -/
def lk (kvs : ME) (k : NestedKey) : Option V := (kvs.find? fun p => decide (p.1 = k)).map (·.2.2)
theorem lk_nil (k : NestedKey) : lk [] k = none := rfl
theorem lk_cons (p : NestedKey × V × V) (kvs : ME) (k : NestedKey) : lk (p :: kvs) k = if p.1 = k then some p.2.2 else lk kvs k := by
  unfold lk
  rw [List.find?_cons]
  by_cases h : p.1 = k
  · rw [if_pos h, decide_eq_true h]; rfl
  · rw [if_neg h, decide_eq_false h]
theorem lk_none {kvs : ME} {k : NestedKey} : lk kvs k = none ↔ k ∉ kvs.map (·.1) := by
  induction kvs with
  | nil => simp [lk_nil]
  | cons p kvs ih =>
    rw [lk_cons]
    by_cases h : p.1 = k
    · rw [if_pos h]; simp [h]
    · rw [if_neg h, ih, List.map_cons, List.mem_cons, not_or]
      exact ⟨fun x => ⟨fun z => h z.symm, x⟩, fun x => x.2⟩
theorem lk_get {kvs : ME} (hn : (kvs.map (·.1)).Nodup) : ∀ {j : Nat} {k : NestedKey} {kv v : V}, kvs[j]? = some (k, kv, v) → lk kvs k = some v := by
  induction kvs with
  | nil => intro j k kv v h; simp at h
  | cons p kvs ih =>
    intro j k kv v h
    rw [List.map_cons, List.nodup_cons] at hn
    rw [lk_cons]
    cases j with
    | zero =>
      simp at h
      rw [h, if_pos rfl]
    | succ j =>
      simp at h
      have : p.1 ≠ k := fun z => hn.1 (List.mem_map.mpr ⟨(k, kv, v), List.mem_of_getElem? h, z.symm⟩)
      rw [if_neg this]
      exact ih hn.2 h
def putM (kvs : ME) (k : NestedKey) (kv v : V) : ME := if k ∈ kvs.map (·.1) then kvs.map (fun p => if p.1 = k then (p.1, p.2.1, v) else p) else kvs ++ [(k, kv, v)]
def dropM (kvs : ME) (k : NestedKey) : ME := kvs.filter fun p => decide (p.1 ≠ k)
theorem putM_new {kvs : ME} {k : NestedKey} (h : k ∉ kvs.map (·.1)) (kv v : V) : putM kvs k kv v = kvs ++ [(k, kv, v)] := if_neg h

section
variable {prog : Program} {w : World} {A : Around} {E : Value → Shared → Prop} {s : Shared}
/-- how the search ends, by the abstract dict -/
theorem find_m {H : Hp} {d : Addr} {key : Value} {kvs : ME} {k : NestedKey} {x : V} {o : Obj} {es : Array DictEntry} {ep : Nat} {xs : VE} {Q : Option Nat → Shared → Prop} (ok : HOk prog w H s.heap) (hu : A.units + 8 < cLine)
    (hk : KOk H k x) (rx : RelV x key) (hks : KOks H kvs) (hn : (kvs.map (·.1)).Nodup) (ho : s.heap.get? d = some o) (hd : o.data = .dict es ep) (he : es.toList = xs.map (entV w)) (hr : MRel kvs xs)
    (hnone : lk kvs k = none → (∀ (j : Nat) (p : Value × Value), xs[j]? ≠ some (k, p)) → Q none s) (hsome : ∀ (j : Nat) (u v : Value) (y : V), lk kvs k = some y → RelV y v → xs[j]? = some (k, u, v) → Q (some j) s) :
    wpAny (model prog w) A (dictFind d key (k.hash w)) Q E s := by
  have hkeys := mrel_keys hr
  refine find_v hu ⟨kin_is ok _ _ _ hk.1 rx, hk.2.1⟩ (kin_shape hk.1 hk.2.2 rx) ho hd he (mrel_vis ok hr hks) (by rw [← hkeys]; exact hn) (fun hno => hnone (lk_none.mpr fun hm => ?_) hno) (fun j p hj => ?_)
  · rw [hkeys] at hm
    obtain ⟨y, hy, e⟩ := List.mem_map.mp hm
    obtain ⟨j, hj⟩ := List.mem_iff_getElem?.mp hy
    exact hno j y.2 (by rw [hj, ← e])
  · have hl : j < kvs.length := by
      have := (List.getElem?_eq_some_iff.mp hj).1
      have e : kvs.length = xs.length := Paired.length hr
      omega
    have hg : kvs[j]? = some kvs[j] := List.getElem?_eq_getElem hl
    obtain ⟨b, hb, e1, e2, e3⟩ := paired_get hr hg
    rw [hj] at hb
    cases hb
    exact hsome j p.1 p.2 kvs[j].2.2 (lk_get hn (kv := kvs[j].2.1) (by rw [hg]; have e1' : kvs[j].1 = k := e1; rw [← e1'])) e3 hj
theorem get_m {H : Hp} {d : Addr} {key : Value} {kvs : ME} {k : NestedKey} {x : V} {Q : Option Value → Shared → Prop} (ok : HOk prog w H s.heap) (hu : A.units + 8 < cLine) (hk : KOk H k x) (rx : RelV x key) (hks : KOks H kvs) (M : MAt w d kvs s.heap)
    (hnone : lk kvs k = none → ∀ t, Q none { s with toks := t }) (hsome : ∀ (v : Value) (y : V) t, lk kvs k = some y → RelV y v → Q (some v) { s with toks := t }) : wpAny (model prog w) A (dictGet d key) Q E s := by
  obtain ⟨⟨h1, h2, hn⟩, o, es, ep, xs, ho, hx, hd, he, hr⟩ := M
  unfold dictGet
  try with_reducible refine wpAny_holding ?_
  refine wpAny_bind (hash_v hu ⟨kin_is ok _ _ _ hk.1 rx, hk.2.1⟩ (wpAny_bind (find_m (s := { s with toks := s.toks + k.draws }) ok hu hk rx hks hn ho hd he hr (fun hn _ => wpAny_pure (hnone hn _)) fun j u v y hy ry hj => ?_)))
  refine wpAny_bind (wpAny_dictEntries (s := { s with toks := s.toks + k.draws }) ho hd ?_)
  rw [v_at he j, hj]
  exact wpAny_pure (hsome v y _ hy ry)
end

section
variable {X : Cx} {pins : List (Addr × Obj)} {σ : L2.St} {H : Hp} {s : Shared} {d : Addr} {kvs : ME} {k : NestedKey} {x : V} {u : Value} {A : Around} {E : Value → Shared → Prop}
theorem m_type {P : Program} {w : World} (ok : HOk P w H s.heap) (r : Rd H d (dmO d w kvs)) : s.TypeIs (.ref d) "dict" := let ⟨_, o, _, _, _, ho, hx, _⟩ := dm_rd ok r; ⟨o, ho, hx.1⟩
theorem m_in {Q : Value → Shared → Prop} (hu : A.units + 9 < cLine) (I : Inv X pins σ H s) (r : Rd H d (dmO d X.w kvs)) (hks : KOks H kvs) (hk : KOk H k x) (rx : RelV x u) (h : ∀ s', Inv X pins σ H s' → Q (.bool (lk kvs k).isSome) s') :
    wpAny (model X.prog X.w) A (compareOp .In u (.ref d)) Q E s := by
  have M := dm_rd I.hok r
  have hT := m_type I.hok r
  show wpAny _ _ (do return .bool (← contains (.ref d) u)) Q E s
  refine wpAny_bind ?_
  unfold contains
  try with_reducible refine wpAny_holding ?_
  refine wpAny_bind (wpAny_specialOf hT slot_dict_contains.lookup ?_)
  rw [if_neg (by rw [beq_builtin_none]; exact Bool.false_ne_true)]
  refine wpAny_bind (wpAny_callSpecialUnlessNone?_slot (name := Str.ofString "__contains__") hT slot_dict_contains (wpAny_call_entry slot_dict_contains hT entry_dict_contains ?_ (args_dict_contains _ _)))
  show wpAny _ _ (dictGet d u >>= _) _ _ s
  refine wpAny_bind (get_m I.hok (by rw [Around.in1_units]; omega) hk rx hks M (fun hn t => ?_) fun v y t hy _ => ?_)
  · rw [hn] at h
    show wpAny _ _ (Builtin.Dict.pendingKey? d u >>= _) _ _ _
    exact wpAny_bind (wpAny_pendingKey_other M.1.1 (wpAny_pure ⟨_, rfl, wpAny_truthy_bool (wpAny_pure (h _ (I.tok t)))⟩))
  · rw [hy] at h
    show wpAny _ _ (ret (.bool true)) _ _ _
    exact wpAny_pure ⟨_, rfl, wpAny_truthy_bool (wpAny_pure (h _ (I.tok t)))⟩
theorem m_notIn {Q : Value → Shared → Prop} (hu : A.units + 9 < cLine) (I : Inv X pins σ H s) (r : Rd H d (dmO d X.w kvs)) (hks : KOks H kvs) (hk : KOk H k x) (rx : RelV x u) (h : ∀ s', Inv X pins σ H s' → Q (.bool (!(lk kvs k).isSome)) s') :
    wpAny (model X.prog X.w) A (compareOp .NotIn u (.ref d)) Q E s := by
  have M := dm_rd I.hok r
  have hT := m_type I.hok r
  show wpAny _ _ (do return .bool (!(← contains (.ref d) u))) Q E s
  refine wpAny_bind ?_
  unfold contains
  try with_reducible refine wpAny_holding ?_
  refine wpAny_bind (wpAny_specialOf hT slot_dict_contains.lookup ?_)
  rw [if_neg (by rw [beq_builtin_none]; exact Bool.false_ne_true)]
  refine wpAny_bind (wpAny_callSpecialUnlessNone?_slot (name := Str.ofString "__contains__") hT slot_dict_contains (wpAny_call_entry slot_dict_contains hT entry_dict_contains ?_ (args_dict_contains _ _)))
  show wpAny _ _ (dictGet d u >>= _) _ _ s
  refine wpAny_bind (get_m I.hok (by rw [Around.in1_units]; omega) hk rx hks M (fun hn t => ?_) fun v y t hy _ => ?_)
  · rw [hn] at h
    show wpAny _ _ (Builtin.Dict.pendingKey? d u >>= _) _ _ _
    exact wpAny_bind (wpAny_pendingKey_other M.1.1 (wpAny_pure ⟨_, rfl, wpAny_truthy_bool (wpAny_pure (h _ (I.tok t)))⟩))
  · rw [hy] at h
    show wpAny _ _ (ret (.bool true)) _ _ _
    exact wpAny_pure ⟨_, rfl, wpAny_truthy_bool (wpAny_pure (h _ (I.tok t)))⟩
theorem m_get {y : V} {Q : Value → Shared → Prop} (hu : A.units + 9 < cLine) (I : Inv X pins σ H s) (r : Rd H d (dmO d X.w kvs)) (hks : KOks H kvs) (hk : KOk H k x) (rx : RelV x u) (hy : lk kvs k = some y) (h : ∀ v s', Inv X pins σ H s' → RelV y v → Q v s') :
    wpAny (model X.prog X.w) A (getItem (.ref d) u) Q E s := by
  have M := dm_rd I.hok r
  have hT := m_type I.hok r
  unfold getItem
  try with_reducible refine wpAny_holding ?_
  refine wpAny_bind (wpAny_sequenceKey hT (by decide) ?_)
  refine wpAny_bind (wpAny_callSpecial?_slot (name := Str.ofString "__getitem__") hT slot_dict_getitem (wpAny_call_entry slot_dict_getitem hT entry_dict_getitem ?_ (args_dict_getitem _ _)))
  show wpAny _ _ (dictGet d u >>= _) _ _ s
  refine wpAny_bind (get_m I.hok (by rw [Around.in1_units]; omega) hk rx hks M (fun hn t => ?_) fun v y' t hy' ry => ?_)
  · rw [hn] at hy
    cases hy
  · rw [hy] at hy'
    cases hy'
    exact wpAny_pure ⟨v, rfl, wpAny_pure (h v _ (I.tok t) ry)⟩
end
end PMD
set_option Elab.async false
set_option linter.all false
set_option maxRecDepth 100000
set_option maxHeartbeats 4000000
/-! dicts whose keys are texts and tuples, nested, mixed: stores and removals -/
namespace PMD
open PySem PySem.Spec PyProof.Rows L2
open Sem (wp)
theorem paired_snoc {kvs : ME} {xs : VE} (r : MRel kvs xs) {p : NestedKey × V × V} {y : NestedKey × Value × Value} (h : p.1 = y.1 ∧ L2.RelV p.2.1 y.2.1 ∧ L2.RelV p.2.2 y.2.2) : MRel (kvs ++ [p]) (xs ++ [y]) := Paired.snoc r h
theorem mrel_erase {kvs : ME} {xs : VE} (r : MRel kvs xs) : ∀ j : Nat, MRel (kvs.eraseIdx j) (xs.eraseIdx j) := by
  induction r with
  | nil => intro j; exact .nil
  | cons h t ih =>
    intro j
    cases j with
    | zero => exact t
    | succ j => exact .cons h (ih j)
theorem dropM_erase : ∀ {kvs : ME} {j : Nat} {k : NestedKey} {p : V × V}, (kvs.map (·.1)).Nodup → kvs[j]? = some (k, p) → dropM kvs k = kvs.eraseIdx j
  | [], j, k, p, _, h => by simp at h
  | q :: kvs, j, k, p, hn, h => by
    rw [List.map_cons, List.nodup_cons] at hn
    unfold dropM
    rw [List.filter_cons]
    cases j with
    | zero =>
      simp at h
      rw [h, if_neg (by simp)]
      show _ = kvs
      refine List.filter_eq_self.mpr fun y hy => decide_eq_true fun e => hn.1 ?_
      rw [h]
      exact List.mem_map.mpr ⟨y, hy, e⟩
    | succ j =>
      simp at h
      have hne : q.1 ≠ k := fun e => hn.1 (List.mem_map.mpr ⟨(k, p), List.mem_of_getElem? h, e.symm⟩)
      rw [if_pos (decide_eq_true hne)]
      have ih := dropM_erase hn.2 h
      unfold dropM at ih
      rw [ih]
      rfl
theorem nodup_dropM {kvs : ME} (k : NestedKey) (h : (kvs.map (·.1)).Nodup) : ((dropM kvs k).map (·.1)).Nodup := h.sublist (List.Sublist.map _ List.filter_sublist)
theorem dropM_len (kvs : ME) (k : NestedKey) : (dropM kvs k).length ≤ kvs.length := List.length_filter_le _ _
section
variable {X : Cx} {pins : List (Addr × Obj)} {σ : L2.St} {H : Hp} {s : Shared} {d : Addr} {kvs : ME} {k : NestedKey} {x : V} {u : Value} {A : Around} {E : Value → Shared → Prop}
/-- d[x] = y, a new key -/
theorem m_set {y : V} {r : Value} {Q : Unit → Shared → Prop} (hu : A.units + 9 < cLine) (I : Inv X pins σ H s) (e : H d = some (dmO d X.w kvs)) (hks : KOks H kvs) (hk : KOk H k x) (rx : L2.RelV x u) (ry : L2.RelV y r) (hz : kvs.length < sizeLine) (hnew : lk kvs k = none)
    (h : ∀ s', Inv X pins σ (upd H d (dmO d X.w (kvs ++ [(k, x, y)]))) s' → Q () s') : wpAny (model X.prog X.w) A (setItem (.ref d) u r) Q E s := by
  have M := dm_rd I.hok (.inl e)
  have hT := m_type I.hok (.inl e)
  obtain ⟨⟨h1, h2, hn⟩, o, es, ep, xs, ho, hx, hd, he, hr⟩ := M
  unfold setItem
  try with_reducible refine wpAny_holding ?_
  refine wpAny_bind (wpAny_sequenceKey hT (by decide) ?_)
  refine wpAny_bind (wpAny_callSpecial?_slot (name := Str.ofString "__setitem__") hT slot_dict_setitem (wpAny_call_entry slot_dict_setitem hT entry_dict_setitem ?_ (args_dict_setitem _ _ _)))
  show wpAny _ _ (Builtin.Dict.notOrdered "__setitem__" ⟨[.ref d, u, r], []⟩ >>= _) _ _ s
  refine wpAny_bind (wpAny_notOrdered_dict hT ?_)
  show wpAny _ _ (dictSet d u r >>= _) _ _ s
  have hu' : A.in1.units + 8 < cLine := by rw [Around.in1_units]; omega
  refine wpAny_bind ?_
  unfold dictSet
  try with_reducible refine wpAny_holding ?_
  refine wpAny_bind (hash_v hu' ⟨kin_is I.hok _ _ _ hk.1 rx, hk.2.1⟩ ?_)
  unfold dictSetHashed
  try with_reducible refine wpAny_holding ?_
  have hsz : es.size = kvs.length := by
    have e1 := v_size he
    have e2 : kvs.length = xs.length := Paired.length hr
    omega
  refine wpAny_bind (find_m (s := { s with toks := s.toks + k.draws }) I.hok hu' hk rx hks hn ho hd he hr (fun _ _ => ?_) fun j a b c hc _ _ => by rw [hnew] at hc; cases hc)
  refine wpAny_bind (wpAny_rule (wpAny_updateDictKeys (hz := by omega) (s := { s with toks := s.toks + k.draws }) ho hd ?_))
  refine wpAny_pure ⟨.none, rfl, wpAny_pure (h _ (d_write (t' := s.toks + k.draws) (I.tok (s.toks + k.draws)) (by rw [e]; exact True.intro) (Heap.SameBut.update ..) ⟨_, Heap.get?_update_self _ ho (Obj.isFreed_of_dict (Obj.data_mapDictKeys hd _))⟩ (dm_ok ?_)))⟩
  refine ⟨⟨h1, by rw [List.length_append]; simp only [List.length_cons, List.length_nil]; omega, ?_⟩, _, _, ep + 1, xs ++ [(k, u, r)], Heap.get?_update_self _ ho (Obj.isFreed_of_dict (Obj.data_mapDictKeys hd _)), hx.mapDictKeys _, Obj.data_mapDictKeys hd _, ?_, paired_snoc hr ⟨rfl, rx, ry⟩⟩
  · rw [List.map_append, List.nodup_append]
    refine ⟨hn, by simp, fun a ha b hb z => ?_⟩
    simp at hb
    rw [z, hb] at ha
    exact lk_none.mp hnew ha
  · rw [Array.toList_push, he, List.map_append]
    rfl
/-- d.pop(x), the key there -/
theorem m_pop {y : V} {Q : Value → Shared → Prop} (hu : A.units + 9 < cLine) (I : Inv X pins σ H s) (e : H d = some (dmO d X.w kvs)) (hks : KOks H kvs) (hk : KOk H k x) (rx : L2.RelV x u) (hy : lk kvs k = some y)
    (h : ∀ v s', Inv X pins σ (upd H d (dmO d X.w (dropM kvs k))) s' → L2.RelV y v → Q v s') : wpAny (model X.prog X.w) A (call (.builtin "dict.pop") [.ref d, u]) Q E s := by
  have M := dm_rd I.hok (.inl e)
  have hT := m_type I.hok (.inl e)
  obtain ⟨⟨h1, h2, hn⟩, o, es, ep, xs, ho, hx, hd, he, hr⟩ := M
  have hsz : es.size = kvs.length := by
    have e1 := v_size he
    have e2 : kvs.length = xs.length := Paired.length hr
    omega
  refine call_meetsIn PySem.F.slot_dict_pop hT PySem.F.entry_dict_pop (PySem.F.args_dict_pop_2 _ _)
    (S := fun A' R s' => A' = A ∧ s' = s ∧ ∀ v s2, Inv X pins σ (upd H d (dmO d X.w (dropM kvs k))) s2 → L2.RelV y v → R (.ok (.ret v)) s2) (.of_wp fun A' R s' hS => ?_) ⟨rfl, rfl, fun v s2 => h v s2⟩
  obtain ⟨rfl, rfl, hq⟩ := hS
  unfold Builtin.«dict.pop»
  refine wpAny_bind ?_
  unfold Builtin.Dict.keyAndDefault
  refine wpAny_bind (wpAny_notOrdered_dict hT ?_)
  show wpAny _ _ (pure (d, u, none)) _ _ _
  refine wpAny_pure ?_
  dsimp only
  have hu' : A'.in1.units + 8 < cLine := by rw [Around.in1_units]; omega
  obtain ⟨j0, hj0⟩ : ∃ j : Nat, es[j]? ≠ none := by
    cases hk0 : kvs with
    | nil => rw [hk0, lk_nil] at hy; cases hy
    | cons p r => exact ⟨0, fun z => by rw [Array.getElem?_eq_none_iff, hsz, hk0] at z; simp at z⟩
  have hemp : es.isEmpty = false := by
    cases hc : es.isEmpty with
    | false => rfl
    | true =>
      have h0 : es.size = 0 := by simpa using hc
      exact absurd (Array.getElem?_eq_none (by omega)) hj0
  by_cases hp : (keyPart u).isSome = true <;> first
    | (rw [if_pos hp]; refine wpAny_bind (wpAny_pure ?_))
    | (rw [if_neg hp]; refine wpAny_bind (wpAny_dictEntries ho hd ?_); rw [hemp]; refine wpAny_bind (wpAny_pure ?_))
  all_goals
    rw [if_neg Bool.false_ne_true]
    refine wpAny_bind ?_
    unfold Builtin.Dict.takeOut
    try with_reducible refine wpAny_holding ?_
    refine wpAny_bind (hash_v hu' ⟨kin_is I.hok _ _ _ hk.1 rx, hk.2.1⟩ ?_)
    refine wpAny_bind (find_m (s := { s' with toks := s'.toks + k.draws }) I.hok hu' hk rx hks hn ho hd he hr (fun hc _ => by rw [hc] at hy; cases hy) fun j a b c hc rc hj => ?_)
    have hcy : c = y := by
      rw [hc] at hy
      exact Option.some.inj hy
    subst hcy
    have hej : es[j]? = some (entV X.w (k, a, b)) := by rw [v_at he j, hj]; rfl
    have hkj : ∃ p, kvs[j]? = some (k, p) := by
      have hl : j < kvs.length := by
        have := (Array.getElem?_eq_some_iff.mp hej).1
        omega
      have hg : kvs[j]? = some kvs[j] := List.getElem?_eq_getElem hl
      obtain ⟨b', hb, e1, _⟩ := paired_get hr hg
      rw [hj] at hb
      cases hb
      exact ⟨kvs[j].2, by rw [hg]; have e1' : kvs[j].1 = k := e1; rw [← e1']⟩
    obtain ⟨pk, hkj⟩ := hkj
    refine wpAny_bind (wpAny_dictEntries (s := { s' with toks := s'.toks + k.draws }) ho hd ?_)
    rw [hej]
    refine wpAny_bind (wpAny_updateDictKeys (hz := by omega) (s := { s' with toks := s'.toks + k.draws }) ho hd (wpAny_pure ?_))
    simp only [Option.isNone_some, Bool.false_eq_true, if_false]
    refine wpAny_bind (wpAny_letGo (wpAny_pure ⟨b, rfl, hq b _ (d_write (t' := s'.toks + k.draws) I (by rw [e]; exact True.intro) (Heap.SameBut.update ..) ⟨_, Heap.get?_update_self _ ho (Obj.isFreed_of_dict (Obj.data_mapDictKeys hd _))⟩ (dm_ok ?_)) rc⟩))
    refine ⟨⟨h1, Nat.le_trans (dropM_len kvs k) h2, nodup_dropM k hn⟩, _, _, ep + 1, xs.eraseIdx j, Heap.get?_update_self _ ho (Obj.isFreed_of_dict (Obj.data_mapDictKeys hd _)), hx.mapDictKeys _, Obj.data_mapDictKeys hd _, ?_, ?_⟩
    · rw [map_eraseIdx, ← he]
      obtain ⟨l⟩ := es
      simp
    · rw [dropM_erase hn hkj]
      exact mrel_erase hr j
end
end PMD
set_option Elab.async false
set_option linter.all false
set_option maxRecDepth 100000
set_option maxHeartbeats 4000000
/-! dicts whose keys are texts and tuples, nested, mixed: the terms -/
namespace PMD
open PySem PySem.Spec PyProof.Rows L2
open Sem (wp)
def rInM (w : World) : R2 := fun x y H Q => ∃ (d : Addr) (kvs : ME) (k : NestedKey), y = .ref d ∧ Rd H d (dmO d w kvs) ∧ KOks H kvs ∧ KOk H k x ∧ Q (.bl (lk kvs k).isSome) H
def rNotInM (w : World) : R2 := fun x y H Q => ∃ (d : Addr) (kvs : ME) (k : NestedKey), y = .ref d ∧ Rd H d (dmO d w kvs) ∧ KOks H kvs ∧ KOk H k x ∧ Q (.bl (!(lk kvs k).isSome)) H
def rGetM (w : World) : R2 := fun x y H Q => ∃ (d : Addr) (kvs : ME) (k : NestedKey) (v : V), x = .ref d ∧ Rd H d (dmO d w kvs) ∧ KOks H kvs ∧ KOk H k y ∧ lk kvs k = some v ∧ Q v H
def rSetM (w : World) : TSet := fun o i v H Q => ∃ (d : Addr) (kvs : ME) (k : NestedKey), o = .ref d ∧ H d = some (dmO d w kvs) ∧ KOks H kvs ∧ KOk H k i ∧ kvs.length < sizeLine ∧ lk kvs k = none ∧ Q (upd H d (dmO d w (kvs ++ [(k, i, v)])))
def tMPop (w : World) (td ty : TE) : TE := fun σ H Q => td σ H fun x H1 => ∃ (d : Addr) (kvs0 : ME), x = .ref d ∧ H1 d = some (dmO d w kvs0) ∧ ty σ H1 fun y H2 => ∃ (kvs : ME) (k : NestedKey) (v : V), H2 d = some (dmO d w kvs) ∧ KOks H2 kvs ∧ KOk H2 k y ∧ lk kvs k = some v ∧ Q v (upd H2 d (dmO d w (dropM kvs k)))
section
variable {X : Cx}
theorem or_inM {k0 : Nat} (hr : Room k0 X.A) : OpR X (compareOp .In) (rInM X.w) := by
  intro pins s σ H x y v u Q I rx ry h
  obtain ⟨d, kvs, k, rfl, hd, hks, hk, q⟩ := h
  obtain rfl : u = Value.ref d := ry
  exact m_in (by have := hr.un; omega) I hd hks hk rx fun s' I' => ⟨.bl _, H, I', rfl, q⟩
theorem or_notInM {k0 : Nat} (hr : Room k0 X.A) : OpR X (compareOp .NotIn) (rNotInM X.w) := by
  intro pins s σ H x y v u Q I rx ry h
  obtain ⟨d, kvs, k, rfl, hd, hks, hk, q⟩ := h
  obtain rfl : u = Value.ref d := ry
  exact m_notIn (by have := hr.un; omega) I hd hks hk rx fun s' I' => ⟨.bl _, H, I', rfl, q⟩
theorem ix_m {k0 : Nat} (hr : Room k0 X.A) : IxR X (rGetM X.w) := by
  intro value slice pins s σ H x y v u Q I rx ry h hs
  obtain ⟨d, kvs, k, r, rfl, hd, hks, hk, e, q⟩ := h
  obtain rfl : v = Value.ref d := rx
  exact tail_any (m_type I.hok hd) slot_dict_getitem.lookup (m_get (by have := hr.un; omega) I hd hks hk ry e fun w' s' I' rw' => ⟨r, H, I', rw', q⟩) hs
theorem set_m {k0 : Nat} (hr : Room k0 X.A) : PSet X (rSetM X.w) := by
  intro pins s σ H o i v ov iv u Q I ro ri rv h
  obtain ⟨d, kvs, k, rfl, hd, hks, hk, hz, hn, q⟩ := h
  obtain rfl : ov = Value.ref d := ro
  exact m_set (by have := hr.un; omega) I hd hks hk ri rv hz hn fun s' I' => ⟨_, I', q⟩
theorem pe_mpop {k0 : Nat} {o e : Expr} {td ty : TE} {apos cpos : Pos} (hr : Room k0 X.A) (ho : PE X o td) (he : PE X e ty) (m : M1 X o "pop" apos e cpos) : PE X (.Call (.Attribute o "pop" apos) [e] [] cpos) (tMPop X.w td ty) := by
  refine ⟨fun pins s σ H Q I h => ?_⟩
  refine wpAny_Call_method m.base m.few m.line PySem.F.plainAttrs_dict PySem.F.slot_dict_pop PySem.F.type_dict_pop (thn (ho.run pins s σ H _ I h) fun u s1 ⟨x, H1, I1, rx, d, kvs0, ex, hd, q1⟩ => ?_)
  subst ex
  obtain rfl : u = Value.ref d := rx
  refine ⟨m_type I1.hok (.inl hd), fun b z => ?_, ?_⟩
  · cases z
    obtain ⟨_, ob, _, _, _, e1, e2, _⟩ := dm_rd I1.hok (.inl hd)
    exact ⟨ob, e1, e2.2.1⟩
  · rw [m.trees]
    refine Calls.callWith_builtin rfl (Calls.evalArgs_plain (Calls.spliced_cons (thn (he.run pins s1 σ H1 _ I1 q1) fun iv s2 ⟨y, H2, I2, ry, kvs, k, v, hd2, hks, hk, l, q2⟩ => Calls.spliced_nil ?_)))
    exact m_pop (by have := hr.un; omega) I2 hd2 hks hk ry l fun w' s3 I3 rw' => ⟨v, _, I3, rw', q2⟩

/-! ### a new dict told so -/
def txM (p : Str × V) : NestedKey × V × V := (.text p.1, .str p.1, p.2)
theorem text_rel {P : Program} {w : World} : ∀ {ts : List (Str × V)} {vs : List (L2.Key × Value)} {es : List DictEntry}, KV (ts.map fun p => (Sum.inr p.1, p.2)) vs → Pairs (mixKind P w) es vs → (∀ e ∈ es, ∃ k, (mixKind P w).is k e.key = true ∧ e.hash = (mixKind P w).hash k) →
    ∃ xs : VE, es = xs.map (entV w) ∧ MRel (ts.map txM) xs
  | [], _, es, r, pr, _ => by
    cases r
    cases pr
    exact ⟨[], rfl, .nil⟩
  | p :: ts, _, es, r, pr, hk => by
    cases r with
    | @cons _ q _ qs h t =>
      cases pr with
      | @cons e _ es' _ h1 h2 h3 =>
        obtain ⟨xs, e1, e2⟩ := text_rel t h3 (fun e he => hk e (List.mem_cons_of_mem _ he))
        obtain ⟨k', hk1, hk2⟩ := hk e (List.mem_cons_self ..)
        have hq : q.1 = Sum.inr p.1 := h.1.symm
        rw [hq] at h1
        have hkk : k' = Sum.inr p.1 := (mixKind P w).inj _ _ _ hk1 h1
        subst hkk
        obtain ⟨t0, e0⟩ := Value.isStrOf_shape (x := p.1) (v := e.key) h1
        refine ⟨(.text p.1, e.key, e.val) :: xs, ?_, .cons ⟨rfl, ?_, ?_⟩ e2⟩
        · rw [List.map_cons, ← e1]
          congr 1
          obtain ⟨eh, ek, ev⟩ := e
          have hk2 : eh = hashStr w p.1 := hk2
          rw [hk2]
          rfl
        · show L2.RelV (.str p.1) e.key
          exact ⟨t0, e0⟩
        · show L2.RelV p.2 e.val
          rw [h2]
          exact h.2
theorem txM_nodup {ts : List (Str × V)} (h : (ts.map fun p => ((Sum.inr p.1 : L2.Key))).Nodup) : ((ts.map txM).map (·.1)).Nodup := by
  rw [List.map_map]
  refine List.pairwise_map.mpr ((List.pairwise_map.mp h).imp fun {a b} hab e => hab ?_)
  have e : NestedKey.text a.1 = NestedKey.text b.1 := e
  injection e with e
  show (Sum.inr a.1 : L2.Key) = Sum.inr b.1
  rw [e]
/-- a dict of texts told as one of mixed keys -/
theorem m_of_text {P : Program} {w : World} {h : Heap} {d : Addr} {ts : List (Str × V)} {H' : Hp} (x : ObjOk P w H' h d (.dK (ts.map fun p => (Sum.inr p.1, p.2)))) : MAt w d (ts.map txM) h := by
  obtain ⟨z, hd, vs, r, o, es, ep, ho, hx, hdt, ko, pr, hn⟩ := x
  obtain ⟨xs, e1, e2⟩ := text_rel (P := P) (w := w) (es := es.toList) r pr fun e he => ko e (Array.mem_toList_iff.mp he)
  refine ⟨⟨hd, by rw [List.length_map] at z ⊢; exact z, ?_⟩, o, es, ep, xs, ho, hx, hdt, e1, e2⟩
  have hk := r.keys
  rw [← hk, List.map_map] at hn
  exact txM_nodup hn
/-- a new dict, its keys texts, told as one of mixed keys -/
def tAsM (w : World) (t : TE) : TE := fun σ H Q => t σ H fun v H1 => ∃ (p : Addr) (ts : List (Str × V)), v = .ref p ∧ H1 p = some (.dK (ts.map fun p => (Sum.inr p.1, p.2))) ∧ Q v (upd H1 p (dmO p w (ts.map txM)))
theorem pe_asM {e : Expr} {t : TE} (h : PE X e t) : PE X e (tAsM X.w t) := by
  refine ⟨fun pins s σ H Q I q => ?_⟩
  refine thn (h.run pins s σ H _ I q) fun u s1 ⟨v, H1, I1, rv, p, ts, ev, hp, q1⟩ => ?_
  have M := m_of_text (ts := ts) (I1.hok p _ hp)
  refine ⟨v, _, ?_, rv, q1⟩
  exact I1.write (x := p) (e := p) (t' := s1.toks) (by rw [hp]; exact True.intro) (.inl rfl) (fun _ _ _ z => z) (let ⟨_, o, _, _, _, e, _⟩ := M; ⟨o, e⟩) (dm_ok M)
/-! ### a walk over the keys -/
def Itm (w : World) (d : Addr) (o : Obj) (kvs : ME) : It :=
  ⟨fun i H => H d = some (.frz o (dmO d w kvs)) ∧ i < kvs.length, fun i H x H' => H' = H ∧ ∃ k v, kvs[i]? = some (k, x, v), fun i H => H d = some (.frz o (dmO d w kvs)) ∧ kvs.length ≤ i⟩
theorem frzM {pins : List (Addr × Obj)} {σ : L2.St} {H : Hp} {s : Shared} {d : Addr} {o : Obj} {kvs : ME} (I : Inv X pins σ H s) (h : H d = some (.frz o (dmO d X.w kvs))) :
    (d == sysModules) = false ∧ s.heap.get? d = some o ∧ o.ExactDict ∧ ∃ (es : Array DictEntry) (ep : Nat), o.data = .dict es ep ∧ es.size = kvs.length ∧
      ∀ (i : Nat) (k : NestedKey) (x v : V), kvs[i]? = some (k, x, v) → ∃ en : DictEntry, es[i]? = some en ∧ L2.RelV x en.key := by
  obtain ⟨hd, _⟩ := I.hok d _ h
  obtain ⟨⟨h1, _, _⟩, o', es, ep, xs, ho, hx, hdt, he, hr⟩ := dm_rd I.hok (.inr ⟨o, h⟩)
  rw [hd] at ho
  cases ho
  refine ⟨h1, hd, hx, es, ep, hdt, ?_, fun i k x v e => ?_⟩
  · rw [v_size he]
    exact (Paired.length hr).symm
  · obtain ⟨b, hb, _, e2, _⟩ := paired_get hr e
    exact ⟨_, by rw [v_at he i, hb]; rfl, e2⟩
theorem turn_m {P : Program} {w : World} {K : PySem.W.Frag} {tg : Expr} {d : Addr} {o : Obj} {es : Array DictEntry} {ep : Nat} {kvs : ME} (it : Addr) (hod : o.data = .dict es ep) : Turn P w K tg (Itm w d o kvs) [it] it (fun i h => h.IsKeyIter it d i kvs.length ep) where
  mem := List.mem_singleton.mpr rfl
  obj := fun i h st b hb => by
    rw [List.mem_singleton.mp hb]
    obtain ⟨oi, e, c, dd⟩ := st
    exact ⟨oi, e, fun v z => by rw [dd] at z; cases z⟩
  keep := fun i h h' st k => st.at fun oi e => k it (List.mem_singleton.mpr rfl) oi e
  item := by
    intro X hP hw hK hc i pins s σ H E I hf st hg
    subst hP hw hK
    obtain ⟨f0, f1, f2, f3, f4, f5⟩ := hf it (List.mem_singleton.mpr rfl)
    obtain ⟨hs, hgd, hx, es', ep', hdt, hsz, ent⟩ := frzM I hg.1
    obtain ⟨rfl, rfl⟩ := dict_ep hod hdt
    obtain ⟨⟨k, x, v⟩, hkv⟩ : ∃ p, kvs[i]? = some p := ⟨kvs[i]'hg.2, List.getElem?_eq_getElem hg.2⟩
    obtain ⟨en, hen, hkey⟩ := ent i k x v hkv
    refine next_key_item st hgd hdt hsz hen fun h' st' sb => ?_
    obtain ⟨oi, e, c, dd⟩ := id st'
    exact ⟨en.key, rfl, go_of (s := { s with heap := h' }) e c dd (by decide) ⟨x, H, I.turned (t' := s.toks) (fun b ob hb e => (sb.2 b hb).trans e) f0 f1 f3 f4 f5, hkey, ⟨rfl, k, v, hkv⟩, st', fun b hb => (hf b hb).1⟩⟩
  done := by
    intro X hP hw hK hc i pins s σ H E I hf st hg
    subst hP hw hK
    obtain ⟨f0, f1, f2, f3, f4, f5⟩ := hf it (List.mem_singleton.mpr rfl)
    obtain ⟨hs, hgd, hx, es', ep', hdt, hsz, ent⟩ := frzM I hg.1
    obtain ⟨rfl, rfl⟩ := dict_ep hod hdt
    exact next_key_end (I.ok.hd hc) st hgd hdt hsz hg.2 fun h' eb => ⟨rfl, I.turned (t' := s.toks) (fun b ob hb e => eb b ob hb e) f0 f1 f3 f4 f5⟩
  self := fun A i s Q E st h => by
    refine wpAny_pyIter_slot st.typeIs PySem.F.slot_dict_keyiterator_iter (wpAny_call_entry PySem.F.slot_dict_keyiterator_iter st.typeIs PySem.F.entry_dict_keyiterator_iter ?_ (PySem.F.args_dict_keyiterator_iter_1 _))
    exact wpAny_pure ⟨_, rfl, "dict_keyiterator", _, st.typeIs, PySem.F.slot_dict_keyiterator_next.lookup, h⟩
def iM (w : World) (td : TE) : TI := fun σ H R => td σ H fun x H1 => ∃ (d : Addr) (o : Obj) (kvs : ME), x = .ref d ∧ H1 d = some (.frz o (dmO d w kvs)) ∧ R (Itm w d o kvs) H1
theorem pi_m {tg e : Expr} {td : TE} (he : PE X e td) : PI X tg e (iM X.w td) := by
  refine ⟨fun pins s σ H R I h => ?_⟩
  refine thn (he.run pins s σ H _ I h) fun u s1 ⟨x, H1, I1, rx, d, o, kvs, ex, hd, q⟩ => ?_
  subst ex
  obtain rfl : u = Value.ref d := rx
  obtain ⟨hs, hgd, hx, es, ep, hdt, hsz, ent⟩ := frzM I1 hd
  refine iter_keys hs hgd hx hdt (pi_one (tk := s1.toks) I1 _ (turn_m _ hdt) ⟨_, Heap.get?_push_size _ rfl, rfl, ?_⟩ q)
  rw [hsz]
  rfl
theorem walk_m {w : World} {d : Addr} {o : Obj} {kvs : ME} : Walk (Itm w d o kvs) kvs.length (fun H => H d = some (.frz o (dmO d w kvs))) (fun i H x H' => H' = H ∧ ∃ k v, kvs[i]? = some (k, x, v)) :=
  ⟨fun _ _ hi q => ⟨q, hi⟩, fun _ q => ⟨q, Nat.le_refl _⟩, fun _ _ _ _ _ _ y => y⟩
end
end PMD
set_option Elab.async false
set_option linter.all false
set_option maxRecDepth 100000
set_option maxHeartbeats 4000000
/-! rules for tuples of ints, sorted, dict of pairs -/
namespace PMD
open PySem PySem.Spec PyProof.Rows L2
open Sem (wp)
section
variable {X : Cx}
/-! ### t >= u of pairs of ints -/
def rGeP (K : PySem.W.Frag) : R2 := fun x y H Q => ∃ (a b : Addr) (i j i' j' : Int), x = .ref a ∧ y = .ref b ∧ SqT K H a [.int i, .int j] ∧ SqT K H b [.int i', .int j'] ∧
  Q (.bl (if i = i' then decide (j' ≤ j) else decide (i' ≤ i))) H
theorem op_geP (hu : X.A.units < cLine) : OpR X (compareOp .GtE) (rGeP X.K) := by
  intro pins s σ H x y v u Q I rx ry h
  obtain ⟨a, b, i, j, i', j', rfl, rfl, ha, hb, q⟩ := h
  cases rx
  cases ry
  obtain ⟨its, r1, p1, _⟩ := I.tuple ha
  obtain ⟨its2, r2, p2, _⟩ := I.tuple hb
  obtain ⟨u1, u2, rfl, ⟨t1, rfl⟩, ⟨t2, rfl⟩⟩ := vals2 r1
  obtain ⟨w1, w2, rfl, ⟨t3, rfl⟩, ⟨t4, rfl⟩⟩ := vals2 r2
  have eqi : ∀ (m n : Int), (m == n) = decide (m = n) := fun m n => by
    by_cases e : m = n
    · subst e; simp
    · rw [decide_eq_false e]; exact beq_eq_false_iff_ne.mpr e
  have R := Ob.RcOp.tuples_ge (A := X.A) (s := s) (e := fun k => if k = 0 then decide (i = i') else decide (j = j')) (r := fun k => if k = 0 then decide (i' ≤ i) else decide (j' ≤ j)) p1 p2 hu (fun k h1 h2 => by
    match k, h1 with
    | 0, _ => rw [if_pos rfl, ← eqi]; exact SeqAt.EqAt.int_int _ _ _ _
    | 1, _ => rw [if_neg (by decide), ← eqi]; exact SeqAt.EqAt.int_int _ _ _ _) (fun k h1 h2 _ => by
    match k, h1 with
    | 0, _ => rw [if_pos rfl]; exact Ob.RcOp.ge_int _ _ _ _
    | 1, _ => rw [if_neg (by decide)]; exact Ob.RcOp.ge_int _ _ _ _)
  refine (show wpAny (model X.prog X.w) X.A (compareOp .GtE (.ref a) (.ref b)) (EP X pins σ Q) X.xe s from R X.prog X.w X.xe (EP X pins σ Q) ⟨.bl _, H, I, rfl, ?_⟩)
  have e : Ob.lexAt (fun k => if k = 0 then decide (i = i') else decide (j = j')) (fun k => if k = 0 then decide (i' ≤ i) else decide (j' ≤ j)) (decide (([Value.int i t1, Value.int j t2].toArray).size ≥ ([Value.int i' t3, Value.int j' t4].toArray).size)) 0 (min ([Value.int i t1, Value.int j t2].toArray).size ([Value.int i' t3, Value.int j' t4].toArray).size) = (if i = i' then decide (j' ≤ j) else decide (i' ≤ i)) := by
    show Ob.lexAt _ _ _ 0 2 = _
    rw [Ob.lexAt_succ, Ob.lexAt_succ, Ob.lexAt_zero]
    by_cases e1 : i = i'
    · rw [if_pos e1]
      by_cases e2 : j = j'
      · simp [e1, e2]
      · simp [e1, e2]
    · rw [if_neg e1]
      simp [e1]
  rw [e]
  exact q

/-! ### len(set(t)) of a tuple of unlike ints -/
def tLenSetT (K : PySem.W.Frag) (ta : TE) : TE := fun σ H Q => ta σ H fun x H1 => ∃ (l : Addr) (ns : List Int), x = .ref l ∧ SqT K H1 l (ns.map V.int) ∧ ns.Nodup ∧ ns.length ≤ 4000 ∧ Q (.int (ns.length : Nat)) H1
theorem pe_lenSetT {a : Expr} {ta : TE} {p p2 q pos : Pos} (hg : Gl X "len") (hm : X.mg "len" = none) (hg2 : Gl X "set") (hm2 : X.mg "set" = none) (ha : PE X a ta) (hc : X.calm = true := by rfl)
    (na : starEach [a] X.env = (false, eval a X.env) :: starEach [] X.env := by rfl) : PE X (.Call (.Name "len" p) [.Call (.Name "set" p2) [a] [] q] [] pos) (tLenSetT X.K ta) := by
  refine ⟨fun pins s σ H Q I h => ?_⟩
  refine Call_ (ld_blt I hg hm boot_len ?_)
  refine PyProof.Rows.callWith_builtin1 (PyProof.Rows.args_cons ?_ rfl) rfl rfl
  refine Call_ (ld_blt I hg2 hm2 boot_set ?_)
  refine PyProof.Rows.callWith_type1 (PyProof.Rows.args_cons (thn (ha.run pins s σ H _ I h) fun v s1 ⟨x, H1, I1, r1, q1⟩ => PyProof.Rows.args_nil ?_) na) na rfl
  obtain ⟨l, ns, rfl, hq, hnd, hl, q1⟩ := q1
  cases r1
  obtain ⟨its, r, pl, hz⟩ := I1.tuple hq
  refine call_set_tupI ns (I1.ok.hd hc) pl (by simpa using RZ.intsAre_vals r) (by unfold scanBound; omega) fun h' tk c hS hc' hk => ?_
  refine PyProof.Rows.args_nil ?_
  obtain ⟨o, es, ep, t, ho, hex, hd, _, hnk, hS, _, hf, hn, _⟩ := hS
  have ec : es.size = ns.length := by
    have h1 : (es.toList.map keyOf).Perm ns := (List.perm_ext_iff_of_nodup hnk hnd).mpr fun k => by
      rw [← hS k]
      exact decide_eq_true_iff
    have h2 := h1.length_eq
    rw [List.length_map, Array.length_toList] at h2
    exact h2
  have I2 : Inv X pins σ H1 { s1 with heap := h', toks := tk } := I1.kept hk
  exact call_len_set ho hex hd hf (by rw [ec]; omega) ⟨.int ns.length, H1, I2.tok _, ⟨_, by rw [ec]⟩, q1⟩

/-! ### sorted(t) of a tuple of ints -/
def rSortedTI (K : PySem.W.Frag) : List V → Hp → VK → Prop := fun xs H Q => ∃ (a : Addr) (ks : List Int), xs = [.ref a] ∧ SqT K H a (ks.map V.int) ∧ ks.length < 64 ∧
    ∀ (ys : List Int) (p : Addr), ys.Perm ks → ys.Pairwise (· ≤ ·) → H p = none → Q (.ref p) (upd H p (.lst (ys.map V.int)))
theorem cr_sortedTI : CallR X (.builtin "sorted") (rSortedTI X.K) := by
  intro pins s σ H xs us Q I r q
  obtain ⟨a, ks, ex, hd, h64, q⟩ := q
  subst ex
  obtain ⟨u, eu, rx⟩ := vals1 r
  subst eu
  cases rx
  obtain ⟨its, rv, ⟨o, ho, hcl, n, hdat⟩, hz⟩ := I.tuple hd
  have hil : its.length = ks.length := by rw [← rv.length, List.length_map]
  have hS : IntsAre its ks := RZ.intsAre_vals rv
  refine Calls.call_function_entry PyProof.Rows.kind_sorted PyProof.Rows.plain_sorted PyProof.Rows.entry_sorted (PyProof.Rows.args_sorted1 _) ?_
  unfold Builtin.«sorted»
  refine wpAny_bind (m := checkCount "sorted" 1 1 _) (wpAny_pure ?_)
  refine wpAny_bind (wpAny_collect_seq a (.inr rfl) ho hcl hdat (fun h' hk => ?_) (by rw [List.size_toArray, hil, sizeLine_eq]; omega))
  have I1 : Inv X pins σ H { s with heap := h', toks := s.toks } := I.kept hk
  refine wpAny_bind (wpAny_newList ?_ (by rw [sizeLine_eq]; simp; omega))
  have hoL : (h'.push (seqObj "list" its.toArray 0)).get? h'.objs.size = some (seqObj "list" its.toArray 0) := Heap.get?_push_size _ rfl
  show wpAny _ _ _ _ _ { s with heap := h'.push (seqObj "list" its.toArray 0), toks := s.toks }
  refine wpAny_bind (wpAny_holding (wpAny_call_entry PyProof.Rows.slot_list_sort ⟨_, hoL, rfl⟩ PyProof.Rows.entry_list_sort
    (PyProof.Rows.list_sort_tree (s := { s with heap := h'.push (seqObj "list" its.toArray 0), toks := s.toks }) hoL hS (by rw [hil]; exact h64) fun out ys g1 g2 g3 => ⟨_, rfl, ?_⟩) (PyProof.Rows.args_list_sort _)))
  obtain ⟨e', he'⟩ := PyProof.Rows.sortedHeap_at (vs := its) (out := out) hoL
  have hlen : (ys.map V.int).length ≤ sizeLine := by
    rw [List.length_map, g2.length_eq, sizeLine_eq]
    omega
  refine wpAny_pure ⟨_, rfl, .ref h'.objs.size, upd H h'.objs.size (.lst (ys.map V.int)), I1.laid (t' := s.toks) (fun b u e => ?_) (Nat.le_refl _)
    (show ObjOk X.prog X.w _ _ _ (.lst (ys.map V.int)) from ⟨hlen, out.toList, e', vals_of_ints g1, by rw [Array.toArray_toList]; exact he'⟩), rfl, q ys _ g2 g3 (I1.hok.fresh (Nat.le_refl _))⟩
  have hb : b < h'.objs.size := Heap.lt_size e
  rw [PyProof.Rows.sortedHeap_old (Nat.ne_of_lt hb) (by rw [size_push']; exact Nat.lt_succ_of_lt hb)]
  exact Heap.get?_push_of_some _ e
end
end PMD
set_option Elab.async false
set_option linter.all false
set_option maxRecDepth 100000
set_option maxHeartbeats 4000000
/-! sorted(a dict of pairs), dict(a list of pairs) -/
namespace PMD
open PySem PySem.Spec PyProof.Rows L2
open Sem (wp)
/-- the tuple (i, j) of ints -/
def IsP (H : Hp) (v : V) (y : Int × Int) : Prop := ∃ t : Addr, v = .ref t ∧ H t = some (.tup [.int y.1, .int y.2])
def lexLe (x y : Int × Int) : Prop := x.1 < y.1 ∨ (x.1 = y.1 ∧ x.2 ≤ y.2)
def keyP (p : Int × Int) : List L2.Key := [.inl p.1, .inl p.2]
theorem keyP_inj {p q : Int × Int} (h : keyP p = keyP q) : p = q := by
  unfold keyP at h
  injection h with h1 h2
  injection h2 with h2 _
  exact Prod.ext (Sum.inl.inj h1) (Sum.inl.inj h2)
theorem pairs_back {H : Hp} (f : Value → Int × Int) : ∀ (us : List Value), (∀ u ∈ us, ∃ a, u = Value.ref a ∧ H a = some (.tup [.int (f u).1, .int (f u).2])) → Paired (IsP H) (us.map backV) (us.map f)
  | [], _ => .nil
  | u :: us, h => by
    obtain ⟨a, e, h1⟩ := h u List.mem_cons_self
    refine .cons ⟨a, by rw [e]; rfl, h1⟩ (pairs_back f us fun y hy => h y (List.mem_cons_of_mem _ hy))
def rSortedDP (K : PySem.W.Frag) : List V → Hp → VK → Prop := fun xs H Q => ∃ (a : Addr) (ps : List ((Int × Int) × V)), xs = [.ref a] ∧ H a = some (.dT (ps.map fun p => (keyP p.1, p.2))) ∧
    ∀ (ys : List (Int × Int)) (vs : List V) (p : Addr), Paired (IsP H) vs ys → ys.Perm (ps.map (·.1)) → ys.Nodup → ys.Pairwise lexLe → H p = none → Q (.ref p) (upd H p (.lst vs))
/-- what is told at an address -/
def pairAt (H : Hp) (u : Value) : Int × Int := match u with
  | .ref a => (match H a with
    | some (.tup [.int i, .int j]) => (i, j)
    | _ => (0, 0))
  | _ => (0, 0)
theorem pairAt_of {H : Hp} {a : Addr} {i j : Int} (h : H a = some (.tup [.int i, .int j])) : pairAt H (.ref a) = (i, j) := by
  unfold pairAt
  simp only [h]
section
variable {X : Cx}
theorem cr_sortedDP (hc : X.calm = true) : CallR X (.builtin "sorted") (rSortedDP X.K) := by
  intro pins s σ H xs us Q I r q
  obtain ⟨a, ps, ex, hd, q⟩ := q
  subst ex
  obtain ⟨u, eu, rx⟩ := vals1 r
  subst eu
  cases rx
  obtain ⟨z, hs, ks, pr, o, es, ep, ho, hx, hdt, he, hn⟩ := (show ObjOk X.prog X.w H s.heap a (.dT (ps.map fun p => (keyP p.1, p.2))) from I.hok a _ hd)
  have l1 : es.size = ks.length := size_of_entries he
  have l2 : ps.length = ks.length := by
    have := Paired.length pr
    rw [List.length_map] at this
    exact this
  have z' : ps.length ≤ sizeLine := by
    rw [List.length_map] at z
    exact z
  -- the keys' tuples, one by one
  have hkey : ∀ (j : Nat) (x : List L2.Key × Addr × Value), ks[j]? = some x → ∃ p : (Int × Int) × V, ps[j]? = some p ∧ x.1 = keyP p.1 ∧ H x.2.1 = some (.tup [.int p.1.1, .int p.1.2]) := fun j x hj => by
    have hl : j < ps.length := by
      have := (List.getElem?_eq_some_iff.mp hj).1
      omega
    have hg : (ps.map fun p => (keyP p.1, p.2))[j]? = some (keyP ps[j].1, ps[j].2) := by
      rw [List.getElem?_map, List.getElem?_eq_getElem hl]
      rfl
    obtain ⟨b, hb, e1, e2, _⟩ := paired_get pr hg
    rw [hj] at hb
    cases hb
    exact ⟨ps[j], List.getElem?_eq_getElem hl, e1.symm, e2⟩
  have eks : ks.map (fun x => pairAt H (.ref x.2.1)) = ps.map (·.1) := by
    refine List.ext_getElem? fun j => ?_
    rw [List.getElem?_map, List.getElem?_map]
    cases hj : ks[j]? with
    | none =>
      have := List.getElem?_eq_none_iff.mp hj
      rw [List.getElem?_eq_none (by omega)]
      rfl
    | some x =>
      obtain ⟨p, hp, _, e2⟩ := hkey j x hj
      rw [hp]
      show some (pairAt H (.ref x.2.1)) = some p.1
      rw [pairAt_of e2]
  have hnd : (ps.map (·.1)).Nodup := by
    rw [← eks]
    refine List.pairwise_map.mpr (List.Pairwise.imp_of_mem (R := fun a b => a.1 ≠ b.1) (fun {x y} hx hy hxy e => hxy ?_) (List.pairwise_map.mp hn))
    obtain ⟨i, hi⟩ := List.mem_iff_getElem?.mp hx
    obtain ⟨j, hj⟩ := List.mem_iff_getElem?.mp hy
    obtain ⟨p, _, e1, e2⟩ := hkey i x hi
    obtain ⟨p', _, e1', e2'⟩ := hkey j y hj
    rw [pairAt_of e2, pairAt_of e2'] at e
    have e : p.1 = p'.1 := e
    rw [e1, e1', e]
  refine Calls.call_function_entry PyProof.Rows.kind_sorted PyProof.Rows.plain_sorted PyProof.Rows.entry_sorted (PyProof.Rows.args_sorted1 _) ?_
  unfold Builtin.«sorted»
  refine wpAny_bind (m := checkCount "sorted" 1 1 _) (wpAny_pure ?_)
  refine wpAny_bind (PySem.W.kdu_collect (A := X.A.in1) (kdl_raw hs hx hdt) (I.ok.hd hc) ho (by omega) fun h' tk acc hk hacc => ?_)
  have ea : acc.toList = ks.map fun x => Value.ref x.2.1 := by
    refine List.ext_getElem? fun j => ?_
    rw [List.getElem?_map]
    cases hj : acc.toList[j]? with
    | none =>
      have h1 := List.getElem?_eq_none_iff.mp hj
      rw [Array.length_toList, hacc.1] at h1
      rw [List.getElem?_eq_none (by omega)]
      rfl
    | some v =>
      obtain ⟨en, hen, hv⟩ := hacc.2 j v (by rw [← Array.getElem?_toList]; exact hj)
      have qe := entry_at he j
      rw [hen] at qe
      cases hb : ks[j]? with
      | none => rw [hb] at qe; cases qe
      | some x =>
        rw [hb] at qe
        have e2 : en = entryOfKey (tupleKind (mixKind X.prog X.w)) x := Option.some.inj qe
        rw [hv, e2]
        rfl
  have I1 : Inv X pins σ H { s with heap := h', toks := tk } := I.kept hk
  have hal : acc.toList.length ≤ sizeLine := by
    rw [ea, List.length_map]
    omega
  refine wpAny_bind (wpAny_newList ?_ hal)
  have hoL : (h'.push (seqObj "list" acc.toList.toArray 0)).get? h'.objs.size = some (seqObj "list" acc.toList.toArray 0) := Heap.get?_push_size _ rfl
  show wpAny _ _ _ _ _ { s with heap := h'.push (seqObj "list" acc.toList.toArray 0), toks := tk }
  have hin : ∀ v ∈ acc.toList, ∃ b, v = Value.ref b ∧ H b = some (.tup [.int (pairAt H v).1, .int (pairAt H v).2]) := fun v hv => by
    rw [ea] at hv
    obtain ⟨x, hx, rfl⟩ := List.mem_map.mp hv
    obtain ⟨i, hi⟩ := List.mem_iff_getElem?.mp hx
    obtain ⟨p, _, _, e2⟩ := hkey i x hi
    exact ⟨x.2.1, rfl, by rw [pairAt_of e2]; exact e2⟩
  have hp : ∀ v ∈ acc.toList, Srt.IsPair (h'.push (seqObj "list" acc.toList.toArray 0)) v (pairAt H v).1 (pairAt H v).2 := fun v hv => by
    obtain ⟨b, e, ht⟩ := hin v hv
    obtain ⟨_, its2, r2, o2, ho2, hc2, n2, hd2⟩ := I1.hok _ _ ht
    obtain ⟨u1, u2, rfl, ⟨t1, rfl⟩, ⟨t2, rfl⟩⟩ := vals2 r2
    exact ⟨b, o2, t1, t2, n2, e, Heap.get?_push_of_some _ ho2, hc2, hd2⟩
  refine wpAny_bind (wpAny_holding (wpAny_call_entry PyProof.Rows.slot_list_sort ⟨_, hoL, rfl⟩ PyProof.Rows.entry_list_sort
    (SrtO.list_sort_ord (s := { s with heap := h'.push (seqObj "list" acc.toList.toArray 0), toks := tk }) (SrtO.swo_lex (pairAt H)) hoL hal (fun h2 => SrtO.pairs_sortableO (by omega) hp fun o e => ?_) fun out h1 h2 => ⟨.none, rfl, ?_⟩) (PyProof.Rows.args_list_sort _)))
  · have e' : some o = some (seqObj "list" acc.toList.toArray 0) := e.symm.trans hoL
    cases e'
    intro c
    exact absurd (Value.type.inj c) (by decide)
  · have hm : ∀ v ∈ out, v ∈ acc.toList := fun v hv => h2.perm.mem_iff.mp hv
    have h3 : ∀ u ∈ out, ∃ a, u = Value.ref a := fun u hu => let ⟨b, e, _⟩ := hin u (hm u hu); ⟨b, e⟩
    obtain ⟨ep', he'⟩ := PyProof.Rows.sortedHeap_at (vs := acc.toList) (out := out.toArray) hoL
    have hlen : (out.map backV).length ≤ sizeLine := by
      rw [List.length_map, h2.perm.length_eq]
      exact hal
    have hperm : (out.map (pairAt H)).Perm (ps.map (·.1)) := by
      rw [← eks]
      have := h2.perm.map (pairAt H)
      rw [ea, List.map_map] at this
      exact this
    refine wpAny_pure ⟨_, rfl, .ref h'.objs.size, upd H h'.objs.size (.lst (out.map backV)), I1.laid (t' := tk) (fun b u e => ?_) (Nat.le_refl _)
      (show ObjOk X.prog X.w _ _ _ (.lst (out.map backV)) from ⟨hlen, out, ep', vals_back h3, he'⟩), rfl, q (out.map (pairAt H)) _ _ (pairs_back (pairAt H) out fun u hu => hin u (hm u hu)) hperm (hperm.nodup_iff.mpr hnd) ?_ (I1.hok.fresh (Nat.le_refl _))⟩
    · have hb : b < h'.objs.size := Heap.lt_size e
      rw [PyProof.Rows.sortedHeap_old (Nat.ne_of_lt hb) (by rw [size_push']; exact Nat.lt_succ_of_lt hb)]
      exact Heap.get?_push_of_some _ e
    · refine List.pairwise_map.mpr (h1.imp fun {v u} hvu => ?_)
      have hvu : SrtO.lexB (pairAt H u) (pairAt H v) = false := hvu
      have hn : ¬ ((pairAt H u).1 < (pairAt H v).1 ∨ ((pairAt H u).1 = (pairAt H v).1 ∧ (pairAt H u).2 < (pairAt H v).2)) := fun c => by
        rw [SrtO.lexB_iff.mpr c] at hvu
        cases hvu
      unfold lexLe
      omega
end
end PMD
set_option Elab.async false
set_option linter.all false
set_option maxRecDepth 100000
set_option maxHeartbeats 4000000
/-! dict(a list of pairs), the keys tuples of ints and texts -/
namespace PMD
open PySem PySem.Spec PyProof.Rows L2
open Sem (wp)
/-- a pair's tuple, its key, the key's tuple, its value -/
structure DE where
  at_ : Addr
  k : List L2.Key
  b : Addr
  v : V
def putAll (acc : List (List L2.Key × V)) (ps : List DE) : List (List L2.Key × V) := ps.foldl (fun a p => putK a p.k p.v) acc
theorem putAll_len : ∀ (ps : List DE) (acc : List (List L2.Key × V)), (putAll acc ps).length ≤ acc.length + ps.length
  | [], acc => Nat.le_refl _
  | p :: ps, acc => by
    have h1 := putAll_len ps (putK acc p.k p.v)
    have h2 := length_putK acc p.k p.v
    show (putAll (putK acc p.k p.v) ps).length ≤ _
    rw [List.length_cons]
    omega
/-- what stands behind: of the last pair with the key -/
theorem putAll_get : ∀ (ps : List DE) (acc : List (List L2.Key × V)) (k : List L2.Key) (v : V), valV (putAll acc ps) k = some v → (∃ p ∈ ps, p.k = k ∧ p.v = v) ∨ valV acc k = some v
  | [], acc, k, v, h => .inr h
  | p :: ps, acc, k, v, h => by
    rcases putAll_get ps (putK acc p.k p.v) k v h with ⟨q, hq, e1, e2⟩ | h
    · exact .inl ⟨q, List.mem_cons_of_mem _ hq, e1, e2⟩
    · rw [valV_put] at h
      by_cases e : k = p.k
      · rw [if_pos e] at h
        exact .inl ⟨p, List.mem_cons_self, e.symm, Option.some.inj h⟩
      · rw [if_neg e] at h
        exact .inr h
theorem putAll_has : ∀ (ps : List DE) (acc : List (List L2.Key × V)) (k : List L2.Key), (valV acc k ≠ none ∨ ∃ p ∈ ps, p.k = k) → valV (putAll acc ps) k ≠ none
  | [], acc, k, h => by
    rcases h with h | ⟨p, hp, _⟩
    · exact h
    · simp at hp
  | p :: ps, acc, k, h => by
    refine putAll_has ps (putK acc p.k p.v) k ?_
    by_cases e : k = p.k
    · refine .inl ?_
      rw [valV_put, if_pos e]
      exact fun z => nomatch z
    · rcases h with h | ⟨q, hq, e1⟩
      · refine .inl ?_
        rw [valV_put, if_neg e]
        exact h
      · rcases List.mem_cons.mp hq with z | z
        · subst z; exact absurd e1.symm e
        · exact .inr ⟨q, z, e1⟩
theorem kt_all {H : Hp} : ∀ {ps : List DE} {pl : List (List L2.Key × Addr × Value)} {acc : List (List L2.Key × V)} {xs : List (List L2.Key × Addr × Value)}, KT H acc xs →
    Paired (fun (p : DE) (q : List L2.Key × Addr × Value) => p.k = q.1 ∧ p.b = q.2.1 ∧ L2.RelV p.v q.2.2) ps pl → (∀ p ∈ ps, H p.b = some (.tup (p.k.map kV))) → KT H (putAll acc ps) (storedAllH xs pl)
  | [], _, _, _, r, .nil, _ => r
  | p :: ps, _, acc, xs, r, .cons (b := q) h t, hp => by
    obtain ⟨k, b, u⟩ := q
    obtain ⟨e1, e2, e3⟩ := h
    have e1 : p.k = k := e1
    have e2 : p.b = b := e2
    subst e1; subst e2
    have r2 : KT H (putK acc p.k p.v) (storedH xs p.k p.b u) := r.put p.k (hp p List.mem_cons_self) e3
    have h2 : ∀ y ∈ ps, H y.b = some (.tup (y.k.map kV)) := fun y hy => hp y (List.mem_cons_of_mem _ hy)
    exact kt_all (ps := ps) (acc := putK acc p.k p.v) (xs := storedH xs p.k p.b u) r2 t h2
def rDictP (K : PySem.W.Frag) : List V → Hp → VK → Prop := fun xs H Q => ∃ (a : Addr) (ps : List DE), xs = [.ref a] ∧ SqL K H a (ps.map fun p => .ref p.at_) ∧ (∀ p ∈ ps, H p.at_ = some (.tup [.ref p.b, p.v]) ∧ H p.b = some (.tup (p.k.map kV))) ∧
    ∀ d, H d = none → Q (.ref d) (upd H d (.dT (putAll [] ps)))
section
variable {X : Cx}
/-- the pairs as the library wants them -/
theorem de_pairs {pins : List (Addr × Obj)} {σ : L2.St} {H : Hp} {s : Shared} (I : Inv X pins σ H s) : ∀ (ps : List DE), (∀ p ∈ ps, H p.at_ = some (.tup [.ref p.b, p.v]) ∧ H p.b = some (.tup (p.k.map kV))) →
    ∃ pl : List (List L2.Key × Addr × Value), Paired (fun (p : DE) (q : List L2.Key × Addr × Value) => p.k = q.1 ∧ p.b = q.2.1 ∧ L2.RelV p.v q.2.2) ps pl ∧ (∀ x ∈ pl, (tupleKind (mixKind X.prog X.w)).is s.heap x.1 x.2.1) ∧
      ∀ (j : Nat) (q : List L2.Key × Addr × Value), pl[j]? = some q → ∃ p : DE, ps[j]? = some p ∧ IsTup s.heap p.at_ #[.ref q.2.1, q.2.2]
  | [], _ => ⟨[], .nil, fun x hx => by simp at hx, fun j q h => by simp at h⟩
  | p :: ps, h => by
    obtain ⟨pl, h1, h2, h3⟩ := de_pairs I ps fun y hy => h y (List.mem_cons_of_mem _ hy)
    obtain ⟨g1, g2⟩ := h p List.mem_cons_self
    obtain ⟨its, rv, ht, _⟩ := I.tuple (.inl (.inl g1))
    obtain ⟨u1, u2, rfl, e1, e2⟩ := vals2 rv
    obtain rfl : u1 = Value.ref p.b := e1
    refine ⟨(p.k, p.b, u2) :: pl, .cons ⟨rfl, rfl, e2⟩ h1, fun x hx => ?_, fun j q hj => ?_⟩
    · rcases List.mem_cons.mp hx with z | z
      · subst z; exact key_of I.hok g2
      · exact h2 x z
    · cases j with
      | zero =>
        simp at hj
        subst hj
        exact ⟨p, rfl, ht⟩
      | succ j => exact h3 j q (by simpa using hj)
theorem call_dictP2 {k0 : Nat} (hr : Room k0 X.A) (hc : X.calm = true) : CallR X (.type "dict") (rDictP X.K) := by
  intro pins s σ H xs us Q I r q
  obtain ⟨a, ps, ex, hq, hp, q⟩ := q
  subst ex
  obtain ⟨u, eu, rx⟩ := vals1 r
  subst eu
  cases rx
  obtain ⟨its, rv, pl0, hz⟩ := I.list hq
  have ei : its = (ps.map (·.at_)).map Value.ref := refs_at (ps := ps.map (·.at_)) (by rw [List.map_map]; exact rv)
  subst ei
  rw [List.length_map] at hz
  obtain ⟨pl, h1, h2, h3⟩ := de_pairs I ps hp
  have hlen : ps.length = pl.length := Paired.length h1
  obtain ⟨o, n, ho, hcl, hd, hdat⟩ := pl0
  let prs : List (Value × Value) := pl.map fun x => (.ref x.2.1, x.2.2)
  let Ts : Nat → Addr := fun j => (ps.map (·.at_)).getD j 0
  have hprs : prs.length = pl.length := List.length_map ..
  refine call_dict_pairsH (knd := tupleKind (mixKind X.prog X.w)) (ps := pl) (PairArg.list a ((ps.map (·.at_)).map Value.ref).toArray Ts prs) (I.ok.hd hc) (show X.A.in1.in1.units < cLine by rw [Around.in1_units, Around.in1_units]; have := hr.un; omega)
    ⟨⟨o, n, ho, hcl, hd, hdat⟩, by rw [hprs]; simp [hlen], fun j k v hj => ?_⟩ ⟨hprs.symm, fun i key v hrel => ?_⟩ (fun h' hk x hx => ?_) (by rw [hprs]; omega) fun h' tk hd' hk => ?_
  · have hj : (pl.map fun x => ((Value.ref x.2.1, x.2.2) : Value × Value))[j]? = some (k, v) := hj
    rw [List.getElem?_map] at hj
    cases hq : pl[j]? with
    | none => rw [hq] at hj; cases hj
    | some y =>
      rw [hq] at hj
      cases hj
      obtain ⟨p, hpj, ht⟩ := h3 j y hq
      have hT : Ts j = p.at_ := by
        show (ps.map (·.at_)).getD j 0 = _
        rw [List.getD_eq_getElem?_getD, List.getElem?_map, hpj]
        rfl
      refine ⟨?_, ?_⟩
      · rw [hT]
        simp [hpj]
      · rw [hT]
        exact .inl ht
  · have hrel : (pl.map fun x => ((Value.ref x.2.1, x.2.2) : Value × Value))[i]? = some (key, v) := hrel
    rw [List.getElem?_map] at hrel
    cases hq : pl[i]? with
    | none => rw [hq] at hrel; cases hrel
    | some y =>
      rw [hq] at hrel
      cases hrel
      exact ⟨y.1, y.2.1, rfl, rfl⟩
  · obtain ⟨o', its', n', g1, g2, g3, g4⟩ := h2 x hx
    exact ⟨o', its', n', hk _ _ (Nat.ne_of_lt (Heap.lt_size g1)) (fun z => nomatch z) g1, g2, g3, g4⟩
  · have hm : (s.heap.objs.size == sysModules) = false := beq_eq_false_iff_ne.mpr (Nat.ne_of_gt I.big)
    have I1 : Inv X pins σ H { s with heap := h', toks := tk } := I.kept fun b o e => hk b o (fun z => nomatch z) e
    have kt := kt_all (H := H) (acc := []) (xs := []) .nil h1 fun p hp' => (hp p hp').2
    have hl : (putAll [] ps).length ≤ sizeLine := by
      have := putAll_len ps []
      rw [List.length_nil] at this
      omega
    obtain ⟨o2, es, ep, g1, g2, g3, g4, _, g5⟩ := hd'
    exact ⟨.ref s.heap.objs.size, upd H s.heap.objs.size (.dT (putAll [] ps)), I.laid (t' := tk) (fun b o e => hk b o (fun z => nomatch z) e) (Nat.le_refl _)
      (show ObjOk X.prog X.w _ _ _ (.dT (putAll [] ps)) from ⟨hl, hm, _, kt.keeps fun c ys ec => (by rw [upd_ne (ne_of_none ec (I.hok.fresh (Nat.le_refl _)))]; exact ec), o2, es, ep, g1, g2, g3, g4, g5⟩), rfl, q _ (I.hok.fresh (Nat.le_refl _))⟩
end
end PMD
set_option Elab.async false
set_option linter.all false
set_option maxRecDepth 100000
set_option maxHeartbeats 4000000
/-! what all defs share: the text's places, what stands in the heap, promises' parts -/
namespace PW
open PySem PySem.Spec PyProof.Rows L2 PMD

def topS (i : Nat) : Stmt := PySem.Challenge.pw_portermaze_k57_whole_plans_and_cuts.main.body.getD i (.Pass ⟨0, 0, 0, 0⟩)

/-! ### heaps -/
theorem same_upd {H : Hp} {p : Addr} {o : HO} (h : H p = none) : Same H (upd H p o) := fun b x e => by
  rw [upd_ne (ne_of_none e h)]
  exact e
/-- the heap without what stands at a -/
def hid (a : Addr) (H : Hp) : Hp := fun b => if b = a then none else H b
theorem hid_ne {a b : Addr} {H : Hp} (h : b ≠ a) : hid a H b = H b := if_neg h
theorem hid_same {a : Addr} {H : Hp} : hid a H a = none := if_pos rfl
theorem hid_le {a : Addr} {H : Hp} : Same (hid a H) H := fun b o e => by
  unfold hid at e
  split at e
  · cases e
  · exact e
theorem hid_upd {a : Addr} {H : Hp} {o : HO} : Same (hid a H) (upd H a o) := fun b x e => by
  by_cases h : b = a
  · subst h; rw [hid_same] at e; cases e
  · rw [hid_ne h] at e
    rw [upd_ne h]; exact e
theorem hid_mono {a : Addr} {H H' : Hp} (s : Same H H') : Same (hid a H) (hid a H') := fun b x e => by
  by_cases h : b = a
  · subst h; rw [hid_same] at e; cases e
  · rw [hid_ne h] at e ⊢
    exact s b x e
theorem same_hid {a : Addr} {H H' : Hp} (s : Same (hid a H) H') : Same (hid a H) (hid a H') := fun b x e => by
  by_cases h : b = a
  · subst h; rw [hid_same] at e; cases e
  · rw [hid_ne h]
    exact s b x e
theorem hid_none {a b : Addr} {H : Hp} (h : H b = none) : hid a H b = none := by
  unfold hid
  split
  · rfl
  · exact h
theorem StateAt_upd {H : Hp} {a b : Addr} {o : HO} (h : ∃ x y z : Int, H a = some (.lst [.int x, .int y, .int z])) (n : a ≠ b) : ∃ x y z : Int, upd H b o a = some (.lst [.int x, .int y, .int z]) := by
  obtain ⟨x, y, z, h⟩ := h
  exact ⟨x, y, z, by rw [upd_ne n]; exact h⟩
/-- one after another, the object at a changed by both -/
theorem hid_trans {a : Addr} {H H1 H2 : Hp} (s : Same (hid a H) H1) (t : Same (hid a H1) H2) : Same (hid a H) H2 := (same_hid s).trans t
/-- a change of what H does not know -/
theorem same_mut {H H1 H2 : Hp} {a : Addr} (s : Same H H1) (hn : H a = none) (t : Same (hid a H1) H2) : Same H H2 := fun b x e => by
  have h : b ≠ a := ne_of_none e hn
  exact t b x (by rw [hid_ne h]; exact s b x e)
theorem same_updM {H H1 : Hp} {a : Addr} {o : HO} (s : Same H H1) (hn : H a = none) : Same H (upd H1 a o) := same_mut s hn hid_upd
/-- what is at another place stays -/
theorem hid_at {a b : Addr} {H H' : Hp} {o : HO} (s : Same (hid a H) H') (e : H b = some o) (h : b ≠ a) : H' b = some o := s b o (by rw [hid_ne h]; exact e)
theorem tups_of {H H' : Hp} (s : Same H H') : ∀ b ys, H b = some (.tup ys) → H' b = some (.tup ys) := fun b ys e => s b _ e
theorem tups_hid {a : Addr} {H H' : Hp} (s : Same (hid a H) H') (ha : ∀ ys, H a ≠ some (.tup ys)) : ∀ b ys, H b = some (.tup ys) → H' b = some (.tup ys) := fun b ys e =>
  hid_at s e fun z => ha ys (z ▸ e)

/-! ### what is told -/
theorem paired_mono {α β : Type} {F G : α → β → Prop} {l : List α} {m : List β} (h : Paired F l m) (f : ∀ a b, F a b → G a b) : Paired G l m := Paired.mapP h f
theorem isP_mono {H H' : Hp} (ht : ∀ b ys, H b = some (.tup ys) → H' b = some (.tup ys)) {v : V} {y : Int × Int} (h : IsP H v y) : IsP H' v y := let ⟨t, e, h⟩ := h; ⟨t, e, ht _ _ h⟩
/-- a list of pairs -/
def PairsL (H : Hp) (l : Addr) (ps : List (Int × Int)) : Prop := ∃ vs, H l = some (.lst vs) ∧ Paired (IsP H) vs ps
theorem PairsL.mono {H H' : Hp} (s : Same H H') {l : Addr} {ps : List (Int × Int)} (h : PairsL H l ps) : PairsL H' l ps := let ⟨vs, e, h⟩ := h; ⟨vs, s _ _ e, paired_mono h fun _ _ q => isP_mono (tups_of s) q⟩
theorem PairsL.at {H H' : Hp} {a : Addr} (s : Same (hid a H) H') (ha : ∀ ys, H a ≠ some (.tup ys)) {l : Addr} (hl : l ≠ a) {ps : List (Int × Int)} (h : PairsL H l ps) : PairsL H' l ps :=
  let ⟨vs, e, h⟩ := h; ⟨vs, hid_at s e hl, paired_mono h fun _ _ q => isP_mono (tups_hid s ha) q⟩
/-- a list of ints -/
def IntsL (H : Hp) (l : Addr) (xs : List Int) : Prop := H l = some (.lst (xs.map V.int))
theorem IntsL.mono {H H' : Hp} (s : Same H H') {l : Addr} {xs : List Int} (h : IntsL H l xs) : IntsL H' l xs := s _ _ h
theorem ints_push {H : Hp} {l : Addr} {xs : List Int} {x : Int} : IntsL (upd H l (.lst (xs.map V.int ++ [V.int x]))) l (xs ++ [x]) := by
  unfold IntsL
  rw [upd_same, List.map_append]
  rfl
theorem tups_upd {H : Hp} {l : Addr} {o : HO} (hl : ∀ ys, H l ≠ some (.tup ys)) : ∀ b ys, H b = some (.tup ys) → upd H l o b = some (.tup ys) := fun b ys e => by
  rw [upd_ne fun z : b = l => hl ys (by rw [← z]; exact e)]
  exact e
theorem lst_notup {H : Hp} {l : Addr} {xs : List V} (h : H l = some (.lst xs)) : ∀ ys, H l ≠ some (.tup ys) := fun ys e => by
  rw [h] at e
  cases e
/-- a draw's state -/
def StateAt (H : Hp) (a : Addr) : Prop := ∃ x y z : Int, H a = some (.lst [.int x, .int y, .int z])
theorem StateAt.notup {H : Hp} {a : Addr} (h : StateAt H a) : ∀ ys, H a ≠ some (.tup ys) := fun ys e => by
  obtain ⟨x, y, z, h⟩ := h
  rw [h] at e
  cases e
theorem StateAt.mono {H H' : Hp} (s : Same H H') {a : Addr} (h : StateAt H a) : StateAt H' a := let ⟨x, y, z, h⟩ := h; ⟨x, y, z, s _ _ h⟩
def lexLt (x y : Int × Int) : Prop := x.1 < y.1 ∨ (x.1 = y.1 ∧ x.2 < y.2)

/-! ### the floor -/
theorem fr_ : ¬ (("rooms" : Str) = "doors") := by decide +kernel
def fs2 (r : Int) (l : Addr) : List (Str × V) := putF "doors" (.ref l) (putF "rooms" (.int r) [])
theorem fs2_rooms (r : Int) (l : Addr) : (fs2 r l).lookup ("rooms" : Str) = some (.int r) := by
  unfold fs2
  rw [lookup_putF, if_neg fr_, lookup_putF, if_pos rfl]
theorem fs2_doors (r : Int) (l : Addr) : (fs2 r l).lookup ("doors" : Str) = some (.ref l) := by
  unfold fs2
  rw [lookup_putF, if_pos rfl]
theorem fs2_no (r : Int) (l : Addr) {m : Str} (h1 : ¬ m = "doors") (h2 : ¬ m = "rooms") : (fs2 r l).lookup m = none := by
  unfold fs2
  rw [lookup_putF, if_neg h1, lookup_putF, if_neg h2]
  all_goals rfl
structure FloorAt (C : Addr) (H : Hp) (f : Addr) (rooms : Int) (ds : List (Int × Int)) : Prop where
  there : ∃ dx l, H f = some (.ins C dx (fs2 rooms l)) ∧ PairsL H l ds
  few : ds.length ≤ 64
theorem FloorAt.mono {C : Addr} {H H' : Hp} (s : Same H H') {f : Addr} {rooms : Int} {ds : List (Int × Int)} (h : FloorAt C H f rooms ds) : FloorAt C H' f rooms ds :=
  ⟨let ⟨dx, l, h1, h2⟩ := h.there; ⟨dx, l, s _ _ h1, h2.mono s⟩, h.few⟩

/-! ### places -/
def sBeg : Str := Str.ofString "begin"
def sFin : Str := Str.ofString "end"
theorem sBF : ¬ sBeg = sFin := by decide +kernel
def PlIn (H : Hp) : PM.Pl → V → Prop
  | .beg, v => v = .str sBeg
  | .fin, v => v = .str sFin
  | .spot r m i, v => ∃ t : Addr, v = .ref t ∧ H t = some (.tup [.int r, .int m, .int i])
theorem PlIn.mono {H H' : Hp} (ht : ∀ b ys, H b = some (.tup ys) → H' b = some (.tup ys)) {q : PM.Pl} {v : V} (h : PlIn H q v) : PlIn H' q v := by
  cases q with
  | beg => exact h
  | fin => exact h
  | spot r m i => obtain ⟨t, e, h⟩ := h; exact ⟨t, e, ht _ _ h⟩
def pk : PM.Pl → NestedKey
  | .beg => .text sBeg
  | .fin => .text sFin
  | .spot r m i => .tup [.num r, .num m, .num i]
theorem pk_inj {p q : PM.Pl} (h : pk p = pk q) : p = q := by
  cases p <;> cases q <;> simp only [pk] at h
  · rfl
  · injection h with h; exact absurd h sBF
  · cases h
  · injection h with h; exact absurd h.symm sBF
  · rfl
  · cases h
  · cases h
  · cases h
  · injection h with h
    injection h with h1 h
    injection h with h2 h
    injection h with h3 h
    injection h1 with h1
    injection h2 with h2
    injection h3 with h3
    rw [h1, h2, h3]
theorem PlIn.ok {H : Hp} {q : PM.Pl} {v : V} (h : PlIn H q v) : KOk H (pk q) v := by
  cases q with
  | beg =>
    have h : v = .str sBeg := h
    subst h
    exact ⟨.text _, by simp [pk, NestedKey.depth], fun i e => by simp [pk] at e⟩
  | fin =>
    have h : v = .str sFin := h
    subst h
    exact ⟨.text _, by simp [pk, NestedKey.depth], fun i e => by simp [pk] at e⟩
  | spot r m i =>
    obtain ⟨t, e, h⟩ := h
    subst e
    exact ⟨.tup h (.cons (.num r) (.cons (.num m) (.cons (.num i) .nil))), by simp [pk, NestedKey.depth, NestedKey.depthAll], fun i e => by simp [pk] at e⟩
def plD : PM.Pl → PyData
  | .beg => .str sBeg
  | .fin => .str sFin
  | .spot r m i => .tuple [.int r, .int m, .int i]
theorem PlIn.dp {K : PySem.W.Frag} {H : Hp} {q : PM.Pl} {v : V} (h : PlIn H q v) : Dp K H v (plD q) := by
  cases q with
  | beg => have h : v = .str sBeg := h; subst h; exact .str _
  | fin => have h : v = .str sFin := h; subst h; exact .str _
  | spot r m i =>
    obtain ⟨t, e, h⟩ := h
    subst e
    exact .tup (.inl (.inl h)) (.cons (.int r) (.cons (.int m) (.cons (.int i) .nil)))
theorem sBeg_ok : SeqAt.shaped (.str sBeg) = true := by decide +kernel
theorem sFin_ok : SeqAt.shaped (.str sFin) = true := by decide +kernel
theorem plD_ok (q : PM.Pl) : SeqAt.shaped (plD q) = true := by
  cases q with
  | beg => exact sBeg_ok
  | fin => exact sFin_ok
  | spot r m i => rfl
theorem plD_beg (q : PM.Pl) : PyData.eqv (plD q) (.str sBeg) = decide (q = .beg) := by
  cases q with
  | beg => simp [plD, PyData.eqv]
  | fin =>
    have : (sFin == sBeg) = false := by decide +kernel
    simp [plD, PyData.eqv, this]
  | spot r m i => simp [plD, PyData.eqv]
theorem plD_fin (q : PM.Pl) : PyData.eqv (plD q) (.str sFin) = decide (q = .fin) := by
  cases q with
  | beg =>
    have : (sBeg == sFin) = false := by decide +kernel
    simp [plD, PyData.eqv, this]
  | fin => simp [plD, PyData.eqv]
  | spot r m i => simp [plD, PyData.eqv]
theorem plD_eqv (p q : PM.Pl) : PyData.eqv (plD p) (plD q) = decide (p = q) := by
  cases q with
  | beg => exact plD_beg p
  | fin => exact plD_fin p
  | spot r m i =>
    cases p with
    | beg => simp [plD, PyData.eqv]
    | fin => simp [plD, PyData.eqv]
    | spot r' m' i' =>
      by_cases h1 : r' = r <;> by_cases h2 : m' = m <;> by_cases h3 : i' = i <;> simp [plD, PyData.eqv, PyData.eqvAll, h1, h2, h3]

/-! ### ways: pairs of places -/
def PrIn (H : Hp) (e : PM.Eg) (v : V) : Prop := ∃ (t : Addr) (x y : V), v = .ref t ∧ H t = some (.tup [x, y]) ∧ PlIn H e.1 x ∧ PlIn H e.2 y
theorem PrIn.mono {H H' : Hp} (ht : ∀ b ys, H b = some (.tup ys) → H' b = some (.tup ys)) {e : PM.Eg} {v : V} (h : PrIn H e v) : PrIn H' e v :=
  let ⟨t, x, y, e1, h1, h2, h3⟩ := h; ⟨t, x, y, e1, ht _ _ h1, h2.mono ht, h3.mono ht⟩
def ek (e : PM.Eg) : NestedKey := .tup [pk e.1, pk e.2]
theorem ek_inj {a b : PM.Eg} (h : ek a = ek b) : a = b := by
  unfold ek at h
  injection h with h
  injection h with h1 h
  injection h with h2 _
  exact Prod.ext (pk_inj h1) (pk_inj h2)
theorem pk_depth (p : PM.Pl) : (pk p).depth ≤ 1 := by cases p <;> simp [pk, NestedKey.depth, NestedKey.depthAll]
theorem PrIn.ok {H : Hp} {e : PM.Eg} {v : V} (h : PrIn H e v) : KOk H (ek e) v := by
  obtain ⟨t, x, y, e1, h1, h2, h3⟩ := h
  subst e1
  refine ⟨.tup h1 (.cons h2.ok.1 (.cons h3.ok.1 .nil)), ?_, fun i e => by simp [ek] at e⟩
  have a := pk_depth e.1
  have b := pk_depth e.2
  simp only [ek, NestedKey.depth, NestedKey.depthAll]
  omega
/-- the dict of the ways in use -/
def UsedAt (w : World) (H : Hp) (u : Addr) (U : List PM.Eg) : Prop := ∃ kvs : ME, H u = some (dmO u w kvs) ∧ Paired (fun (p : NestedKey × V × V) (e : PM.Eg) => p.1 = ek e ∧ PrIn H e p.2.1) kvs U
/-- what stands ahead -/
def OpIn (H : Hp) : Option PM.Pl → V → Prop
  | none, v => v = .non
  | some p, v => PlIn H p v
theorem OpIn.mono {H H' : Hp} (ht : ∀ b ys, H b = some (.tup ys) → H' b = some (.tup ys)) {q : Option PM.Pl} {v : V} (h : OpIn H q v) : OpIn H' q v := by
  cases q with
  | none => exact h
  | some p => exact PlIn.mono ht h
/-- the dict of what was come to -/
def FoundAt (w : World) (H : Hp) (d : Addr) (fs : List (PM.Pl × Option PM.Pl)) : Prop := ∃ kvs : ME, H d = some (dmO d w kvs) ∧ Paired (fun (p : NestedKey × V × V) (e : PM.Pl × Option PM.Pl) => p.1 = pk e.1 ∧ PlIn H e.1 p.2.1 ∧ OpIn H e.2 p.2.2) kvs fs
theorem UsedAt.mono {w : World} {H H' : Hp} (s : Same H H') {u : Addr} {U : List PM.Eg} (h : UsedAt w H u U) : UsedAt w H' u U := let ⟨k, e, h⟩ := h; ⟨k, s _ _ e, paired_mono h fun _ _ q => ⟨q.1, q.2.mono (tups_of s)⟩⟩
theorem FoundAt.mono {w : World} {H H' : Hp} (s : Same H H') {d : Addr} {fs : List (PM.Pl × Option PM.Pl)} (h : FoundAt w H d fs) : FoundAt w H' d fs :=
  let ⟨k, e, h⟩ := h; ⟨k, s _ _ e, paired_mono h fun _ _ q => ⟨q.1, q.2.1.mono (tups_of s), q.2.2.mono (tups_of s)⟩⟩
/-- the floor, the rooms and the time that most defs are handed -/
structure AskAt (C : Addr) (H : Hp) (f l1 l2 : Addr) (rooms : Int) (ds : List (Int × Int)) (first wanted : List Int) : Prop where
  fl : FloorAt C H f rooms ds
  fi : IntsL H l1 first
  wa : IntsL H l2 wanted
theorem AskAt.mono {C : Addr} {H H' : Hp} (s : Same H H') {f l1 l2 : Addr} {rooms : Int} {ds : List (Int × Int)} {first wanted : List Int} (h : AskAt C H f l1 l2 rooms ds first wanted) : AskAt C H' f l1 l2 rooms ds first wanted :=
  ⟨h.fl.mono s, h.fi.mono s, h.wa.mono s⟩
/-- stands: tuples of ints -/
def StIn (H : Hp) (v : V) (xs : List Int) : Prop := ∃ t : Addr, v = .ref t ∧ H t = some (.tup (xs.map V.int))
theorem StIn.mono {H H' : Hp} (ht : ∀ b ys, H b = some (.tup ys) → H' b = some (.tup ys)) {v : V} {xs : List Int} (h : StIn H v xs) : StIn H' v xs := let ⟨t, e, h⟩ := h; ⟨t, e, ht _ _ h⟩
def PlanL (H : Hp) (l : Addr) (ps : List (List Int)) : Prop := ∃ vs, H l = some (.lst vs) ∧ Paired (StIn H) vs ps
theorem PlanL.mono {H H' : Hp} (s : Same H H') {l : Addr} {ps : List (List Int)} (h : PlanL H l ps) : PlanL H' l ps := let ⟨vs, e, h⟩ := h; ⟨vs, s _ _ e, paired_mono h fun _ _ q => q.mono (tups_of s)⟩
theorem paired_at {α β : Type} {F : α → β → Prop} : ∀ {l : List α} {m : List β} {i : Nat} {b : β}, Paired F l m → m[i]? = some b → ∃ a, l[i]? = some a ∧ F a b
  | _, _, i, b, .nil, h => by simp at h
  | _, _, 0, b, .cons r t, h => by simp at h; subst h; exact ⟨_, rfl, r⟩
  | _, _, i + 1, b, .cons r t, h => by
    obtain ⟨a, h1, h2⟩ := paired_at (i := i) t (by simpa using h)
    exact ⟨a, by simpa using h1, h2⟩
theorem ints_at {xs : List Int} {i : Nat} {x : Int} (h : xs[i]? = some x) : (xs.map V.int)[i]? = some (.int x) := by rw [List.getElem?_map, h]; rfl
theorem ints_of {xs : List Int} {i : Nat} {v : V} (h : (xs.map V.int)[i]? = some v) : ∃ x, xs[i]? = some x ∧ v = .int x := by
  rw [List.getElem?_map] at h
  cases e : xs[i]? with
  | none => rw [e] at h; cases h
  | some x => rw [e] at h; exact ⟨x, rfl, (Option.some.inj h).symm⟩
theorem line64 {n : Nat} (h : n ≤ 100000) : n ≤ sizeLine := Nat.le_trans h (by decide)
theorem line63 {n : Nat} (h : n ≤ 100000) : n < sizeLine := Nat.lt_of_le_of_lt h (by decide)

/-! ### rules within a comprehension: K and w named -/
section
variable {X : Cx}
theorem pe_popK (K : PySem.W.Frag) {o e : Expr} {to : TE} {apos cpos : Pos} {ts : TA} (ho : PE X o to) (ha : PA X [e] ts)
    (hK : X.K = K := by rfl)
    (hbase : attributeBase o "pop" X.env (eval o X.env) = eval o X.env := by rfl)
    (hfew : ((backTo cpos (starEach [e] X.env)).all (fun x => !x.1) && (backToKw cpos (keywordEach [] X.env)).all (fun x => x.1.isSome)
      && decide (([e] : List Expr).length + ([] : List Keyword).length + (if ([] : List Keyword).isEmpty then 0 else 1) < 30)) = true := by rfl)
    (hline : (apos.endLine == cpos.line) = true := by rfl) (hs : starEach [e] X.env = (false, eval e X.env) :: starEach [] X.env := by rfl) (hplain : (backTo cpos (starEach [] X.env)).any (·.1) = false := by rfl) :
    PE X (.Call (.Attribute o "pop" apos) [e] [] cpos) (tBM K "list" rPopAt to ts) :=
  hK ▸ pe_bm PySem.F.plainAttrs_list PySem.F.slot_list_pop PySem.F.type_list_pop mt_popAt ho ha hbase hfew hline hs hplain
theorem pe_fldK (K : PySem.W.Frag) {e : Expr} {f : Str} {pos : Pos} {ta : TE} (he : PE X e ta) (hK : X.K = K := by rfl) (hb : attributeBase e f X.env (eval e X.env) = eval e X.env := by rfl) : PE X (.Attribute e f pos) (tFld K ta f) := hK ▸ pe_fld he hb
theorem ix_listK (K : PySem.W.Frag) (hK : X.K = K := by rfl) : IxR X (rIxL K) := hK ▸ ix_list
theorem ix_tupK (K : PySem.W.Frag) (hK : X.K = K := by rfl) : IxR X (rIxT K) := hK ▸ ix_tup
theorem lenK (K : PySem.W.Frag) (hK : X.K = K := by rfl) : CallR X (.builtin "len") (fun xs H Q => ∃ p ys, xs = [.ref p] ∧ (SqL K H p ys ∨ SqT K H p ys) ∧ Q (.int ys.length) H) := hK ▸ call_len_seq
theorem tupleK (K : PySem.W.Frag) (hK : X.K = K := by rfl) : CallR X (.type "tuple") (fun xs H Q => ∃ p ys, xs = [.ref p] ∧ ((SqL K H p ys ∧ ∀ l, H l = none → Q (.ref l) (upd H l (.tup ys))) ∨ (SqT K H p ys ∧ Q (.ref p) H))) := hK ▸ call_tuple_of
theorem inSeqK (K : PySem.W.Frag) (hK : X.K = K := by rfl) : OpR X (compareOp .In) (rIn K false) := hK ▸ op_in_seq
theorem notInSeqK (K : PySem.W.Frag) (hK : X.K = K := by rfl) : OpR X (compareOp .NotIn) (rIn K true) := hK ▸ op_notIn_seq
theorem inDK (K : PySem.W.Frag) (hu : X.A.units + 65 < cLine) (hK : X.K = K := by rfl) : OpR X (compareOp .In) (rInD K) := hK ▸ op_inD hu
theorem notInDK (K : PySem.W.Frag) (hu : X.A.units + 65 < cLine) (hK : X.K = K := by rfl) : OpR X (compareOp .NotIn) (rNotInD K) := hK ▸ op_notInD hu
theorem eqDK (K : PySem.W.Frag) (hu : X.A.units + 64 < cLine) (hK : X.K = K := by rfl) : OpR X (compareOp .Eq) (rEqD K) := hK ▸ op_eqD hu
theorem neDK (K : PySem.W.Frag) (hu : X.A.units + 64 < cLine) (hK : X.K = K := by rfl) : OpR X (compareOp .NotEq) (rNeD K) := hK ▸ op_neD hu
theorem gePK (K : PySem.W.Frag) (hu : X.A.units < cLine) (hK : X.K = K := by rfl) : OpR X (compareOp .GtE) (rGeP K) := hK ▸ op_geP hu
theorem inMK (w : World) {k0 : Nat} (hr : Room k0 X.A) (hw : X.w = w := by rfl) : OpR X (compareOp .In) (rInM w) := hw ▸ or_inM hr
theorem notInMK (w : World) {k0 : Nat} (hr : Room k0 X.A) (hw : X.w = w := by rfl) : OpR X (compareOp .NotIn) (rNotInM w) := hw ▸ or_notInM hr
theorem asMW (w : World) {e : Expr} {t : TE} (h : PE X e t) (hw : X.w = w := by rfl) : PE X e (tAsM w t) := hw ▸ pe_asM h
theorem setMW (w : World) {k0 : Nat} (hr : Room k0 X.A) (hw : X.w = w := by rfl) : PSet X (rSetM w) := hw ▸ set_m hr
theorem ixMW (w : World) {k0 : Nat} (hr : Room k0 X.A) (hw : X.w = w := by rfl) : IxR X (rGetM w) := hw ▸ ix_m hr
theorem piMW (w : World) {tg e : Expr} {td : TE} (he : PE X e td) (hw : X.w = w := by rfl) : PI X tg e (iM w td) := hw ▸ pi_m he
theorem mpopW (w : World) {k0 : Nat} {o e : Expr} {td ty : TE} {apos cpos : Pos} (hr : Room k0 X.A) (ho : PE X o td) (he : PE X e ty) (m : M1 X o "pop" apos e cpos) (hw : X.w = w := by rfl) : PE X (.Call (.Attribute o "pop" apos) [e] [] cpos) (tMPop w td ty) := hw ▸ pe_mpop hr ho he m
theorem piLK (K : PySem.W.Frag) {tg l : Expr} {tl : TE} (hl : PE X l tl) (hK : X.K = K := by rfl) : PI X tg l (iList K tl) := hK ▸ pi_list hl
theorem roomU {k0 : Nat} {A : Around} (hr : Room k0 A) : A.units + 65 < cLine := by have := hr.un; omega
end
/-! ### comprehensions of one and the same bool -/
section
variable {g : TG} {tt : TT} {te : TE} {vs : List Nat} {σ : L2.St} {H1 : Hp} {D : Addr} {Qd : Hp → Prop} {b : Bool}
def bls (n : Nat) (b : Bool) : List Bool := List.replicate n b
theorem bls_all (n : Nat) : (bls n true).all id = true := by
  unfold bls
  rw [List.all_replicate]
  cases n <;> rfl
theorem bls_any (n : Nat) : (bls n false).any id = false := by
  unfold bls
  rw [List.any_replicate]
  cases n <;> rfl
theorem bls_push {H : Hp} {i : Nat} : upd H D (.lst ((bls i b).map V.bl ++ [.bl b])) D = some (.lst ((bls (i + 1) b).map V.bl)) := by
  rw [upd_same]
  unfold bls
  rw [List.replicate_succ', List.map_append]
  rfl
theorem lcb_range {lo : Int} {n : Nat} (hD : H1 D = none) (hn : n ≤ 1000)
    (he : ∀ i H (Q : VK) (N : Hp → Prop), i < n → Same H1 H → (∀ H', Same H H' → Q (.bl b) H') → g (.int (lo + (i : Nat))) (wipe σ vs) H fun σ2 H2 => wipe σ2 vs = wipe σ vs ∧ tt σ2 H2 fun c H3 => if c = true then te σ2 H3 Q else N H3)
    (hd : ∀ H, Same H1 H → H D = some (.lst ((bls n b).map V.bl)) → Qd H) :
    ∃ W : Nat → Nat → Hp → Prop, (∃ m, W 0 m (upd H1 D (.lst []))) ∧ ∀ i m H, W i m H →
      ((Itr lo n).stop i H ∧ Qd H) ∨ ((Itr lo n).go i H ∧ ∃ Nx : Hp → Prop, (∀ H', Nx H' → ∃ m', m' < m ∧ W (i + 1) m' H') ∧ ∀ x H', (Itr lo n).yld i H x H' → g x (wipe σ vs) H' fun σ2 H2 => wipe σ2 vs = wipe σ vs ∧ tt σ2 H2 fun b H3 =>
        if b = true then te σ2 H3 fun y H4 => ∃ acc, H4 D = some (.lst acc) ∧ acc.length < sizeLine ∧ Nx (upd H4 D (.lst (acc ++ [y]))) else Nx H3) :=
  lc_range (fun i H => Same H1 H ∧ H D = some (.lst ((bls i b).map V.bl))) ⟨same_upd hD, upd_same⟩
    (fun i H hi ⟨s, e⟩ => he i H _ _ hi s fun H' s' => ⟨_, s' _ _ e, line63 (by unfold bls; rw [List.length_map, List.length_replicate]; omega), same_updM (s.trans s') hD, bls_push⟩)
    (fun H ⟨s, e⟩ => hd H s e)
theorem lcb_list {K : PySem.W.Frag} {a : Addr} {xs : List V} (hD : H1 D = none) (hn : xs.length ≤ 1000) (hl : ∀ H, Same H1 H → SqL K H a xs)
    (he : ∀ (i : Nat) (x : V) (H : Hp) (Q : VK) (N : Hp → Prop), xs[i]? = some x → Same H1 H → (∀ H', Same H H' → Q (.bl b) H') → g x (wipe σ vs) H fun σ2 H2 => wipe σ2 vs = wipe σ vs ∧ tt σ2 H2 fun c H3 => if c = true then te σ2 H3 Q else N H3)
    (hd : ∀ H, Same H1 H → H D = some (.lst ((bls xs.length b).map V.bl)) → Qd H) :
    ∃ W : Nat → Nat → Hp → Prop, (∃ m, W 0 m (upd H1 D (.lst []))) ∧ ∀ i m H, W i m H →
      ((Itl K a).stop i H ∧ Qd H) ∨ ((Itl K a).go i H ∧ ∃ Nx : Hp → Prop, (∀ H', Nx H' → ∃ m', m' < m ∧ W (i + 1) m' H') ∧ ∀ x H', (Itl K a).yld i H x H' → g x (wipe σ vs) H' fun σ2 H2 => wipe σ2 vs = wipe σ vs ∧ tt σ2 H2 fun b H3 =>
        if b = true then te σ2 H3 fun y H4 => ∃ acc, H4 D = some (.lst acc) ∧ acc.length < sizeLine ∧ Nx (upd H4 D (.lst (acc ++ [y]))) else Nx H3) :=
  lc_list (fun i H => i ≤ xs.length ∧ Same H1 H ∧ H D = some (.lst ((bls i b).map V.bl))) ⟨Nat.zero_le _, same_upd hD, upd_same⟩ (fun i H _ h => hl H h.2.1)
    (fun i x H hx ⟨_, s, e⟩ => he i x H _ _ hx s fun H' s' => ⟨_, s' _ _ e, line63 (by
      have := (List.getElem?_eq_some_iff.mp hx).1
      unfold bls
      rw [List.length_map, List.length_replicate]
      omega), (List.getElem?_eq_some_iff.mp hx).1, same_updM (s.trans s') hD, bls_push⟩)
    (fun H ⟨_, s, e⟩ => hd H s e)
theorem lcb_tup {K : PySem.W.Frag} {a : Addr} {xs : List V} (hD : H1 D = none) (hn : xs.length ≤ 1000) (hl : ∀ H, Same H1 H → SqT K H a xs)
    (he : ∀ (i : Nat) (x : V) (H : Hp) (Q : VK) (N : Hp → Prop), xs[i]? = some x → Same H1 H → (∀ H', Same H H' → Q (.bl b) H') → g x (wipe σ vs) H fun σ2 H2 => wipe σ2 vs = wipe σ vs ∧ tt σ2 H2 fun c H3 => if c = true then te σ2 H3 Q else N H3)
    (hd : ∀ H, Same H1 H → H D = some (.lst ((bls xs.length b).map V.bl)) → Qd H) :
    ∃ W : Nat → Nat → Hp → Prop, (∃ m, W 0 m (upd H1 D (.lst []))) ∧ ∀ i m H, W i m H →
      ((Itt K a).stop i H ∧ Qd H) ∨ ((Itt K a).go i H ∧ ∃ Nx : Hp → Prop, (∀ H', Nx H' → ∃ m', m' < m ∧ W (i + 1) m' H') ∧ ∀ x H', (Itt K a).yld i H x H' → g x (wipe σ vs) H' fun σ2 H2 => wipe σ2 vs = wipe σ vs ∧ tt σ2 H2 fun b H3 =>
        if b = true then te σ2 H3 fun y H4 => ∃ acc, H4 D = some (.lst acc) ∧ acc.length < sizeLine ∧ Nx (upd H4 D (.lst (acc ++ [y]))) else Nx H3) :=
  lc_tup (fun i H => i ≤ xs.length ∧ Same H1 H ∧ H D = some (.lst ((bls i b).map V.bl))) ⟨Nat.zero_le _, same_upd hD, upd_same⟩ (fun i H _ h => hl H h.2.1)
    (fun i x H hx ⟨_, s, e⟩ => he i x H _ _ hx s fun H' s' => ⟨_, s' _ _ e, line63 (by
      have := (List.getElem?_eq_some_iff.mp hx).1
      unfold bls
      rw [List.length_map, List.length_replicate]
      omega), (List.getElem?_eq_some_iff.mp hx).1, same_updM (s.trans s') hD, bls_push⟩)
    (fun H ⟨_, s, e⟩ => hd H s e)
end
/-! ### comprehensions: what each turn gives, or that it is left out -/
section
variable {g : TG} {tt : TT} {te : TE} {vs : List Nat} {σ : L2.St} {H1 : Hp} {D : Addr} {Qd : Hp → Prop} {J : It} {n : Nat} {G : Hp → Prop} {Y : Nat → Hp → V → Hp → Prop} {β : Type} {R : Hp → β → V → Prop}
theorem lcf (wk : Walk J n G Y) (f : Nat → Option β) (hY : ∀ i H x H', Y i H x H' → H' = H) (hD : H1 D = none) (hn : n ≤ 90000) (hG : ∀ H, Same H1 H → G H)
    (hR : ∀ H H' z y, Same (hid D H) H' → (∀ ys, H D ≠ some (.tup ys)) → R H z y → R H' z y)
    (he : ∀ i x H (Q : VK) (N : Hp → Prop), i < n → Same H1 H → (∃ us, H D = some (.lst us)) → Y i H x H → (∀ z, f i = some z → ∀ H2 y, Same H H2 → R H2 z y → Q y H2) → (f i = none → ∀ H2, Same H H2 → N H2) →
      g x (wipe σ vs) H fun σ2 H2 => wipe σ2 vs = wipe σ vs ∧ tt σ2 H2 fun c H3 => if c = true then te σ2 H3 Q else N H3)
    (hd : ∀ H us, Same H1 H → H D = some (.lst us) → Paired (fun v z => R H z v) us ((List.range n).filterMap f) → Qd H) :
    ∃ W : Nat → Nat → Hp → Prop, (∃ m, W 0 m (upd H1 D (.lst []))) ∧ ∀ i m H, W i m H →
      (J.stop i H ∧ Qd H) ∨ (J.go i H ∧ ∃ Nx : Hp → Prop, (∀ H', Nx H' → ∃ m', m' < m ∧ W (i + 1) m' H') ∧ ∀ x H', J.yld i H x H' → g x (wipe σ vs) H' fun σ2 H2 => wipe σ2 vs = wipe σ vs ∧ tt σ2 H2 fun b H3 =>
        if b = true then te σ2 H3 fun y H4 => ∃ acc, H4 D = some (.lst acc) ∧ acc.length < sizeLine ∧ Nx (upd H4 D (.lst (acc ++ [y]))) else Nx H3) := by
  refine lc_it wk (fun i H => Same H1 H ∧ ∃ us, H D = some (.lst us) ∧ us.length ≤ i ∧ Paired (fun v z => R H z v) us ((List.range i).filterMap f)) ⟨same_upd hD, [], upd_same, Nat.le_refl _, .nil⟩ (fun i H _ h => hG H h.1) ?_ ?_
  · rintro i x H H' hi ⟨s, us, e, hl, p⟩ y
    obtain rfl := hY _ _ _ _ y
    have lst : ∀ {us : List V} {H : Hp}, H D = some (.lst us) → ∀ ys, H D ≠ some (.tup ys) := fun {us H} e ys z => by
      rw [e] at z
      cases z
    refine he i x H' _ _ hi s ⟨us, e⟩ y (fun z hz H2 y s2 r => ?_) (fun hz H2 s2 => ?_)
    · have e2 := s2 _ _ e
      refine ⟨us, e2, line63 (by omega), same_updM (s.trans s2) hD, us ++ [y], upd_same, by rw [List.length_append]; exact Nat.succ_le_succ hl, ?_⟩
      rw [List.range_succ, List.filterMap_append]
      have : (List.filterMap f [i]) = [z] := by simp [hz]
      rw [this]
      refine Paired.snoc (paired_mono p fun v z r => ?_) ?_
      · exact hR _ _ _ _ hid_upd (lst e2) (hR _ _ _ _ (hid_le.trans s2) (lst e) r)
      · exact hR _ _ _ _ hid_upd (lst e2) r
    · refine ⟨s.trans s2, us, s2 _ _ e, Nat.le_succ_of_le hl, ?_⟩
      rw [List.range_succ, List.filterMap_append]
      have : (List.filterMap f [i]) = [] := by simp [hz]
      rw [this, List.append_nil]
      exact paired_mono p fun v z r => hR _ _ _ _ (hid_le.trans s2) (lst e) r
  · rintro H ⟨s, us, e, hl, p⟩
    exact hd H us s e p
end
theorem plin_mv {D : Addr} : ∀ (H H' : Hp) (z : PM.Pl) (y : V), Same (hid D H) H' → (∀ ys, H D ≠ some (.tup ys)) → PlIn H z y → PlIn H' z y := fun _ _ _ _ s hn h => h.mono (tups_hid s hn)
theorem prin_mv {D : Addr} : ∀ (H H' : Hp) (z : PM.Eg) (y : V), Same (hid D H) H' → (∀ ys, H D ≠ some (.tup ys)) → PrIn H z y → PrIn H' z y := fun _ _ _ _ s hn h => h.mono (tups_hid s hn)
theorem mem_fm {α β : Type} {xs : List α} {f : Nat → Option β} (h : α → Option β) (hf : ∀ i x, xs[i]? = some x → f i = h x) (z : β) : z ∈ (List.range xs.length).filterMap f ↔ ∃ x ∈ xs, h x = some z := by
  rw [List.mem_filterMap]
  constructor
  · rintro ⟨i, hi, e⟩
    have hi := List.mem_range.mp hi
    have g := List.getElem?_eq_getElem hi
    exact ⟨xs[i], List.getElem_mem hi, by rw [← hf i _ g]; exact e⟩
  · rintro ⟨x, hx, e⟩
    obtain ⟨i, hi⟩ := List.mem_iff_getElem?.mp hx
    exact ⟨i, List.mem_range.mpr (List.getElem?_eq_some_iff.mp hi).1, by rw [hf i x hi]; exact e⟩
/-! ### what the text's top has -/
structure Txt (K : PySem.W.Frag) (mg : Str → Option Value) (C : Addr) : Prop where
  cl : Cls K C
  nR : NoAttr K C "rooms"
  nD : NoAttr K C "doors"
  mgC : mg "Floor" = some (.ref C)
  len : mg "len" = none
  range : mg "range" = none
  all : mg "all" = none
  any : mg "any" = none
  set : mg "set" = none
  sorted : mg "sorted" = none
  tuple : mg "tuple" = none
  dict : mg "dict" = none
  list : mg "list" = none
  max : mg "max" = none
  min : mg "min" = none
  int : mg "int" = none
  porters : ∃ t, mg "MOST_PORTERS" = some (.int 4 t)
  time : ∃ t, mg "MOST_TIME" = some (.int 8 t)
  roomsN : ∃ t, mg "MOST_ROOMS" = some (.int 8 t)
  beg : ∃ t, mg "BEGIN" = some (.str sBeg t)
  fin : ∃ t, mg "END" = some (.str sFin t)
end PW
set_option Elab.async false
set_option linter.all false
set_option maxRecDepth 100000
set_option maxHeartbeats 4000000
namespace PW
open PySem PySem.Spec PyProof.Rows L2 PMD
/-! ### Floor.near -/
abbrev sNear : Stmt := inClass (topS 39) 1
theorem scNear : FnScope ["self", "room", "found", "one", "other"] ["self", "room"] (defScope sNear) := ⟨rfl, rfl, rfl, by decide +kernel, rfl, by decide +kernel, by decide +kernel⟩
def spNear (C : Addr) : Sp := fun vs H Q _ => ∃ (f : Addr) (r rooms : Int) (ds : List (Int × Int)), vs = [.ref f, .int r] ∧ FloorAt C H f rooms ds ∧
  ∀ H' p ns, Same H H' → H p = none → IntsL H' p ns → (∀ o, o ∈ ns ↔ PM.Adj ds r o) → ns.length ≤ 200 → Q (.ref p) H'
theorem near_turn {ds : List (Int × Int)} {i : Nat} {a b r : Int} (h : ds[i]? = some (a, b)) {xs : List Int} (hx : ∀ o, o ∈ xs ↔ PM.Adj (ds.take i) r o) :
    ∀ o, o ∈ (xs ++ (if a = r then [b] else [])) ++ (if b = r then [a] else []) ↔ PM.Adj (ds.take (i + 1)) r o := by
  intro o
  have e : ds.take (i + 1) = ds.take i ++ [(a, b)] := by rw [List.take_add_one, h]; rfl
  unfold PM.Adj at hx ⊢
  rw [e]
  simp only [List.mem_append, hx o, List.mem_singleton, Prod.mk.injEq]
  by_cases h1 : a = r <;> by_cases h2 : b = r
  · rw [if_pos h1, if_pos h2]; simp only [List.mem_singleton]
    constructor
    · rintro ((h | h) | h)
      · exact h.elim (fun z => .inl (.inl z)) fun z => .inr (.inl z)
      · exact .inl (.inr ⟨h1.symm, h⟩)
      · exact .inr (.inr ⟨h, h2.symm⟩)
    · rintro ((h | ⟨_, h⟩) | (h | ⟨h, _⟩))
      · exact .inl (.inl (.inl h))
      · exact .inl (.inr h)
      · exact .inl (.inl (.inr h))
      · exact .inr h
  · rw [if_pos h1, if_neg h2]; simp only [List.mem_singleton, List.not_mem_nil]
    constructor
    · rintro ((h | h) | h)
      · exact h.elim (fun z => .inl (.inl z)) fun z => .inr (.inl z)
      · exact .inl (.inr ⟨h1.symm, h⟩)
      · exact h.elim
    · rintro ((h | ⟨_, h⟩) | (h | ⟨_, h⟩))
      · exact .inl (.inl (.inl h))
      · exact .inl (.inr h)
      · exact .inl (.inl (.inr h))
      · exact absurd h.symm h2
  · rw [if_neg h1, if_pos h2]; simp only [List.mem_singleton, List.not_mem_nil]
    constructor
    · rintro ((h | h) | h)
      · exact h.elim (fun z => .inl (.inl z)) fun z => .inr (.inl z)
      · exact h.elim
      · exact .inr (.inr ⟨h, h2.symm⟩)
    · rintro ((h | ⟨h, _⟩) | (h | ⟨h, _⟩))
      · exact .inl (.inl (.inl h))
      · exact absurd h.symm h1
      · exact .inl (.inl (.inr h))
      · exact .inr h
  · rw [if_neg h1, if_neg h2]; simp only [List.not_mem_nil]
    constructor
    · rintro ((h | h) | h)
      · exact h.elim (fun z => .inl (.inl z)) fun z => .inr (.inl z)
      · exact h.elim
      · exact h.elim
    · rintro ((h | ⟨h, _⟩) | (h | ⟨_, h⟩))
      · exact .inl (.inl (.inl h))
      · exact absurd h.symm h1
      · exact .inl (.inl (.inr h))
      · exact absurd h.symm h2
section
variable {P : Program} {w : World} {K : PySem.W.Frag} {mg : Str → Option Value} {base : Heap}
theorem ok_near {f C : Addr} {fd : FuncData} (F : Fun K "near" "Floor.near" sNear f fd) (T : Txt K mg C) : FnOk P w K mg base CX0 1 f fd ["self", "room"] (spNear C) := by
  refine F.ok scNear (fun vs H Q E h => ?_) (fun cdv A outer s H vs Q E hr h => ?_)
  · obtain ⟨f, r, rooms, ds, rfl, _⟩ := h
    rfl
  · obtain ⟨f, r, rooms, ds, rfl, hF, q⟩ := h
    obtain ⟨dx, l, hf, dvs, hl, hp⟩ := id hF.there
    have hlen : dvs.length = ds.length := Paired.length hp
    refine ⟨_, pss_cons (ps_set (i := 2) scNear.nd rfl (.inl rfl) (pe_lst pa_nil))
      (pss_cons (ps_for PassesOwn.never rfl (pi_list (pe_fld (pv 0) rfl)) (pg_tup rfl (pgs_cons (pg_name (i := 3) scNear.nd rfl (.inl rfl)) (pgs_cons (pg_name (i := 4) scNear.nd rfl (.inl rfl)) pgs_nil)))
        (Evl.pss_cut (ps_if (pt_cmpR op_eq (pv 3) (pv 1) (nomark _)) (pss_one (ps_expr (pe_bm PySem.F.plainAttrs_list PySem.F.slot_list_append PySem.F.type_list_append mt_append (pv 2) (pa_cons (pv 4) pa_nil)))) pss_nil)
          (pss_one (ps_if (pt_cmpR op_eq (pv 4) (pv 1) (nomark _)) (pss_one (ps_expr (pe_bm PySem.F.plainAttrs_list PySem.F.slot_list_append PySem.F.type_list_append mt_append (pv 2) (pa_cons (pv 3) pa_nil)))) pss_nil))))
      (pss_one (ps_ret (pe_callB cr_sortedI (by rfl) T.sorted (by decide +kernel) (pa_cons (pv 2) pa_nil))))), ?_⟩
    refine ⟨Nat.zero_le _, fun o no => ?_⟩
    have s0 : Same H (upd H o (.lst [])) := same_upd no
    have e0 : upd H o (.lst []) o = some (.lst []) := upd_same
    refine ⟨_, rfl, f, C, dx, _, _, rfl, s0 _ _ hf, T.cl, T.nD, fs2_doors _ _, l, rfl, ⟨_, .inl (.inl (s0 _ _ hl))⟩, ?_⟩
    refine for_list (K := K) (a := l) (xs := dvs) (fun i σ H' => ∃ y3 y4 xs, σ = [some (.ref f), some (.int r), some (.ref o), y3, y4] ∧ Same H H' ∧ IntsL H' o xs ∧ xs.length ≤ 2 * i ∧ ∀ z, z ∈ xs ↔ PM.Adj (ds.take i) r z)
      ⟨_, _, [], rfl, s0, e0, Nat.le_refl _, fun z => by simp [PM.Adj]⟩ (fun i σ H' _ ⟨_, _, _, _, sm, _⟩ => .inl (.inl (sm _ _ hl))) ?_ ?_
    · rintro i x σ H' hi ⟨y3, y4, xs, rfl, sm, ho, hle, hxs⟩
      have hil : i < ds.length := by
        have := (List.getElem?_eq_some_iff.mp hi).1
        omega
      obtain ⟨⟨da, db⟩, hd⟩ : ∃ y, ds[i]? = some y := ⟨_, List.getElem?_eq_getElem hil⟩
      obtain ⟨x', hx', t, rfl, ht⟩ := paired_at hp hd
      rw [hi] at hx'
      cases hx'
      have ht' := sm _ _ ht
      have nl : xs.length < 200 := by have := hF.few; omega
      refine ⟨t, _, rfl, .inl (.inl ht'), rfl, _, _, rfl, _, _, rfl, rfl, ?_⟩
      have hxs2 := near_turn (r := r) hd hxs
      refine ⟨fun σ2 H2 => σ2 = [some (.ref f), some (.int r), some (.ref o), some (.int da), some (.int db)] ∧ Same H H2 ∧ IntsL H2 o (xs ++ (if da = r then [db] else [])), ?_, ?_⟩
      · refine ⟨_, rfl, _, rfl, rfl, _, rfl, ite2 (fun hc => ?_) (fun hc => ?_)⟩
        · have hc : da = r := V.int.inj (of_decide_eq_true hc)
          refine ⟨_, rfl, .inl ⟨rfl, _, .inl (.inl ho)⟩, _, rfl, o, _, _, rfl, rfl, ho, line63 (by rw [List.length_map]; omega), rfl, same_updM sm no, ?_⟩
          rw [if_pos hc]
          exact ints_push
        · have hc : ¬ da = r := fun z => hc (decide_eq_true (congrArg V.int z))
          refine ⟨rfl, sm, ?_⟩
          rw [if_neg hc, List.append_nil]
          exact ho
      · rintro σ2 H2 ⟨rfl, sm2, ho2⟩
        have nl2 : (xs ++ (if da = r then [db] else [])).length ≤ 2 * i + 1 := by
          rw [List.length_append]
          split <;> simp <;> omega
        refine ⟨_, rfl, _, rfl, rfl, _, rfl, ite2 (fun hc => ?_) (fun hc => ?_)⟩
        · have hc : db = r := V.int.inj (of_decide_eq_true hc)
          rw [if_pos hc] at hxs2
          refine ⟨_, rfl, .inl ⟨rfl, _, .inl (.inl ho2)⟩, _, rfl, o, _, _, rfl, rfl, ho2, line63 (by rw [List.length_map]; have := hF.few; omega), _, _, _, rfl, same_updM sm2 no, ?_, ?_, hxs2⟩
          · exact ints_push
          · rw [List.length_append, List.length_singleton]
            omega
        · have hc : ¬ db = r := fun z => hc (decide_eq_true (congrArg V.int z))
          rw [if_neg hc, List.append_nil] at hxs2
          exact ⟨_, _, _, rfl, sm2, ho2, by omega, hxs2⟩
    · rintro σ H' ⟨y3, y4, xs, rfl, sm, ho, hle, hxs⟩
      refine ⟨_, rfl, o, xs, rfl, .inl (.inl ho), fun ns' p perm _ np => ?_⟩
      rw [List.take_of_length_le (Nat.le_of_eq hlen.symm)] at hxs
      refine q _ p ns' (sm.trans (same_upd np)) (sm.free np) upd_same (fun z => ?_) ?_
      · rw [perm.mem_iff, hxs]
      · rw [perm.length_eq]
        have := hF.few
        omega
end
end PW
set_option Elab.async false
set_option linter.all false
set_option maxRecDepth 100000
set_option maxHeartbeats 4000000
namespace PW
open PySem PySem.Spec PyProof.Rows L2 PMD
/-! ### the law's draws -/
abbrev sCell : Stmt := topS 41
abbrev sBegin : Stmt := topS 42
abbrev sTake : Stmt := topS 43
theorem scCell : FnScope ["script", "k", "base"] ["script", "k"] (defScope sCell) := ⟨rfl, rfl, rfl, by decide +kernel, rfl, by decide +kernel, by decide +kernel⟩
theorem scBegin : FnScope ["script", "k", "cell"] ["script", "k"] (defScope sBegin) := ⟨rfl, rfl, rfl, by decide +kernel, rfl, by decide +kernel, by decide +kernel⟩
theorem scTake : FnScope ["state", "many", "found", "stir"] ["state", "many"] (defScope sTake) := ⟨rfl, rfl, rfl, by decide +kernel, rfl, by decide +kernel, by decide +kernel⟩
def spCell (K : PySem.W.Frag) : Sp := fun vs H Q _ => ∃ (a : Addr) (ns : List Int) (k : Int), vs = [.ref a, .int k] ∧ SqL K H a (ns.map V.int) ∧ 0 ≤ k ∧ ∀ x : Int, Q (.int x) H
def spBegin (K : PySem.W.Frag) : Sp := fun vs H Q _ => ∃ (a : Addr) (ns : List Int) (k : Int), vs = [.ref a, .int k] ∧ SqL K H a (ns.map V.int) ∧ 0 ≤ k ∧ ∀ H' p, Same H H' → H p = none → StateAt H' p → Q (.ref p) H'
def spTake : Sp := fun vs H Q _ => ∃ (st : Addr) (many : Int), vs = [.ref st, .int many] ∧ 0 < many ∧ many < 1000000 ∧ StateAt H st ∧ ∀ H' x, Same (hid st H) H' → StateAt H' st → 0 ≤ x → x < many → Q (.int x) H'
section
variable {P : Program} {w : World} {K : PySem.W.Frag} {mg : Str → Option Value} {base : Heap}
theorem ok_cell {f C : Addr} {fd : FuncData} (F : Fun K "_law_cell" "_law_cell" sCell f fd) (T : Txt K mg C) : FnOk P w K mg base CX0 1 f fd ["script", "k"] (spCell K) := by
  refine F.ok scCell (fun vs H Q E h => ?_) (fun cdv A outer s H vs Q E hr h => ?_)
  · obtain ⟨a, ns, k, rfl, _⟩ := h
    rfl
  · obtain ⟨a, ns, k, rfl, hS, hk, q⟩ := h
    refine ⟨_, pss_cons (ps_if (pt_cmpR op_lt (pv 1) (pe_callB call_len_seq (by rfl) T.len PySem.boot_len (pa_cons (pv 0) pa_nil)) (nomark _)) (pss_one (ps_ret (pe_ix ix_list (pv 0) (pv 1) (fun _ _ => rfl)))) pss_nil)
      (pss_cons (ps_set (i := 2) scCell.nd rfl (.inl rfl) pe_int)
      (Evl.pss_cut (ps_if (pt_cmpR op_gt (pe_callB call_len_seq (by rfl) T.len PySem.boot_len (pa_cons (pv 0) pa_nil)) pe_int (nomark _)) (pss_one (ps_set (i := 2) scCell.nd rfl (.inl rfl) (pe_ix ix_list (pv 0) pe_int (fun _ _ => rfl)))) pss_nil)
      (pss_one (ps_ret (pe_op op_mod (pe_op op_add (pe_op op_mul (pe_op op_mod (pv 2) pe_int) pe_int) (pe_op op_mul (pv 1) pe_int)) pe_int))))), ?_⟩
    have hln : (ns.map V.int).length = ns.length := List.length_map ..
    refine ⟨_, rfl, _, rfl, a, _, rfl, .inl hS, _, _, rfl, rfl, _, rfl, ite2 (fun hc => ?_) (fun hc => ?_)⟩
    · have hc : k < ((ns.map V.int).length : Int) := of_decide_eq_true hc
      rw [hln] at hc
      have hlt : k.toNat < ns.length := by omega
      have hg := ints_at (List.getElem?_eq_getElem hlt)
      refine ⟨_, rfl, _, rfl, a, _, k, .int ns[k.toNat], rfl, rfl, hS, ?_, q _⟩
      have e := atI_nat hg
      rw [Int.toNat_of_nonneg hk] at e
      exact e
    · refine ⟨fun σ2 H2 => ∃ b : Int, σ2 = [some (.ref a), some (.int k), some (.int b)] ∧ H2 = H, ?_, ?_⟩
      · refine ⟨_, rfl, a, _, rfl, .inl hS, _, _, rfl, rfl, _, rfl, ite2 (fun hc => ?_) (fun hc => ?_)⟩
        · have hc : (0 : Int) < ((ns.map V.int).length : Int) := of_decide_eq_true hc
          rw [hln] at hc
          have hlt : 0 < ns.length := by omega
          exact ⟨_, rfl, a, _, 0, .int ns[0], rfl, rfl, hS, atI_nat (j := 0) (ints_at (List.getElem?_eq_getElem hlt)), _, rfl, rfl⟩
        · exact ⟨_, rfl, rfl⟩
      · rintro σ2 H2 ⟨b, rfl, rfl⟩
        exact ⟨_, rfl, _, _, rfl, rfl, (by show (0 : Int) < 65521; decide), _, _, rfl, rfl, .inr ⟨by decide, by decide⟩, _, rfl, _, _, rfl, rfl, .inr ⟨by decide, by decide⟩, _, _, rfl, rfl, _, _, rfl, rfl, (by show (0 : Int) < 65521; decide), q _⟩
theorem ok_begin {f fC C : Addr} {fd fdC : FuncData} (F : Fun K "_law_begin" "_law_begin" sBegin f fd) (T : Txt K mg C) (GC : FnOk P w K mg base CX0 1 fC fdC ["script", "k"] (spCell K)) (kC : PySem.W.keepIn K (.ref fC) = true) (bC : Binds K fdC ["script", "k"] []) (gC : mg "_law_cell" = some (.ref fC)) :
    FnOk P w K mg base CX0 2 f fd ["script", "k"] (spBegin K) := by
  refine F.ok scBegin (fun vs H Q E h => ?_) (fun cdv A outer s H vs Q E hr h => ?_)
  · obtain ⟨a, ns, k, rfl, _⟩ := h
    rfl
  · obtain ⟨a, ns, k, rfl, hS, hk, q⟩ := h
    refine ⟨_, pss_cons (ps_set (i := 2) scBegin.nd rfl (.inl rfl) (pe_call GC hr (by rfl) gC kC bC .nil pass0 (pa_cons (pv 0) (pa_cons (pv 1) pa_nil))))
      (pss_one (ps_ret (pe_lst (pa_cons (pe_callB (call_max2 rfl) (by rfl) T.max (by decide +kernel) (pa_cons (pv 2) (pa_cons (pe_op op_sub pe_int (pv 2)) pa_nil)))
        (pa_cons (pe_callTy call_int1 (by rfl) T.int (by decide +kernel) (pa_cons (pe_cmpR op_ge (pv 2) (pe_op op_pow pe_int pe_int) (nomark _)) pa_nil)) (pa_cons pe_int pa_nil)))))), ?_⟩
    refine ⟨_, rfl, _, rfl, a, ns, k, rfl, hS, hk, fun x => ?_⟩
    refine ⟨_, rfl, _, rfl, _, _, rfl, rfl, _, _, rfl, _, rfl, _, _, rfl, rfl, ⟨by decide, by decide, by decide⟩, _, _, rfl, rfl, .inr ⟨_, rfl, ?_⟩⟩
    exact ⟨Nat.le_of_ble_eq_true rfl, fun p np => q _ p (same_upd np) np ⟨_, _, _, upd_same⟩⟩
theorem ok_take {f C : Addr} {fd : FuncData} (F : Fun K "_law_take" "_law_take" sTake f fd) (T : Txt K mg C) : FnOk P w K mg base CX0 1 f fd ["state", "many"] spTake := by
  refine F.ok scTake (fun vs H Q E h => ?_) (fun cdv A outer s H vs Q E hr h => ?_)
  · obtain ⟨st, many, rfl, _⟩ := h
    rfl
  · obtain ⟨st, many, rfl, hm, hm2, ⟨x, y, z, hS⟩, q⟩ := h
    refine ⟨_, Evl.pss_cut (ps_if (PW.pt (pw_and (pt_cmpR op_eq (pe_ix ix_list (pv 0) pe_int (fun _ _ => rfl)) pe_int (nomark _)) (pw_and1 (pt_cmpR op_gt (pe_ix ix_list (pv 0) pe_int (fun _ _ => rfl)) pe_int (nomark _)))))
        (pss_cons (ps_set (i := 2) scTake.nd rfl (.inl rfl) (pe_op op_modN (pe_ix ix_list (pv 0) pe_int (fun _ _ => rfl)) (pv 1)))
          (pss_cons (ps_asg (pe_op op_fdivN (pe_ix ix_list (pv 0) pe_int (fun _ _ => rfl)) (pv 1)) (pg_sub (pv 0) pe_int set_list)) (pss_one (ps_ret (pv 2))))) pss_nil)
      (pss_cons (ps_asg (pe_op op_add (pe_ix ix_list (pv 0) pe_int (fun _ _ => rfl)) pe_int) (pg_sub (pv 0) pe_int set_list))
      (pss_cons (ps_set (i := 3) scTake.nd rfl (.inl rfl) (pe_op op_mod (pe_op op_mul (pe_op op_add (pe_op op_add (pe_op op_mod (pe_ix ix_list (pv 0) pe_int (fun _ _ => rfl)) pe_int) (pe_op op_mul pe_int (pe_ix ix_list (pv 0) pe_int (fun _ _ => rfl)))) pe_int) pe_int) pe_int))
      (pss_cons (ps_set (i := 3) scTake.nd rfl (.inl rfl) (pe_op op_mod (pe_op op_mul (pv 3) (pv 3)) pe_int))
      (pss_cons (ps_set (i := 3) scTake.nd rfl (.inl rfl) (pe_op op_mod (pe_op op_mul (pe_op op_add (pv 3) (pe_ix ix_list (pv 0) pe_int (fun _ _ => rfl))) pe_int) pe_int))
      (pss_one (ps_ret (pe_op op_modN (pe_op op_fdiv (pe_op op_mod (pe_op op_mul (pv 3) (pv 3)) pe_int) pe_int) (pv 1)))))))), ?_⟩
    have hS0 : ∀ {K : PySem.W.Frag}, SqL K H st [.int x, .int y, .int z] := fun {_} => .inl (.inl hS)
    refine ⟨fun σ2 H2 => σ2 = [some (.ref st), some (.int many), none, none] ∧ H2 = H, ?_, ?_⟩
    · refine ⟨_, rfl, st, _, 1, .int y, rfl, rfl, hS0, rfl, rfl, _, rfl, ite2 (fun hc => ?_) (fun hc => ?_)⟩
      · refine ⟨_, rfl, st, _, 0, .int x, rfl, rfl, hS0, rfl, x, 0, rfl, rfl, _, rfl, ite2 (fun hc2 => ?_) (fun hc2 => ?_)⟩
        · refine ⟨_, rfl, st, _, 0, .int x, rfl, rfl, hS0, rfl, _, rfl, x, many, rfl, rfl, (by omega), ?_⟩
          refine ⟨_, rfl, st, _, 0, .int x, rfl, rfl, hS0, rfl, _, rfl, x, many, rfl, rfl, ⟨by omega, by omega⟩, ?_⟩
          refine ⟨_, rfl, st, _, 0, 0, rfl, rfl, hS, rfl, ?_⟩
          refine ⟨_, rfl, q _ _ hid_upd ⟨_, _, _, upd_same⟩ (Int.fmod_nonneg_of_pos x hm) (Int.fmod_lt_of_pos x hm)⟩
        · exact ⟨rfl, rfl⟩
      · exact ⟨rfl, rfl⟩
    · rintro σ2 H2 ⟨rfl, rfl⟩
      refine ⟨_, rfl, st, _, 2, .int z, rfl, rfl, hS0, rfl, z, 1, rfl, rfl, ?_⟩
      refine ⟨_, rfl, st, _, 2, 2, rfl, rfl, hS, rfl, ?_⟩
      have e1 : upd H2 st (.lst [.int x, .int y, .int (z + 1)]) st = some (.lst [.int x, .int y, .int (z + 1)]) := upd_same
      have s1 : Same (hid st H2) (upd H2 st (.lst [.int x, .int y, .int (z + 1)])) := hid_upd
      show tSeq _ _ _ _ (upd H2 st (.lst [.int x, .int y, .int (z + 1)]))
      generalize upd H2 st (.lst [.int x, .int y, .int (z + 1)]) = H3 at e1 s1
      have hS1 : ∀ {K : PySem.W.Frag}, SqL K H3 st [.int x, .int y, .int (z + 1)] := fun {_} => .inl (.inl e1)
      have pos1 : (0 : Int) < 2147483647 := by decide
      have pos2 : (0 : Int) < 2147483629 := by decide
      refine ⟨_, rfl, st, _, 0, .int x, rfl, rfl, hS1, rfl, x, _, rfl, rfl, pos1, _, rfl, st, _, 2, .int (z + 1), rfl, rfl, hS1, rfl, _, _, rfl, rfl, .inl ⟨by decide, by decide⟩, _, _, rfl, rfl, _, _, rfl, rfl, _, _, rfl, rfl, .inr ⟨by decide, by decide⟩, _, _, rfl, rfl, pos1, ?_⟩
      obtain ⟨a1, ha, a0, a2⟩ : ∃ a1 : Int, ((x % 2147483647 + 7919 * (z + 1) + 17) * 48271 % 2147483647) = a1 ∧ 0 ≤ a1 ∧ a1 < 2147483647 := ⟨_, rfl, Int.emod_nonneg _ (by decide), Int.emod_lt_of_pos _ pos1⟩
      show tSeq _ _ _ [some (.ref st), some (.int many), none, some (.int ((x % 2147483647 + 7919 * (z + 1) + 17) * 48271 % 2147483647))] H3
      rw [ha]
      refine ⟨_, rfl, _, rfl, a1, a1, rfl, rfl, .inl ⟨by omega, by omega⟩, _, _, rfl, rfl, pos1, ?_⟩
      obtain ⟨b1, hb, b0, b2⟩ : ∃ b1 : Int, (a1 * a1 % 2147483647) = b1 ∧ 0 ≤ b1 ∧ b1 < 2147483647 := ⟨_, rfl, Int.emod_nonneg _ (by decide), Int.emod_lt_of_pos _ pos1⟩
      show tSeq _ _ _ [some (.ref st), some (.int many), none, some (.int (a1 * a1 % 2147483647))] H3
      rw [hb]
      refine ⟨_, rfl, _, rfl, st, _, 2, .int (z + 1), rfl, rfl, hS1, rfl, b1, _, rfl, rfl, _, _, rfl, rfl, .inr ⟨by decide, by decide⟩, _, _, rfl, rfl, pos2, ?_⟩
      obtain ⟨c1, hc, c0, c2⟩ : ∃ c1 : Int, ((b1 + (z + 1)) * 69621 % 2147483629) = c1 ∧ 0 ≤ c1 ∧ c1 < 2147483629 := ⟨_, rfl, Int.emod_nonneg _ (by decide), Int.emod_lt_of_pos _ pos2⟩
      dsimp only [gName, List.set]
      rw [hc]
      refine ⟨_, rfl, _, rfl, c1, c1, rfl, rfl, .inl ⟨by omega, by omega⟩, _, _, rfl, rfl, pos2, _, _, rfl, rfl, ⟨by decide, by decide⟩, _, rfl, _, many, rfl, rfl, (by omega), ?_⟩
      exact q _ _ s1 ⟨_, _, _, e1⟩ (Int.fmod_nonneg_of_pos _ hm) (Int.fmod_lt_of_pos _ hm)
end
end PW
set_option Elab.async false
set_option linter.all false
set_option maxRecDepth 100000
set_option maxHeartbeats 4000000
namespace PW
open PySem PySem.Spec PyProof.Rows L2 PMD
/-! ### the law's rooms -/
abbrev sLRooms : Stmt := topS 49
theorem scLRooms : FnScope ["state", "rooms", "many", "left", "turn"] ["state", "rooms", "many"] (defScope sLRooms) := ⟨rfl, rfl, rfl, by decide +kernel, rfl, by decide +kernel, by decide +kernel⟩
def spLRooms : Sp := fun vs H Q _ => ∃ (st : Addr) (rooms many : Int), vs = [.ref st, .int rooms, .int many] ∧ 1 ≤ many ∧ many ≤ 4 ∧ many ≤ rooms ∧ rooms ≤ 8 ∧ StateAt H st ∧
  ∀ H' p xs, Same (hid st H) H' → StateAt H' st → H p = none → IntsL H' p xs → PM.Rooms rooms xs → (xs.length : Int) = many → Q (.ref p) H'
def base8 (rooms : Int) : List Int := (List.range rooms.toNat).map fun (i : Nat) => (i : Int)
theorem base8_rg (rooms : Int) : rgV 0 rooms = (base8 rooms).map V.int := by
  unfold rgV base8
  rw [List.map_map, Int.sub_zero]
  refine List.map_congr_left fun i _ => ?_
  show V.int (0 + (i : Int)) = V.int (i : Int)
  rw [Int.zero_add]
theorem base8_nd (rooms : Int) : (base8 rooms).Nodup := by
  unfold base8
  refine List.pairwise_map.mpr (List.Pairwise.imp (fun {a b} h e => h (by omega)) List.nodup_range)
theorem base8_in {rooms : Int} (h : 0 ≤ rooms) : ∀ x ∈ base8 rooms, 0 ≤ x ∧ x < rooms := fun x hx => by
  obtain ⟨i, hi, rfl⟩ := List.mem_map.mp hx
  have := List.mem_range.mp hi
  omega
theorem base8_len (rooms : Int) : (base8 rooms).length = rooms.toNat := by
  unfold base8
  rw [List.length_map, List.length_range]
theorem out_perm : ∀ {xs : List Int} {k : Nat} (hk : k < xs.length), (xs[k] :: xs.eraseIdx k).Perm xs
  | a :: l, 0, _ => List.Perm.refl _
  | a :: l, k + 1, hk => (List.Perm.swap a _ _).trans (List.Perm.cons a (out_perm (xs := l) (k := k) (by simpa using hk)))
theorem erase_map (f : Int → V) : ∀ (xs : List Int) (k : Nat), (xs.map f).eraseIdx k = (xs.eraseIdx k).map f
  | [], _ => rfl
  | _ :: _, 0 => rfl
  | a :: l, k + 1 => by
    show f a :: (l.map f).eraseIdx k = f a :: (l.eraseIdx k).map f
    rw [erase_map f l k]
theorem rise_of {xs : List Int} (h : xs.Pairwise (· ≤ ·)) (hn : xs.Nodup) : xs.Pairwise (· < ·) := by
  have := List.pairwise_and_iff.mpr ⟨h, hn⟩
  exact this.imp fun {a b} ⟨h1, h2⟩ => by have : a ≠ b := h2; omega
section
variable {P : Program} {w : World} {K : PySem.W.Frag} {mg : Str → Option Value} {base : Heap}
theorem ok_lrooms {f fT C : Addr} {fd fdT : FuncData} (F : Fun K "_law_rooms" "_law_rooms" sLRooms f fd) (T : Txt K mg C) (GT : FnOk P w K mg base CX0 1 fT fdT ["state", "many"] spTake) (kT : PySem.W.keepIn K (.ref fT) = true) (bT : Binds K fdT ["state", "many"] []) (gT : mg "_law_take" = some (.ref fT)) :
    FnOk P w K mg base CX0 2 f fd ["state", "rooms", "many"] spLRooms := by
  refine F.ok scLRooms (fun vs H Q E h => ?_) (fun cdv A outer s H vs Q E hr h => ?_)
  · obtain ⟨st, rooms, many, rfl, _⟩ := h
    rfl
  · obtain ⟨st, rooms, many, rfl, m1, m4, mr, r8, hS, q⟩ := h
    refine ⟨_, pss_cons (ps_set (i := 3) scLRooms.nd rfl (.inr rfl) (pe_listRg rfl (by rfl) T.list (prg_1 (by rfl) T.range (pv 1))))
      (pss_one (ps_ret (pe_callB cr_sortedI (by rfl) T.sorted (by decide +kernel) (pa_cons
        (pe_lc (own := [("turn", 4)]) (g := gName 4) (tt := tYes) rfl scLRooms.nd (pi_range1 rfl T.range (pa_cons (pv 2) pa_nil)) (blkOk_by (N := ["state", "rooms", "many", "left", "turn"]) (sc := defScope sLRooms) (by decide +kernel)) (fun _ _ _ _ _ => pg_name (i := 4) scLRooms.nd rfl (Or.inl rfl)) (fun _ _ _ _ _ => pts_nil)
          (fun _ _ _ _ _ => pe_popK K (pv 3) (pa_cons (pe_call GT hr (by rfl) gT kT bT .nil pass0 (pa_cons (pv 0) (pa_cons (pe_callB (lenK K) (by rfl) T.len PySem.boot_len (pa_cons (pv 3) pa_nil)) pa_nil))) pa_nil))) pa_nil)))), ?_⟩
    refine ⟨_, rfl, rooms, rfl, RgOk.of_le (by omega) (by omega) (by omega) (by omega), fun o no => ?_⟩
    rw [base8_rg]
    have nos : st ≠ o := fun e => by
      obtain ⟨x, y, z, h⟩ := hS
      rw [e, no] at h
      cases h
    refine ⟨_, rfl, many, rfl, by omega, by omega, fun D hD => ?_⟩
    have hDo : D ≠ o := fun e => by
      rw [e, upd_same] at hD
      cases hD
    have hD0 : H D = none := by
      rw [upd_ne hDo] at hD
      exact hD
    have nDs : st ≠ D := fun e => by
      obtain ⟨x, y, z, h⟩ := hS
      rw [e, hD0] at h
      cases h
    refine lc_range (lo := 0) (n := many.toNat) (fun i H' => ∃ acc ls : List Int, Same (hid st H) H' ∧ StateAt H' st ∧ IntsL H' o ls ∧ IntsL H' D acc ∧ (acc ++ ls).Perm (base8 rooms) ∧ acc.length = i) ⟨[], base8 rooms, ?_, ?_, ?_, ?_, List.Perm.refl _, rfl⟩ ?_ ?_
    · exact (hid_le.trans (same_upd no)).trans (same_upd hD)
    · exact StateAt_upd (StateAt_upd hS nos) nDs
    · unfold IntsL
      rw [upd_ne hDo.symm, upd_same]
    · exact upd_same
    · rintro i H' hi ⟨acc, ls, sm, hS1, ho, hDD, perm, hl⟩
      have hlen : acc.length + ls.length = rooms.toNat := by
        have := perm.length_eq
        rw [List.length_append, base8_len] at this
        exact this
      have hlm : (ls.map V.int).length = ls.length := List.length_map ..
      refine ⟨rfl, ?_⟩
      refine ⟨_, rfl, .inl ⟨rfl, _, .inl (.inl ho)⟩, _, rfl, _, rfl, o, _, rfl, .inl (.inl (.inl ho)), st, _, rfl, by omega, by omega, hS1, fun H2 x s2 hS2 x0 x1 => ?_⟩
      rw [hlm] at x1
      have ho2 : IntsL H2 o ls := hid_at s2 ho nos.symm
      have hD2 : IntsL H2 D acc := hid_at s2 hDD nDs.symm
      have sm2 := hid_trans sm s2
      have hk : x.toNat < ls.length := by omega
      have hp : (ls[x.toNat] :: ls.eraseIdx x.toNat).Perm ls := out_perm hk
      refine ⟨o, _, x, x.toNat, .int ls[x.toNat], rfl, rfl, ho2, by omega, by omega, ?_, ints_at (List.getElem?_eq_getElem hk), ?_⟩
      · unfold seqIndex?
        rw [hlm]
        simp only [if_neg (show ¬ x < 0 by omega)]
        rw [if_pos (by simp; omega)]
      · refine ⟨acc.map V.int, by rw [upd_ne hDo]; exact hD2, line63 (by rw [List.length_map]; omega), acc ++ [ls[x.toNat]], ls.eraseIdx x.toNat, ?_, ?_, ?_, ints_push, ?_, by rw [List.length_append, hl]; rfl⟩
        · exact same_updM (same_updM sm2 (hid_none no)) (hid_none hD0)
        · exact StateAt_upd (StateAt_upd hS2 nos) nDs
        · unfold IntsL
          rw [upd_ne hDo.symm, upd_same, erase_map]
        · rw [List.append_assoc]
          exact (List.Perm.append_left acc hp).trans perm
    · rintro H' ⟨acc, ls, sm, hS1, ho, hDD, perm, hl⟩
      refine ⟨D, acc, rfl, .inl (.inl hDD), fun ns' p hperm hrise np => ?_⟩
      have nd : acc.Nodup := (perm.nodup_iff.mpr (base8_nd rooms)).sublist (List.sublist_append_left _ _)
      have hpos : st ≠ p := fun e => by
        obtain ⟨x, y, z, h⟩ := hS1
        rw [e, np] at h
        cases h
      have hin : ∀ x ∈ ns', 0 ≤ x ∧ x < rooms := fun x hx => base8_in (by omega) x (perm.mem_iff.mp (List.mem_append_left _ (hperm.mem_iff.mp hx)))
      have hlen : ns'.length = many.toNat := by rw [hperm.length_eq, hl]
      refine q _ p ns' (sm.trans (same_upd np)) (StateAt_upd hS1 hpos) ?_ upd_same ⟨by omega, by omega, rise_of hrise (hperm.nodup_iff.mpr nd), hin⟩ (by omega)
      cases e : H p with
      | none => rfl
      | some u =>
        have := sm p u (by rw [hid_ne hpos.symm]; exact e)
        rw [np] at this
        cases this
end
end PW
set_option Elab.async false
set_option linter.all false
set_option maxRecDepth 100000
set_option maxHeartbeats 4000000
namespace PW
open PySem PySem.Spec PyProof.Rows L2 PMD
/-! ### stands -/
abbrev sIsStand : Stmt := topS 9
abbrev sCheckStand : Stmt := topS 10
abbrev sCheckTwo : Stmt := topS 11
theorem scIsStand : FnScope ["floor", "stand", "room"] ["floor", "stand"] (defScope sIsStand) := ⟨rfl, rfl, rfl, by decide +kernel, rfl, by decide +kernel, by decide +kernel⟩
theorem scCheckStand : FnScope ["floor", "stand"] ["floor", "stand"] (defScope sCheckStand) := ⟨rfl, rfl, rfl, by decide +kernel, rfl, by decide +kernel, by decide +kernel⟩
theorem scCheckTwo : FnScope ["floor", "one", "two"] ["floor", "one", "two"] (defScope sCheckTwo) := ⟨rfl, rfl, rfl, by decide +kernel, rfl, by decide +kernel, by decide +kernel⟩
structure Stand (rooms : Int) (xs : List Int) : Prop where
  lo : 1 ≤ xs.length
  hi : xs.length ≤ 4
  nd : xs.Nodup
  ok : ∀ x ∈ xs, 0 ≤ x ∧ x < rooms
def spIsStand (C : Addr) : Sp := fun vs H Q _ => ∃ (f : Addr) (v : V) (rooms : Int) (ds : List (Int × Int)) (xs : List Int), vs = [.ref f, v] ∧ FloorAt C H f rooms ds ∧ StIn H v xs ∧ Stand rooms xs ∧ ∀ H', Same H H' → Q (.bl true) H'
def spCheckStand (C : Addr) : Sp := fun vs H Q _ => ∃ (f : Addr) (v : V) (rooms : Int) (ds : List (Int × Int)) (xs : List Int), vs = [.ref f, v] ∧ FloorAt C H f rooms ds ∧ StIn H v xs ∧ Stand rooms xs ∧ ∀ H', Same H H' → Q .non H'
def spCheckTwo (C : Addr) : Sp := fun vs H Q _ => ∃ (f : Addr) (v u : V) (rooms : Int) (ds : List (Int × Int)) (xs ys : List Int), vs = [.ref f, v, u] ∧ FloorAt C H f rooms ds ∧ StIn H v xs ∧ Stand rooms xs ∧ StIn H u ys ∧ Stand rooms ys ∧ xs.length = ys.length ∧ ∀ H', Same H H' → Q .non H'
section
variable {P : Program} {w : World} {K : PySem.W.Frag} {mg : Str → Option Value} {base : Heap}
theorem ok_isStand {f C : Addr} {fd : FuncData} (F : Fun K "is_stand" "is_stand" sIsStand f fd) (T : Txt K mg C) : FnOk P w K mg base CX0 1 f fd ["floor", "stand"] (spIsStand C) := by
  refine F.ok scIsStand (fun vs H Q E h => ?_) (fun cdv A outer s H vs Q E hr h => ?_)
  · obtain ⟨f, v, rooms, ds, xs, rfl, _⟩ := h
    rfl
  · obtain ⟨f, v, rooms, ds, xs, rfl, hF, ⟨t, rfl, ht⟩, S, q⟩ := h
    obtain ⟨t4, h4⟩ := T.porters
    refine ⟨_, pss_cons (ps_if (PW.pt (pw_or (pt_not (pt_chain op_le op_le pe_int (pe_callB call_len_seq (by rfl) T.len PySem.boot_len (pa_cons (pv 1) pa_nil)) (pe_glob (v := .int 4) (by rfl) h4 ⟨t4, rfl⟩)))
        (pw_or1 (pt_cmpR op_ne (pe_lenSetT (by rfl) T.len (by rfl) T.set (pv 1)) (pe_callB call_len_seq (by rfl) T.len PySem.boot_len (pa_cons (pv 1) pa_nil)) (nomark _))))) (pss_one (ps_ret pe_bl)) pss_nil)
      (pss_one (ps_ret (pe_callB (cr_all rfl) (by rfl) T.all (by decide +kernel) (pa_cons (pe_lc (own := [("room", 2)]) (g := gName 2) (tt := tYes) rfl scIsStand.nd (pi_tup (pv 1)) (blkOk_by (N := ["floor", "stand", "room"]) (sc := defScope sIsStand) (by decide +kernel))
        (fun _ _ _ _ _ => pg_name (i := 2) scIsStand.nd rfl (Or.inl rfl)) (fun _ _ _ _ _ => pts_nil) (fun _ _ _ _ _ => pe_chain op_le op_lt pe_int (pv 2) (pe_fldK K (pv 0)))) pa_nil)))), ?_⟩
    have hT : ∀ {H'}, Same H H' → SqT K H' t (xs.map V.int) := fun {_} s => .inl (.inl (s _ _ ht))
    have hlm : (xs.map V.int).length = xs.length := List.length_map ..
    have l1 := S.lo
    have l2 := S.hi
    refine ⟨_, rfl, t, _, rfl, .inr (hT (Same.refl H)), 1, _, rfl, rfl, _, rfl, ite2 (fun hc => ?_) (fun hc => ?_)⟩
    · refine ⟨_, _, rfl, rfl, _, rfl, ite2 (fun hc2 => ?_) (fun hc2 => ?_)⟩
      · exfalso
        simp at hc2
        omega
      · refine ⟨_, rfl, t, xs, rfl, hT (Same.refl H), S.nd, by omega, _, rfl, t, _, rfl, .inr (hT (Same.refl H)), rfl, _, rfl, ite2 (fun hc3 => ?_) (fun hc3 => ?_)⟩
        · exfalso
          simp at hc3
        · refine ⟨_, rfl, t, rfl, ⟨_, hT (Same.refl H)⟩, fun D hD => ?_⟩
          refine lcb_tup (b := true) hD (by omega) (fun H' s => hT s) (fun i x H' Q N hi sm q => ?_) (fun H' sm e => ?_)
          · obtain ⟨y, hy, rfl⟩ := ints_of hi
            obtain ⟨y1, y2⟩ := S.ok y (List.mem_of_getElem? hy)
            obtain ⟨dx, l, hf, _⟩ := (hF.mono sm).there
            refine ⟨rfl, ?_⟩
            refine ⟨_, rfl, 0, y, rfl, rfl, _, rfl, ite2 (fun h1 => ?_) (fun h1 => absurd (decide_eq_true y1) h1)⟩
            refine ⟨_, rfl, f, C, dx, _, _, rfl, hf, T.cl, T.nR, fs2_rooms _ _, y, rooms, rfl, rfl, ?_⟩
            show Q (.bl (decide (y < rooms))) H'
            rw [decide_eq_true y2]
            exact q _ (Same.refl _)
          · refine ⟨D, _, rfl, .inl (.inl e), ?_⟩
            rw [bls_all]
            exact q _ sm
    · exfalso
      simp at hc
      omega
theorem ok_checkStand {f fI C : Addr} {fd fdI : FuncData} (F : Fun K "check_stand" "check_stand" sCheckStand f fd) (T : Txt K mg C) (GI : FnOk P w K mg base CX0 1 fI fdI ["floor", "stand"] (spIsStand C)) (kI : PySem.W.keepIn K (.ref fI) = true) (bI : Binds K fdI ["floor", "stand"] []) (gI : mg "is_stand" = some (.ref fI)) :
    FnOk P w K mg base CX0 2 f fd ["floor", "stand"] (spCheckStand C) := by
  refine F.ok scCheckStand (fun vs H Q E h => ?_) (fun cdv A outer s H vs Q E hr h => ?_)
  · obtain ⟨f, v, rooms, ds, xs, rfl, _⟩ := h
    rfl
  · obtain ⟨f, v, rooms, ds, xs, rfl, hF, hv, S, q⟩ := h
    refine ⟨_, pss_one (ps_if (pt_not (pt_val (pe_call GI hr (by rfl) gI kI bI .nil pass0 (pa_cons (pv 0) (pa_cons (pv 1) pa_nil))))) (pss_one ps_never) pss_nil), ?_⟩
    refine ⟨_, rfl, _, rfl, f, v, rooms, ds, xs, rfl, hF, hv, S, fun H' sm => ⟨_, rfl, ite2 (fun h => ?_) (fun _ => q H' sm)⟩⟩
    cases h
theorem ok_checkTwo {f fI C : Addr} {fd fdI : FuncData} (F : Fun K "check_two" "check_two" sCheckTwo f fd) (T : Txt K mg C) (GI : FnOk P w K mg base CX0 2 fI fdI ["floor", "stand"] (spCheckStand C)) (kI : PySem.W.keepIn K (.ref fI) = true) (bI : Binds K fdI ["floor", "stand"] []) (gI : mg "check_stand" = some (.ref fI)) :
    FnOk P w K mg base CX0 3 f fd ["floor", "one", "two"] (spCheckTwo C) := by
  refine F.ok scCheckTwo (fun vs H Q E h => ?_) (fun cdv A outer s H vs Q E hr h => ?_)
  · obtain ⟨f, v, u, rooms, ds, xs, ys, rfl, _⟩ := h
    rfl
  · obtain ⟨f, v, u, rooms, ds, xs, ys, rfl, hF, hv, S, hu, S2, hl, q⟩ := h
    refine ⟨_, pss_cons (ps_expr (pe_call GI hr (by rfl) gI kI bI .nil pass0 (pa_cons (pv 0) (pa_cons (pv 1) pa_nil))))
      (pss_cons (ps_expr (pe_call GI hr (by rfl) gI kI bI .nil pass0 (pa_cons (pv 0) (pa_cons (pv 2) pa_nil))))
      (pss_one (ps_if (pt_cmpR op_ne (pe_callB call_len_seq (by rfl) T.len PySem.boot_len (pa_cons (pv 1) pa_nil)) (pe_callB call_len_seq (by rfl) T.len PySem.boot_len (pa_cons (pv 2) pa_nil)) (nomark _)) (pss_one ps_never) pss_nil))), ?_⟩
    refine ⟨_, rfl, _, rfl, f, v, rooms, ds, xs, rfl, hF, hv, S, fun H1 s1 => ?_⟩
    refine ⟨_, rfl, _, rfl, f, u, rooms, ds, ys, rfl, hF.mono s1, hu.mono (tups_of s1), S2, fun H2 s2 => ?_⟩
    obtain ⟨t, rfl, ht⟩ := hv
    obtain ⟨t2, rfl, ht2⟩ := hu
    have s12 := s1.trans s2
    refine ⟨_, rfl, t, _, rfl, .inr (.inl (.inl (s12 _ _ ht))), _, rfl, t2, _, rfl, .inr (.inl (.inl (s12 _ _ ht2))), rfl, _, rfl, ite2 (fun h => ?_) (fun _ => q _ s12)⟩
    exfalso
    rw [List.length_map, List.length_map, hl] at h
    simp at h
end
end PW
set_option Elab.async false
set_option linter.all false
set_option maxRecDepth 100000
set_option maxHeartbeats 4000000
namespace PW
open PySem PySem.Spec PyProof.Rows L2 PMD
/-! ### rooms, time -/
abbrev sIsRooms : Stmt := topS 21
abbrev sCheckRooms : Stmt := topS 22
abbrev sCheckTime : Stmt := topS 23
theorem scIsRooms : FnScope ["floor", "rooms", "k", "room"] ["floor", "rooms"] (defScope sIsRooms) := ⟨rfl, rfl, rfl, by decide +kernel, rfl, by decide +kernel, by decide +kernel⟩
theorem scCheckRooms : FnScope ["floor", "first", "wanted"] ["floor", "first", "wanted"] (defScope sCheckRooms) := ⟨rfl, rfl, rfl, by decide +kernel, rfl, by decide +kernel, by decide +kernel⟩
theorem scCheckTime : FnScope ["time"] ["time"] (defScope sCheckTime) := ⟨rfl, rfl, rfl, by decide +kernel, rfl, by decide +kernel, by decide +kernel⟩
def spIsRooms (C : Addr) : Sp := fun vs H Q _ => ∃ (f l : Addr) (rooms : Int) (ds : List (Int × Int)) (xs : List Int), vs = [.ref f, .ref l] ∧ FloorAt C H f rooms ds ∧ IntsL H l xs ∧ PM.Rooms rooms xs ∧ ∀ H', Same H H' → Q (.bl true) H'
def spCheckRooms (C : Addr) : Sp := fun vs H Q _ => ∃ (f l1 l2 : Addr) (rooms : Int) (ds : List (Int × Int)) (xs ys : List Int), vs = [.ref f, .ref l1, .ref l2] ∧ FloorAt C H f rooms ds ∧ IntsL H l1 xs ∧ IntsL H l2 ys ∧ PM.Rooms rooms xs ∧ PM.Rooms rooms ys ∧ xs.length = ys.length ∧ ∀ H', Same H H' → Q .non H'
def spCheckTime : Sp := fun vs H Q _ => ∃ t : Int, vs = [.int t] ∧ 0 ≤ t ∧ t ≤ 8 ∧ Q .non H
theorem rise_at {xs : List Int} (h : xs.Pairwise (· < ·)) {i : Nat} {a b : Int} (h1 : xs[i]? = some a) (h2 : xs[i + 1]? = some b) : a < b := by
  obtain ⟨l1, e1⟩ := List.getElem?_eq_some_iff.mp h1
  obtain ⟨l2, e2⟩ := List.getElem?_eq_some_iff.mp h2
  rw [← e1, ← e2]
  exact List.pairwise_iff_getElem.mp h i (i + 1) l1 l2 (by omega)
section
variable {P : Program} {w : World} {K : PySem.W.Frag} {mg : Str → Option Value} {base : Heap}
theorem ok_isRooms {f C : Addr} {fd : FuncData} (F : Fun K "is_rooms" "is_rooms" sIsRooms f fd) (T : Txt K mg C) : FnOk P w K mg base CX0 1 f fd ["floor", "rooms"] (spIsRooms C) := by
  refine F.ok scIsRooms (fun vs H Q E h => ?_) (fun cdv A outer s H vs Q E hr h => ?_)
  · obtain ⟨f, l, rooms, ds, xs, rfl, _⟩ := h
    rfl
  · obtain ⟨f, l, rooms, ds, xs, rfl, hF, ht, S, q⟩ := h
    obtain ⟨t4, h4⟩ := T.porters
    refine ⟨_, pss_cons (ps_if (PW.pt (pw_or (pt_not (pt_chain op_le op_le pe_int (pe_callB call_len_seq (by rfl) T.len PySem.boot_len (pa_cons (pv 1) pa_nil)) (pe_glob (v := .int 4) (by rfl) h4 ⟨t4, rfl⟩)))
        (pw_or1 (pt_val (pe_callB (cr_any rfl) (by rfl) T.any (by decide +kernel) (pa_cons (pe_lc (own := [("k", 2)]) (g := gName 2) (tt := tYes) rfl scIsRooms.nd (pi_range2 rfl T.range (pa_cons pe_int (pa_cons (pe_callB call_len_seq (by rfl) T.len PySem.boot_len (pa_cons (pv 1) pa_nil)) pa_nil))) (blkOk_by (N := ["floor", "rooms", "k", "room"]) (sc := defScope sIsRooms) (by decide +kernel))
          (fun _ _ _ _ _ => pg_name (i := 2) scIsRooms.nd rfl (Or.inl rfl)) (fun _ _ _ _ _ => pts_nil) (fun _ _ _ _ _ => pe_cmpR op_ge (pe_ix (ix_listK K) (pv 1) (pe_op op_sub (pv 2) pe_int) (fun _ _ => rfl)) (pe_ix (ix_listK K) (pv 1) (pv 2) (fun _ _ => rfl)) (nomark _))) pa_nil)))))) (pss_one (ps_ret pe_bl)) pss_nil)
      (pss_one (ps_ret (pe_callB (cr_all rfl) (by rfl) T.all (by decide +kernel) (pa_cons (pe_lc (own := [("room", 3)]) (g := gName 3) (tt := tYes) rfl scIsRooms.nd (pi_list (pv 1)) (blkOk_by (N := ["floor", "rooms", "k", "room"]) (sc := defScope sIsRooms) (by decide +kernel))
        (fun _ _ _ _ _ => pg_name (i := 3) scIsRooms.nd rfl (Or.inl rfl)) (fun _ _ _ _ _ => pts_nil) (fun _ _ _ _ _ => pe_chain op_le op_lt pe_int (pv 3) (pe_fldK K (pv 0)))) pa_nil)))), ?_⟩
    have hT : ∀ {H'}, Same H H' → SqL K H' l (xs.map V.int) := fun {_} s => .inl (.inl (s _ _ ht))
    have hlm : (xs.map V.int).length = xs.length := List.length_map ..
    have l1 := S.lo
    have l2 := S.hi
    refine ⟨_, rfl, l, _, rfl, .inl (hT (Same.refl H)), 1, _, rfl, rfl, _, rfl, ite2 (fun hc => ?_) (fun hc => ?_)⟩
    · refine ⟨_, _, rfl, rfl, _, rfl, ite2 (fun hc2 => ?_) (fun hc2 => ?_)⟩
      · exfalso
        simp at hc2
        omega
      · refine ⟨_, rfl, l, _, rfl, .inl (hT (Same.refl H)), 1, _, rfl, ⟨by omega, by omega, by omega, by omega⟩, fun D hD => ?_⟩
        refine lcb_range (b := false) hD (by rw [hlm]; omega) (fun i H' Q' N hi sm q' => ?_) (fun H' sm e => ?_)
        · rw [hlm] at hi
          have hi2 : i + 1 < xs.length := by omega
          have ea := List.getElem?_eq_getElem (show i < xs.length by omega)
          have eb := List.getElem?_eq_getElem hi2
          have hlt := rise_at S.ri ea eb
          refine ⟨rfl, ?_⟩
          have a1 := atI_nat (ints_at ea)
          have a2 := atI_nat (ints_at eb)
          have e1 : (1 + (i : Int) - 1) = (i : Int) := by omega
          have e2 : (1 + (i : Int)) = ((i + 1 : Nat) : Int) := by omega
          refine ⟨_, rfl, _, rfl, 1 + (i : Int), 1, rfl, rfl, l, _, _, .int xs[i], rfl, rfl, hT sm, by rw [e1]; exact a1, _, rfl, _, rfl, l, _, _, .int xs[i + 1], rfl, rfl, hT sm, by rw [e2]; exact a2, _, _, rfl, rfl, ?_⟩
          show Q' (.bl (decide (xs[i + 1] ≤ xs[i]))) H'
          rw [decide_eq_false (by omega)]
          exact q' _ (Same.refl _)
        · refine ⟨D, _, rfl, .inl (.inl e), ?_⟩
          rw [bls_any]
          refine ⟨_, rfl, ite2 (fun h => by cases h) (fun _ => ?_)⟩
          refine ⟨_, rfl, l, rfl, ⟨_, hT sm⟩, fun D hD => ?_⟩
          refine lcb_list (b := true) hD (by omega) (fun H2 s => hT (sm.trans s)) (fun i x H2 Q N hi s2 q => ?_) (fun H2 s2 e => ?_)
          · obtain ⟨y, hy, rfl⟩ := ints_of hi
            obtain ⟨y1, y2⟩ := S.ok y (List.mem_of_getElem? hy)
            obtain ⟨dx, l, hf, _⟩ := (hF.mono (sm.trans s2)).there
            refine ⟨rfl, ?_⟩
            refine ⟨_, rfl, 0, y, rfl, rfl, _, rfl, ite2 (fun h1 => ?_) (fun h1 => absurd (decide_eq_true y1) h1)⟩
            refine ⟨_, rfl, f, C, dx, _, _, rfl, hf, T.cl, T.nR, fs2_rooms _ _, y, rooms, rfl, rfl, ?_⟩
            show Q (.bl (decide (y < rooms))) _
            rw [decide_eq_true y2]
            exact q _ (Same.refl _)
          · refine ⟨D, _, rfl, .inl (.inl e), ?_⟩
            rw [bls_all]
            exact q _ (sm.trans s2)
    · exfalso
      simp at hc
      omega
theorem ok_checkRooms {f fI C : Addr} {fd fdI : FuncData} (F : Fun K "check_rooms" "check_rooms" sCheckRooms f fd) (T : Txt K mg C) (GI : FnOk P w K mg base CX0 1 fI fdI ["floor", "rooms"] (spIsRooms C)) (kI : PySem.W.keepIn K (.ref fI) = true) (bI : Binds K fdI ["floor", "rooms"] []) (gI : mg "is_rooms" = some (.ref fI)) :
    FnOk P w K mg base CX0 2 f fd ["floor", "first", "wanted"] (spCheckRooms C) := by
  refine F.ok scCheckRooms (fun vs H Q E h => ?_) (fun cdv A outer s H vs Q E hr h => ?_)
  · obtain ⟨f, l1, l2, rooms, ds, xs, ys, rfl, _⟩ := h
    rfl
  · obtain ⟨f, l1, l2, rooms, ds, xs, ys, rfl, hF, h1, h2, S1, S2, hl, q⟩ := h
    refine ⟨_, pss_one (ps_if (PW.pt (pw_or (pt_not (pt_val (pe_call GI hr (by rfl) gI kI bI .nil pass0 (pa_cons (pv 0) (pa_cons (pv 1) pa_nil)))))
      (pw_or (pt_not (pt_val (pe_call GI hr (by rfl) gI kI bI .nil pass0 (pa_cons (pv 0) (pa_cons (pv 2) pa_nil)))))
      (pw_or1 (pt_cmpR op_ne (pe_callB call_len_seq (by rfl) T.len PySem.boot_len (pa_cons (pv 1) pa_nil)) (pe_callB call_len_seq (by rfl) T.len PySem.boot_len (pa_cons (pv 2) pa_nil)) (nomark _)))))) (pss_one ps_never) pss_nil), ?_⟩
    refine ⟨_, rfl, _, rfl, f, l1, rooms, ds, xs, rfl, hF, h1, S1, fun H1 s1 => ⟨_, rfl, ite2 (fun h => by cases h) (fun _ => ?_)⟩⟩
    refine ⟨_, rfl, _, rfl, f, l2, rooms, ds, ys, rfl, hF.mono s1, h2.mono s1, S2, fun H2 s2 => ⟨_, rfl, ite2 (fun h => by cases h) (fun _ => ?_)⟩⟩
    have s12 := s1.trans s2
    refine ⟨_, rfl, l1, _, rfl, .inl (.inl (.inl (s12 _ _ h1))), _, rfl, l2, _, rfl, .inl (.inl (.inl (s12 _ _ h2))), rfl, _, rfl, ite2 (fun h => ?_) (fun _ => q _ s12)⟩
    exfalso
    rw [List.length_map, List.length_map, hl] at h
    simp at h
theorem ok_checkTime {f C : Addr} {fd : FuncData} (F : Fun K "check_time" "check_time" sCheckTime f fd) (T : Txt K mg C) : FnOk P w K mg base CX0 1 f fd ["time"] spCheckTime := by
  refine F.ok scCheckTime (fun vs H Q E h => ?_) (fun cdv A outer s H vs Q E hr h => ?_)
  · obtain ⟨t, rfl, _⟩ := h
    rfl
  · obtain ⟨t, rfl, t0, t8, q⟩ := h
    obtain ⟨t4, h4⟩ := T.time
    refine ⟨_, pss_one (ps_if (pt_not (pt_chain op_le op_le pe_int (pv 0) (pe_glob (v := .int 8) (by rfl) h4 ⟨t4, rfl⟩))) (pss_one ps_never) pss_nil), ?_⟩
    refine ⟨_, rfl, 0, t, rfl, rfl, _, rfl, ite2 (fun _ => ?_) (fun h => absurd (decide_eq_true t0) h)⟩
    refine ⟨t, 8, rfl, rfl, _, rfl, ite2 (fun h => ?_) (fun _ => q)⟩
    exfalso
    simp at h
    omega
end
end PW
set_option Elab.async false
set_option linter.all false
set_option maxRecDepth 100000
set_option maxHeartbeats 4000000
namespace PW
open PySem PySem.Spec PyProof.Rows L2 PMD
/-! ### data -/
theorem lay_all : ∀ {ds : List PyData}, (∀ d ∈ ds, d.canLay0 = true) → PyData.canLayAll0 ds = true
  | [], _ => by simp [PyData.canLayAll0]
  | d :: ds, h => by
    simp only [PyData.canLayAll0, Bool.and_eq_true]
    exact ⟨h d List.mem_cons_self, lay_all fun x hx => h x (List.mem_cons_of_mem _ hx)⟩
theorem dep_all {n : Nat} : ∀ {ds : List PyData}, (∀ d ∈ ds, d.depth ≤ n) → PyData.depthAll ds ≤ n
  | [], _ => by simp [PyData.depthAll]
  | d :: ds, h => by
    simp only [PyData.depthAll]
    have h1 := h d List.mem_cons_self
    have h2 := dep_all (ds := ds) fun x hx => h x (List.mem_cons_of_mem _ hx)
    omega
theorem shaped_list {ds : List PyData} (h : ∀ d ∈ ds, d.canLay0 = true ∧ d.depth ≤ 10) : SeqAt.shaped (.list ds) = true := by
  have h1 := lay_all fun d hd => (h d hd).1
  have h2 := dep_all fun d hd => (h d hd).2
  unfold SeqAt.shaped
  rw [Bool.and_eq_true]
  refine ⟨by simp only [PyData.canLay0]; exact h1, decide_eq_true ?_⟩
  simp only [PyData.depth]
  omega
theorem shaped_tuple {ds : List PyData} (h : ∀ d ∈ ds, d.canLay0 = true ∧ d.depth ≤ 10) : SeqAt.shaped (.tuple ds) = true := by
  have h1 := lay_all fun d hd => (h d hd).1
  have h2 := dep_all fun d hd => (h d hd).2
  unfold SeqAt.shaped
  rw [Bool.and_eq_true]
  refine ⟨by simp only [PyData.canLay0]; exact h1, decide_eq_true ?_⟩
  simp only [PyData.depth]
  omega
def iD (xs : List Int) : List PyData := xs.map PyData.int
def pD (p : Int × Int) : PyData := .tuple [.int p.1, .int p.2]
theorem iD_ok (xs : List Int) : ∀ d ∈ iD xs, d.canLay0 = true ∧ d.depth ≤ 10 := fun d hd => by
  obtain ⟨x, _, rfl⟩ := List.mem_map.mp hd
  simp [PyData.canLay0, PyData.depth]
theorem pD_ok1 (p : Int × Int) : (pD p).canLay0 = true ∧ (pD p).depth ≤ 10 := by
  unfold pD
  simp [PyData.canLay0, PyData.canLayAll0, PyData.depth, PyData.depthAll]
theorem pD_ok (ps : List (Int × Int)) : ∀ d ∈ ps.map pD, d.canLay0 = true ∧ d.depth ≤ 10 := fun d hd => by
  obtain ⟨x, _, rfl⟩ := List.mem_map.mp hd
  exact pD_ok1 x
theorem pD_eqv (p q : Int × Int) : PyData.eqv (pD p) (pD q) = decide (p = q) := by
  obtain ⟨a, b⟩ := p
  obtain ⟨c, d⟩ := q
  unfold pD
  by_cases h1 : a = c <;> by_cases h2 : b = d <;> simp [PyData.eqv, PyData.eqvAll, h1, h2]
theorem iD_eqv : ∀ xs : List Int, PyData.eqvAll (iD xs) (iD xs) = true
  | [] => by simp [iD, PyData.eqvAll]
  | x :: xs => by
    have := iD_eqv xs
    unfold iD at this ⊢
    simp [PyData.eqvAll, PyData.eqv, this]
theorem any_pD (ps : List (Int × Int)) (p : Int × Int) : ((ps.map pD).any fun z => PyData.eqv z (pD p)) = decide (p ∈ ps) := by
  rw [List.any_map, Bool.eq_iff_iff, List.any_eq_true]
  constructor
  · rintro ⟨x, hx, e⟩
    rw [Function.comp, pD_eqv] at e
    rw [← of_decide_eq_true e]
    exact decide_eq_true hx
  · intro h
    exact ⟨p, of_decide_eq_true h, by rw [Function.comp, pD_eqv]; exact decide_eq_true rfl⟩
theorem dp_ints {K : PySem.W.Frag} {H : Hp} : ∀ xs : List Int, DpAll K H (xs.map V.int) (iD xs)
  | [] => .nil
  | x :: xs => .cons (.int x) (dp_ints xs)
theorem dp_pair {K : PySem.W.Frag} {H : Hp} {v : V} {p : Int × Int} (h : IsP H v p) : Dp K H v (pD p) := by
  obtain ⟨t, rfl, ht⟩ := h
  exact .tup (.inl (.inl ht)) (.cons (.int _) (.cons (.int _) .nil))
theorem dp_pairs {K : PySem.W.Frag} {H : Hp} : ∀ {vs : List V} {ps : List (Int × Int)}, Paired (IsP H) vs ps → DpAll K H vs (ps.map pD)
  | _, _, .nil => .nil
  | _, _, .cons r t => .cons (dp_pair r) (dp_pairs t)
theorem dp_pairsL {K : PySem.W.Frag} {H : Hp} {l : Addr} {ps : List (Int × Int)} (h : PairsL H l ps) : Dp K H (.ref l) (.list (ps.map pD)) := by
  obtain ⟨vs, e, hp⟩ := h
  exact .lst (.inl (.inl e)) (dp_pairs hp)
theorem dp_intsL {K : PySem.W.Frag} {H : Hp} {l : Addr} {xs : List Int} (h : IntsL H l xs) : Dp K H (.ref l) (.list (iD xs)) := .lst (.inl (.inl h)) (dp_ints xs)
theorem dp_st {K : PySem.W.Frag} {H : Hp} {v : V} {xs : List Int} (h : StIn H v xs) : Dp K H v (.tuple (iD xs)) := by
  obtain ⟨t, rfl, ht⟩ := h
  exact .tup (.inl (.inl ht)) (dp_ints xs)
theorem eqv_it (xs : List Int) : PyData.eqv (.tuple (iD xs)) (.tuple (iD xs)) = true := by simp only [PyData.eqv]; exact iD_eqv xs
theorem eqv_il (xs : List Int) : PyData.eqv (.list (iD xs)) (.list (iD xs)) = true := by simp only [PyData.eqv]; exact iD_eqv xs
end PW
set_option Elab.async false
set_option linter.all false
set_option maxRecDepth 100000
set_option maxHeartbeats 4000000
namespace PW
open PySem PySem.Spec PyProof.Rows L2 PMD
/-! ### clashes -/
abbrev sExchange : Stmt := topS 13
abbrev sClash : Stmt := topS 14
theorem scExchange : FnScope ["one", "two", "porter", "other"] ["one", "two", "porter", "other"] (defScope sExchange) := ⟨rfl, rfl, rfl, by decide +kernel, rfl, by decide +kernel, by decide +kernel⟩
theorem scClash : FnScope ["floor", "one", "two", "porter", "other"] ["floor", "one", "two"] (defScope sClash) := ⟨rfl, rfl, rfl, by decide +kernel, rfl, by decide +kernel, by decide +kernel⟩
def spExchange : Sp := fun vs H Q _ => ∃ (v u : V) (xs ys : List Int) (i j : Nat) (a b c d : Int), vs = [v, u, .int i, .int j] ∧ StIn H v xs ∧ StIn H u ys ∧ xs[i]? = some a ∧ ys[i]? = some b ∧ xs[j]? = some c ∧ ys[j]? = some d ∧ ¬ (a ≠ b ∧ a = d ∧ c = b) ∧ Q (.bl false) H
def NoClash (ds : List (Int × Int)) (xs ys : List Int) : Prop := (∀ (i : Nat) (a b : Int), xs[i]? = some a → ys[i]? = some b → PM.Step ds a b) ∧
  ∀ (i j : Nat) (a b c d : Int), i < j → xs[i]? = some a → ys[i]? = some b → xs[j]? = some c → ys[j]? = some d → ¬ (a ≠ b ∧ a = d ∧ c = b)
def spClash (C : Addr) : Sp := fun vs H Q _ => ∃ (f : Addr) (v u : V) (rooms : Int) (ds : List (Int × Int)) (xs ys : List Int), vs = [.ref f, v, u] ∧ FloorAt C H f rooms ds ∧ StIn H v xs ∧ StIn H u ys ∧ xs.length = ys.length ∧ xs.length ≤ 4 ∧ NoClash ds xs ys ∧ ∀ H', Same H H' → Q .non H'
theorem inV_ints {x : Int} {xs : List Int} : inV (.int x) (xs.map V.int) = decide (x ∈ xs) := by
  unfold inV
  induction xs with
  | nil => rfl
  | cons y ys ih =>
    rw [List.map_cons, List.any_cons, ih]
    by_cases h : y = x
    · subst h; simp [eqV]
    · have h2 : ¬ x = y := fun z => h z.symm
      simp [h, h2, eqV]
theorem flat_ints (xs : List Int) : (xs.map V.int).all flatV = true := by
  rw [List.all_map, List.all_eq_true]
  intro x _
  rfl
section
variable {P : Program} {w : World} {K : PySem.W.Frag} {mg : Str → Option Value} {base : Heap}
theorem ok_exchange {f C : Addr} {fd : FuncData} (F : Fun K "exchange" "exchange" sExchange f fd) (T : Txt K mg C) : FnOk P w K mg base CX0 1 f fd ["one", "two", "porter", "other"] spExchange := by
  refine F.ok scExchange (fun vs H Q E h => ?_) (fun cdv A outer s H vs Q E hr h => ?_)
  · obtain ⟨v, u, xs, ys, i, j, a, b, c, d, rfl, _⟩ := h
    rfl
  · obtain ⟨v, u, xs, ys, i, j, a, b, c, d, rfl, ⟨t, rfl, ht⟩, ⟨t2, rfl, ht2⟩, ha, hb, hc, hd, hn, q⟩ := h
    refine ⟨_, pss_one (ps_ret (pe_and (pe_cmpR op_ne (pe_ix ix_tup (pv 0) (pv 2) (fun _ _ => rfl)) (pe_ix ix_tup (pv 1) (pv 2) (fun _ _ => rfl)) (nomark _))
      (pe_and (pe_cmpR op_eq (pe_ix ix_tup (pv 0) (pv 2) (fun _ _ => rfl)) (pe_ix ix_tup (pv 1) (pv 3) (fun _ _ => rfl)) (nomark _))
      (pe_one (pe_cmpR op_eq (pe_ix ix_tup (pv 0) (pv 3) (fun _ _ => rfl)) (pe_ix ix_tup (pv 1) (pv 2) (fun _ _ => rfl)) (nomark _)))))), ?_⟩
    have h1 : ∀ {K : PySem.W.Frag}, SqT K H t (xs.map V.int) := .inl (.inl ht)
    have h2 : ∀ {K : PySem.W.Frag}, SqT K H t2 (ys.map V.int) := .inl (.inl ht2)
    refine ⟨_, rfl, _, rfl, t, _, i, .int a, rfl, rfl, h1, atI_nat (ints_at ha), _, rfl, _, rfl, t2, _, i, .int b, rfl, rfl, h2, atI_nat (ints_at hb), rfl, _, rfl, ite2 (fun hc1 => ?_) (fun hc1 => q)⟩
    refine ⟨_, rfl, _, rfl, t, _, i, .int a, rfl, rfl, h1, atI_nat (ints_at ha), _, rfl, _, rfl, t2, _, j, .int d, rfl, rfl, h2, atI_nat (ints_at hd), rfl, _, rfl, ite2 (fun hc2 => ?_) (fun hc2 => q)⟩
    refine ⟨_, rfl, _, rfl, t, _, j, .int c, rfl, rfl, h1, atI_nat (ints_at hc), _, rfl, _, rfl, t2, _, i, .int b, rfl, rfl, h2, atI_nat (ints_at hb), rfl, ?_⟩
    show Q (.bl (decide (V.int c = V.int b))) H
    rw [decide_eq_false fun z => hn ⟨fun e => ?_, V.int.inj (of_decide_eq_true hc2), V.int.inj z⟩]
    · exact q
    · rw [e] at hc1
      simp at hc1
theorem ok_clash {f fN fX C : Addr} {fd fdN fdX : FuncData} (F : Fun K "clash_of" "clash_of" sClash f fd) (T : Txt K mg C) (mN : Meth K C "near" fN) (GN : FnOk P w K mg base CX0 1 fN fdN ["self", "room"] (spNear C)) (bN : Binds K fdN ["self", "room"] [])
    (GX : FnOk P w K mg base CX0 1 fX fdX ["one", "two", "porter", "other"] spExchange) (kX : PySem.W.keepIn K (.ref fX) = true) (bX : Binds K fdX ["one", "two", "porter", "other"] []) (gX : mg "exchange" = some (.ref fX)) :
    FnOk P w K mg base CX0 2 f fd ["floor", "one", "two"] (spClash C) := by
  refine F.ok scClash (fun vs H Q E h => ?_) (fun cdv A outer s H vs Q E hr h => ?_)
  · obtain ⟨f, v, u, rooms, ds, xs, ys, rfl, _⟩ := h
    rfl
  · obtain ⟨f, v, u, rooms, ds, xs, ys, rfl, hF, ⟨t, rfl, ht⟩, ⟨t2, rfl, ht2⟩, hl, l4, ⟨hs, hx⟩, q⟩ := h
    refine ⟨_, pss_cons (ps_for PassesOwn.never rfl (pi_range1 rfl T.range (pa_cons (pe_callB call_len_seq (by rfl) T.len PySem.boot_len (pa_cons (pv 1) pa_nil)) pa_nil)) (pg_name (i := 3) scClash.nd rfl (.inl rfl))
        (pss_one (ps_if (PW.pt (pw_and (pt_cmpR op_ne (pe_ix ix_tup (pv 2) (pv 3) (fun _ _ => rfl)) (pe_ix ix_tup (pv 1) (pv 3) (fun _ _ => rfl)) (nomark _))
          (pw_and1 (pt_cmpR op_notIn_seq (pe_ix ix_tup (pv 2) (pv 3) (fun _ _ => rfl)) (pe_meth (pv 0) T.cl mN GN hr bN .nil pass0 (pa_cons (pe_ix ix_tup (pv 1) (pv 3) (fun _ _ => rfl)) pa_nil)) (by rfl))))) (pss_one ps_never) pss_nil)))
      (pss_cons (ps_for PassesOwn.never rfl (pi_range1 rfl T.range (pa_cons (pe_callB call_len_seq (by rfl) T.len PySem.boot_len (pa_cons (pv 1) pa_nil)) pa_nil)) (pg_name (i := 3) scClash.nd rfl (.inl rfl))
        (pss_one (ps_for PassesOwn.never rfl (pi_range2 rfl T.range (pa_cons (pe_op op_add (pv 3) pe_int) (pa_cons (pe_callB call_len_seq (by rfl) T.len PySem.boot_len (pa_cons (pv 1) pa_nil)) pa_nil))) (pg_name (i := 4) scClash.nd rfl (.inl rfl))
          (pss_one (ps_if (pt_val (pe_call GX hr (by rfl) gX kX bX .nil pass0 (pa_cons (pv 1) (pa_cons (pv 2) (pa_cons (pv 3) (pa_cons (pv 4) pa_nil)))))) (pss_one ps_never) pss_nil)))))
      (pss_one (ps_ret pe_non))), ?_⟩
    have h1 : ∀ {K : PySem.W.Frag} {H'}, Same H H' → SqT K H' t (xs.map V.int) := fun {_ _} s => .inl (.inl (s _ _ ht))
    have h2 : ∀ {K : PySem.W.Frag} {H'}, Same H H' → SqT K H' t2 (ys.map V.int) := fun {_ _} s => .inl (.inl (s _ _ ht2))
    have hlm : (xs.map V.int).length = xs.length := List.length_map ..
    refine ⟨_, rfl, t, _, rfl, .inr (h1 (Same.refl H)), (xs.length : Nat), by rw [hlm], by omega, by omega, ?_⟩
    refine for_range (lo := 0) (n := xs.length) (fun i σ H' => ∃ y3, σ = [some (.ref f), some (.ref t), some (.ref t2), y3, none] ∧ Same H H') ⟨_, rfl, Same.refl H⟩ ?_ ?_
    · rintro i σ H' hi ⟨y3, rfl, sm⟩
      rw [Int.zero_add]
      have ea := List.getElem?_eq_getElem hi
      have eb := List.getElem?_eq_getElem (show i < ys.length by omega)
      refine ⟨_, rfl, _, rfl, t2, _, i, .int ys[i], rfl, rfl, h2 sm, atI_nat (ints_at eb), _, rfl, _, rfl, t, _, i, .int xs[i], rfl, rfl, h1 sm, atI_nat (ints_at ea), rfl, _, rfl, ite2 (fun hc => ?_) (fun _ => ⟨_, rfl, sm⟩)⟩
      refine ⟨_, rfl, _, rfl, t2, _, i, .int ys[i], rfl, rfl, h2 sm, atI_nat (ints_at eb), _, rfl, f, ?_⟩
      obtain ⟨dx, l, hf, _⟩ := (hF.mono sm).there
      refine ⟨dx, _, rfl, hf, fs2_no _ _ (by decide +kernel) (by decide +kernel), _, rfl, _, rfl, t, _, i, .int xs[i], rfl, rfl, h1 sm, atI_nat (ints_at ea), ?_⟩
      refine ⟨f, xs[i], rooms, ds, rfl, hF.mono sm, fun H2 p ns s2 np hp hns hln => ?_⟩
      refine ⟨p, _, rfl, .inl (.inl (.inl hp)), rfl, flat_ints _, _, rfl, ite2 (fun hc2 => ?_) (fun _ => ⟨_, rfl, sm.trans s2⟩)⟩
      exfalso
      rw [if_pos rfl, inV_ints] at hc2
      rcases hs i _ _ ea eb with e | e
      · rw [e] at hc
        simp at hc
      · have := (hns _).mpr e
        simp [this] at hc2
    · rintro σ H1 ⟨y3, rfl, s1⟩
      refine ⟨_, rfl, t, _, rfl, .inr (h1 s1), (xs.length : Nat), by rw [hlm], by omega, by omega, ?_⟩
      refine for_range (lo := 0) (n := xs.length) (fun i σ H' => ∃ y3 y4, σ = [some (.ref f), some (.ref t), some (.ref t2), y3, y4] ∧ Same H H') ⟨_, _, rfl, s1⟩ ?_ ?_
      · rintro i σ H2 hi ⟨y3, y4, rfl, s2⟩
        rw [Int.zero_add]
        refine ⟨_, rfl, i, 1, rfl, rfl, _, rfl, t, _, rfl, .inr (h1 s2), (i : Int) + 1, (xs.length : Nat), by rw [hlm], ⟨by omega, by omega, by omega, by omega⟩, ?_⟩
        refine for_range (lo := (i : Int) + 1) (n := ((xs.length : Nat) - ((i : Int) + 1)).toNat) (fun j σ H' => ∃ y4, σ = [some (.ref f), some (.ref t), some (.ref t2), some (.int i), y4] ∧ Same H H') ⟨_, rfl, s2⟩ ?_ ?_
        · rintro j σ H3 hj ⟨y4, rfl, s3⟩
          have e : (i : Int) + 1 + (j : Int) = ((i + 1 + j : Nat) : Int) := by omega
          rw [e]
          have ea := List.getElem?_eq_getElem hi
          have eb := List.getElem?_eq_getElem (show i < ys.length by omega)
          have ec := List.getElem?_eq_getElem (show i + 1 + j < xs.length by omega)
          have ed := List.getElem?_eq_getElem (show i + 1 + j < ys.length by omega)
          refine ⟨_, rfl, _, rfl, _, rfl, _, rfl, .ref t, .ref t2, xs, ys, i, i + 1 + j, _, _, _, _, rfl, ⟨t, rfl, s3 _ _ ht⟩, ⟨t2, rfl, s3 _ _ ht2⟩, ea, eb, ec, ed, hx i (i + 1 + j) _ _ _ _ (by omega) ea eb ec ed, ?_⟩
          exact ⟨_, rfl, ite2 (fun h => by cases h) (fun _ => ⟨_, rfl, s3⟩)⟩
        · rintro σ H3 ⟨y4, rfl, s3⟩
          exact ⟨_, _, rfl, s3⟩
      · rintro σ H2 ⟨y3, y4, rfl, s2⟩
        exact q _ s2
end
end PW
set_option Elab.async false
set_option linter.all false
set_option maxRecDepth 100000
set_option maxHeartbeats 4000000
namespace PW
open PySem PySem.Spec PyProof.Rows L2 PMD
/-! ### plans -/
abbrev sCheckPlan : Stmt := topS 15
abbrev sLooked : Stmt := topS 16
abbrev sPlanStands : Stmt := topS 33
theorem scCheckPlan : FnScope ["floor", "plan", "stand"] ["floor", "plan"] (defScope sCheckPlan) := ⟨rfl, rfl, rfl, by decide +kernel, rfl, by decide +kernel, by decide +kernel⟩
theorem scLooked : FnScope ["floor", "plan", "time", "found"] ["floor", "plan"] (defScope sLooked) := ⟨rfl, rfl, rfl, by decide +kernel, rfl, by decide +kernel, by decide +kernel⟩
theorem scPlanStands : FnScope ["floor", "first", "wanted", "time", "told", "stand", "k"] ["floor", "first", "wanted", "time", "told"] (defScope sPlanStands) := ⟨rfl, rfl, rfl, by decide +kernel, rfl, by decide +kernel, by decide +kernel⟩
structure PlanOk (rooms : Int) (n : Nat) (ps : List (List Int)) : Prop where
  lo : 0 < ps.length
  hi : ps.length ≤ 20
  ok : ∀ p ∈ ps, Stand rooms p ∧ p.length = n
def spCheckPlan (C : Addr) : Sp := fun vs H Q _ => ∃ (f l : Addr) (rooms : Int) (ds : List (Int × Int)) (n : Nat) (ps : List (List Int)), vs = [.ref f, .ref l] ∧ FloorAt C H f rooms ds ∧ PlanL H l ps ∧ PlanOk rooms n ps ∧ ∀ H', Same H H' → Q .non H'
def NoClashes (ds : List (Int × Int)) (ps : List (List Int)) : Prop := ∀ (k : Nat) (a b : List Int), ps[k]? = some a → ps[k + 1]? = some b → NoClash ds a b
def spLooked (C : Addr) : Sp := fun vs H Q _ => ∃ (f l : Addr) (rooms : Int) (ds : List (Int × Int)) (n : Nat) (ps : List (List Int)), vs = [.ref f, .ref l] ∧ FloorAt C H f rooms ds ∧ PlanL H l ps ∧ PlanOk rooms n ps ∧ NoClashes ds ps ∧ ∀ H', Same H H' → Q .non H'
def spPlanStands (C : Addr) : Sp := fun vs H Q _ => ∃ (f l1 l2 l : Addr) (rooms : Int) (ds : List (Int × Int)) (first wanted : List Int) (T : Nat) (ps : List (List Int)), vs = [.ref f, .ref l1, .ref l2, .int T, .ref l] ∧
  AskAt C H f l1 l2 rooms ds first wanted ∧ PM.Ask rooms ds first wanted T ∧ PlanL H l ps ∧ PM.IsPlan rooms ds first wanted T ps ∧ ∀ H', Same H H' → Q (.bl true) H'
theorem atI_neg1 {α : Type} {xs : List α} {n : Nat} {v : α} (h : xs[n]? = some v) (hl : xs.length = n + 1) : atI xs (-1) = some v := by
  have e : xs = xs.take n ++ [v] := by
    refine List.ext_getElem? fun i => ?_
    by_cases hi : i < n
    · rw [List.getElem?_append_left (by rw [List.length_take]; omega), List.getElem?_take_of_lt hi]
    · rw [List.getElem?_append_right (by rw [List.length_take]; omega), List.length_take, show min n xs.length = n by omega]
      by_cases h2 : i = n
      · subst h2
        rw [h, Nat.sub_self]
        rfl
      · rw [List.getElem?_eq_none (by omega), List.getElem?_eq_none (by simp; omega)]
  rw [e]
  exact atI_last _ _
section
variable {rooms : Int} {ds : List (Int × Int)} {first wanted : List Int} {T : Nat} {ps : List (List Int)}
theorem plan_ok (A : PM.Ask rooms ds first wanted T) (h : PM.IsPlan rooms ds first wanted T ps) (hT : T ≤ 9) : PlanOk rooms first.length ps := by
  obtain ⟨W, G, rfl⟩ := h
  have l := PM.planOf_len W first.length T
  refine ⟨by omega, by omega, fun p hp => ?_⟩
  obtain ⟨k, hk⟩ := List.mem_iff_getElem?.mp hp
  have hkl := (List.getElem?_eq_some_iff.mp hk).1
  rw [PM.planOf_get W (by omega)] at hk
  cases hk
  have a1 := A.fi.lo
  have a2 := A.fi.hi
  have cl := PM.col_len W first.length k
  exact ⟨⟨by omega, by omega, PM.col_nd G.toGW (by omega), PM.col_rng G.toGW (by omega)⟩, cl⟩
theorem plan_noclash (h : PM.IsPlan rooms ds first wanted T ps) : NoClashes ds ps := by
  obtain ⟨W, G, rfl⟩ := h
  intro k a b ha hb
  have hkl := (List.getElem?_eq_some_iff.mp hb).1
  rw [PM.planOf_len] at hkl
  rw [PM.planOf_get W (by omega)] at ha hb
  cases ha
  cases hb
  have get : ∀ {k i : Nat} {x : Int}, (PM.col W first.length k)[i]? = some x → i < first.length ∧ W i k = x := fun {k i x} h => by
    have hi := (List.getElem?_eq_some_iff.mp h).1
    rw [PM.col_len] at hi
    rw [PM.col_get W hi] at h
    exact ⟨hi, Option.some.inj h⟩
  refine ⟨fun i a b ha hb => ?_, fun i j a b c d hij ha hb hc hd => ?_⟩
  · obtain ⟨hi, e1⟩ := get ha
    obtain ⟨_, e2⟩ := get hb
    rw [← e1, ← e2]
    exact G.stp i k hi (by omega)
  · obtain ⟨hi, e1⟩ := get ha
    obtain ⟨_, e2⟩ := get hb
    obtain ⟨hj, e3⟩ := get hc
    obtain ⟨_, e4⟩ := get hd
    rintro ⟨n1, n2, n3⟩
    refine G.ns i j k hi hj (by omega) (by omega) ⟨?_, ?_, ?_⟩
    · rw [e1, e3, n3]; exact n1
    · rw [e2, e3, n3]
    · rw [e4, e1, n2]
end
section
variable {P : Program} {w : World} {K : PySem.W.Frag} {mg : Str → Option Value} {base : Heap}
theorem ok_checkPlan {f fI C : Addr} {fd fdI : FuncData} (F : Fun K "check_plan" "check_plan" sCheckPlan f fd) (T : Txt K mg C) (GI : FnOk P w K mg base CX0 3 fI fdI ["floor", "one", "two"] (spCheckTwo C)) (kI : PySem.W.keepIn K (.ref fI) = true) (bI : Binds K fdI ["floor", "one", "two"] []) (gI : mg "check_two" = some (.ref fI)) :
    FnOk P w K mg base CX0 4 f fd ["floor", "plan"] (spCheckPlan C) := by
  refine F.ok scCheckPlan (fun vs H Q E h => ?_) (fun cdv A outer s H vs Q E hr h => ?_)
  · obtain ⟨f, l, rooms, ds, n, ps, rfl, _⟩ := h
    rfl
  · obtain ⟨f, l, rooms, ds, n, ps, rfl, hF, ⟨vs, hl, hp⟩, S, q⟩ := h
    refine ⟨_, pss_cons (ps_if (pt_cmpR op_eq (pe_callB call_len_seq (by rfl) T.len PySem.boot_len (pa_cons (pv 1) pa_nil)) pe_int (nomark _)) (pss_one ps_never) pss_nil)
      (pss_one (ps_for PassesOwn.never rfl (pi_list (pv 1)) (pg_name (i := 2) scCheckPlan.nd rfl (.inl rfl)) (pss_one (ps_expr (pe_call GI hr (by rfl) gI kI bI .nil pass0 (pa_cons (pv 0) (pa_cons (pv 2) (pa_cons (pe_ix ix_list (pv 1) pe_int (fun _ _ => rfl)) pa_nil)))))))), ?_⟩
    have hT : ∀ {K : PySem.W.Frag} {H'}, Same H H' → SqL K H' l vs := fun {_ _} s => .inl (.inl (s _ _ hl))
    have hlen := Paired.length hp
    have lo := S.lo
    refine ⟨_, rfl, l, _, rfl, .inl (hT (Same.refl H)), rfl, _, rfl, ite2 (fun hc => ?_) (fun _ => ?_)⟩
    · exfalso
      have hc := V.int.inj (of_decide_eq_true hc)
      omega
    · refine ⟨_, rfl, l, rfl, ⟨_, hT (Same.refl H)⟩, ?_⟩
      refine for_list (xs := vs) (fun i σ H' => ∃ y, σ = [some (.ref f), some (.ref l), y] ∧ Same H H') ⟨_, rfl, Same.refl H⟩ (fun i σ H' _ ⟨_, _, s⟩ => hT s) ?_ ?_
      · rintro i x σ H' hi ⟨y, rfl, sm⟩
        have hil := (List.getElem?_eq_some_iff.mp hi).1
        have e1 := List.getElem?_eq_getElem (show i < ps.length by omega)
        have e0 := List.getElem?_eq_getElem lo
        obtain ⟨x', hx', st⟩ := paired_at hp e1
        rw [hi] at hx'
        cases hx'
        obtain ⟨x0, hx0, st0⟩ := paired_at hp e0
        refine ⟨_, rfl, _, rfl, _, rfl, l, _, 0, x0, rfl, rfl, hT sm, atI_nat (j := 0) hx0, ?_⟩
        obtain ⟨a1, a2⟩ := S.ok _ (List.getElem_mem (show i < ps.length by omega))
        obtain ⟨b1, b2⟩ := S.ok _ (List.getElem_mem lo)
        exact ⟨f, x, x0, rooms, ds, _, _, rfl, hF.mono sm, st.mono (tups_of sm), a1, st0.mono (tups_of sm), b1, by rw [a2, b2], fun H2 s2 => ⟨_, rfl, sm.trans s2⟩⟩
      · rintro σ H' ⟨y, rfl, sm⟩
        exact q _ sm
theorem ok_looked {f fI fX C : Addr} {fd fdI fdX : FuncData} (F : Fun K "looked" "looked" sLooked f fd) (T : Txt K mg C) (GI : FnOk P w K mg base CX0 4 fI fdI ["floor", "plan"] (spCheckPlan C)) (kI : PySem.W.keepIn K (.ref fI) = true) (bI : Binds K fdI ["floor", "plan"] []) (gI : mg "check_plan" = some (.ref fI))
    (GX : FnOk P w K mg base CX0 2 fX fdX ["floor", "one", "two"] (spClash C)) (kX : PySem.W.keepIn K (.ref fX) = true) (bX : Binds K fdX ["floor", "one", "two"] []) (gX : mg "clash_of" = some (.ref fX)) :
    FnOk P w K mg base CX0 5 f fd ["floor", "plan"] (spLooked C) := by
  refine F.ok scLooked (fun vs H Q E h => ?_) (fun cdv A outer s H vs Q E hr h => ?_)
  · obtain ⟨f, l, rooms, ds, n, ps, rfl, _⟩ := h
    rfl
  · obtain ⟨f, l, rooms, ds, n, ps, rfl, hF, ⟨vs, hl, hp⟩, S, N, q⟩ := h
    have hr2 := hr.mono (show 2 ≤ 4 by decide)
    refine ⟨_, pss_cons (ps_expr (pe_call GI hr (by rfl) gI kI bI .nil pass0 (pa_cons (pv 0) (pa_cons (pv 1) pa_nil))))
      (pss_cons (ps_for PassesOwn.never rfl (pi_range1 rfl T.range (pa_cons (pe_op op_sub (pe_callB call_len_seq (by rfl) T.len PySem.boot_len (pa_cons (pv 1) pa_nil)) pe_int) pa_nil)) (pg_name (i := 2) scLooked.nd rfl (.inl rfl))
        (pss_cons (ps_set (i := 3) scLooked.nd rfl (.inl rfl) (pe_call GX hr2 (by rfl) gX kX bX .nil pass0 (pa_cons (pv 0) (pa_cons (pe_ix ix_list (pv 1) (pv 2) (fun _ _ => rfl)) (pa_cons (pe_ix ix_list (pv 1) (pe_op op_add (pv 2) pe_int) (fun _ _ => rfl)) pa_nil)))))
          (pss_one (ps_if (pt_cmpR op_notN (pv 3) pe_non (by rfl)) (pss_one ps_never) pss_nil))))
      (pss_one (ps_ret pe_non))), ?_⟩
    have hT : ∀ {K : PySem.W.Frag} {H'}, Same H H' → SqL K H' l vs := fun {_ _} s => .inl (.inl (s _ _ hl))
    have hlen := Paired.length hp
    have lo := S.lo
    have hi' := S.hi
    refine ⟨_, rfl, _, rfl, f, l, rooms, ds, n, ps, rfl, hF, ⟨vs, hl, hp⟩, S, fun H1 s1 => ?_⟩
    refine ⟨_, rfl, l, _, rfl, .inl (hT s1), _, 1, rfl, rfl, _, rfl, by omega, by omega, ?_⟩
    refine for_range (lo := 0) (n := ((vs.length : Int) - 1).toNat) (fun i σ H' => ∃ y z, σ = [some (.ref f), some (.ref l), y, z] ∧ Same H H') ⟨_, _, rfl, s1⟩ ?_ ?_
    · rintro i σ H' hi ⟨y, z, rfl, sm⟩
      rw [Int.zero_add]
      have e1 := List.getElem?_eq_getElem (show i < ps.length by omega)
      have e2 := List.getElem?_eq_getElem (show i + 1 < ps.length by omega)
      obtain ⟨x1, hx1, st1⟩ := paired_at hp e1
      obtain ⟨x2, hx2, st2⟩ := paired_at hp e2
      obtain ⟨a1, a2⟩ := S.ok _ (List.getElem_mem (show i < ps.length by omega))
      obtain ⟨b1, b2⟩ := S.ok _ (List.getElem_mem (show i + 1 < ps.length by omega))
      refine ⟨_, rfl, _, rfl, _, rfl, l, _, i, x1, rfl, rfl, hT sm, atI_nat hx1, _, rfl, _, rfl, i, 1, rfl, rfl, l, _, ((i + 1 : Nat) : Int), x2, rfl, rfl, hT sm, atI_nat hx2, ?_⟩
      refine ⟨f, x1, x2, rooms, ds, _, _, rfl, hF.mono sm, st1.mono (tups_of sm), st2.mono (tups_of sm), by rw [a2, b2], a1.hi, N i _ _ e1 e2, fun H2 s2 => ?_⟩
      exact ⟨_, rfl, rfl, _, rfl, ite2 (fun h => by cases h) (fun _ => ⟨_, _, rfl, sm.trans s2⟩)⟩
    · rintro σ H' ⟨y, z, rfl, sm⟩
      exact q _ sm
theorem ok_planStands {f fI fX C : Addr} {fd fdI fdX : FuncData} (F : Fun K "plan_stands" "plan_stands" sPlanStands f fd) (T : Txt K mg C) (GI : FnOk P w K mg base CX0 1 fI fdI ["floor", "stand"] (spIsStand C)) (kI : PySem.W.keepIn K (.ref fI) = true) (bI : Binds K fdI ["floor", "stand"] []) (gI : mg "is_stand" = some (.ref fI))
    (GX : FnOk P w K mg base CX0 2 fX fdX ["floor", "one", "two"] (spClash C)) (kX : PySem.W.keepIn K (.ref fX) = true) (bX : Binds K fdX ["floor", "one", "two"] []) (gX : mg "clash_of" = some (.ref fX)) :
    FnOk P w K mg base CX0 3 f fd ["floor", "first", "wanted", "time", "told"] (spPlanStands C) := by
  refine F.ok scPlanStands (fun vs H Q E h => ?_) (fun cdv A outer s H vs Q E hr h => ?_)
  · obtain ⟨f, l1, l2, l, rooms, ds, first, wanted, tm, ps, rfl, _⟩ := h
    rfl
  · obtain ⟨f, l1, l2, l, rooms, ds, first, wanted, tm, ps, rfl, hA, A2, ⟨vs, hl, hp⟩, S, q⟩ := h
    have hr1 := hr.mono (show 1 ≤ 2 by decide)
    have hu := Nat.lt_of_succ_lt (roomU hr)
    refine ⟨_, pss_cons (ps_if (PW.pt (pw_or (pt_cmpR op_ne (pe_callB call_len_seq (by rfl) T.len PySem.boot_len (pa_cons (pv 4) pa_nil)) (pe_op op_add (pv 3) pe_int) (nomark _))
        (pw_or (pt_cmpR (op_neD hu) (pe_ix ix_list (pv 4) pe_int (fun _ _ => rfl)) (pe_callTy call_tuple_of (by rfl) T.tuple (by decide +kernel) (pa_cons (pv 1) pa_nil)) (by rfl))
        (pw_or1 (pt_cmpR (op_neD hu) (pe_callB cr_sortedTI (by rfl) T.sorted (by decide +kernel) (pa_cons (pe_ix ix_list (pv 4) (pe_un un_neg pe_int) (fun _ _ => rfl)) pa_nil)) (pv 2) (nomark _)))))) (pss_one (ps_ret pe_bl)) pss_nil)
      (pss_cons (ps_if (pt_not (pt_val (pe_callB (cr_all rfl) (by rfl) T.all (by decide +kernel) (pa_cons (pe_lc (own := [("stand", 5)]) (g := gName 5) (tt := tYes) rfl scPlanStands.nd (pi_list (pv 4)) (blkOk_by (N := ["floor", "first", "wanted", "time", "told", "stand", "k"]) (sc := defScope sPlanStands) (by decide +kernel))
        (fun _ _ _ _ _ => pg_name (i := 5) scPlanStands.nd rfl (Or.inl rfl)) (fun _ _ _ _ _ => pts_nil) (fun _ _ _ _ _ => pe_and (pe_cmpR op_eq (pe_callB (lenK K) (by rfl) T.len PySem.boot_len (pa_cons (pv 5) pa_nil)) (pe_callB (lenK K) (by rfl) T.len PySem.boot_len (pa_cons (pv 1) pa_nil)) (nomark _)) (pe_one (pe_call GI hr1 (by rfl) gI kI bI .nil pass0 (pa_cons (pv 0) (pa_cons (pv 5) pa_nil)))))) pa_nil)))) (pss_one (ps_ret pe_bl)) pss_nil)
      (pss_one (ps_ret (pe_callB (cr_all rfl) (by rfl) T.all (by decide +kernel) (pa_cons (pe_lc (own := [("k", 6)]) (g := gName 6) (tt := tYes) rfl scPlanStands.nd (pi_range2 rfl T.range (pa_cons pe_int (pa_cons (pe_callB call_len_seq (by rfl) T.len PySem.boot_len (pa_cons (pv 4) pa_nil)) pa_nil))) (blkOk_by (N := ["floor", "first", "wanted", "time", "told", "stand", "k"]) (sc := defScope sPlanStands) (by decide +kernel))
        (fun _ _ _ _ _ => pg_name (i := 6) scPlanStands.nd rfl (Or.inl rfl)) (fun _ _ _ _ _ => pts_nil) (fun _ _ _ _ _ => pe_cmpR op_isN (pe_call GX hr (by rfl) gX kX bX .nil pass0 (pa_cons (pv 0) (pa_cons (pe_ix (ix_listK K) (pv 4) (pe_op op_sub (pv 6) pe_int) (fun _ _ => rfl)) (pa_cons (pe_ix (ix_listK K) (pv 4) (pv 6) (fun _ _ => rfl)) pa_nil)))) pe_non (by rfl))) pa_nil))))), ?_⟩
    have hF := hA.fl
    have ok := plan_ok A2 S (by have := A2.ti; omega)
    have nc := plan_noclash S
    obtain ⟨W, G, hps⟩ := S
    have hT : ∀ {K : PySem.W.Frag} {H'}, Same H H' → SqL K H' l vs := fun {_ _} s => .inl (.inl (s _ _ hl))
    have hlen := Paired.length hp
    have hpl : ps.length = tm + 1 := by rw [hps]; exact PM.planOf_len ..
    have lo := ok.lo
    have hi' := ok.hi
    refine ⟨_, rfl, l, _, rfl, .inl (hT (Same.refl H)), _, rfl, _, 1, rfl, rfl, rfl, _, rfl, ite2 (fun hc => ?_) (fun _ => ?_)⟩
    · exfalso
      rw [hlen, hpl] at hc
      simp at hc
    have h0 : ps[0]? = some first := by rw [hps, PM.planOf_get W (Nat.zero_le _), PM.col_first G.toGW]
    have hn : ps[tm]? = some (PM.col W first.length tm) := by rw [hps, PM.planOf_get W (Nat.le_refl _)]
    obtain ⟨x0, hx0, st0⟩ := paired_at hp h0
    obtain ⟨xn, hxn, stn⟩ := paired_at hp hn
    refine ⟨_, rfl, l, _, 0, x0, rfl, rfl, hT (Same.refl H), atI_nat (j := 0) hx0, _, rfl, l1, _, rfl, .inl ⟨.inl (.inl hA.fi), fun p np => ?_⟩⟩
    have s1 : Same H (upd H p (.tup (first.map V.int))) := same_upd np
    have e1 : upd H p (.tup (first.map V.int)) p = some (.tup (first.map V.int)) := upd_same
    generalize upd H p (.tup (first.map V.int)) = H1 at s1 e1
    refine ⟨_, _, dp_st (st0.mono (tups_of s1)), dp_st ⟨p, rfl, e1⟩, shaped_tuple (iD_ok _), shaped_tuple (iD_ok _), _, rfl, ite2 (fun hc => ?_) (fun _ => ?_)⟩
    · exfalso
      rw [eqv_it] at hc
      cases hc
    obtain ⟨tn, rfl, htn⟩ := stn.mono (tups_of s1)
    refine ⟨_, rfl, _, rfl, l, _, -1, .ref tn, rfl, rfl, hT s1, ?_, tn, _, rfl, .inl (.inl htn), ?_, fun ys p2 perm rise np2 => ?_⟩
    · exact atI_neg1 hxn (by omega)
    · rw [PM.col_len]
      have := A2.fi.hi
      omega
    have hw := PM.col_last A2 G.toGW perm rise
    have s2 : Same H (upd H1 p2 (.lst (ys.map V.int))) := s1.trans (same_upd np2)
    have e2 : IntsL (upd H1 p2 (.lst (ys.map V.int))) p2 ys := upd_same
    generalize upd H1 p2 (.lst (ys.map V.int)) = H2 at s2 e2
    refine ⟨_, rfl, _, _, dp_intsL e2, dp_intsL (hA.wa.mono s2), shaped_list (iD_ok _), shaped_list (iD_ok _), _, rfl, ite2 (fun hc => ?_) (fun _ => ?_)⟩
    · exfalso
      rw [hw, eqv_il] at hc
      cases hc
    refine ⟨_, rfl, l, rfl, ⟨_, hT s2⟩, fun D hD => ?_⟩
    refine lcb_list (b := true) hD (by omega) (fun H3 s3 => hT (s2.trans s3)) (fun i x H3 Q N hi s3 q => ?_) (fun H3 s3 e => ?_)
    · have hil := (List.getElem?_eq_some_iff.mp hi).1
      have ei := List.getElem?_eq_getElem (show i < ps.length by omega)
      obtain ⟨x', hx', st⟩ := paired_at hp ei
      rw [hi] at hx'
      cases hx'
      obtain ⟨a1, a2⟩ := ok.ok _ (List.getElem_mem (show i < ps.length by omega))
      obtain ⟨t, rfl, ht⟩ := st
      have s23 := s2.trans s3
      refine ⟨rfl, ?_⟩
      refine ⟨_, rfl, t, _, rfl, .inr (.inl (.inl (s23 _ _ ht))), _, rfl, l1, _, rfl, .inl (.inl (.inl (hA.fi.mono s23))), rfl, _, rfl, ite2 (fun hc => ?_) (fun hc => ?_)⟩
      · refine ⟨_, rfl, _, rfl, f, .ref t, rooms, ds, _, rfl, hF.mono s23, ⟨t, rfl, s23 _ _ ht⟩, a1, fun H4 s4 => q _ s4⟩
      · exfalso
        apply hc
        rw [List.length_map, List.length_map, a2]
        exact decide_eq_true rfl
    · refine ⟨D, _, rfl, .inl (.inl e), ?_⟩
      rw [bls_all]
      refine ⟨_, rfl, ite2 (fun h => by cases h) (fun _ => ?_)⟩
      have s23 := s2.trans s3
      refine ⟨_, rfl, l, _, rfl, .inl (hT s23), 1, _, rfl, ⟨by omega, by omega, by omega, by omega⟩, fun D2 hD2 => ?_⟩
      refine lcb_range (b := true) hD2 (by omega) (fun i H4 Q N hi s4 q => ?_) (fun H4 s4 e => ?_)
      · have s24 := s23.trans s4
        have e1 := List.getElem?_eq_getElem (show i < ps.length by omega)
        have e2 := List.getElem?_eq_getElem (show i + 1 < ps.length by omega)
        obtain ⟨x1, hx1, st1⟩ := paired_at hp e1
        obtain ⟨x2, hx2, st2⟩ := paired_at hp e2
        obtain ⟨a1, a2⟩ := ok.ok _ (List.getElem_mem (show i < ps.length by omega))
        obtain ⟨b1, b2⟩ := ok.ok _ (List.getElem_mem (show i + 1 < ps.length by omega))
        refine ⟨rfl, ?_⟩
        have e3 : (1 + (i : Int) - 1) = (i : Int) := by omega
        have e4 : (1 + (i : Int)) = ((i + 1 : Nat) : Int) := by omega
        refine ⟨_, rfl, _, rfl, _, rfl, 1 + (i : Int), 1, rfl, rfl, l, _, _, x1, rfl, rfl, hT s24, by rw [e3]; exact atI_nat hx1, _, rfl, _, rfl, l, _, _, x2, rfl, rfl, hT s24, by rw [e4]; exact atI_nat hx2, ?_⟩
        refine ⟨f, x1, x2, rooms, ds, _, _, rfl, hF.mono s24, st1.mono (tups_of s24), st2.mono (tups_of s24), by rw [a2, b2], a1.hi, nc i _ _ e1 e2, fun H5 s5 => ?_⟩
        exact ⟨rfl, q _ s5⟩
      · refine ⟨D2, _, rfl, .inl (.inl e), ?_⟩
        rw [bls_all]
        exact q _ (s23.trans s4)
end
end PW
set_option Elab.async false
set_option linter.all false
set_option maxRecDepth 100000
set_option maxHeartbeats 4000000
namespace PW
open PySem PySem.Spec PyProof.Rows L2 PMD
/-! ### the places that come next -/
abbrev sOnward : Stmt := topS 24
theorem scOnward : FnScope ["floor", "first", "wanted", "time", "place", "room", "minute", "inside", "other"] ["floor", "first", "wanted", "time", "place"] (defScope sOnward) := ⟨rfl, rfl, rfl, by decide +kernel, rfl, by decide +kernel, by decide +kernel⟩
def OnL (H : Hp) (l : Addr) (qs : List PM.Pl) : Prop := ∃ us, H l = some (.lst us) ∧ Paired (fun v q => PlIn H q v) us qs
def spOnward (C : Addr) : Sp := fun vs H Q _ => ∃ (f l1 l2 : Addr) (v : V) (rooms : Int) (ds : List (Int × Int)) (first wanted : List Int) (T : Nat) (q : PM.Pl), vs = [.ref f, .ref l1, .ref l2, .int T, v] ∧
  AskAt C H f l1 l2 rooms ds first wanted ∧ PM.Ask rooms ds first wanted T ∧ PlIn H q v ∧
  ∀ H' p qs, Same H H' → H p = none → OnL H' p qs → qs.length ≤ 300 → (∀ q', q' ∈ qs ↔ PM.On ds first wanted T q q') → Q (.ref p) H'
section
variable {P : Program} {w : World} {K : PySem.W.Frag} {mg : Str → Option Value} {base : Heap}
theorem ok_onward {f fN C : Addr} {fd fdN : FuncData} (F : Fun K "onward" "onward" sOnward f fd) (T : Txt K mg C) (mN : Meth K C "near" fN) (GN : FnOk P w K mg base CX0 1 fN fdN ["self", "room"] (spNear C)) (bN : Binds K fdN ["self", "room"] []) :
    FnOk P w K mg base CX0 2 f fd ["floor", "first", "wanted", "time", "place"] (spOnward C) := by
  refine F.ok scOnward (fun vs H Q E h => ?_) (fun cdv A outer s H vs Q E hr h => ?_)
  · obtain ⟨f, l1, l2, v, rooms, ds, first, wanted, tm, q, rfl, _⟩ := h
    rfl
  · obtain ⟨f, l1, l2, v, rooms, ds, first, wanted, tm, pq, rfl, hA, A2, hq, q⟩ := h
    have hu := Nat.lt_of_succ_lt (roomU hr)
    obtain ⟨tB', hB⟩ := T.beg
    obtain ⟨tE, hE⟩ := T.fin
    refine ⟨_, pss_cons (ps_if (pt_cmpR (op_eqD hu) (pv 4) (pe_glob (v := .str sBeg) (by rfl) hB ⟨tB', rfl⟩) (nomark _)) (pss_one (ps_ret (pe_lc (own := [("room", 5)]) (g := gName 5) (tt := tYes) rfl scOnward.nd (pi_list (pv 1)) (blkOk_by (N := ["floor", "first", "wanted", "time", "place", "room", "minute", "inside", "other"]) (sc := defScope sOnward) (by decide +kernel))
        (fun _ _ _ _ _ => pg_name (i := 5) scOnward.nd rfl (Or.inl rfl)) (fun _ _ _ _ _ => pts_nil) (fun _ _ _ _ _ => pe_tup (pa_cons (pv 5) (pa_cons pe_int (pa_cons pe_int pa_nil))))))) pss_nil)
      (pss_cons (ps_if (pt_cmpR (op_eqD hu) (pv 4) (pe_glob (v := .str sFin) (by rfl) hE ⟨tE, rfl⟩) (nomark _)) (pss_one (ps_ret (pe_lst pa_nil))) pss_nil)
      (pss_cons (ps_asg (pv 4) (pg_tup rfl (pgs_cons (pg_name (i := 5) scOnward.nd rfl (.inl rfl)) (pgs_cons (pg_name (i := 6) scOnward.nd rfl (.inr rfl)) (pgs_cons (pg_name (i := 7) scOnward.nd rfl (.inl rfl)) pgs_nil)))))
      (pss_cons (ps_if (pt_cmpR op_eq (pv 7) pe_int (nomark _)) (pss_one (ps_ret (pe_lst (pa_cons (pe_tup (pa_cons (pv 5) (pa_cons (pv 6) (pa_cons pe_int pa_nil)))) pa_nil)))) pss_nil)
      (pss_cons (ps_if (pt_cmpR op_eq (pv 6) (pv 3) (nomark _)) (pss_one (ps_ret (pe_ifExp (pt_cmpR op_in_seq (pv 5) (pv 2) (by rfl)) (pe_lst (pa_cons (pe_glob (v := .str sFin) (by rfl) hE ⟨tE, rfl⟩) pa_nil)) (pe_lst pa_nil)))) pss_nil)
      (pss_one (ps_ret (pe_lc (own := [("other", 8)]) (g := gName 8) (tt := tYes) rfl scOnward.nd (pi_list (pe_op op_cat (pe_lst (pa_cons (pv 5) pa_nil)) (pe_meth (pv 0) T.cl mN GN hr bN .nil pass0 (pa_cons (pv 5) pa_nil)))) (blkOk_by (N := ["floor", "first", "wanted", "time", "place", "room", "minute", "inside", "other"]) (sc := defScope sOnward) (by decide +kernel))
        (fun _ _ _ _ _ => pg_name (i := 8) scOnward.nd rfl (Or.inl rfl)) (fun _ _ _ _ _ => pts_nil) (fun _ _ _ _ _ => pe_tup (pa_cons (pv 8) (pa_cons (pe_op op_add (pv 6) pe_int) (pa_cons pe_int pa_nil))))))))))), ?_⟩
    have hF := hA.fl
    refine ⟨_, rfl, _, _, hq.dp, .str _, plD_ok _, sBeg_ok, _, rfl, ite2 (fun hc => ?_) (fun hc => ?_)⟩
    · rw [plD_beg] at hc
      have hc := of_decide_eq_true hc
      subst hc
      refine ⟨_, rfl, l1, rfl, ⟨_, .inl (.inl hA.fi)⟩, fun D hD => ?_⟩
      refine lcf (R := fun H q v => PlIn H q v) (n := (first.map V.int).length) walk_list (fun i => (first[i]?).map fun r => PM.Pl.spot r 0 0) (fun _ _ _ _ y => y.1) hD (by have := A2.fi.hi; rw [List.length_map]; omega) (fun H' s => .inl (.inl (hA.fi.mono s))) plin_mv (fun i x H' Q N hi s _ y q _ => ?_) (fun H' us s e p => ?_)
      · obtain ⟨z, hz, rfl⟩ := ints_of y.2
        refine ⟨rfl, ?_⟩
        refine ⟨_, rfl, Nat.le_of_ble_eq_true rfl, fun t ht => ?_⟩
        exact q (PM.Pl.spot z 0 0) (by rw [hz]; rfl) _ _ (same_upd ht) ⟨t, rfl, upd_same⟩
      · refine q _ D _ s hD ⟨us, e, p⟩ ?_ fun q' => ?_
        · have := Paired.length p
          have l := List.length_filterMap_le (fun i => (first[i]?).map fun r => PM.Pl.spot r 0 0) (List.range (first.map V.int).length)
          rw [List.length_range, List.length_map] at l
          rw [List.length_map]
          have := A2.fi.hi
          omega
        · rw [List.length_map, mem_fm (fun r => some (PM.Pl.spot r 0 0)) (fun i x h => by simp only [h]; rfl)]
          cases q' with
          | beg => simp [PM.On]
          | fin => simp [PM.On]
          | spot r m i =>
            simp only [PM.On, Option.some.injEq, PM.Pl.spot.injEq]
            constructor
            · rintro ⟨x, hx, rfl, rfl, rfl⟩
              exact ⟨hx, rfl, rfl⟩
            · rintro ⟨hx, rfl, rfl⟩
              exact ⟨_, hx, rfl, rfl, rfl⟩
    rw [plD_beg] at hc
    have hnb : pq ≠ .beg := fun e => hc (by rw [e]; rfl)
    refine ⟨_, rfl, _, _, hq.dp, .str _, plD_ok _, sFin_ok, _, rfl, ite2 (fun hc => ?_) (fun hc => ?_)⟩
    · rw [plD_fin] at hc
      have hc := of_decide_eq_true hc
      subst hc
      refine ⟨Nat.zero_le _, fun p np => q _ p [] (same_upd np) np ⟨[], upd_same, .nil⟩ (Nat.zero_le _) fun q' => ?_⟩
      cases q' <;> simp [PM.On]
    rw [plD_fin] at hc
    have hnf : pq ≠ .fin := fun e => hc (by rw [e]; rfl)
    obtain ⟨r, m, i, rfl⟩ : ∃ r m i, pq = .spot r m i := by
      cases pq with
      | beg => exact absurd rfl hnb
      | fin => exact absurd rfl hnf
      | spot r m i => exact ⟨r, m, i, rfl⟩
    obtain ⟨t, rfl, ht⟩ := hq
    refine ⟨_, rfl, t, _, rfl, .inl (.inl ht), rfl, ?_⟩
    refine ⟨_, _, rfl, _, _, rfl, _, _, rfl, rfl, ?_⟩
    refine ⟨_, rfl, rfl, _, rfl, ite2 (fun hc => ?_) (fun hc => ?_)⟩
    · have hi0 := V.int.inj (of_decide_eq_true hc)
      refine ⟨_, rfl, _, rfl, Nat.le_of_ble_eq_true rfl, fun t2 ht2 => ⟨Nat.le_of_ble_eq_true rfl, fun p np => ?_⟩⟩
      have hp2 : t2 ≠ p := fun e => by
        rw [e, upd_same] at np
        cases np
      refine q _ p [.spot r m 1] ((same_upd ht2).trans (same_upd np)) ((same_upd ht2).free np) ⟨_, upd_same, .cons ⟨t2, rfl, ?_⟩ .nil⟩ (Nat.le_of_ble_eq_true rfl) fun q' => ?_
      · rw [upd_ne hp2, upd_same]
      · cases q' with
        | beg => simp [PM.On]
        | fin => simp [PM.On, hi0]
        | spot r' m' i' =>
          simp only [PM.On, List.mem_singleton, PM.Pl.spot.injEq]
          constructor
          · rintro ⟨rfl, rfl, rfl⟩
            exact .inl ⟨hi0, rfl, rfl, rfl⟩
          · rintro (⟨_, h1, h2, h3⟩ | ⟨h, _⟩)
            · exact ⟨h1, h2, h3⟩
            · exact absurd hi0 h
    · have hi0 : i ≠ 0 := fun e => hc (decide_eq_true (by rw [e]))
      refine ⟨_, rfl, _, rfl, rfl, _, rfl, ite2 (fun hc2 => ?_) (fun hc2 => ?_)⟩
      · have hc2 := V.int.inj (of_decide_eq_true hc2)
        refine ⟨_, rfl, _, rfl, l2, _, rfl, .inl (.inl (.inl hA.wa)), rfl, flat_ints _, _, rfl, ite2 (fun hc3 => ?_) (fun hc3 => ?_)⟩
        · rw [if_neg (by decide), inV_ints] at hc3
          have hc3 := of_decide_eq_true hc3
          refine ⟨Nat.le_of_ble_eq_true rfl, fun p np => q _ p [.fin] (same_upd np) np ⟨_, upd_same, .cons rfl .nil⟩ (Nat.le_of_ble_eq_true rfl) fun q' => ?_⟩
          cases q' with
          | beg => simp [PM.On]
          | fin => simp [PM.On, hi0, hc2, hc3]
          | spot r' m' i' => simp [PM.On, hi0, hc2]
        · rw [if_neg (by decide), inV_ints] at hc3
          have hc3 : ¬ r ∈ wanted := fun z => hc3 (decide_eq_true z)
          refine ⟨Nat.zero_le _, fun p np => q _ p [] (same_upd np) np ⟨[], upd_same, .nil⟩ (Nat.zero_le _) fun q' => ?_⟩
          cases q' with
          | beg => simp [PM.On]
          | fin => simp [PM.On, hc3]
          | spot r' m' i' => simp [PM.On, hi0, hc2]
      · have hc2 : m ≠ (tm : Int) := fun e => hc2 (decide_eq_true (by rw [e]))
        refine ⟨_, rfl, Nat.le_of_ble_eq_true rfl, fun o no => ?_⟩
        have s1 : Same H (upd H o (.lst [.int r])) := same_upd no
        have e1 : upd H o (.lst [.int r]) o = some (.lst [.int r]) := upd_same
        generalize upd H o (.lst [.int r]) = H1 at s1 e1
        obtain ⟨dx, l, hf, _⟩ := (hF.mono s1).there
        refine ⟨_, rfl, f, dx, _, rfl, hf, fs2_no _ _ (by decide +kernel) (by decide +kernel), _, rfl, f, r, rooms, ds, rfl, hF.mono s1, fun H2 p ns s2 np hp hns hln => ?_⟩
        refine ⟨o, p, [.int r], ns.map V.int, rfl, rfl, s2 _ _ e1, hp, line64 (by rw [List.length_map]; show 1 + ns.length ≤ _; omega), fun p3 np3 => ?_⟩
        have s3 : Same H (upd H2 p3 (.lst ([.int r] ++ ns.map V.int))) := (s1.trans s2).trans (same_upd np3)
        have e3 : IntsL (upd H2 p3 (.lst ([.int r] ++ ns.map V.int))) p3 (r :: ns) := upd_same
        generalize upd H2 p3 (.lst ([.int r] ++ ns.map V.int)) = H3 at s3 e3
        refine ⟨p3, rfl, ⟨_, .inl (.inl e3)⟩, fun D hD => ?_⟩
        refine lcf (R := fun H q v => PlIn H q v) (n := ((r :: ns).map V.int).length) walk_list (fun i => ((r :: ns)[i]?).map fun r => PM.Pl.spot r (m + 1) 0) (fun _ _ _ _ y => y.1) hD (by rw [List.length_map, List.length_cons]; omega) (fun H' s => .inl (.inl (e3.mono s))) plin_mv (fun i x H' Q N hi s _ y q _ => ?_) (fun H' us s e p => ?_)
        · obtain ⟨z, hz, rfl⟩ := ints_of y.2
          refine ⟨rfl, ?_⟩
          refine ⟨_, rfl, _, rfl, _, _, rfl, rfl, Nat.le_of_ble_eq_true rfl, fun t ht => ?_⟩
          exact q (PM.Pl.spot z (m + 1) 0) (by rw [hz]; rfl) _ _ (same_upd ht) ⟨t, rfl, upd_same⟩
        · refine q _ D _ (s3.trans s) (s3.free hD) ⟨us, e, p⟩ ?_ fun q' => ?_
          · have l := List.length_filterMap_le (fun i => ((r :: ns)[i]?).map fun r => PM.Pl.spot r (m + 1) 0) (List.range ((r :: ns).map V.int).length)
            rw [List.length_range, List.length_map, List.length_cons] at l
            rw [List.length_map, List.length_cons]
            omega
          · rw [List.length_map, mem_fm (fun r => some (PM.Pl.spot r (m + 1) 0)) (fun i x h => by simp only [h]; rfl)]
            cases q' with
            | beg => simp [PM.On]
            | fin => simp [PM.On, hc2]
            | spot r' m' i' =>
              simp only [PM.On, Option.some.injEq, PM.Pl.spot.injEq, PM.Step]
              constructor
              · rintro ⟨x, hx, rfl, rfl, rfl⟩
                refine .inr ⟨hi0, hc2, rfl, rfl, ?_⟩
                rcases List.mem_cons.mp hx with e | hx
                · exact .inl e
                · exact .inr ((hns _).mp hx)
              · rintro (⟨h, _⟩ | ⟨_, _, rfl, rfl, h⟩)
                · exact absurd h hi0
                · refine ⟨_, ?_, rfl, rfl, rfl⟩
                  rcases h with e | h
                  · exact List.mem_cons.mpr (.inl e)
                  · exact List.mem_cons_of_mem _ ((hns _).mpr h)
end
end PW
set_option Elab.async false
set_option linter.all false
set_option maxRecDepth 100000
set_option maxHeartbeats 4000000
namespace PW
open PySem PySem.Spec PyProof.Rows L2 PMD
/-! ### the two dicts -/
abbrev FRel (H : Hp) : NestedKey × V × V → PM.Pl × Option PM.Pl → Prop := fun p e => p.1 = pk e.1 ∧ PlIn H e.1 p.2.1 ∧ OpIn H e.2 p.2.2
abbrev URel (H : Hp) : NestedKey × V × V → PM.Eg → Prop := fun p e => p.1 = ek e ∧ PrIn H e p.2.1
theorem found_oks {H : Hp} {kvs : ME} {fs : List (PM.Pl × Option PM.Pl)} (h : Paired (FRel H) kvs fs) : KOks H kvs := fun p hp => by
  obtain ⟨i, hi⟩ := List.mem_iff_getElem?.mp hp
  obtain ⟨b, _, e, r, _⟩ := paired_get h hi
  rw [e]
  exact r.ok
theorem used_oks {H : Hp} {kvs : ME} {U : List PM.Eg} (h : Paired (URel H) kvs U) : KOks H kvs := fun p hp => by
  obtain ⟨i, hi⟩ := List.mem_iff_getElem?.mp hp
  obtain ⟨b, _, e, r⟩ := paired_get h hi
  rw [e]
  exact r.ok
theorem found_keys {H : Hp} {kvs : ME} {fs : List (PM.Pl × Option PM.Pl)} (h : Paired (FRel H) kvs fs) : kvs.map (·.1) = fs.map fun e => pk e.1 := by
  induction h with
  | nil => rfl
  | cons r _ ih => rw [List.map_cons, List.map_cons, ih, r.1]
theorem used_keys {H : Hp} {kvs : ME} {U : List PM.Eg} (h : Paired (URel H) kvs U) : kvs.map (·.1) = U.map ek := by
  induction h with
  | nil => rfl
  | cons r _ ih => rw [List.map_cons, List.map_cons, ih, r.1]
theorem found_none {H : Hp} {kvs : ME} {fs : List (PM.Pl × Option PM.Pl)} (h : Paired (FRel H) kvs fs) (q : PM.Pl) : lk kvs (pk q) = none ↔ q ∉ fs.map (·.1) := by
  rw [lk_none, found_keys h]
  refine not_congr ⟨fun hm => ?_, fun hm => ?_⟩
  · obtain ⟨e, he, h2⟩ := List.mem_map.mp hm
    exact List.mem_map.mpr ⟨e, he, pk_inj h2⟩
  · obtain ⟨e, he, h2⟩ := List.mem_map.mp hm
    exact List.mem_map.mpr ⟨e, he, by rw [h2]⟩
theorem used_none {H : Hp} {kvs : ME} {U : List PM.Eg} (h : Paired (URel H) kvs U) (e : PM.Eg) : lk kvs (ek e) = none ↔ e ∉ U := by
  rw [lk_none, used_keys h]
  refine not_congr ⟨fun hm => ?_, fun hm => ?_⟩
  · obtain ⟨e', he, h2⟩ := List.mem_map.mp hm
    exact ek_inj h2 ▸ he
  · exact List.mem_map.mpr ⟨e, hm, rfl⟩
theorem found_is {H : Hp} {kvs : ME} {fs : List (PM.Pl × Option PM.Pl)} (h : Paired (FRel H) kvs fs) (q : PM.Pl) : (lk kvs (pk q)).isSome = decide (q ∈ fs.map (·.1)) := by
  have := found_none h q
  cases e : lk kvs (pk q) with
  | none => exact (decide_eq_false (this.mp e)).symm
  | some v => exact (decide_eq_true (Classical.byContradiction fun n => by rw [this.mpr n] at e; cases e)).symm
theorem used_is {H : Hp} {kvs : ME} {U : List PM.Eg} (h : Paired (URel H) kvs U) (e : PM.Eg) : (lk kvs (ek e)).isSome = decide (e ∈ U) := by
  have := used_none h e
  cases g : lk kvs (ek e) with
  | none => exact (decide_eq_false (this.mp g)).symm
  | some v => exact (decide_eq_true (Classical.byContradiction fun n => by rw [this.mpr n] at g; cases g)).symm
theorem found_at {H : Hp} {kvs : ME} {fs : List (PM.Pl × Option PM.Pl)} (h : Paired (FRel H) kvs fs) (nd : (fs.map (·.1)).Nodup) {i : Nat} {q : PM.Pl} {o : Option PM.Pl} (hi : fs[i]? = some (q, o)) : ∃ v, lk kvs (pk q) = some v ∧ OpIn H o v := by
  obtain ⟨⟨k, kv, v⟩, hk, e, r, ro⟩ := paired_at h hi
  refine ⟨v, ?_, ro⟩
  have e : k = pk q := e
  subst e
  refine lk_get ?_ hk
  rw [found_keys h]
  have : (fs.map fun e => pk e.1) = (fs.map (·.1)).map pk := by rw [List.map_map]; rfl
  rw [this]
  exact List.pairwise_map.mpr (nd.imp fun hne e => hne (pk_inj e))
theorem FoundAt.at {w : World} {H H' : Hp} {a d : Addr} (s : Same (hid a H) H') (ha : ∀ ys, H a ≠ some (.tup ys)) (hd : d ≠ a) {fs : List (PM.Pl × Option PM.Pl)} (h : FoundAt w H d fs) : FoundAt w H' d fs :=
  let ⟨k, e, h⟩ := h; ⟨k, hid_at s e hd, paired_mono h fun _ _ q => ⟨q.1, q.2.1.mono (tups_hid s ha), q.2.2.mono (tups_hid s ha)⟩⟩
theorem UsedAt.at {w : World} {H H' : Hp} {a d : Addr} (s : Same (hid a H) H') (ha : ∀ ys, H a ≠ some (.tup ys)) (hd : d ≠ a) {U : List PM.Eg} (h : UsedAt w H d U) : UsedAt w H' d U :=
  let ⟨k, e, h⟩ := h; ⟨k, hid_at s e hd, paired_mono h fun _ _ q => ⟨q.1, q.2.mono (tups_hid s ha)⟩⟩
theorem OnL.mono {H H' : Hp} (s : Same H H') {l : Addr} {qs : List PM.Pl} (h : OnL H l qs) : OnL H' l qs := let ⟨us, e, p⟩ := h; ⟨us, s _ _ e, paired_mono p fun _ _ r => r.mono (tups_of s)⟩
theorem OnL.at {H H' : Hp} {a l : Addr} (s : Same (hid a H) H') (ha : ∀ ys, H a ≠ some (.tup ys)) (hl : l ≠ a) {qs : List PM.Pl} (h : OnL H l qs) : OnL H' l qs := let ⟨us, e, p⟩ := h; ⟨us, hid_at s e hl, paired_mono p fun _ _ r => r.mono (tups_hid s ha)⟩
theorem dmO_notup {H : Hp} {d : Addr} {w : World} {kvs : ME} (h : H d = some (dmO d w kvs)) : ∀ ys, H d ≠ some (.tup ys) := fun ys e => by
  rw [h] at e
  cases e
theorem FoundAt.push {w : World} {H : Hp} {d : Addr} {kvs : ME} {fs : List (PM.Pl × Option PM.Pl)} {q : PM.Pl} {o : Option PM.Pl} {v u : V} (e : H d = some (dmO d w kvs)) (h : Paired (FRel H) kvs fs) (hv : PlIn H q v) (hu : OpIn H o u) :
    FoundAt w (upd H d (dmO d w (kvs ++ [(pk q, v, u)]))) d (fs ++ [(q, o)]) := by
  have t := tups_upd (o := dmO d w (kvs ++ [(pk q, v, u)])) (dmO_notup e)
  exact ⟨_, upd_same, Paired.snoc (paired_mono h fun _ _ r => ⟨r.1, r.2.1.mono t, r.2.2.mono t⟩) ⟨rfl, hv.mono t, hu.mono t⟩⟩
theorem UsedAt.push {w : World} {H : Hp} {d : Addr} {kvs : ME} {U : List PM.Eg} {q : PM.Eg} {v u : V} (e : H d = some (dmO d w kvs)) (h : Paired (URel H) kvs U) (hv : PrIn H q v) :
    UsedAt w (upd H d (dmO d w (kvs ++ [(ek q, v, u)]))) d (U ++ [q]) := by
  have t := tups_upd (o := dmO d w (kvs ++ [(ek q, v, u)])) (dmO_notup e)
  exact ⟨_, upd_same, Paired.snoc (paired_mono h fun _ _ r => ⟨r.1, r.2.mono t⟩) ⟨rfl, hv.mono t⟩⟩
theorem paired_filter {α β : Type} {R : α → β → Prop} {f : α → Bool} {g : β → Bool} (hfg : ∀ a b, R a b → f a = g b) {l : List α} {m : List β} (h : Paired R l m) : Paired R (l.filter f) (m.filter g) := by
  induction h with
  | nil => exact .nil
  | cons r t ih =>
    rw [List.filter_cons, List.filter_cons, hfg _ _ r]
    split
    · exact .cons r ih
    · exact ih
theorem UsedAt.drop {w : World} {H : Hp} {d : Addr} {kvs : ME} {U : List PM.Eg} {q : PM.Eg} (e : H d = some (dmO d w kvs)) (h : Paired (URel H) kvs U) :
    UsedAt w (upd H d (dmO d w (dropM kvs (ek q)))) d (PM.del U q) := by
  have t := tups_upd (o := dmO d w (dropM kvs (ek q))) (dmO_notup e)
  refine ⟨_, upd_same, paired_mono (paired_filter (fun a b r => ?_) h) fun _ _ r => ⟨r.1, r.2.mono t⟩⟩
  rw [r.1, Bool.eq_iff_iff, decide_eq_true_eq, decide_eq_true_eq]
  exact not_congr ⟨fun z => ek_inj z, fun z => by rw [z]⟩
theorem same_unlock {H H' : Hp} {u : Addr} {o z : HO} (e : H u = some o) (s : Same (upd H u z) H') : Same H (upd H' u o) := fun b x h => by
  by_cases hb : b = u
  · subst hb
    rw [upd_same, ← h, e]
  · rw [upd_ne hb]
    exact s b x (by rw [upd_ne hb]; exact h)
/-- all places that there are -/
def allP : List PM.Pl := .beg :: .fin :: (List.range 8).flatMap fun (r : Nat) => (List.range 9).flatMap fun (m : Nat) => [.spot (r : Int) (m : Int) 0, .spot (r : Int) (m : Int) 1]
theorem allP_len : allP.length = 146 := by decide +kernel
theorem allP_all {rooms : Int} {T : Nat} (hr : rooms ≤ 8) (hT : T ≤ 8) {p : PM.Pl} (h : PM.VP rooms T p) : p ∈ allP := by
  unfold allP
  cases p with
  | beg => exact List.mem_cons_self
  | fin => exact List.mem_cons_of_mem _ List.mem_cons_self
  | spot r m i =>
    obtain ⟨⟨r0, r1⟩, ⟨m0, m1⟩, hi⟩ := h
    refine List.mem_cons_of_mem _ (List.mem_cons_of_mem _ (List.mem_flatMap.mpr ⟨r.toNat, List.mem_range.mpr (by omega), List.mem_flatMap.mpr ⟨m.toNat, List.mem_range.mpr (by omega), ?_⟩⟩))
    have e1 : ((r.toNat : Nat) : Int) = r := by omega
    have e2 : ((m.toNat : Nat) : Int) = m := by omega
    rw [e1, e2]
    rcases hi with rfl | rfl
    · exact List.mem_cons_self
    · exact List.mem_cons_of_mem _ List.mem_cons_self
theorem places_few {rooms : Int} {T : Nat} (hr : rooms ≤ 8) (hT : T ≤ 8) {ps : List PM.Pl} (nd : ps.Nodup) (h : ∀ p ∈ ps, PM.VP rooms T p) : ps.length ≤ 146 := by
  rw [← allP_len]
  exact PM.nodup_le nd fun x hx => allP_all hr hT (h x hx)
theorem prod_len {α β : Type} (m : List β) : ∀ l : List α, (l.flatMap fun a => m.map fun b => (a, b)).length = l.length * m.length
  | [] => by simp
  | a :: l => by
    rw [List.flatMap_cons, List.length_append, prod_len m l, List.length_map, List.length_cons, Nat.succ_mul, Nat.add_comm]
/-- pairs of places -/
theorem pairs_few {rooms : Int} {T : Nat} (hr : rooms ≤ 8) (hT : T ≤ 8) {U : List PM.Eg} (nd : U.Nodup) (h : ∀ a b, (a, b) ∈ U → PM.VP rooms T a ∧ PM.VP rooms T b) : U.length ≤ 21316 := by
  have e : (allP.flatMap fun a => allP.map fun b => (a, b)).length = 21316 := by rw [prod_len, allP_len]
  rw [← e]
  refine PM.nodup_le nd fun x hx => ?_
  obtain ⟨a, b⟩ := x
  obtain ⟨h1, h2⟩ := h a b hx
  exact List.mem_flatMap.mpr ⟨a, allP_all hr hT h1, List.mem_map.mpr ⟨b, allP_all hr hT h2, rfl⟩⟩
end PW
set_option Elab.async false
set_option linter.all false
set_option maxRecDepth 100000
set_option maxHeartbeats 4000000
namespace PW
open PySem PySem.Spec PyProof.Rows L2 PMD
/-! ### one way more -/
abbrev sPut : Stmt := topS 26
theorem scPut : FnScope ["used", "found", "here", "ahead"] ["used", "found"] (defScope sPut) := ⟨rfl, rfl, rfl, by decide +kernel, rfl, by decide +kernel, by decide +kernel⟩
def spPut (w : World) : Sp := fun vs H Q _ => ∃ (u d : Addr) (rooms : Int) (ds : List (Int × Int)) (first wanted : List Int) (T : Nat) (U : List PM.Eg) (fs : List (PM.Pl × Option PM.Pl)) (v : Int), vs = [.ref u, .ref d] ∧ u ≠ d ∧
  PM.Ask rooms ds first wanted T ∧ UsedAt w H u U ∧ FoundAt w H d fs ∧ PM.Flow (PM.Ed rooms ds first wanted T) v U ∧ PM.Fd (PM.Ed rooms ds first wanted T) U fs ∧ PM.Pl.fin ∈ fs.map (·.1) ∧
  ∀ H' U', Same (hid u H) H' → UsedAt w H' u U' → PM.Flow (PM.Ed rooms ds first wanted T) (v + 1) U' → Q .non H'
theorem UsedAt.notup {w : World} {H : Hp} {u : Addr} {U : List PM.Eg} (h : UsedAt w H u U) : ∀ ys, H u ≠ some (.tup ys) := let ⟨_, e, _⟩ := h; dmO_notup e
theorem PlIn.nn {H : Hp} {q : PM.Pl} {v : V} (h : PlIn H q v) : v ≠ .non := fun e => by
  subst e
  cases q with
  | beg => cases h
  | fin => cases h
  | spot r m i =>
    obtain ⟨t, e, _⟩ := h
    cases e
section
variable {P : Program} {w : World} {K : PySem.W.Frag} {mg : Str → Option Value} {base : Heap}
theorem ok_put {f C : Addr} {fd : FuncData} (F : Fun K "put_way" "put_way" sPut f fd) (T : Txt K mg C) : FnOk P w K mg base CX0 1 f fd ["used", "found"] (spPut w) := by
  refine F.ok scPut (fun vs H Q E h => ?_) (fun cdv A outer s H vs Q E hr h => ?_)
  · obtain ⟨u, d, rooms, ds, first, wanted, tm, U, fs, v, rfl, _⟩ := h
    rfl
  · obtain ⟨u, d, rooms, ds, first, wanted, tm, U, fs, v, rfl, hud, A2, hU, hFd, hFl, fdd, hfin, q⟩ := h
    obtain ⟨tE, hE⟩ := T.fin
    refine ⟨_, pss_cons (ps_set (i := 2) scPut.nd rfl (.inl rfl) (pe_glob (v := .str sFin) (by rfl) hE ⟨tE, rfl⟩))
      (pss_one (ps_while PassesOwn.never (pt_cmpR op_notN (pe_ix (ixMW w hr) (pv 1) (pv 2) (fun _ _ => rfl)) pe_non (by rfl))
        (pss_cons (ps_set (i := 3) scPut.nd rfl (.inl rfl) (pe_ix (ixMW w hr) (pv 1) (pv 2) (fun _ _ => rfl)))
        (Evl.pss_cut (ps_if (pt_cmpR (inMK w hr) (pe_tup (pa_cons (pv 2) (pa_cons (pv 3) pa_nil))) (pv 0) (by rfl)) (pss_one (ps_expr (mpopW w hr (pv 0) (pe_tup (pa_cons (pv 2) (pa_cons (pv 3) pa_nil))) ⟨rfl, rfl, rfl, rfl⟩)))
          (pss_one (ps_asg pe_bl (pg_sub (pv 0) (pe_tup (pa_cons (pv 3) (pa_cons (pv 2) pa_nil))) (setMW w hr)))))
        (pss_one (ps_set (i := 2) scPut.nd rfl (.inl rfl) (pv 3))))))), ?_⟩
    obtain ⟨i0, hi0⟩ := List.mem_iff_getElem?.mp hfin
    obtain ⟨o0, ho0⟩ : ∃ o, fs[i0]? = some (PM.Pl.fin, o) := by
      rw [List.getElem?_map] at hi0
      cases e : fs[i0]? with
      | none => rw [e] at hi0; cases hi0
      | some x =>
        rw [e] at hi0
        cases x with
        | mk a b =>
          cases (Option.some.inj hi0 : a = PM.Pl.fin)
          exact ⟨b, rfl⟩
    have ntU := hU.notup
    refine ⟨fun m σ H' => ∃ (here : PM.Pl) (vh : V) (U' : List PM.Eg) (y3 : Option V), σ = [some (.ref u), some (.ref d), some vh, y3] ∧ PlIn H' here vh ∧ Same (hid u H) H' ∧ UsedAt w H' u U' ∧ PM.PW (PM.Ed rooms ds first wanted tm) v fs m here U',
      ⟨i0, .fin, .str sFin, U, none, rfl, rfl, hid_le, hU, PM.PW.start fdd hFl ho0⟩, ?_⟩
    rintro m σ H' ⟨here, vh, U', y3, rfl, hh, sm, hU', pw⟩
    obtain ⟨o, ho⟩ := pw.at_
    have hF' := hFd.at sm ntU hud.symm
    obtain ⟨kvf, hkf, hfp⟩ := hF'
    obtain ⟨vo, hlk, hvo⟩ := found_at hfp fdd.nd ho
    refine ⟨_, rfl, _, rfl, d, kvf, pk here, vo, rfl, .inl hkf, found_oks hfp, hh.ok, hlk, rfl, _, rfl, ?_⟩
    cases o with
    | none =>
      have hvo : vo = .non := hvo
      subst hvo
      refine ite2 (fun h => by cases h) (fun _ => ?_)
      obtain ⟨_, fl⟩ := pw.end_ fdd ho
      exact q H' U' sm hU' fl
    | some ahead =>
      have hva : PlIn H' ahead vo := hvo
      refine ite2 (fun _ => ?_) (fun h => absurd (by rw [decide_eq_false hva.nn]; rfl) h)
      obtain ⟨hnew, j, hj, pw'⟩ := PM.PW.step fdd pw ho
      refine ⟨fun σ' H' => ∃ (here : PM.Pl) (vh : V) (U' : List PM.Eg) (y3 : Option V), σ' = [some (.ref u), some (.ref d), some vh, y3] ∧ PlIn H' here vh ∧ Same (hid u H) H' ∧ UsedAt w H' u U' ∧ PM.PW (PM.Ed rooms ds first wanted tm) v fs j here U', fun σ' H' h => ⟨j, hj, h⟩, ?_⟩
      refine ⟨_, rfl, _, rfl, d, kvf, pk here, vo, rfl, .inl hkf, found_oks hfp, hh.ok, hlk, ?_⟩
      refine ⟨fun σ2 H2 => σ2 = [some (.ref u), some (.ref d), some vh, some vo] ∧ PlIn H2 ahead vo ∧ Same (hid u H) H2 ∧ UsedAt w H2 u (PM.putStep U' here ahead), ?_, ?_⟩
      · refine ⟨_, rfl, _, rfl, Nat.le_of_ble_eq_true rfl, fun t ht => ?_⟩
        have s1 : Same H' (upd H' t (.tup [vh, vo])) := same_upd ht
        have e1 : upd H' t (.tup [vh, vo]) t = some (.tup [vh, vo]) := upd_same
        dsimp only
        generalize upd H' t (.tup [vh, vo]) = H1 at s1 e1
        have hh1 := hh.mono (tups_of s1)
        have hva1 := hva.mono (tups_of s1)
        have sm1 := sm.trans s1
        have pr : PrIn H1 (here, ahead) (.ref t) := ⟨t, vh, vo, rfl, e1, hh1, hva1⟩
        obtain ⟨kvs, hk, hkp⟩ := hU'.mono s1
        refine ⟨_, rfl, u, kvs, ek (here, ahead), rfl, .inl hk, used_oks hkp, pr.ok, _, rfl, ?_⟩
        rw [used_is hkp]
        refine ite2 (fun hc => ?_) (fun hc => ?_)
        · have hm : (here, ahead) ∈ U' := of_decide_eq_true hc
          refine ⟨_, rfl, u, kvs, rfl, hk, _, rfl, _, rfl, Nat.le_of_ble_eq_true rfl, fun t2 ht2 => ?_⟩
          have s2 : Same H1 (upd H1 t2 (.tup [vh, vo])) := same_upd ht2
          have e2 : upd H1 t2 (.tup [vh, vo]) t2 = some (.tup [vh, vo]) := upd_same
          dsimp only
          generalize upd H1 t2 (.tup [vh, vo]) = H2 at s2 e2
          have hh2 := hh1.mono (tups_of s2)
          have hva2 := hva1.mono (tups_of s2)
          have pr2 : PrIn H2 (here, ahead) (.ref t2) := ⟨t2, vh, vo, rfl, e2, hh2, hva2⟩
          have hkp2 := paired_mono hkp fun _ _ (r : URel H1 _ _) => (⟨r.1, r.2.mono (tups_of s2)⟩ : URel H2 _ _)
          have hsome : ∃ z, lk kvs (ek (here, ahead)) = some z := by
            have := used_is hkp2 (here, ahead)
            rw [decide_eq_true hm] at this
            exact Option.isSome_iff_exists.mp this
          obtain ⟨z, hz⟩ := hsome
          refine ⟨kvs, ek (here, ahead), z, s2 _ _ hk, used_oks hkp2, pr2.ok, hz, rfl, hva2.mono (tups_upd (dmO_notup (s2 _ _ hk))), hid_trans (sm1.trans s2) hid_upd, ?_⟩
          unfold PM.putStep
          rw [if_pos hm]
          exact UsedAt.drop (s2 _ _ hk) hkp2
        · have hm : (here, ahead) ∉ U' := fun m => hc (decide_eq_true m)
          have hn := hnew hm
          refine ⟨_, rfl, _, rfl, _, rfl, Nat.le_of_ble_eq_true rfl, fun t2 ht2 => ?_⟩
          have s2 : Same H1 (upd H1 t2 (.tup [vo, vh])) := same_upd ht2
          have e2 : upd H1 t2 (.tup [vo, vh]) t2 = some (.tup [vo, vh]) := upd_same
          dsimp only
          generalize upd H1 t2 (.tup [vo, vh]) = H2 at s2 e2
          have hh2 := hh1.mono (tups_of s2)
          have hva2 := hva1.mono (tups_of s2)
          have pr2 : PrIn H2 (ahead, here) (.ref t2) := ⟨t2, vo, vh, rfl, e2, hva2, hh2⟩
          have hkp2 := paired_mono hkp fun _ _ (r : URel H1 _ _) => (⟨r.1, r.2.mono (tups_of s2)⟩ : URel H2 _ _)
          have klen := Paired.length hkp
          have hl := pairs_few A2.ds.hi A2.ti pw.hf.nd (fun a b h => (pw.hf.ed a b h).vp A2)
          refine ⟨u, kvs, ek (ahead, here), rfl, s2 _ _ hk, used_oks hkp2, pr2.ok, line63 (by omega), (used_none hkp2 _).mpr hn, rfl, hva2.mono (tups_upd (dmO_notup (s2 _ _ hk))), hid_trans (sm1.trans s2) hid_upd, ?_⟩
          unfold PM.putStep
          rw [if_neg hm]
          exact UsedAt.push (s2 _ _ hk) hkp2 pr2
      · rintro σ2 H2 ⟨rfl, hva2, sm2, hU2⟩
        exact ⟨_, rfl, ahead, vo, _, _, rfl, hva2, sm2, hU2, pw'⟩
end
end PW
set_option Elab.async false
set_option linter.all false
set_option maxRecDepth 100000
set_option maxHeartbeats 4000000
namespace PW
open PySem PySem.Spec PyProof.Rows L2 PMD
/-! ### what one more way can come to -/
abbrev sCome : Stmt := topS 25
theorem scCome : FnScope ["floor", "first", "wanted", "time", "used", "found", "left", "here", "some", "there", "one", "other"] ["floor", "first", "wanted", "time", "used"] (defScope sCome) := ⟨rfl, rfl, rfl, by decide +kernel, rfl, by decide +kernel, by decide +kernel⟩
abbrev EdT (rooms : Int) (ds : List (Int × Int)) (first wanted : List Int) (T : Nat) := PM.Ed rooms ds first wanted T
def spCome (w : World) (C : Addr) : Sp := fun vs H Q _ => ∃ (f l1 l2 u : Addr) (rooms : Int) (ds : List (Int × Int)) (first wanted : List Int) (T : Nat) (U : List PM.Eg), vs = [.ref f, .ref l1, .ref l2, .int T, .ref u] ∧
  AskAt C H f l1 l2 rooms ds first wanted ∧ PM.Ask rooms ds first wanted T ∧ UsedAt w H u U ∧ U.Nodup ∧ (∀ a b, (a, b) ∈ U → PM.Ed rooms ds first wanted T a b) ∧
  ∀ H' d fs, Same H H' → H d = none → FoundAt w H' d fs → PM.Fd (PM.Ed rooms ds first wanted T) U fs → PM.Closed (PM.Ed rooms ds first wanted T) U (fs.map (·.1)) → fs.length ≤ 146 → (∀ q ∈ fs.map (·.1), PM.VP rooms T q) → Q (.ref d) H'
theorem paired_append {α β : Type} {R : α → β → Prop} {l1 l2 : List α} {m1 m2 : List β} (h1 : Paired R l1 m1) (h2 : Paired R l2 m2) : Paired R (l1 ++ l2) (m1 ++ m2) := by
  induction h1 with
  | nil => exact h2
  | cons r _ ih => exact .cons r ih
theorem seq0 (n : Nat) : seqIndex? 0 (n + 1) = some 0 := by
  unfold seqIndex?
  simp
def CI (w : World) (rooms : Int) (ds : List (Int × Int)) (first wanted : List Int) (tm : Nat) (U : List PM.Eg) (H : Hp) (f l1 l2 u d l : Addr) (fs : List (PM.Pl × Option PM.Pl)) (ls : List PM.Pl) (σ : L2.St) (H' : Hp) : Prop :=
  ∃ (y7 y8 y9 : Option V), σ = [some (.ref f), some (.ref l1), some (.ref l2), some (.int tm), some (.ref u), some (.ref d), some (.ref l), y7, y8, y9, none, none] ∧
      Same H H' ∧ FoundAt w H' d fs ∧ OnL H' l ls ∧ PM.Bf (PM.Ed rooms ds first wanted tm) U fs ls ∧ (∀ q ∈ fs.map (·.1), PM.VP rooms tm q) ∧ ls.length ≤ fs.length
section
variable {P : Program} {w : World} {K : PySem.W.Frag} {mg : Str → Option Value} {base : Heap}
theorem ok_come {f fO C : Addr} {fd fdO : FuncData} (F : Fun K "come_to" "come_to" sCome f fd) (T : Txt K mg C) (GO : FnOk P w K mg base CX0 2 fO fdO ["floor", "first", "wanted", "time", "place"] (spOnward C)) (kO : PySem.W.keepIn K (.ref fO) = true) (bO : Binds K fdO ["floor", "first", "wanted", "time", "place"] []) (gO : mg "onward" = some (.ref fO)) :
    FnOk P w K mg base CX0 3 f fd ["floor", "first", "wanted", "time", "used"] (spCome w C) := by
  refine F.ok scCome (fun vs H Q E h => ?_) (fun cdv A outer s H vs Q E hr h => ?_)
  · obtain ⟨f, l1, l2, u, rooms, ds, first, wanted, tm, U, rfl, _⟩ := h
    rfl
  · obtain ⟨f, l1, l2, u, rooms, ds, first, wanted, tm, U, rfl, hA, A2, hU, Und, hE, q⟩ := h
    have hu := Nat.lt_of_succ_lt (roomU hr)
    obtain ⟨tB', hB⟩ := T.beg
    refine ⟨_, pss_cons (ps_set (i := 5) scCome.nd rfl (.inl rfl) (asMW w (pe_disp (pps_cons (pe_glob (v := .str sBeg) (by rfl) hB ⟨tB', rfl⟩) pe_non pps_nil) rfl rfl (by simp) (by decide))))
      (pss_cons (ps_set (i := 6) scCome.nd rfl (.inl rfl) (pe_lst (pa_cons (pe_glob (v := .str sBeg) (by rfl) hB ⟨tB', rfl⟩) pa_nil)))
      (pss_cons (ps_while PassesOwn.never (pt_cmpR op_gt (pe_callB call_len_seq (by rfl) T.len PySem.boot_len (pa_cons (pv 6) pa_nil)) pe_int (nomark _))
        (pss_cons (ps_set (i := 7) scCome.nd rfl (.inr rfl) (pe_popK K (pv 6) (pa_cons pe_int pa_nil)))
        (pss_cons (ps_setLc (i := 8) (own := [("there", 9)]) (g := gName 9) rfl scCome.nd rfl rfl (by rfl) (pi_list (pe_call GO hr (by rfl) gO kO bO .nil pass0 (pa_cons (pv 0) (pa_cons (pv 1) (pa_cons (pv 2) (pa_cons (pv 3) (pa_cons (pv 7) pa_nil))))))) (blkOk_by (N := ["floor", "first", "wanted", "time", "used", "found", "left", "here", "some", "there", "one", "other"]) (sc := defScope sCome) (by decide +kernel))
          (fun _ _ _ _ _ => pg_name (i := 9) scCome.nd rfl (Or.inl rfl)) (fun _ _ _ _ _ => pts_one (pt_cmpR (notInMK w hr) (pe_tup (pa_cons (pv 7) (pa_cons (pv 9) pa_nil))) (pv 4) (by rfl))) (fun _ _ _ _ _ => pv 9))
        (pss_cons (ps_set (i := 8) scCome.nd rfl (.inl rfl) (pe_op op_cat (pv 8) (pe_lock (pe_lc (own := [("one", 10), ("other", 11)]) (g := gTup K 2 (gCons (gName 10) (gCons (gName 11) gNil))) rfl scCome.nd (piMW w (pv 4)) (blkOk_by (N := ["floor", "first", "wanted", "time", "used", "found", "left", "here", "some", "there", "one", "other"]) (sc := defScope sCome) (by decide +kernel))
          (fun _ _ _ _ _ => pg_tup rfl (pgs_cons (pg_name (i := 10) scCome.nd rfl (Or.inl rfl)) (pgs_cons (pg_name (i := 11) scCome.nd rfl (Or.inl rfl)) pgs_nil))) (fun _ _ _ _ _ => pts_one (pt_cmpR (eqDK K hu) (pv 11) (pv 7) (nomark _))) (fun _ _ _ _ _ => pv 10)))))
        (pss_one (ps_for PassesOwn.never rfl (pi_list (pv 8)) (pg_name (i := 9) scCome.nd rfl (.inl rfl))
          (pss_one (ps_if (pt_cmpR (notInMK w hr) (pv 9) (pv 5) (by rfl)) (pss_cons (ps_asg (pv 7) (pg_sub (pv 5) (pv 9) (setMW w hr))) (pss_one (ps_expr (pe_bm PySem.F.plainAttrs_list PySem.F.slot_list_append PySem.F.type_list_append mt_append (pv 6) (pa_cons (pv 9) pa_nil))))) pss_nil))))))))
      (pss_one (ps_ret (pv 5))))), ?_⟩
    refine fun d hd => ⟨upd_same, [(Sum.inr sBeg, .non)], rfl, (by decide), d, [(sBeg, .non)], rfl, ?_, ?_⟩
    · rw [upd_same]
      rfl
    have s1 : Same H (upd (upd (upd H d (.dK [])) d (.dK (mergeK [] [(Sum.inr sBeg, V.non)]))) d (dmO d w ([(sBeg, V.non)].map txM))) := same_updM (same_updM (same_upd hd) hd) hd
    have e1 : upd (upd (upd H d (.dK [])) d (.dK (mergeK [] [(Sum.inr sBeg, V.non)]))) d (dmO d w ([(sBeg, V.non)].map txM)) d = some (dmO d w [(pk .beg, .str sBeg, .non)]) := upd_same
    dsimp only [gName]
    generalize upd (upd (upd H d (.dK [])) d (.dK (mergeK [] [(Sum.inr sBeg, V.non)]))) d (dmO d w ([(sBeg, V.non)].map txM)) = H1 at s1 e1
    refine ⟨Nat.le_of_ble_eq_true rfl, fun l nl => ?_⟩
    have hdl : d ≠ l := fun e => by
      rw [← e, e1] at nl
      cases nl
    have nlH : H l = none := s1.free nl
    have s2 : Same H (upd H1 l (.lst [.str sBeg])) := s1.trans (same_upd nl)
    have e2 : upd H1 l (.lst [.str sBeg]) l = some (.lst [.str sBeg]) := upd_same
    have e3 : upd H1 l (.lst [.str sBeg]) d = some (dmO d w [(pk .beg, .str sBeg, .non)]) := by rw [upd_ne hdl]; exact e1
    dsimp only [gName]
    generalize upd H1 l (.lst [.str sBeg]) = H2 at s2 e2 e3
    have few : ∀ {fs : List (PM.Pl × Option PM.Pl)}, PM.Fd (PM.Ed rooms ds first wanted tm) U fs → (∀ q ∈ fs.map (·.1), PM.VP rooms tm q) → fs.length ≤ 146 := fun {fs} a b => by
      have := places_few A2.ds.hi A2.ti a.nd b
      rwa [List.length_map] at this
    refine ⟨fun m σ H' => ∃ (fs : List (PM.Pl × Option PM.Pl)) (ls : List PM.Pl), m = 2 * (200 - fs.length) + ls.length ∧ CI w rooms ds first wanted tm U H f l1 l2 u d l fs ls σ H', ⟨_, [(.beg, none)], [.beg], rfl, none, none, none, rfl, s2, ⟨_, e3, .cons ⟨rfl, rfl, rfl⟩ .nil⟩, ⟨_, e2, .cons rfl .nil⟩, PM.Bf.start, ?_, Nat.le_refl _⟩, ?_⟩
    · intro q hq
      simp at hq
      subst hq
      exact True.intro
    · rintro m σ H' ⟨fs, ls, rfl, y7, y8, y9, rfl, sm, hfd, ⟨us, hl, hp⟩, bf, vp, lsl⟩
      have fl := few bf.fd vp
      have lenu := Paired.length hp
      refine ⟨_, rfl, l, _, rfl, .inl (.inl (.inl hl)), _, _, rfl, rfl, _, rfl, ite2 (fun hc => ?_) (fun hc => ?_)⟩
      · have hc : (0 : Int) < ((us.length : Nat) : Int) := of_decide_eq_true hc
        obtain ⟨v, us', rfl⟩ : ∃ x y, us = x :: y := by
          cases us with
          | nil => exact absurd hc (by decide)
          | cons a b => exact ⟨a, b, rfl⟩
        obtain ⟨hq, ls', rfl⟩ : ∃ x y, ls = x :: y := by
          cases hp with
          | cons r t => exact ⟨_, _, rfl⟩
        obtain ⟨hv, hp⟩ : PlIn H' hq v ∧ Paired (fun v q => PlIn H' q v) us' ls' := by
          cases hp with
          | cons r t => exact ⟨r, t⟩
        refine ⟨fun σ' H' => ∃ fs' ls2, 2 * (200 - fs'.length) + ls2.length < 2 * (200 - fs.length) + (hq :: ls').length ∧ CI w rooms ds first wanted tm U H f l1 l2 u d l fs' ls2 σ' H', fun σ' H' ⟨fs', ls2, lt, c⟩ => ⟨_, lt, fs', ls2, rfl, c⟩, ?_⟩
        refine ⟨_, rfl, .inl ⟨rfl, _, .inl (.inl hl)⟩, l, _, 0, 0, v, rfl, rfl, hl, by decide, by decide, seq0 _, rfl, ?_⟩
        have nt := lst_notup hl
        have sm3 : Same H (upd H' l (.lst us')) := same_updM sm nlH
        have fd3 := hfd.at (hid_upd (o := .lst us')) nt hdl
        have on3 : OnL (upd H' l (.lst us')) l ls' := ⟨us', upd_same, paired_mono hp fun _ _ r => r.mono (tups_upd nt)⟩
        have hv3 : PlIn (upd H' l (.lst us')) hq v := hv.mono (tups_upd nt)
        dsimp only [gName]
        show tSeq _ _ _ _ (upd H' l (.lst us'))
        generalize upd H' l (.lst us') = H3 at sm3 fd3 on3 hv3
        have bi := bf.pop
        have hvp : PM.VP rooms tm hq := vp hq bi.hr
        refine ⟨_, rfl, _, rfl, _, rfl, _, rfl, _, rfl, f, l1, l2, v, rooms, ds, first, wanted, tm, hq, rfl, hA.mono sm3, A2, hv3, fun H4 p qs s4 np ⟨pus, hpl, hpp⟩ hql hqs => ⟨p, rfl, ⟨_, .inl (.inl hpl)⟩, fun D hD => ?_⟩⟩
        have sm4 := sm3.trans s4
        have plen := Paired.length hpp
        refine lcf (R := fun H q v => PlIn H q v) walk_list (fun i => (qs[i]?).bind fun q => if (hq, q) ∈ U then none else some q) (fun _ _ _ _ y => y.1) hD (by omega) (fun H' s => .inl (.inl (s _ _ hpl))) plin_mv (fun i x H5 Q5 N hi s5 _ y q5 n5 => ?_) (fun H5 us1 s5 eD p1 => ?_)
        · obtain ⟨z, hz, hzp⟩ := paired_get hpp y.2
          have hzp5 := hzp.mono (tups_of s5)
          refine ⟨rfl, ?_⟩
          refine ⟨_, rfl, _, rfl, Nat.le_of_ble_eq_true rfl, fun t ht => ?_⟩
          have s6 : Same H5 (upd H5 t (.tup [v, x])) := same_upd ht
          have e6 : upd H5 t (.tup [v, x]) t = some (.tup [v, x]) := upd_same
          dsimp only
          generalize upd H5 t (.tup [v, x]) = H6 at s6 e6
          obtain ⟨kvs, hk, hkp⟩ := hU.mono ((sm4.trans s5).trans s6)
          have pr : PrIn H6 (hq, z) (.ref t) := ⟨t, v, x, rfl, e6, (hv3.mono (tups_of s4)).mono (tups_of (s5.trans s6)), hzp5.mono (tups_of s6)⟩
          refine ⟨_, rfl, u, kvs, ek (hq, z), rfl, .inl hk, used_oks hkp, pr.ok, _, rfl, ?_⟩
          rw [used_is hkp]
          refine ite2 (fun hc => ?_) (fun hc => ?_)
          · have hn : (hq, z) ∉ U := fun m => by
              rw [decide_eq_true m] at hc
              cases hc
            refine ⟨_, rfl, q5 z ?_ _ _ s6 (hzp5.mono (tups_of s6))⟩
            rw [hz]
            exact if_neg hn
          · have hm : (hq, z) ∈ U := Classical.byContradiction fun n => hc (by rw [decide_eq_false n]; rfl)
            refine n5 ?_ _ s6
            rw [hz]
            exact if_pos hm
        · have sm5 := sm4.trans s5
          have s35 := s4.trans s5
          have hnone : ∀ {b o}, H3 b = some o → H5 b = some o := fun {b o} e => s35 _ _ e
          dsimp only [gName]
          obtain ⟨kvs, hk, hkp⟩ := hU.mono sm5
          have hDu : D ≠ u := fun e => by
            rw [e] at hD
            obtain ⟨k2, hk2, _⟩ := hU.mono sm4
            rw [hk2] at hD
            cases hD
          have hlen1 : us1.length ≤ 300 := by
            have l1 := Paired.length p1
            have l2 := List.length_filterMap_le (fun i => (qs[i]?).bind fun q => if (hq, q) ∈ U then none else some q) (List.range pus.length)
            rw [List.length_range] at l2
            omega
          have vpU : ∀ a b, (a, b) ∈ U → PM.VP rooms tm a ∧ PM.VP rooms tm b := fun a b h => (hE a b h).vp A2
          have hUl := pairs_few A2.ds.hi A2.ti Und vpU
          have klen := Paired.length hkp
          refine ⟨_, rfl, u, _, hk, True.intro, fun od => ?_⟩
          have eU : upd H5 u (.frz od (dmO u w kvs)) u = some (.frz od (dmO u w kvs)) := upd_same
          have eD5 : upd H5 u (.frz od (dmO u w kvs)) D = some (.lst us1) := by rw [upd_ne hDu]; exact eD
          have tu : ∀ b ys, H5 b = some (.tup ys) → upd H5 u (.frz od (dmO u w kvs)) b = some (.tup ys) := tups_upd (dmO_notup hk)
          have hkp' := paired_mono hkp fun _ _ (r : URel H5 _ _) => (⟨r.1, r.2.mono tu⟩ : URel (upd H5 u (.frz od (dmO u w kvs))) _ _)
          have hv5 : PlIn (upd H5 u (.frz od (dmO u w kvs))) hq v := (hv3.mono (tups_of s35)).mono tu
          refine ⟨_, rfl, u, od, kvs, rfl, eU, fun D2 hD2 => ?_⟩
          have hD2u : D2 ≠ u := fun e => by
            rw [e, eU] at hD2
            cases hD2
          have hD2D : D2 ≠ D := fun e => by
            rw [e, eD5] at hD2
            cases hD2
          have hD2H5 : H5 D2 = none := by rwa [upd_ne hD2u] at hD2
          have hloc : ∀ H6, Same (upd H5 u (.frz od (dmO u w kvs))) H6 → Same H5 (upd H6 u (dmO u w kvs)) := fun H6 s6 => same_unlock hk s6
          generalize upd H5 u (.frz od (dmO u w kvs)) = HL at eU eD5 hkp' hv5 hD2 hloc
          refine lcf (R := fun H q v => PlIn H q v) walk_m (fun i => (U[i]?).bind fun e => if e.2 = hq then some e.1 else none) (fun _ _ _ _ y => y.1) hD2 (by omega) (fun H' s => s _ _ eU) plin_mv (fun i x H6 Q6 N hi s6 _ y q6 n6 => ?_) (fun H6 us2 s6 eD2 p2 => ?_)
          · obtain ⟨_, k, vv, hy⟩ := y
            obtain ⟨e, he, ek1, pr⟩ := paired_get hkp' hy
            obtain ⟨t, x1, y1, rfl, ht, hx1, hy1⟩ := pr
            refine ⟨t, _, rfl, .inl (.inl (s6 _ _ ht)), rfl, _, _, rfl, _, _, rfl, rfl, rfl, ?_⟩
            refine ⟨_, rfl, _, rfl, _, _, (hy1.mono (tups_of s6)).dp, (hv5.mono (tups_of s6)).dp, plD_ok _, plD_ok _, _, rfl, ?_⟩
            rw [plD_eqv]
            refine ite2 (fun hc => ?_) (fun hc => ?_)
            · have hc := of_decide_eq_true hc
              refine ⟨_, rfl, q6 e.1 ?_ _ _ (Same.refl _) (hx1.mono (tups_of s6))⟩
              rw [he]
              exact if_pos hc
            · have hc : ¬ e.2 = hq := fun z => hc (decide_eq_true z)
              refine n6 ?_ _ (Same.refl _)
              rw [he]
              exact if_neg hc
          · have s57 := hloc H6 s6
            have hlen2 : us2.length ≤ 21316 := by
              have l1 := Paired.length p2
              have l2 := List.length_filterMap_le (fun i => (U[i]?).bind fun e => if e.2 = hq then some e.1 else none) (List.range kvs.length)
              rw [List.length_range] at l2
              omega
            have eD7 : upd H6 u (dmO u w kvs) D = some (.lst us1) := s57 _ _ eD
            have nt6 : ∀ ys, H6 u ≠ some (.tup ys) := fun ys e => by
              rw [s6 _ _ eU] at e
              cases e
            have eD27 : upd H6 u (dmO u w kvs) D2 = some (.lst us2) := by rw [upd_ne hD2u]; exact eD2
            have p27 : Paired (fun v q => PlIn (upd H6 u (dmO u w kvs)) q v) us2 ((List.range kvs.length).filterMap fun i => (U[i]?).bind fun e => if e.2 = hq then some e.1 else none) := paired_mono p2 fun _ _ r => r.mono (tups_upd nt6)
            refine ⟨s6 _ _ eU, D, D2, us1, us2, rfl, rfl, eD7, eD27, line64 (by omega), fun p8 np8 => ?_⟩
            generalize upd H6 u (dmO u w kvs) = H7 at s57 eD7 eD27 p27 np8
            have p17 := paired_mono p1 fun _ _ r => PlIn.mono (tups_of s57) r
            have hz : ∃ zs : List PM.Pl, Paired (fun v q => PlIn H7 q v) (us1 ++ us2) zs ∧ ∀ z, z ∈ zs ↔ (PM.On ds first wanted tm hq z ∧ (hq, z) ∉ U) ∨ (z, hq) ∈ U := by
              refine ⟨_, paired_append p17 p27, fun z => ?_⟩
              rw [List.mem_append, plen, klen, mem_fm (fun q => if (hq, q) ∈ U then none else some q) (fun i x h => by rw [h]; rfl), mem_fm (fun e => if e.2 = hq then some e.1 else none) (fun i x h => by rw [h]; rfl)]
              refine or_congr ⟨?_, ?_⟩ ⟨?_, ?_⟩
              · rintro ⟨x, hx, e⟩
                by_cases hm : (hq, x) ∈ U
                · rw [if_pos hm] at e; cases e
                · rw [if_neg hm] at e
                  cases e
                  exact ⟨(hqs _).mp hx, hm⟩
              · rintro ⟨h1, h2⟩
                exact ⟨z, (hqs _).mpr h1, if_neg h2⟩
              · rintro ⟨⟨x1, x2⟩, hx, e⟩
                by_cases hm : x2 = hq
                · rw [if_pos hm] at e
                  cases e
                  subst hm
                  exact hx
                · rw [if_neg hm] at e; cases e
              · intro h
                exact ⟨(z, hq), h, if_pos rfl⟩
            obtain ⟨zs, hzp, hzs⟩ := hz
            have s37 := s35.trans s57
            have sm7 := sm3.trans s37
            have fd7 := fd3.mono s37
            have on7 := on3.mono s37
            have hv7 := hv3.mono (tups_of s37)
            have np8d : d ≠ p8 := fun e => by
              obtain ⟨k, hk, _⟩ := fd7
              rw [e, np8] at hk
              cases hk
            have np8l : l ≠ p8 := fun e => by
              obtain ⟨k, hk, _⟩ := on7
              rw [e, np8] at hk
              cases hk
            have s8 : Same H7 (upd H7 p8 (.lst (us1 ++ us2))) := same_upd np8
            have e8 : upd H7 p8 (.lst (us1 ++ us2)) p8 = some (.lst (us1 ++ us2)) := upd_same
            dsimp only [gName]
            show tFor _ _ _ _ _ (upd H7 p8 (.lst (us1 ++ us2)))
            generalize upd H7 p8 (.lst (us1 ++ us2)) = H8 at s8 e8
            have zl := Paired.length hzp
            refine ⟨_, rfl, p8, rfl, ⟨_, .inl (.inl e8)⟩, ?_⟩
            refine for_list (xs := us1 ++ us2) (fun i σ H' => ∃ (fs' : List (PM.Pl × Option PM.Pl)) (ls2 : List PM.Pl) (y9 : Option V), σ = [some (.ref f), some (.ref l1), some (.ref l2), some (.int tm), some (.ref u), some (.ref d), some (.ref l), some v, some (.ref p8), y9, none, none] ∧
              Same H H' ∧ FoundAt w H' d fs' ∧ OnL H' l ls2 ∧ PM.Bi (PM.Ed rooms ds first wanted tm) U hq (zs.take i) fs' ls2 ∧ (∀ q ∈ fs'.map (·.1), PM.VP rooms tm q) ∧ ls2.length ≤ fs'.length ∧ H' p8 = some (.lst (us1 ++ us2)) ∧ Paired (fun v q => PlIn H' q v) (us1 ++ us2) zs ∧ PlIn H' hq v ∧
              2 * (200 - fs'.length) + ls2.length < 2 * (200 - fs.length) + (hq :: ls').length)
              ⟨fs, ls', _, rfl, sm7.trans s8, fd7.mono s8, on7.mono s8, bi, vp, ?_, e8, paired_mono hzp fun _ _ r => r.mono (tups_of s8), hv7.mono (tups_of s8), ?_⟩ (fun i σ H' _ ⟨_, _, _, _, _, _, _, _, _, _, h, _⟩ => .inl (.inl h)) ?_ ?_
            · rw [List.length_cons] at lsl
              omega
            · rw [List.length_cons]
              omega
            · rintro i x σ H9 hi ⟨fs', ls2, y9, rfl, sm9, ⟨kvf, hkf, hfp⟩, ⟨lus, hll, hlp⟩, bi9, vp9, le9, e9, p9, hv9, lt9⟩
              have hil := (List.getElem?_eq_some_iff.mp hi).1
              have hz := List.getElem?_eq_getElem (show i < zs.length by omega)
              obtain ⟨x', hx', hzx⟩ := paired_at p9 hz
              rw [hi] at hx'
              cases hx'
              have hmem : zs[i] ∈ zs := List.getElem_mem _
              generalize zs[i] = z at hz hzx hmem
              have tk : zs.take (i + 1) = zs.take i ++ [z] := by rw [List.take_add_one, hz]; rfl
              have res : PM.Res (PM.Ed rooms ds first wanted tm) U hq z := by
                rcases (hzs z).mp hmem with ⟨h1, h2⟩ | h
                · exact .inl ⟨⟨hvp, h1⟩, h2⟩
                · exact .inr h
              have vpz : PM.VP rooms tm z := PM.Res.vp A2 hE res
              have add := bi9.add res
              have fl9 := few bi9.fd vp9
              have ll9 := Paired.length hlp
              have lf9 := Paired.length hfp
              refine ⟨_, rfl, _, rfl, d, kvf, pk z, rfl, .inl hkf, found_oks hfp, hzx.ok, _, rfl, ?_⟩
              rw [found_is hfp]
              refine ite2 (fun hc => ?_) (fun hc => ?_)
              · have hn : z ∉ fs'.map (·.1) := fun m => by
                  rw [decide_eq_true m] at hc
                  cases hc
                have ea : PM.addOne hq (fs', ls2) z = (fs' ++ [(z, some hq)], ls2 ++ [z]) := if_neg hn
                rw [ea] at add
                refine ⟨_, rfl, _, rfl, _, rfl, d, kvf, pk z, rfl, hkf, found_oks hfp, hzx.ok, line63 (by omega), (found_none hfp z).mpr hn, ?_⟩
                have fd10 := FoundAt.push (o := some hq) hkf hfp hzx hv9
                have s10 : Same (hid d H9) (upd H9 d (dmO d w (kvf ++ [(pk z, x, v)]))) := hid_upd
                have nt9 := dmO_notup hkf
                have hll10 := hid_at s10 hll hdl.symm
                have e10 := hid_at s10 e9 np8d.symm
                have hlp10 := paired_mono hlp fun _ _ r => PlIn.mono (tups_hid s10 nt9) r
                have p10 := paired_mono p9 fun _ _ r => PlIn.mono (tups_hid s10 nt9) r
                have hv10 := hv9.mono (tups_hid s10 nt9)
                have hz10 := hzx.mono (tups_hid s10 nt9)
                have sm10 := same_mut sm9 hd s10
                dsimp only
                generalize upd H9 d (dmO d w (kvf ++ [(pk z, x, v)])) = H10 at fd10 s10 hll10 e10 hlp10 p10 hv10 hz10 sm10
                refine ⟨_, rfl, .inl ⟨rfl, _, .inl (.inl hll10)⟩, _, rfl, l, _, _, rfl, rfl, hll10, line63 (by omega), ?_⟩
                have nt10 := lst_notup hll10
                have s11 : Same (hid l H10) (upd H10 l (.lst (lus ++ [x]))) := hid_upd
                refine ⟨fs' ++ [(z, some hq)], ls2 ++ [z], _, rfl, same_updM sm10 nlH, fd10.at s11 nt10 hdl, ⟨lus ++ [x], upd_same, Paired.snoc (paired_mono hlp10 fun _ _ r => r.mono (tups_upd nt10)) (hz10.mono (tups_upd nt10))⟩, by rw [tk]; exact add, ?_, ?_, hid_at s11 e10 np8l.symm, paired_mono p10 fun _ _ r => r.mono (tups_upd nt10), hv10.mono (tups_upd nt10), ?_⟩
                · intro q hq'
                  rw [List.map_append] at hq'
                  rcases List.mem_append.mp hq' with h | h
                  · exact vp9 q h
                  · simp at h
                    rw [h]
                    exact vpz
                · rw [List.length_append, List.length_append]
                  exact Nat.succ_le_succ le9
                · rw [List.length_append, List.length_append, List.length_singleton, List.length_singleton]
                  omega
              · have hm : z ∈ fs'.map (·.1) := Classical.byContradiction fun n => hc (by rw [decide_eq_false n]; rfl)
                have ea : PM.addOne hq (fs', ls2) z = (fs', ls2) := if_pos hm
                rw [ea] at add
                exact ⟨fs', ls2, _, rfl, sm9, ⟨kvf, hkf, hfp⟩, ⟨lus, hll, hlp⟩, by rw [tk]; exact add, vp9, le9, e9, p9, hv9, lt9⟩
            · rintro σ H9 ⟨fs', ls2, y9, rfl, sm9, fd9, on9, bi9, vp9, le9, e9, p9, hv9, lt9⟩
              rw [zl, List.take_length] at bi9
              refine ⟨fs', ls2, lt9, _, _, _, rfl, sm9, fd9, on9, bi9.over fun q hr => (hzs q).mpr ?_, vp9, le9⟩
              rcases hr with ⟨⟨_, h1⟩, h2⟩ | h
              · exact .inl ⟨h1, h2⟩
              · exact .inr h
      · have hc : ¬ (0 : Int) < ((us.length : Nat) : Int) := fun z => hc (decide_eq_true z)
        have hls : ls = [] := by
          cases ls with
          | nil => rfl
          | cons a b =>
            rw [List.length_cons] at lenu
            omega
        subst hls
        exact ⟨_, rfl, q H' d fs sm hd hfd bf.fd bf.closed fl vp⟩
end
end PW
set_option Elab.async false
set_option linter.all false
set_option maxRecDepth 100000
set_option maxHeartbeats 4000000
namespace PW
open PySem PySem.Spec PyProof.Rows L2 PMD
/-! ### as many ways as can be -/
abbrev sAll : Stmt := topS 27
theorem scAll : FnScope ["floor", "first", "wanted", "time", "used", "found"] ["floor", "first", "wanted", "time"] (defScope sAll) := ⟨rfl, rfl, rfl, by decide +kernel, rfl, by decide +kernel, by decide +kernel⟩
def spAll (w : World) (C : Addr) : Sp := fun vs H Q _ => ∃ (f l1 l2 : Addr) (rooms : Int) (ds : List (Int × Int)) (first wanted : List Int) (T : Nat), vs = [.ref f, .ref l1, .ref l2, .int T] ∧
  AskAt C H f l1 l2 rooms ds first wanted ∧ PM.Ask rooms ds first wanted T ∧
  ∀ H' p u d U fs v, Same H H' → H' p = some (.tup [.ref u, .ref d]) → UsedAt w H' u U → FoundAt w H' d fs → PM.Flow (PM.Ed rooms ds first wanted T) v U → PM.Fd (PM.Ed rooms ds first wanted T) U fs → PM.Closed (PM.Ed rooms ds first wanted T) U (fs.map (·.1)) → fs.length ≤ 146 → (∀ q ∈ fs.map (·.1), PM.VP rooms T q) →
    PM.Pl.fin ∉ fs.map (·.1) → Q (.ref p) H'
section
variable {P : Program} {w : World} {K : PySem.W.Frag} {mg : Str → Option Value} {base : Heap}
theorem ok_all {f fC fP C : Addr} {fd fdC fdP : FuncData} (F : Fun K "all_ways" "all_ways" sAll f fd) (T : Txt K mg C) (GC : FnOk P w K mg base CX0 3 fC fdC ["floor", "first", "wanted", "time", "used"] (spCome w C)) (kC : PySem.W.keepIn K (.ref fC) = true) (bC : Binds K fdC ["floor", "first", "wanted", "time", "used"] []) (gC : mg "come_to" = some (.ref fC))
    (GP : FnOk P w K mg base CX0 1 fP fdP ["used", "found"] (spPut w)) (kP : PySem.W.keepIn K (.ref fP) = true) (bP : Binds K fdP ["used", "found"] []) (gP : mg "put_way" = some (.ref fP)) :
    FnOk P w K mg base CX0 4 f fd ["floor", "first", "wanted", "time"] (spAll w C) := by
  refine F.ok scAll (fun vs H Q E h => ?_) (fun cdv A outer s H vs Q E hr h => ?_)
  · obtain ⟨f, l1, l2, rooms, ds, first, wanted, tm, rfl, _⟩ := h
    rfl
  · obtain ⟨f, l1, l2, rooms, ds, first, wanted, tm, rfl, hA, A2, q⟩ := h
    have hr1 := hr.mono (show 1 ≤ 3 by decide)
    obtain ⟨tE, hE⟩ := T.fin
    refine ⟨_, pss_cons (ps_set (i := 4) scAll.nd rfl (.inl rfl) (asMW w pe_dnewK))
      (pss_cons (ps_set (i := 5) scAll.nd rfl (.inl rfl) (pe_call GC hr (by rfl) gC kC bC .nil pass0 (pa_cons (pv 0) (pa_cons (pv 1) (pa_cons (pv 2) (pa_cons (pv 3) (pa_cons (pv 4) pa_nil)))))))
      (pss_cons (ps_while PassesOwn.never (pt_cmpR (inMK w hr) (pe_glob (v := .str sFin) (by rfl) hE ⟨tE, rfl⟩) (pv 5) (by rfl))
        (pss_cons (ps_expr (pe_call GP hr1 (by rfl) gP kP bP .nil pass0 (pa_cons (pv 4) (pa_cons (pv 5) pa_nil))))
        (pss_one (ps_set (i := 5) scAll.nd rfl (.inl rfl) (pe_call GC hr (by rfl) gC kC bC .nil pass0 (pa_cons (pv 0) (pa_cons (pv 1) (pa_cons (pv 2) (pa_cons (pv 3) (pa_cons (pv 4) pa_nil))))))))))
      (pss_one (ps_ret (pe_tup (pa_cons (pv 4) (pa_cons (pv 5) pa_nil))))))), ?_⟩
    refine fun u hu => ⟨u, [], rfl, upd_same, ?_⟩
    have s1 : Same H (upd (upd H u (.dK [])) u (dmO u w ([].map txM))) := same_updM (same_upd hu) hu
    have e1 : upd (upd H u (.dK [])) u (dmO u w ([].map txM)) u = some (dmO u w []) := upd_same
    dsimp only [gName]
    generalize upd (upd H u (.dK [])) u (dmO u w ([].map txM)) = H1 at s1 e1
    have ed0 : ∀ a b, (a, b) ∈ ([] : List PM.Eg) → PM.Ed rooms ds first wanted tm a b := fun _ _ h => by cases h
    refine ⟨_, rfl, _, rfl, _, rfl, _, rfl, _, rfl, f, l1, l2, u, rooms, ds, first, wanted, tm, [], rfl, hA.mono s1, A2, ⟨_, e1, .nil⟩, List.nodup_nil, ed0, fun H2 d fs s2 nd hF fdd cl fl vp => ?_⟩
    refine ⟨fun m σ H' => ∃ (U : List PM.Eg) (d : Addr) (fs : List (PM.Pl × Option PM.Pl)) (v : Int), 0 ≤ v ∧ m = ((first.length : Int) - v).toNat ∧ σ = [some (.ref f), some (.ref l1), some (.ref l2), some (.int tm), some (.ref u), some (.ref d)] ∧ u ≠ d ∧ Same H H' ∧ UsedAt w H' u U ∧ FoundAt w H' d fs ∧
      PM.Flow (PM.Ed rooms ds first wanted tm) v U ∧ PM.Fd (PM.Ed rooms ds first wanted tm) U fs ∧ PM.Closed (PM.Ed rooms ds first wanted tm) U (fs.map (·.1)) ∧ fs.length ≤ 146 ∧ (∀ q ∈ fs.map (·.1), PM.VP rooms tm q),
      ⟨_, [], d, fs, 0, Int.le_refl _, rfl, rfl, (fun e => by rw [← e, e1] at nd; cases nd), s1.trans s2, ⟨_, s2 _ _ e1, .nil⟩, hF, PM.Flow.nil, fdd, cl, fl, vp⟩, ?_⟩
    rintro m σ H' ⟨U, d, fs, v, v0, rfl, rfl, hud, sm, hU, hF, hFl, fdd, cl, fl, vp⟩
    obtain ⟨kvf, hkf, hfp⟩ := id hF
    refine ⟨_, rfl, d, kvf, pk .fin, rfl, .inl hkf, found_oks hfp, (show PlIn H' .fin (.str sFin) from rfl).ok, _, rfl, ?_⟩
    rw [found_is hfp]
    refine ite2 (fun hc => ?_) (fun hc => ?_)
    · have hm := of_decide_eq_true hc
      refine ⟨fun σ' H' => ∃ (U : List PM.Eg) (d : Addr) (fs : List (PM.Pl × Option PM.Pl)) (v' : Int), v < v' ∧ v' ≤ first.length ∧ σ' = [some (.ref f), some (.ref l1), some (.ref l2), some (.int tm), some (.ref u), some (.ref d)] ∧ u ≠ d ∧ Same H H' ∧ UsedAt w H' u U ∧ FoundAt w H' d fs ∧
        PM.Flow (PM.Ed rooms ds first wanted tm) v' U ∧ PM.Fd (PM.Ed rooms ds first wanted tm) U fs ∧ PM.Closed (PM.Ed rooms ds first wanted tm) U (fs.map (·.1)) ∧ fs.length ≤ 146 ∧ (∀ q ∈ fs.map (·.1), PM.VP rooms tm q), ?_, ?_⟩
      · rintro σ' H' ⟨U, d, fs, v', lt, le, rest⟩
        exact ⟨_, (by omega), U, d, fs, v', by omega, rfl, rest⟩
      · refine ⟨_, rfl, _, rfl, u, d, rooms, ds, first, wanted, tm, U, fs, v, rfl, hud, A2, hU, hF, hFl, fdd, hm, fun H3 U' s3 hU3 fl3 => ?_⟩
        have sm3 := same_mut sm hu s3
        refine ⟨_, rfl, _, rfl, _, rfl, _, rfl, _, rfl, f, l1, l2, u, rooms, ds, first, wanted, tm, U', rfl, hA.mono sm3, A2, hU3, fl3.nd, fl3.ed, fun H4 d4 fs4 s4 nd4 hF4 fdd4 cl4 fl4 vp4 => ?_⟩
        refine ⟨U', d4, fs4, v + 1, by omega, (PM.Flow.le fl3).2, rfl, fun e => ?_, sm3.trans s4, hU3.mono s4, hF4, fl3, fdd4, cl4, fl4, vp4⟩
        obtain ⟨_, e2, _⟩ := hU3
        rw [e, nd4] at e2
        cases e2
    · have hn : PM.Pl.fin ∉ fs.map (·.1) := fun m => hc (decide_eq_true m)
      refine ⟨_, rfl, _, rfl, Nat.le_of_ble_eq_true rfl, fun p np => ?_⟩
      have s5 := same_upd (o := .tup [.ref u, .ref d]) np
      exact q _ p u d U fs v (sm.trans s5) upd_same (hU.mono s5) (hF.mono s5) hFl fdd cl fl vp hn
end
end PW
set_option Elab.async false
set_option linter.all false
set_option maxRecDepth 100000
set_option maxHeartbeats 4000000
namespace PW
open PySem PySem.Spec PyProof.Rows L2 PMD
/-! ### one way's rooms -/
abbrev sWayF : Stmt := topS 28
theorem scWayF : FnScope ["used", "room", "ahead", "here", "told", "one", "other"] ["used", "room"] (defScope sWayF) := ⟨rfl, rfl, rfl, by decide +kernel, rfl, by decide +kernel, by decide +kernel⟩
def spWayF (w : World) : Sp := fun vs H Q _ => ∃ (u : Addr) (room rooms : Int) (ds : List (Int × Int)) (first wanted : List Int) (T : Nat) (U : List PM.Eg) (v : Int), vs = [.ref u, .int room] ∧
  PM.Ask rooms ds first wanted T ∧ UsedAt w H u U ∧ PM.Flow (PM.Ed rooms ds first wanted T) v U ∧ ((.beg, .spot room 0 0) : PM.Eg) ∈ U ∧
  ∀ H' p told, Same H H' → H p = none → IntsL H' p told → PM.Tr U T room told .fin → Q (.ref p) H'
def SK (k : List L2.Key) (q : PM.Pl) : Prop := ∃ r m i : Int, q = .spot r m i ∧ k = [.inl r, .inl m, .inl i]
theorem de_of {H : Hp} : ∀ {us : List V} {zs : List PM.Eg}, Paired (fun v e => PrIn H e v) us zs → (∀ e ∈ zs, ∃ r m i, e.1 = PM.Pl.spot r m i) →
    ∃ ps : List DE, us = ps.map (fun p => .ref p.at_) ∧ (∀ p ∈ ps, H p.at_ = some (.tup [.ref p.b, p.v]) ∧ H p.b = some (.tup (p.k.map kV))) ∧ (∀ p ∈ ps, ∃ e ∈ zs, SK p.k e.1 ∧ PlIn H e.2 p.v) ∧ ∀ e ∈ zs, ∃ p ∈ ps, SK p.k e.1
  | _, _, .nil, _ => ⟨[], rfl, fun p h => (by cases h), fun p h => (by cases h), fun p h => (by cases h)⟩
  | v :: us, e :: zs, .cons r t, hs => by
    obtain ⟨ps, h1, h2, h3, h4⟩ := de_of t fun e he => hs e (List.mem_cons_of_mem _ he)
    obtain ⟨a, x, y, rfl, ha, hx, hy⟩ := r
    obtain ⟨r, m, i, e1⟩ := hs e List.mem_cons_self
    rw [e1] at hx
    obtain ⟨b, rfl, hb⟩ := hx
    refine ⟨⟨a, [.inl r, .inl m, .inl i], b, y⟩ :: ps, by rw [h1]; rfl, fun p hp => ?_, fun p hp => ?_, fun e' he => ?_⟩
    · rcases List.mem_cons.mp hp with rfl | hp
      · exact ⟨ha, hb⟩
      · exact h2 p hp
    · rcases List.mem_cons.mp hp with rfl | hp
      · exact ⟨e, List.mem_cons_self, ⟨r, m, i, e1, rfl⟩, hy⟩
      · obtain ⟨e', he, q⟩ := h3 p hp
        exact ⟨e', List.mem_cons_of_mem _ he, q⟩
    · rcases List.mem_cons.mp he with rfl | he
      · exact ⟨_, List.mem_cons_self, ⟨r, m, i, e1, rfl⟩⟩
      · obtain ⟨p, hp, q⟩ := h4 e' he
        exact ⟨p, List.mem_cons_of_mem _ hp, q⟩
def flag : PM.Pl → Nat
  | .spot _ _ i => if i = 0 then 0 else 1
  | _ => 0
theorem flag_le (q : PM.Pl) : flag q ≤ 1 := by
  cases q <;> simp only [flag]
  · exact Nat.zero_le _
  · exact Nat.zero_le _
  · split <;> omega
section
variable {P : Program} {w : World} {K : PySem.W.Frag} {mg : Str → Option Value} {base : Heap}
theorem ok_wayF {f C : Addr} {fd : FuncData} (F : Fun K "way_from" "way_from" sWayF f fd) (T : Txt K mg C) : FnOk P w K mg base CX0 1 f fd ["used", "room"] (spWayF w) := by
  refine F.ok scWayF (fun vs H Q E h => ?_) (fun cdv A outer s H vs Q E hr h => ?_)
  · obtain ⟨u, room, rooms, ds, first, wanted, tm, U, v, rfl, _⟩ := h
    rfl
  · obtain ⟨u, room, rooms, ds, first, wanted, tm, U, v, rfl, A2, hU, hFl, hb, q⟩ := h
    have hu := Nat.lt_of_succ_lt (roomU hr)
    have hu1 : (A.deeper (envOfC "way_from" (defScope sWayF) s.heap.objs.size f cdv)).units + 1 < cLine := by omega
    obtain ⟨tE, hE⟩ := T.fin
    obtain ⟨tB', hB⟩ := T.beg
    refine ⟨_, pss_cons (ps_set (i := 2) scWayF.nd rfl (.inl rfl) (pe_callTy (call_dictP2 hr rfl) (by rfl) T.dict (by decide +kernel) (pa_cons (pe_lock (pe_lc (own := [("one", 5), ("other", 6)]) (g := gTup K 2 (gCons (gName 5) (gCons (gName 6) gNil))) rfl scWayF.nd (piMW w (pv 0)) (blkOk_by (N := ["used", "room", "ahead", "here", "told", "one", "other"]) (sc := defScope sWayF) (by decide +kernel))
          (fun _ _ _ _ _ => pg_tup rfl (pgs_cons (pg_name (i := 5) scWayF.nd rfl (Or.inl rfl)) (pgs_cons (pg_name (i := 6) scWayF.nd rfl (Or.inl rfl)) pgs_nil))) (fun _ _ _ _ _ => pts_one (pt_cmpR (neDK K hu) (pv 5) (pe_glob (v := .str sBeg) (by rfl) hB ⟨tB', rfl⟩) (nomark _))) (fun _ _ _ _ _ => pe_tup (pa_cons (pv 5) (pa_cons (pv 6) pa_nil))))) pa_nil)))
      (pss_cons (ps_set (i := 3) scWayF.nd rfl (.inl rfl) (pe_tup (pa_cons (pv 1) (pa_cons pe_int (pa_cons pe_int pa_nil)))))
      (pss_cons (ps_set (i := 4) scWayF.nd rfl (.inl rfl) (pe_lst pa_nil))
      (pss_cons (ps_while PassesOwn.never (pt_cmpR (op_neD hu) (pv 3) (pe_glob (v := .str sFin) (by rfl) hE ⟨tE, rfl⟩) (nomark _))
        (Evl.pss_cut (ps_if (pt_cmpR op_eq (pe_ix ix_tup (pv 3) pe_int (fun _ _ => rfl)) pe_int (nomark _)) (pss_one (ps_expr (pe_bm PySem.F.plainAttrs_list PySem.F.slot_list_append PySem.F.type_list_append mt_append (pv 4) (pa_cons (pe_ix ix_tup (pv 3) pe_int (fun _ _ => rfl)) pa_nil)))) pss_nil)
          (pss_one (ps_set (i := 3) scWayF.nd rfl (.inl rfl) (pe_dget hu1 (pv 2) (pv 3) (fun _ _ => rfl))))))
      (pss_one (ps_ret (pv 4)))))), ?_⟩
    obtain ⟨kvs, hk, hkp⟩ := id hU
    have hUl := pairs_few A2.ds.hi A2.ti hFl.nd (fun a b h => (hFl.ed a b h).vp A2)
    have klen := Paired.length hkp
    refine ⟨u, _, hk, True.intro, fun od => ?_⟩
    have eU : upd H u (.frz od (dmO u w kvs)) u = some (.frz od (dmO u w kvs)) := upd_same
    have tu : ∀ b ys, H b = some (.tup ys) → upd H u (.frz od (dmO u w kvs)) b = some (.tup ys) := tups_upd (dmO_notup hk)
    have hkp' := paired_mono hkp fun _ _ (r : URel H _ _) => (⟨r.1, r.2.mono tu⟩ : URel (upd H u (.frz od (dmO u w kvs))) _ _)
    refine ⟨_, rfl, u, od, kvs, rfl, eU, fun D hD => ?_⟩
    have hDu : D ≠ u := fun e => by
      rw [e, eU] at hD
      cases hD
    have hDH : H D = none := by rwa [upd_ne hDu] at hD
    have hloc : ∀ H6, Same (upd H u (.frz od (dmO u w kvs))) H6 → Same H (upd H6 u (dmO u w kvs)) := fun H6 s6 => same_unlock hk s6
    generalize upd H u (.frz od (dmO u w kvs)) = HL at eU hkp' hD hloc
    refine lcf (R := fun H q v => PrIn H q v) walk_m (fun i => (U[i]?).bind fun e => if e.1 = .beg then none else some e) (fun _ _ _ _ y => y.1) hD (by omega) (fun H' s => s _ _ eU) prin_mv (fun i x H6 Q6 N hi s6 _ y q6 n6 => ?_) (fun H6 us s6 eD p1 => ?_)
    · obtain ⟨_, k, vv, hy⟩ := y
      obtain ⟨e, he, ek1, pr⟩ := paired_get hkp' hy
      obtain ⟨t, x1, y1, rfl, ht, hx1, hy1⟩ := pr
      refine ⟨t, _, rfl, .inl (.inl (s6 _ _ ht)), rfl, _, _, rfl, _, _, rfl, rfl, rfl, ?_⟩
      refine ⟨_, rfl, _, _, (hx1.mono (tups_of s6)).dp, .str _, plD_ok _, sBeg_ok, _, rfl, ?_⟩
      rw [plD_beg]
      refine ite2 (fun hc => ?_) (fun hc => ?_)
      · have hc : ¬ e.1 = .beg := fun z => by
          rw [decide_eq_true z] at hc
          cases hc
        refine ⟨_, rfl, _, rfl, Nat.le_of_ble_eq_true rfl, fun t2 ht2 => ?_⟩
        have s7 := same_upd (o := .tup [x1, y1]) ht2
        refine q6 e ?_ _ _ s7 ⟨t2, x1, y1, rfl, upd_same, (hx1.mono (tups_of s6)).mono (tups_of s7), (hy1.mono (tups_of s6)).mono (tups_of s7)⟩
        rw [he]
        exact if_neg hc
      · have hc : e.1 = .beg := Classical.byContradiction fun n => hc (by rw [decide_eq_false n]; rfl)
        refine n6 ?_ _ (Same.refl _)
        rw [he]
        exact if_pos hc
    · have s7 := hloc H6 s6
      have nt6 : ∀ ys, H6 u ≠ some (.tup ys) := fun ys e => by
        rw [s6 _ _ eU] at e
        cases e
      have eD7 : upd H6 u (dmO u w kvs) D = some (.lst us) := by rw [upd_ne hDu]; exact eD
      have p7 := paired_mono p1 fun _ _ r => PrIn.mono (tups_upd (o := dmO u w kvs) nt6) r
      refine ⟨s6 _ _ eU, ?_⟩
      dsimp only
      generalize upd H6 u (dmO u w kvs) = H7 at s7 eD7 p7
      have hmem : ∀ e, e ∈ (List.range kvs.length).filterMap (fun i => (U[i]?).bind fun e => if e.1 = PM.Pl.beg then none else some e) ↔ e ∈ U ∧ e.1 ≠ .beg := fun e => by
        rw [klen, mem_fm (fun e => if e.1 = PM.Pl.beg then none else some e) (fun i x h => by rw [h]; rfl)]
        constructor
        · rintro ⟨x, hx, h⟩
          by_cases hb : x.1 = .beg
          · rw [if_pos hb] at h; cases h
          · rw [if_neg hb] at h
            cases h
            exact ⟨hx, hb⟩
        · rintro ⟨h1, h2⟩
          exact ⟨e, h1, if_neg h2⟩
      obtain ⟨ps, rfl, h2, h3, h4⟩ := de_of p7 fun e he => by
        obtain ⟨m1, m2⟩ := (hmem e).mp he
        have ed := hFl.ed e.1 e.2 m1
        cases e1 : e.1 with
        | beg => exact absurd e1 m2
        | fin => rw [e1] at ed; exact ed.no_fin.elim
        | spot r m i => exact ⟨r, m, i, rfl⟩
      refine ⟨D, ps, rfl, .inl (.inl eD7), h2, fun dd hdd => ?_⟩
      have hget : ∀ (r m i : Int), (∃ q, (PM.Pl.spot r m i, q) ∈ U) → ∃ v q, valV (putAll [] ps) [.inl r, .inl m, .inl i] = some v ∧ (PM.Pl.spot r m i, q) ∈ U ∧ PlIn H7 q v := fun r m i ⟨q0, hq0⟩ => by
        obtain ⟨p, hp, ⟨r', m', i', e1, e2⟩⟩ := h4 (.spot r m i, q0) ((hmem _).mpr ⟨hq0, fun z => by cases z⟩)
        cases e1
        cases hv : valV (putAll [] ps) [.inl r, .inl m, .inl i] with
        | none => exact absurd hv (putAll_has ps [] _ (.inr ⟨p, hp, e2⟩))
        | some v =>
          rcases putAll_get ps [] _ v hv with ⟨p2, hp2, k2, v2⟩ | z
          · obtain ⟨e, he, ⟨r2, m2, i2, f1, f2⟩, hpl⟩ := h3 p2 hp2
            rw [k2] at f2
            injection f2 with f2 f3
            injection f3 with f3 f4
            injection f4 with f4 _
            cases f2; cases f3; cases f4
            obtain ⟨m1, _⟩ := (hmem e).mp he
            have : e = (.spot r m i, e.2) := Prod.ext f1 rfl
            rw [this] at m1
            exact ⟨v, e.2, rfl, m1, v2 ▸ hpl⟩
          · cases z
      have s8 : Same H7 (upd H7 dd (.dT (putAll [] ps))) := same_upd hdd
      have e8 : upd H7 dd (.dT (putAll [] ps)) dd = some (.dT (putAll [] ps)) := upd_same
      dsimp only [gName]
      show tSeq _ _ _ _ (upd H7 dd (.dT (putAll [] ps)))
      generalize upd H7 dd (.dT (putAll [] ps)) = H8 at s8 e8
      refine ⟨_, rfl, Nat.le_of_ble_eq_true rfl, fun t0 ht0 => ?_⟩
      have s9 : Same H8 (upd H8 t0 (.tup [.int room, .int 0, .int 0])) := same_upd ht0
      have e9 : upd H8 t0 (.tup [.int room, .int 0, .int 0]) t0 = some (.tup [.int room, .int 0, .int 0]) := upd_same
      dsimp only [gName]
      show tSeq _ _ _ _ (upd H8 t0 (.tup [.int room, .int 0, .int 0]))
      generalize upd H8 t0 (.tup [.int room, .int 0, .int 0]) = H9 at s9 e9
      refine ⟨Nat.zero_le _, fun l hl => ?_⟩
      have s10 : Same H9 (upd H9 l (.lst [])) := same_upd hl
      have e10 : upd H9 l (.lst []) l = some (.lst []) := upd_same
      have sm9 : Same H H9 := (s7.trans s8).trans s9
      have hlH : H l = none := sm9.free hl
      have hldd : dd ≠ l := fun e => by
        rw [← e, s9 _ _ e8] at hl
        cases hl
      have hl7 : H7 l = none := (s8.trans s9).free hl
      dsimp only [gName]
      show tSeq _ _ _ _ (upd H9 l (.lst []))
      generalize upd H9 l (.lst []) = H10 at s10 e10
      have s710 : Same H7 H10 := (s8.trans s9).trans s10
      refine ⟨fun mm σ H' => ∃ (here : PM.Pl) (vh : V) (told : List Int), mm = 2 * (tm + 1 - told.length) + flag here ∧ σ = [some (.ref u), some (.int room), some (.ref dd), some vh, some (.ref l), none, none] ∧ PlIn H' here vh ∧ Same H H' ∧ Same H7 H' ∧ H' dd = some (.dT (putAll [] ps)) ∧ IntsL H' l told ∧ PM.Tr U tm room told here,
        ⟨_, .spot room 0 0, .ref t0, [], rfl, rfl, ⟨t0, rfl, s10 _ _ e9⟩, sm9.trans s10, s710, (s9.trans s10) _ _ e8, e10, PM.Tr.start hb⟩, ?_⟩
      rintro mm σ H' ⟨here, vh, told, rfl, rfl, hh, sm, s7', hdd', hto, tr⟩
      refine ⟨_, rfl, _, _, hh.dp, .str _, plD_ok _, sFin_ok, _, rfl, ?_⟩
      rw [plD_fin]
      refine ite2 (fun hc => ?_) (fun hc => ?_)
      · have hnf : here ≠ .fin := fun e => by
          rw [decide_eq_true e] at hc
          cases hc
        obtain ⟨r, m, i, rfl⟩ : ∃ r m i, here = PM.Pl.spot r m i := by
          rcases tr.hr with ⟨r, e, _⟩ | ⟨r, k, _, _, e⟩ | ⟨e, _⟩
          · exact ⟨_, _, _, e⟩
          · exact ⟨_, _, _, e⟩
          · exact absurd e hnf
        obtain ⟨t, rfl, ht⟩ := hh
        refine ⟨fun σ' H' => ∃ (here' : PM.Pl) (vh : V) (told' : List Int), 2 * (tm + 1 - told'.length) + flag here' < 2 * (tm + 1 - told.length) + flag (.spot r m i) ∧ σ' = [some (.ref u), some (.int room), some (.ref dd), some vh, some (.ref l), none, none] ∧ PlIn H' here' vh ∧ Same H H' ∧ Same H7 H' ∧ H' dd = some (.dT (putAll [] ps)) ∧ IntsL H' l told' ∧ PM.Tr U tm room told' here',
          fun σ' H' ⟨here', vh, told', lt, rest⟩ => ⟨_, lt, here', vh, told', rfl, rest⟩, ?_⟩
        refine ⟨fun σ2 H2 => ∃ told', σ2 = [some (.ref u), some (.int room), some (.ref dd), some (.ref t), some (.ref l), none, none] ∧ H2 t = some (.tup [.int r, .int m, .int i]) ∧ Same H H2 ∧ Same H7 H2 ∧ H2 dd = some (.dT (putAll [] ps)) ∧ IntsL H2 l told' ∧
          (∃ q, (PM.Pl.spot r m i, q) ∈ U) ∧ ∀ q, (PM.Pl.spot r m i, q) ∈ U → PM.Tr U tm room told' q ∧ 2 * (tm + 1 - told'.length) + flag q < 2 * (tm + 1 - told.length) + flag (.spot r m i), ?_, ?_⟩
        · refine ⟨_, rfl, t, _, 2, .int i, rfl, rfl, .inl (.inl ht), rfl, rfl, _, rfl, ite2 (fun hc2 => ?_) (fun hc2 => ?_)⟩
          · have hi0 := V.int.inj (of_decide_eq_true hc2)
            subst hi0
            obtain ⟨t1, t2, t3, t4⟩ := PM.Tr.tell hFl tr
            refine ⟨_, rfl, .inl ⟨rfl, _, .inl (.inl hto)⟩, _, rfl, t, _, 0, .int r, rfl, rfl, .inl (.inl ht), rfl, l, _, _, rfl, rfl, hto, line63 (by rw [List.length_map]; have := A2.ti; omega), ?_⟩
            have hlt : t ≠ l := fun e => by
              rw [e] at ht
              unfold IntsL at hto
              rw [ht] at hto
              cases hto
            refine ⟨told ++ [r], rfl, by rw [upd_ne hlt]; exact ht, same_updM sm hlH, same_updM s7' hl7, by rw [upd_ne hldd]; exact hdd', ints_push, t3, fun q hq => ⟨t4 q hq, ?_⟩⟩
            have := flag_le q
            rw [List.length_append, List.length_singleton]
            omega
          · have hi0 : i ≠ 0 := fun e => hc2 (decide_eq_true (by rw [e]))
            obtain ⟨t3, t4⟩ := PM.Tr.go hFl tr hi0
            refine ⟨told, rfl, ht, sm, s7', hdd', hto, t3, fun q hq => ⟨t4 q hq, ?_⟩⟩
            have f1 : flag (.spot r m i) = 1 := if_neg hi0
            have f2 : flag q = 0 := by
              obtain ⟨_, on⟩ := hFl.ed _ _ hq
              cases q with
              | beg => rfl
              | fin => rfl
              | spot r' m' i' =>
                rcases on with ⟨h, _⟩ | ⟨_, _, _, h, _⟩
                · exact absurd h hi0
                · exact if_pos h
            omega
        · rintro σ2 H2 ⟨told', rfl, ht2, sm2, s72, hdd2, hto2, hex, hall⟩
          obtain ⟨v2, q2, hval, hq2, hpl⟩ := hget r m i hex
          obtain ⟨tr2, lt2⟩ := hall q2 hq2
          refine ⟨_, rfl, _, rfl, dd, v2, rfl, ?_, q2, v2, told', lt2, rfl, hpl.mono (tups_of s72), sm2, s72, hdd2, hto2, tr2⟩
          have := DGet.t (k := [.inl r, .inl m, .inl i]) hdd2 ht2
          rw [hval] at this
          exact this
      · have hf : here = .fin := Classical.byContradiction fun n => hc (by rw [decide_eq_false n]; rfl)
        subst hf
        exact ⟨_, rfl, q H' l told sm hlH hto tr⟩
end
end PW
set_option Elab.async false
set_option linter.all false
set_option maxRecDepth 100000
set_option maxHeartbeats 4000000
namespace PW
open PySem PySem.Spec PyProof.Rows L2 PMD
/-! ### ways of which none exchange -/
abbrev sApart : Stmt := topS 29
theorem scApart : FnScope ["ways", "one", "other", "minute", "here", "there", "found"] ["ways"] (defScope sApart) := ⟨rfl, rfl, rfl, by decide +kernel, rfl, by decide +kernel, by decide +kernel⟩
def IntsV (H : Hp) (xs : List Int) (v : V) : Prop := ∃ a, v = .ref a ∧ IntsL H a xs
theorem IntsV.mono {H H' : Hp} (s : Same H H') {xs : List Int} {v : V} (h : IntsV H xs v) : IntsV H' xs v := let ⟨a, e, h⟩ := h; ⟨a, e, h.mono s⟩
def WaysL (H : Hp) (l : Addr) (ws : List (List Int)) : Prop := ∃ vs, H l = some (.lst vs) ∧ Paired (fun v xs => IntsV H xs v) vs ws
theorem WaysL.mono {H H' : Hp} (s : Same H H') {l : Addr} {ws : List (List Int)} (h : WaysL H l ws) : WaysL H' l ws := let ⟨vs, e, h⟩ := h; ⟨vs, s _ _ e, paired_mono h fun _ _ r => r.mono s⟩
def spApart (N : Nat) : Sp := fun vs H Q _ => ∃ (l : Addr) (rooms : Int) (ds : List (Int × Int)) (first wanted : List Int) (T : Nat) (W : Nat → Nat → Int), vs = [.ref l] ∧ PM.GW rooms ds first wanted T W ∧ first.length ≤ 4 ∧ T ≤ 8 ∧ WaysL H l (PM.rows W first.length T) ∧ PM.mv W first.length T < N ∧
  ∀ H' p W', Same H H' → WaysL H' p (PM.rows W' first.length T) → PM.Good rooms ds first wanted T W' → Q (.ref p) H'
theorem paired_set {α β : Type} {R : α → β → Prop} {x : α} {y : β} (r : R x y) : ∀ {l : List α} {m : List β} (i : Nat), Paired R l m → Paired R (l.set i x) (m.set i y)
  | _, _, _, .nil => .nil
  | _, _, 0, .cons _ t => .cons r t
  | _, _, i + 1, .cons r' t => .cons r' (paired_set r i t)
theorem swap_symm {W : Nat → Nat → Int} {i j k : Nat} (h : PM.Swap W i j k) : PM.Swap W j i k := ⟨fun e => h.1 e.symm, h.2.2, h.2.1⟩
theorem cut_take {xs : List V} {k : Nat} (h : k ≤ xs.length) : cutV xs none (some (k : Int)) = xs.take k := by
  unfold cutV
  rw [HT.sIx_none, HT.sIx_nat, List.drop_zero, Nat.sub_zero, Nat.min_eq_left h]
theorem cut_drop {xs : List V} {k : Nat} (h : k ≤ xs.length) : cutV xs (some (k : Int)) none = xs.drop k := by
  unfold cutV
  rw [HT.sIx_none, HT.sIx_nat, Nat.min_eq_left h, List.take_of_length_le (by rw [List.length_drop]; exact Nat.le_refl _)]
theorem ixN_in {n i : Nat} (h : i < n) : ixN n (i : Int) = some i := by
  unfold ixN
  rw [if_pos (by omega), if_pos (by omega)]
  simp
section
variable {P : Program} {w : World} {K : PySem.W.Frag} {mg : Str → Option Value} {base : Heap}
theorem apart_step {f C : Addr} {fd : FuncData} (F : Fun K "apart" "apart" sApart f fd) (T : Txt K mg C) (kA : PySem.W.keepIn K (.ref f) = true) (bA : Binds K fd ["ways"] []) (gA : mg "apart" = some (.ref f)) (N : Nat) (GA : FnOk P w K mg base CX0 (N + 1) f fd ["ways"] (spApart N)) :
    FnOk P w K mg base CX0 (N + 2) f fd ["ways"] (spApart (N + 1)) := by
  refine F.ok scApart (fun vs H Q E h => ?_) (fun cdv A outer s H vs Q E hr h => ?_)
  · obtain ⟨l, rooms, ds, first, wanted, tm, W, rfl, _⟩ := h
    rfl
  · obtain ⟨l, rooms, ds, first, wanted, tm, W, rfl, G, n4, t8, ⟨wvs, hl, hp⟩, hmv, q⟩ := h
    refine ⟨_, pss_cons (ps_for PassesOwn.never rfl (pi_range1 rfl T.range (pa_cons (pe_callB call_len_seq (by rfl) T.len PySem.boot_len (pa_cons (pv 0) pa_nil)) pa_nil)) (pg_name (i := 1) scApart.nd rfl (.inl rfl))
        (pss_one (ps_for PassesOwn.never rfl (pi_range1 rfl T.range (pa_cons (pv 1) pa_nil)) (pg_name (i := 2) scApart.nd rfl (.inl rfl))
          (pss_one (ps_for PassesOwn.never rfl (pi_range1 rfl T.range (pa_cons (pe_op op_sub (pe_callB call_len_seq (by rfl) T.len PySem.boot_len (pa_cons (pe_ix ix_list (pv 0) (pv 1) (fun _ _ => rfl)) pa_nil)) pe_int) pa_nil)) (pg_name (i := 3) scApart.nd rfl (.inl rfl))
            (pss_cons (ps_par (i := 4) (j := 5) rfl scApart.nd rfl rfl (by decide) rfl rfl (pa_cons (pe_ix ix_list (pe_ix ix_list (pv 0) (pv 1) (fun _ _ => rfl)) (pv 3) (fun _ _ => rfl)) (pa_cons (pe_ix ix_list (pe_ix ix_list (pv 0) (pv 2) (fun _ _ => rfl)) (pv 3) (fun _ _ => rfl)) pa_nil)) (by rfl))
            (pss_one (ps_if (PW.pt (pw_and (pt_cmpR op_ne (pv 4) (pv 5) (nomark _)) (pw_and (pt_cmpR op_eq (pe_ix ix_list (pe_ix ix_list (pv 0) (pv 1) (fun _ _ => rfl)) (pe_op op_add (pv 3) pe_int) (fun _ _ => rfl)) (pv 5) (nomark _))
                (pw_and1 (pt_cmpR op_eq (pe_ix ix_list (pe_ix ix_list (pv 0) (pv 2) (fun _ _ => rfl)) (pe_op op_add (pv 3) pe_int) (fun _ _ => rfl)) (pv 4) (nomark _))))))
              (pss_cons (ps_set (i := 6) scApart.nd rfl (.inl rfl) (pe_callTy call_list_of (by rfl) T.list (by decide +kernel) (pa_cons (pv 0) pa_nil)))
              (pss_cons (ps_asg (pe_op op_cat (pe_slice sl_list (pe_ix ix_list (pv 0) (pv 1) (fun _ _ => rfl)) po_none (po_some (pe_op op_add (pv 3) pe_int))) (pe_slice sl_list (pe_ix ix_list (pv 0) (pv 2) (fun _ _ => rfl)) (po_some (pe_op op_add (pv 3) pe_int)) po_none)) (pg_sub (pv 6) (pv 1) set_list))
              (pss_cons (ps_asg (pe_op op_cat (pe_slice sl_list (pe_ix ix_list (pv 0) (pv 2) (fun _ _ => rfl)) po_none (po_some (pe_op op_add (pv 3) pe_int))) (pe_slice sl_list (pe_ix ix_list (pv 0) (pv 1) (fun _ _ => rfl)) (po_some (pe_op op_add (pv 3) pe_int)) po_none)) (pg_sub (pv 6) (pv 2) set_list))
              (pss_one (ps_ret (pe_call GA hr (by rfl) gA kA bA .nil pass0 (pa_cons (pv 6) pa_nil))))))) pss_nil))))))))
      (pss_one (ps_ret (pv 0))), ?_⟩
    have hwl : wvs.length = first.length := by rw [Paired.length hp, PM.rows_len]
    have hT : ∀ {K : PySem.W.Frag} {H'}, Same H H' → SqL K H' l wvs := fun {_ _} s => .inl (.inl (s _ _ hl))
    have rowA : ∀ i, i < first.length → ∃ a, wvs[i]? = some (.ref a) ∧ IntsL H a (PM.row W tm i) := fun i hi => by
      obtain ⟨v, hv, a, e, h⟩ := paired_at hp (PM.rows_get W hi)
      exact ⟨a, by rw [hv, e], h⟩
    refine ⟨_, rfl, l, _, rfl, .inl (hT (Same.refl H)), (first.length : Nat), by rw [hwl], by omega, by omega, ?_⟩
    refine for_range (lo := 0) (n := first.length) (fun i σ H' => (∃ y1 y2 y3 y4 y5, σ = [some (.ref l), y1, y2, y3, y4, y5, none]) ∧ H' = H ∧ ∀ a b k, a < i → b < a → k < tm → ¬ PM.Swap W a b k) ⟨⟨_, _, _, _, _, rfl⟩, rfl, fun a b k h => absurd h (Nat.not_lt_zero _)⟩ ?_ ?_
    · rintro i σ H' hi ⟨⟨y1, y2, y3, y4, y5, rfl⟩, rfl, ns⟩
      rw [Int.zero_add]
      obtain ⟨ai, hai, hri⟩ := rowA i hi
      refine ⟨_, rfl, i, rfl, by omega, by omega, ?_⟩
      refine for_range (lo := 0) (n := i) (fun j σ H'' => (∃ y2 y3 y4 y5, σ = [some (.ref l), some (.int i), y2, y3, y4, y5, none]) ∧ H'' = H' ∧ ∀ b k, b < j → k < tm → ¬ PM.Swap W i b k) ⟨⟨_, _, _, _, rfl⟩, rfl, fun b k h => absurd h (Nat.not_lt_zero _)⟩ ?_ ?_
      · rintro j σ H'' hj ⟨⟨y2, y3, y4, y5, rfl⟩, rfl, nsj⟩
        rw [Int.zero_add]
        have hjn : j < first.length := by omega
        obtain ⟨aj, haj, hrj⟩ := rowA j hjn
        have lri : ((PM.row W tm i).map V.int).length = tm + 1 := by rw [List.length_map, PM.row_len]
        have lrj : ((PM.row W tm j).map V.int).length = tm + 1 := by rw [List.length_map, PM.row_len]
        refine ⟨_, rfl, _, rfl, l, _, i, .ref ai, rfl, rfl, hT (Same.refl _), atI_nat hai, ai, _, rfl, .inl (.inl (.inl hri)), _, 1, rfl, rfl, (tm : Nat), by rw [lri]; exact congrArg (fun z => [V.int z]) (show (((tm + 1 : Nat) : Int) - 1 = (tm : Nat)) by omega), by have := t8; omega, by omega, ?_⟩
        refine for_range (lo := 0) (n := tm) (fun m σ H3 => (∃ y3 y4 y5, σ = [some (.ref l), some (.int i), some (.int j), y3, y4, y5, none]) ∧ H3 = H'' ∧ ∀ k, k < m → ¬ PM.Swap W i j k) ⟨⟨_, _, _, rfl⟩, rfl, fun k h => absurd h (Nat.not_lt_zero _)⟩ ?_ ?_
        · rintro m σ H3 hm ⟨⟨y3, y4, y5, rfl⟩, rfl, nsm⟩
          rw [Int.zero_add]
          have g : ∀ i k, k ≤ tm → ((PM.row W tm i).map V.int)[k]? = some (.int (W i k)) := fun i k hk => ints_at (PM.row_get W hk)
          have hT0 : ∀ {K : PySem.W.Frag}, SqL K H3 l wvs := hT (Same.refl _)
          have hI : ∀ {K : PySem.W.Frag}, SqL K H3 ai ((PM.row W tm i).map V.int) := .inl (.inl hri)
          have hJ : ∀ {K : PySem.W.Frag}, SqL K H3 aj ((PM.row W tm j).map V.int) := .inl (.inl hrj)
          have e1 : ((m : Nat) : Int) + 1 = ((m + 1 : Nat) : Int) := by omega
          refine ⟨_, rfl, _, rfl, l, _, i, .ref ai, rfl, rfl, hT0, atI_nat hai, _, rfl, ai, _, m, .int (W i m), rfl, rfl, hI, atI_nat (g i m (by omega)), _, rfl, _, rfl, l, _, j, .ref aj, rfl, rfl, hT0, atI_nat haj, _, rfl, aj, _, m, .int (W j m), rfl, rfl, hJ, atI_nat (g j m (by omega)), _, _, rfl, ?_⟩
          have next : ¬ PM.Swap W i j m → (∃ y3 y4 y5, [some (V.ref l), some (.int i), some (.int j), some (.int m), some (.int (W i m)), some (.int (W j m)), none] = [some (V.ref l), some (.int i), some (.int j), y3, y4, y5, none]) ∧ H3 = H3 ∧ ∀ k, k < m + 1 → ¬ PM.Swap W i j k := fun hn => ⟨⟨_, _, _, rfl⟩, rfl, fun k hk => by
            by_cases e : k = m
            · subst e; exact hn
            · exact nsm k (by omega)⟩
          refine ⟨_, rfl, _, rfl, rfl, _, rfl, ite2 (fun hc1 => ?_) (fun hc1 => next fun z => hc1 ?_)⟩
          · refine ⟨_, rfl, _, rfl, l, _, i, .ref ai, rfl, rfl, hT0, atI_nat hai, _, rfl, m, 1, rfl, rfl, ai, _, ((m + 1 : Nat) : Int), .int (W i (m + 1)), rfl, rfl, hI, atI_nat (g i (m + 1) (by omega)), _, rfl, rfl, _, rfl, ite2 (fun hc2 => ?_) (fun hc2 => next fun z => hc2 (decide_eq_true (congrArg V.int z.2.1)))⟩
            refine ⟨_, rfl, _, rfl, l, _, j, .ref aj, rfl, rfl, hT0, atI_nat haj, _, rfl, m, 1, rfl, rfl, aj, _, ((m + 1 : Nat) : Int), .int (W j (m + 1)), rfl, rfl, hJ, atI_nat (g j (m + 1) (by omega)), _, rfl, rfl, _, rfl, ite2 (fun hc3 => ?_) (fun hc3 => next fun z => hc3 (decide_eq_true (congrArg V.int z.2.2)))⟩
            have sw : PM.Swap W i j m := ⟨fun e => by rw [e] at hc1; simp at hc1, V.int.inj (of_decide_eq_true hc2), V.int.inj (of_decide_eq_true hc3)⟩
            refine ⟨_, rfl, l, _, rfl, .inl hT0, fun fl nfl => ?_⟩
            have sA : Same H3 (upd H3 fl (.lst wvs)) := same_upd nfl
            have eA : upd H3 fl (.lst wvs) fl = some (.lst wvs) := upd_same
            dsimp only [gName]
            show tSeq _ _ _ _ (upd H3 fl (.lst wvs))
            generalize upd H3 fl (.lst wvs) = HA at sA eA
            refine ⟨_, rfl, _, rfl, l, _, i, .ref ai, rfl, rfl, hT sA, atI_nat hai, _, rfl, m, 1, rfl, rfl, ((m + 1 : Nat) : Int), rfl, ai, _, rfl, .inl (.inl (hri.mono sA)), fun p1 np1 => ?_⟩
            rw [cut_take (by rw [List.length_map, PM.row_len]; omega), ← List.map_take]
            have sa : Same HA (upd HA p1 (.lst (((PM.row W tm i).take (m + 1)).map V.int))) := same_upd np1
            have ea : upd HA p1 (.lst (((PM.row W tm i).take (m + 1)).map V.int)) p1 = some (.lst (((PM.row W tm i).take (m + 1)).map V.int)) := upd_same
            dsimp only
            generalize upd HA p1 (.lst (((PM.row W tm i).take (m + 1)).map V.int)) = Ha at sa ea
            have sma := sA.trans sa
            refine ⟨_, rfl, _, rfl, l, _, j, .ref aj, rfl, rfl, hT sma, atI_nat haj, _, rfl, m, 1, rfl, rfl, ((m + 1 : Nat) : Int), rfl, aj, _, rfl, .inl (.inl (hrj.mono sma)), fun p2 np2 => ?_⟩
            rw [cut_drop (by rw [List.length_map, PM.row_len]; omega), ← List.map_drop]
            have sb : Same Ha (upd Ha p2 (.lst (((PM.row W tm j).drop (m + 1)).map V.int))) := same_upd np2
            have eb : upd Ha p2 (.lst (((PM.row W tm j).drop (m + 1)).map V.int)) p2 = some (.lst (((PM.row W tm j).drop (m + 1)).map V.int)) := upd_same
            dsimp only
            generalize upd Ha p2 (.lst (((PM.row W tm j).drop (m + 1)).map V.int)) = Hb at sb eb
            refine ⟨p1, p2, _, _, rfl, rfl, sb _ _ ea, eb, line64 (by rw [List.length_map, List.length_map, List.length_take, List.length_drop, PM.row_len, PM.row_len]; omega), fun p3 np3 => ?_⟩
            rw [← List.map_append]
            have sc : Same Hb (upd Hb p3 (.lst (((PM.row W tm i).take (m + 1) ++ (PM.row W tm j).drop (m + 1)).map V.int))) := same_upd np3
            have ec : IntsL (upd Hb p3 (.lst (((PM.row W tm i).take (m + 1) ++ (PM.row W tm j).drop (m + 1)).map V.int))) p3 ((PM.row W tm i).take (m + 1) ++ (PM.row W tm j).drop (m + 1)) := upd_same
            generalize upd Hb p3 (.lst (((PM.row W tm i).take (m + 1) ++ (PM.row W tm j).drop (m + 1)).map V.int)) = Hc at sc ec
            have smc := (sma.trans sb).trans sc
            have sHc : Same HA Hc := (sa.trans sb).trans sc
            have efl : Hc fl = some (.lst wvs) := sHc _ _ eA
            have nflz : p3 ≠ fl := fun e => by
              rw [e] at np3
              rw [(sa.trans sb) _ _ eA] at np3
              cases np3
            refine ⟨_, rfl, _, rfl, fl, wvs, i, i, rfl, rfl, efl, ixN_in (by omega), ?_⟩
            have sD : Same H3 (upd Hc fl (.lst (wvs.set i (.ref p3)))) := same_updM smc nfl
            have eD : upd Hc fl (.lst (wvs.set i (.ref p3))) fl = some (.lst (wvs.set i (.ref p3))) := upd_same
            have ecD : IntsL (upd Hc fl (.lst (wvs.set i (.ref p3)))) p3 ((PM.row W tm i).take (m + 1) ++ (PM.row W tm j).drop (m + 1)) := by
              unfold IntsL
              rw [upd_ne nflz]
              exact ec
            show tSeq _ _ _ _ (upd Hc fl (.lst (wvs.set i (.ref p3))))
            generalize upd Hc fl (.lst (wvs.set i (.ref p3))) = HD at sD eD ecD
            refine ⟨_, rfl, _, rfl, l, _, j, .ref aj, rfl, rfl, hT sD, atI_nat haj, _, rfl, m, 1, rfl, rfl, ((m + 1 : Nat) : Int), rfl, aj, _, rfl, .inl (.inl (hrj.mono sD)), fun p12 np12 => ?_⟩
            rw [cut_take (by rw [List.length_map, PM.row_len]; omega), ← List.map_take]
            have sa2 : Same HD (upd HD p12 (.lst (((PM.row W tm j).take (m + 1)).map V.int))) := same_upd np12
            have ea2 : upd HD p12 (.lst (((PM.row W tm j).take (m + 1)).map V.int)) p12 = some (.lst (((PM.row W tm j).take (m + 1)).map V.int)) := upd_same
            dsimp only
            generalize upd HD p12 (.lst (((PM.row W tm j).take (m + 1)).map V.int)) = Ha2 at sa2 ea2
            have sma2 := sD.trans sa2
            refine ⟨_, rfl, _, rfl, l, _, i, .ref ai, rfl, rfl, hT sma2, atI_nat hai, _, rfl, m, 1, rfl, rfl, ((m + 1 : Nat) : Int), rfl, ai, _, rfl, .inl (.inl (hri.mono sma2)), fun p22 np22 => ?_⟩
            rw [cut_drop (by rw [List.length_map, PM.row_len]; omega), ← List.map_drop]
            have sb2 : Same Ha2 (upd Ha2 p22 (.lst (((PM.row W tm i).drop (m + 1)).map V.int))) := same_upd np22
            have eb2 : upd Ha2 p22 (.lst (((PM.row W tm i).drop (m + 1)).map V.int)) p22 = some (.lst (((PM.row W tm i).drop (m + 1)).map V.int)) := upd_same
            dsimp only
            generalize upd Ha2 p22 (.lst (((PM.row W tm i).drop (m + 1)).map V.int)) = Hb2 at sb2 eb2
            refine ⟨p12, p22, _, _, rfl, rfl, sb2 _ _ ea2, eb2, line64 (by rw [List.length_map, List.length_map, List.length_take, List.length_drop, PM.row_len, PM.row_len]; omega), fun p32 np32 => ?_⟩
            rw [← List.map_append]
            have sc2 : Same Hb2 (upd Hb2 p32 (.lst (((PM.row W tm j).take (m + 1) ++ (PM.row W tm i).drop (m + 1)).map V.int))) := same_upd np32
            have ec2 : IntsL (upd Hb2 p32 (.lst (((PM.row W tm j).take (m + 1) ++ (PM.row W tm i).drop (m + 1)).map V.int))) p32 ((PM.row W tm j).take (m + 1) ++ (PM.row W tm i).drop (m + 1)) := upd_same
            generalize upd Hb2 p32 (.lst (((PM.row W tm j).take (m + 1) ++ (PM.row W tm i).drop (m + 1)).map V.int)) = Hc2 at sc2 ec2
            have smc2 := (sma2.trans sb2).trans sc2
            have sHc2 : Same HD Hc2 := (sa2.trans sb2).trans sc2
            have efl2 : Hc2 fl = some (.lst (wvs.set i (.ref p3))) := sHc2 _ _ eD
            have nfl2 : p32 ≠ fl := fun e => by
              rw [e] at np32
              rw [(sa2.trans sb2) _ _ eD] at np32
              cases np32
            refine ⟨_, rfl, _, rfl, fl, wvs.set i (.ref p3), j, j, rfl, rfl, efl2, ixN_in (by rw [List.length_set]; omega), ?_⟩
            have sE : Same H3 (upd Hc2 fl (.lst ((wvs.set i (.ref p3)).set j (.ref p32)))) := same_updM smc2 nfl
            have eE : upd Hc2 fl (.lst ((wvs.set i (.ref p3)).set j (.ref p32))) fl = some (.lst ((wvs.set i (.ref p3)).set j (.ref p32))) := upd_same
            have ec1E : IntsL (upd Hc2 fl (.lst ((wvs.set i (.ref p3)).set j (.ref p32)))) p3 ((PM.row W tm i).take (m + 1) ++ (PM.row W tm j).drop (m + 1)) := by
              unfold IntsL
              rw [upd_ne nflz]
              exact ecD.mono sHc2
            have ec2E : IntsL (upd Hc2 fl (.lst ((wvs.set i (.ref p3)).set j (.ref p32)))) p32 ((PM.row W tm j).take (m + 1) ++ (PM.row W tm i).drop (m + 1)) := by
              unfold IntsL
              rw [upd_ne nfl2]
              exact ec2
            show tRet _ _ _ (upd Hc2 fl (.lst ((wvs.set i (.ref p3)).set j (.ref p32))))
            generalize upd Hc2 fl (.lst ((wvs.set i (.ref p3)).set j (.ref p32))) = HE at sE eE ec1E ec2E
            have hpE : Paired (fun v xs => IntsV HE xs v) ((wvs.set i (.ref p3)).set j (.ref p32)) (PM.rows (PM.exch W i j m) first.length tm) := by
              rw [← PM.rows_exch hi hjn (show i ≠ j by omega) hm]
              exact paired_set ⟨p32, rfl, ec2E⟩ j (paired_set ⟨p3, rfl, ec1E⟩ i (paired_mono hp fun _ _ r => r.mono sE))
            have G2 := PM.exch_gw G hi hjn hm sw
            have mv2 := PM.exch_mv (T := tm) hi hjn hm sw
            exact ⟨_, rfl, fl, rooms, ds, first, wanted, tm, PM.exch W i j m, rfl, G2, n4, t8, ⟨_, eE, hpE⟩, by omega, fun H9 p W' s9 hW hG => q H9 p W' (sE.trans s9) hW hG⟩
          · have := z.1
            simp [this]
        · rintro σ H'' ⟨⟨y3, y4, y5, rfl⟩, rfl, nsm⟩
          refine ⟨⟨_, _, _, _, rfl⟩, rfl, fun b k hb hk => ?_⟩
          by_cases e : b = j
          · subst e
            exact nsm k hk
          · exact nsj b k (by omega) hk
      · rintro σ H'' ⟨⟨y2, y3, y4, y5, rfl⟩, rfl, nsj⟩
        refine ⟨⟨_, _, _, _, _, rfl⟩, rfl, fun a b k ha hb hk => ?_⟩
        by_cases e : a = i
        · subst e
          exact nsj b k hb hk
        · exact ns a b k (by omega) hb hk
    · rintro σ H' ⟨⟨y1, y2, y3, y4, y5, rfl⟩, rfl, ns⟩
      refine ⟨_, rfl, q H' l W (Same.refl _) ⟨wvs, hl, hp⟩ ⟨G, fun i j k hi hj hij hk => ?_⟩⟩
      rcases Nat.lt_or_gt_of_ne hij with h | h
      · exact fun z => ns j i k hj h hk (swap_symm z)
      · exact ns i j k hi h hk
theorem ok_apart {f C : Addr} {fd : FuncData} (F : Fun K "apart" "apart" sApart f fd) (T : Txt K mg C) (kA : PySem.W.keepIn K (.ref f) = true) (bA : Binds K fd ["ways"] []) (gA : mg "apart" = some (.ref f)) (N : Nat) : FnOk P w K mg base CX0 (N + 1) f fd ["ways"] (spApart N) := by
  induction N with
  | zero =>
    refine F.ok scApart (fun vs H Q E h => ?_) (fun cdv A outer s H vs Q E hr h => ?_)
    · obtain ⟨l, rooms, ds, first, wanted, tm, W, rfl, _⟩ := h
      rfl
    · exfalso
      obtain ⟨l, rooms, ds, first, wanted, tm, W, rfl, _, _, _, _, h, _⟩ := h
      omega
  | succ N ih => exact apart_step F T kA bA gA N ih
end
end PW
set_option Elab.async false
set_option linter.all false
set_option maxRecDepth 100000
set_option maxHeartbeats 4000000
namespace PW
open PySem PySem.Spec PyProof.Rows L2 PMD
/-! ### what parts the found from the rest -/
abbrev sSpot : Stmt := topS 30
abbrev sCutBy : Stmt := topS 31
theorem scSpot : FnScope ["pair", "one", "other"] ["pair"] (defScope sSpot) := ⟨rfl, rfl, rfl, by decide +kernel, rfl, by decide +kernel, by decide +kernel⟩
theorem scCutBy : FnScope ["floor", "first", "wanted", "time", "used", "found", "told", "here", "there"] ["floor", "first", "wanted", "time", "used", "found"] (defScope sCutBy) := ⟨rfl, rfl, rfl, by decide +kernel, rfl, by decide +kernel, by decide +kernel⟩
def spSpot : Sp := fun vs H Q _ => ∃ (v : V) (e : PM.Eg) (ds : List (Int × Int)) (first wanted : List Int) (T : Nat), vs = [v] ∧ PrIn H e v ∧ PM.On ds first wanted T e.1 e.2 ∧ ∀ H' x, Same H H' → IsP H' x (PM.spotOf e) → Q x H'
def spCutBy (w : World) (C : Addr) : Sp := fun vs H Q _ => ∃ (f l1 l2 d : Addr) (vu : V) (rooms : Int) (ds : List (Int × Int)) (first wanted : List Int) (T : Nat) (fs : List (PM.Pl × Option PM.Pl)), vs = [.ref f, .ref l1, .ref l2, .int T, vu, .ref d] ∧
  AskAt C H f l1 l2 rooms ds first wanted ∧ PM.Ask rooms ds first wanted T ∧ FoundAt w H d fs ∧ fs.length ≤ 146 ∧ (∀ q ∈ fs.map (·.1), PM.VP rooms T q) ∧
  ∀ H' p cs, Same H H' → PairsL H' p cs → cs.Pairwise lexLt → (∀ c, c ∈ cs ↔ PM.Parts rooms ds first wanted T (fs.map (·.1)) c) → Q (.ref p) H'
theorem AskAt.atO {C : Addr} {H H' : Hp} {d f l1 l2 : Addr} {o : HO} {rooms : Int} {ds : List (Int × Int)} {first wanted : List Int} (e : H d = some o) (n1 : ∀ C dx fs, o ≠ .ins C dx fs) (n2 : ∀ xs, o ≠ .lst xs) (nt : ∀ ys, H d ≠ some (.tup ys)) (s : Same (hid d H) H') (h : AskAt C H f l1 l2 rooms ds first wanted) : AskAt C H' f l1 l2 rooms ds first wanted := by
  obtain ⟨⟨⟨dx, l, h1, vs, h2, h3⟩, h4⟩, h5, h6⟩ := h
  have ne : ∀ {b : Addr} {o' : HO}, H b = some o' → o ≠ o' → b ≠ d := fun {b o'} hb hn z => by
    rw [z, e] at hb
    exact hn (Option.some.inj hb)
  exact ⟨⟨⟨dx, l, hid_at s h1 (ne h1 (n1 _ _ _)), vs, hid_at s h2 (ne h2 (n2 _)), paired_mono h3 fun _ _ r => isP_mono (tups_hid s nt) r⟩, h4⟩, hid_at s h5 (ne h5 (n2 _)), hid_at s h6 (ne h6 (n2 _))⟩
theorem AskAt.atM {C : Addr} {H H' : Hp} {d f l1 l2 : Addr} {w : World} {kvs : ME} {rooms : Int} {ds : List (Int × Int)} {first wanted : List Int} (e : H d = some (dmO d w kvs)) (s : Same (hid d H) H') (h : AskAt C H f l1 l2 rooms ds first wanted) : AskAt C H' f l1 l2 rooms ds first wanted :=
  h.atO e (fun _ _ _ z => by cases z) (fun _ z => by cases z) (dmO_notup e) s
theorem put_pairs (ps : List ((Int × Int) × V)) (c : Int × Int) (v : V) : ∃ ps' : List ((Int × Int) × V), putK (ps.map fun p => (keyP p.1, p.2)) (keyP c) v = (ps'.map fun p => (keyP p.1, p.2)) ∧ ∀ x, x ∈ ps'.map (·.1) ↔ x ∈ ps.map (·.1) ∨ x = c := by
  unfold putK
  by_cases h : ((ps.map fun p => (keyP p.1, p.2)).any fun kv => decide (kv.1 = keyP c)) = true
  · rw [if_pos h]
    refine ⟨ps.map fun p => if keyP p.1 = keyP c then (p.1, v) else p, ?_, fun x => ?_⟩
    · rw [List.map_map, List.map_map]
      refine List.map_congr_left fun p _ => ?_
      simp only [Function.comp]
      split <;> rfl
    · have e : (ps.map fun p => if keyP p.1 = keyP c then (p.1, v) else p).map (·.1) = ps.map (·.1) := by
        rw [List.map_map]
        refine List.map_congr_left fun p _ => ?_
        simp only [Function.comp]
        split <;> rfl
      rw [e]
      refine ⟨.inl, fun hx => ?_⟩
      rcases hx with hx | rfl
      · exact hx
      · obtain ⟨kv, hkv, e2⟩ := List.any_eq_true.mp h
        obtain ⟨p, hp, rfl⟩ := List.mem_map.mp hkv
        exact List.mem_map.mpr ⟨p, hp, keyP_inj (of_decide_eq_true e2)⟩
  · rw [if_neg h]
    refine ⟨ps ++ [(c, v)], by rw [List.map_append]; rfl, fun x => ?_⟩
    rw [List.map_append, List.mem_append]
    refine or_congr Iff.rfl ?_
    simp
section
variable {P : Program} {w : World} {K : PySem.W.Frag} {mg : Str → Option Value} {base : Heap}
theorem ok_spot {f C : Addr} {fd : FuncData} (F : Fun K "spot_of" "spot_of" sSpot f fd) (T : Txt K mg C) : FnOk P w K mg base CX0 1 f fd ["pair"] spSpot := by
  refine F.ok scSpot (fun vs H Q E h => ?_) (fun cdv A outer s H vs Q E hr h => ?_)
  · obtain ⟨v, e, ds, first, wanted, tm, rfl, _⟩ := h
    rfl
  · obtain ⟨v, e, ds, first, wanted, tm, rfl, ⟨t, x, y, rfl, ht, hx, hy⟩, on, q⟩ := h
    have hu := Nat.lt_of_succ_lt (roomU hr)
    obtain ⟨tE, hE⟩ := T.fin
    refine ⟨_, pss_cons (ps_asg (pv 0) (pg_tup rfl (pgs_cons (pg_name (i := 1) scSpot.nd rfl (.inl rfl)) (pgs_cons (pg_name (i := 2) scSpot.nd rfl (.inl rfl)) pgs_nil))))
      (pss_cons (ps_if (pt_cmpR (op_eqD hu) (pv 2) (pe_glob (v := .str sFin) (by rfl) hE ⟨tE, rfl⟩) (nomark _)) (pss_one (ps_ret (pe_tup (pa_cons (pe_ix ix_tup (pv 1) pe_int (fun _ _ => rfl)) (pa_cons (pe_ix ix_tup (pv 1) pe_int (fun _ _ => rfl)) pa_nil))))) pss_nil)
      (pss_one (ps_ret (pe_tup (pa_cons (pe_ix ix_tup (pv 2) pe_int (fun _ _ => rfl)) (pa_cons (pe_ix ix_tup (pv 2) pe_int (fun _ _ => rfl)) pa_nil)))))), ?_⟩
    obtain ⟨e1, e2⟩ := e
    refine ⟨_, rfl, t, _, rfl, .inl (.inl ht), rfl, _, _, rfl, _, _, rfl, rfl, ?_⟩
    refine ⟨_, rfl, _, _, hy.dp, .str _, plD_ok _, sFin_ok, _, rfl, ?_⟩
    rw [plD_fin]
    refine ite2 (fun hc => ?_) (fun hc => ?_)
    · have hc : e2 = .fin := of_decide_eq_true hc
      subst hc
      cases e1 with
      | beg => exact on.elim
      | fin => exact on.elim
      | spot r m i =>
        obtain ⟨tx, rfl, htx⟩ := hx
        refine ⟨_, rfl, tx, _, 0, .int r, rfl, rfl, .inl (.inl htx), rfl, _, rfl, tx, _, 1, .int m, rfl, rfl, .inl (.inl htx), rfl, Nat.le_of_ble_eq_true rfl, fun p np => ?_⟩
        exact q _ _ (same_upd np) ⟨p, rfl, upd_same⟩
    · have hc : e2 ≠ .fin := fun z => hc (decide_eq_true z)
      cases e2 with
      | beg => cases e1 <;> exact on.elim
      | fin => exact absurd rfl hc
      | spot r m i =>
        obtain ⟨ty, rfl, hty⟩ := hy
        refine ⟨_, rfl, ty, _, 0, .int r, rfl, rfl, .inl (.inl hty), rfl, _, rfl, ty, _, 1, .int m, rfl, rfl, .inl (.inl hty), rfl, Nat.le_of_ble_eq_true rfl, fun p np => ?_⟩
        refine q _ _ (same_upd np) ⟨p, rfl, ?_⟩
        rw [upd_same]
        cases e1 <;> rfl
theorem ok_cutBy {f fO fS C : Addr} {fd fdO fdS : FuncData} (F : Fun K "cut_by" "cut_by" sCutBy f fd) (T : Txt K mg C) (GO : FnOk P w K mg base CX0 2 fO fdO ["floor", "first", "wanted", "time", "place"] (spOnward C)) (kO : PySem.W.keepIn K (.ref fO) = true) (bO : Binds K fdO ["floor", "first", "wanted", "time", "place"] []) (gO : mg "onward" = some (.ref fO))
    (GS : FnOk P w K mg base CX0 1 fS fdS ["pair"] spSpot) (kS : PySem.W.keepIn K (.ref fS) = true) (bS : Binds K fdS ["pair"] []) (gS : mg "spot_of" = some (.ref fS)) :
    FnOk P w K mg base CX0 3 f fd ["floor", "first", "wanted", "time", "used", "found"] (spCutBy w C) := by
  refine F.ok scCutBy (fun vs H Q E h => ?_) (fun cdv A outer s H vs Q E hr h => ?_)
  · obtain ⟨f, l1, l2, d, vu, rooms, ds, first, wanted, tm, fs, rfl, _⟩ := h
    rfl
  · obtain ⟨f, l1, l2, d, vu, rooms, ds, first, wanted, tm, fs, rfl, hA, A2, hFd, fl, vp, q⟩ := h
    have hu := roomU hr
    have hu1 := Nat.lt_of_le_of_lt (Nat.add_le_add_left (show 1 ≤ 65 by decide) _) hu
    have hr1 := hr.mono (show 1 ≤ 2 by decide)
    refine ⟨_, pss_cons (ps_set (i := 6) scCutBy.nd rfl (.inl rfl) pe_dnewT)
      (pss_cons (ps_lock (ps_for PassesOwn.never rfl (piMW w (pv 5)) (pg_name (i := 7) scCutBy.nd rfl (.inl rfl))
        (pss_one (ps_for PassesOwn.never rfl (pi_list (pe_call GO hr (by rfl) gO kO bO .nil pass0 (pa_cons (pv 0) (pa_cons (pv 1) (pa_cons (pv 2) (pa_cons (pv 3) (pa_cons (pv 7) pa_nil))))))) (pg_name (i := 8) scCutBy.nd rfl (.inl rfl))
          (pss_one (ps_if (pt_cmpR (notInMK w hr) (pv 8) (pv 5) (by rfl)) (pss_one (ps_asg pe_bl (pg_sub (pv 6) (pe_call GS hr1 (by rfl) gS kS bS .nil pass0 (pa_cons (pe_tup (pa_cons (pv 7) (pa_cons (pv 8) pa_nil))) pa_nil)) (set_dict hu1)))) pss_nil))))))
      (pss_one (ps_ret (pe_callB (cr_sortedDP rfl) (by rfl) T.sorted (by decide +kernel) (pa_cons (pv 6) pa_nil))))), ?_⟩
    obtain ⟨kvf, hkf, hfp⟩ := id hFd
    refine fun td htd => ?_
    have s1 : Same H (upd H td (.dT [])) := same_upd htd
    have e1 : upd H td (.dT []) td = some (.dT []) := upd_same
    have htdd : td ≠ d := fun e => by
      rw [e, hkf] at htd
      cases htd
    dsimp only [gName]
    show tSeq _ _ _ _ (upd H td (.dT []))
    generalize upd H td (.dT []) = H1 at s1 e1
    have hk1 := s1 _ _ hkf
    refine ⟨d, _, hk1, True.intro, fun od => ?_⟩
    have eL : upd H1 d (.frz od (dmO d w kvf)) d = some (.frz od (dmO d w kvf)) := upd_same
    have eT : upd H1 d (.frz od (dmO d w kvf)) td = some (.dT []) := by rw [upd_ne htdd]; exact e1
    have sL : Same (hid d H1) (upd H1 d (.frz od (dmO d w kvf))) := hid_upd
    have hAL := (hA.mono s1).atM hk1 sL
    have hfpL := paired_mono hfp fun _ _ (r : FRel H _ _) => (⟨r.1, (r.2.1.mono (tups_of s1)).mono (tups_hid sL (dmO_notup hk1)), (r.2.2.mono (tups_of s1)).mono (tups_hid sL (dmO_notup hk1))⟩ : FRel (upd H1 d (.frz od (dmO d w kvf))) _ _)
    have hback : ∀ H', Same (hid td (upd H1 d (.frz od (dmO d w kvf)))) H' → Same H (upd H' d (dmO d w kvf)) := fun H' s' b x hb => by
      by_cases hbd : b = d
      · subst hbd
        rw [upd_same, ← hb, hkf]
      · have hbt : b ≠ td := ne_of_none hb htd
        rw [upd_ne hbd]
        refine s' b x ?_
        rw [hid_ne hbt, upd_ne hbd]
        exact s1 b x hb
    generalize upd H1 d (.frz od (dmO d w kvf)) = HL at eL eT hAL hfpL hback
    have klen := Paired.length hfp
    have ntT : ∀ {H' : Hp} {kv}, H' td = some (.dT kv) → ∀ ys, H' td ≠ some (.tup ys) := fun {H' kv} e ys z => by
      rw [e] at z
      cases z
    refine ⟨_, rfl, d, od, kvf, rfl, eL, ?_⟩
    refine for_it walk_m (fun i σ H' => ∃ (y7 y8 : Option V) (ps : List ((Int × Int) × V)), σ = [some (.ref f), some (.ref l1), some (.ref l2), some (.int tm), some vu, some (.ref d), some (.ref td), y7, y8] ∧ Same (hid td HL) H' ∧ H' td = some (.dT (ps.map fun p => (keyP p.1, p.2))) ∧ ps.length ≤ i * 300 ∧
      ∀ c, c ∈ ps.map (·.1) ↔ ∃ a b, a ∈ (fs.take i).map (·.1) ∧ b ∉ fs.map (·.1) ∧ PM.On ds first wanted tm a b ∧ PM.spotOf (a, b) = c)
      ⟨_, _, [], rfl, hid_le, eT, Nat.zero_le _, fun c => by simp⟩ (fun i σ H' _ ⟨_, _, _, _, s', _⟩ => hid_at s' eL htdd.symm) ?_ ?_
    · rintro i x σ H' H'' hi ⟨y7, y8, ps, rfl, s', eT', len', mem'⟩ ⟨rfl, k, vv, hkv⟩
      obtain ⟨⟨a, o⟩, hai, e1, hx, _⟩ := paired_get hfpL hkv
      have hx' := hx.mono (tups_hid s' (ntT eT))
      have hA' := hAL.atO eT (fun _ _ _ z => by cases z) (fun _ z => by cases z) (ntT eT) s'
      have eL' : H'' d = some (.frz od (dmO d w kvf)) := hid_at s' eL htdd.symm
      have hfp' := paired_mono hfpL fun _ _ (r : FRel HL _ _) => (⟨r.1, r.2.1.mono (tups_hid s' (ntT eT)), r.2.2.mono (tups_hid s' (ntT eT))⟩ : FRel H'' _ _)
      refine ⟨_, rfl, _, rfl, _, rfl, _, rfl, _, rfl, f, l1, l2, x, rooms, ds, first, wanted, tm, a, rfl, hA', A2, hx', fun H2 p qs s2 np ⟨us, hpl, hpp⟩ hql hqs => ?_⟩
      have nptd : p ≠ td := fun e => by
        rw [e, eT'] at np
        cases np
      have hpl' := Paired.length hpp
      refine ⟨p, rfl, ⟨_, .inl (.inl hpl)⟩, ?_⟩
      refine for_list (xs := us) (fun j σ H3 => ∃ (y8 : Option V) (ps : List ((Int × Int) × V)), σ = [some (.ref f), some (.ref l1), some (.ref l2), some (.int tm), some vu, some (.ref d), some (.ref td), some x, y8] ∧ Same (hid td H2) H3 ∧ H3 td = some (.dT (ps.map fun p => (keyP p.1, p.2))) ∧ ps.length ≤ i * 300 + j ∧
        ∀ c, c ∈ ps.map (·.1) ↔ (∃ a b, a ∈ (fs.take i).map (·.1) ∧ b ∉ fs.map (·.1) ∧ PM.On ds first wanted tm a b ∧ PM.spotOf (a, b) = c) ∨ ∃ b, b ∈ qs.take j ∧ b ∉ fs.map (·.1) ∧ PM.spotOf (a, b) = c)
        ⟨_, ps, rfl, hid_le, s2 _ _ eT', len', fun c => by rw [mem' c]; simp⟩ (fun j σ H3 _ ⟨_, _, _, s3, _⟩ => .inl (.inl (hid_at s3 hpl nptd))) ?_ ?_
      · rintro j y σ H3 hj ⟨y8, ps, rfl, s3, eT3, len3, mem3⟩
        have nt2 := ntT (s2 _ _ eT')
        have hjl := (List.getElem?_eq_some_iff.mp hj).1
        obtain ⟨z, hz, hzp⟩ := paired_get hpp hj
        have hz3 := hzp.mono (tups_hid s3 nt2)
        have hx3 := (hx'.mono (tups_of s2)).mono (tups_hid s3 nt2)
        have eL3 : H3 d = some (.frz od (dmO d w kvf)) := hid_at s3 (s2 _ _ eL') htdd.symm
        have hfp3 := paired_mono hfp' fun _ _ (r : FRel H'' _ _) => (⟨r.1, (r.2.1.mono (tups_of s2)).mono (tups_hid s3 nt2), (r.2.2.mono (tups_of s2)).mono (tups_hid s3 nt2)⟩ : FRel H3 _ _)
        have tk : qs.take (j + 1) = qs.take j ++ [z] := by rw [List.take_add_one, hz]; rfl
        have hon : PM.On ds first wanted tm a z := (hqs z).mp (List.mem_of_getElem? hz)
        refine ⟨_, rfl, _, rfl, d, kvf, pk z, rfl, .inr ⟨od, eL3⟩, found_oks hfp3, hz3.ok, _, rfl, ?_⟩
        rw [found_is hfp3]
        refine ite2 (fun hc => ?_) (fun hc => ?_)
        · have hn : z ∉ fs.map (·.1) := fun m => by
            rw [decide_eq_true m] at hc
            cases hc
          refine ⟨_, rfl, _, rfl, _, rfl, Nat.le_of_ble_eq_true rfl, fun t ht => ?_⟩
          have s4 := same_upd (o := .tup [x, y]) ht
          have e4 : upd H3 t (.tup [x, y]) t = some (.tup [x, y]) := upd_same
          dsimp only
          generalize upd H3 t (.tup [x, y]) = H4 at s4 e4
          refine ⟨.ref t, (a, z), ds, first, wanted, tm, rfl, ⟨t, x, y, rfl, e4, hx3.mono (tups_of s4), hz3.mono (tups_of s4)⟩, hon, fun H5 x5 s5 ⟨b, ex5, hb⟩ => ?_⟩
          subst ex5
          obtain ⟨ps', ep, hm⟩ := put_pairs ps (PM.spotOf (a, z)) (.bl true)
          have eT5 := (s4.trans s5) _ _ eT3
          have hlen : (ps.map fun p => (keyP p.1, p.2)).length = ps.length := List.length_map ..
          refine ⟨td, _, rfl, DPut.t (k := keyP (PM.spotOf (a, z))) eT5 hb (line63 (by rw [hlen]; omega)), _, ps', rfl, hid_trans (s3.trans (s4.trans s5)) hid_upd, by rw [upd_same, ep], ?_, fun c => ?_⟩
          · have l1 := length_putK (ps.map fun p => (keyP p.1, p.2)) (keyP (PM.spotOf (a, z))) (.bl true)
            rw [ep, hlen, List.length_map] at l1
            omega
          · rw [hm c, mem3 c, tk, or_assoc]
            refine or_congr Iff.rfl ⟨?_, ?_⟩
            · rintro (⟨b, h1, h2, h3⟩ | rfl)
              · exact ⟨b, List.mem_append_left _ h1, h2, h3⟩
              · exact ⟨z, List.mem_append_right _ List.mem_cons_self, hn, rfl⟩
            · rintro ⟨b, h1, h2, h3⟩
              rcases List.mem_append.mp h1 with h1 | h1
              · exact .inl ⟨b, h1, h2, h3⟩
              · simp at h1
                subst h1
                exact .inr h3.symm
        · have hm : z ∈ fs.map (·.1) := Classical.byContradiction fun n => hc (by rw [decide_eq_false n]; rfl)
          refine ⟨_, ps, rfl, s3, eT3, by omega, fun c => ?_⟩
          rw [mem3 c, tk]
          refine or_congr Iff.rfl ⟨?_, ?_⟩
          · rintro ⟨b, h1, h2, h3⟩
            exact ⟨b, List.mem_append_left _ h1, h2, h3⟩
          · rintro ⟨b, h1, h2, h3⟩
            rcases List.mem_append.mp h1 with h1 | h1
            · exact ⟨b, h1, h2, h3⟩
            · simp at h1
              subst h1
              exact absurd hm h2
      · rintro σ H3 ⟨y8, ps, rfl, s3, eT3, len3, mem3⟩
        have nt2 := ntT (s2 _ _ eT')
        refine ⟨_, _, ps, rfl, (hid_trans s' ((hid_mono s2).trans (same_hid s3 |>.trans hid_le))), eT3, by omega, fun c => ?_⟩
        rw [mem3 c, hpl', List.take_length]
        have tk : fs.take (i + 1) = fs.take i ++ [(a, o)] := by rw [List.take_add_one, hai]; rfl
        rw [tk, List.map_append]
        constructor
        · rintro (⟨a', b, h1, h2⟩ | ⟨b, h1, h2, h3⟩)
          · exact ⟨a', b, List.mem_append_left _ h1, h2⟩
          · exact ⟨a, b, List.mem_append_right _ List.mem_cons_self, h2, (hqs b).mp h1, h3⟩
        · rintro ⟨a', b, h1, h2, h3, h4⟩
          rcases List.mem_append.mp h1 with h1 | h1
          · exact .inl ⟨a', b, h1, h2, h3, h4⟩
          · simp at h1
            subst h1
            exact .inr ⟨b, (hqs b).mpr h3, h2, h4⟩
    · rintro σ H' ⟨y7, y8, ps, rfl, s', eT', len', mem'⟩
      have eL' : H' d = some (.frz od (dmO d w kvf)) := hid_at s' eL htdd.symm
      have sB := hback H' s'
      have eTB : upd H' d (dmO d w kvf) td = some (.dT (ps.map fun p => (keyP p.1, p.2))) := by rw [upd_ne htdd]; exact eT'
      refine ⟨eL', ?_⟩
      dsimp only
      generalize upd H' d (dmO d w kvf) = HB at sB eTB
      refine ⟨_, rfl, td, ps, rfl, eTB, fun ys vs p hpair perm nd le np => ?_⟩
      have s5 := same_upd (o := .lst vs) np
      refine q _ p ys (sB.trans s5) ⟨vs, upd_same, paired_mono hpair fun _ _ r => isP_mono (tups_of s5) r⟩ ?_ fun c => ?_
      · have := List.pairwise_and_iff.mpr ⟨le, nd⟩
        refine this.imp fun {x y} ⟨h1, h2⟩ => ?_
        have h2 : x ≠ y := h2
        obtain ⟨x1, x2⟩ := x
        obtain ⟨y1, y2⟩ := y
        rcases h1 with h1 | ⟨h1, h3⟩
        · exact .inl h1
        · refine .inr ⟨h1, ?_⟩
          have h1 : x1 = y1 := h1
          have h3 : x2 ≤ y2 := h3
          show x2 < y2
          by_cases e : x2 = y2
          · subst h1; subst e; exact absurd rfl h2
          · omega
      · rw [perm.mem_iff, mem' c, klen, List.take_length]
        unfold PM.Parts
        constructor
        · rintro ⟨a, b, h1, h2, h3, h4⟩
          exact ⟨a, b, h1, h2, ⟨vp a h1, h3⟩, h4⟩
        · rintro ⟨a, b, h1, h2, h3, h4⟩
          exact ⟨a, b, h1, h2, h3.2, h4⟩
end
end PW
set_option Elab.async false
set_option linter.all false
set_option maxRecDepth 100000
set_option maxHeartbeats 4000000
namespace PW
open PySem PySem.Spec PyProof.Rows L2 PMD
/-! ### a plan or a cut -/
abbrev sAlike : Stmt := topS 32
theorem scAlike : FnScope ["floor", "first", "wanted", "time", "used", "found", "ways", "one", "other", "room", "way", "minute"] ["floor", "first", "wanted", "time"] (defScope sAlike) := ⟨rfl, rfl, rfl, by decide +kernel, rfl, by decide +kernel, by decide +kernel⟩
def sPlan : Str := Str.ofString "plan"
def sCut : Str := Str.ofString "cut"
def TagAt (H : Hp) (p : Addr) (t : Str) (l : Addr) : Prop := H p = some (.tup [.str t, .ref l])
/-- what alike hands back -/
inductive Paper (rooms : Int) (ds : List (Int × Int)) (first wanted : List Int) (T : Nat) (H : Hp) (p : Addr) : Prop
  | plan (l : Addr) (ps : List (List Int)) : TagAt H p sPlan l → PlanL H l ps → PM.IsPlan rooms ds first wanted T ps → Paper rooms ds first wanted T H p
  | cut (l : Addr) (cs : List (Int × Int)) : TagAt H p sCut l → PairsL H l cs → PM.IsCut rooms ds first wanted T cs → Paper rooms ds first wanted T H p
def spAlike (C : Addr) : Sp := fun vs H Q _ => ∃ (f l1 l2 : Addr) (rooms : Int) (ds : List (Int × Int)) (first wanted : List Int) (T : Nat), vs = [.ref f, .ref l1, .ref l2, .int T] ∧
  AskAt C H f l1 l2 rooms ds first wanted ∧ PM.Ask rooms ds first wanted T ∧ ∀ H' p, Same H H' → Paper rooms ds first wanted T H' p → Q (.ref p) H'
theorem fm_eq {α β : Type} (h : α → Option β) (U : List α) : (List.range U.length).filterMap (fun i => (U[i]?).bind h) = U.filterMap h := by
  induction U with
  | nil => rfl
  | cons a U ih =>
    rw [List.length_cons, List.range_succ_eq_map, List.filterMap_cons, List.filterMap_map]
    have e : (List.range U.length).filterMap ((fun i => ((a :: U)[i]?).bind h) ∘ Nat.succ) = U.filterMap h := by
      rw [← ih]
      rfl
    rw [e, List.filterMap_cons]
    rfl
theorem count_fin (U : List PM.Eg) : (U.filterMap fun e => if e.2 = PM.Pl.fin then some e else none).length = PM.ins U .fin := by
  unfold PM.ins
  induction U with
  | nil => rfl
  | cons a U ih =>
    rw [List.filterMap_cons, List.countP_cons]
    by_cases h : a.2 = .fin
    · rw [if_pos h]
      simp [h, ih]
    · rw [if_neg h]
      simp [h, ih]
theorem fm_some {α β : Type} (h : α → β) (l : List α) : (l.filterMap fun i => some (h i)) = l.map h := by
  induction l with
  | nil => rfl
  | cons a l ih => rw [List.filterMap_cons, List.map_cons, ← ih]
theorem fm_congr {α β : Type} {f g : α → Option β} : ∀ {l : List α}, (∀ i ∈ l, f i = g i) → l.filterMap f = l.filterMap g
  | [], _ => rfl
  | a :: l, h => by rw [List.filterMap_cons, List.filterMap_cons, h a List.mem_cons_self, fm_congr fun i hi => h i (List.mem_cons_of_mem _ hi)]
theorem fm_self {α : Type} (U : List α) : (List.range U.length).filterMap (fun i => U[i]?) = U := by
  have e := fm_eq some U
  have e2 : (fun (i : Nat) => (U[i]?).bind some) = fun i => U[i]? := funext fun i => by cases U[i]? <;> rfl
  rw [e2, List.filterMap_some] at e
  exact e
theorem pick {α β γ : Type} {R : α → β → γ → Prop} : ∀ {us : List α} {zs : List β}, Paired (fun u z => ∃ c, R u z c) us zs → ∃ cs : List γ, cs.length = zs.length ∧ ∀ (i : Nat) u z, us[i]? = some u → zs[i]? = some z → ∃ c, cs[i]? = some c ∧ R u z c
  | _, _, .nil => ⟨[], rfl, fun i u z h => by simp at h⟩
  | _, _, .cons ⟨c, r⟩ t => by
    obtain ⟨cs, h1, h2⟩ := pick t
    refine ⟨c :: cs, by rw [List.length_cons, List.length_cons, h1], fun i u z hu hz => ?_⟩
    cases i with
    | zero =>
      simp at hu hz
      subst hu; subst hz
      exact ⟨c, rfl, r⟩
    | succ i =>
      simp at hu hz
      obtain ⟨c', h3, h4⟩ := h2 i u z hu hz
      exact ⟨c', by simpa using h3, h4⟩
theorem pair_of {α β : Type} {R : α → β → Prop} : ∀ {us : List α} {zs : List β}, us.length = zs.length → (∀ (i : Nat) u z, us[i]? = some u → zs[i]? = some z → R u z) → Paired R us zs
  | [], [], _, _ => .nil
  | [], _ :: _, h, _ => by cases h
  | _ :: _, [], h, _ => by cases h
  | u :: us, z :: zs, h, hR => .cons (hR 0 u z rfl rfl) (pair_of (by simpa using h) fun i u z hu hz => hR (i + 1) u z (by simpa using hu) (by simpa using hz))
def scWay : Scope := { kind := .function, names := [(Str.ofString ".0", .local), (Str.ofString "way", .local), (Str.ofString "minute", .free)], isGenerator := false, isCoroutine := false }
def scCol : Scope := { kind := .function, names := [(Str.ofString ".0", .local), (Str.ofString "minute", .cell), (Str.ofString "tuple", .globalImplicit), (Str.ofString "ways", .cell)], isGenerator := false, isCoroutine := false }
section
variable {P : Program} {w : World} {K : PySem.W.Frag} {mg : Str → Option Value} {base : Heap}
theorem ok_alike {f fR fT fA fW fP fC C : Addr} {fd fdR fdT fdA fdW fdP fdC : FuncData} (F : Fun K "alike" "alike" sAlike f fd) (T : Txt K mg C)
    (GR : FnOk P w K mg base CX0 2 fR fdR ["floor", "first", "wanted"] (spCheckRooms C)) (kR : PySem.W.keepIn K (.ref fR) = true) (bR : Binds K fdR ["floor", "first", "wanted"] []) (gR : mg "check_rooms" = some (.ref fR))
    (GT : FnOk P w K mg base CX0 1 fT fdT ["time"] spCheckTime) (kT : PySem.W.keepIn K (.ref fT) = true) (bT : Binds K fdT ["time"] []) (gT : mg "check_time" = some (.ref fT))
    (GA : FnOk P w K mg base CX0 4 fA fdA ["floor", "first", "wanted", "time"] (spAll w C)) (kA : PySem.W.keepIn K (.ref fA) = true) (bA : Binds K fdA ["floor", "first", "wanted", "time"] []) (gA : mg "all_ways" = some (.ref fA))
    (GW : FnOk P w K mg base CX0 1 fW fdW ["used", "room"] (spWayF w)) (kW : PySem.W.keepIn K (.ref fW) = true) (bW : Binds K fdW ["used", "room"] []) (gW : mg "way_from" = some (.ref fW))
    (GP : FnOk P w K mg base CX0 34 fP fdP ["ways"] (spApart 33)) (kP : PySem.W.keepIn K (.ref fP) = true) (bP : Binds K fdP ["ways"] []) (gP : mg "apart" = some (.ref fP))
    (GC : FnOk P w K mg base CX0 3 fC fdC ["floor", "first", "wanted", "time", "used", "found"] (spCutBy w C)) (kC : PySem.W.keepIn K (.ref fC) = true) (bC : Binds K fdC ["floor", "first", "wanted", "time", "used", "found"] []) (gC : mg "cut_by" = some (.ref fC)) :
    FnOk P w K mg base CX0 35 f fd ["floor", "first", "wanted", "time"] (spAlike C) := by
  refine F.ok scAlike (fun vs H Q E h => ?_) (fun cdv A outer s H vs Q E hr h => ?_)
  · obtain ⟨f, l1, l2, rooms, ds, first, wanted, tm, rfl, _⟩ := h
    rfl
  · obtain ⟨f, l1, l2, rooms, ds, first, wanted, tm, rfl, hA, A2, q⟩ := h
    have hu := Nat.lt_of_succ_lt (roomU hr)
    have hr1 := hr.mono (show 1 ≤ 34 by decide)
    have hr2 := hr.mono (show 2 ≤ 34 by decide)
    have hr3 := hr.mono (show 3 ≤ 34 by decide)
    have hr4 := hr.mono (show 4 ≤ 34 by decide)
    obtain ⟨tE, hE⟩ := T.fin
    refine ⟨_, pss_cons (ps_expr (pe_call GR hr2 (by rfl) gR kR bR .nil pass0 (pa_cons (pv 0) (pa_cons (pv 1) (pa_cons (pv 2) pa_nil)))))
      (pss_cons (ps_expr (pe_call GT hr1 (by rfl) gT kT bT .nil pass0 (pa_cons (pv 3) pa_nil)))
      (pss_cons (ps_asg (pe_call GA hr4 (by rfl) gA kA bA .nil pass0 (pa_cons (pv 0) (pa_cons (pv 1) (pa_cons (pv 2) (pa_cons (pv 3) pa_nil))))) (pg_tup rfl (pgs_cons (pg_name (i := 4) scAlike.nd rfl (.inr rfl)) (pgs_cons (pg_name (i := 5) scAlike.nd rfl (.inl rfl)) pgs_nil))))
      (pss_cons (ps_if (pt_cmpR op_lt (pe_callB call_len_seq (by rfl) T.len PySem.boot_len (pa_cons (pe_lock (pe_lc (own := [("one", 7), ("other", 8)]) (g := gTup K 2 (gCons (gName 7) (gCons (gName 8) gNil))) rfl scAlike.nd (piMW w (pv 4)) (blkOk_by (N := ["floor", "first", "wanted", "time", "used", "found", "ways", "one", "other", "room", "way", "minute"]) (sc := defScope sAlike) (by decide +kernel))
          (fun _ _ _ _ _ => pg_tup rfl (pgs_cons (pg_name (i := 7) scAlike.nd rfl (Or.inl rfl)) (pgs_cons (pg_name (i := 8) scAlike.nd rfl (Or.inl rfl)) pgs_nil))) (fun _ _ _ _ _ => pts_one (pt_cmpR (eqDK K hu) (pv 8) (pe_glob (v := .str sFin) (by rfl) hE ⟨tE, rfl⟩) (nomark _))) (fun _ _ _ _ _ => pe_int))) pa_nil))
            (pe_callB call_len_seq (by rfl) T.len PySem.boot_len (pa_cons (pv 1) pa_nil)) (nomark _))
          (pss_one (ps_ret (pe_tup (pa_cons pe_str (pa_cons (pe_call GC hr3 (by rfl) gC kC bC .nil pass0 (pa_cons (pv 0) (pa_cons (pv 1) (pa_cons (pv 2) (pa_cons (pv 3) (pa_cons (pv 4) (pa_cons (pv 5) pa_nil))))))) pa_nil))))) pss_nil)
      (pss_cons (ps_set (i := 6) scAlike.nd rfl (.inr rfl) (pe_call GP hr (by rfl) gP kP bP .nil pass0 (pa_cons (pe_lc (own := [("room", 9)]) (g := gName 9) (tt := tYes) rfl scAlike.nd (pi_list (pv 1)) (blkOk_by (N := ["floor", "first", "wanted", "time", "used", "found", "ways", "one", "other", "room", "way", "minute"]) (sc := defScope sAlike) (by decide +kernel))
          (fun _ _ _ _ _ => pg_name (i := 9) scAlike.nd rfl (Or.inl rfl)) (fun _ _ _ _ _ => pts_nil) (fun _ _ _ _ _ => pe_call GW hr1 (by rfl) gW kW bW .nil pass0 (pa_cons (pv 4) (pa_cons (pv 9) pa_nil)))) pa_nil)))
      (pss_one (ps_ret (pe_tup (pa_cons pe_str (pa_cons (pe_lc (own := [("minute", 11)]) (g := gName 11) (tt := tYes) rfl scAlike.nd (pi_range1 rfl T.range (pa_cons (pe_op op_add (pv 3) pe_int) pa_nil)) (blkOk_by (N := ["floor", "first", "wanted", "time", "used", "found", "ways", "one", "other", "room", "way", "minute"]) (sc := defScope sAlike) (by decide +kernel))
          (fun _ _ _ _ _ => pg_name (i := 11) scAlike.nd rfl (Or.inr rfl)) (fun _ _ _ _ _ => pts_nil)
          (fun _ _ _ _ _ => pe_callTy (tupleK K) (by rfl) T.tuple (by decide +kernel) (pa_cons (pe_lc (own := [("way", 10)]) (g := gName 10) (tt := tYes) rfl scAlike.nd (piLK K (pv 6)) (by
            have hb : BlkOk ["floor", "first", "wanted", "time", "used", "found", "ways", "one", "other", "room", "way", "minute"] scCol scWay [("way", 10)] := blkOk_by (by decide +kernel)
            with_unfolding_all exact hb)
            (fun _ _ _ _ _ => pg_name (i := 10) scAlike.nd rfl (Or.inl rfl)) (fun _ _ _ _ _ => pts_nil) (fun _ _ _ _ _ => pe_ix (ix_listK K) (pv 10) (pv 11) (fun _ _ => rfl))) pa_nil))) pa_nil))))))))), ?_⟩
    refine ⟨_, rfl, _, rfl, _, rfl, f, l1, l2, rooms, ds, first, wanted, rfl, hA.fl, hA.fi, hA.wa, A2.fi, A2.wa, A2.le, fun H1 s1 => ?_⟩
    refine ⟨_, rfl, tm, rfl, by omega, by have := A2.ti; omega, ?_⟩
    refine ⟨_, rfl, _, rfl, _, rfl, _, rfl, f, l1, l2, rooms, ds, first, wanted, tm, rfl, hA.mono s1, A2, fun H2 p u d U fs v s2 hp hU hF hFl fdd cl fl vp hfin => ?_⟩
    have sm2 := s1.trans s2
    refine ⟨p, _, rfl, .inl (.inl hp), rfl, _, _, rfl, _, _, rfl, rfl, ?_⟩
    obtain ⟨kvs, hk, hkp⟩ := id hU
    have hUl := pairs_few A2.ds.hi A2.ti hFl.nd (fun a b h => (hFl.ed a b h).vp A2)
    have klen := Paired.length hkp
    have f4 := A2.fi.hi
    refine ⟨u, _, hk, True.intro, fun od => ?_⟩
    have eU : upd H2 u (.frz od (dmO u w kvs)) u = some (.frz od (dmO u w kvs)) := upd_same
    have tu : ∀ b ys, H2 b = some (.tup ys) → upd H2 u (.frz od (dmO u w kvs)) b = some (.tup ys) := tups_upd (dmO_notup hk)
    have hkp' := paired_mono hkp fun _ _ (r : URel H2 _ _) => (⟨r.1, r.2.mono tu⟩ : URel (upd H2 u (.frz od (dmO u w kvs))) _ _)
    refine ⟨_, rfl, u, od, kvs, rfl, eU, fun D hD => ?_⟩
    have hDu : D ≠ u := fun e => by
      rw [e, eU] at hD
      cases hD
    have hloc : ∀ H6, Same (upd H2 u (.frz od (dmO u w kvs))) H6 → Same H2 (upd H6 u (dmO u w kvs)) := fun H6 s6 => same_unlock hk s6
    generalize upd H2 u (.frz od (dmO u w kvs)) = HL at eU hkp' hD hloc
    refine lcf (R := fun (_ : Hp) (_ : PM.Eg) v => v = .int 1) walk_m (fun i => (U[i]?).bind fun e => if e.2 = PM.Pl.fin then some e else none) (fun _ _ _ _ y => y.1) hD (by omega) (fun H' s => s _ _ eU) (fun _ _ _ _ _ _ h => h) (fun i x H6 Q6 N hi s6 _ y q6 n6 => ?_) (fun H6 us s6 eD p1 => ?_)
    · obtain ⟨_, k, vv, hy⟩ := y
      obtain ⟨e, he, ek1, pr⟩ := paired_get hkp' hy
      obtain ⟨t, x1, y1, rfl, ht, hx1, hy1⟩ := pr
      refine ⟨t, _, rfl, .inl (.inl (s6 _ _ ht)), rfl, _, _, rfl, _, _, rfl, rfl, rfl, ?_⟩
      refine ⟨_, rfl, _, _, (hy1.mono (tups_of s6)).dp, .str _, plD_ok _, sFin_ok, _, rfl, ?_⟩
      rw [plD_fin]
      refine ite2 (fun hc => ?_) (fun hc => ?_)
      · have hc := of_decide_eq_true hc
        refine q6 e ?_ _ _ (Same.refl _) rfl
        rw [he]
        exact if_pos hc
      · have hc : ¬ e.2 = .fin := fun z => hc (decide_eq_true z)
        refine n6 ?_ _ (Same.refl _)
        rw [he]
        exact if_neg hc
    · have s7 := hloc H6 s6
      have eD7 : upd H6 u (dmO u w kvs) D = some (.lst us) := by rw [upd_ne hDu]; exact eD
      have usl : (us.length : Int) = v := by
        rw [Paired.length p1, klen, fm_eq, count_fin]
        exact PM.Flow.ins_fin hFl
      refine ⟨s6 _ _ eU, ?_⟩
      dsimp only
      generalize upd H6 u (dmO u w kvs) = H7 at s7 eD7
      have sm7 := sm2.trans s7
      have hA7 := hA.mono sm7
      have hU7 := hU.mono s7
      have hF7 := hF.mono s7
      refine ⟨D, _, rfl, .inl (.inl (.inl eD7)), _, rfl, l1, _, rfl, .inl (.inl (.inl hA7.fi)), _, _, rfl, rfl, _, rfl, ite2 (fun hc => ?_) (fun hc => ?_)⟩
      · have hc : (us.length : Int) < ((first.map V.int).length : Nat) := of_decide_eq_true hc
        rw [List.length_map, usl] at hc
        refine ⟨_, rfl, _, rfl, _, rfl, _, rfl, _, rfl, _, rfl, f, l1, l2, d, _, rooms, ds, first, wanted, tm, fs, rfl, hA7, A2, hF7, fl, vp, fun H8 pc cs s8 hpc hri hcs => ?_⟩
        refine ⟨Nat.le_of_ble_eq_true rfl, fun t ht => ?_⟩
        have s9 := same_upd (o := .tup [.str sCut, .ref pc]) ht
        exact q _ t ((sm7.trans s8).trans s9) (.cut pc cs upd_same (hpc.mono s9) (PM.isCut A2 hFl hc fdd cl hfin hri hcs))
      · have hc : ¬ (us.length : Int) < ((first.map V.int).length : Nat) := fun z => hc (decide_eq_true z)
        rw [List.length_map, usl] at hc
        have hv : v = first.length := by
          have := (PM.Flow.le hFl).2
          omega
        subst hv
        refine ⟨_, rfl, l1, rfl, ⟨_, .inl (.inl hA7.fi)⟩, fun D2 hD2 => ?_⟩
        have hfl : (first.map V.int).length = first.length := List.length_map ..
        refine lcf (R := fun H (room : Int) v => ∃ told, ∃ a, v = .ref a ∧ a ≠ D2 ∧ IntsL H a told ∧ PM.Tr U tm room told .fin) walk_list (fun i => first[i]?) (fun _ _ _ _ y => y.1) hD2 (by rw [hfl]; omega) (fun H' s => .inl (.inl (hA7.fi.mono s))) ?_ (fun i x H8 Q8 N hi s8 ⟨us8, eD8⟩ y q8 _ => ?_) (fun H8 us2 s8 eD8 p8 => ?_)
        · rintro HX HY z y sXY hn ⟨told, a, rfl, ha, h1, h2⟩
          exact ⟨told, a, rfl, ha, hid_at sXY h1 ha, h2⟩
        · obtain ⟨z, hz, rfl⟩ := ints_of y.2
          refine ⟨rfl, ?_⟩
          refine ⟨_, rfl, _, rfl, u, z, rooms, ds, first, wanted, tm, U, _, rfl, A2, hU7.mono s8, hFl, PM.Flow.full A2 hFl (List.mem_of_getElem? hz), fun H9 p9 told s9 np9 h9 tr => ?_⟩
          refine q8 z hz _ _ s9 ⟨told, p9, rfl, fun e => ?_, h9, tr⟩
          rw [e, eD8] at np9
          cases np9
        · rw [hfl, fm_self] at p8
          obtain ⟨ws, hwl, hws⟩ := pick p8
          have ul2 := Paired.length p8
          have hWL : WaysL H8 D2 ws := ⟨us2, eD8, pair_of (by omega) fun i u0 w0 hu0 hw0 => by
            have hz := List.getElem?_eq_getElem (show i < first.length by have := (List.getElem?_eq_some_iff.mp hw0).1; omega)
            obtain ⟨c, hc, a, e, _, h1, _⟩ := hws i u0 _ hu0 hz
            rw [hw0] at hc
            cases hc
            exact ⟨a, e, h1⟩⟩
          have hTr : ∀ (i : Nat) room w0, first[i]? = some room → ws[i]? = some w0 → PM.Tr U tm room w0 .fin := fun i room w0 hz hw0 => by
            have hu0 := List.getElem?_eq_getElem (show i < us2.length by have := (List.getElem?_eq_some_iff.mp hw0).1; omega)
            obtain ⟨c, hc, a, e, _, h1, h2⟩ := hws i _ room hu0 hz
            rw [hw0] at hc
            cases hc
            exact h2
          have G := PM.gw_of A2 hFl hwl hTr
          have hrows := PM.rows_of hwl (T := tm) fun w0 hw0 => by
            obtain ⟨i, hi⟩ := List.mem_iff_getElem?.mp hw0
            have hz := List.getElem?_eq_getElem (show i < first.length by have := (List.getElem?_eq_some_iff.mp hi).1; omega)
            exact (PM.Tr.at_end (hTr i _ w0 hz hi)).1
          rw [hrows] at hWL
          have hmv : PM.mv (fun i k => (ws.getD i []).getD k 0) first.length tm < 33 := by
            have m1 := PM.mv_le (W := fun i k => (ws.getD i []).getD k 0) (n := first.length) (T := tm)
            have m2 : tm * first.length ≤ 8 * 4 := Nat.mul_le_mul A2.ti f4
            omega
          refine ⟨D2, rooms, ds, first, wanted, tm, _, rfl, G, f4, A2.ti, hWL, hmv, fun H9 p9 W' s9 ⟨wvs, hw9, hpw9⟩ hG => ?_⟩
          have sm9 := (sm7.trans s8).trans s9
          have hwvl := Paired.length hpw9
          rw [PM.rows_len] at hwvl
          refine ⟨_, rfl, _, 1, rfl, rfl, (tm : Int) + 1, rfl, by have := A2.ti; omega, by have := A2.ti; omega, fun D3 hD3 => ?_⟩
          refine lcf (R := fun H (xs : List Int) v => StIn H v xs) (n := ((tm : Int) + 1).toNat) walk_range (fun k => some (PM.col W' first.length k)) (fun _ _ _ _ y => y.1) hD3 (by have := A2.ti; omega) (fun _ _ => True.intro) (fun _ _ _ _ s hn h => h.mono (tups_hid s hn)) (fun k x H10 Q10 N hk s10 _ y q10 _ => ?_) (fun H10 us3 s10 eD3 p10 => ?_)
          · obtain ⟨_, rfl⟩ := y
            refine ⟨rfl, ?_⟩
            refine ⟨_, rfl, p9, rfl, ⟨_, .inl (.inl (s10 _ _ hw9))⟩, fun D4 hD4 => ?_⟩
            refine lcf (R := fun (_ : Hp) (z : Int) v => v = .int z) walk_list (fun i => if i < first.length then some (W' i k) else none) (fun _ _ _ _ y => y.1) hD4 (by omega) (fun H' s => .inl (.inl ((s10.trans s) _ _ hw9))) (fun _ _ _ _ _ _ h => h) (fun i x H11 Q11 N2 hi s11 _ y q11 _ => ?_) (fun H11 us4 s11 eD4 p11 => ?_)
            · obtain ⟨xs, hxs, a, rfl, ha⟩ := paired_get hpw9 y.2
              have hil : i < first.length := by omega
              rw [PM.rows_get W' hil] at hxs
              cases hxs
              have ha11 := (ha.mono s10).mono s11
              refine ⟨rfl, ?_⟩
              refine ⟨_, rfl, _, rfl, a, _, 0 + (k : Int), .int (W' i k), rfl, rfl, .inl (.inl ha11), ?_, q11 _ (if_pos hil) _ _ (Same.refl _) rfl⟩
              rw [Int.zero_add]
              exact atI_nat (ints_at (PM.row_get W' (by omega)))
            · refine ⟨D4, us4, rfl, .inl ⟨.inl (.inl eD4), fun t ht => ?_⟩⟩
              have s12 := same_upd (o := .tup us4) ht
              refine q10 _ rfl _ _ (s11.trans s12) ⟨t, rfl, ?_⟩
              rw [upd_same]
              congr 2
              have e : (List.range wvs.length).filterMap (fun i => if i < first.length then some (W' i k) else none) = PM.col W' first.length k := by
                rw [hwvl]
                unfold PM.col
                rw [← fm_some]
                refine fm_congr fun i hi => ?_
                rw [if_pos (List.mem_range.mp hi)]
              rw [e] at p11
              have : ∀ {l : List V} {m : List Int}, Paired (fun v z => v = V.int z) l m → l = m.map V.int := fun {l m} h => by
                induction h with
                | nil => rfl
                | cons r _ ih => rw [r, ih, List.map_cons]
              exact this p11
          · refine ⟨Nat.le_of_ble_eq_true rfl, fun t ht => ?_⟩
            have s12 := same_upd (o := .tup [.str sPlan, .ref D3]) ht
            refine q _ t ((sm9.trans s10).trans s12) (.plan D3 (PM.planOf W' first.length tm) upd_same ⟨us3, s12 _ _ eD3, ?_⟩ ⟨W', hG, rfl⟩)
            rw [fm_some] at p10
            have e : (List.range ((tm : Int) + 1).toNat).map (fun k => PM.col W' first.length k) = PM.planOf W' first.length tm := by
              unfold PM.planOf
              congr 2
            rw [e] at p10
            exact paired_mono p10 fun _ _ r => r.mono (tups_of s12)
end
end PW
set_option Elab.async false
set_option linter.all false
set_option maxRecDepth 100000
set_option maxHeartbeats 4000000
namespace PW
open PySem PySem.Spec PyProof.Rows L2 PMD
/-! ### cuts stand -/
abbrev sCutStands : Stmt := topS 34
abbrev sHolds : Stmt := topS 35
theorem scCutStands : FnScope ["floor", "first", "wanted", "time", "told", "k", "room", "minute", "here", "there", "other"] ["floor", "first", "wanted", "time", "told"] (defScope sCutStands) := ⟨rfl, rfl, rfl, by decide +kernel, rfl, by decide +kernel, by decide +kernel⟩
theorem scHolds : FnScope ["floor", "first", "wanted", "time", "told"] ["floor", "first", "wanted", "time", "told"] (defScope sHolds) := ⟨rfl, rfl, rfl, by decide +kernel, rfl, by decide +kernel, by decide +kernel⟩
def spCutStands (C : Addr) : Sp := fun vs H Q _ => ∃ (f l1 l2 l : Addr) (rooms : Int) (ds : List (Int × Int)) (first wanted : List Int) (T : Nat) (cs : List (Int × Int)), vs = [.ref f, .ref l1, .ref l2, .int T, .ref l] ∧
  AskAt C H f l1 l2 rooms ds first wanted ∧ PM.Ask rooms ds first wanted T ∧ PairsL H l cs ∧ PM.IsCut rooms ds first wanted T cs ∧ ∀ H', Same H H' → Q (.bl true) H'
def spHolds (C : Addr) : Sp := fun vs H Q _ => ∃ (f l1 l2 p : Addr) (rooms : Int) (ds : List (Int × Int)) (first wanted : List Int) (T : Nat), vs = [.ref f, .ref l1, .ref l2, .int T, .ref p] ∧
  AskAt C H f l1 l2 rooms ds first wanted ∧ PM.Ask rooms ds first wanted T ∧ Paper rooms ds first wanted T H p ∧ ∀ H', Same H H' → Q (.bl true) H'
def boolK (ks : List Int) : List (L2.Key × V) := ks.map fun k => (Sum.inl k, V.bl true)
theorem put_bool (ks : List Int) (c : Int) : ∃ ks' : List Int, putK (boolK ks) (.inl c) (.bl true) = boolK ks' ∧ (∀ x, x ∈ ks' ↔ x ∈ ks ∨ x = c) ∧ (ks.Nodup → ks'.Nodup) := by
  unfold putK
  by_cases h : ((boolK ks).any fun kv => decide (kv.1 = Sum.inl c)) = true
  · rw [if_pos h]
    refine ⟨ks, ?_, fun x => ⟨.inl, fun hx => ?_⟩, id⟩
    · unfold boolK
      rw [List.map_map]
      refine List.map_congr_left fun k _ => ?_
      simp only [Function.comp]
      split <;> rfl
    · rcases hx with hx | rfl
      · exact hx
      · obtain ⟨kv, hkv, e2⟩ := List.any_eq_true.mp h
        obtain ⟨p, hp, rfl⟩ := List.mem_map.mp hkv
        have e3 := of_decide_eq_true e2
        injection e3 with e3
        exact e3 ▸ hp
  · rw [if_neg h]
    refine ⟨ks ++ [c], by unfold boolK; rw [List.map_append]; rfl, fun x => by rw [List.mem_append]; simp, fun nd => ?_⟩
    refine PM.nodup_snoc nd fun hc => h ?_
    refine List.any_eq_true.mpr ⟨(Sum.inl c, V.bl true), List.mem_map.mpr ⟨c, hc, rfl⟩, decide_eq_true rfl⟩
theorem rooms_few {rooms : Int} (hr : rooms ≤ 8) {ks : List Int} (nd : ks.Nodup) (h : ∀ k ∈ ks, 0 ≤ k ∧ k < rooms) : ks.length ≤ 8 := by
  have : ks.length ≤ ((List.range 8).map fun (i : Nat) => (i : Int)).length := PM.nodup_le nd fun x hx => by
    obtain ⟨h1, h2⟩ := h x hx
    exact List.mem_map.mpr ⟨x.toNat, List.mem_range.mpr (by omega), by omega⟩
  rw [List.length_map, List.length_range] at this
  exact this
section
variable {P : Program} {w : World} {K : PySem.W.Frag} {mg : Str → Option Value} {base : Heap}
theorem ok_cutStands {f fN C : Addr} {fd fdN : FuncData} (F : Fun K "cut_stands" "cut_stands" sCutStands f fd) (T : Txt K mg C) (mN : Meth K C "near" fN) (GN : FnOk P w K mg base CX0 1 fN fdN ["self", "room"] (spNear C)) (bN : Binds K fdN ["self", "room"] []) :
    FnOk P w K mg base CX0 2 f fd ["floor", "first", "wanted", "time", "told"] (spCutStands C) := by
  refine F.ok scCutStands (fun vs H Q E h => ?_) (fun cdv A outer s H vs Q E hr h => ?_)
  · obtain ⟨f, l1, l2, l, rooms, ds, first, wanted, tm, cs, rfl, _⟩ := h
    rfl
  · obtain ⟨f, l1, l2, l, rooms, ds, first, wanted, tm, cs, rfl, hA, A2, hC, Cut, q⟩ := h
    have hu := roomU hr
    have hu1 := Nat.lt_of_le_of_lt (Nat.add_le_add_left (show 1 ≤ 65 by decide) _) hu
    have hu0 := Nat.lt_of_le_of_lt (Nat.le_add_right _ 65) hu
    refine ⟨_, pss_cons (ps_if (PW.pt (pw_or (pt_cmpR op_ge (pe_callB call_len_seq (by rfl) T.len PySem.boot_len (pa_cons (pv 4) pa_nil)) (pe_callB call_len_seq (by rfl) T.len PySem.boot_len (pa_cons (pv 1) pa_nil)) (nomark _))
        (pw_or1 (pt_val (pe_callB (cr_any rfl) (by rfl) T.any (by decide +kernel) (pa_cons (pe_lc (own := [("k", 5)]) (g := gName 5) (tt := tYes) rfl scCutStands.nd (pi_range2 rfl T.range (pa_cons pe_int (pa_cons (pe_callB call_len_seq (by rfl) T.len PySem.boot_len (pa_cons (pv 4) pa_nil)) pa_nil))) (blkOk_by (N := ["floor", "first", "wanted", "time", "told", "k", "room", "minute", "here", "there", "other"]) (sc := defScope sCutStands) (by decide +kernel))
          (fun _ _ _ _ _ => pg_name (i := 5) scCutStands.nd rfl (Or.inl rfl)) (fun _ _ _ _ _ => pts_nil) (fun _ _ _ _ _ => pe_cmpR (gePK K hu0) (pe_ix (ix_listK K) (pv 4) (pe_op op_sub (pv 5) pe_int) (fun _ _ => rfl)) (pe_ix (ix_listK K) (pv 4) (pv 5) (fun _ _ => rfl)) (nomark _))) pa_nil)))))) (pss_one (ps_ret pe_bl)) pss_nil)
      (pss_cons (ps_if (pt_not (pt_val (pe_callB (cr_all rfl) (by rfl) T.all (by decide +kernel) (pa_cons (pe_lc (own := [("room", 6), ("minute", 7)]) (g := gTup K 2 (gCons (gName 6) (gCons (gName 7) gNil))) (tt := tYes) rfl scCutStands.nd (pi_list (pv 4)) (blkOk_by (N := ["floor", "first", "wanted", "time", "told", "k", "room", "minute", "here", "there", "other"]) (sc := defScope sCutStands) (by decide +kernel))
          (fun _ _ _ _ _ => pg_tup rfl (pgs_cons (pg_name (i := 6) scCutStands.nd rfl (Or.inl rfl)) (pgs_cons (pg_name (i := 7) scCutStands.nd rfl (Or.inl rfl)) pgs_nil))) (fun _ _ _ _ _ => pts_nil) (fun _ _ _ _ _ => pe_and (pe_chain op_le op_lt pe_int (pv 6) (pe_fldK K (pv 0))) (pe_one (pe_chain op_le op_le pe_int (pv 7) (pv 3))))) pa_nil)))) (pss_one (ps_ret pe_bl)) pss_nil)
      (pss_cons (ps_setLc (i := 8) (own := [("room", 6)]) (g := gName 6) rfl scCutStands.nd rfl rfl (by rfl) (pi_list (pv 1)) (blkOk_by (N := ["floor", "first", "wanted", "time", "told", "k", "room", "minute", "here", "there", "other"]) (sc := defScope sCutStands) (by decide +kernel))
          (fun _ _ _ _ _ => pg_name (i := 6) scCutStands.nd rfl (Or.inl rfl)) (fun _ _ _ _ _ => pts_one (pt_cmpR (notInDK K hu) (pe_tup (pa_cons (pv 6) (pa_cons pe_int pa_nil))) (pv 4) (by rfl))) (fun _ _ _ _ _ => pv 6))
      (pss_cons (ps_for PassesOwn.never rfl (pi_range2 rfl T.range (pa_cons pe_int (pa_cons (pe_op op_add (pv 3) pe_int) pa_nil))) (pg_name (i := 7) scCutStands.nd rfl (.inl rfl))
        (pss_cons (ps_set (i := 9) scCutStands.nd rfl (.inl rfl) pe_dnewK)
        (pss_cons (ps_for PassesOwn.never rfl (pi_list (pv 8)) (pg_name (i := 6) scCutStands.nd rfl (.inl rfl))
          (pss_one (ps_for PassesOwn.never rfl (pi_list (pe_op op_cat (pe_lst (pa_cons (pv 6) pa_nil)) (pe_meth (pv 0) T.cl mN GN hr bN .nil pass0 (pa_cons (pv 6) pa_nil)))) (pg_name (i := 10) scCutStands.nd rfl (.inl rfl))
            (pss_one (ps_if (pt_cmpR (op_notInD hu) (pe_tup (pa_cons (pv 10) (pa_cons (pv 7) pa_nil))) (pv 4) (by rfl)) (pss_one (ps_asg pe_bl (pg_sub (pv 9) (pv 10) (set_dict hu1)))) pss_nil)))))
        (pss_one (ps_set (i := 8) scCutStands.nd rfl (.inl rfl) (pe_callB (call_sortedDI rfl) (by rfl) T.sorted (by decide +kernel) (pa_cons (pv 9) pa_nil)))))))
      (pss_one (ps_ret (pe_not (pe_callB (cr_any rfl) (by rfl) T.any (by decide +kernel) (pa_cons (pe_lc (own := [("room", 6)]) (g := gName 6) (tt := tYes) rfl scCutStands.nd (pi_list (pv 8)) (blkOk_by (N := ["floor", "first", "wanted", "time", "told", "k", "room", "minute", "here", "there", "other"]) (sc := defScope sCutStands) (by decide +kernel))
          (fun _ _ _ _ _ => pg_name (i := 6) scCutStands.nd rfl (Or.inl rfl)) (fun _ _ _ _ _ => pts_nil) (fun _ _ _ _ _ => pe_cmpR (inSeqK K) (pv 6) (pv 2) (by rfl))) pa_nil)))))))), ?_⟩
    have hF := hA.fl
    obtain ⟨cvs, hcl, hcp⟩ := id hC
    have clen := Paired.length hcp
    have f4 := A2.fi.hi
    have few := Cut.few
    have t8 := A2.ti
    have hT : ∀ {K : PySem.W.Frag} {H'}, Same H H' → SqL K H' l cvs := fun {_ _} s => .inl (.inl (s _ _ hcl))
    have hfl : (first.map V.int).length = first.length := List.length_map ..
    refine ⟨_, rfl, l, _, rfl, .inl (hT (Same.refl H)), _, rfl, l1, _, rfl, .inl (.inl (.inl hA.fi)), _, _, rfl, rfl, _, rfl, ite2 (fun hc => ?_) (fun _ => ?_)⟩
    · exfalso
      have hc := of_decide_eq_true hc
      rw [hfl] at hc
      omega
    refine ⟨_, rfl, l, _, rfl, .inl (hT (Same.refl H)), 1, _, rfl, ⟨by omega, by omega, by omega, by omega⟩, fun D hD => ?_⟩
    refine lcb_range (b := false) hD (by omega) (fun i H' Q' N hi sm q' => ?_) (fun H1 s1 e => ?_)
    · have ea := List.getElem?_eq_getElem (show i < cs.length by omega)
      have eb := List.getElem?_eq_getElem (show i + 1 < cs.length by omega)
      have hlt := List.pairwise_iff_getElem.mp Cut.rise i (i + 1) (by omega) (by omega) (by omega)
      obtain ⟨x1, hx1, t1, rfl, ht1⟩ := paired_at hcp ea
      obtain ⟨x2, hx2, t2, rfl, ht2⟩ := paired_at hcp eb
      have e1 : (1 + (i : Int) - 1) = (i : Int) := by omega
      have e2 : (1 + (i : Int)) = ((i + 1 : Nat) : Int) := by omega
      refine ⟨rfl, ?_⟩
      refine ⟨_, rfl, _, rfl, 1 + (i : Int), 1, rfl, rfl, l, _, _, .ref t1, rfl, rfl, hT sm, by rw [e1]; exact atI_nat hx1, _, rfl, _, rfl, l, _, _, .ref t2, rfl, rfl, hT sm, by rw [e2]; exact atI_nat hx2, t1, t2, _, _, _, _, rfl, rfl, .inl (.inl (sm _ _ ht1)), .inl (.inl (sm _ _ ht2)), ?_⟩
      have hb : (if cs[i].1 = cs[i + 1].1 then decide (cs[i + 1].2 ≤ cs[i].2) else decide (cs[i + 1].1 ≤ cs[i].1)) = false := by
        by_cases e : cs[i].1 = cs[i + 1].1
        · rw [if_pos e]
          exact decide_eq_false (by omega)
        · rw [if_neg e]
          exact decide_eq_false (by omega)
      rw [hb]
      exact q' _ (Same.refl _)
    refine ⟨D, _, rfl, .inl (.inl e), ?_⟩
    rw [bls_any]
    refine ⟨_, rfl, ite2 (fun h => by cases h) (fun _ => ?_)⟩
    refine ⟨_, rfl, l, rfl, ⟨_, hT s1⟩, fun D2 hD2 => ?_⟩
    refine lcb_list (b := true) hD2 (by omega) (fun H' s => hT (s1.trans s)) (fun i x H2 Q2 N hi s2 q2 => ?_) (fun H2 s2 e2 => ?_)
    · have hil := (List.getElem?_eq_some_iff.mp hi).1
      have ea := List.getElem?_eq_getElem (show i < cs.length by omega)
      obtain ⟨x1, hx1, t1, rfl, ht1⟩ := paired_at hcp ea
      rw [hi] at hx1
      cases hx1
      obtain ⟨⟨r1, r2⟩, ⟨m1, m2⟩⟩ := Cut.ok _ (List.getElem_mem (show i < cs.length by omega))
      have sm := s1.trans s2
      refine ⟨t1, _, rfl, .inl (.inl (sm _ _ ht1)), rfl, _, _, rfl, _, _, rfl, rfl, rfl, ?_⟩
      obtain ⟨dx, l', hf, _⟩ := (hF.mono sm).there
      refine ⟨_, rfl, 0, _, rfl, rfl, _, rfl, ite2 (fun h1 => ?_) (fun h1 => absurd (decide_eq_true r1) h1)⟩
      refine ⟨_, rfl, f, C, dx, _, _, rfl, hf, T.cl, T.nR, fs2_rooms _ _, _, rooms, rfl, rfl, _, rfl, ite2 (fun _ => ?_) (fun h => absurd (decide_eq_true r2) h)⟩
      refine ⟨_, rfl, 0, _, rfl, rfl, _, rfl, ite2 (fun h1 => ?_) (fun h1 => absurd (decide_eq_true m1) h1)⟩
      refine ⟨_, rfl, _, _, rfl, rfl, ?_⟩
      show Q2 (.bl (decide (cs[i].2 ≤ (tm : Int)))) _
      rw [decide_eq_true m2]
      exact q2 _ (Same.refl _)
    refine ⟨D2, _, rfl, .inl (.inl e2), ?_⟩
    rw [bls_all]
    refine ⟨_, rfl, ite2 (fun h => by cases h) (fun _ => ?_)⟩
    have s12 := s1.trans s2
    refine ⟨_, rfl, l1, rfl, ⟨_, .inl (.inl (s12 _ _ hA.fi))⟩, fun D3 hD3 => ?_⟩
    refine lcf (R := fun (_ : Hp) (z : Int) v => v = .int z) walk_list (fun i => (first[i]?).bind fun r => if (r, (0 : Int)) ∈ cs then none else some r) (fun _ _ _ _ y => y.1) hD3 (by rw [hfl]; omega) (fun H' s => .inl (.inl ((s12.trans s) _ _ hA.fi))) (fun _ _ _ _ _ _ h => h) (fun i x H3 Q3 N hi s3 _ y q3 n3 => ?_) (fun H3 us s3 e3 p3 => ?_)
    · obtain ⟨z, hz, rfl⟩ := ints_of y.2
      refine ⟨rfl, ?_⟩
      refine ⟨_, rfl, Nat.le_of_ble_eq_true rfl, fun t ht => ?_⟩
      have s4 := same_upd (o := .tup [.int z, .int 0]) ht
      have e4 : upd H3 t (.tup [.int z, .int 0]) t = some (.tup [.int z, .int 0]) := upd_same
      dsimp only
      generalize upd H3 t (.tup [.int z, .int 0]) = H4 at s4 e4
      refine ⟨_, rfl, _, _, dp_pair (p := (z, 0)) ⟨t, rfl, e4⟩, dp_pairsL (hC.mono ((s12.trans s3).trans s4)), shaped_tuple (fun d hd => by have := pD_ok1 (z, 0); simp [PyData.canLay0, PyData.depth] at hd ⊢; rcases hd with rfl | rfl <;> simp [PyData.canLay0, PyData.depth]), shaped_list (pD_ok _), _, rfl, ?_⟩
      rw [any_pD]
      refine ite2 (fun hc => ?_) (fun hc => ?_)
      · have hn : (z, (0 : Int)) ∉ cs := fun m => by
          rw [decide_eq_true m] at hc
          cases hc
        refine ⟨_, rfl, q3 z ?_ _ _ s4 rfl⟩
        rw [hz]
        exact if_neg hn
      · have hm : (z, (0 : Int)) ∈ cs := Classical.byContradiction fun n => hc (by rw [decide_eq_false n]; rfl)
        refine n3 ?_ _ s4
        rw [hz]
        exact if_pos hm
    have p3' : us = (first.filterMap fun r => if (r, (0 : Int)) ∈ cs then none else some r).map V.int := by
      rw [hfl, fm_eq] at p3
      have : ∀ {l : List V} {m : List Int}, Paired (fun v z => v = V.int z) l m → l = m.map V.int := fun {l m} h => by
        induction h with
        | nil => rfl
        | cons r _ ih => rw [r, ih, List.map_cons]
      exact this p3
    have h0 : ∀ x ∈ (first.filterMap fun r => if (r, (0 : Int)) ∈ cs then none else some r), PM.Reach ds first cs 0 x ∧ 0 ≤ x ∧ x < rooms := fun x hx => by
      obtain ⟨r, hr', e⟩ := List.mem_filterMap.mp hx
      by_cases hm : (r, (0 : Int)) ∈ cs
      · rw [if_pos hm] at e; cases e
      · rw [if_neg hm] at e
        cases e
        exact ⟨PM.Reach.start hr' hm, A2.fi.ok _ hr'⟩
    have l0 : (first.filterMap fun r => if (r, (0 : Int)) ∈ cs then none else some r).length ≤ 8 := Nat.le_trans (List.length_filterMap_le _ _) (by omega)
    generalize (first.filterMap fun r => if (r, (0 : Int)) ∈ cs then none else some r) = xs0 at p3' h0 l0
    subst p3'
    have s123 := s12.trans s3
    refine ⟨_, rfl, _, 1, rfl, rfl, 1, (tm : Int) + 1, rfl, ⟨by omega, by omega, by omega, by omega⟩, ?_⟩
    refine for_range (lo := 1) (n := ((tm : Int) + 1 - 1).toNat) (fun i σ H' => ∃ (y6 y7 y9 y10 : Option V) (ph : Addr) (xs : List Int), σ = [some (.ref f), some (.ref l1), some (.ref l2), some (.int tm), some (.ref l), none, y6, y7, some (.ref ph), y9, y10] ∧ Same H H' ∧ IntsL H' ph xs ∧ (∀ x ∈ xs, PM.Reach ds first cs i x ∧ 0 ≤ x ∧ x < rooms) ∧ xs.length ≤ 8)
      ⟨_, _, _, _, D3, xs0, rfl, s123, e3, h0, l0⟩ ?_ ?_
    · rintro i σ H4 hi ⟨y6, y7, y9, y10, ph, xs, rfl, sm, hph, hre, xl⟩
      refine fun dd hdd => ?_
      have s5 : Same H4 (upd H4 dd (.dK [])) := same_upd hdd
      have e5 : upd H4 dd (.dK []) dd = some (.dK (boolK [])) := upd_same
      have hddH : H dd = none := sm.free hdd
      have hph5 : IntsL (upd H4 dd (.dK [])) ph xs := hph.mono s5
      have hpd : ph ≠ dd := ne_of_none hph hdd
      have sm5 := sm.trans s5
      dsimp only [gName]
      show tSeq _ _ _ _ (upd H4 dd (.dK []))
      generalize upd H4 dd (.dK []) = H5 at s5 e5 hph5 sm5
      have ntd : ∀ {H' : Hp} {kv}, H' dd = some (.dK kv) → ∀ ys, H' dd ≠ some (.tup ys) := fun {H' kv} e ys z => by
        rw [e] at z
        cases z
      refine ⟨_, rfl, ph, rfl, ⟨_, .inl (.inl hph5)⟩, ?_⟩
      refine for_list (xs := xs.map V.int) (fun j σ H' => ∃ (y6 y10 : Option V) (ks : List Int), σ = [some (.ref f), some (.ref l1), some (.ref l2), some (.int tm), some (.ref l), none, y6, some (.int (1 + (i : Int))), some (.ref ph), some (.ref dd), y10] ∧ Same H H' ∧ IntsL H' ph xs ∧ H' dd = some (.dK (boolK ks)) ∧ ks.Nodup ∧ ∀ x ∈ ks, PM.Reach ds first cs (i + 1) x ∧ 0 ≤ x ∧ x < rooms)
        ⟨_, _, [], rfl, sm5, hph5, e5, List.nodup_nil, fun x h => by cases h⟩ (fun j σ H' _ ⟨_, _, _, _, _, h, _⟩ => .inl (.inl h)) ?_ ?_
      · rintro j x σ H6 hj ⟨y6, y10, ks, rfl, sm6, hph6, e6, nd6, hk6⟩
        obtain ⟨r, hrx, rfl⟩ := ints_of hj
        obtain ⟨reach, r0, r1⟩ := hre r (List.mem_of_getElem? hrx)
        refine ⟨_, rfl, Nat.le_of_ble_eq_true rfl, fun o no => ?_⟩
        have s7 : Same H6 (upd H6 o (.lst [.int r])) := same_upd no
        have e7 : upd H6 o (.lst [.int r]) o = some (.lst [.int r]) := upd_same
        generalize upd H6 o (.lst [.int r]) = H7 at s7 e7
        have sm7 := sm6.trans s7
        obtain ⟨dx, l', hf, _⟩ := (hF.mono sm7).there
        refine ⟨_, rfl, f, dx, _, rfl, hf, fs2_no _ _ (by decide +kernel) (by decide +kernel), _, rfl, f, r, rooms, ds, rfl, hF.mono sm7, fun H8 p ns s8 np hp hns hln => ?_⟩
        refine ⟨o, p, [.int r], ns.map V.int, rfl, rfl, s8 _ _ e7, hp, line64 (by rw [List.length_map]; show 1 + ns.length ≤ _; omega), fun p9 np9 => ?_⟩
        have s9 : Same H8 (upd H8 p9 (.lst ([.int r] ++ ns.map V.int))) := same_upd np9
        have e9 : IntsL (upd H8 p9 (.lst ([.int r] ++ ns.map V.int))) p9 (r :: ns) := upd_same
        generalize upd H8 p9 (.lst ([.int r] ++ ns.map V.int)) = H9 at s9 e9
        have s69 := (s7.trans s8).trans s9
        have sm9 := sm6.trans s69
        have e69 := s69 _ _ e6
        have p9d : p9 ≠ dd := fun e => by
          rw [e, (s7.trans s8) _ _ e6] at np9
          cases np9
        refine ⟨p9, rfl, ⟨_, .inl (.inl e9)⟩, ?_⟩
        refine for_list (xs := (r :: ns).map V.int) (fun k σ H' => ∃ (y10 : Option V) (ks : List Int), σ = [some (.ref f), some (.ref l1), some (.ref l2), some (.int tm), some (.ref l), none, some (.int r), some (.int (1 + (i : Int))), some (.ref ph), some (.ref dd), y10] ∧ Same H H' ∧ IntsL H' ph xs ∧ IntsL H' p9 (r :: ns) ∧ H' dd = some (.dK (boolK ks)) ∧ ks.Nodup ∧ ∀ x ∈ ks, PM.Reach ds first cs (i + 1) x ∧ 0 ≤ x ∧ x < rooms)
          ⟨_, ks, rfl, sm9, hph6.mono s69, e9, e69, nd6, hk6⟩ (fun k σ H' _ ⟨_, _, _, _, _, h, _⟩ => .inl (.inl h)) ?_ ?_
        · rintro k x σ H10 hk ⟨y10, ks, rfl, sm10, hph10, e10, ed10, nd10, hk10⟩
          obtain ⟨s', hs', rfl⟩ := ints_of hk
          have hstep : PM.Step ds r s' := by
            rcases List.mem_cons.mp (List.mem_of_getElem? hs') with e | h
            · exact .inl e
            · exact .inr ((hns _).mp h)
          have hin := hstep.in A2.ds ⟨r0, r1⟩
          refine ⟨_, rfl, _, rfl, Nat.le_of_ble_eq_true rfl, fun t ht => ?_⟩
          have s11 := same_upd (o := .tup [.int s', .int (1 + (i : Int))]) ht
          have e11 : upd H10 t (.tup [.int s', .int (1 + (i : Int))]) t = some (.tup [.int s', .int (1 + (i : Int))]) := upd_same
          dsimp only
          generalize upd H10 t (.tup [.int s', .int (1 + (i : Int))]) = H11 at s11 e11
          have sm11 := sm10.trans s11
          refine ⟨_, rfl, _, _, dp_pair (p := (s', 1 + (i : Int))) ⟨t, rfl, e11⟩, dp_pairsL (hC.mono sm11), shaped_tuple (fun d hd => by simp at hd; rcases hd with rfl | rfl <;> simp [PyData.canLay0, PyData.depth]), shaped_list (pD_ok _), _, rfl, ?_⟩
          rw [any_pD]
          refine ite2 (fun hc => ?_) (fun hc => ?_)
          · have hn : (s', 1 + (i : Int)) ∉ cs := fun m => by
              rw [decide_eq_true m] at hc
              cases hc
            have hreach : PM.Reach ds first cs (i + 1) s' := reach.step hstep (by rw [show (((i + 1 : Nat)) : Int) = 1 + (i : Int) by omega]; exact hn)
            obtain ⟨ks', ek, hm, hnd⟩ := put_bool ks s'
            have ed11 := s11 _ _ ed10
            have kfew := rooms_few A2.ds.hi nd10 fun x hx => (hk10 x hx).2
            refine ⟨_, rfl, _, rfl, dd, _, rfl, DPut.k (k := .inl s') ed11 (line63 (by unfold boolK; rw [List.length_map]; omega)), _, ks', rfl, same_updM sm11 hddH, hid_at hid_upd (hph10.mono s11) hpd, hid_at hid_upd (e10.mono s11) p9d, by rw [upd_same, ek], hnd nd10, fun x hx => ?_⟩
            rcases (hm x).mp hx with h | rfl
            · exact hk10 x h
            · exact ⟨hreach, hin⟩
          · exact ⟨_, ks, rfl, sm11, hph10.mono s11, e10.mono s11, s11 _ _ ed10, nd10, hk10⟩
        · rintro σ H10 ⟨y10, ks, rfl, sm10, hph10, e10, ed10, nd10, hk10⟩
          exact ⟨_, _, ks, rfl, sm10, hph10, ed10, nd10, hk10⟩
      · rintro σ H6 ⟨y6, y10, ks, rfl, sm6, hph6, e6, nd6, hk6⟩
        have kfew := rooms_few A2.ds.hi nd6 fun x hx => (hk6 x hx).2
        refine ⟨_, rfl, dd, boolK ks, ks, rfl, .inl e6, by unfold boolK; rw [List.map_map]; rfl, by omega, fun ys p perm rise np => ?_⟩
        refine ⟨_, _, _, _, p, ys, rfl, sm6.trans (same_upd np), upd_same, fun x hx => hk6 x (perm.mem_iff.mp hx), by rw [perm.length_eq]; exact kfew⟩
    · rintro σ H4 ⟨y6, y7, y9, y10, ph, xs, rfl, sm, hph, hre, xl⟩
      have e : ((tm : Int) + 1 - 1).toNat = tm := by omega
      rw [e] at hre
      refine ⟨_, rfl, ph, rfl, ⟨_, .inl (.inl hph)⟩, fun D5 hD5 => ?_⟩
      refine lcb_list (b := false) hD5 (by rw [List.length_map]; omega) (fun H' s => .inl (.inl (hph.mono s))) (fun i x H5 Q5 N hi s5 q5 => ?_) (fun H5 s5 e5 => ?_)
      · obtain ⟨r, hrx, rfl⟩ := ints_of hi
        have hnw := PM.IsCut.no_reach Cut (hre r (List.mem_of_getElem? hrx)).1
        refine ⟨rfl, ?_⟩
        refine ⟨_, rfl, _, rfl, l2, _, rfl, .inl (.inl (.inl (hA.wa.mono (sm.trans s5)))), rfl, flat_ints _, ?_⟩
        rw [if_neg (by decide), inV_ints, decide_eq_false hnw]
        exact q5 _ (Same.refl _)
      · refine ⟨D5, _, rfl, .inl (.inl e5), ?_⟩
        rw [bls_any]
        exact ⟨_, rfl, q _ (sm.trans s5)⟩
theorem ok_holds {f fR fT fP fC C : Addr} {fd fdR fdT fdP fdC : FuncData} (F : Fun K "alike_holds" "alike_holds" sHolds f fd) (T : Txt K mg C)
    (GR : FnOk P w K mg base CX0 2 fR fdR ["floor", "first", "wanted"] (spCheckRooms C)) (kR : PySem.W.keepIn K (.ref fR) = true) (bR : Binds K fdR ["floor", "first", "wanted"] []) (gR : mg "check_rooms" = some (.ref fR))
    (GT : FnOk P w K mg base CX0 1 fT fdT ["time"] spCheckTime) (kT : PySem.W.keepIn K (.ref fT) = true) (bT : Binds K fdT ["time"] []) (gT : mg "check_time" = some (.ref fT))
    (GP : FnOk P w K mg base CX0 3 fP fdP ["floor", "first", "wanted", "time", "told"] (spPlanStands C)) (kP : PySem.W.keepIn K (.ref fP) = true) (bP : Binds K fdP ["floor", "first", "wanted", "time", "told"] []) (gP : mg "plan_stands" = some (.ref fP))
    (GC : FnOk P w K mg base CX0 2 fC fdC ["floor", "first", "wanted", "time", "told"] (spCutStands C)) (kC : PySem.W.keepIn K (.ref fC) = true) (bC : Binds K fdC ["floor", "first", "wanted", "time", "told"] []) (gC : mg "cut_stands" = some (.ref fC)) :
    FnOk P w K mg base CX0 4 f fd ["floor", "first", "wanted", "time", "told"] (spHolds C) := by
  refine F.ok scHolds (fun vs H Q E h => ?_) (fun cdv A outer s H vs Q E hr h => ?_)
  · obtain ⟨f, l1, l2, p, rooms, ds, first, wanted, tm, rfl, _⟩ := h
    rfl
  · obtain ⟨f, l1, l2, p, rooms, ds, first, wanted, tm, rfl, hA, A2, pa, q⟩ := h
    have hr1 := hr.mono (show 1 ≤ 3 by decide)
    have hr2 := hr.mono (show 2 ≤ 3 by decide)
    refine ⟨_, pss_cons (ps_expr (pe_call GR hr2 (by rfl) gR kR bR .nil pass0 (pa_cons (pv 0) (pa_cons (pv 1) (pa_cons (pv 2) pa_nil)))))
      (pss_cons (ps_expr (pe_call GT hr1 (by rfl) gT kT bT .nil pass0 (pa_cons (pv 3) pa_nil)))
      (pss_cons (ps_if (PW.pt (pw_and (pt_cmpR op_eq (pe_callB call_len_seq (by rfl) T.len PySem.boot_len (pa_cons (pv 4) pa_nil)) pe_int (nomark _)) (pw_and1 (pt_cmpR op_eq (pe_ix ix_tup (pv 4) pe_int (fun _ _ => rfl)) pe_str (nomark _)))))
        (pss_one (ps_ret (pe_call GP hr (by rfl) gP kP bP .nil pass0 (pa_cons (pv 0) (pa_cons (pv 1) (pa_cons (pv 2) (pa_cons (pv 3) (pa_cons (pe_ix ix_tup (pv 4) pe_int (fun _ _ => rfl)) pa_nil)))))))) pss_nil)
      (pss_cons (ps_if (PW.pt (pw_and (pt_cmpR op_eq (pe_callB call_len_seq (by rfl) T.len PySem.boot_len (pa_cons (pv 4) pa_nil)) pe_int (nomark _)) (pw_and1 (pt_cmpR op_eq (pe_ix ix_tup (pv 4) pe_int (fun _ _ => rfl)) pe_str (nomark _)))))
        (pss_one (ps_ret (pe_call GC hr2 (by rfl) gC kC bC .nil pass0 (pa_cons (pv 0) (pa_cons (pv 1) (pa_cons (pv 2) (pa_cons (pv 3) (pa_cons (pe_ix ix_tup (pv 4) pe_int (fun _ _ => rfl)) pa_nil)))))))) pss_nil)
      (pss_one ps_never)))), ?_⟩
    refine ⟨_, rfl, _, rfl, _, rfl, f, l1, l2, rooms, ds, first, wanted, rfl, hA.fl, hA.fi, hA.wa, A2.fi, A2.wa, A2.le, fun H1 s1 => ?_⟩
    refine ⟨_, rfl, tm, rfl, by omega, by have := A2.ti; omega, ?_⟩
    cases pa with
    | plan l ps h1 h2 h3 =>
      have ht : ∀ {K : PySem.W.Frag}, SqT K H1 p [.str sPlan, .ref l] := .inl (.inl (s1 _ _ h1))
      refine ⟨_, rfl, p, _, rfl, .inr ht, rfl, _, rfl, ite2 (fun _ => ?_) (fun h => absurd rfl h)⟩
      refine ⟨_, rfl, p, _, 0, .str sPlan, rfl, rfl, ht, rfl, rfl, _, rfl, ite2 (fun _ => ?_) (fun h => absurd (decide_eq_true rfl) h)⟩
      exact ⟨_, rfl, _, rfl, _, rfl, _, rfl, _, rfl, p, _, 1, .ref l, rfl, rfl, ht, rfl, f, l1, l2, l, rooms, ds, first, wanted, tm, ps, rfl, hA.mono s1, A2, h2.mono s1, h3, fun H2 s2 => q _ (s1.trans s2)⟩
    | cut l cs h1 h2 h3 =>
      have ht : ∀ {K : PySem.W.Frag}, SqT K H1 p [.str sCut, .ref l] := .inl (.inl (s1 _ _ h1))
      have hne : ¬ (V.str sCut = V.str (Str.ofString "plan")) := fun e => absurd (V.str.inj e) (by decide +kernel)
      refine ⟨_, rfl, p, _, rfl, .inr ht, rfl, _, rfl, ite2 (fun _ => ?_) (fun h => absurd rfl h)⟩
      refine ⟨_, rfl, p, _, 0, .str sCut, rfl, rfl, ht, rfl, rfl, _, rfl, ite2 (fun h => absurd (of_decide_eq_true h) hne) (fun _ => ?_)⟩
      refine ⟨_, rfl, p, _, rfl, .inr ht, rfl, _, rfl, ite2 (fun _ => ?_) (fun h => absurd rfl h)⟩
      refine ⟨_, rfl, p, _, 0, .str sCut, rfl, rfl, ht, rfl, rfl, _, rfl, ite2 (fun _ => ?_) (fun h => absurd (decide_eq_true rfl) h)⟩
      exact ⟨_, rfl, _, rfl, _, rfl, _, rfl, _, rfl, p, _, 1, .ref l, rfl, rfl, ht, rfl, f, l1, l2, l, rooms, ds, first, wanted, tm, cs, rfl, hA.mono s1, A2, h2.mono s1, h3, fun H2 s2 => q _ (s1.trans s2)⟩
end
end PW
set_option Elab.async false
set_option linter.all false
set_option maxRecDepth 100000
set_option maxHeartbeats 4000000
namespace PW
open PySem PySem.Spec PyProof.Rows L2 PMD
/-! ### a < b < c < d as a test -/
def tCh3 (r1 r2 r3 : R2) (ta tb tc td : TE) : TT := fun σ H Q => ta σ H fun x H1 => tb σ H1 fun y H2 => r1 x y H2 fun p H3 => ∃ k, p = .bl k ∧
  if k = true then (tc σ H3 fun z H4 => r2 y z H4 fun p2 H5 => ∃ k2, p2 = .bl k2 ∧ if k2 = true then (td σ H5 fun v H6 => r3 z v H6 fun p3 H7 => ∃ k3, p3 = .bl k3 ∧ Q k3 H7) else Q false H5) else Q false H3
theorem pt_ch3 {X : Cx} {o1 o2 o3 : CmpOp} {r1 r2 r3 : R2} {a b c d : Expr} {ta tb tc td : TE} {pos : Pos} (h1 : OpR X (compareOp o1) r1) (h2 : OpR X (compareOp o2) r2) (h3 : OpR X (compareOp o3) r3) (ha : PE X a ta) (hb : PE X b tb) (hc : PE X c tc) (hd : PE X d td)
    (hm : lastMarks [o1, o2, o3] [b, c, d] = false := by with_unfolding_all rfl) : PT X (.Compare a [o1, o2, o3] [b, c, d] pos) (tCh3 r1 r2 r3 ta tb tc td) := by
  constructor
  intro pins s0 σ H Q I h
  apply isTrue_chain (hm := hm)
  apply thn (ha.run pins s0 σ H _ I h)
  rintro va s1 ⟨x, H1, I1, ra, q⟩
  apply test_link
  apply thn (hb.run pins s1 σ H1 _ I1 q)
  rintro vb s2 ⟨y, H2, I2, rb, q⟩
  apply thn (h1 pins s2 σ H2 x y va vb _ I2 ra rb q)
  rintro vp s3 ⟨p, H3, I3, rp, k, rfl, q⟩
  obtain rfl : vp = Value.bool k := rp
  apply wpAny_truthy_bool
  cases k with
  | false => exact ite_ff ⟨H3, I3, q⟩
  | true =>
    apply ite_tt
    apply test_link
    apply thn (hc.run pins s3 σ H3 _ I3 q)
    rintro vc s4 ⟨z, H4, I4, rc, q⟩
    apply thn (h2 pins s4 σ H4 y z vb vc _ I4 rb rc q)
    rintro vp2 s5 ⟨p2, H5, I5, rp2, k2, rfl, q⟩
    obtain rfl : vp2 = Value.bool k2 := rp2
    apply wpAny_truthy_bool
    cases k2 with
    | false => exact ite_ff ⟨H5, I5, q⟩
    | true =>
      apply ite_tt
      apply test_last
      apply thn (hd.run pins s5 σ H5 _ I5 q)
      rintro vd s6 ⟨v, H6, I6, rd, q⟩
      apply thn (h3 pins s6 σ H6 z v vc vd _ I6 rc rd q)
      rintro vp3 s7 ⟨p3, H7, I7, rp3, k3, rfl, q⟩
      obtain rfl : vp3 = Value.bool k3 := rp3
      exact wpAny_truthy_bool ⟨H7, I7, q⟩
/-! ### Floor.__init__ -/
abbrev sInit : Stmt := inClass (topS 39) 0
theorem scInit : FnScope ["self", "rooms", "doors", "one", "other", "k"] ["self", "rooms", "doors"] (defScope sInit) := ⟨rfl, rfl, rfl, by decide +kernel, rfl, by decide +kernel, by decide +kernel⟩
def spInit (C : Addr) : Sp := fun vs H Q _ => ∃ (p dx l : Addr) (rooms : Int) (ds : List (Int × Int)), vs = [.ref p, .int rooms, .ref l] ∧ H p = some (.ins C dx []) ∧ PairsL H l ds ∧ PM.Doors rooms ds ∧ ds.Pairwise lexLt ∧ ds.length ≤ 64 ∧
  ∀ H' l', Same (hid p H) H' → H' p = some (.ins C dx (fs2 rooms l')) → PairsL H' l' ds → Q .non H'
section
variable {P : Program} {w : World} {K : PySem.W.Frag} {mg : Str → Option Value} {base : Heap}
theorem ok_init {f C : Addr} {fd : FuncData} (F : Fun K "__init__" "Floor.__init__" sInit f fd) (T : Txt K mg C) : FnOk P w K mg base CX0 1 f fd ["self", "rooms", "doors"] (spInit C) := by
  refine F.ok scInit (fun vs H Q E h => ?_) (fun cdv A outer s H vs Q E hr h => ?_)
  · obtain ⟨p, dx, l, rooms, ds, rfl, _⟩ := h
    rfl
  · obtain ⟨p, dx, l, rooms, ds, rfl, hp, ⟨dvs, hl, hdp⟩, D2, rise, few, q⟩ := h
    have hu0 := Nat.lt_of_le_of_lt (Nat.le_add_right _ 65) (roomU hr)
    obtain ⟨t8, h8⟩ := T.roomsN
    refine ⟨_, pss_cons (ps_if (pt_not (pt_chain op_le op_le pe_int (pv 1) (pe_glob (v := .int 8) (by rfl) h8 ⟨t8, rfl⟩))) (pss_one ps_never) pss_nil)
      (pss_cons (ps_for PassesOwn.never rfl (pi_list (pv 2)) (pg_tup rfl (pgs_cons (pg_name (i := 3) scInit.nd rfl (.inl rfl)) (pgs_cons (pg_name (i := 4) scInit.nd rfl (.inl rfl)) pgs_nil)))
        (pss_one (ps_if (pt_not (pt_ch3 op_le op_lt op_lt pe_int (pv 3) (pv 4) (pv 1))) (pss_one ps_never) pss_nil)))
      (pss_cons (ps_if (pt_val (pe_callB (cr_any rfl) (by rfl) T.any (by decide +kernel) (pa_cons (pe_lc (own := [("k", 5)]) (g := gName 5) (tt := tYes) rfl scInit.nd (pi_range2 rfl T.range (pa_cons pe_int (pa_cons (pe_callB call_len_seq (by rfl) T.len PySem.boot_len (pa_cons (pv 2) pa_nil)) pa_nil))) (blkOk_by (N := ["self", "rooms", "doors", "one", "other", "k"]) (sc := defScope sInit) (by decide +kernel))
          (fun _ _ _ _ _ => pg_name (i := 5) scInit.nd rfl (Or.inl rfl)) (fun _ _ _ _ _ => pts_nil) (fun _ _ _ _ _ => pe_cmpR (gePK K hu0) (pe_ix (ix_listK K) (pv 2) (pe_op op_sub (pv 5) pe_int) (fun _ _ => rfl)) (pe_ix (ix_listK K) (pv 2) (pv 5) (fun _ _ => rfl)) (nomark _))) pa_nil))) (pss_one ps_never) pss_nil)
      (pss_cons (ps_fld (pv 0) (pv 1) rfl)
      (pss_one (ps_fld (pv 0) (pe_callTy call_list_of (by rfl) T.list (by decide +kernel) (pa_cons (pv 2) pa_nil)) rfl))))), ?_⟩
    have hT : ∀ {K : PySem.W.Frag} {H'}, Same H H' → SqL K H' l dvs := fun {_ _} s => .inl (.inl (s _ _ hl))
    have dlen := Paired.length hdp
    refine ⟨_, rfl, 1, rooms, rfl, rfl, _, rfl, ite2 (fun _ => ?_) (fun h => absurd (decide_eq_true D2.lo) h)⟩
    refine ⟨rooms, 8, rfl, rfl, _, rfl, ite2 (fun h => ?_) (fun _ => ?_)⟩
    · exfalso
      rw [decide_eq_true D2.hi] at h
      cases h
    refine ⟨_, rfl, l, rfl, ⟨_, hT (Same.refl H)⟩, ?_⟩
    refine for_list (xs := dvs) (fun i σ H' => ∃ y3 y4, σ = [some (.ref p), some (.int rooms), some (.ref l), y3, y4, none] ∧ H' = H) ⟨_, _, rfl, rfl⟩ (fun i σ H' _ ⟨_, _, _, e⟩ => by subst e; exact hT (Same.refl _)) ?_ ?_
    · rintro i x σ H' hi ⟨y3, y4, rfl, rfl⟩
      have hil := (List.getElem?_eq_some_iff.mp hi).1
      have ea := List.getElem?_eq_getElem (show i < ds.length by omega)
      obtain ⟨x1, hx1, t1, rfl, ht1⟩ := paired_at hdp ea
      rw [hi] at hx1
      cases hx1
      obtain ⟨a1, a2, a3⟩ := D2.ok ds[i].1 ds[i].2 (List.getElem_mem (show i < ds.length by omega))
      refine ⟨t1, _, rfl, .inl (.inl ht1), rfl, _, _, rfl, _, _, rfl, rfl, ?_⟩
      refine ⟨_, rfl, 0, ds[i].1, rfl, rfl, _, rfl, ite2 (fun _ => ?_) (fun h => absurd (decide_eq_true a1) h)⟩
      refine ⟨_, rfl, ds[i].1, ds[i].2, rfl, rfl, _, rfl, ite2 (fun _ => ?_) (fun h => absurd (decide_eq_true a2) h)⟩
      refine ⟨_, rfl, ds[i].2, rooms, rfl, rfl, _, rfl, ite2 (fun h => ?_) (fun _ => ⟨_, _, rfl, rfl⟩)⟩
      exfalso
      rw [decide_eq_true a3] at h
      cases h
    · rintro σ H' ⟨y3, y4, rfl, rfl⟩
      refine ⟨_, rfl, l, _, rfl, .inl (hT (Same.refl _)), 1, _, rfl, ⟨by omega, by omega, by omega, by omega⟩, fun D hD => ?_⟩
      refine lcb_range (b := false) hD (by omega) (fun i H1 Q' N hi sm q' => ?_) (fun H1 s1 e => ?_)
      · have ea := List.getElem?_eq_getElem (show i < ds.length by omega)
        have eb := List.getElem?_eq_getElem (show i + 1 < ds.length by omega)
        have hlt := List.pairwise_iff_getElem.mp rise i (i + 1) (by omega) (by omega) (by omega)
        obtain ⟨x1, hx1, t1, rfl, ht1⟩ := paired_at hdp ea
        obtain ⟨x2, hx2, t2, rfl, ht2⟩ := paired_at hdp eb
        have e1 : (1 + (i : Int) - 1) = (i : Int) := by omega
        have e2 : (1 + (i : Int)) = ((i + 1 : Nat) : Int) := by omega
        refine ⟨rfl, ?_⟩
        refine ⟨_, rfl, _, rfl, 1 + (i : Int), 1, rfl, rfl, l, _, _, .ref t1, rfl, rfl, hT sm, by rw [e1]; exact atI_nat hx1, _, rfl, _, rfl, l, _, _, .ref t2, rfl, rfl, hT sm, by rw [e2]; exact atI_nat hx2, t1, t2, _, _, _, _, rfl, rfl, .inl (.inl (sm _ _ ht1)), .inl (.inl (sm _ _ ht2)), ?_⟩
        have hb : (if ds[i].1 = ds[i + 1].1 then decide (ds[i + 1].2 ≤ ds[i].2) else decide (ds[i + 1].1 ≤ ds[i].1)) = false := by
          unfold lexLt at hlt
          by_cases e : ds[i].1 = ds[i + 1].1
          · rw [if_pos e]
            exact decide_eq_false (by omega)
          · rw [if_neg e]
            exact decide_eq_false (by omega)
        rw [hb]
        exact q' _ (Same.refl _)
      · refine ⟨D, _, rfl, .inl (.inl e), ?_⟩
        rw [bls_any]
        refine ⟨_, rfl, ite2 (fun h => by cases h) (fun _ => ?_)⟩
        have hp1 := s1 _ _ hp
        have ntp : ∀ ys, H1 p ≠ some (.tup ys) := fun ys z => by
          rw [hp1] at z
          cases z
        have hlp : l ≠ p := fun z => by
          rw [z, hp] at hl
          cases hl
        refine ⟨_, rfl, _, rfl, p, C, dx, [], rfl, hp1, T.cl, T.nR, (by show 0 < 1000; decide), ?_⟩
        have s2 : Same (hid p H1) (upd H1 p (.ins C dx (putF "rooms" (.int rooms) []))) := hid_upd
        have e2 : upd H1 p (.ins C dx (putF "rooms" (.int rooms) [])) p = some (.ins C dx (putF "rooms" (.int rooms) [])) := upd_same
        have hl2 := hid_at s2 (s1 _ _ hl) hlp
        have hdp2 := paired_mono hdp fun _ _ r => isP_mono (tups_hid s2 ntp) (isP_mono (tups_of s1) r)
        dsimp only
        generalize upd H1 p (.ins C dx (putF "rooms" (.int rooms) [])) = H2 at s2 e2 hl2 hdp2
        refine ⟨_, rfl, l, _, rfl, .inl (.inl (.inl hl2)), fun l' nl => ?_⟩
        have hpl : p ≠ l' := ne_of_none e2 nl
        have s3 : Same H2 (upd H2 l' (.lst dvs)) := same_upd nl
        have e3 : upd H2 l' (.lst dvs) l' = some (.lst dvs) := upd_same
        dsimp only
        generalize upd H2 l' (.lst dvs) = H3 at s3 e3
        have ntp3 : ∀ ys, H3 p ≠ some (.tup ys) := fun ys z => by
          rw [s3 _ _ e2] at z
          cases z
        refine ⟨_, rfl, p, C, dx, _, rfl, s3 _ _ e2, T.cl, T.nD, (by show 1 < 1000; decide), ?_⟩
        have s4 : Same (hid p H3) (upd H3 p (.ins C dx (putF "doors" (.ref l') (putF "rooms" (.int rooms) [])))) := hid_upd
        exact q _ l' (hid_trans (hid_trans (hid_le.trans s1) s2) ((hid_le.trans s3 |> hid_trans) s4)) upd_same ⟨dvs, hid_at s4 e3 hpl.symm, paired_mono hdp2 fun _ _ r => isP_mono (tups_hid s4 ntp3) (isP_mono (tups_of s3) r)⟩
end
end PW
set_option Elab.async false
set_option linter.all false
set_option maxRecDepth 100000
set_option maxHeartbeats 4000000
namespace PW
open PySem PySem.Spec PyProof.Rows L2 PMD
/-! ### the law's own neighbours -/
abbrev sLNear : Stmt := topS 45
theorem scLNear : FnScope ["doors", "room", "found", "one", "other"] ["doors", "room"] (defScope sLNear) := ⟨rfl, rfl, rfl, by decide +kernel, rfl, by decide +kernel, by decide +kernel⟩
def spLNear : Sp := fun vs H Q _ => ∃ (l : Addr) (r : Int) (ds : List (Int × Int)), vs = [.ref l, .int r] ∧ PairsL H l ds ∧ ds.length ≤ 64 ∧
  ∀ H' p ns, Same H H' → H p = none → IntsL H' p ns → (∀ o, o ∈ ns ↔ PM.Adj ds r o) → ns.length ≤ 200 → Q (.ref p) H'
abbrev sLDoors : Stmt := topS 44
theorem scLDoors : FnScope ["state", "rooms", "found", "room", "share", "one", "other"] ["state", "rooms"] (defScope sLDoors) := ⟨rfl, rfl, rfl, by decide +kernel, rfl, by decide +kernel, by decide +kernel⟩
def spLDoors : Sp := fun vs H Q _ => ∃ (st : Addr) (rooms : Int), vs = [.ref st, .int rooms] ∧ 1 ≤ rooms ∧ rooms ≤ 8 ∧ StateAt H st ∧
  ∀ H' p ds, Same (hid st H) H' → StateAt H' st → H p = none → p ≠ st → PairsL H' p ds → PM.Doors rooms ds → ds.Pairwise lexLt → ds.length ≤ 64 → Q (.ref p) H'
abbrev sLWay : Stmt := topS 52
theorem scLWay : FnScope ["state", "doors", "first", "time", "way", "minute", "some"] ["state", "doors", "first", "time"] (defScope sLWay) := ⟨rfl, rfl, rfl, by decide +kernel, rfl, by decide +kernel, by decide +kernel⟩
def spLWay : Sp := fun vs H Q _ => ∃ (st ld l1 : Addr) (T : Nat) (ds : List (Int × Int)) (first : List Int), vs = [.ref st, .ref ld, .ref l1, .int T] ∧ StateAt H st ∧ st ≠ ld ∧ st ≠ l1 ∧ PairsL H ld ds ∧ ds.length ≤ 64 ∧ IntsL H l1 first ∧ 1 ≤ first.length ∧ first.length ≤ 4 ∧ T ≤ 8 ∧
  ∀ H' p xs, Same (hid st H) H' → StateAt H' st → IntsL H' p xs → xs.length = T + 1 → (∀ x, xs[0]? = some x → x ∈ first) → (∀ (k : Nat) a b, xs[k]? = some a → xs[k + 1]? = some b → PM.Step ds a b) → Q (.ref p) H'
theorem PairsL.push {H : Hp} {l : Addr} {vs : List V} {ps : List (Int × Int)} {v : V} {p : Int × Int} (e : H l = some (.lst vs)) (h : Paired (IsP H) vs ps) (hv : IsP H v p) : PairsL (upd H l (.lst (vs ++ [v]))) l (ps ++ [p]) := by
  have t := tups_upd (o := .lst (vs ++ [v])) (lst_notup e)
  exact ⟨_, upd_same, Paired.snoc (paired_mono h fun _ _ r => isP_mono t r) (isP_mono t hv)⟩
theorem doors_few {rooms : Int} (hr : rooms ≤ 8) {ps : List (Int × Int)} (nd : ps.Nodup) (h : ∀ p ∈ ps, 0 ≤ p.1 ∧ p.1 < p.2 ∧ p.2 < rooms) : ps.length ≤ 64 := by
  have e : (((List.range 8).map fun (i : Nat) => (i : Int)).flatMap fun a => ((List.range 8).map fun (i : Nat) => (i : Int)).map fun b => (a, b)).length = 64 := by
    rw [prod_len, List.length_map, List.length_range]
  rw [← e]
  refine PM.nodup_le nd fun x hx => ?_
  obtain ⟨h1, h2, h3⟩ := h x hx
  have m : ∀ z : Int, 0 ≤ z → z < 8 → z ∈ (List.range 8).map fun (i : Nat) => (i : Int) := fun z z0 z1 => List.mem_map.mpr ⟨z.toNat, List.mem_range.mpr (by omega), by omega⟩
  exact List.mem_flatMap.mpr ⟨x.1, m _ h1 (by omega), List.mem_map.mpr ⟨x.2, m _ (by omega) (by omega), rfl⟩⟩
def pairK (H : Hp) (v : V) : Int × Int := match v with
  | .ref a => (match H a with
    | some (.tup [.int i, .int j]) => (i, j)
    | _ => (0, 0))
  | _ => (0, 0)
theorem pairK_of {H : Hp} {v : V} {p : Int × Int} (h : IsP H v p) : pairK H v = p := by
  obtain ⟨t, rfl, e⟩ := h
  unfold pairK
  simp only [e]
theorem pairs_k {H : Hp} {vs : List V} {ps : List (Int × Int)} (h : Paired (IsP H) vs ps) : vs.map (pairK H) = ps ∧ ∀ x ∈ vs, ∃ t, x = V.ref t ∧ H t = some (.tup [.int (pairK H x).1, .int (pairK H x).2]) := by
  induction h with
  | nil => exact ⟨rfl, fun x h => by cases h⟩
  | cons r _ ih =>
    refine ⟨by rw [List.map_cons, pairK_of r, ih.1], fun x hx => ?_⟩
    rcases List.mem_cons.mp hx with rfl | hx
    · rw [pairK_of r]
      exact r
    · exact ih.2 x hx
theorem pair_of' {H : Hp} {k : V → Int × Int} : ∀ {ys : List V}, (∀ x ∈ ys, ∃ t, x = V.ref t ∧ H t = some (.tup [.int (k x).1, .int (k x).2])) → Paired (IsP H) ys (ys.map k)
  | [], _ => .nil
  | y :: ys, h => .cons (h y List.mem_cons_self) (pair_of' fun x hx => h x (List.mem_cons_of_mem _ hx))
theorem lex_of {ps : List (Int × Int)} (h : ps.Pairwise fun x y => SrtO.lexB y x = false) (nd : ps.Nodup) : ps.Pairwise lexLt := by
  have := List.pairwise_and_iff.mpr ⟨h, nd⟩
  refine this.imp fun {x y} ⟨h1, h2⟩ => ?_
  have h1 := SrtO.lexB_no.mp h1
  have h2 : x ≠ y := h2
  unfold lexLt
  by_cases e : x.1 = y.1
  · by_cases e2 : x.2 = y.2
    · exact absurd (Prod.ext e e2) h2
    · omega
  · omega
section
variable {P : Program} {w : World} {K : PySem.W.Frag} {mg : Str → Option Value} {base : Heap}
theorem ok_lnear {f C : Addr} {fd : FuncData} (F : Fun K "_law_near" "_law_near" sLNear f fd) (T : Txt K mg C) : FnOk P w K mg base CX0 1 f fd ["doors", "room"] spLNear := by
  refine F.ok scLNear (fun vs H Q E h => ?_) (fun cdv A outer s H vs Q E hr h => ?_)
  · obtain ⟨l, r, ds, rfl, _⟩ := h
    rfl
  · obtain ⟨l, r, ds, rfl, hF, few, q⟩ := h
    obtain ⟨dvs, hl, hp⟩ := id hF
    have hlen : dvs.length = ds.length := Paired.length hp
    refine ⟨_, pss_cons (ps_set (i := 2) scLNear.nd rfl (.inl rfl) (pe_lst pa_nil))
      (pss_cons (ps_for PassesOwn.never rfl (pi_list (pv 0)) (pg_tup rfl (pgs_cons (pg_name (i := 3) scLNear.nd rfl (.inl rfl)) (pgs_cons (pg_name (i := 4) scLNear.nd rfl (.inl rfl)) pgs_nil)))
        (Evl.pss_cut (ps_if (pt_cmpR op_eq (pv 3) (pv 1) (nomark _)) (pss_one (ps_expr (pe_bm PySem.F.plainAttrs_list PySem.F.slot_list_append PySem.F.type_list_append mt_append (pv 2) (pa_cons (pv 4) pa_nil)))) pss_nil)
          (pss_one (ps_if (pt_cmpR op_eq (pv 4) (pv 1) (nomark _)) (pss_one (ps_expr (pe_bm PySem.F.plainAttrs_list PySem.F.slot_list_append PySem.F.type_list_append mt_append (pv 2) (pa_cons (pv 3) pa_nil)))) pss_nil))))
      (pss_one (ps_ret (pe_callB cr_sortedI (by rfl) T.sorted (by decide +kernel) (pa_cons (pv 2) pa_nil))))), ?_⟩
    refine ⟨Nat.zero_le _, fun o no => ?_⟩
    have s0 : Same H (upd H o (.lst [])) := same_upd no
    have e0 : upd H o (.lst []) o = some (.lst []) := upd_same
    refine ⟨_, rfl, l, rfl, ⟨_, .inl (.inl (s0 _ _ hl))⟩, ?_⟩
    refine for_list (K := K) (a := l) (xs := dvs) (fun i σ H' => ∃ y3 y4 xs, σ = [some (.ref l), some (.int r), some (.ref o), y3, y4] ∧ Same H H' ∧ IntsL H' o xs ∧ xs.length ≤ 2 * i ∧ ∀ z, z ∈ xs ↔ PM.Adj (ds.take i) r z)
      ⟨_, _, [], rfl, s0, e0, Nat.le_refl _, fun z => by simp [PM.Adj]⟩ (fun i σ H' _ ⟨_, _, _, _, sm, _⟩ => .inl (.inl (sm _ _ hl))) ?_ ?_
    · rintro i x σ H' hi ⟨y3, y4, xs, rfl, sm, ho, hle, hxs⟩
      have hil : i < ds.length := by
        have := (List.getElem?_eq_some_iff.mp hi).1
        omega
      obtain ⟨⟨da, db⟩, hd⟩ : ∃ y, ds[i]? = some y := ⟨_, List.getElem?_eq_getElem hil⟩
      obtain ⟨x', hx', t, rfl, ht⟩ := paired_at hp hd
      rw [hi] at hx'
      cases hx'
      have ht' := sm _ _ ht
      have nl : xs.length < 200 := by have := few; omega
      refine ⟨t, _, rfl, .inl (.inl ht'), rfl, _, _, rfl, _, _, rfl, rfl, ?_⟩
      have hxs2 := near_turn (r := r) hd hxs
      refine ⟨fun σ2 H2 => σ2 = [some (.ref l), some (.int r), some (.ref o), some (.int da), some (.int db)] ∧ Same H H2 ∧ IntsL H2 o (xs ++ (if da = r then [db] else [])), ?_, ?_⟩
      · refine ⟨_, rfl, _, rfl, rfl, _, rfl, ite2 (fun hc => ?_) (fun hc => ?_)⟩
        · have hc : da = r := V.int.inj (of_decide_eq_true hc)
          refine ⟨_, rfl, .inl ⟨rfl, _, .inl (.inl ho)⟩, _, rfl, o, _, _, rfl, rfl, ho, line63 (by rw [List.length_map]; omega), rfl, same_updM sm no, ?_⟩
          rw [if_pos hc]
          exact ints_push
        · have hc : ¬ da = r := fun z => hc (decide_eq_true (congrArg V.int z))
          refine ⟨rfl, sm, ?_⟩
          rw [if_neg hc, List.append_nil]
          exact ho
      · rintro σ2 H2 ⟨rfl, sm2, ho2⟩
        have nl2 : (xs ++ (if da = r then [db] else [])).length ≤ 2 * i + 1 := by
          rw [List.length_append]
          split <;> simp <;> omega
        refine ⟨_, rfl, _, rfl, rfl, _, rfl, ite2 (fun hc => ?_) (fun hc => ?_)⟩
        · have hc : db = r := V.int.inj (of_decide_eq_true hc)
          rw [if_pos hc] at hxs2
          refine ⟨_, rfl, .inl ⟨rfl, _, .inl (.inl ho2)⟩, _, rfl, o, _, _, rfl, rfl, ho2, line63 (by rw [List.length_map]; have := few; omega), _, _, _, rfl, same_updM sm2 no, ?_, ?_, hxs2⟩
          · exact ints_push
          · rw [List.length_append, List.length_singleton]
            omega
        · have hc : ¬ db = r := fun z => hc (decide_eq_true (congrArg V.int z))
          rw [if_neg hc, List.append_nil] at hxs2
          exact ⟨_, _, _, rfl, sm2, ho2, by omega, hxs2⟩
    · rintro σ H' ⟨y3, y4, xs, rfl, sm, ho, hle, hxs⟩
      refine ⟨_, rfl, o, xs, rfl, .inl (.inl ho), fun ns' p perm _ np => ?_⟩
      rw [List.take_of_length_le (Nat.le_of_eq hlen.symm)] at hxs
      refine q _ p ns' (sm.trans (same_upd np)) (sm.free np) upd_same (fun z => ?_) ?_
      · rw [perm.mem_iff, hxs]
      · rw [perm.length_eq]
        have := few
        omega
theorem ok_ldoors {f fT C : Addr} {fd fdT : FuncData} (F : Fun K "_law_doors" "_law_doors" sLDoors f fd) (T : Txt K mg C) (GT : FnOk P w K mg base CX0 1 fT fdT ["state", "many"] spTake) (kT : PySem.W.keepIn K (.ref fT) = true) (bT : Binds K fdT ["state", "many"] []) (gT : mg "_law_take" = some (.ref fT)) :
    FnOk P w K mg base CX0 2 f fd ["state", "rooms"] spLDoors := by
  refine F.ok scLDoors (fun vs H Q E h => ?_) (fun cdv A outer s H vs Q E hr h => ?_)
  · obtain ⟨st, rooms, rfl, _⟩ := h
    rfl
  · obtain ⟨st, rooms, rfl, r1, r8, hS, q⟩ := h
    have hu := roomU hr
    refine ⟨_, pss_cons (ps_set (i := 2) scLDoors.nd rfl (.inl rfl) (pe_lst pa_nil))
      (pss_cons (ps_for PassesOwn.never rfl (pi_range2 rfl T.range (pa_cons pe_int (pa_cons (pv 1) pa_nil))) (pg_name (i := 3) scLDoors.nd rfl (.inl rfl))
        (pss_one (ps_if (pt_cmpR op_gt (pe_call GT hr (by rfl) gT kT bT .nil pass0 (pa_cons (pv 0) (pa_cons pe_int pa_nil))) pe_int (nomark _)) (pss_one (ps_expr (pe_bm PySem.F.plainAttrs_list PySem.F.slot_list_append PySem.F.type_list_append mt_append (pv 2) (pa_cons (pe_tup (pa_cons (pe_call GT hr (by rfl) gT kT bT .nil pass0 (pa_cons (pv 0) (pa_cons (pv 3) pa_nil))) (pa_cons (pv 3) pa_nil))) pa_nil)))) pss_nil)))
      (pss_cons (ps_set (i := 4) scLDoors.nd rfl (.inl rfl) (pe_op op_add pe_int (pe_call GT hr (by rfl) gT kT bT .nil pass0 (pa_cons (pv 0) (pa_cons pe_int pa_nil)))))
      (pss_cons (ps_for PassesOwn.never rfl (pi_range1 rfl T.range (pa_cons (pv 1) pa_nil)) (pg_name (i := 5) scLDoors.nd rfl (.inl rfl))
        (pss_one (ps_for PassesOwn.never rfl (pi_range2 rfl T.range (pa_cons (pe_op op_add (pv 5) pe_int) (pa_cons (pv 1) pa_nil))) (pg_name (i := 6) scLDoors.nd rfl (.inl rfl))
          (pss_one (ps_if (PW.pt (pw_and (pt_cmpR (op_notInD hu) (pe_tup (pa_cons (pv 5) (pa_cons (pv 6) pa_nil))) (pv 2) (by rfl)) (pw_and1 (pt_cmpR op_eq (pe_call GT hr (by rfl) gT kT bT .nil pass0 (pa_cons (pv 0) (pa_cons (pv 4) pa_nil))) pe_int (nomark _)))))
            (pss_one (ps_expr (pe_bm PySem.F.plainAttrs_list PySem.F.slot_list_append PySem.F.type_list_append mt_append (pv 2) (pa_cons (pe_tup (pa_cons (pv 5) (pa_cons (pv 6) pa_nil))) pa_nil)))) pss_nil)))))
      (pss_one (ps_ret (pe_callB cr_sortedPO (by rfl) T.sorted (by decide +kernel) (pa_cons (pv 2) pa_nil))))))), ?_⟩
    refine ⟨Nat.zero_le _, fun o no => ?_⟩
    have nso : st ≠ o := fun e => by
      obtain ⟨x, y, z, h⟩ := hS
      rw [e, no] at h
      cases h
    have s0 : Same (hid st H) (upd H o (.lst [])) := hid_le.trans (same_upd no)
    have hS0 : StateAt (upd H o (.lst [])) st := StateAt_upd hS nso
    have e0 : PairsL (upd H o (.lst [])) o [] := ⟨[], upd_same, .nil⟩
    have no' : hid st H o = none := hid_none no
    dsimp only [gName]
    show tSeq _ _ _ _ (upd H o (.lst []))
    generalize upd H o (.lst []) = H1 at s0 hS0 e0
    have hq : ∀ {H' : Hp}, StateAt H' st → ∀ ys, H' st ≠ some (.tup ys) := fun h => h.notup
    refine ⟨_, rfl, 1, rooms, rfl, ⟨by omega, by omega, by omega, by omega⟩, ?_⟩
    refine for_range (lo := 1) (n := (rooms - 1).toNat) (fun i σ H' => ∃ (y3 : Option V) (ps : List (Int × Int)), σ = [some (.ref st), some (.int rooms), some (.ref o), y3, none, none, none] ∧ Same (hid st H) H' ∧ StateAt H' st ∧ PairsL H' o ps ∧ ps.Nodup ∧ (∀ p ∈ ps, 0 ≤ p.1 ∧ p.1 < p.2 ∧ p.2 < rooms ∧ p.2 < 1 + (i : Int)))
      ⟨_, [], rfl, s0, hS0, e0, List.nodup_nil, fun p h => by cases h⟩ ?_ ?_
    · rintro i σ H2 hi ⟨y3, ps, rfl, sm, hS2, hP, nd, hb⟩
      refine ⟨_, rfl, st, 8, rfl, by omega, by omega, hS2, fun H3 x s3 hS3 x0 x1 => ?_⟩
      have hP3 := hP.at s3 (hq hS2) nso.symm
      have sm3 := hid_trans sm s3
      refine ⟨x, 0, rfl, rfl, _, rfl, ite2 (fun hc => ?_) (fun _ => ⟨_, ps, rfl, sm3, hS3, hP3, nd, fun p hp => by obtain ⟨a, b, c, d⟩ := hb p hp; exact ⟨a, b, c, by omega⟩⟩)⟩
      obtain ⟨pvs, hpl, hpp⟩ := id hP3
      refine ⟨_, rfl, .inl ⟨rfl, _, .inl (.inl hpl)⟩, _, rfl, _, rfl, st, 1 + (i : Int), rfl, by omega, by omega, hS3, fun H4 y s4 hS4 y0 y1 => ?_⟩
      have hP4 := hP3.at s4 (hq hS3) nso.symm
      have sm4 := hid_trans sm3 s4
      refine ⟨_, rfl, Nat.le_of_ble_eq_true rfl, fun t ht => ?_⟩
      have s5 := same_upd (o := .tup [.int y, .int (1 + (i : Int))]) ht
      have e5 : upd H4 t (.tup [.int y, .int (1 + (i : Int))]) t = some (.tup [.int y, .int (1 + (i : Int))]) := upd_same
      dsimp only
      generalize upd H4 t (.tup [.int y, .int (1 + (i : Int))]) = H5 at s5 e5
      obtain ⟨pvs5, hpl5, hpp5⟩ := hP4.mono s5
      have pl := Paired.length hpp5
      have nfew := doors_few r8 nd fun p hp => by obtain ⟨a, b, c, _⟩ := hb p hp; exact ⟨a, b, c⟩
      have hr2 : 1 + (i : Int) < rooms := by omega
      refine ⟨o, _, _, rfl, rfl, hpl5, line63 (by omega), _, ps ++ [(y, 1 + (i : Int))], rfl, same_updM (sm4.trans s5) no', StateAt_upd (hS4.mono s5) nso, PairsL.push hpl5 hpp5 ⟨t, rfl, e5⟩, PM.nodup_snoc nd fun hm => ?_, fun p hp => ?_⟩
      · have := (hb _ hm).2.2.2
        simp at this
      · rcases List.mem_append.mp hp with hp | hp
        · obtain ⟨a, b, c, d⟩ := hb p hp
          exact ⟨a, b, c, by omega⟩
        · simp at hp
          subst hp
          exact ⟨y0, y1, hr2, by show 1 + (i : Int) < 1 + ((i + 1 : Nat) : Int); omega⟩
    · rintro σ H2 ⟨y3, ps, rfl, sm, hS2, hP, nd, hb⟩
      refine ⟨_, rfl, st, 5, rfl, by omega, by omega, hS2, fun H3 x s3 hS3 x0 x1 => ?_⟩
      have hP3 := hP.at s3 (hq hS2) nso.symm
      have sm3 := hid_trans sm s3
      refine ⟨2, x, rfl, rfl, ?_⟩
      have hb3 : ∀ p ∈ ps, 0 ≤ p.1 ∧ p.1 < p.2 ∧ p.2 < rooms := fun p hp => by obtain ⟨a, b, c, _⟩ := hb p hp; exact ⟨a, b, c⟩
      dsimp only [gName]
      refine ⟨_, rfl, rooms, rfl, by omega, by omega, ?_⟩
      refine for_range (lo := 0) (n := rooms.toNat) (fun i σ H' => ∃ (y5 y6 : Option V) (y3 : Option V) (ps : List (Int × Int)), σ = [some (.ref st), some (.int rooms), some (.ref o), y3, some (.int (2 + x)), y5, y6] ∧ Same (hid st H) H' ∧ StateAt H' st ∧ PairsL H' o ps ∧ ps.Nodup ∧ (∀ p ∈ ps, 0 ≤ p.1 ∧ p.1 < p.2 ∧ p.2 < rooms))
        ⟨_, _, _, ps, rfl, sm3, hS3, hP3, nd, hb3⟩ ?_ ?_
      · rintro i σ H4 hi ⟨y5, y6, y3, ps, rfl, sm4, hS4, hP4, nd4, hb4⟩
        rw [Int.zero_add]
        refine ⟨_, rfl, i, 1, rfl, rfl, _, rfl, (i : Int) + 1, rooms, rfl, ⟨by omega, by omega, by omega, by omega⟩, ?_⟩
        refine for_range (lo := (i : Int) + 1) (n := (rooms - ((i : Int) + 1)).toNat) (fun j σ H' => ∃ (y6 : Option V) (y3 : Option V) (ps : List (Int × Int)), σ = [some (.ref st), some (.int rooms), some (.ref o), y3, some (.int (2 + x)), some (.int i), y6] ∧ Same (hid st H) H' ∧ StateAt H' st ∧ PairsL H' o ps ∧ ps.Nodup ∧ (∀ p ∈ ps, 0 ≤ p.1 ∧ p.1 < p.2 ∧ p.2 < rooms))
          ⟨_, _, ps, rfl, sm4, hS4, hP4, nd4, hb4⟩ ?_ ?_
        · rintro j σ H5 hj ⟨y6, y3, ps, rfl, sm5, hS5, hP5, nd5, hb5⟩
          have nfew := doors_few r8 nd5 hb5
          refine ⟨_, rfl, _, rfl, Nat.le_of_ble_eq_true rfl, fun t ht => ?_⟩
          have s6 := same_upd (o := .tup [.int i, .int ((i : Int) + 1 + (j : Int))]) ht
          have e6 : upd H5 t (.tup [.int i, .int ((i : Int) + 1 + (j : Int))]) t = some (.tup [.int i, .int ((i : Int) + 1 + (j : Int))]) := upd_same
          dsimp only
          generalize upd H5 t (.tup [.int i, .int ((i : Int) + 1 + (j : Int))]) = H6 at s6 e6
          have hP6 := hP5.mono s6
          have sm6 := sm5.trans s6
          refine ⟨_, rfl, _, _, dp_pair (p := ((i : Int), (i : Int) + 1 + (j : Int))) ⟨t, rfl, e6⟩, dp_pairsL hP6, shaped_tuple (fun d hd => by simp at hd; rcases hd with rfl | rfl <;> simp [PyData.canLay0, PyData.depth]), shaped_list (pD_ok _), _, rfl, ?_⟩
          rw [any_pD]
          refine ite2 (fun hc => ?_) (fun hc => ⟨_, _, ps, rfl, sm6, hS5.mono s6, hP6, nd5, hb5⟩)
          have hn : ((i : Int), (i : Int) + 1 + (j : Int)) ∉ ps := fun m => by
            rw [decide_eq_true m] at hc
            cases hc
          refine ⟨_, rfl, _, rfl, st, 2 + x, rfl, by omega, by omega, hS5.mono s6, fun H7 y s7 hS7 y0 y1 => ?_⟩
          have hP7 := hP6.at s7 (hq (hS5.mono s6)) nso.symm
          have sm7 := hid_trans sm6 s7
          refine ⟨rfl, _, rfl, ite2 (fun _ => ?_) (fun _ => ⟨_, _, ps, rfl, sm7, hS7, hP7, nd5, hb5⟩)⟩
          obtain ⟨pvs, hpl, hpp⟩ := id hP7
          refine ⟨_, rfl, .inl ⟨rfl, _, .inl (.inl hpl)⟩, _, rfl, _, rfl, Nat.le_of_ble_eq_true rfl, fun t2 ht2 => ?_⟩
          have s8 := same_upd (o := .tup [.int i, .int ((i : Int) + 1 + (j : Int))]) ht2
          have e8 : upd H7 t2 (.tup [.int i, .int ((i : Int) + 1 + (j : Int))]) t2 = some (.tup [.int i, .int ((i : Int) + 1 + (j : Int))]) := upd_same
          dsimp only
          generalize upd H7 t2 (.tup [.int i, .int ((i : Int) + 1 + (j : Int))]) = H8 at s8 e8
          obtain ⟨pvs8, hpl8, hpp8⟩ := hP7.mono s8
          have pl := Paired.length hpp8
          refine ⟨o, _, _, rfl, rfl, hpl8, line63 (by omega), _, _, ps ++ [((i : Int), (i : Int) + 1 + (j : Int))], rfl, same_updM (sm7.trans s8) no', StateAt_upd (hS7.mono s8) nso, PairsL.push hpl8 hpp8 ⟨t2, rfl, e8⟩, PM.nodup_snoc nd5 hn, fun p hp => ?_⟩
          rcases List.mem_append.mp hp with hp | hp
          · exact hb5 p hp
          · simp at hp
            subst hp
            exact ⟨by show (0 : Int) ≤ (i : Int); omega, by show (i : Int) < (i : Int) + 1 + (j : Int); omega, by show (i : Int) + 1 + (j : Int) < rooms; omega⟩
        · rintro σ H5 ⟨y6, y3, ps, rfl, sm5, hS5, hP5, nd5, hb5⟩
          exact ⟨_, _, _, ps, rfl, sm5, hS5, hP5, nd5, hb5⟩
      · rintro σ H4 ⟨y5, y6, y3, ps, rfl, sm4, hS4, ⟨pvs, hpl, hpp⟩, nd4, hb4⟩
        obtain ⟨k1, k2⟩ := pairs_k hpp
        refine ⟨_, rfl, o, pvs, pairK H4, rfl, .inl (.inl hpl), k2, fun ys p srt stb np => ?_⟩
        have s5 := same_upd (o := .lst ys) np
        have perm : (ys.map (pairK H4)).Perm ps := by
          rw [← k1]
          exact stb.perm.map _
        have hys : Paired (IsP H4) ys (ys.map (pairK H4)) := pair_of' (fun y hy => k2 y (stb.perm.mem_iff.mp hy))
        have nps : p ≠ st := fun e => by
          obtain ⟨x, y, z, h⟩ := hS4
          rw [e, h] at np
          cases np
        refine q _ p (ys.map (pairK H4)) (sm4.trans s5) (hS4.mono s5) ?_ nps ⟨_, upd_same, paired_mono hys fun _ _ r => isP_mono (tups_of s5) r⟩ ⟨r1, r8, fun a b h => hb4 (a, b) (perm.mem_iff.mp h)⟩ (lex_of (List.pairwise_map.mpr srt) (perm.nodup_iff.mpr nd4)) (by rw [perm.length_eq]; exact doors_few r8 nd4 hb4)
        cases e : H p with
        | none => rfl
        | some u =>
          have := sm4 p u (by rw [hid_ne nps]; exact e)
          rw [np] at this
          cases this
theorem ok_lway {f fT fN C : Addr} {fd fdT fdN : FuncData} (F : Fun K "_law_way" "_law_way" sLWay f fd) (T : Txt K mg C) (GT : FnOk P w K mg base CX0 1 fT fdT ["state", "many"] spTake) (kT : PySem.W.keepIn K (.ref fT) = true) (bT : Binds K fdT ["state", "many"] []) (gT : mg "_law_take" = some (.ref fT))
    (GN : FnOk P w K mg base CX0 1 fN fdN ["doors", "room"] spLNear) (kN : PySem.W.keepIn K (.ref fN) = true) (bN : Binds K fdN ["doors", "room"] []) (gN : mg "_law_near" = some (.ref fN)) :
    FnOk P w K mg base CX0 2 f fd ["state", "doors", "first", "time"] spLWay := by
  refine F.ok scLWay (fun vs H Q E h => ?_) (fun cdv A outer s H vs Q E hr h => ?_)
  · obtain ⟨st, ld, l1, tm, ds, first, rfl, _⟩ := h
    rfl
  · obtain ⟨st, ld, l1, tm, ds, first, rfl, hS, n1, n2, hD, few, hf, f1, f4, t8, q⟩ := h
    refine ⟨_, pss_cons (ps_set (i := 4) scLWay.nd rfl (.inl rfl) (pe_lst (pa_cons (pe_ix ix_list (pv 2) (pe_call GT hr (by rfl) gT kT bT .nil pass0 (pa_cons (pv 0) (pa_cons (pe_callB call_len_seq (by rfl) T.len PySem.boot_len (pa_cons (pv 2) pa_nil)) pa_nil))) (fun _ _ => rfl)) pa_nil)))
      (pss_cons (ps_for PassesOwn.never rfl (pi_range1 rfl T.range (pa_cons (pv 3) pa_nil)) (pg_name (i := 5) scLWay.nd rfl (.inl rfl))
        (pss_cons (ps_set (i := 6) scLWay.nd rfl (.inl rfl) (pe_op op_cat (pe_lst (pa_cons (pe_ix ix_list (pv 4) (pe_un un_neg pe_int) (fun _ _ => rfl)) pa_nil)) (pe_call GN hr (by rfl) gN kN bN .nil pass0 (pa_cons (pv 1) (pa_cons (pe_ix ix_list (pv 4) (pe_un un_neg pe_int) (fun _ _ => rfl)) pa_nil)))))
        (pss_one (ps_expr (pe_bm PySem.F.plainAttrs_list PySem.F.slot_list_append PySem.F.type_list_append mt_append (pv 4) (pa_cons (pe_ix ix_list (pv 6) (pe_call GT hr (by rfl) gT kT bT .nil pass0 (pa_cons (pv 0) (pa_cons (pe_callB call_len_seq (by rfl) T.len PySem.boot_len (pa_cons (pv 6) pa_nil)) pa_nil))) (fun _ _ => rfl)) pa_nil))))))
      (pss_one (ps_ret (pv 4)))), ?_⟩
    have hfl : (first.map V.int).length = first.length := List.length_map ..
    have ng : ∀ {xs : List Int} {x : Int}, 0 ≤ x → x < ((xs.map V.int).length : Nat) → ∃ z, z ∈ xs ∧ atI (xs.map V.int) x = some (.int z) := fun {xs x} h0 h1 => by
      rw [List.length_map] at h1
      have hk : x.toNat < xs.length := by omega
      have := atI_nat (ints_at (List.getElem?_eq_getElem hk))
      rw [Int.toNat_of_nonneg h0] at this
      exact ⟨_, List.getElem_mem hk, this⟩
    refine ⟨_, rfl, _, rfl, _, rfl, l1, _, rfl, .inl (.inl (.inl hf)), st, _, rfl, by omega, by omega, hS, fun H1 x s1 hS1 x0 x1 => ?_⟩
    obtain ⟨z0, hz0, hat0⟩ := ng x0 x1
    have hf1 : IntsL H1 l1 first := hid_at s1 hf n2.symm
    have hD1 := hD.at s1 hS.notup n1.symm
    refine ⟨l1, _, x, .int z0, rfl, rfl, .inl (.inl hf1), hat0, Nat.le_of_ble_eq_true rfl, fun o no => ?_⟩
    have nso : st ≠ o := fun e => by
      obtain ⟨x, y, z, h⟩ := hS1
      rw [e, no] at h
      cases h
    have no' : hid st H o = none := s1.free no
    have s2 := same_upd (o := .lst [.int z0]) no
    have e2 : IntsL (upd H1 o (.lst [.int z0])) o [z0] := upd_same
    have hS2 := hS1.mono s2
    have hD2 := hD1.mono s2
    have sm2 := s1.trans s2
    dsimp only [gName]
    show tSeq _ _ _ _ (upd H1 o (.lst [.int z0]))
    generalize upd H1 o (.lst [.int z0]) = H2 at s2 e2 hS2 hD2 sm2
    refine ⟨_, rfl, tm, rfl, by omega, by omega, ?_⟩
    refine for_range (lo := 0) (n := tm) (fun i σ H' => ∃ (y5 y6 : Option V) (xs : List Int), σ = [some (.ref st), some (.ref ld), some (.ref l1), some (.int tm), some (.ref o), y5, y6] ∧ Same (hid st H) H' ∧ StateAt H' st ∧ PairsL H' ld ds ∧ IntsL H' o xs ∧ xs.length = i + 1 ∧ (∀ x, xs[0]? = some x → x ∈ first) ∧ (∀ (k : Nat) a b, xs[k]? = some a → xs[k + 1]? = some b → PM.Step ds a b))
      ⟨_, _, [z0], rfl, sm2, hS2, hD2, e2, rfl, fun x h => by simp at h; subst h; exact hz0, fun k a b h1 h2 => by simp at h2⟩ ?_ ?_
    · rintro i σ H3 hi ⟨y5, y6, xs, rfl, sm3, hS3, hD3, e3, xl, x0', xst⟩
      have hlast := List.getElem?_eq_getElem (show i < xs.length by omega)
      have hneg : atI (xs.map V.int) (-1) = some (.int xs[i]) := atI_neg1 (ints_at hlast) (by rw [List.length_map]; exact xl)
      generalize xs[i] = a at hlast hneg
      have eL3 : ∀ {K : PySem.W.Frag} {H'}, Same H3 H' → SqL K H' o (xs.map V.int) := fun {_ _} s => .inl (.inl (s _ _ e3))
      refine ⟨_, rfl, _, rfl, o, _, -1, .int a, rfl, rfl, eL3 (Same.refl _), hneg, Nat.le_of_ble_eq_true rfl, fun b nb => ?_⟩
      have s4 := same_upd (o := .lst [.int a]) nb
      have e4 : upd H3 b (.lst [.int a]) b = some (.lst [.int a]) := upd_same
      dsimp only
      generalize upd H3 b (.lst [.int a]) = H4 at s4 e4
      refine ⟨_, rfl, _, rfl, _, rfl, o, _, -1, .int a, rfl, rfl, eL3 s4, hneg, ld, a, ds, rfl, hD3.mono s4, few, fun H5 p ns s5 np hp hns hln => ?_⟩
      refine ⟨b, p, [.int a], ns.map V.int, rfl, rfl, s5 _ _ e4, hp, line64 (by rw [List.length_map]; show 1 + ns.length ≤ _; omega), fun c nc => ?_⟩
      have s6 : Same H5 (upd H5 c (.lst ([.int a] ++ ns.map V.int))) := same_upd nc
      have e6 : IntsL (upd H5 c (.lst ([.int a] ++ ns.map V.int))) c (a :: ns) := upd_same
      have s36 := (s4.trans s5).trans s6
      have hS6 := hS3.mono s36
      have ncs : c ≠ st := fun e => by
        obtain ⟨x, y, z, h⟩ := hS3.mono (s4.trans s5)
        rw [e, h] at nc
        cases nc
      dsimp only [gName]
      show tDrop _ _ _ (upd H5 c (.lst ([.int a] ++ ns.map V.int)))
      generalize upd H5 c (.lst ([.int a] ++ ns.map V.int)) = H6 at s6 e6 s36 hS6
      have e6o : IntsL H6 o xs := e3.mono s36
      have ml : ((a :: ns).map V.int).length = ns.length + 1 := by rw [List.length_map, List.length_cons]
      refine ⟨_, rfl, .inl ⟨rfl, _, .inl (.inl e6o)⟩, _, rfl, _, rfl, _, rfl, c, _, rfl, .inl (.inl (.inl e6)), st, _, rfl, by omega, by omega, hS6, fun H7 x s7 hS7 x0 x1 => ?_⟩
      obtain ⟨z, hz, hat⟩ := ng x0 x1
      have e7 : IntsL H7 c (a :: ns) := hid_at s7 e6 ncs
      have e7o : IntsL H7 o xs := hid_at s7 e6o nso.symm
      have hD7 := (hD3.mono s36).at s7 hS6.notup n1.symm
      refine ⟨c, _, x, .int z, rfl, rfl, .inl (.inl e7), hat, o, _, _, rfl, rfl, e7o, line63 (by rw [List.length_map]; omega), _, _, xs ++ [z], rfl, same_updM (hid_trans (sm3.trans s36) s7) no', StateAt_upd hS7 nso, ?_, ints_push, by rw [List.length_append, xl]; rfl, fun x h => ?_, fun k a' b' h1 h2 => ?_⟩
      · have hol : o ≠ ld := fun e => by
          obtain ⟨vs, h, _⟩ := hD1
          rw [← e, no] at h
          cases h
        exact hD7.at hid_upd (lst_notup e7o) hol.symm
      · rw [List.getElem?_append_left (by omega)] at h
        exact x0' x h
      · by_cases hk : k + 1 < xs.length
        · rw [List.getElem?_append_left (by omega)] at h1
          rw [List.getElem?_append_left hk] at h2
          exact xst k a' b' h1 h2
        · have hk2 := (List.getElem?_eq_some_iff.mp h2).1
          rw [List.length_append, List.length_singleton] at hk2
          have ek : k = i := by omega
          subst ek
          rw [List.getElem?_append_left (by omega), hlast] at h1
          rw [List.getElem?_append_right (by omega), show k + 1 - xs.length = 0 by omega] at h2
          simp at h1 h2
          subst h1; subst h2
          rcases List.mem_cons.mp hz with e | h
          · exact .inl e
          · exact .inr ((hns _).mp h)
    · rintro σ H3 ⟨y5, y6, xs, rfl, sm3, hS3, hD3, e3, xl, x0', xst⟩
      exact ⟨_, rfl, q H3 o xs sm3 hS3 e3 xl x0' xst⟩
end
end PW
set_option Elab.async false
set_option linter.all false
set_option maxRecDepth 100000
set_option maxHeartbeats 4000000
namespace PW
open PySem PySem.Spec PyProof.Rows L2 PMD
/-! ### the law's questions -/
abbrev sLStart : Stmt := topS 50
theorem scLStart : FnScope ["script", "state", "rooms", "doors", "room", "many", "first", "wanted"] ["script"] (defScope sLStart) := ⟨rfl, rfl, rfl, by decide +kernel, rfl, by decide +kernel, by decide +kernel⟩
def spLStart (K : PySem.W.Frag) : Sp := fun vs H Q _ => ∃ (a : Addr) (ns : List Int), vs = [.ref a] ∧ SqL K H a (ns.map V.int) ∧
  ∀ H' p l l1 l2 st rooms ds first wanted (T : Nat), Same H H' → H' p = some (.tup [.int rooms, .ref l, .ref l1, .ref l2, .int T, .ref st]) → PairsL H' l ds → ds.Pairwise lexLt → ds.length ≤ 64 → IntsL H' l1 first → IntsL H' l2 wanted → PM.Ask rooms ds first wanted T → StateAt H' st → st ≠ l → st ≠ l1 → st ≠ l2 → Q (.ref p) H'
theorem sql_mono {K : PySem.W.Frag} {H H' : Hp} {a : Addr} {xs : List V} (s : Same H H') (h : SqL K H a xs) : SqL K H' a xs := by
  rcases h with (h | ⟨o, h⟩) | h
  · exact .inl (.inl (s _ _ h))
  · exact .inl (.inr ⟨o, s _ _ h⟩)
  · exact .inr h
theorem cut_take' {xs : List V} {k : Nat} : cutV xs none (some (k : Int)) = xs.take k := by
  unfold cutV
  rw [HT.sIx_none, HT.sIx_nat, List.drop_zero, Nat.sub_zero]
  by_cases h : k ≤ xs.length
  · rw [Nat.min_eq_left h]
  · rw [Nat.min_eq_right (by omega), List.take_of_length_le (Nat.le_refl _), List.take_of_length_le (by omega)]
theorem paired_take {α β : Type} {R : α → β → Prop} : ∀ (n : Nat) {l : List α} {m : List β}, Paired R l m → Paired R (l.take n) (m.take n)
  | 0, _, _, _ => .nil
  | n + 1, _, _, .nil => .nil
  | n + 1, _, _, .cons r t => .cons r (paired_take n t)
structure LD (H : Hp) (l : Addr) (rooms : Int) (ds : List (Int × Int)) : Prop where
  at_ : PairsL H l ds
  ok : PM.Doors rooms ds
  rise : ds.Pairwise lexLt
  few : ds.length ≤ 64
theorem LD.at {H H' : Hp} {a l : Addr} {rooms : Int} {ds : List (Int × Int)} (s : Same (hid a H) H') (ha : ∀ ys, H a ≠ some (.tup ys)) (hl : l ≠ a) (h : LD H l rooms ds) : LD H' l rooms ds := ⟨h.at_.at s ha hl, h.ok, h.rise, h.few⟩
theorem LD.mono {H H' : Hp} {l : Addr} {rooms : Int} {ds : List (Int × Int)} (s : Same H H') (h : LD H l rooms ds) : LD H' l rooms ds := ⟨h.at_.mono s, h.ok, h.rise, h.few⟩
theorem state_ne {H : Hp} {st p : Addr} (hS : StateAt H st) (np : H p = none) : st ≠ p := fun e => by
  obtain ⟨x, y, z, h⟩ := hS
  rw [e, np] at h
  cases h
section
variable {P : Program} {w : World} {K : PySem.W.Frag} {mg : Str → Option Value} {base : Heap}
theorem ok_lstart {f fB fT fD fR C : Addr} {fd fdB fdT fdD fdR : FuncData} (F : Fun K "_law_start" "_law_start" sLStart f fd) (T : Txt K mg C) (GB : FnOk P w K mg base CX0 2 fB fdB ["script", "k"] (spBegin K)) (kB : PySem.W.keepIn K (.ref fB) = true) (bB : Binds K fdB ["script", "k"] []) (gB : mg "_law_begin" = some (.ref fB))
    (GT : FnOk P w K mg base CX0 1 fT fdT ["state", "many"] spTake) (kT : PySem.W.keepIn K (.ref fT) = true) (bT : Binds K fdT ["state", "many"] []) (gT : mg "_law_take" = some (.ref fT))
    (GD : FnOk P w K mg base CX0 2 fD fdD ["state", "rooms"] spLDoors) (kD : PySem.W.keepIn K (.ref fD) = true) (bD : Binds K fdD ["state", "rooms"] []) (gD : mg "_law_doors" = some (.ref fD))
    (GR : FnOk P w K mg base CX0 2 fR fdR ["state", "rooms", "many"] spLRooms) (kR : PySem.W.keepIn K (.ref fR) = true) (bR : Binds K fdR ["state", "rooms", "many"] []) (gR : mg "_law_rooms" = some (.ref fR)) :
    FnOk P w K mg base CX0 3 f fd ["script"] (spLStart K) := by
  refine F.ok scLStart (fun vs H Q E h => ?_) (fun cdv A outer s H vs Q E hr h => ?_)
  · obtain ⟨a, ns, rfl, _⟩ := h
    rfl
  · obtain ⟨a, ns, rfl, hL, q⟩ := h
    have hr1 := hr.mono (show 1 ≤ 2 by decide)
    refine ⟨_, pss_cons (ps_set (i := 1) scLStart.nd rfl (.inl rfl) (pe_call GB hr (by rfl) gB kB bB .nil pass0 (pa_cons (pv 0) (pa_cons pe_int pa_nil))))
      (pss_cons (ps_set (i := 2) scLStart.nd rfl (.inl rfl) (pe_op op_add pe_int (pe_call GT hr1 (by rfl) gT kT bT .nil pass0 (pa_cons (pv 1) (pa_cons pe_int pa_nil)))))
      (pss_cons (ps_set (i := 3) scLStart.nd rfl (.inl rfl) (pe_call GD hr (by rfl) gD kD bD .nil pass0 (pa_cons (pv 1) (pa_cons (pv 2) pa_nil))))
      (Evl.pss_cut (ps_if (pt_cmpR op_eq (pe_call GT hr1 (by rfl) gT kT bT .nil pass0 (pa_cons (pv 1) (pa_cons pe_int pa_nil))) pe_int (nomark _))
          (pss_cons (ps_set (i := 2) scLStart.nd rfl (.inl rfl) (pe_op op_add pe_int (pe_call GT hr1 (by rfl) gT kT bT .nil pass0 (pa_cons (pv 1) (pa_cons pe_int pa_nil)))))
          (pss_one (ps_set (i := 3) scLStart.nd rfl (.inl rfl) (pe_slice sl_list (pe_call GD hr (by rfl) gD kD bD .nil pass0 (pa_cons (pv 1) (pa_cons (pv 2) pa_nil))) po_none (po_some (pe_op op_add (pv 2) pe_int)))))) pss_nil)
      (Evl.pss_cut (ps_if (pt_cmpR op_eq (pe_call GT hr1 (by rfl) gT kT bT .nil pass0 (pa_cons (pv 1) (pa_cons pe_int pa_nil))) pe_int (nomark _))
          (pss_one (ps_setLc (i := 3) (own := [("room", 4)]) (g := gName 4) (tt := tYes) rfl scLStart.nd rfl rfl (by rfl) (pi_range1 rfl T.range (pa_cons (pe_op op_sub (pv 2) pe_int) pa_nil)) (blkOk_by (N := ["script", "state", "rooms", "doors", "room", "many", "first", "wanted"]) (sc := defScope sLStart) (by decide +kernel))
            (fun _ _ _ _ _ => pg_name (i := 4) scLStart.nd rfl (Or.inl rfl)) (fun _ _ _ _ _ => pts_nil) (fun _ _ _ _ _ => pe_tup (pa_cons (pv 4) (pa_cons (pe_op op_add (pv 4) pe_int) pa_nil))))) pss_nil)
      (pss_cons (ps_set (i := 1) scLStart.nd rfl (.inl rfl) (pe_call GB hr (by rfl) gB kB bB .nil pass0 (pa_cons (pv 0) (pa_cons pe_int pa_nil))))
      (pss_cons (ps_set (i := 5) scLStart.nd rfl (.inl rfl) (pe_op op_add pe_int (pe_call GT hr1 (by rfl) gT kT bT .nil pass0 (pa_cons (pv 1) (pa_cons (pe_callB (call_min2 rfl) (by rfl) T.min (by decide +kernel) (pa_cons (pe_ix ix_list (pe_lst (pa_cons pe_int (pa_cons pe_int pa_nil))) (pe_callTy call_int1 (by rfl) T.int (by decide +kernel) (pa_cons (pe_cmpR op_gt (pv 2) pe_int (nomark _)) pa_nil)) (fun _ _ => rfl)) (pa_cons (pv 2) pa_nil))) pa_nil)))))
      (pss_cons (ps_par (i := 6) (j := 7) rfl scLStart.nd rfl rfl (by decide) rfl rfl (pa_cons (pe_call GR hr (by rfl) gR kR bR .nil pass0 (pa_cons (pv 1) (pa_cons (pv 2) (pa_cons (pv 5) pa_nil)))) (pa_cons (pe_call GR hr (by rfl) gR kR bR .nil pass0 (pa_cons (pv 1) (pa_cons (pv 2) (pa_cons (pv 5) pa_nil)))) pa_nil)) (by rfl))
      (pss_one (ps_ret (pe_tup (pa_cons (pv 2) (pa_cons (pv 3) (pa_cons (pv 6) (pa_cons (pv 7) (pa_cons (pe_call GT hr1 (by rfl) gT kT bT .nil pass0 (pa_cons (pv 1) (pa_cons pe_int pa_nil))) (pa_cons (pv 1) pa_nil)))))))))))))))), ?_⟩
    refine ⟨_, rfl, a, ns, 0, rfl, hL, Int.le_refl _, fun H1 st s1 np hS1 => ?_⟩
    refine ⟨_, rfl, st, 5, rfl, by omega, by omega, hS1, fun H2 x s2 hS2 x0 x1 => ⟨2, x, rfl, rfl, ?_⟩⟩
    have sm2 := same_mut s1 np s2
    dsimp only [gName]
    refine ⟨_, rfl, _, rfl, st, 2 + x, rfl, by omega, by omega, hS2, fun H3 l ds s3 hS3 nl nls hP D2 rise few => ?_⟩
    have sm3 := same_mut sm2 np s3
    dsimp only [gName]
    refine ⟨fun σ' H' => ∃ (rooms : Int) (l : Addr) (ds : List (Int × Int)), σ' = [some (.ref a), some (.ref st), some (.int rooms), some (.ref l), none, none, none, none] ∧ Same H H' ∧ StateAt H' st ∧ LD H' l rooms ds ∧ l ≠ st ∧ 2 ≤ rooms ∧ rooms ≤ 8, ?_, ?_⟩
    · refine ⟨_, rfl, st, 6, rfl, by omega, by omega, hS3, fun H4 y s4 hS4 y0 y1 => ⟨rfl, _, rfl, ite2 (fun _ => ?_) (fun _ => ?_)⟩⟩
      · have sm4 := same_mut sm3 np s4
        refine ⟨_, rfl, st, 2, rfl, by omega, by omega, hS4, fun H5 z s5 hS5 z0 z1 => ⟨7, z, rfl, rfl, ?_⟩⟩
        have sm5 := same_mut sm4 np s5
        dsimp only [gName]
        refine ⟨_, rfl, _, rfl, st, 7 + z, rfl, by omega, by omega, hS5, fun H6 l6 ds6 s6 hS6 nl6 nls6 ⟨vs6, hl6, hp6⟩ D6 rise6 few6 => ?_⟩
        have sm6 := same_mut sm5 np s6
        obtain ⟨k, hk⟩ : ∃ k : Nat, 7 + z + 2 = (k : Int) := ⟨(7 + z + 2).toNat, by omega⟩
        refine ⟨_, rfl, 7 + z, 2, rfl, rfl, (k : Int), by rw [← hk], l6, vs6, rfl, .inl (.inl hl6), fun p np6 => ?_⟩
        rw [cut_take']
        have s7 := same_upd (o := .lst (vs6.take k)) np6
        refine ⟨7 + z, p, ds6.take k, rfl, sm6.trans s7, hS6.mono s7, ⟨⟨_, upd_same, paired_mono (paired_take k hp6) fun _ _ r => isP_mono (tups_of s7) r⟩, ⟨D6.lo, D6.hi, fun a b h => D6.ok a b (List.mem_of_mem_take h)⟩, rise6.sublist (List.take_sublist _ _), ?_⟩, (state_ne hS6 np6).symm, by omega, by omega⟩
        rw [List.length_take]
        omega
      · have sm4 := same_mut sm3 np s4
        exact ⟨2 + x, l, ds, rfl, sm4, hS4, LD.at s4 hS3.notup nls ⟨hP, D2, rise, few⟩, nls, by omega, by omega⟩
    · rintro σ4 H4 ⟨rooms, l, ds, rfl, sm4, hS4, hD4, nl4, r2, r8⟩
      refine ⟨fun σ' H' => ∃ (l : Addr) (ds : List (Int × Int)), σ' = [some (.ref a), some (.ref st), some (.int rooms), some (.ref l), none, none, none, none] ∧ Same H H' ∧ LD H' l rooms ds, ?_, ?_⟩
      · refine ⟨_, rfl, st, 4, rfl, by omega, by omega, hS4, fun H5 y s5 hS5 y0 y1 => ⟨rfl, _, rfl, ite2 (fun _ => ?_) (fun _ => ⟨l, ds, rfl, same_mut sm4 np s5, hD4.at s5 hS4.notup nl4⟩)⟩⟩
        have sm5 := same_mut sm4 np s5
        refine ⟨_, rfl, rooms, 1, rfl, rfl, rooms - 1, rfl, by omega, by omega, fun D hD => ?_⟩
        refine lcf (R := fun H (p : Int × Int) v => IsP H v p) (n := (rooms - 1).toNat) walk_range (fun i => some ((i : Int), (i : Int) + 1)) (fun _ _ _ _ y => y.1) hD (by omega) (fun _ _ => True.intro) (fun _ _ _ _ s hn h => isP_mono (tups_hid s hn) h) (fun i x H6 Q6 N hi s6 _ y q6 _ => ?_) (fun H6 us s6 eD p6 => ?_)
        · obtain ⟨_, rfl⟩ := y
          refine ⟨rfl, ?_⟩
          refine ⟨_, rfl, _, rfl, 0 + (i : Int), 1, rfl, rfl, Nat.le_of_ble_eq_true rfl, fun t ht => ?_⟩
          refine q6 _ rfl _ _ (same_upd ht) ⟨t, rfl, ?_⟩
          rw [upd_same]
          show some (HO.tup [V.int (0 + (i : Int)), V.int (0 + (i : Int) + 1)]) = some (HO.tup [V.int (i : Int), V.int ((i : Int) + 1)])
          rw [Int.zero_add]
        · have e : (List.range (rooms - 1).toNat).filterMap (fun i => some (((i : Nat) : Int), (i : Int) + 1)) = (List.range (rooms - 1).toNat).map fun i => (((i : Nat) : Int), (i : Int) + 1) := fm_some _ _
          rw [e] at p6
          refine ⟨D, _, rfl, sm5.trans s6, ⟨⟨us, eD, p6⟩, ⟨by omega, r8, fun a b h => ?_⟩, ?_, ?_⟩⟩
          · obtain ⟨i, hi, e2⟩ := List.mem_map.mp h
            injection e2 with e2 e3
            have := List.mem_range.mp hi
            omega
          · refine List.pairwise_map.mpr (List.pairwise_lt_range.imp fun {i j} h => .inl ?_)
            show (i : Int) < (j : Int)
            omega
          · rw [List.length_map, List.length_range]
            omega
      · rintro σ5 H5 ⟨l, ds, rfl, sm5, hD5⟩
        refine ⟨_, rfl, a, ns, 1, rfl, sql_mono sm5 hL, by omega, fun H6 st2 s6 np6 hS6 => ?_⟩
        have sm6 := sm5.trans s6
        have nst2 : H st2 = none := sm5.free np6
        have hl5 : l ≠ st2 := by
          obtain ⟨vs, h, _⟩ := hD5.at_
          exact ne_of_none h np6
        have hD6 := hD5.mono s6
        dsimp only [gName]
        refine ⟨_, rfl, Nat.le_of_ble_eq_true rfl, fun o no => ?_⟩
        have s7 := same_upd (o := .lst [.int 3, .int 4]) no
        have e7 : upd H6 o (.lst [.int 3, .int 4]) o = some (.lst [.int 3, .int 4]) := upd_same
        have hS7 := hS6.mono s7
        have hD7 := hD6.mono s7
        have sm7 := sm6.trans s7
        dsimp only
        generalize upd H6 o (.lst [.int 3, .int 4]) = H7 at s7 e7 hS7 hD7 sm7
        obtain ⟨v, i, v3, v4, hat⟩ : ∃ v : Int, ∃ _ : True, 3 ≤ v ∧ v ≤ 4 ∧ atI [V.int 3, .int 4] (if decide (6 < rooms) = true then 1 else 0) = some (.int v) := by
          by_cases h : 6 < rooms
          · exact ⟨4, True.intro, by omega, by omega, by rw [if_pos (decide_eq_true h)]; exact atI_nat (j := 1) rfl⟩
          · exact ⟨3, True.intro, by omega, by omega, by rw [if_neg (by rw [decide_eq_false h]; decide)]; exact atI_nat (j := 0) rfl⟩
        refine ⟨_, rfl, rooms, 6, rfl, rfl, .inr ⟨_, rfl, ?_⟩⟩
        refine ⟨o, _, _, .int v, rfl, rfl, .inl (.inl e7), hat, _, rfl, v, rooms, rfl, ?_⟩
        obtain ⟨mm, hmm, m1, m2, m3⟩ : ∃ mm : Int, (if rooms < v then rooms else v) = mm ∧ 2 ≤ mm ∧ mm ≤ 4 ∧ mm ≤ rooms := by
          by_cases h : rooms < v
          · exact ⟨rooms, if_pos h, by omega, by omega, by omega⟩
          · exact ⟨v, if_neg h, by omega, by omega, by omega⟩
        rw [hmm]
        refine ⟨st2, mm, rfl, by omega, by omega, hS7, fun H8 y s8 hS8 y0 y1 => ⟨1, y, rfl, rfl, ?_⟩⟩
        have hD8 := hD7.at s8 hS7.notup hl5
        have sm8 := same_mut sm7 nst2 s8
        dsimp only [gName]
        refine ⟨_, rfl, _, rfl, _, rfl, st2, rooms, 1 + y, rfl, by omega, by omega, by omega, r8, hS8, fun H9 p1 first s9 hS9 np1 hI1 hR1 len1 => ?_⟩
        have hD9 := hD8.at s9 hS8.notup hl5
        have sm9 := same_mut sm8 nst2 s9
        have n1 := state_ne hS8 np1
        refine ⟨_, rfl, _, rfl, _, rfl, st2, rooms, 1 + y, rfl, by omega, by omega, by omega, r8, hS9, fun H10 p2 wanted s10 hS10 np2 hI2 hR2 len2 => ?_⟩
        have hD10 := hD9.at s10 hS9.notup hl5
        have sm10 := same_mut sm9 nst2 s10
        have n2 := state_ne hS9 np2
        have hI1' : IntsL H10 p1 first := hid_at s10 hI1 n1.symm
        refine ⟨_, _, rfl, ?_⟩
        refine ⟨_, rfl, _, rfl, _, rfl, _, rfl, _, rfl, st2, 9, rfl, by omega, by omega, hS10, fun H11 t s11 hS11 t0 t1 => ?_⟩
        have hD11 := hD10.at s11 hS10.notup hl5
        have sm11 := same_mut sm10 nst2 s11
        have hI11 : IntsL H11 p1 first := hid_at s11 hI1' n1.symm
        have hI12 : IntsL H11 p2 wanted := hid_at s11 hI2 n2.symm
        obtain ⟨tm, rfl⟩ : ∃ tm : Nat, t = (tm : Int) := ⟨t.toNat, by omega⟩
        refine ⟨_, rfl, Nat.le_of_ble_eq_true rfl, fun p np => ?_⟩
        have s12 := same_upd (o := .tup [.int rooms, .ref l, .ref p1, .ref p2, .int tm, .ref st2]) np
        have hD12 := hD11.mono s12
        exact q _ p l p1 p2 st2 rooms ds first wanted tm (sm11.trans s12) upd_same hD12.at_ hD12.rise hD12.few (hI11.mono s12) (hI12.mono s12) ⟨hD12.ok, hR1, hR2, by omega, by omega⟩ (hS11.mono s12) hl5.symm n1 n2
end
end PW
set_option Elab.async false
set_option linter.all false
set_option maxRecDepth 100000
set_option maxHeartbeats 4000000
namespace PW
open PySem PySem.Spec PyProof.Rows L2 PMD
/-! ### the least time of a plan -/
abbrev sSoon : Stmt := topS 36
theorem scSoon : FnScope ["floor", "first", "wanted", "time", "told"] ["floor", "first", "wanted"] (defScope sSoon) := ⟨rfl, rfl, rfl, by decide +kernel, rfl, by decide +kernel, by decide +kernel⟩
abbrev sLSoon : Stmt := topS 51
theorem scLSoon : FnScope ["floor", "first", "wanted", "found"] ["floor", "first", "wanted"] (defScope sLSoon) := ⟨rfl, rfl, rfl, by decide +kernel, rfl, by decide +kernel, by decide +kernel⟩
structure TxtN (K : PySem.W.Frag) (mg : Str → Option Value) (CN : Addr) : Prop where
  gF : mg "NoWay" = some (.ref CN)
  xF : PySem.W.excIn K CN [.type "ValueError", .type "Exception", .type "BaseException", .type "object"] "ValueError.__new__" = true
  kF : PySem.W.keepIn K (.ref CN) = true
  bF : PySem.W.subIn K (.ref CN) (.type "BaseException") = some true
  tF : PySem.W.typeIn K (.ref CN) = some (.type "type")
  eF : PySem.W.exmOne K (.ref CN) (.ref CN) = some true
def CutAt (rooms : Int) (ds : List (Int × Int)) (first wanted : List Int) (t : Nat) : Prop := ∃ cs, PM.IsCut rooms ds first wanted t cs
def spSoon (C CN : Addr) : Sp := fun vs H Q E => ∃ (f l1 l2 : Addr) (rooms : Int) (ds : List (Int × Int)) (first wanted : List Int), vs = [.ref f, .ref l1, .ref l2] ∧ AskAt C H f l1 l2 rooms ds first wanted ∧ PM.Ask rooms ds first wanted 0 ∧
  (∀ H' p t l ps, Same H H' → (t : Nat) ≤ 8 → H' p = some (.tup [.int t, .ref l]) → PM.IsPlan rooms ds first wanted t ps → (∀ t', t' < t → CutAt rooms ds first wanted t') → Q (.ref p) H') ∧
  (∀ H', Same H H' → (∀ t, t ≤ 8 → CutAt rooms ds first wanted t) → E (.ref CN) none H')
def spLSoon (C : Addr) : Sp := fun vs H Q _ => ∃ (f l1 l2 : Addr) (rooms : Int) (ds : List (Int × Int)) (first wanted : List Int), vs = [.ref f, .ref l1, .ref l2] ∧ AskAt C H f l1 l2 rooms ds first wanted ∧ PM.Ask rooms ds first wanted 0 ∧
  ∀ H' s, Same H H' → ((s = 99 ∧ ∀ t, t ≤ 8 → CutAt rooms ds first wanted t) ∨ ∃ t : Nat, s = (t : Int) ∧ t ≤ 8 ∧ (∃ ps, PM.IsPlan rooms ds first wanted t ps) ∧ ∀ t', t' < t → CutAt rooms ds first wanted t') → Q (.int s) H'
theorem ask_at {rooms : Int} {ds : List (Int × Int)} {first wanted : List Int} {T : Nat} (A : PM.Ask rooms ds first wanted T) {t : Nat} (h : t ≤ 8) : PM.Ask rooms ds first wanted t := ⟨A.ds, A.fi, A.wa, A.le, h⟩
theorem tag_ne : ¬ (V.str sCut = V.str (Str.ofString "plan")) := fun e => absurd (V.str.inj e) (by decide +kernel)
section
variable {P : Program} {w : World} {K : PySem.W.Frag} {mg : Str → Option Value} {base : Heap}
theorem ok_soon {f fR fA C CN : Addr} {fd fdR fdA : FuncData} (F : Fun K "soonest_alike" "soonest_alike" sSoon f fd) (T : Txt K mg C) (N : TxtN K mg CN)
    (GR : FnOk P w K mg base CX0 2 fR fdR ["floor", "first", "wanted"] (spCheckRooms C)) (kR : PySem.W.keepIn K (.ref fR) = true) (bR : Binds K fdR ["floor", "first", "wanted"] []) (gR : mg "check_rooms" = some (.ref fR))
    (GA : FnOk P w K mg base CX0 35 fA fdA ["floor", "first", "wanted", "time"] (spAlike C)) (kA : PySem.W.keepIn K (.ref fA) = true) (bA : Binds K fdA ["floor", "first", "wanted", "time"] []) (gA : mg "alike" = some (.ref fA)) :
    FnOk P w K mg base (L2.CX P w) 36 f fd ["floor", "first", "wanted"] (spSoon C CN) := by
  refine F.okX scSoon (fun vs H Q E h => ?_) (fun cdv A outer s H vs Q E hr h => ?_)
  · obtain ⟨f, l1, l2, rooms, ds, first, wanted, rfl, _⟩ := h
    rfl
  · obtain ⟨f, l1, l2, rooms, ds, first, wanted, rfl, hA, A2, qP, qE⟩ := h
    have hr2 := hr.mono (show 2 ≤ 35 by decide)
    obtain ⟨t8, h8⟩ := T.time
    refine ⟨_, pss_cons (ps_expr (pe_call GR hr2 (by rfl) gR kR bR .nil pass0 (pa_cons (pv 0) (pa_cons (pv 1) (pa_cons (pv 2) pa_nil)))))
      (pss_cons (ps_for (passes_of rfl) rfl (pi_range1 rfl T.range (pa_cons (pe_op op_add (pe_glob (v := .int 8) (by rfl) h8 ⟨t8, rfl⟩) pe_int) pa_nil)) (pg_name (i := 3) scSoon.nd rfl (.inl rfl))
        (pss_cons (ps_set (i := 4) scSoon.nd rfl (.inl rfl) (pe_call GA hr (by rfl) gA kA bA .nil pass0 (pa_cons (pv 0) (pa_cons (pv 1) (pa_cons (pv 2) (pa_cons (pv 3) pa_nil))))))
        (pss_one (ps_if (pt_cmpR op_eq (pe_ix ix_tup (pv 4) pe_int (fun _ _ => rfl)) pe_str (nomark _)) (pss_one (ps_ret (pe_tup (pa_cons (pv 3) (pa_cons (pe_ix ix_tup (pv 4) pe_int (fun _ _ => rfl)) pa_nil))))) pss_nil))))
      (pss_one (ps_raise rfl (takes_of rfl rfl rfl rfl) (pmk_own PySem.F.excBase_ValueError N.xF N.gF N.kF (raises_own N.bF N.tF) (by exact rfl))))), ?_⟩
    refine ⟨_, rfl, _, rfl, _, rfl, f, l1, l2, rooms, ds, first, wanted, rfl, hA.fl, hA.fi, hA.wa, A2.fi, A2.wa, A2.le, fun H1 s1 => ?_⟩
    refine ⟨8, 1, rfl, rfl, 9, rfl, by decide, by decide, ?_⟩
    refine for_range (lo := 0) (n := 9) (fun i σ H' => ∃ y3 y4, σ = [some (.ref f), some (.ref l1), some (.ref l2), y3, y4] ∧ Same H H' ∧ ∀ t, t < i → CutAt rooms ds first wanted t) ⟨_, _, rfl, s1, fun t h => absurd h (Nat.not_lt_zero _)⟩ ?_ ?_
    · rintro i σ H2 hi ⟨y3, y4, rfl, sm, hc⟩
      rw [Int.zero_add]
      refine ⟨_, rfl, _, rfl, _, rfl, _, rfl, f, l1, l2, rooms, ds, first, wanted, i, rfl, hA.mono sm, ask_at A2 (by omega), fun H3 p s3 pa => ?_⟩
      have sm3 := sm.trans s3
      cases pa with
      | plan l ps h1 h2 h3 =>
        have ht : ∀ {K : PySem.W.Frag}, SqT K H3 p [.str sPlan, .ref l] := .inl (.inl h1)
        refine ⟨_, rfl, p, _, 0, .str sPlan, rfl, rfl, ht, rfl, rfl, _, rfl, ite2 (fun _ => ?_) (fun h => absurd (decide_eq_true rfl) h)⟩
        refine ⟨_, rfl, _, rfl, p, _, 1, .ref l, rfl, rfl, ht, rfl, Nat.le_of_ble_eq_true rfl, fun t nt => ?_⟩
        exact qP _ t i l ps (sm3.trans (same_upd nt)) (by omega) upd_same h3 hc
      | cut l cs h1 h2 h3 =>
        have ht : ∀ {K : PySem.W.Frag}, SqT K H3 p [.str sCut, .ref l] := .inl (.inl h1)
        refine ⟨_, rfl, p, _, 0, .str sCut, rfl, rfl, ht, rfl, rfl, _, rfl, ite2 (fun h => absurd (of_decide_eq_true h) tag_ne) (fun _ => ?_)⟩
        refine ⟨_, _, rfl, sm3, fun t ht => ?_⟩
        by_cases e : t = i
        · subst e
          exact ⟨cs, h3⟩
        · exact hc t (by omega)
    · rintro σ H2 ⟨y3, y4, rfl, sm, hc⟩
      exact qE H2 sm fun t ht => hc t (by omega)
theorem ok_lsoon {f fS C CN : Addr} {fd fdS : FuncData} (F : Fun K "_law_soonest" "_law_soonest" sLSoon f fd) (T : Txt K mg C) (N : TxtN K mg CN)
    (GS : FnOk P w K mg base (L2.CX P w) 36 fS fdS ["floor", "first", "wanted"] (spSoon C CN)) (kS : PySem.W.keepIn K (.ref fS) = true) (bS : Binds K fdS ["floor", "first", "wanted"] []) (gS : mg "soonest_alike" = some (.ref fS)) :
    FnOk P w K mg base CX0 37 f fd ["floor", "first", "wanted"] (spLSoon C) := by
  refine F.ok scLSoon (fun vs H Q E h => ?_) (fun cdv A outer s H vs Q E hr h => ?_)
  · obtain ⟨f, l1, l2, rooms, ds, first, wanted, rfl, _⟩ := h
    rfl
  · obtain ⟨f, l1, l2, rooms, ds, first, wanted, rfl, hA, A2, q⟩ := h
    refine ⟨_, pss_cons (ps_set (i := 3) scLSoon.nd rfl (.inl rfl) pe_int)
      (pss_cons (ps_try_only (tb := fun W => tAsg (tOp (rIxT K) (tCallS (spSoon C CN) (WE W) (tCons (tVar 0) (tCons (tVar 1) (tCons (tVar 2) tNil)))) (tC (.int 0))) (gName 3)) (ts := fun _ _ _ => tAsg (tC (.int 99)) (gName 3)) (Wout := fun _ _ _ _ => False) rfl rfl ⟨rfl, by decide, Or.inl N.gF⟩ takes0
          (fun W pn xe tk _ => pss_one (ps_set (i := 3) scLSoon.nd rfl (.inl rfl) (pe_ix (ix_tupK K) (pe_callS GS hr (by rfl) gS kS bS (fun σ => passAt tk σ) (by exact (pa_cons (pv 0) (pa_cons (pv 1) (pa_cons (pv 2) pa_nil))))) pe_int (fun _ _ => rfl))))
          (fun _ _ _ _ _ _ _ => pss_one (ps_set (i := 3) scLSoon.nd rfl (.inl rfl) pe_int)))
      (pss_one (ps_ret (pv 3)))), ?_⟩
    refine ⟨_, rfl, _, rfl, _, rfl, f, l1, l2, rooms, ds, first, wanted, rfl, hA, A2, fun H' p t l ps sm t8 hp hpl hc => ?_, fun H' sm hc => ?_⟩
    · exact ⟨p, _, 0, .int t, rfl, rfl, .inl (.inl hp), rfl, _, rfl, q H' t sm (.inr ⟨t, rfl, t8, ⟨ps, hpl⟩, hc⟩)⟩
    · refine ⟨true, N.eF, fun _ a0 _ => ?_, fun z => Bool.noConfusion z⟩
      exact ⟨_, rfl, q H' 99 sm (.inl ⟨rfl, hc⟩)⟩
end
end PW
set_option Elab.async false
set_option linter.all false
set_option maxRecDepth 100000
set_option maxHeartbeats 4000000
namespace PW
open PySem PySem.Spec PyProof.Rows L2 PMD
/-! ### the law -/
abbrev sLaw : Stmt := topS 53
theorem scLaw : FnScope ["script", "rooms", "doors", "first", "wanted", "time", "state", "floor", "told", "more", "good", "turn", "way", "met", "room", "minute"] ["script"] (defScope sLaw) := ⟨rfl, rfl, rfl, by decide +kernel, rfl, by decide +kernel, by decide +kernel⟩
def spLaw (K : PySem.W.Frag) : Sp := fun vs H Q _ => ∃ (a : Addr) (ns : List Int), vs = [.ref a] ∧ SqL K H a (ns.map V.int) ∧ ∀ H', Q (.bl true) H'
theorem cut_tail {xs : List V} : cutV xs (some (-1)) none = xs.drop (xs.length - 1) := by
  unfold cutV
  rw [HT.sIx_none]
  have e : HT.sIx xs.length 0 (some (-1)) = xs.length - 1 := by
    unfold HT.sIx
    simp
    omega
  rw [e, List.take_of_length_le (by rw [List.length_drop]; exact Nat.le_refl _)]
theorem cut_first {xs : List V} : cutV xs none (some 1) = xs.take 1 := cut_take' (k := 1)
theorem pairs_ne {H : Hp} {l st : Addr} {cs : List (Int × Int)} (h : PairsL H l cs) (hS : StateAt H st) : l ≠ st := fun e => by
  obtain ⟨vs, hl, hp⟩ := h
  obtain ⟨x, y, z, hs⟩ := hS
  rw [e, hs] at hl
  cases hl
  cases hp with
  | cons r _ =>
    obtain ⟨t, e, _⟩ := r
    cases e
theorem drop_last {α : Type} {xs : List α} {n : Nat} {v : α} (h : xs[n]? = some v) (hl : xs.length = n + 1) : xs.drop (xs.length - 1) = [v] := by
  refine List.ext_getElem? fun i => ?_
  rw [List.getElem?_drop, hl]
  cases i with
  | zero => simpa using h
  | succ i =>
    rw [List.getElem?_eq_none (by omega)]
    simp
theorem take_one {α : Type} {xs : List α} {v : α} (h : xs[0]? = some v) : xs.take 1 = [v] := by
  cases xs with
  | nil => simp at h
  | cons a l => simp at h; subst h; rfl
section
variable {P : Program} {w : World} {K : PySem.W.Frag} {mg : Str → Option Value} {base : Heap}
theorem ok_law {f fQ fI fA fS fH fL fW C : Addr} {fd fdQ fdI fdA fdS fdH fdL fdW : FuncData} (F : Fun K "law" "law" sLaw f fd) (T : Txt K mg C) (M : Mk K C fI)
    (GQ : FnOk P w K mg base CX0 3 fQ fdQ ["script"] (spLStart K)) (kQ : PySem.W.keepIn K (.ref fQ) = true) (bQ : Binds K fdQ ["script"] []) (gQ : mg "_law_start" = some (.ref fQ))
    (GI : FnOk P w K mg base CX0 1 fI fdI ["self", "rooms", "doors"] (spInit C)) (bI : Binds K fdI ["self", "rooms", "doors"] [])
    (GA : FnOk P w K mg base CX0 35 fA fdA ["floor", "first", "wanted", "time"] (spAlike C)) (kA : PySem.W.keepIn K (.ref fA) = true) (bA : Binds K fdA ["floor", "first", "wanted", "time"] []) (gA : mg "alike" = some (.ref fA))
    (GS : FnOk P w K mg base CX0 37 fS fdS ["floor", "first", "wanted"] (spLSoon C)) (kS : PySem.W.keepIn K (.ref fS) = true) (bS : Binds K fdS ["floor", "first", "wanted"] []) (gS : mg "_law_soonest" = some (.ref fS))
    (GH : FnOk P w K mg base CX0 4 fH fdH ["floor", "first", "wanted", "time", "told"] (spHolds C)) (kH : PySem.W.keepIn K (.ref fH) = true) (bH : Binds K fdH ["floor", "first", "wanted", "time", "told"] []) (gH : mg "alike_holds" = some (.ref fH))
    (GL : FnOk P w K mg base CX0 5 fL fdL ["floor", "plan"] (spLooked C)) (kL : PySem.W.keepIn K (.ref fL) = true) (bL : Binds K fdL ["floor", "plan"] []) (gL : mg "looked" = some (.ref fL))
    (GW : FnOk P w K mg base CX0 2 fW fdW ["state", "doors", "first", "time"] spLWay) (kW : PySem.W.keepIn K (.ref fW) = true) (bW : Binds K fdW ["state", "doors", "first", "time"] []) (gW : mg "_law_way" = some (.ref fW)) :
    FnOk P w K mg base CX0 38 f fd ["script"] (spLaw K) := by
  refine F.ok scLaw (fun vs H Q E h => ?_) (fun cdv A outer s H vs Q E hr h => ?_)
  · obtain ⟨a, ns, rfl, _⟩ := h
    rfl
  · obtain ⟨a, ns, rfl, hL, q⟩ := h
    have hr2 := hr.mono (show 2 ≤ 37 by decide)
    have hr3 := hr.mono (show 3 ≤ 37 by decide)
    have hr4 := hr.mono (show 4 ≤ 37 by decide)
    have hr5 := hr.mono (show 5 ≤ 37 by decide)
    have hr35 := hr.mono (show 35 ≤ 37 by decide)
    refine ⟨_, pss_cons (ps_asg (pe_call GQ hr3 (by rfl) gQ kQ bQ .nil pass0 (pa_cons (pv 0) pa_nil)) (pg_tup rfl (pgs_cons (pg_name (i := 1) scLaw.nd rfl (.inl rfl)) (pgs_cons (pg_name (i := 2) scLaw.nd rfl (.inl rfl)) (pgs_cons (pg_name (i := 3) scLaw.nd rfl (.inl rfl)) (pgs_cons (pg_name (i := 4) scLaw.nd rfl (.inl rfl)) (pgs_cons (pg_name (i := 5) scLaw.nd rfl (.inl rfl)) (pgs_cons (pg_name (i := 6) scLaw.nd rfl (.inl rfl)) pgs_nil))))))))
      (pss_cons (ps_set (i := 7) scLaw.nd rfl (.inl rfl) (pe_make M GI hr2 (by rfl) T.mgC bI .nil pass0 (pa_cons (pv 1) (pa_cons (pe_callTy call_list_of (by rfl) T.list (by decide +kernel) (pa_cons (pv 2) pa_nil)) pa_nil))))
      (pss_cons (ps_set (i := 8) scLaw.nd rfl (.inl rfl) (pe_call GA hr35 (by rfl) gA kA bA .nil pass0 (pa_cons (pv 7) (pa_cons (pe_callTy call_list_of (by rfl) T.list (by decide +kernel) (pa_cons (pv 3) pa_nil)) (pa_cons (pe_callTy call_list_of (by rfl) T.list (by decide +kernel) (pa_cons (pv 4) pa_nil)) (pa_cons (pv 5) pa_nil))))))
      (pss_cons (ps_if (pt_cmpR op_ne (pe_cmpR op_eq (pe_ix ix_tup (pv 8) pe_int (fun _ _ => rfl)) pe_str (nomark _)) (pe_cmpR op_le (pe_call GS hr (by rfl) gS kS bS .nil pass0 (pa_cons (pv 7) (pa_cons (pe_callTy call_list_of (by rfl) T.list (by decide +kernel) (pa_cons (pv 3) pa_nil)) (pa_cons (pe_callTy call_list_of (by rfl) T.list (by decide +kernel) (pa_cons (pv 4) pa_nil)) pa_nil)))) (pv 5) (nomark _)) (nomark _)) (pss_one (ps_ret pe_bl)) pss_nil)
      (pss_cons (ps_if (pt_cmpR op_notBl (pe_call GH hr4 (by rfl) gH kH bH .nil pass0 (pa_cons (pv 7) (pa_cons (pe_callTy call_list_of (by rfl) T.list (by decide +kernel) (pa_cons (pv 3) pa_nil)) (pa_cons (pe_callTy call_list_of (by rfl) T.list (by decide +kernel) (pa_cons (pv 4) pa_nil)) (pa_cons (pv 5) (pa_cons (pv 8) pa_nil)))))) pe_bl (nomark _)) (pss_one (ps_ret pe_bl)) pss_nil)
      (pss_cons (ps_if (pt_cmpR op_eq (pe_ix ix_tup (pv 8) pe_int (fun _ _ => rfl)) pe_str (nomark _))
        (pss_cons (ps_if (pt_cmpR op_notN (pe_call GL hr5 (by rfl) gL kL bL .nil pass0 (pa_cons (pv 7) (pa_cons (pe_callTy call_list_of (by rfl) T.list (by decide +kernel) (pa_cons (pe_ix ix_tup (pv 8) pe_int (fun _ _ => rfl)) pa_nil)) pa_nil))) pe_non (by rfl)) (pss_one (ps_ret pe_bl)) pss_nil)
        (pss_cons (ps_for PassesOwn.never rfl (pi_list (pe_lst (pa_cons (pe_op op_cat (pe_ix ix_tup (pv 8) pe_int (fun _ _ => rfl)) (pe_slice sl_list (pe_ix ix_tup (pv 8) pe_int (fun _ _ => rfl)) (po_some (pe_un un_neg pe_int)) po_none)) (pa_cons (pe_op op_cat (pe_slice sl_list (pe_ix ix_tup (pv 8) pe_int (fun _ _ => rfl)) po_none (po_some pe_int)) (pe_ix ix_tup (pv 8) pe_int (fun _ _ => rfl))) pa_nil)))) (pg_name (i := 9) scLaw.nd rfl (.inl rfl))
          (pss_cons (ps_if (pt_cmpR op_eq (pv 5) pe_int (nomark _)) (pss_one (ps_ret pe_bl)) pss_nil)
          (pss_cons (ps_set (i := 10) scLaw.nd rfl (.inl rfl) (pe_call GH hr4 (by rfl) gH kH bH .nil pass0 (pa_cons (pv 7) (pa_cons (pe_callTy call_list_of (by rfl) T.list (by decide +kernel) (pa_cons (pv 3) pa_nil)) (pa_cons (pe_callTy call_list_of (by rfl) T.list (by decide +kernel) (pa_cons (pv 4) pa_nil)) (pa_cons (pe_op op_add (pv 5) pe_int) (pa_cons (pe_tup (pa_cons pe_str (pa_cons (pv 9) pa_nil))) pa_nil)))))))
          (pss_one (ps_if (pt_cmpR op_notBl (pv 10) pe_bl (nomark _)) (pss_one (ps_ret pe_bl)) pss_nil)))))
        (pss_one (ps_ret pe_bl)))) pss_nil)
      (pss_cons (ps_if (pt_cmpR op_ge (pe_callB call_len_seq (by rfl) T.len PySem.boot_len (pa_cons (pe_ix ix_tup (pv 8) pe_int (fun _ _ => rfl)) pa_nil)) (pe_callB call_len_seq (by rfl) T.len PySem.boot_len (pa_cons (pv 3) pa_nil)) (nomark _)) (pss_one (ps_ret pe_bl)) pss_nil)
      (pss_cons (ps_for PassesOwn.never rfl (pi_range1 rfl T.range (pa_cons pe_int pa_nil)) (pg_name (i := 11) scLaw.nd rfl (.inl rfl))
        (pss_cons (ps_set (i := 12) scLaw.nd rfl (.inr rfl) (pe_call GW hr2 (by rfl) gW kW bW .nil pass0 (pa_cons (pv 6) (pa_cons (pv 2) (pa_cons (pv 3) (pa_cons (pv 5) pa_nil))))))
        (pss_cons (ps_setLc (i := 13) (own := [("room", 14), ("minute", 15)]) (g := gTup K 2 (gCons (gName 14) (gCons (gName 15) gNil))) rfl scLaw.nd rfl rfl (by rfl) (pi_list (pe_ix ix_tup (pv 8) pe_int (fun _ _ => rfl))) (blkOk_by (N := ["script", "rooms", "doors", "first", "wanted", "time", "state", "floor", "told", "more", "good", "turn", "way", "met", "room", "minute"]) (sc := defScope sLaw) (by decide +kernel))
            (fun _ _ _ _ _ => pg_tup rfl (pgs_cons (pg_name (i := 14) scLaw.nd rfl (Or.inl rfl)) (pgs_cons (pg_name (i := 15) scLaw.nd rfl (Or.inl rfl)) pgs_nil))) (fun _ _ _ _ _ => pts_one (pt_cmpR op_eq (pe_ix (ix_listK K) (pv 12) (pv 15) (fun _ _ => rfl)) (pv 14) (nomark _))) (fun _ _ _ _ _ => pe_int))
        (pss_one (ps_if (PW.pt (pw_and (pt_cmpR op_in_seq (pe_ix ix_list (pv 12) (pe_un un_neg pe_int) (fun _ _ => rfl)) (pv 4) (by rfl)) (pw_and1 (pt_cmpR op_eq (pe_callB call_len_seq (by rfl) T.len PySem.boot_len (pa_cons (pv 13) pa_nil)) pe_int (nomark _))))) (pss_one (ps_ret pe_bl)) pss_nil)))))
      (pss_one (ps_ret pe_bl))))))))), ?_⟩
    refine ⟨_, rfl, a, ns, rfl, hL, fun H1 p ld l1 l2 st rooms ds first wanted tm s1 hp hD rise few hI1 hI2 A2 hS n1 n2 n3 => ?_⟩
    refine ⟨p, _, rfl, .inl (.inl hp), rfl, _, _, rfl, _, _, rfl, _, _, rfl, _, _, rfl, _, _, rfl, _, _, rfl, rfl, ?_⟩
    obtain ⟨dvs, hdl, hdp⟩ := id hD
    have t8 := A2.ti
    have f4 := A2.fi.hi
    have f1 := A2.fi.lo
    -- the floor
    refine ⟨_, rfl, _, rfl, ld, _, rfl, .inl (.inl (.inl hdl)), fun l0 nl0 => fun x dx nx ndx ndxx => ?_⟩
    have s2 : Same H1 (upd H1 l0 (.lst dvs)) := same_upd nl0
    have e2 : PairsL (upd H1 l0 (.lst dvs)) l0 ds := ⟨dvs, upd_same, paired_mono hdp fun _ _ r => isP_mono (tups_of s2) r⟩
    generalize upd H1 l0 (.lst dvs) = H2 at s2 e2 nx ndx
    have s3 : Same H2 (upd (upd H2 dx (.own x)) x (.ins C dx [])) := fun b o e => by
      rw [upd_ne (ne_of_none e nx), upd_ne (ne_of_none e ndx)]
      exact e
    have e3 : upd (upd H2 dx (.own x)) x (.ins C dx []) x = some (.ins C dx []) := upd_same
    refine ⟨x, dx, l0, rooms, ds, rfl, e3, e2.mono s3, A2.ds, rise, few, fun H4 l' s4 hx hd' => ⟨rfl, ?_⟩⟩
    have sm4 : Same H1 H4 := s2.trans (fun b o e => s4 b o (by rw [hid_ne (ne_of_none e nx)]; exact s3 b o e))
    have hFl : FloorAt C H4 x rooms ds := ⟨⟨dx, l', hx, hd'⟩, few⟩
    dsimp only [gName]
    -- told
    refine ⟨_, rfl, _, rfl, l1, _, rfl, .inl (.inl (.inl (hI1.mono sm4))), fun a1 na1 => ?_⟩
    have s5 := same_upd (o := .lst (first.map V.int)) na1
    have e5 : IntsL (upd H4 a1 (.lst (first.map V.int))) a1 first := upd_same
    dsimp only
    generalize upd H4 a1 (.lst (first.map V.int)) = H5 at s5 e5
    refine ⟨_, rfl, l2, _, rfl, .inl (.inl (.inl ((hI2.mono sm4).mono s5))), fun a2 na2 => ?_⟩
    have s6 := same_upd (o := .lst (wanted.map V.int)) na2
    have e6 : IntsL (upd H5 a2 (.lst (wanted.map V.int))) a2 wanted := upd_same
    dsimp only
    generalize upd H5 a2 (.lst (wanted.map V.int)) = H6 at s6 e6
    have s46 := s5.trans s6
    refine ⟨_, rfl, x, a1, a2, rooms, ds, first, wanted, tm, rfl, ⟨hFl.mono s46, e5.mono s6, e6⟩, A2, fun H7 tp s7 pa => ?_⟩
    have s47 := s46.trans s7
    have sm7 := sm4.trans s47
    have hFl7 := hFl.mono s47
    dsimp only [gName]
    -- the least time
    have tag : ∃ (tg : Str) (l : Addr), H7 tp = some (.tup [.str tg, .ref l]) ∧ ((tg = sPlan ∧ ∃ ps, PlanL H7 l ps ∧ PM.IsPlan rooms ds first wanted tm ps) ∨ (tg = sCut ∧ ∃ cs, PairsL H7 l cs ∧ PM.IsCut rooms ds first wanted tm cs)) := by
      cases pa with
      | plan l ps h1 h2 h3 => exact ⟨sPlan, l, h1, .inl ⟨rfl, ps, h2, h3⟩⟩
      | cut l cs h1 h2 h3 => exact ⟨sCut, l, h1, .inr ⟨rfl, cs, h2, h3⟩⟩
    obtain ⟨tg, l, htp, hcase⟩ := tag
    have hT : ∀ {K : PySem.W.Frag} {H'}, Same H7 H' → SqT K H' tp [.str tg, .ref l] := fun {_ _} s => .inl (.inl (s _ _ htp))
    have copy1 : ∀ {H' : Hp}, Same H7 H' → SqL K H' l1 (first.map V.int) := fun s => .inl (.inl ((hI1.mono sm7).mono s))
    have copy2 : ∀ {H' : Hp}, Same H7 H' → SqL K H' l2 (wanted.map V.int) := fun s => .inl (.inl ((hI2.mono sm7).mono s))
    refine ⟨_, rfl, tp, _, 0, .str tg, rfl, rfl, hT (Same.refl _), rfl, rfl, ?_⟩
    refine ⟨_, rfl, _, rfl, l1, _, rfl, .inl (copy1 (Same.refl _)), fun b1 nb1 => ?_⟩
    have s8 := same_upd (o := .lst (first.map V.int)) nb1
    have e8 : IntsL (upd H7 b1 (.lst (first.map V.int))) b1 first := upd_same
    dsimp only
    generalize upd H7 b1 (.lst (first.map V.int)) = H8 at s8 e8
    refine ⟨_, rfl, l2, _, rfl, .inl (copy2 s8), fun b2 nb2 => ?_⟩
    have s9 := same_upd (o := .lst (wanted.map V.int)) nb2
    have e9 : IntsL (upd H8 b2 (.lst (wanted.map V.int))) b2 wanted := upd_same
    dsimp only
    generalize upd H8 b2 (.lst (wanted.map V.int)) = H9 at s9 e9
    refine ⟨x, b1, b2, rooms, ds, first, wanted, rfl, ⟨hFl7.mono (s8.trans s9), e8.mono s9, e9⟩, ask_at A2 (Nat.zero_le _), fun H10 sn s10 hsn => ?_⟩
    have sA := (s8.trans s9).trans s10
    have same : decide (V.str tg = V.str (Str.ofString "plan")) = decide (sn ≤ (tm : Int)) := by
      rcases hcase with ⟨rfl, ps, _, hpl⟩ | ⟨rfl, cs, _, hcut⟩
      · rw [decide_eq_true (show V.str sPlan = V.str (Str.ofString "plan") from rfl)]
        refine (decide_eq_true ?_).symm
        rcases hsn with ⟨_, hc⟩ | ⟨t, rfl, _, _, hc⟩
        · obtain ⟨cs, hcut⟩ := hc tm t8
          exact (PM.plan_cut hpl (Nat.le_refl _) hcut).elim
        · by_cases h : t ≤ tm
          · omega
          · obtain ⟨cs, hcut⟩ := hc tm (by omega)
            exact (PM.plan_cut hpl (Nat.le_refl _) hcut).elim
      · rw [decide_eq_false tag_ne]
        refine (decide_eq_false fun h => ?_).symm
        rcases hsn with ⟨rfl, _⟩ | ⟨t, rfl, _, ⟨ps, hpl⟩, _⟩
        · omega
        · exact PM.plan_cut hpl (by omega) hcut
    refine ⟨_, rfl, sn, tm, rfl, rfl, rfl, _, rfl, ite2 (fun hc => ?_) (fun _ => ?_)⟩
    · exfalso
      have hc : (!decide (V.bl (decide (V.str tg = V.str (Str.ofString "plan"))) = V.bl (decide (sn ≤ (tm : Int))))) = true := hc
      rw [same] at hc
      simp at hc
    -- the paper holds
    refine ⟨_, rfl, _, rfl, l1, _, rfl, .inl (copy1 sA), fun c1 nc1 => ?_⟩
    have sB := same_upd (o := .lst (first.map V.int)) nc1
    have eB : IntsL (upd H10 c1 (.lst (first.map V.int))) c1 first := upd_same
    dsimp only
    generalize upd H10 c1 (.lst (first.map V.int)) = HB at sB eB
    refine ⟨_, rfl, l2, _, rfl, .inl (copy2 (sA.trans sB)), fun c2 nc2 => ?_⟩
    have sC := same_upd (o := .lst (wanted.map V.int)) nc2
    have eC : IntsL (upd HB c2 (.lst (wanted.map V.int))) c2 wanted := upd_same
    dsimp only
    generalize upd HB c2 (.lst (wanted.map V.int)) = HC at sC eC
    have sAC := (sA.trans sB).trans sC
    have paC : Paper rooms ds first wanted tm HC tp := by
      rcases hcase with ⟨rfl, ps, h2, h3⟩ | ⟨rfl, cs, h2, h3⟩
      · exact .plan l ps (sAC _ _ htp) (h2.mono sAC) h3
      · exact .cut l cs (sAC _ _ htp) (h2.mono sAC) h3
    refine ⟨_, rfl, _, rfl, x, c1, c2, tp, rooms, ds, first, wanted, tm, rfl, ⟨hFl7.mono sAC, eB.mono sC, eC⟩, A2, paC, fun HD sD => ?_⟩
    have sAD := sAC.trans sD
    refine ⟨true, true, rfl, rfl, _, rfl, ite2 (fun h => by cases h) (fun _ => ?_)⟩
    refine ⟨_, rfl, tp, _, 0, .str tg, rfl, rfl, hT sAD, rfl, rfl, _, rfl, ite2 (fun hc => ?_) (fun hc => ?_)⟩
    · -- a plan
      have hc := of_decide_eq_true hc
      rcases hcase with ⟨rfl, ps, ⟨pvs, hpl, hpp⟩, h3⟩ | ⟨rfl, _⟩
      · have plen : ps.length = tm + 1 := by
          obtain ⟨W, _, e⟩ := h3
          rw [e, PM.planOf_len]
        have vlen := Paired.length hpp
        have pok := plan_ok A2 h3 (by omega)
        have hpl' : ∀ {K : PySem.W.Frag} {H'}, Same H7 H' → SqL K H' l pvs := fun {_ _} s => .inl (.inl (s _ _ hpl))
        refine ⟨_, rfl, _, rfl, tp, _, 1, .ref l, rfl, rfl, hT sAD, rfl, l, _, rfl, .inl (hpl' sAD), fun g1 ng1 => ?_⟩
        have sE := same_upd (o := .lst pvs) ng1
        have eE : PlanL (upd HD g1 (.lst pvs)) g1 ps := ⟨pvs, upd_same, paired_mono hpp fun _ _ r => r.mono (tups_of (sAD.trans sE))⟩
        dsimp only
        generalize upd HD g1 (.lst pvs) = HE at sE eE
        have sAE := sAD.trans sE
        refine ⟨x, g1, rooms, ds, first.length, ps, rfl, hFl7.mono sAE, eE, pok, plan_noclash h3, fun HF sF => ?_⟩
        have sAF := sAE.trans sF
        refine ⟨rfl, _, rfl, ite2 (fun h => by cases h) (fun _ => ?_)⟩
        obtain ⟨pT, hpT, hlater⟩ := h3.later
        obtain ⟨p0, hp0, hsooner⟩ := h3.sooner
        obtain ⟨vT, hvT, stT⟩ := paired_at hpp hpT
        obtain ⟨v0, hv0, st0⟩ := paired_at hpp hp0
        have lF := sAF _ _ hpl
        -- told[1] + told[1][-1:]
        refine ⟨_, rfl, tp, _, 1, .ref l, rfl, rfl, hT sAF, rfl, ?_⟩
        refine ⟨_, rfl, tp, _, 1, .ref l, rfl, rfl, hT sAF, rfl, 1, rfl, -1, rfl, l, _, rfl, .inl (.inl lF), fun i1 ni1 => ?_⟩
        rw [cut_tail, drop_last hvT (by omega)]
        have sG := same_upd (o := .lst [vT]) ni1
        have eG : upd HF i1 (.lst [vT]) i1 = some (.lst [vT]) := upd_same
        generalize upd HF i1 (.lst [vT]) = HG at sG eG
        refine ⟨l, i1, pvs, [vT], rfl, rfl, sG _ _ lF, eG, line64 (by show pvs.length + 1 ≤ _; omega), fun i2 ni2 => ?_⟩
        have sI := same_upd (o := .lst (pvs ++ [vT])) ni2
        have eI : upd HG i2 (.lst (pvs ++ [vT])) i2 = some (.lst (pvs ++ [vT])) := upd_same
        generalize upd HG i2 (.lst (pvs ++ [vT])) = HI at sI eI
        have sAI := (sAF.trans sG).trans sI
        -- told[1][:1] + told[1]
        refine ⟨_, rfl, tp, _, 1, .ref l, rfl, rfl, hT sAI, rfl, 1, rfl, l, _, rfl, hpl' sAI, fun i3 ni3 => ?_⟩
        rw [cut_first, take_one hv0]
        have sJ := same_upd (o := .lst [v0]) ni3
        have eJ : upd HI i3 (.lst [v0]) i3 = some (.lst [v0]) := upd_same
        generalize upd HI i3 (.lst [v0]) = HJ at sJ eJ
        have sAJ := sAI.trans sJ
        refine ⟨_, rfl, tp, _, 1, .ref l, rfl, rfl, hT sAJ, rfl, i3, l, [v0], pvs, rfl, rfl, eJ, sAJ _ _ hpl, line64 (by show 1 + pvs.length ≤ _; omega), fun i4 ni4 => ?_⟩
        have sK := same_upd (o := .lst ([v0] ++ pvs)) ni4
        have eK : upd HJ i4 (.lst ([v0] ++ pvs)) i4 = some (.lst ([v0] ++ pvs)) := upd_same
        generalize upd HJ i4 (.lst ([v0] ++ pvs)) = HK at sK eK
        have sAK := sAJ.trans sK
        have plA : PlanL HK i2 (ps ++ [pT]) := ⟨_, (sJ.trans sK) _ _ eI, Paired.snoc (paired_mono hpp fun _ _ r => r.mono (tups_of sAK)) (stT.mono (tups_of sAK))⟩
        have plB : PlanL HK i4 (p0 :: ps) := ⟨_, eK, .cons (st0.mono (tups_of sAK)) (paired_mono hpp fun _ _ r => r.mono (tups_of sAK))⟩
        refine ⟨Nat.le_of_ble_eq_true rfl, fun o no => ?_⟩
        have sM := same_upd (o := .lst [.ref i2, .ref i4]) no
        have eM : upd HK o (.lst [.ref i2, .ref i4]) o = some (.lst [.ref i2, .ref i4]) := upd_same
        generalize upd HK o (.lst [.ref i2, .ref i4]) = HM at sM eM
        have more : ∀ v ∈ [V.ref i2, .ref i4], ∃ pm psm, v = V.ref pm ∧ PlanL HM pm psm ∧ PM.IsPlan rooms ds first wanted (tm + 1) psm := fun v hv => by
          rcases List.mem_cons.mp hv with rfl | hv
          · exact ⟨_, _, rfl, plA.mono sM, hlater⟩
          · rcases List.mem_cons.mp hv with rfl | hv
            · exact ⟨_, _, rfl, plB.mono sM, hsooner⟩
            · cases hv
        have sAM := sAK.trans sM
        refine ⟨o, rfl, ⟨_, .inl (.inl eM)⟩, ?_⟩
        refine for_list (xs := [V.ref i2, .ref i4]) (fun i σ H' => ∃ y9 y10, σ = [some (.ref a), some (.int rooms), some (.ref ld), some (.ref l1), some (.ref l2), some (.int tm), some (.ref st), some (.ref x), some (.ref tp), y9, y10, none, none, none, none, none] ∧ Same HM H')
          ⟨_, _, rfl, Same.refl _⟩ (fun i σ H' _ ⟨_, _, _, s⟩ => .inl (.inl (s _ _ eM))) ?_ ?_
        · rintro i v σ HN hi ⟨y9, y10, rfl, sN⟩
          obtain ⟨pm, psm, rfl, hpm, hism⟩ := more v (List.mem_of_getElem? hi)
          refine ⟨_, rfl, rfl, _, rfl, ite2 (fun _ => q _) (fun hc8 => ?_)⟩
          have ht8 : tm + 1 ≤ 8 := by
            have : ¬ (tm : Int) = 8 := fun e => hc8 (decide_eq_true (congrArg V.int e))
            omega
          have sAN := sAM.trans sN
          refine ⟨_, rfl, _, rfl, l1, _, rfl, .inl (copy1 sAN), fun j1 nj1 => ?_⟩
          have sO := same_upd (o := .lst (first.map V.int)) nj1
          have eO : IntsL (upd HN j1 (.lst (first.map V.int))) j1 first := upd_same
          dsimp only
          generalize upd HN j1 (.lst (first.map V.int)) = HO' at sO eO
          refine ⟨_, rfl, l2, _, rfl, .inl (copy2 (sAN.trans sO)), fun j2 nj2 => ?_⟩
          have sP := same_upd (o := .lst (wanted.map V.int)) nj2
          have eP : IntsL (upd HO' j2 (.lst (wanted.map V.int))) j2 wanted := upd_same
          dsimp only
          generalize upd HO' j2 (.lst (wanted.map V.int)) = HP at sP eP
          refine ⟨_, rfl, tm, 1, rfl, rfl, _, rfl, Nat.le_of_ble_eq_true rfl, fun j3 nj3 => ?_⟩
          have sR := same_upd (o := .tup [.str sPlan, .ref pm]) nj3
          have eR : upd HP j3 (.tup [.str sPlan, .ref pm]) j3 = some (.tup [.str sPlan, .ref pm]) := upd_same
          have sNR := (sO.trans sP).trans sR
          have sAR := sAN.trans sNR
          refine ⟨x, j1, j2, j3, rooms, ds, first, wanted, tm + 1, rfl, ⟨hFl7.mono sAR, eO.mono (sP.trans sR), eP.mono sR⟩, ask_at A2 ht8, .plan pm psm eR (hpm.mono (sN.trans sNR)) hism, fun HS sS => ?_⟩
          exact ⟨_, rfl, true, true, rfl, rfl, _, rfl, ite2 (fun h => by cases h) (fun _ => ⟨_, _, rfl, sN.trans (sNR.trans sS)⟩)⟩
        · rintro σ HN ⟨y9, y10, rfl, sN⟩
          exact q _
      · exact absurd hc tag_ne
    · -- a cut
      rcases hcase with ⟨rfl, _⟩ | ⟨rfl, cs, hcs, hcut⟩
      · exact absurd (decide_eq_true rfl) hc
      have hcsD := hcs.mono sAD
      obtain ⟨cvs, hcl, hcp⟩ := id hcsD
      have clen := Paired.length hcp
      have cfew := hcut.few
      refine ⟨_, rfl, tp, _, 1, .ref l, rfl, rfl, hT sAD, rfl, l, _, rfl, .inl (.inl (.inl hcl)), _, rfl, l1, _, rfl, .inl (copy1 sAD), _, _, rfl, rfl, _, rfl, ite2 (fun hc => ?_) (fun _ => ?_)⟩
      · exfalso
        have hc := of_decide_eq_true hc
        rw [List.length_map] at hc
        omega
      have hSD : StateAt HD st := (hS.mono sm7).mono sAD
      have hDD : PairsL HD ld ds := (hD.mono sm7).mono sAD
      have hID1 : IntsL HD l1 first := (hI1.mono sm7).mono sAD
      have hID2 : IntsL HD l2 wanted := (hI2.mono sm7).mono sAD
      have htD : HD tp = some (.tup [.str sCut, .ref l]) := sAD _ _ htp
      have nl := pairs_ne hcsD hSD
      refine ⟨6, rfl, by decide, by decide, ?_⟩
      refine for_range (lo := 0) (n := 6) (fun i σ H' => ∃ y11 y12 y13, σ = [some (.ref a), some (.int rooms), some (.ref ld), some (.ref l1), some (.ref l2), some (.int tm), some (.ref st), some (.ref x), some (.ref tp), none, none, y11, y12, y13, none, none] ∧ StateAt H' st ∧ PairsL H' ld ds ∧ IntsL H' l1 first ∧ IntsL H' l2 wanted ∧ H' tp = some (.tup [.str sCut, .ref l]) ∧ PairsL H' l cs)
        ⟨_, _, _, rfl, hSD, hDD, hID1, hID2, htD, hcsD⟩ ?_ ?_
      · rintro i σ HE hi ⟨y11, y12, y13, rfl, hSE, hDE, hI1E, hI2E, htE, hcE⟩
        refine ⟨_, rfl, _, rfl, _, rfl, _, rfl, st, ld, l1, tm, ds, first, rfl, hSE, n1, n2, hDE, few, hI1E, f1, f4, t8, fun HF wl xs sF hSF hwl xl x0 xst => ?_⟩
        have nt := hSE.notup
        have hDF := hDE.at sF nt n1.symm
        have hI1F : IntsL HF l1 first := hid_at sF hI1E n2.symm
        have hI2F : IntsL HF l2 wanted := hid_at sF hI2E n3.symm
        have htpst : tp ≠ st := fun e => by
          obtain ⟨x, y, z, h⟩ := hSE
          rw [← e, htE] at h
          cases h
        have htF : HF tp = some (.tup [.str sCut, .ref l]) := hid_at sF htE htpst
        have hcF := hcE.at sF nt nl
        obtain ⟨cvF, hclF, hcpF⟩ := id hcF
        have clF := Paired.length hcpF
        dsimp only [gName]
        refine ⟨_, rfl, tp, _, 1, .ref l, rfl, rfl, .inl (.inl htF), rfl, l, rfl, ⟨_, .inl (.inl hclF)⟩, fun D hDn => ?_⟩
        refine lcf (R := fun (_ : Hp) (_ : Int × Int) v => v = .int 1) walk_list (fun i => (cs[i]?).bind fun c => if xs.getD c.2.toNat 0 = c.1 then some c else none) (fun _ _ _ _ y => y.1) hDn (by omega) (fun H' s => .inl (.inl (s _ _ hclF))) (fun _ _ _ _ _ _ h => h) (fun i x H6 Q6 N hi s6 _ y q6 n6 => ?_) (fun H6 us s6 eD6 p6 => ?_)
        · obtain ⟨c, hcc, t, rfl, ht⟩ := paired_get hcpF y.2
          obtain ⟨⟨r1, r2⟩, ⟨m1, m2⟩⟩ := hcut.ok c (List.mem_of_getElem? hcc)
          refine ⟨t, _, rfl, .inl (.inl (s6 _ _ ht)), rfl, _, _, rfl, _, _, rfl, rfl, rfl, ?_⟩
          have hk : c.2.toNat < xs.length := by omega
          have hat := atI_nat (ints_at (PM.getD_of hk))
          rw [Int.toNat_of_nonneg m1] at hat
          refine ⟨_, rfl, _, rfl, wl, _, c.2, .int (xs.getD c.2.toNat 0), rfl, rfl, .inl (.inl (hwl.mono s6)), hat, _, rfl, rfl, _, rfl, ite2 (fun hc => ?_) (fun hc => ?_)⟩
          · have hc := V.int.inj (of_decide_eq_true hc)
            refine q6 c ?_ _ _ (Same.refl _) rfl
            rw [hcc]
            exact if_pos hc
          · have hc : ¬ xs.getD c.2.toNat 0 = c.1 := fun z => hc (decide_eq_true (congrArg V.int z))
            refine n6 ?_ _ (Same.refl _)
            rw [hcc]
            exact if_neg hc
        · rw [clF, fm_eq] at p6
          have ul := Paired.length p6
          have hlast := PM.getD_of (l := xs) (k := tm) (by omega)
          have hneg : atI (xs.map V.int) (-1) = some (.int (xs.getD tm 0)) := atI_neg1 (ints_at hlast) (by rw [List.length_map]; exact xl)
          dsimp only [gName]
          have fin : ∃ y11 y12 y13, [some (V.ref a), some (.int rooms), some (.ref ld), some (.ref l1), some (.ref l2), some (.int tm), some (.ref st), some (.ref x), some (.ref tp), none, none, some (.int (0 + (i : Int))), some (.ref wl), some (.ref D), none, none] = [some (V.ref a), some (.int rooms), some (.ref ld), some (.ref l1), some (.ref l2), some (.int tm), some (.ref st), some (.ref x), some (.ref tp), none, none, y11, y12, y13, none, none] ∧ StateAt H6 st ∧ PairsL H6 ld ds ∧ IntsL H6 l1 first ∧ IntsL H6 l2 wanted ∧ H6 tp = some (.tup [.str sCut, .ref l]) ∧ PairsL H6 l cs :=
            ⟨_, _, _, rfl, hSF.mono s6, hDF.mono s6, hI1F.mono s6, hI2F.mono s6, s6 _ _ htF, hcF.mono s6⟩
          refine ⟨_, rfl, _, rfl, wl, _, -1, .int (xs.getD tm 0), rfl, rfl, .inl (.inl (hwl.mono s6)), hneg, _, rfl, l2, _, rfl, .inl (.inl (.inl (hI2F.mono s6))), rfl, flat_ints _, _, rfl, ite2 (fun hw => ?_) (fun _ => fin)⟩
          rw [if_neg (by decide), inV_ints] at hw
          have hw := of_decide_eq_true hw
          refine ⟨_, rfl, D, _, rfl, .inl (.inl (.inl eD6)), rfl, _, rfl, ite2 (fun hz => ?_) (fun _ => fin)⟩
          exfalso
          have hz := V.int.inj (of_decide_eq_true hz)
          obtain ⟨k, hk, hck⟩ := hcut.cut (fun k => xs.getD k 0) (x0 _ (PM.getD_of (by omega))) (fun k hk => xst k _ _ (PM.getD_of (by omega)) (PM.getD_of (by omega))) hw
          have hin : (xs.getD k 0, (k : Int)) ∈ cs.filterMap fun c => if xs.getD c.2.toNat 0 = c.1 then some c else none := List.mem_filterMap.mpr ⟨_, hck, if_pos rfl⟩
          have : (cs.filterMap fun c => if xs.getD c.2.toNat 0 = c.1 then some c else none).length = 0 := by omega
          rw [List.eq_nil_of_length_eq_zero this] at hin
          cases hin
      · rintro σ HE ⟨y11, y12, y13, rfl, _⟩
        exact q _
end
end PW
set_option Elab.async false
set_option linter.all false
set_option maxRecDepth 100000
set_option maxHeartbeats 4000000
namespace PW
open PySem PySem.Spec PyProof.Rows L2 PMD
theorem exm_own {K : PySem.W.Frag} {S : Addr} (h1 : PySem.W.subIn K (.ref S) (.type "BaseException") = some true) (h2 : PySem.W.isClsIn K S = true) (h3 : PySem.W.typeIn K (.ref S) = some (.type "type")) (h4 : PySem.W.subIn K (.ref S) (.ref S) = some true) : PySem.W.exmOne K (.ref S) (.ref S) = some true := by
  unfold PySem.W.exmOne
  rw [h1, if_pos (by rfl)]
  have e : ((PySem.W.clsIn K S).isSome && PySem.W.typeIn K (.ref S) == some (.type "type")) = true := by
    rw [show (PySem.W.clsIn K S).isSome = true from h2, h3]
    rfl
  exact (if_pos e).trans h4
theorem all_mk {l : PySem.W.OpenLaw} {w : World} {K : PySem.W.Frag} {h : Heap} {mg : Str → Option Value} {fa C CN : Addr} {tP tM tR tB tE : Tok} (X : K.In h) (G : h.Ns mainGlobals mg) (hfa : mg "law" = some (.ref fa))
    {fCell fBeg fTake fLRo fLNe fLDo fLWa fLSt fNear fInit fIsS fChS fChT fExc fCla fChP fLoo fIsR fChR fChM fOnw fCom fPut fAll fWaF fApa fSpo fCut fAli fPSt fCSt fHol fSoo fLSo fLaw : Addr} {odCell anCell odBeg anBeg odTake anTake odLRo anLRo odLNe anLNe odLDo anLDo odLWa anLWa odLSt anLSt odNear anNear odInit anInit odIsS anIsS odChS anChS odChT anChT odExc anExc odCla anCla odChP anChP odLoo anLoo odIsR anIsR odChR anChR odChM anChM odOnw anOnw odCom anCom odPut anPut odAll anAll odWaF anWaF odApa anApa odSpo anSpo odCut anCut odAli anAli odPSt anPSt odCSt anCSt odHol anHol odSoo anSoo odLSo anLSo odLaw anLaw : Option Addr} {slCell slBeg slTake slLRo slLNe slLDo slLWa slLSt slNear slInit slIsS slChS slChT slExc slCla slChP slLoo slIsR slChR slChM slOnw slCom slPut slAll slWaF slApa slSpo slCut slAli slPSt slCSt slHol slSoo slLSo slLaw : Array (Option Value)}
    {ocCell kVCell dcCell pmCell cdCell ctCell ocBeg kVBeg dcBeg pmBeg cdBeg ctBeg ocTake kVTake dcTake pmTake cdTake ctTake ocLRo kVLRo dcLRo pmLRo cdLRo ctLRo ocLNe kVLNe dcLNe pmLNe cdLNe ctLNe ocLDo kVLDo dcLDo pmLDo cdLDo ctLDo ocLWa kVLWa dcLWa pmLWa cdLWa ctLWa ocLSt kVLSt dcLSt pmLSt cdLSt ctLSt ocNear kVNear dcNear pmNear cdNear ctNear ocInit kVInit dcInit pmInit cdInit ctInit ocIsS kVIsS dcIsS pmIsS cdIsS ctIsS ocChS kVChS dcChS pmChS cdChS ctChS ocChT kVChT dcChT pmChT cdChT ctChT ocExc kVExc dcExc pmExc cdExc ctExc ocCla kVCla dcCla pmCla cdCla ctCla ocChP kVChP dcChP pmChP cdChP ctChP ocLoo kVLoo dcLoo pmLoo cdLoo ctLoo ocIsR kVIsR dcIsR pmIsR cdIsR ctIsR ocChR kVChR dcChR pmChR cdChR ctChR ocChM kVChM dcChM pmChM cdChM ctChM ocOnw kVOnw dcOnw pmOnw cdOnw ctOnw ocCom kVCom dcCom pmCom cdCom ctCom ocPut kVPut dcPut pmPut cdPut ctPut ocAll kVAll dcAll pmAll cdAll ctAll ocWaF kVWaF dcWaF pmWaF cdWaF ctWaF ocApa kVApa dcApa pmApa cdApa ctApa ocSpo kVSpo dcSpo pmSpo cdSpo ctSpo ocCut kVCut dcCut pmCut cdCut ctCut ocAli kVAli dcAli pmAli cdAli ctAli ocPSt kVPSt dcPSt pmPSt cdPSt ctPSt ocCSt kVCSt dcCSt pmCSt cdCSt ctCSt ocHol kVHol dcHol pmHol cdHol ctHol ocSoo kVSoo dcSoo pmSoo cdSoo ctSoo ocLSo kVLSo dcLSo pmLSo cdLSo ctLSo ocLaw kVLaw dcLaw pmLaw cdLaw ctLaw : Value}
    (aC : PySem.W.nsIn K mainGlobals "Floor" = some (some (.ref C))) (aN : PySem.W.nsIn K mainGlobals "NoWay" = some (some (.ref CN)))
    (aCell : PySem.W.nsIn K mainGlobals "_law_cell" = some (some (.ref fCell)))
    (lCell : K.lookup fCell = some ⟨ocCell, odCell, .func (PySem.W.fnOf "_law_cell" "_law_cell" (defArgs sCell) (defBody sCell) (defScope sCell) .none kVCell dcCell pmCell anCell cdCell ctCell), slCell⟩)
    (cCell : PySem.W.codeIn K cdCell "_law_cell" = true) (kCell : PySem.W.keepIn K (.ref fCell) = true)
    (aBeg : PySem.W.nsIn K mainGlobals "_law_begin" = some (some (.ref fBeg)))
    (lBeg : K.lookup fBeg = some ⟨ocBeg, odBeg, .func (PySem.W.fnOf "_law_begin" "_law_begin" (defArgs sBegin) (defBody sBegin) (defScope sBegin) .none kVBeg dcBeg pmBeg anBeg cdBeg ctBeg), slBeg⟩)
    (cBeg : PySem.W.codeIn K cdBeg "_law_begin" = true) (kBeg : PySem.W.keepIn K (.ref fBeg) = true)
    (aTake : PySem.W.nsIn K mainGlobals "_law_take" = some (some (.ref fTake)))
    (lTake : K.lookup fTake = some ⟨ocTake, odTake, .func (PySem.W.fnOf "_law_take" "_law_take" (defArgs sTake) (defBody sTake) (defScope sTake) .none kVTake dcTake pmTake anTake cdTake ctTake), slTake⟩)
    (cTake : PySem.W.codeIn K cdTake "_law_take" = true) (kTake : PySem.W.keepIn K (.ref fTake) = true)
    (aLRo : PySem.W.nsIn K mainGlobals "_law_rooms" = some (some (.ref fLRo)))
    (lLRo : K.lookup fLRo = some ⟨ocLRo, odLRo, .func (PySem.W.fnOf "_law_rooms" "_law_rooms" (defArgs sLRooms) (defBody sLRooms) (defScope sLRooms) .none kVLRo dcLRo pmLRo anLRo cdLRo ctLRo), slLRo⟩)
    (cLRo : PySem.W.codeIn K cdLRo "_law_rooms" = true) (kLRo : PySem.W.keepIn K (.ref fLRo) = true)
    (aLNe : PySem.W.nsIn K mainGlobals "_law_near" = some (some (.ref fLNe)))
    (lLNe : K.lookup fLNe = some ⟨ocLNe, odLNe, .func (PySem.W.fnOf "_law_near" "_law_near" (defArgs sLNear) (defBody sLNear) (defScope sLNear) .none kVLNe dcLNe pmLNe anLNe cdLNe ctLNe), slLNe⟩)
    (cLNe : PySem.W.codeIn K cdLNe "_law_near" = true) (kLNe : PySem.W.keepIn K (.ref fLNe) = true)
    (aLDo : PySem.W.nsIn K mainGlobals "_law_doors" = some (some (.ref fLDo)))
    (lLDo : K.lookup fLDo = some ⟨ocLDo, odLDo, .func (PySem.W.fnOf "_law_doors" "_law_doors" (defArgs sLDoors) (defBody sLDoors) (defScope sLDoors) .none kVLDo dcLDo pmLDo anLDo cdLDo ctLDo), slLDo⟩)
    (cLDo : PySem.W.codeIn K cdLDo "_law_doors" = true) (kLDo : PySem.W.keepIn K (.ref fLDo) = true)
    (aLWa : PySem.W.nsIn K mainGlobals "_law_way" = some (some (.ref fLWa)))
    (lLWa : K.lookup fLWa = some ⟨ocLWa, odLWa, .func (PySem.W.fnOf "_law_way" "_law_way" (defArgs sLWay) (defBody sLWay) (defScope sLWay) .none kVLWa dcLWa pmLWa anLWa cdLWa ctLWa), slLWa⟩)
    (cLWa : PySem.W.codeIn K cdLWa "_law_way" = true) (kLWa : PySem.W.keepIn K (.ref fLWa) = true)
    (aLSt : PySem.W.nsIn K mainGlobals "_law_start" = some (some (.ref fLSt)))
    (lLSt : K.lookup fLSt = some ⟨ocLSt, odLSt, .func (PySem.W.fnOf "_law_start" "_law_start" (defArgs sLStart) (defBody sLStart) (defScope sLStart) .none kVLSt dcLSt pmLSt anLSt cdLSt ctLSt), slLSt⟩)
    (cLSt : PySem.W.codeIn K cdLSt "_law_start" = true) (kLSt : PySem.W.keepIn K (.ref fLSt) = true)
    (aNear : PySem.W.findIn K (.ref C) "near" = some (some (.ref fNear))) (iNear : PySem.W.isFn K (.ref fNear) = true)
    (lNear : K.lookup fNear = some ⟨ocNear, odNear, .func (PySem.W.fnOf "near" "Floor.near" (defArgs sNear) (defBody sNear) (defScope sNear) .none kVNear dcNear pmNear anNear cdNear ctNear), slNear⟩)
    (cNear : PySem.W.codeIn K cdNear "Floor.near" = true) (kNear : PySem.W.keepIn K (.ref fNear) = true)
    (aInit : PySem.W.findIn K (.ref C) "__init__" = some (some (.ref fInit))) (iInit : PySem.W.isFn K (.ref fInit) = true)
    (lInit : K.lookup fInit = some ⟨ocInit, odInit, .func (PySem.W.fnOf "__init__" "Floor.__init__" (defArgs sInit) (defBody sInit) (defScope sInit) .none kVInit dcInit pmInit anInit cdInit ctInit), slInit⟩)
    (cInit : PySem.W.codeIn K cdInit "Floor.__init__" = true) (kInit : PySem.W.keepIn K (.ref fInit) = true)
    (aIsS : PySem.W.nsIn K mainGlobals "is_stand" = some (some (.ref fIsS)))
    (lIsS : K.lookup fIsS = some ⟨ocIsS, odIsS, .func (PySem.W.fnOf "is_stand" "is_stand" (defArgs sIsStand) (defBody sIsStand) (defScope sIsStand) .none kVIsS dcIsS pmIsS anIsS cdIsS ctIsS), slIsS⟩)
    (cIsS : PySem.W.codeIn K cdIsS "is_stand" = true) (kIsS : PySem.W.keepIn K (.ref fIsS) = true)
    (aChS : PySem.W.nsIn K mainGlobals "check_stand" = some (some (.ref fChS)))
    (lChS : K.lookup fChS = some ⟨ocChS, odChS, .func (PySem.W.fnOf "check_stand" "check_stand" (defArgs sCheckStand) (defBody sCheckStand) (defScope sCheckStand) .none kVChS dcChS pmChS anChS cdChS ctChS), slChS⟩)
    (cChS : PySem.W.codeIn K cdChS "check_stand" = true) (kChS : PySem.W.keepIn K (.ref fChS) = true)
    (aChT : PySem.W.nsIn K mainGlobals "check_two" = some (some (.ref fChT)))
    (lChT : K.lookup fChT = some ⟨ocChT, odChT, .func (PySem.W.fnOf "check_two" "check_two" (defArgs sCheckTwo) (defBody sCheckTwo) (defScope sCheckTwo) .none kVChT dcChT pmChT anChT cdChT ctChT), slChT⟩)
    (cChT : PySem.W.codeIn K cdChT "check_two" = true) (kChT : PySem.W.keepIn K (.ref fChT) = true)
    (aExc : PySem.W.nsIn K mainGlobals "exchange" = some (some (.ref fExc)))
    (lExc : K.lookup fExc = some ⟨ocExc, odExc, .func (PySem.W.fnOf "exchange" "exchange" (defArgs sExchange) (defBody sExchange) (defScope sExchange) .none kVExc dcExc pmExc anExc cdExc ctExc), slExc⟩)
    (cExc : PySem.W.codeIn K cdExc "exchange" = true) (kExc : PySem.W.keepIn K (.ref fExc) = true)
    (aCla : PySem.W.nsIn K mainGlobals "clash_of" = some (some (.ref fCla)))
    (lCla : K.lookup fCla = some ⟨ocCla, odCla, .func (PySem.W.fnOf "clash_of" "clash_of" (defArgs sClash) (defBody sClash) (defScope sClash) .none kVCla dcCla pmCla anCla cdCla ctCla), slCla⟩)
    (cCla : PySem.W.codeIn K cdCla "clash_of" = true) (kCla : PySem.W.keepIn K (.ref fCla) = true)
    (aChP : PySem.W.nsIn K mainGlobals "check_plan" = some (some (.ref fChP)))
    (lChP : K.lookup fChP = some ⟨ocChP, odChP, .func (PySem.W.fnOf "check_plan" "check_plan" (defArgs sCheckPlan) (defBody sCheckPlan) (defScope sCheckPlan) .none kVChP dcChP pmChP anChP cdChP ctChP), slChP⟩)
    (cChP : PySem.W.codeIn K cdChP "check_plan" = true) (kChP : PySem.W.keepIn K (.ref fChP) = true)
    (aLoo : PySem.W.nsIn K mainGlobals "looked" = some (some (.ref fLoo)))
    (lLoo : K.lookup fLoo = some ⟨ocLoo, odLoo, .func (PySem.W.fnOf "looked" "looked" (defArgs sLooked) (defBody sLooked) (defScope sLooked) .none kVLoo dcLoo pmLoo anLoo cdLoo ctLoo), slLoo⟩)
    (cLoo : PySem.W.codeIn K cdLoo "looked" = true) (kLoo : PySem.W.keepIn K (.ref fLoo) = true)
    (aIsR : PySem.W.nsIn K mainGlobals "is_rooms" = some (some (.ref fIsR)))
    (lIsR : K.lookup fIsR = some ⟨ocIsR, odIsR, .func (PySem.W.fnOf "is_rooms" "is_rooms" (defArgs sIsRooms) (defBody sIsRooms) (defScope sIsRooms) .none kVIsR dcIsR pmIsR anIsR cdIsR ctIsR), slIsR⟩)
    (cIsR : PySem.W.codeIn K cdIsR "is_rooms" = true) (kIsR : PySem.W.keepIn K (.ref fIsR) = true)
    (aChR : PySem.W.nsIn K mainGlobals "check_rooms" = some (some (.ref fChR)))
    (lChR : K.lookup fChR = some ⟨ocChR, odChR, .func (PySem.W.fnOf "check_rooms" "check_rooms" (defArgs sCheckRooms) (defBody sCheckRooms) (defScope sCheckRooms) .none kVChR dcChR pmChR anChR cdChR ctChR), slChR⟩)
    (cChR : PySem.W.codeIn K cdChR "check_rooms" = true) (kChR : PySem.W.keepIn K (.ref fChR) = true)
    (aChM : PySem.W.nsIn K mainGlobals "check_time" = some (some (.ref fChM)))
    (lChM : K.lookup fChM = some ⟨ocChM, odChM, .func (PySem.W.fnOf "check_time" "check_time" (defArgs sCheckTime) (defBody sCheckTime) (defScope sCheckTime) .none kVChM dcChM pmChM anChM cdChM ctChM), slChM⟩)
    (cChM : PySem.W.codeIn K cdChM "check_time" = true) (kChM : PySem.W.keepIn K (.ref fChM) = true)
    (aOnw : PySem.W.nsIn K mainGlobals "onward" = some (some (.ref fOnw)))
    (lOnw : K.lookup fOnw = some ⟨ocOnw, odOnw, .func (PySem.W.fnOf "onward" "onward" (defArgs sOnward) (defBody sOnward) (defScope sOnward) .none kVOnw dcOnw pmOnw anOnw cdOnw ctOnw), slOnw⟩)
    (cOnw : PySem.W.codeIn K cdOnw "onward" = true) (kOnw : PySem.W.keepIn K (.ref fOnw) = true)
    (aCom : PySem.W.nsIn K mainGlobals "come_to" = some (some (.ref fCom)))
    (lCom : K.lookup fCom = some ⟨ocCom, odCom, .func (PySem.W.fnOf "come_to" "come_to" (defArgs sCome) (defBody sCome) (defScope sCome) .none kVCom dcCom pmCom anCom cdCom ctCom), slCom⟩)
    (cCom : PySem.W.codeIn K cdCom "come_to" = true) (kCom : PySem.W.keepIn K (.ref fCom) = true)
    (aPut : PySem.W.nsIn K mainGlobals "put_way" = some (some (.ref fPut)))
    (lPut : K.lookup fPut = some ⟨ocPut, odPut, .func (PySem.W.fnOf "put_way" "put_way" (defArgs sPut) (defBody sPut) (defScope sPut) .none kVPut dcPut pmPut anPut cdPut ctPut), slPut⟩)
    (cPut : PySem.W.codeIn K cdPut "put_way" = true) (kPut : PySem.W.keepIn K (.ref fPut) = true)
    (aAll : PySem.W.nsIn K mainGlobals "all_ways" = some (some (.ref fAll)))
    (lAll : K.lookup fAll = some ⟨ocAll, odAll, .func (PySem.W.fnOf "all_ways" "all_ways" (defArgs sAll) (defBody sAll) (defScope sAll) .none kVAll dcAll pmAll anAll cdAll ctAll), slAll⟩)
    (cAll : PySem.W.codeIn K cdAll "all_ways" = true) (kAll : PySem.W.keepIn K (.ref fAll) = true)
    (aWaF : PySem.W.nsIn K mainGlobals "way_from" = some (some (.ref fWaF)))
    (lWaF : K.lookup fWaF = some ⟨ocWaF, odWaF, .func (PySem.W.fnOf "way_from" "way_from" (defArgs sWayF) (defBody sWayF) (defScope sWayF) .none kVWaF dcWaF pmWaF anWaF cdWaF ctWaF), slWaF⟩)
    (cWaF : PySem.W.codeIn K cdWaF "way_from" = true) (kWaF : PySem.W.keepIn K (.ref fWaF) = true)
    (aApa : PySem.W.nsIn K mainGlobals "apart" = some (some (.ref fApa)))
    (lApa : K.lookup fApa = some ⟨ocApa, odApa, .func (PySem.W.fnOf "apart" "apart" (defArgs sApart) (defBody sApart) (defScope sApart) .none kVApa dcApa pmApa anApa cdApa ctApa), slApa⟩)
    (cApa : PySem.W.codeIn K cdApa "apart" = true) (kApa : PySem.W.keepIn K (.ref fApa) = true)
    (aSpo : PySem.W.nsIn K mainGlobals "spot_of" = some (some (.ref fSpo)))
    (lSpo : K.lookup fSpo = some ⟨ocSpo, odSpo, .func (PySem.W.fnOf "spot_of" "spot_of" (defArgs sSpot) (defBody sSpot) (defScope sSpot) .none kVSpo dcSpo pmSpo anSpo cdSpo ctSpo), slSpo⟩)
    (cSpo : PySem.W.codeIn K cdSpo "spot_of" = true) (kSpo : PySem.W.keepIn K (.ref fSpo) = true)
    (aCut : PySem.W.nsIn K mainGlobals "cut_by" = some (some (.ref fCut)))
    (lCut : K.lookup fCut = some ⟨ocCut, odCut, .func (PySem.W.fnOf "cut_by" "cut_by" (defArgs sCutBy) (defBody sCutBy) (defScope sCutBy) .none kVCut dcCut pmCut anCut cdCut ctCut), slCut⟩)
    (cCut : PySem.W.codeIn K cdCut "cut_by" = true) (kCut : PySem.W.keepIn K (.ref fCut) = true)
    (aAli : PySem.W.nsIn K mainGlobals "alike" = some (some (.ref fAli)))
    (lAli : K.lookup fAli = some ⟨ocAli, odAli, .func (PySem.W.fnOf "alike" "alike" (defArgs sAlike) (defBody sAlike) (defScope sAlike) .none kVAli dcAli pmAli anAli cdAli ctAli), slAli⟩)
    (cAli : PySem.W.codeIn K cdAli "alike" = true) (kAli : PySem.W.keepIn K (.ref fAli) = true)
    (aPSt : PySem.W.nsIn K mainGlobals "plan_stands" = some (some (.ref fPSt)))
    (lPSt : K.lookup fPSt = some ⟨ocPSt, odPSt, .func (PySem.W.fnOf "plan_stands" "plan_stands" (defArgs sPlanStands) (defBody sPlanStands) (defScope sPlanStands) .none kVPSt dcPSt pmPSt anPSt cdPSt ctPSt), slPSt⟩)
    (cPSt : PySem.W.codeIn K cdPSt "plan_stands" = true) (kPSt : PySem.W.keepIn K (.ref fPSt) = true)
    (aCSt : PySem.W.nsIn K mainGlobals "cut_stands" = some (some (.ref fCSt)))
    (lCSt : K.lookup fCSt = some ⟨ocCSt, odCSt, .func (PySem.W.fnOf "cut_stands" "cut_stands" (defArgs sCutStands) (defBody sCutStands) (defScope sCutStands) .none kVCSt dcCSt pmCSt anCSt cdCSt ctCSt), slCSt⟩)
    (cCSt : PySem.W.codeIn K cdCSt "cut_stands" = true) (kCSt : PySem.W.keepIn K (.ref fCSt) = true)
    (aHol : PySem.W.nsIn K mainGlobals "alike_holds" = some (some (.ref fHol)))
    (lHol : K.lookup fHol = some ⟨ocHol, odHol, .func (PySem.W.fnOf "alike_holds" "alike_holds" (defArgs sHolds) (defBody sHolds) (defScope sHolds) .none kVHol dcHol pmHol anHol cdHol ctHol), slHol⟩)
    (cHol : PySem.W.codeIn K cdHol "alike_holds" = true) (kHol : PySem.W.keepIn K (.ref fHol) = true)
    (aSoo : PySem.W.nsIn K mainGlobals "soonest_alike" = some (some (.ref fSoo)))
    (lSoo : K.lookup fSoo = some ⟨ocSoo, odSoo, .func (PySem.W.fnOf "soonest_alike" "soonest_alike" (defArgs sSoon) (defBody sSoon) (defScope sSoon) .none kVSoo dcSoo pmSoo anSoo cdSoo ctSoo), slSoo⟩)
    (cSoo : PySem.W.codeIn K cdSoo "soonest_alike" = true) (kSoo : PySem.W.keepIn K (.ref fSoo) = true)
    (aLSo : PySem.W.nsIn K mainGlobals "_law_soonest" = some (some (.ref fLSo)))
    (lLSo : K.lookup fLSo = some ⟨ocLSo, odLSo, .func (PySem.W.fnOf "_law_soonest" "_law_soonest" (defArgs sLSoon) (defBody sLSoon) (defScope sLSoon) .none kVLSo dcLSo pmLSo anLSo cdLSo ctLSo), slLSo⟩)
    (cLSo : PySem.W.codeIn K cdLSo "_law_soonest" = true) (kLSo : PySem.W.keepIn K (.ref fLSo) = true)
    (aLaw : PySem.W.nsIn K mainGlobals "law" = some (some (.ref fLaw)))
    (lLaw : K.lookup fLaw = some ⟨ocLaw, odLaw, .func (PySem.W.fnOf "law" "law" (defArgs sLaw) (defBody sLaw) (defScope sLaw) .none kVLaw dcLaw pmLaw anLaw cdLaw ctLaw), slLaw⟩)
    (cLaw : PySem.W.codeIn K cdLaw "law" = true) (kLaw : PySem.W.keepIn K (.ref fLaw) = true)
    (pg : PySem.W.plainGet K C Str.empty = true) (hd : PySem.W.hasDictIn K C = true) (po : PySem.W.plainOver K C = true) (sa : PySem.W.findIn K (.ref C) "__setattr__" = some (some (.builtin "object.__setattr__"))) (mk : PySem.W.makesIn K C = true) (kc : PySem.W.keepIn K (.ref C) = true)
    (nR : PySem.W.findIn K (.ref C) "rooms" = some none) (nD : PySem.W.findIn K (.ref C) "doors" = some none)
    (zlen : PySem.W.nsIn K mainGlobals "len" = some none)
    (zrange : PySem.W.nsIn K mainGlobals "range" = some none)
    (zall : PySem.W.nsIn K mainGlobals "all" = some none)
    (zany : PySem.W.nsIn K mainGlobals "any" = some none)
    (zset : PySem.W.nsIn K mainGlobals "set" = some none)
    (zsorted : PySem.W.nsIn K mainGlobals "sorted" = some none)
    (ztuple : PySem.W.nsIn K mainGlobals "tuple" = some none)
    (zdict : PySem.W.nsIn K mainGlobals "dict" = some none)
    (zlist : PySem.W.nsIn K mainGlobals "list" = some none)
    (zmax : PySem.W.nsIn K mainGlobals "max" = some none)
    (zmin : PySem.W.nsIn K mainGlobals "min" = some none)
    (zint : PySem.W.nsIn K mainGlobals "int" = some none)
    (vP : PySem.W.nsIn K mainGlobals "MOST_PORTERS" = some (some (.int 4 tP))) (vM : PySem.W.nsIn K mainGlobals "MOST_TIME" = some (some (.int 8 tM))) (vR : PySem.W.nsIn K mainGlobals "MOST_ROOMS" = some (some (.int 8 tR)))
    (vB : PySem.W.nsIn K mainGlobals "BEGIN" = some (some (.str sBeg tB))) (vE : PySem.W.nsIn K mainGlobals "END" = some (some (.str sFin tE)))
    (xN : PySem.W.excIn K CN [.type "ValueError", .type "Exception", .type "BaseException", .type "object"] "ValueError.__new__" = true) (kN : PySem.W.keepIn K (.ref CN) = true) (bN : PySem.W.subIn K (.ref CN) (.type "BaseException") = some true) (tN : PySem.W.typeIn K (.ref CN) = some (.type "type"))
    (iN : PySem.W.isClsIn K CN = true) (sN : PySem.W.subIn K (.ref CN) (.ref CN) = some true) :
    ∃ fd : FuncData, (∀ (s : Shared) (u : Value), BindsTo s fd ⟨[u], []⟩ [("script", u)]) ∧ ∀ base : Heap, K.In base → base.Ns mainGlobals mg → FnOk l.prog w K mg base CX0 38 fa fd ["script"] (spLaw K) := by
  have e := hfa.symm.trans (PySem.W.mg_of X G aLaw)
  cases e
  have T : Txt K mg C := ⟨⟨pg, hd, po, sa⟩, nR, nD, PySem.W.mg_of X G aC, PySem.W.mg_none_of X G zlen, PySem.W.mg_none_of X G zrange, PySem.W.mg_none_of X G zall, PySem.W.mg_none_of X G zany, PySem.W.mg_none_of X G zset, PySem.W.mg_none_of X G zsorted, PySem.W.mg_none_of X G ztuple, PySem.W.mg_none_of X G zdict, PySem.W.mg_none_of X G zlist, PySem.W.mg_none_of X G zmax, PySem.W.mg_none_of X G zmin, PySem.W.mg_none_of X G zint, ⟨_, PySem.W.mg_of X G vP⟩, ⟨_, PySem.W.mg_of X G vM⟩, ⟨_, PySem.W.mg_of X G vR⟩, ⟨_, PySem.W.mg_of X G vB⟩, ⟨_, PySem.W.mg_of X G vE⟩⟩
  have N : TxtN K mg CN := ⟨PySem.W.mg_of X G aN, xN, kN, bN, tN, exm_own bN iN tN sN⟩
  have FCell := fun_mk (st := sCell) lCell cCell kCell
  have bCell := FCell.binds (ps := ["script", "k"]) fun _ _ _ _ _ _ us hl => match us, hl with | [_, _], _ => rfl
  have mCell := PySem.W.mg_of X G aCell
  have FBeg := fun_mk (st := sBegin) lBeg cBeg kBeg
  have bBeg := FBeg.binds (ps := ["script", "k"]) fun _ _ _ _ _ _ us hl => match us, hl with | [_, _], _ => rfl
  have mBeg := PySem.W.mg_of X G aBeg
  have FTake := fun_mk (st := sTake) lTake cTake kTake
  have bTake := FTake.binds (ps := ["state", "many"]) fun _ _ _ _ _ _ us hl => match us, hl with | [_, _], _ => rfl
  have mTake := PySem.W.mg_of X G aTake
  have FLRo := fun_mk (st := sLRooms) lLRo cLRo kLRo
  have bLRo := FLRo.binds (ps := ["state", "rooms", "many"]) fun _ _ _ _ _ _ us hl => match us, hl with | [_, _, _], _ => rfl
  have mLRo := PySem.W.mg_of X G aLRo
  have FLNe := fun_mk (st := sLNear) lLNe cLNe kLNe
  have bLNe := FLNe.binds (ps := ["doors", "room"]) fun _ _ _ _ _ _ us hl => match us, hl with | [_, _], _ => rfl
  have mLNe := PySem.W.mg_of X G aLNe
  have FLDo := fun_mk (st := sLDoors) lLDo cLDo kLDo
  have bLDo := FLDo.binds (ps := ["state", "rooms"]) fun _ _ _ _ _ _ us hl => match us, hl with | [_, _], _ => rfl
  have mLDo := PySem.W.mg_of X G aLDo
  have FLWa := fun_mk (st := sLWay) lLWa cLWa kLWa
  have bLWa := FLWa.binds (ps := ["state", "doors", "first", "time"]) fun _ _ _ _ _ _ us hl => match us, hl with | [_, _, _, _], _ => rfl
  have mLWa := PySem.W.mg_of X G aLWa
  have FLSt := fun_mk (st := sLStart) lLSt cLSt kLSt
  have bLSt := FLSt.binds (ps := ["script"]) fun _ _ _ _ _ _ us hl => match us, hl with | [_], _ => rfl
  have mLSt := PySem.W.mg_of X G aLSt
  have FNear := fun_mk (st := sNear) lNear cNear kNear
  have bNear := FNear.binds (ps := ["self", "room"]) fun _ _ _ _ _ _ us hl => match us, hl with | [_, _], _ => rfl
  have tNear : Meth K C "near" fNear := ⟨aNear, iNear, kNear⟩
  have FInit := fun_mk (st := sInit) lInit cInit kInit
  have bInit := FInit.binds (ps := ["self", "rooms", "doors"]) fun _ _ _ _ _ _ us hl => match us, hl with | [_, _, _], _ => rfl
  have tInit : Meth K C "__init__" fInit := ⟨aInit, iInit, kInit⟩
  have FIsS := fun_mk (st := sIsStand) lIsS cIsS kIsS
  have bIsS := FIsS.binds (ps := ["floor", "stand"]) fun _ _ _ _ _ _ us hl => match us, hl with | [_, _], _ => rfl
  have mIsS := PySem.W.mg_of X G aIsS
  have FChS := fun_mk (st := sCheckStand) lChS cChS kChS
  have bChS := FChS.binds (ps := ["floor", "stand"]) fun _ _ _ _ _ _ us hl => match us, hl with | [_, _], _ => rfl
  have mChS := PySem.W.mg_of X G aChS
  have FChT := fun_mk (st := sCheckTwo) lChT cChT kChT
  have bChT := FChT.binds (ps := ["floor", "one", "two"]) fun _ _ _ _ _ _ us hl => match us, hl with | [_, _, _], _ => rfl
  have mChT := PySem.W.mg_of X G aChT
  have FExc := fun_mk (st := sExchange) lExc cExc kExc
  have bExc := FExc.binds (ps := ["one", "two", "porter", "other"]) fun _ _ _ _ _ _ us hl => match us, hl with | [_, _, _, _], _ => rfl
  have mExc := PySem.W.mg_of X G aExc
  have FCla := fun_mk (st := sClash) lCla cCla kCla
  have bCla := FCla.binds (ps := ["floor", "one", "two"]) fun _ _ _ _ _ _ us hl => match us, hl with | [_, _, _], _ => rfl
  have mCla := PySem.W.mg_of X G aCla
  have FChP := fun_mk (st := sCheckPlan) lChP cChP kChP
  have bChP := FChP.binds (ps := ["floor", "plan"]) fun _ _ _ _ _ _ us hl => match us, hl with | [_, _], _ => rfl
  have mChP := PySem.W.mg_of X G aChP
  have FLoo := fun_mk (st := sLooked) lLoo cLoo kLoo
  have bLoo := FLoo.binds (ps := ["floor", "plan"]) fun _ _ _ _ _ _ us hl => match us, hl with | [_, _], _ => rfl
  have mLoo := PySem.W.mg_of X G aLoo
  have FIsR := fun_mk (st := sIsRooms) lIsR cIsR kIsR
  have bIsR := FIsR.binds (ps := ["floor", "rooms"]) fun _ _ _ _ _ _ us hl => match us, hl with | [_, _], _ => rfl
  have mIsR := PySem.W.mg_of X G aIsR
  have FChR := fun_mk (st := sCheckRooms) lChR cChR kChR
  have bChR := FChR.binds (ps := ["floor", "first", "wanted"]) fun _ _ _ _ _ _ us hl => match us, hl with | [_, _, _], _ => rfl
  have mChR := PySem.W.mg_of X G aChR
  have FChM := fun_mk (st := sCheckTime) lChM cChM kChM
  have bChM := FChM.binds (ps := ["time"]) fun _ _ _ _ _ _ us hl => match us, hl with | [_], _ => rfl
  have mChM := PySem.W.mg_of X G aChM
  have FOnw := fun_mk (st := sOnward) lOnw cOnw kOnw
  have bOnw := FOnw.binds (ps := ["floor", "first", "wanted", "time", "place"]) fun _ _ _ _ _ _ us hl => match us, hl with | [_, _, _, _, _], _ => rfl
  have mOnw := PySem.W.mg_of X G aOnw
  have FCom := fun_mk (st := sCome) lCom cCom kCom
  have bCom := FCom.binds (ps := ["floor", "first", "wanted", "time", "used"]) fun _ _ _ _ _ _ us hl => match us, hl with | [_, _, _, _, _], _ => rfl
  have mCom := PySem.W.mg_of X G aCom
  have FPut := fun_mk (st := sPut) lPut cPut kPut
  have bPut := FPut.binds (ps := ["used", "found"]) fun _ _ _ _ _ _ us hl => match us, hl with | [_, _], _ => rfl
  have mPut := PySem.W.mg_of X G aPut
  have FAll := fun_mk (st := sAll) lAll cAll kAll
  have bAll := FAll.binds (ps := ["floor", "first", "wanted", "time"]) fun _ _ _ _ _ _ us hl => match us, hl with | [_, _, _, _], _ => rfl
  have mAll := PySem.W.mg_of X G aAll
  have FWaF := fun_mk (st := sWayF) lWaF cWaF kWaF
  have bWaF := FWaF.binds (ps := ["used", "room"]) fun _ _ _ _ _ _ us hl => match us, hl with | [_, _], _ => rfl
  have mWaF := PySem.W.mg_of X G aWaF
  have FApa := fun_mk (st := sApart) lApa cApa kApa
  have bApa := FApa.binds (ps := ["ways"]) fun _ _ _ _ _ _ us hl => match us, hl with | [_], _ => rfl
  have mApa := PySem.W.mg_of X G aApa
  have FSpo := fun_mk (st := sSpot) lSpo cSpo kSpo
  have bSpo := FSpo.binds (ps := ["pair"]) fun _ _ _ _ _ _ us hl => match us, hl with | [_], _ => rfl
  have mSpo := PySem.W.mg_of X G aSpo
  have FCut := fun_mk (st := sCutBy) lCut cCut kCut
  have bCut := FCut.binds (ps := ["floor", "first", "wanted", "time", "used", "found"]) fun _ _ _ _ _ _ us hl => match us, hl with | [_, _, _, _, _, _], _ => rfl
  have mCut := PySem.W.mg_of X G aCut
  have FAli := fun_mk (st := sAlike) lAli cAli kAli
  have bAli := FAli.binds (ps := ["floor", "first", "wanted", "time"]) fun _ _ _ _ _ _ us hl => match us, hl with | [_, _, _, _], _ => rfl
  have mAli := PySem.W.mg_of X G aAli
  have FPSt := fun_mk (st := sPlanStands) lPSt cPSt kPSt
  have bPSt := FPSt.binds (ps := ["floor", "first", "wanted", "time", "told"]) fun _ _ _ _ _ _ us hl => match us, hl with | [_, _, _, _, _], _ => rfl
  have mPSt := PySem.W.mg_of X G aPSt
  have FCSt := fun_mk (st := sCutStands) lCSt cCSt kCSt
  have bCSt := FCSt.binds (ps := ["floor", "first", "wanted", "time", "told"]) fun _ _ _ _ _ _ us hl => match us, hl with | [_, _, _, _, _], _ => rfl
  have mCSt := PySem.W.mg_of X G aCSt
  have FHol := fun_mk (st := sHolds) lHol cHol kHol
  have bHol := FHol.binds (ps := ["floor", "first", "wanted", "time", "told"]) fun _ _ _ _ _ _ us hl => match us, hl with | [_, _, _, _, _], _ => rfl
  have mHol := PySem.W.mg_of X G aHol
  have FSoo := fun_mk (st := sSoon) lSoo cSoo kSoo
  have bSoo := FSoo.binds (ps := ["floor", "first", "wanted"]) fun _ _ _ _ _ _ us hl => match us, hl with | [_, _, _], _ => rfl
  have mSoo := PySem.W.mg_of X G aSoo
  have FLSo := fun_mk (st := sLSoon) lLSo cLSo kLSo
  have bLSo := FLSo.binds (ps := ["floor", "first", "wanted"]) fun _ _ _ _ _ _ us hl => match us, hl with | [_, _, _], _ => rfl
  have mLSo := PySem.W.mg_of X G aLSo
  refine ⟨PySem.W.fnOf "law" "law" (defArgs sLaw) (defBody sLaw) (defScope sLaw) .none kVLaw dcLaw pmLaw anLaw cdLaw ctLaw, fun s v => .of_eq rfl, fun base _ _ => ?_⟩
  have GCell : FnOk l.prog w K mg base CX0 1 fCell _ ["script", "k"] (spCell K) := ok_cell FCell T
  have GBeg : FnOk l.prog w K mg base CX0 2 fBeg _ ["script", "k"] (spBegin K) := ok_begin FBeg T GCell kCell bCell mCell
  have GTake : FnOk l.prog w K mg base CX0 1 fTake _ ["state", "many"] spTake := ok_take FTake T
  have GLRo : FnOk l.prog w K mg base CX0 2 fLRo _ ["state", "rooms", "many"] spLRooms := ok_lrooms FLRo T GTake kTake bTake mTake
  have GLNe : FnOk l.prog w K mg base CX0 1 fLNe _ ["doors", "room"] spLNear := ok_lnear FLNe T
  have GLDo : FnOk l.prog w K mg base CX0 2 fLDo _ ["state", "rooms"] spLDoors := ok_ldoors FLDo T GTake kTake bTake mTake
  have GLWa : FnOk l.prog w K mg base CX0 2 fLWa _ ["state", "doors", "first", "time"] spLWay := ok_lway FLWa T GTake kTake bTake mTake GLNe kLNe bLNe mLNe
  have GLSt : FnOk l.prog w K mg base CX0 3 fLSt _ ["script"] (spLStart K) := ok_lstart FLSt T GBeg kBeg bBeg mBeg GTake kTake bTake mTake GLDo kLDo bLDo mLDo GLRo kLRo bLRo mLRo
  have GNear : FnOk l.prog w K mg base CX0 1 fNear _ ["self", "room"] (spNear C) := ok_near FNear T
  have GInit : FnOk l.prog w K mg base CX0 1 fInit _ ["self", "rooms", "doors"] (spInit C) := ok_init FInit T
  have GIsS : FnOk l.prog w K mg base CX0 1 fIsS _ ["floor", "stand"] (spIsStand C) := ok_isStand FIsS T
  have GChS : FnOk l.prog w K mg base CX0 2 fChS _ ["floor", "stand"] (spCheckStand C) := ok_checkStand FChS T GIsS kIsS bIsS mIsS
  have GChT : FnOk l.prog w K mg base CX0 3 fChT _ ["floor", "one", "two"] (spCheckTwo C) := ok_checkTwo FChT T GChS kChS bChS mChS
  have GExc : FnOk l.prog w K mg base CX0 1 fExc _ ["one", "two", "porter", "other"] spExchange := ok_exchange FExc T
  have GCla : FnOk l.prog w K mg base CX0 2 fCla _ ["floor", "one", "two"] (spClash C) := ok_clash FCla T tNear GNear bNear GExc kExc bExc mExc
  have GChP : FnOk l.prog w K mg base CX0 4 fChP _ ["floor", "plan"] (spCheckPlan C) := ok_checkPlan FChP T GChT kChT bChT mChT
  have GLoo : FnOk l.prog w K mg base CX0 5 fLoo _ ["floor", "plan"] (spLooked C) := ok_looked FLoo T GChP kChP bChP mChP GCla kCla bCla mCla
  have GIsR : FnOk l.prog w K mg base CX0 1 fIsR _ ["floor", "rooms"] (spIsRooms C) := ok_isRooms FIsR T
  have GChR : FnOk l.prog w K mg base CX0 2 fChR _ ["floor", "first", "wanted"] (spCheckRooms C) := ok_checkRooms FChR T GIsR kIsR bIsR mIsR
  have GChM : FnOk l.prog w K mg base CX0 1 fChM _ ["time"] spCheckTime := ok_checkTime FChM T
  have GOnw : FnOk l.prog w K mg base CX0 2 fOnw _ ["floor", "first", "wanted", "time", "place"] (spOnward C) := ok_onward FOnw T tNear GNear bNear
  have GCom : FnOk l.prog w K mg base CX0 3 fCom _ ["floor", "first", "wanted", "time", "used"] (spCome w C) := ok_come FCom T GOnw kOnw bOnw mOnw
  have GPut : FnOk l.prog w K mg base CX0 1 fPut _ ["used", "found"] (spPut w) := ok_put FPut T
  have GAll : FnOk l.prog w K mg base CX0 4 fAll _ ["floor", "first", "wanted", "time"] (spAll w C) := ok_all FAll T GCom kCom bCom mCom GPut kPut bPut mPut
  have GWaF : FnOk l.prog w K mg base CX0 1 fWaF _ ["used", "room"] (spWayF w) := ok_wayF FWaF T
  have GApa : FnOk l.prog w K mg base CX0 34 fApa _ ["ways"] (spApart 33) := ok_apart FApa T kApa bApa mApa 33
  have GSpo : FnOk l.prog w K mg base CX0 1 fSpo _ ["pair"] spSpot := ok_spot FSpo T
  have GCut : FnOk l.prog w K mg base CX0 3 fCut _ ["floor", "first", "wanted", "time", "used", "found"] (spCutBy w C) := ok_cutBy FCut T GOnw kOnw bOnw mOnw GSpo kSpo bSpo mSpo
  have GAli : FnOk l.prog w K mg base CX0 35 fAli _ ["floor", "first", "wanted", "time"] (spAlike C) := ok_alike FAli T GChR kChR bChR mChR GChM kChM bChM mChM GAll kAll bAll mAll GWaF kWaF bWaF mWaF GApa kApa bApa mApa GCut kCut bCut mCut
  have GPSt : FnOk l.prog w K mg base CX0 3 fPSt _ ["floor", "first", "wanted", "time", "told"] (spPlanStands C) := ok_planStands FPSt T GIsS kIsS bIsS mIsS GCla kCla bCla mCla
  have GCSt : FnOk l.prog w K mg base CX0 2 fCSt _ ["floor", "first", "wanted", "time", "told"] (spCutStands C) := ok_cutStands FCSt T tNear GNear bNear
  have GHol : FnOk l.prog w K mg base CX0 4 fHol _ ["floor", "first", "wanted", "time", "told"] (spHolds C) := ok_holds FHol T GChR kChR bChR mChR GChM kChM bChM mChM GPSt kPSt bPSt mPSt GCSt kCSt bCSt mCSt
  have GSoo : FnOk l.prog w K mg base (L2.CX l.prog w) 36 fSoo _ ["floor", "first", "wanted"] (spSoon C CN) := ok_soon FSoo T N GChR kChR bChR mChR GAli kAli bAli mAli
  have GLSo : FnOk l.prog w K mg base CX0 37 fLSo _ ["floor", "first", "wanted"] (spLSoon C) := ok_lsoon FLSo T N GSoo kSoo bSoo mSoo
  exact ok_law (fun_mk (st := sLaw) lLaw cLaw kLaw) T ⟨mk, aInit, iInit, kc⟩ GLSt kLSt bLSt mLSt GInit bInit GAli kAli bAli mAli GLSo kLSo bLSo mLSo GHol kHol bHol mHol GLoo kLoo bLoo mLoo GLWa kLWa bLWa mLWa
end PW
open PySem PySem.W PyProof.Rows in
set_option maxRecDepth 100000 in
set_option maxHeartbeats 0 in
theorem PySem.Challenge.cw_portermaze_k57_whole_plans_and_cuts_holds : PySem.Challenge.rw_portermaze_k57_whole_plans_and_cuts.Holds := by
  w_on; o_law; k_head; (case hw => w_witness2)
  k_fill
  refine L2.walk_of (l := PySem.Challenge.rw_portermaze_k57_whole_plans_and_cuts) (n := 63) (k := 38) (x := "script") (CX := fun _ => L2.CX0) (sp := fun w => PW.spLaw _) rfl (by decide) rfl ⟨rfl, by decide, by decide⟩ (fun w h Y => PySem.W.kIn_of Y) ?F (fun _ _ a ns hl _ hS => ⟨a, ns, rfl, hS, fun _ => rfl⟩) (fun _ _ _ _ _ z => z)
  case F =>
    intro w mg fa h KX G hmg
    refine' PW.all_mk KX G hmg ?aC ?aN ?aCell ?lCell ?cCell ?kCell ?aBeg ?lBeg ?cBeg ?kBeg ?aTake ?lTake ?cTake ?kTake ?aLRo ?lLRo ?cLRo ?kLRo ?aLNe ?lLNe ?cLNe ?kLNe ?aLDo ?lLDo ?cLDo ?kLDo ?aLWa ?lLWa ?cLWa ?kLWa ?aLSt ?lLSt ?cLSt ?kLSt ?aNear ?iNear ?lNear ?cNear ?kNear ?aInit ?iInit ?lInit ?cInit ?kInit ?aIsS ?lIsS ?cIsS ?kIsS ?aChS ?lChS ?cChS ?kChS ?aChT ?lChT ?cChT ?kChT ?aExc ?lExc ?cExc ?kExc ?aCla ?lCla ?cCla ?kCla ?aChP ?lChP ?cChP ?kChP ?aLoo ?lLoo ?cLoo ?kLoo ?aIsR ?lIsR ?cIsR ?kIsR ?aChR ?lChR ?cChR ?kChR ?aChM ?lChM ?cChM ?kChM ?aOnw ?lOnw ?cOnw ?kOnw ?aCom ?lCom ?cCom ?kCom ?aPut ?lPut ?cPut ?kPut ?aAll ?lAll ?cAll ?kAll ?aWaF ?lWaF ?cWaF ?kWaF ?aApa ?lApa ?cApa ?kApa ?aSpo ?lSpo ?cSpo ?kSpo ?aCut ?lCut ?cCut ?kCut ?aAli ?lAli ?cAli ?kAli ?aPSt ?lPSt ?cPSt ?kPSt ?aCSt ?lCSt ?cCSt ?kCSt ?aHol ?lHol ?cHol ?kHol ?aSoo ?lSoo ?cSoo ?kSoo ?aLSo ?lLSo ?cLSo ?kLSo ?aLaw ?lLaw ?cLaw ?kLaw ?pg ?hd ?po ?sa ?mk ?kc ?nR ?nD ?zlen ?zrange ?zall ?zany ?zset ?zsorted ?ztuple ?zdict ?zlist ?zmax ?zmin ?zint ?vP ?vM ?vR ?vB ?vE ?xN ?kN ?bN ?tN ?iN ?sN
    (case aC => k_is)
    (case aN => k_is)
    (case aCell => k_is)
    (case lCell => k_is)
    (case cCell => k_is)
    (case kCell => k_is)
    (case aBeg => k_is)
    (case lBeg => k_is)
    (case cBeg => k_is)
    (case kBeg => k_is)
    (case aTake => k_is)
    (case lTake => k_is)
    (case cTake => k_is)
    (case kTake => k_is)
    (case aLRo => k_is)
    (case lLRo => k_is)
    (case cLRo => k_is)
    (case kLRo => k_is)
    (case aLNe => k_is)
    (case lLNe => k_is)
    (case cLNe => k_is)
    (case kLNe => k_is)
    (case aLDo => k_is)
    (case lLDo => k_is)
    (case cLDo => k_is)
    (case kLDo => k_is)
    (case aLWa => k_is)
    (case lLWa => k_is)
    (case cLWa => k_is)
    (case kLWa => k_is)
    (case aLSt => k_is)
    (case lLSt => k_is)
    (case cLSt => k_is)
    (case kLSt => k_is)
    (case aNear => k_is)
    (case iNear => k_is)
    (case lNear => k_is)
    (case cNear => k_is)
    (case kNear => k_is)
    (case aInit => k_is)
    (case iInit => k_is)
    (case lInit => k_is)
    (case cInit => k_is)
    (case kInit => k_is)
    (case aIsS => k_is)
    (case lIsS => k_is)
    (case cIsS => k_is)
    (case kIsS => k_is)
    (case aChS => k_is)
    (case lChS => k_is)
    (case cChS => k_is)
    (case kChS => k_is)
    (case aChT => k_is)
    (case lChT => k_is)
    (case cChT => k_is)
    (case kChT => k_is)
    (case aExc => k_is)
    (case lExc => k_is)
    (case cExc => k_is)
    (case kExc => k_is)
    (case aCla => k_is)
    (case lCla => k_is)
    (case cCla => k_is)
    (case kCla => k_is)
    (case aChP => k_is)
    (case lChP => k_is)
    (case cChP => k_is)
    (case kChP => k_is)
    (case aLoo => k_is)
    (case lLoo => k_is)
    (case cLoo => k_is)
    (case kLoo => k_is)
    (case aIsR => k_is)
    (case lIsR => k_is)
    (case cIsR => k_is)
    (case kIsR => k_is)
    (case aChR => k_is)
    (case lChR => k_is)
    (case cChR => k_is)
    (case kChR => k_is)
    (case aChM => k_is)
    (case lChM => k_is)
    (case cChM => k_is)
    (case kChM => k_is)
    (case aOnw => k_is)
    (case lOnw => k_is)
    (case cOnw => k_is)
    (case kOnw => k_is)
    (case aCom => k_is)
    (case lCom => k_is)
    (case cCom => k_is)
    (case kCom => k_is)
    (case aPut => k_is)
    (case lPut => k_is)
    (case cPut => k_is)
    (case kPut => k_is)
    (case aAll => k_is)
    (case lAll => k_is)
    (case cAll => k_is)
    (case kAll => k_is)
    (case aWaF => k_is)
    (case lWaF => k_is)
    (case cWaF => k_is)
    (case kWaF => k_is)
    (case aApa => k_is)
    (case lApa => k_is)
    (case cApa => k_is)
    (case kApa => k_is)
    (case aSpo => k_is)
    (case lSpo => k_is)
    (case cSpo => k_is)
    (case kSpo => k_is)
    (case aCut => k_is)
    (case lCut => k_is)
    (case cCut => k_is)
    (case kCut => k_is)
    (case aAli => k_is)
    (case lAli => k_is)
    (case cAli => k_is)
    (case kAli => k_is)
    (case aPSt => k_is)
    (case lPSt => k_is)
    (case cPSt => k_is)
    (case kPSt => k_is)
    (case aCSt => k_is)
    (case lCSt => k_is)
    (case cCSt => k_is)
    (case kCSt => k_is)
    (case aHol => k_is)
    (case lHol => k_is)
    (case cHol => k_is)
    (case kHol => k_is)
    (case aSoo => k_is)
    (case lSoo => k_is)
    (case cSoo => k_is)
    (case kSoo => k_is)
    (case aLSo => k_is)
    (case lLSo => k_is)
    (case cLSo => k_is)
    (case kLSo => k_is)
    (case aLaw => k_is)
    (case lLaw => k_is)
    (case cLaw => k_is)
    (case kLaw => k_is)
    (case pg => k_is)
    (case hd => k_is)
    (case po => k_is)
    (case sa => k_is)
    (case mk => k_is)
    (case kc => k_is)
    (case nR => k_is)
    (case nD => k_is)
    (case zlen => k_is)
    (case zrange => k_is)
    (case zall => k_is)
    (case zany => k_is)
    (case zset => k_is)
    (case zsorted => k_is)
    (case ztuple => k_is)
    (case zdict => k_is)
    (case zlist => k_is)
    (case zmax => k_is)
    (case zmin => k_is)
    (case zint => k_is)
    (case vP => k_is)
    (case vM => k_is)
    (case vR => k_is)
    (case vB => k_is)
    (case vE => k_is)
    (case xN => k_exc)
    (case kN => k_is)
    (case bN => k_is)
    (case tN => k_is)
    (case iN => k_is)
    (case sN => first | rfl | k_is)
