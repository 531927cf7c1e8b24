import PyProof.Rows.All
import Wide.All
import OpenK.AllK
import Wide.FinOn
import HandS.ForMost
import HandS.Conv
import HandS.FStr
import HandS.IsInst
import HandS.Star
import HandS.ClsMeth
import HandS.Property
import HandS.GenList
import HandS.TupAny
import HandS.Deep
import HandS.TupSets
import HandS.SetFor
import HandS.Zip
import HandS.Strs
import HandS.Walk
import HandS.Small
import KE.SortData
import KE.GoesNew
import KE.GoesMore
import HandS.ExcValue
import HandS.Codes
import HandS.HeadEnd
import HandS.HeadHook1
import HandS.HeadHook2
import HandS.HeadNt
import PySem.Challenge.RW_countalike_k45_whole_alike_questions_cou
import KE.KxText
import KE.KStateDown
import HandS.Defaults
import HandS.Head0
import HandS.Head1
import HandS.Head2
set_option Elab.async false
set_option linter.all false
/-! The mathematics of counting: no program here. -/
namespace CA
universe u
variable {κ : Type} [DecidableEq κ]

/-! ### sums over lists -/
def sm {α : Type u} (xs : List α) (f : α → Int) : Int := (xs.map f).sum
theorem sm_nil {α : Type u} (f : α → Int) : sm [] f = 0 := rfl
theorem sm_cons {α : Type u} (x : α) (xs : List α) (f : α → Int) : sm (x :: xs) f = f x + sm xs f := by
  unfold sm; rw [List.map_cons, List.sum_cons]
theorem sm_append {α : Type u} (xs ys : List α) (f : α → Int) : sm (xs ++ ys) f = sm xs f + sm ys f := by
  induction xs with
  | nil => rw [List.nil_append, sm_nil]; omega
  | cons x xs ih => rw [List.cons_append, sm_cons, sm_cons, ih]; omega
theorem sm_congr {α : Type u} {xs : List α} {f g : α → Int} (h : ∀ x ∈ xs, f x = g x) : sm xs f = sm xs g := by
  induction xs with
  | nil => rfl
  | cons x xs ih =>
    rw [sm_cons, sm_cons, h x List.mem_cons_self, ih fun y hy => h y (List.mem_cons_of_mem _ hy)]
theorem sm_zero {α : Type u} {xs : List α} {f : α → Int} (h : ∀ x ∈ xs, f x = 0) : sm xs f = 0 := by
  induction xs with
  | nil => rfl
  | cons x xs ih =>
    rw [sm_cons, h x List.mem_cons_self, ih fun y hy => h y (List.mem_cons_of_mem _ hy)]; rfl
theorem sm_add {α : Type u} (xs : List α) (f g : α → Int) : sm xs (fun x => f x + g x) = sm xs f + sm xs g := by
  induction xs with
  | nil => rfl
  | cons x xs ih => rw [sm_cons, sm_cons, sm_cons, ih]; omega
theorem sm_mul {α : Type u} (c : Int) (xs : List α) (f : α → Int) : sm xs (fun x => c * f x) = c * sm xs f := by
  induction xs with
  | nil => rw [sm_nil, sm_nil, Int.mul_zero]
  | cons x xs ih => rw [sm_cons, sm_cons, ih, Int.mul_add]
theorem sm_mulr {α : Type u} (c : Int) (xs : List α) (f : α → Int) : sm xs (fun x => f x * c) = sm xs f * c := by
  induction xs with
  | nil => rw [sm_nil, sm_nil, Int.zero_mul]
  | cons x xs ih => rw [sm_cons, sm_cons, ih, Int.add_mul]
theorem sm_swap {α β : Type u} (xs : List α) (ys : List β) (f : α → β → Int) : sm xs (fun x => sm ys (f x)) = sm ys fun y => sm xs fun x => f x y := by
  induction xs with
  | nil =>
    rw [sm_nil]
    exact (sm_zero fun y _ => rfl).symm
  | cons x xs ih =>
    rw [sm_cons, ih, ← sm_add]
    exact sm_congr fun y _ => (sm_cons x xs (fun z => f z y)).symm
theorem sm_perm {α : Type u} {xs ys : List α} (h : xs.Perm ys) (f : α → Int) : sm xs f = sm ys f := by
  induction h with
  | nil => rfl
  | cons x _ ih => rw [sm_cons, sm_cons, ih]
  | swap x y l => rw [sm_cons, sm_cons, sm_cons, sm_cons]; omega
  | trans _ _ ih1 ih2 => rw [ih1, ih2]
theorem sm_map {α β : Type u} (g : α → β) (xs : List α) (f : β → Int) : sm (xs.map g) f = sm xs fun x => f (g x) := by
  unfold sm; rw [List.map_map]; rfl
theorem sm_flatMap {α β : Type u} (xs : List α) (g : α → List β) (f : β → Int) : sm (xs.flatMap g) f = sm xs fun x => sm (g x) f := by
  induction xs with
  | nil => rfl
  | cons x xs ih => rw [List.flatMap_cons, sm_append, sm_cons, ih]
theorem sm_filterMap {α β : Type u} (xs : List α) (g : α → Option β) (f : β → Int) : sm (xs.filterMap g) f = sm xs fun x => match g x with | some y => f y | none => 0 := by
  induction xs with
  | nil => rfl
  | cons x xs ih =>
    rw [sm_cons, List.filterMap_cons]
    cases h : g x with
    | none => simp only; rw [ih]; omega
    | some y => simp only; rw [sm_cons, ih]
theorem sm_nonneg {α : Type u} {xs : List α} {f : α → Int} (h : ∀ x ∈ xs, 0 ≤ f x) : 0 ≤ sm xs f := by
  induction xs with
  | nil => exact Int.le_refl _
  | cons x xs ih =>
    rw [sm_cons]
    have h1 := h x List.mem_cons_self
    have h2 := ih fun y hy => h y (List.mem_cons_of_mem _ hy)
    omega
theorem sm_pos {α : Type u} {xs : List α} {f : α → Int} (h : ∀ x ∈ xs, 0 ≤ f x) {x : α} (hx : x ∈ xs) (hp : 0 < f x) : 0 < sm xs f := by
  induction xs with
  | nil => cases hx
  | cons y xs ih =>
    rw [sm_cons]
    have h1 := h y List.mem_cons_self
    have h2 := sm_nonneg (xs := xs) (f := f) fun z hz => h z (List.mem_cons_of_mem _ hz)
    rcases List.mem_cons.mp hx with e | hx
    · subst e; omega
    · have h3 := ih (fun z hz => h z (List.mem_cons_of_mem _ hz)) hx
      omega
theorem sm_ne {α : Type u} {xs : List α} {f : α → Int} (h : sm xs f ≠ 0) : ∃ x ∈ xs, f x ≠ 0 := by
  induction xs with
  | nil => exact absurd rfl h
  | cons y xs ih =>
    by_cases hy : f y = 0
    · rw [sm_cons, hy, Int.zero_add] at h
      obtain ⟨x, hx, hf⟩ := ih h
      exact ⟨x, List.mem_cons_of_mem _ hx, hf⟩
    · exact ⟨y, List.mem_cons_self, hy⟩

/-! ### atoms, rows, ways -/
abbrev At (κ : Type) := κ × Int × Int
abbrev Rw (κ : Type) := κ × Int × Int × Int
def key (r : Rw κ) : At κ := (r.1, r.2.1, r.2.2.1)
def oft (r : Rw κ) : Int := r.2.2.2
def ap (f : Int → Int) (a : At κ) : At κ := (a.1, f a.2.1, f a.2.2)

/-- a dict of ints: its entries in order -/
abbrev Mp := List (Int × Int)
def look : Mp → Int → Option Int
  | [], _ => none
  | (k, v) :: m, x => if k = x then some v else look m x
/-- d[k] = v -/
def putI (m : Mp) (k v : Int) : Mp := if (look m k).isSome then m.map (fun p => if p.1 = k then (p.1, v) else p) else m ++ [(k, v)]
def ext1 (m : Mp) (k v : Int) : Option Mp := if (look m k).getD v = v then some (putI m k v) else none
def ext (m : Mp) (l x r y : Int) : Option Mp := (ext1 m l x).bind fun m' => ext1 m' r y
/-- what one row gives for an atom from one state -/
def one1 (a : At κ) (row : Rw κ) (mw : Mp × Int) : Option (Mp × Int) :=
  if row.1 = a.1 then (ext mw.1 a.2.1 row.2.1 a.2.2 row.2.2.1).map (fun m' => (m', mw.2 * oft row)) else none
def stepW (a : At κ) (rows : List (Rw κ)) (found : List (Mp × Int)) : List (Mp × Int) := found.flatMap fun mw => rows.filterMap fun row => one1 a row mw
def waysFrom (as : List (At κ)) (rows : List (Rw κ)) (found : List (Mp × Int)) : List (Mp × Int) := as.foldl (fun f a => stepW a rows f) found
def ways (as : List (At κ)) (rows : List (Rw κ)) : List (Mp × Int) := waysFrom as rows [([], 1)]
def cnt (as : List (At κ)) (rows : List (Rw κ)) : Int := sm (ways as rows) (·.2)

theorem look_append (m : Mp) (k v x : Int) (h : look m k = none) : look (m ++ [(k, v)]) x = if k = x then some v else look m x := by
  induction m with
  | nil => rfl
  | cons p m ih =>
    obtain ⟨k', v'⟩ := p
    have h1 : ¬ k' = k := fun e => by simp [look, e] at h
    have h2 : look m k = none := by simpa [look, h1] using h
    show (if k' = x then some v' else look (m ++ [(k, v)]) x) = _
    rw [ih h2]
    show _ = (if k = x then some v else if k' = x then some v' else look m x)
    by_cases e1 : k' = x
    · have e2 : ¬ k = x := fun e => h1 (e1.trans e.symm)
      rw [if_pos e1, if_neg e2, if_pos e1]
    · rw [if_neg e1, if_neg e1]
theorem look_map (m : Mp) (k v x : Int) : look (m.map fun p => if p.1 = k then (p.1, v) else p) x = if k = x then (look m x).map (fun _ => v) else look m x := by
  induction m with
  | nil => simp [look]
  | cons p m ih =>
    obtain ⟨k', v'⟩ := p
    rw [List.map_cons]
    by_cases e : k' = k
    · subst e
      show look ((if k' = k' then (k', v) else (k', v')) :: _) x = _
      rw [if_pos rfl]
      show (if k' = x then some v else look _ x) = _
      rw [ih]
      by_cases e1 : k' = x
      · subst e1; simp [look]
      · simp [look, e1]
    · show look ((if k' = k then (k', v) else (k', v')) :: _) x = _
      rw [if_neg e]
      show (if k' = x then some v' else look _ x) = _
      rw [ih]
      by_cases e1 : k' = x
      · subst e1; simp [look, Ne.symm e]
      · simp [look, e1]
theorem look_put (m : Mp) (k v x : Int) : look (putI m k v) x = if k = x then some v else look m x := by
  unfold putI
  cases h : look m k with
  | none =>
    simp only [Option.isSome_none]
    rw [if_neg (by simp), look_append m k v x h]
  | some w =>
    simp only [Option.isSome_some, if_true]
    rw [look_map]
    by_cases e : k = x
    · subst e; simp [h]
    · rw [if_neg e, if_neg e]

/-! ### the count as a sum over choices -/
/-- some valuation sends each atom to the key beside it -/
def Fits (ps : List (At κ × At κ)) : Prop := ∃ f : Int → Int, ∀ p ∈ ps, p.2 = ap f p.1
/-- the sum over the choices of a row for each atom -/
noncomputable def S : List (At κ) → List (Rw κ) → List (At κ × At κ) → Int
  | [], _, ps => by classical exact if Fits ps then 1 else 0
  | a :: as, rows, ps => sm rows fun r => oft r * S as rows ((a, key r) :: ps)

theorem S_nil (rows : List (Rw κ)) (ps : List (At κ × At κ)) [Decidable (Fits ps)] : S [] rows ps = if Fits ps then 1 else 0 := by
  unfold S
  by_cases h : Fits ps
  · simp [h]
  · simp [h]
theorem S_cons (a : At κ) (as : List (At κ)) (rows : List (Rw κ)) (ps : List (At κ × At κ)) : S (a :: as) rows ps = sm rows fun r => oft r * S as rows ((a, key r) :: ps) := rfl

theorem Fits.mono {ps qs : List (At κ × At κ)} (h : ∀ p ∈ ps, p ∈ qs) (f : Fits qs) : Fits ps := by
  obtain ⟨f, hf⟩ := f
  exact ⟨f, fun p hp => hf p (h p hp)⟩
theorem S_not (as : List (At κ)) (rows : List (Rw κ)) : ∀ ps : List (At κ × At κ), ¬ Fits ps → S as rows ps = 0 := by
  classical
  induction as with
  | nil => intro ps h; rw [S_nil, if_neg h]
  | cons a as ih =>
    intro ps h
    rw [S_cons]
    refine sm_zero fun r _ => ?_
    rw [ih _ fun f => h (f.mono fun p hp => List.mem_cons_of_mem _ hp), Int.mul_zero]
theorem S_same (as : List (At κ)) (rows : List (Rw κ)) : ∀ ps qs : List (At κ × At κ), (∀ p, p ∈ ps ↔ p ∈ qs) → S as rows ps = S as rows qs := by
  classical
  induction as with
  | nil =>
    intro ps qs h
    have e : Fits ps ↔ Fits qs := ⟨fun f => f.mono fun p hp => (h p).2 hp, fun f => f.mono fun p hp => (h p).1 hp⟩
    rw [S_nil, S_nil]
    by_cases hp : Fits ps
    · rw [if_pos hp, if_pos (e.1 hp)]
    · rw [if_neg hp, if_neg fun q => hp (e.2 q)]
  | cons a as ih =>
    intro ps qs h
    rw [S_cons, S_cons]
    refine sm_congr fun r _ => ?_
    rw [ih _ ((a, key r) :: qs) fun p => by simp only [List.mem_cons, h p]]
theorem S_perm {as bs : List (At κ)} (h : as.Perm bs) (rows : List (Rw κ)) : ∀ ps : List (At κ × At κ), S as rows ps = S bs rows ps := by
  induction h with
  | nil => intro ps; rfl
  | cons a _ ih =>
    intro ps
    rw [S_cons, S_cons]
    exact sm_congr fun r _ => by rw [ih]
  | swap a b l =>
    intro ps
    rw [S_cons, S_cons]
    have e : ∀ (x y : At κ), (sm rows fun r => oft r * S (y :: l) rows ((x, key r) :: ps)) = sm rows fun r => sm rows fun s => oft r * (oft s * S l rows ((y, key s) :: (x, key r) :: ps)) := fun x y =>
      sm_congr fun r _ => by rw [S_cons, ← sm_mul]
    rw [e, e, sm_swap]
    refine sm_congr fun r _ => sm_congr fun s _ => ?_
    rw [S_same l rows _ ((b, key s) :: (a, key r) :: ps) fun p => by simp only [List.mem_cons]; constructor <;> (rintro (h | h | h) <;> simp [h])]
    rw [← Int.mul_assoc, ← Int.mul_assoc, Int.mul_comm (oft s) (oft r)]
  | trans _ _ ih1 ih2 => intro ps; rw [ih1, ih2]
theorem S_rows {rows rows' : List (Rw κ)} (h : rows.Perm rows') (as : List (At κ)) : ∀ ps : List (At κ × At κ), S as rows ps = S as rows' ps := by
  classical
  induction as with
  | nil => intro ps; rw [S_nil, S_nil]
  | cons a as ih =>
    intro ps
    rw [S_cons, S_cons, sm_perm h]
    exact sm_congr fun r _ => by rw [ih]

/-- a state of the program's search stands for the pairs chosen so far -/
def Rep (m : Mp) (ps : List (At κ × At κ)) : Prop := ∀ f : Int → Int, (∀ p ∈ ps, p.2 = ap f p.1) ↔ ∀ k v, look m k = some v → f k = v
theorem Rep.nil : Rep (κ := κ) [] [] := fun f => ⟨fun _ k v h => by simp [look] at h, fun _ p hp => by cases hp⟩
theorem Rep.fits {m : Mp} {ps : List (At κ × At κ)} (h : Rep m ps) : Fits ps :=
  ⟨fun k => (look m k).getD 0, (h _).2 fun k v e => by rw [e]; rfl⟩
theorem ext1_iff {m m' : Mp} {k v : Int} (h : ext1 m k v = some m') (f : Int → Int) : (∀ x y, look m' x = some y → f x = y) ↔ (∀ x y, look m x = some y → f x = y) ∧ f k = v := by
  unfold ext1 at h
  split at h
  · rename_i hg
    cases h
    constructor
    · intro q
      refine ⟨fun x y e => ?_, q k v (by rw [look_put, if_pos rfl])⟩
      by_cases ex : k = x
      · subst ex
        rw [e] at hg
        have : y = v := hg
        subst this
        exact q k y (by rw [look_put, if_pos rfl])
      · exact q x y (by rw [look_put, if_neg ex]; exact e)
    · rintro ⟨q, qk⟩ x y e
      rw [look_put] at e
      by_cases ex : k = x
      · subst ex
        rw [if_pos rfl] at e
        cases e
        exact qk
      · rw [if_neg ex] at e
        exact q x y e
  · cases h
theorem ext1_none {m : Mp} {k v : Int} (h : ext1 m k v = none) (f : Int → Int) : ¬ ((∀ x y, look m x = some y → f x = y) ∧ f k = v) := by
  unfold ext1 at h
  split at h
  · cases h
  · rename_i hg
    rintro ⟨q, qk⟩
    cases e : look m k with
    | none => rw [e] at hg; exact hg rfl
    | some y =>
      rw [e] at hg
      exact hg ((q k y e).symm.trans qk)
theorem ext_iff {m m' : Mp} {l x r y : Int} (h : ext m l x r y = some m') (f : Int → Int) : (∀ k v, look m' k = some v → f k = v) ↔ (∀ k v, look m k = some v → f k = v) ∧ f l = x ∧ f r = y := by
  unfold ext at h
  cases e : ext1 m l x with
  | none => rw [e] at h; cases h
  | some m1 =>
    rw [e] at h
    rw [ext1_iff h f, ext1_iff e f, and_assoc]
theorem ext_none {m : Mp} {l x r y : Int} (h : ext m l x r y = none) (f : Int → Int) : ¬ ((∀ k v, look m k = some v → f k = v) ∧ f l = x ∧ f r = y) := by
  unfold ext at h
  cases e : ext1 m l x with
  | none => exact fun q => ext1_none e f ⟨q.1, q.2.1⟩
  | some m1 =>
    rw [e] at h
    exact fun q => ext1_none h f ⟨(ext1_iff e f).2 ⟨q.1, q.2.1⟩, q.2.2⟩

theorem waysFrom_nil (rows : List (Rw κ)) (found : List (Mp × Int)) : waysFrom [] rows found = found := rfl
theorem waysFrom_cons (a : At κ) (as : List (At κ)) (rows : List (Rw κ)) (found : List (Mp × Int)) : waysFrom (a :: as) rows found = waysFrom as rows (stepW a rows found) := rfl
/-- the sum of the weights from one state on -/
def cfrom : List (At κ) → List (Rw κ) → Mp → Int
  | [], _, _ => 1
  | a :: as, rows, m => sm rows fun row => if row.1 = a.1 then (match ext m a.2.1 row.2.1 a.2.2 row.2.2.1 with | some m' => oft row * cfrom as rows m' | none => 0) else 0
theorem sm_ways (as : List (At κ)) (rows : List (Rw κ)) : ∀ found : List (Mp × Int), sm (waysFrom as rows found) (·.2) = sm found fun mw => mw.2 * cfrom as rows mw.1 := by
  induction as with
  | nil =>
    intro found
    rw [waysFrom_nil]
    exact sm_congr fun mw _ => by
      show mw.2 = mw.2 * 1
      rw [Int.mul_one]
  | cons a as ih =>
    intro found
    rw [waysFrom_cons, ih]
    unfold stepW
    rw [sm_flatMap]
    refine sm_congr fun mw _ => ?_
    rw [sm_filterMap]
    show _ = mw.2 * sm rows _
    rw [← sm_mul]
    refine sm_congr fun row _ => ?_
    unfold one1
    by_cases h : row.1 = a.1
    · rw [if_pos h, if_pos h]
      cases e : ext mw.1 a.2.1 row.2.1 a.2.2 row.2.2.1 with
      | none => simp
      | some m' =>
        simp only [Option.map_some]
        rw [Int.mul_assoc]
    · rw [if_neg h, if_neg h]; simp
theorem cfrom_S (as : List (At κ)) (rows : List (Rw κ)) : ∀ (m : Mp) (ps : List (At κ × At κ)), Rep m ps → cfrom as rows m = S as rows ps := by
  classical
  induction as with
  | nil => intro m ps h; rw [S_nil, if_pos h.fits]; rfl
  | cons a as ih =>
    intro m ps h
    rw [S_cons]
    show sm rows _ = _
    refine sm_congr fun row _ => ?_
    by_cases hk : row.1 = a.1
    · rw [if_pos hk]
      have eqv : ∀ f : Int → Int, key row = ap f a ↔ f a.2.1 = row.2.1 ∧ f a.2.2 = row.2.2.1 := fun f => by
        unfold key ap
        constructor
        · intro e
          injection e with e1 e2
          injection e2 with e2 e3
          exact ⟨e2.symm, e3.symm⟩
        · rintro ⟨e2, e3⟩
          rw [hk, e2, e3]
      cases e : ext m a.2.1 row.2.1 a.2.2 row.2.2.1 with
      | none =>
        simp only
        rw [S_not as rows _ ?_, Int.mul_zero]
        rintro ⟨f, hf⟩
        have h1 := hf _ List.mem_cons_self
        have h2 := (h f).1 fun p hp => hf p (List.mem_cons_of_mem _ hp)
        exact ext_none e f ⟨h2, (eqv f).1 h1⟩
      | some m' =>
        simp only
        rw [ih m' ((a, key row) :: ps) fun f => ?_]
        rw [ext_iff e f, ← h f, ← eqv f]
        simp only [List.mem_cons, forall_eq_or_imp]
        exact And.comm
    · rw [if_neg hk, S_not as rows _ ?_, Int.mul_zero]
      rintro ⟨f, hf⟩
      have h1 : key row = ap f a := hf _ List.mem_cons_self
      exact hk (congrArg Prod.fst h1)
theorem cnt_S (as : List (At κ)) (rows : List (Rw κ)) : cnt as rows = S as rows [] := by
  unfold cnt ways
  rw [sm_ways, sm_cons, sm_nil, cfrom_S as rows [] [] Rep.nil]
  show (1 : Int) * _ + 0 = _
  omega
theorem cnt_rows {rows rows' : List (Rw κ)} (h : rows.Perm rows') (as : List (At κ)) : cnt as rows = cnt as rows' := by
  rw [cnt_S, cnt_S, S_rows h]
theorem cnt_perm {as bs : List (At κ)} (h : as.Perm bs) (rows : List (Rw κ)) : cnt as rows = cnt bs rows := by
  rw [cnt_S, cnt_S, S_perm h]
/-- rows that are not there -/
theorem S_drop (as : List (At κ)) (rows : List (Rw κ)) (p : Rw κ → Bool) (hp : ∀ r ∈ rows, p r = false → oft r = 0) : ∀ ps : List (At κ × At κ), S as (rows.filter p) ps = S as rows ps := by
  classical
  induction as with
  | nil => intro ps; rw [S_nil, S_nil]
  | cons a as ih =>
    intro ps
    rw [S_cons, S_cons]
    have e : ∀ (l : List (Rw κ)), (∀ r ∈ l, r ∈ rows) → (sm (l.filter p) fun r => oft r * S as (rows.filter p) ((a, key r) :: ps)) = sm l fun r => oft r * S as rows ((a, key r) :: ps) := by
      intro l
      induction l with
      | nil => intro _; rfl
      | cons r l ihl =>
        intro hl
        rw [sm_cons, List.filter_cons]
        have h2 := ihl fun x hx => hl x (List.mem_cons_of_mem _ hx)
        cases hr : p r with
        | true => rw [if_pos rfl, sm_cons, h2, ih]
        | false =>
          rw [if_neg (by simp), h2, hp r (hl r List.mem_cons_self) hr, Int.zero_mul, Int.zero_add]
    exact e rows fun _ h => h
end CA
set_option Elab.async false
set_option linter.all false
/-! Renamings, coverings, and tables that tell apart: no program here. -/
namespace CA
universe u
variable {κ : Type} [DecidableEq κ]

/-! ### renaming -/
def VarOf (as : List (At κ)) (x : Int) : Prop := ∃ a ∈ as, x = a.2.1 ∨ x = a.2.2
def InjOn (f : Int → Int) (V : Int → Prop) : Prop := ∀ x y, V x → V y → f x = f y → x = y
theorem ap_ap (g f : Int → Int) (a : At κ) : ap g (ap f a) = ap (fun x => g (f x)) a := rfl
theorem ap_congr {g f : Int → Int} {a : At κ} (h1 : g a.2.1 = f a.2.1) (h2 : g a.2.2 = f a.2.2) : ap g a = ap f a := by
  unfold ap; rw [h1, h2]
open Classical in
noncomputable def invOn (f : Int → Int) (V : Int → Prop) (y : Int) : Int := if h : ∃ x, V x ∧ f x = y then h.choose else 0
theorem invOn_at {f : Int → Int} {V : Int → Prop} (inj : InjOn f V) {x : Int} (hx : V x) : invOn f V (f x) = x := by
  unfold invOn
  have h : ∃ z, V z ∧ f z = f x := ⟨x, hx, rfl⟩
  rw [dif_pos h]
  exact inj _ _ h.choose_spec.1 hx h.choose_spec.2
theorem fits_ren {f : Int → Int} {V : Int → Prop} (inj : InjOn f V) (ps : List (At κ × At κ)) (hV : ∀ p ∈ ps, V p.1.2.1 ∧ V p.1.2.2) : Fits (ps.map fun p => (ap f p.1, p.2)) ↔ Fits ps := by
  constructor
  · rintro ⟨g, hg⟩
    refine ⟨fun x => g (f x), fun p hp => ?_⟩
    exact hg (ap f p.1, p.2) (List.mem_map.mpr ⟨p, hp, rfl⟩)
  · rintro ⟨g, hg⟩
    refine ⟨fun y => g (invOn f V y), fun q hq => ?_⟩
    obtain ⟨p, hp, rfl⟩ := List.mem_map.mp hq
    obtain ⟨v1, v2⟩ := hV p hp
    show p.2 = ap _ (ap f p.1)
    rw [ap_ap, hg p hp]
    exact ap_congr (by rw [invOn_at inj v1]) (by rw [invOn_at inj v2])
theorem S_ren {f : Int → Int} {V : Int → Prop} (inj : InjOn f V) (rows : List (Rw κ)) : ∀ (as : List (At κ)) (ps : List (At κ × At κ)), (∀ a ∈ as, V a.2.1 ∧ V a.2.2) → (∀ p ∈ ps, V p.1.2.1 ∧ V p.1.2.2) →
    S (as.map (ap f)) rows (ps.map fun p => (ap f p.1, p.2)) = S as rows ps := by
  classical
  intro as
  induction as with
  | nil =>
    intro ps _ hp
    rw [List.map_nil, S_nil, S_nil]
    have e := fits_ren inj ps hp
    by_cases h : Fits ps
    · rw [if_pos h, if_pos (e.2 h)]
    · rw [if_neg h, if_neg fun q => h (e.1 q)]
  | cons a as ih =>
    intro ps ha hp
    rw [List.map_cons, S_cons, S_cons]
    refine sm_congr fun r _ => ?_
    rw [← ih ((a, key r) :: ps) (fun b hb => ha b (List.mem_cons_of_mem _ hb)) fun p hq => by
      rcases List.mem_cons.mp hq with e | hq
      · rw [e]; exact ha a List.mem_cons_self
      · exact hp p hq]
    rfl
theorem cnt_ren {f : Int → Int} {as bs : List (At κ)} (inj : InjOn f (VarOf as)) (pm : (as.map (ap f)).Perm bs) (rows : List (Rw κ)) : cnt as rows = cnt bs rows := by
  rw [cnt_S, ← cnt_perm pm rows, cnt_S, ← S_ren inj rows as [] (fun a ha => ⟨⟨a, ha, .inl rfl⟩, ⟨a, ha, .inr rfl⟩⟩) (fun p hp => by cases hp)]
  rfl

/-! ### the variables, coverings and renamings as relations -/
structure IsVars (as : List (At κ)) (vs : List Int) : Prop where
  asc : vs.Pairwise (· < ·)
  mem : ∀ x, x ∈ vs ↔ VarOf as x
theorem asc_nodup {vs : List Int} (h : vs.Pairwise (· < ·)) : vs.Nodup := h.imp fun hab e => by omega
theorem IsVars.nodup {as : List (At κ)} {vs : List Int} (h : IsVars as vs) : vs.Nodup := asc_nodup h.asc
/-- two strictly ordered lists with the same members -/
theorem order_one {α : Type u} {r : α → α → Prop} (asym : ∀ a b, r a b → ¬ r b a) : ∀ {l l' : List α}, l.Pairwise r → l'.Pairwise r → (∀ x, x ∈ l ↔ x ∈ l') → l = l'
  | [], [], _, _, _ => rfl
  | [], y :: l', _, _, h => absurd ((h y).2 List.mem_cons_self) (by simp)
  | x :: l, [], _, _, h => absurd ((h x).1 List.mem_cons_self) (by simp)
  | x :: l, y :: l', h1, h2, h => by
    rw [List.pairwise_cons] at h1 h2
    have e : x = y := by
      rcases List.mem_cons.mp ((h x).1 List.mem_cons_self) with e | hx
      · exact e
      · rcases List.mem_cons.mp ((h y).2 List.mem_cons_self) with e | hy
        · exact e.symm
        · exact absurd (h1.1 y hy) (asym _ _ (h2.1 x hx))
    subst e
    have irr : ∀ a, ¬ r a a := fun a q => asym a a q q
    rw [order_one asym h1.2 h2.2 fun z => ?_]
    constructor
    · intro hz
      rcases List.mem_cons.mp ((h z).1 (List.mem_cons_of_mem _ hz)) with e | q
      · subst e; exact absurd (h1.1 z hz) (irr z)
      · exact q
    · intro hz
      rcases List.mem_cons.mp ((h z).2 (List.mem_cons_of_mem _ hz)) with e | q
      · subst e; exact absurd (h2.1 z hz) (irr z)
      · exact q
theorem IsVars.one {as : List (At κ)} {vs vs' : List Int} (h : IsVars as vs) (h' : IsVars as vs') : vs = vs' :=
  order_one (fun a b h1 h2 => by omega) h.asc h'.asc fun x => (h.mem x).trans (h'.mem x).symm
/-- t says where the variables vs of as go, so that as becomes bs -/
def CovBy (as bs : List (At κ)) (vs t : List Int) : Prop := ∃ f : Int → Int, t = vs.map f ∧ (as.map (ap f)).Perm bs
theorem inj_of_nodup {α : Type u} {f : Int → α} : ∀ {vs : List Int}, (vs.map f).Nodup → ∀ x y, x ∈ vs → y ∈ vs → f x = f y → x = y
  | [], _, x, _, hx, _, _ => by cases hx
  | v :: vs, h, x, y, hx, hy, e => by
    rw [List.map_cons, List.nodup_cons] at h
    rcases List.mem_cons.mp hx with ex | hx
    · rcases List.mem_cons.mp hy with ey | hy
      · rw [ex, ey]
      · exact absurd (List.mem_map.mpr ⟨y, hy, by rw [← e, ex]⟩) h.1
    · rcases List.mem_cons.mp hy with ey | hy
      · exact absurd (List.mem_map.mpr ⟨x, hx, by rw [e, ey]⟩) h.1
      · exact inj_of_nodup h.2 x y hx hy e
theorem nodup_of_inj {α : Type u} {f : Int → α} : ∀ {vs : List Int}, vs.Nodup → (∀ x y, x ∈ vs → y ∈ vs → f x = f y → x = y) → (vs.map f).Nodup
  | [], _, _ => List.nodup_nil
  | v :: vs, h, inj => by
    rw [List.nodup_cons] at h
    rw [List.map_cons, List.nodup_cons]
    refine ⟨fun hm => ?_, nodup_of_inj h.2 fun x y hx hy e => inj x y (List.mem_cons_of_mem _ hx) (List.mem_cons_of_mem _ hy) e⟩
    obtain ⟨w, hw, e⟩ := List.mem_map.mp hm
    have := inj w v (List.mem_cons_of_mem _ hw) List.mem_cons_self e
    subst this
    exact h.1 hw
/-- a renaming counts the same -/
theorem ren_cnt {as bs : List (At κ)} {vs t : List Int} (hv : IsVars as vs) (h : CovBy as bs vs t) (hn : t.Nodup) (rows : List (Rw κ)) : cnt as rows = cnt bs rows := by
  obtain ⟨f, rfl, pm⟩ := h
  exact cnt_ren (fun x y hx hy e => inj_of_nodup hn x y ((hv.mem x).2 hx) ((hv.mem y).2 hy) e) pm rows
/-- renamings go both ways -/
theorem ren_sym {as bs : List (At κ)} {va vb t : List Int} (ha : IsVars as va) (hb : IsVars bs vb) (h : CovBy as bs va t) (hn : t.Nodup) : ∃ t', CovBy bs as vb t' ∧ t'.Nodup := by
  obtain ⟨f, rfl, pm⟩ := h
  have inj : InjOn f (VarOf as) := fun x y hx hy e => inj_of_nodup hn x y ((ha.mem x).2 hx) ((ha.mem y).2 hy) e
  have from_b : ∀ y, VarOf bs y → ∃ x, VarOf as x ∧ y = f x := by
    rintro y ⟨b, hb, e⟩
    obtain ⟨a, ha, rfl⟩ := List.mem_map.mp (pm.mem_iff.mpr hb)
    rcases e with e | e
    · exact ⟨a.2.1, ⟨a, ha, .inl rfl⟩, e⟩
    · exact ⟨a.2.2, ⟨a, ha, .inr rfl⟩, e⟩
  refine ⟨vb.map (invOn f (VarOf as)), ⟨invOn f (VarOf as), rfl, ?_⟩, nodup_of_inj hb.nodup fun x y hx hy e => ?_⟩
  · refine (pm.symm.map (ap (invOn f (VarOf as)))).trans (.of_eq ?_)
    rw [List.map_map]
    have : ∀ a ∈ as, (ap (invOn f (VarOf as)) ∘ ap f) a = a := fun a ha => by
      show ap _ (ap f a) = a
      rw [ap_ap]
      have e1 : invOn f (VarOf as) (f a.2.1) = a.2.1 := invOn_at inj ⟨a, ha, .inl rfl⟩
      have e2 : invOn f (VarOf as) (f a.2.2) = a.2.2 := invOn_at inj ⟨a, ha, .inr rfl⟩
      have : ap (fun x => invOn f (VarOf as) (f x)) a = ap (fun x => x) a := ap_congr e1 e2
      exact this
    rw [List.map_congr_left this, List.map_id']
  · obtain ⟨x', hx', ex⟩ := from_b x ((hb.mem x).1 hx)
    obtain ⟨y', hy', ey⟩ := from_b y ((hb.mem y).1 hy)
    subst ex ey
    rw [invOn_at inj hx', invOn_at inj hy'] at e
    rw [e]
theorem perm_of_sub {α : Type u} [DecidableEq α] : ∀ (l2 l1 : List α), l2.Nodup → (∀ x ∈ l2, x ∈ l1) → l1.length ≤ l2.length → l1.Perm l2
  | [], l1, _, _, hl => by
    have : l1 = [] := List.length_eq_zero_iff.mp (Nat.le_zero.mp hl)
    subst this
    exact .refl _
  | y :: l2, l1, hn, hs, hl => by
    rw [List.nodup_cons] at hn
    have hy := hs y List.mem_cons_self
    have p1 : l1.Perm (y :: l1.erase y) := List.perm_cons_erase hy
    refine p1.trans (.cons y (perm_of_sub l2 _ hn.2 (fun x hx => ?_) ?_))
    · have hne : x ≠ y := fun e => by subst e; exact hn.1 hx
      exact (List.mem_erase_of_ne hne).mpr (hs x (List.mem_cons_of_mem _ hx))
    · have := p1.length_eq
      rw [List.length_cons] at this hl
      omega
/-- a covering onto no fewer variables is a renaming -/
theorem cov_ren {as bs : List (At κ)} {va vb t : List Int} (ha : IsVars as va) (hb : IsVars bs vb) (hl : va.length ≤ vb.length) (h : CovBy as bs va t) : t.Nodup := by
  obtain ⟨f, rfl, pm⟩ := h
  have p : (va.map f).Perm vb := perm_of_sub vb (va.map f) hb.nodup (fun y hy => by
    obtain ⟨b, hb', e⟩ := (hb.mem y).1 hy
    obtain ⟨a, haa, rfl⟩ := List.mem_map.mp (pm.mem_iff.mpr hb')
    rcases e with e | e
    · exact List.mem_map.mpr ⟨a.2.1, (ha.mem _).2 ⟨a, haa, .inl rfl⟩, e.symm⟩
    · exact List.mem_map.mpr ⟨a.2.2, (ha.mem _).2 ⟨a, haa, .inr rfl⟩, e.symm⟩) (by rw [List.length_map]; exact hl)
  exact p.nodup_iff.mpr hb.nodup

/-! ### the sum over all choices -/
def mkRow (a : At κ) (n : Int) : Rw κ := (a.1, a.2.1, a.2.2, n)
theorem key_mk (a : At κ) (n : Int) : key (mkRow a n) = a := rfl
theorem oft_mk (a : At κ) (n : Int) : oft (mkRow a n) = n := rfl
def tup {α : Type u} (ks : List α) : Nat → List (List α)
  | 0 => [[]]
  | n + 1 => ks.flatMap fun k => (tup ks n).map (k :: ·)
theorem tup_mem {α : Type u} {ks : List α} : ∀ {n : Nat} {cs : List α}, cs ∈ tup ks n ↔ cs.length = n ∧ ∀ c ∈ cs, c ∈ ks
  | 0, cs => by
    show cs ∈ [[]] ↔ _
    rw [List.mem_singleton]
    constructor
    · rintro rfl; exact ⟨rfl, fun c hc => by cases hc⟩
    · rintro ⟨h, _⟩; exact List.length_eq_zero_iff.mp h
  | n + 1, cs => by
    show cs ∈ (ks.flatMap fun k => (tup ks n).map (k :: ·)) ↔ _
    rw [List.mem_flatMap]
    constructor
    · rintro ⟨k, hk, h⟩
      obtain ⟨ds, hd, rfl⟩ := List.mem_map.mp h
      obtain ⟨h1, h2⟩ := tup_mem.mp hd
      refine ⟨by rw [List.length_cons, h1], fun c hc => ?_⟩
      rcases List.mem_cons.mp hc with e | hc
      · rw [e]; exact hk
      · exact h2 c hc
    · rintro ⟨h1, h2⟩
      cases cs with
      | nil => cases h1
      | cons c cs =>
        exact ⟨c, h2 c List.mem_cons_self, List.mem_map.mpr ⟨cs, tup_mem.mpr ⟨by rw [List.length_cons] at h1; omega, fun d hd => h2 d (List.mem_cons_of_mem _ hd)⟩, rfl⟩⟩
def fz : List (At κ) → List (At κ) → List (At κ × At κ) → List (At κ × At κ)
  | a :: as, c :: cs, ps => fz as cs ((a, c) :: ps)
  | _, _, ps => ps
def pw (w : At κ → Int) : List (At κ) → Int
  | [] => 1
  | c :: cs => w c * pw w cs
open Classical in
noncomputable def fit (ps : List (At κ × At κ)) : Int := if Fits ps then 1 else 0
theorem S_tup (keys : List (At κ)) (w : At κ → Int) : ∀ (as : List (At κ)) (ps : List (At κ × At κ)), S as (keys.map fun k => mkRow k (w k)) ps = sm (tup keys as.length) fun cs => fit (fz as cs ps) * pw w cs := by
  classical
  intro as
  induction as with
  | nil =>
    intro ps
    rw [S_nil]
    show _ = sm [[]] _
    rw [sm_cons, sm_nil]
    show _ = fit ps * 1 + 0
    unfold fit
    rw [Int.mul_one, Int.add_zero]
  | cons a as ih =>
    intro ps
    rw [S_cons, sm_map]
    show _ = sm (keys.flatMap fun k => (tup keys as.length).map (k :: ·)) _
    rw [sm_flatMap]
    refine sm_congr fun k _ => ?_
    rw [oft_mk, key_mk, ih, sm_map, ← sm_mul]
    refine sm_congr fun cs _ => ?_
    show w k * (fit (fz as cs ((a, k) :: ps)) * pw w cs) = fit (fz as cs ((a, k) :: ps)) * (w k * pw w cs)
    rw [← Int.mul_assoc, Int.mul_comm (w k), Int.mul_assoc]
theorem fz_mem : ∀ (as cs : List (At κ)) (ps : List (At κ × At κ)) (p : At κ × At κ), p ∈ fz as cs ps ↔ p ∈ as.zip cs ∨ p ∈ ps
  | [], cs, ps, p => by simp [fz]
  | a :: as, [], ps, p => by simp [fz]
  | a :: as, c :: cs, ps, p => by
    show p ∈ fz as cs ((a, c) :: ps) ↔ _
    rw [fz_mem as cs, List.zip_cons_cons, List.mem_cons, List.mem_cons]
    constructor
    · rintro (h | h | h)
      · exact .inl (.inr h)
      · exact .inl (.inl h)
      · exact .inr h
    · rintro ((h | h) | h)
      · exact .inr (.inl h)
      · exact .inl h
      · exact .inr (.inr h)
theorem zip_map {f : Int → Int} : ∀ {as cs : List (At κ)}, as.length = cs.length → (∀ p ∈ as.zip cs, p.2 = ap f p.1) → cs = as.map (ap f)
  | [], [], _, _ => rfl
  | a :: as, c :: cs, hl, h => by
    rw [List.map_cons, ← zip_map (f := f) (as := as) (cs := cs) (by simpa using hl) fun p hp => h p (by rw [List.zip_cons_cons]; exact List.mem_cons_of_mem _ hp)]
    have q : c = ap f a := h (a, c) (by rw [List.zip_cons_cons]; exact List.mem_cons_self)
    rw [q]
theorem zip_self (as : List (At κ)) : ∀ p ∈ as.zip as, p.2 = ap (fun x => x) p.1 := by
  induction as with
  | nil => intro p hp; cases hp
  | cons a as ih =>
    intro p hp
    rw [List.zip_cons_cons] at hp
    rcases List.mem_cons.mp hp with e | hp
    · rw [e]; rfl
    · exact ih p hp

/-! ### the product by the keys -/
def pk (w : At κ → Int) (d : At κ → Nat) : List (At κ) → Int
  | [] => 1
  | k :: ks => w k ^ d k * pk w d ks
theorem pk_congr {w w' : At κ → Int} {d d' : At κ → Nat} : ∀ {ks : List (At κ)}, (∀ k ∈ ks, w k = w' k) → (∀ k ∈ ks, d k = d' k) → pk w d ks = pk w' d' ks
  | [], _, _ => rfl
  | k :: ks, h, h' => by
    show w k ^ d k * pk w d ks = w' k ^ d' k * pk w' d' ks
    rw [h k List.mem_cons_self, h' k List.mem_cons_self, pk_congr (fun x hx => h x (List.mem_cons_of_mem _ hx)) fun x hx => h' x (List.mem_cons_of_mem _ hx)]
theorem pk_inc (w : At κ → Int) (d : At κ → Nat) (c : At κ) : ∀ {ks : List (At κ)}, ks.Nodup → c ∈ ks → pk w (fun k => d k + if c = k then 1 else 0) ks = w c * pk w d ks
  | k :: ks, hn, hc => by
    rw [List.nodup_cons] at hn
    show w k ^ (d k + if c = k then 1 else 0) * pk w _ ks = w c * (w k ^ d k * pk w d ks)
    by_cases e : c = k
    · subst e
      rw [if_pos rfl, Int.pow_succ, pk_congr (w' := w) (d' := d) (fun _ _ => rfl) fun x hx => by
        have : ¬ c = x := fun e => by subst e; exact hn.1 hx
        simp only [if_neg this, Nat.add_zero]]
      rw [Int.mul_comm (w c ^ d c) (w c), Int.mul_assoc]
    · have hc' : c ∈ ks := (List.mem_cons.mp hc).resolve_left e
      rw [if_neg e, Nat.add_zero, pk_inc w d c hn.2 hc', ← Int.mul_assoc, ← Int.mul_assoc, Int.mul_comm (w c)]
theorem pk_zero (w : At κ → Int) : ∀ ks : List (At κ), pk w (fun _ => 0) ks = 1
  | [] => rfl
  | k :: ks => by
    show w k ^ 0 * pk w _ ks = 1
    rw [pk_zero w ks, Int.pow_zero, Int.mul_one]
theorem pw_pk (w : At κ → Int) {keys : List (At κ)} (hn : keys.Nodup) : ∀ cs : List (At κ), (∀ c ∈ cs, c ∈ keys) → pw w cs = pk w (fun k => cs.count k) keys
  | [], _ => (pk_zero w keys).symm
  | c :: cs, h => by
    show w c * pw w cs = _
    rw [pw_pk w hn cs fun x hx => h x (List.mem_cons_of_mem _ hx), ← pk_inc w _ c hn (h c List.mem_cons_self)]
    refine pk_congr (fun _ _ => rfl) fun k _ => ?_
    rw [List.count_cons]
    by_cases e : c = k <;> simp [e]

/-! ### the functional over the grid 0 .. 4 -/
def lam (k : Nat) (j : Int) : Int := (([[24, 0, 0, 0, 0], [-50, 96, -72, 32, -6], [35, -104, 114, -56, 11], [-10, 36, -48, 28, -6], [1, -4, 6, -4, 1]] : List (List Int)).getD k []).getD j.toNat 0
def grid : List Int := [0, 1, 2, 3, 4]
theorem lam_ok : ∀ k, k < 5 → ∀ d, d < 5 → sm grid (fun j => lam k j * j ^ d) = if d = k then 24 else 0 := by decide +kernel
def upd1 (w : At κ → Int) (k : At κ) (j : Int) : At κ → Int := fun a => if a = k then j else w a
def G : List (At κ) → (At κ → Nat) → ((At κ → Int) → Int) → (At κ → Int) → Int
  | [], _, F, w => F w
  | k :: ks, e, F, w => sm grid fun j => lam (e k) j * G ks e F (upd1 w k j)
def InGrid (w : At κ → Int) : Prop := ∀ a, w a ∈ grid
theorem InGrid.upd {w : At κ → Int} (h : InGrid w) {k : At κ} {j : Int} (hj : j ∈ grid) : InGrid (upd1 w k j) := fun a => by
  unfold upd1
  by_cases e : a = k
  · rw [if_pos e]; exact hj
  · rw [if_neg e]; exact h a
theorem G_congr {e : At κ → Nat} {F F' : (At κ → Int) → Int} (h : ∀ w, InGrid w → F w = F' w) : ∀ (ks : List (At κ)) (w : At κ → Int), InGrid w → G ks e F w = G ks e F' w
  | [], w, hw => h w hw
  | k :: ks, w, hw => by
    show sm grid _ = sm grid _
    exact sm_congr fun j hj => by rw [G_congr h ks _ (hw.upd hj)]
theorem G_sum {α : Type} {e : At κ → Nat} (xs : List α) (c : α → Int) (M : α → (At κ → Int) → Int) : ∀ (ks : List (At κ)) (w : At κ → Int), G ks e (fun w => sm xs fun x => c x * M x w) w = sm xs fun x => c x * G ks e (M x) w
  | [], w => rfl
  | k :: ks, w => by
    show sm grid (fun j => lam (e k) j * G ks e _ (upd1 w k j)) = sm xs fun x => c x * sm grid fun j => lam (e k) j * G ks e (M x) (upd1 w k j)
    have e1 : ∀ j, lam (e k) j * G ks e (fun w => sm xs fun x => c x * M x w) (upd1 w k j) = sm xs fun x => lam (e k) j * (c x * G ks e (M x) (upd1 w k j)) := fun j => by
      rw [G_sum xs c M ks, ← sm_mul]
    rw [sm_congr fun j _ => e1 j, sm_swap]
    refine sm_congr fun x _ => ?_
    rw [← sm_mul]
    exact sm_congr fun j _ => by rw [← Int.mul_assoc, ← Int.mul_assoc, Int.mul_comm (lam (e k) j)]
theorem G_const {e : At κ → Nat} {C M : (At κ → Int) → Int} : ∀ (ks : List (At κ)) (w : At κ → Int), (∀ w w', (∀ a, a ∉ ks → w a = w' a) → C w = C w') → G ks e (fun w => C w * M w) w = C w * G ks e M w
  | [], w, _ => rfl
  | k :: ks, w, h => by
    show sm grid (fun j => lam (e k) j * G ks e _ (upd1 w k j)) = C w * sm grid fun j => lam (e k) j * G ks e M (upd1 w k j)
    rw [← sm_mul]
    refine sm_congr fun j _ => ?_
    rw [G_const ks _ fun w w' hw => h w w' fun a ha => hw a fun hm => ha (List.mem_cons_of_mem _ hm)]
    have : C (upd1 w k j) = C w := h _ _ fun a ha => by
      unfold upd1
      rw [if_neg fun e => ha (by rw [e]; exact List.mem_cons_self)]
    rw [this, ← Int.mul_assoc, ← Int.mul_assoc, Int.mul_comm (C w)]
def ck (e d : At κ → Nat) : List (At κ) → Int
  | [] => 1
  | k :: ks => (if d k = e k then 24 else 0) * ck e d ks
theorem G_pk {e d : At κ → Nat} : ∀ (ks : List (At κ)), ks.Nodup → (∀ k ∈ ks, e k < 5) → (∀ k ∈ ks, d k < 5) → ∀ w, G ks e (fun w => pk w d ks) w = ck e d ks
  | [], _, _, _, w => rfl
  | k :: ks, hn, he, hd, w => by
    rw [List.nodup_cons] at hn
    show sm grid (fun j => lam (e k) j * G ks e (fun w => w k ^ d k * pk w d ks) (upd1 w k j)) = _
    have e1 : ∀ j, lam (e k) j * G ks e (fun w => w k ^ d k * pk w d ks) (upd1 w k j) = lam (e k) j * j ^ d k * ck e d ks := fun j => by
      rw [G_const (C := fun w => w k ^ d k) ks _ (fun w w' hw => by show w k ^ d k = w' k ^ d k; rw [hw k hn.1]),
        G_pk ks hn.2 (fun x hx => he x (List.mem_cons_of_mem _ hx)) (fun x hx => hd x (List.mem_cons_of_mem _ hx))]
      have : upd1 w k j k = j := by unfold upd1; rw [if_pos rfl]
      rw [this, ← Int.mul_assoc]
    rw [sm_congr fun j _ => e1 j, sm_mulr, lam_ok _ (he k List.mem_cons_self) _ (hd k List.mem_cons_self)]
    rfl
theorem ck_nonneg (e d : At κ → Nat) : ∀ ks : List (At κ), 0 ≤ ck e d ks
  | [] => by show (0 : Int) ≤ 1; decide
  | k :: ks => by
    show 0 ≤ (if d k = e k then 24 else 0) * ck e d ks
    refine Int.mul_nonneg ?_ (ck_nonneg e d ks)
    split <;> decide
theorem ck_pos {e d : At κ → Nat} : ∀ {ks : List (At κ)}, (∀ k ∈ ks, d k = e k) → 0 < ck e d ks
  | [], _ => by show (0 : Int) < 1; decide
  | k :: ks, h => by
    show 0 < (if d k = e k then 24 else 0) * ck e d ks
    rw [if_pos (h k List.mem_cons_self)]
    exact Int.mul_pos (by decide) (ck_pos fun x hx => h x (List.mem_cons_of_mem _ hx))
theorem ck_ne {e d : At κ → Nat} : ∀ {ks : List (At κ)}, ck e d ks ≠ 0 → ∀ k ∈ ks, d k = e k
  | k :: ks, h, x, hx => by
    have h' : (if d k = e k then 24 else 0) * ck e d ks ≠ 0 := h
    by_cases q : d k = e k
    · rcases List.mem_cons.mp hx with z | hx
      · rw [z]; exact q
      · exact ck_ne (fun z => h' (by rw [z, Int.mul_zero])) x hx
    · rw [if_neg q, Int.zero_mul] at h'
      exact absurd rfl h'
/-- what the functional makes of a count -/
theorem G_cnt {keys : List (At κ)} (hn : keys.Nodup) {e : At κ → Nat} (he : ∀ k ∈ keys, e k < 5) {as : List (At κ)} (hl : as.length ≤ 4) (w : At κ → Int) (hw : InGrid w) :
    G keys e (fun w => cnt as (keys.map fun k => mkRow k (w k))) w = sm (tup keys as.length) fun cs => fit (fz as cs []) * ck e (fun k => cs.count k) keys := by
  have e1 : ∀ w, InGrid w → cnt as (keys.map fun k => mkRow k (w k)) = sm (tup keys as.length) fun cs => fit (fz as cs []) * (if (∀ c ∈ cs, c ∈ keys) ∧ cs.length ≤ 4 then pk w (fun k => cs.count k) keys else 0) := fun w _ => by
    rw [cnt_S, S_tup]
    refine sm_congr fun cs hc => ?_
    obtain ⟨h1, h2⟩ := tup_mem.mp hc
    rw [if_pos ⟨h2, by omega⟩, pw_pk w hn cs h2]
  rw [G_congr e1 keys w hw, G_sum]
  refine sm_congr fun cs hc => ?_
  obtain ⟨h1, h2⟩ := tup_mem.mp hc
  have e2 : (fun w : At κ → Int => if (∀ c ∈ cs, c ∈ keys) ∧ cs.length ≤ 4 then pk w (fun k => cs.count k) keys else 0) = fun w => pk w (fun k => cs.count k) keys := by
    funext w
    rw [if_pos ⟨h2, by omega⟩]
  rw [e2, G_pk keys hn he (fun k _ => Nat.lt_succ_of_le (Nat.le_trans List.count_le_length (by omega))) w]
/-- two questions that count the same in all tables of q's own atoms: a covering from p to q -/
theorem apart_cov {p q keys : List (At κ)} (hn : keys.Nodup) (hm : ∀ a, a ∈ keys ↔ a ∈ q) (hp : p.length ≤ 4) (hq : q.length ≤ 4)
    (same : ∀ w : At κ → Int, InGrid w → cnt p (keys.map fun k => mkRow k (w k)) = cnt q (keys.map fun k => mkRow k (w k))) : ∃ f : Int → Int, (p.map (ap f)).Perm q := by
  classical
  have he : ∀ k ∈ keys, q.count k < 5 := fun k _ => Nat.lt_succ_of_le (Nat.le_trans List.count_le_length hq)
  have w0 : InGrid (fun _ : At κ => (0 : Int)) := fun a => by show (0 : Int) ∈ [0, 1, 2, 3, 4]; decide
  have e := G_congr (e := fun k => q.count k) same keys (fun _ => 0) w0
  rw [G_cnt hn he hp _ w0, G_cnt hn he hq _ w0] at e
  have nn : ∀ (as cs : List (At κ)), 0 ≤ fit (fz as cs []) * ck (fun k => q.count k) (fun k => cs.count k) keys := fun as cs => by
    refine Int.mul_nonneg ?_ (ck_nonneg _ _ _)
    unfold fit
    split <;> decide
  have pos : 0 < sm (tup keys q.length) fun cs => fit (fz q cs []) * ck (fun k => q.count k) (fun k => cs.count k) keys := by
    refine sm_pos (fun cs _ => nn q cs) (x := q) (tup_mem.mpr ⟨rfl, fun c hc => (hm c).2 hc⟩) ?_
    have hf : Fits (fz q q []) := ⟨fun x => x, fun p hp => by
      rcases (fz_mem q q [] p).1 hp with h | h
      · exact zip_self q p h
      · cases h⟩
    unfold fit
    rw [if_pos hf, Int.one_mul]
    exact ck_pos fun k _ => rfl
  rw [← e] at pos
  obtain ⟨cs, hc, hne⟩ := sm_ne (Int.ne_of_gt pos)
  obtain ⟨h1, h2⟩ := tup_mem.mp hc
  have hfit : Fits (fz p cs []) := by
    by_cases h : Fits (fz p cs [])
    · exact h
    · refine absurd ?_ hne
      unfold fit
      rw [if_neg h, Int.zero_mul]
  have hck : ck (fun k => q.count k) (fun k => cs.count k) keys ≠ 0 := fun z => hne (by rw [z, Int.mul_zero])
  have cnts := ck_ne hck
  obtain ⟨f, hf⟩ := hfit
  have ecs : cs = p.map (ap f) := zip_map h1.symm fun x hx => hf x ((fz_mem p cs [] x).2 (.inl hx))
  refine ⟨f, ?_⟩
  rw [← ecs]
  refine List.perm_iff_count.mpr fun a => ?_
  by_cases ha : a ∈ keys
  · exact cnts a ha
  · rw [List.count_eq_zero.mpr fun h => ha (h2 a h), List.count_eq_zero.mpr fun h => ha ((hm a).2 h)]
end CA
set_option Elab.async false
set_option linter.all false
/-! What the search's states hold: no program here. -/
namespace CA
universe u
variable {κ : Type} [DecidableEq κ]
theorem look_keep1 {m m' : Mp} {k v : Int} (h : ext1 m k v = some m') (x : Int) : ((look m x).isSome → (look m' x).isSome) ∧ (look m' k).isSome := by
  unfold ext1 at h
  split at h
  · cases h
    constructor
    · intro q
      rw [look_put]
      split
      · rfl
      · exact q
    · rw [look_put, if_pos rfl]; rfl
  · cases h
theorem look_keep {m m' : Mp} {l x r y : Int} (h : ext m l x r y = some m') : (∀ z, (look m z).isSome → (look m' z).isSome) ∧ (look m' l).isSome ∧ (look m' r).isSome := by
  unfold ext at h
  cases e : ext1 m l x with
  | none => rw [e] at h; cases h
  | some m1 =>
    rw [e] at h
    have h' : ext1 m1 r y = some m' := h
    exact ⟨fun z q => (look_keep1 h' z).1 ((look_keep1 e z).1 q), (look_keep1 h' l).1 (look_keep1 e l).2, (look_keep1 h' r).2⟩
theorem step_keys {a : At κ} {rows : List (Rw κ)} {found : List (Mp × Int)} {V : Int → Prop} (h : ∀ p ∈ found, ∀ x, V x → (look p.1 x).isSome) :
    ∀ p ∈ stepW a rows found, ∀ x, (V x ∨ x = a.2.1 ∨ x = a.2.2) → (look p.1 x).isSome := by
  intro p hp x hx
  unfold stepW at hp
  obtain ⟨mw, hmw, hp⟩ := List.mem_flatMap.mp hp
  obtain ⟨row, hrow, e⟩ := List.mem_filterMap.mp hp
  unfold one1 at e
  split at e
  · cases q : ext mw.1 a.2.1 row.2.1 a.2.2 row.2.2.1 with
    | none => rw [q] at e; cases e
    | some m' =>
      rw [q] at e
      have e' : (m', mw.2 * oft row) = p := Option.some.inj e
      subst e'
      obtain ⟨k1, k2, k3⟩ := look_keep q
      rcases hx with hx | rfl | rfl
      · exact k1 x (h mw hmw x hx)
      · exact k2
      · exact k3
  · cases e
theorem ways_keys (rows : List (Rw κ)) : ∀ (as : List (At κ)) (found : List (Mp × Int)) (V : Int → Prop), (∀ p ∈ found, ∀ x, V x → (look p.1 x).isSome) → ∀ p ∈ waysFrom as rows found, ∀ x, (V x ∨ VarOf as x) → (look p.1 x).isSome
  | [], found, V, h, p, hp, x, hx => by
    rcases hx with hx | ⟨a, ha, _⟩
    · exact h p hp x hx
    · cases ha
  | a :: as, found, V, h, p, hp, x, hx => by
    rw [waysFrom_cons] at hp
    refine ways_keys rows as _ (fun x => V x ∨ x = a.2.1 ∨ x = a.2.2) (step_keys h) p hp x ?_
    rcases hx with hx | ⟨b, hb, e⟩
    · exact .inl (.inl hx)
    · rcases List.mem_cons.mp hb with z | hb
      · subst z; exact .inl (.inr e)
      · exact .inr ⟨b, hb, e⟩
theorem ways_all {as : List (At κ)} {rows : List (Rw κ)} {p : Mp × Int} (hp : p ∈ waysFrom as rows [([], 1)]) {x : Int} (hx : VarOf as x) : (look p.1 x).isSome :=
  ways_keys rows as [([], 1)] (fun _ => False) (fun _ _ _ z => z.elim) p hp x (.inr hx)
theorem waysFrom_snoc (rows : List (Rw κ)) (as : List (At κ)) (a : At κ) (found : List (Mp × Int)) : waysFrom (as ++ [a]) rows found = stepW a rows (waysFrom as rows found) := by
  unfold waysFrom
  rw [List.foldl_append] <;> rfl
theorem stepW_snoc (a : At κ) (rows : List (Rw κ)) (found : List (Mp × Int)) (mw : Mp × Int) : stepW a rows (found ++ [mw]) = stepW a rows found ++ rows.filterMap fun row => one1 a row mw := by
  unfold stepW
  rw [List.flatMap_append, List.flatMap_cons, List.flatMap_nil, List.append_nil]
theorem fm_snoc {α β : Type} (f : α → Option β) (l : List α) (x : α) : (l ++ [x]).filterMap f = l.filterMap f ++ (f x).toList := by
  rw [List.filterMap_append]
  cases h : f x <;> simp [h]
end CA
set_option Elab.async false
set_option linter.all false
/-! Orders, what is sent, tuples without repeats: no program here. -/
namespace CA
universe u
variable {κ : Type} [DecidableEq κ]
/-! ### the indices in all orders -/
def arr (n : Nat) : Nat → List (List Nat)
  | 0 => [[]]
  | k + 1 => (arr n k).flatMap fun old => ((List.range n).filter fun i => decide (i ∉ old)).map fun i => old ++ [i]
theorem arr_mem {n : Nat} : ∀ {k : Nat} {l : List Nat}, l ∈ arr n k ↔ l.length = k ∧ l.Nodup ∧ ∀ i ∈ l, i < n
  | 0, l => by
    show l ∈ [[]] ↔ _
    rw [List.mem_singleton]
    constructor
    · rintro rfl; exact ⟨rfl, List.nodup_nil, fun i hi => by cases hi⟩
    · rintro ⟨h, _⟩; exact List.length_eq_zero_iff.mp h
  | k + 1, l => by
    show l ∈ ((arr n k).flatMap fun old => ((List.range n).filter fun i => decide (i ∉ old)).map fun i => old ++ [i]) ↔ _
    rw [List.mem_flatMap]
    constructor
    · rintro ⟨old, ho, h⟩
      obtain ⟨i, hi, rfl⟩ := List.mem_map.mp h
      obtain ⟨h1, h2, h3⟩ := arr_mem.mp ho
      rw [List.mem_filter, List.mem_range, decide_eq_true_eq] at hi
      refine ⟨by rw [List.length_append, h1]; rfl, ?_, fun j hj => ?_⟩
      · rw [List.nodup_append]
        refine ⟨h2, by simp, fun a ha b hb e => ?_⟩
        rw [List.mem_singleton.mp hb] at e
        subst e
        exact hi.2 ha
      · rcases List.mem_append.mp hj with hj | hj
        · exact h3 j hj
        · rw [List.mem_singleton.mp hj]; exact hi.1
    · rintro ⟨h1, h2, h3⟩
      have hne : l ≠ [] := fun e => by rw [e] at h1; cases h1
      have el : l.dropLast ++ [l.getLast hne] = l := List.dropLast_concat_getLast hne
      refine ⟨l.dropLast, arr_mem.mpr ⟨by rw [List.length_dropLast, h1]; rfl, ?_, fun i hi => h3 i (by rw [← el]; exact List.mem_append_left _ hi)⟩, List.mem_map.mpr ⟨l.getLast hne, ?_, el⟩⟩
      · rw [← el, List.nodup_append] at h2
        exact h2.1
      · rw [List.mem_filter, List.mem_range, decide_eq_true_eq]
        refine ⟨h3 _ (List.getLast_mem hne), fun hm => ?_⟩
        rw [← el, List.nodup_append] at h2
        exact h2.2.2 _ hm _ (List.mem_singleton.mpr rfl) rfl
theorem arr_len : ∀ n, n ≤ 4 → (arr n n).length ≤ 24 := by decide
theorem arr_len2 : ∀ n, n ≤ 4 → ∀ k, k ≤ n → (arr n k).length ≤ 24 := by decide
/-- the items at the indices -/
def pick {α : Type u} (xs : List α) (idx : List Nat) : List α := idx.filterMap fun i => xs[i]?
theorem pick_range {α : Type u} (xs : List α) : pick xs (List.range xs.length) = xs := by
  have h : ∀ n, n ≤ xs.length → pick xs (List.range n) = xs.take n := by
    intro n
    induction n with
    | zero => intro _; rfl
    | succ n ih =>
      intro hn
      have hlt : n < xs.length := hn
      unfold pick at ih ⊢
      rw [List.range_succ, List.filterMap_append, ih (Nat.le_of_lt hlt), List.take_succ, List.getElem?_eq_getElem hlt, List.filterMap_cons_some (List.getElem?_eq_getElem hlt)] <;> rfl
  rw [h _ (Nat.le_refl _), List.take_length]
theorem pick_perm {α : Type u} {xs : List α} {idx : List Nat} (h : idx ∈ arr xs.length xs.length) : (pick xs idx).Perm xs := by
  obtain ⟨h1, h2, h3⟩ := arr_mem.mp h
  have p : idx.Perm (List.range xs.length) := (perm_of_sub idx (List.range xs.length) h2 (fun i hi => List.mem_range.mpr (h3 i hi)) (by rw [List.length_range, h1]; exact Nat.le_refl _)).symm
  have q : (pick xs idx).Perm (pick xs (List.range xs.length)) := p.filterMap _
  rw [pick_range] at q
  exact q
theorem pick_len {α : Type u} {xs : List α} {idx : List Nat} (h : ∀ i ∈ idx, i < xs.length) : (pick xs idx).length = idx.length := by
  induction idx with
  | nil => rfl
  | cons i idx ih =>
    unfold pick at ih ⊢
    rw [List.filterMap_cons_some (List.getElem?_eq_getElem (h i List.mem_cons_self)), List.length_cons, ih fun j hj => h j (List.mem_cons_of_mem _ hj), List.length_cons]
theorem pick_at {α : Type u} {xs : List α} : ∀ {idx : List Nat}, (∀ i ∈ idx, i < xs.length) → ∀ j : Nat, (pick xs idx)[j]? = (idx[j]?).bind fun i => xs[i]?
  | [], _, j => by simp [pick]
  | i :: idx, h, j => by
    have hi := h i List.mem_cons_self
    unfold pick
    rw [List.filterMap_cons_some (List.getElem?_eq_getElem hi)]
    cases j with
    | zero => simp [List.getElem?_eq_getElem hi]
    | succ j =>
      have ih := pick_at (idx := idx) (fun k hk => h k (List.mem_cons_of_mem _ hk)) j
      unfold pick at ih
      simpa using ih
theorem pick_pick {α : Type u} {xs : List α} {i1 i2 : List Nat} (h2 : ∀ i ∈ i2, i < xs.length) (h1 : ∀ i ∈ i1, i < i2.length) : pick (pick xs i2) i1 = pick xs (pick i2 i1) := by
  have hp : ∀ i ∈ pick i2 i1, i < xs.length := fun i hi => by
    obtain ⟨j, hj, e⟩ := List.mem_filterMap.mp hi
    exact h2 i (List.mem_of_getElem? e)
  refine List.ext_getElem? fun j => ?_
  rw [pick_at (by rw [pick_len h2]; exact h1), pick_at hp, pick_at h1]
  cases hj : i1[j]? with
  | none => rfl
  | some k => 
    show (pick xs i2)[k]? = _
    rw [pick_at h2] <;> rfl
/-- every order is picked -/
theorem perm_pick {α : Type u} {l xs : List α} (h : l.Perm xs) : ∃ idx, idx ∈ arr xs.length xs.length ∧ l = pick xs idx := by
  have key : ∃ idx : List Nat, (idx.length = xs.length ∧ idx.Nodup ∧ ∀ i ∈ idx, i < xs.length) ∧ l = pick xs idx := by
    induction h with
    | nil => exact ⟨[], ⟨rfl, List.nodup_nil, fun i hi => by cases hi⟩, rfl⟩
    | @cons x l1 l2 _ ih =>
      obtain ⟨idx, ⟨a, b, c⟩, e⟩ := ih
      refine ⟨0 :: idx.map (· + 1), ⟨by rw [List.length_cons, List.length_map, a, List.length_cons], ?_, fun i hi => ?_⟩, ?_⟩
      · rw [List.nodup_cons]
        refine ⟨fun hm => by obtain ⟨j, _, e⟩ := List.mem_map.mp hm; omega, ?_⟩
        rw [List.Nodup, List.pairwise_map]
        exact b.imp fun h e => h (by omega)
      · rcases List.mem_cons.mp hi with e | hi
        · rw [e, List.length_cons]; omega
        · obtain ⟨j, hj, rfl⟩ := List.mem_map.mp hi
          have := c j hj
          rw [List.length_cons]; omega
      · unfold pick at e ⊢
        have h0 : ([0] ++ idx.map (· + 1)).filterMap (fun i => (x :: l2)[i]?) = [x] ++ (idx.map (· + 1)).filterMap (fun i => (x :: l2)[i]?) := by rw [List.filterMap_append] <;> rfl
        refine Eq.trans ?_ h0.symm
        rw [List.filterMap_map, e]
        rfl
    | swap x y l =>
      refine ⟨1 :: 0 :: (List.range l.length).map (· + 2), ⟨by simp, ?_, fun i hi => ?_⟩, ?_⟩
      · rw [List.nodup_cons, List.nodup_cons]
        refine ⟨?_, ?_, ?_⟩
        · rw [List.mem_cons]
          rintro (h | h)
          · omega
          · obtain ⟨j, _, e⟩ := List.mem_map.mp h; omega
        · intro h
          obtain ⟨j, _, e⟩ := List.mem_map.mp h; omega
        · rw [List.Nodup, List.pairwise_map]
          exact List.nodup_range.imp fun h e => h (by omega)
      · rw [List.length_cons, List.length_cons]
        rcases List.mem_cons.mp hi with e | hi
        · omega
        · rcases List.mem_cons.mp hi with e | hi
          · omega
          · obtain ⟨j, hj, rfl⟩ := List.mem_map.mp hi
            have := List.mem_range.mp hj
            omega
      · unfold pick
        have h0 : ([1, 0] ++ (List.range l.length).map (· + 2)).filterMap (fun i => (x :: y :: l)[i]?) = [y, x] ++ ((List.range l.length).map (· + 2)).filterMap (fun i => (x :: y :: l)[i]?) := by rw [List.filterMap_append] <;> rfl
        refine Eq.trans ?_ h0.symm
        rw [List.filterMap_map]
        have := pick_range l
        unfold pick at this
        exact congrArg (fun z => y :: x :: z) this.symm
    | @trans l1 l2 l3 _ p2 ih1 ih2 =>
      obtain ⟨i1, ⟨a1, b1, c1⟩, e1⟩ := ih1
      obtain ⟨i2, ⟨a2, b2, c2⟩, e2⟩ := ih2
      have hl : l2.length = l3.length := p2.length_eq
      have c1' : ∀ i ∈ i1, i < i2.length := fun i hi => by rw [a2, ← hl]; exact c1 i hi
      refine ⟨pick i2 i1, ⟨by rw [pick_len c1', a1, hl], ?_, fun i hi => ?_⟩, ?_⟩
      · have p : (pick i2 i1).Perm i2 := pick_perm (arr_mem.mpr ⟨by rw [a1, hl, a2], b1, c1'⟩)
        exact p.nodup_iff.mpr b2
      · obtain ⟨j, hj, e⟩ := List.mem_filterMap.mp hi
        exact c2 i (List.mem_of_getElem? e)
      · rw [e1, e2, pick_pick c2 c1']
  obtain ⟨idx, h1, h2⟩ := key
  exact ⟨idx, arr_mem.mpr h1, h2⟩
/-! ### what sends atoms to others, place by place -/
def sendF : Mp → List (At κ) → List (At κ) → Option Mp
  | m, a :: as, b :: bs => if a.1 = b.1 then (ext m a.2.1 b.2.1 a.2.2 b.2.2).bind fun m' => sendF m' as bs else none
  | m, _, _ => some m
def Under (m : Mp) (f : Int → Int) : Prop := ∀ k v, look m k = some v → f k = v
theorem send_some : ∀ {as bs : List (At κ)} {m m' : Mp}, as.length = bs.length → sendF m as bs = some m' → (∀ f, Under m' f ↔ (Under m f ∧ bs = as.map (ap f))) ∧ (∀ x, ((look m x).isSome ∨ VarOf as x) → (look m' x).isSome)
  | [], [], m, m', _, h => by
    have e : m = m' := by simpa [sendF] using h
    subst e
    refine ⟨fun f => ⟨fun q => ⟨q, rfl⟩, fun q => q.1⟩, fun x hx => ?_⟩
    rcases hx with hx | ⟨a, ha, _⟩
    · exact hx
    · cases ha
  | a :: as, b :: bs, m, m', hl, h => by
    have h' : (if a.1 = b.1 then (ext m a.2.1 b.2.1 a.2.2 b.2.2).bind fun m' => sendF m' as bs else none) = some m' := by simpa [sendF] using h
    by_cases hk : a.1 = b.1
    · rw [if_pos hk] at h'
      cases e : ext m a.2.1 b.2.1 a.2.2 b.2.2 with
      | none => rw [e] at h'; cases h'
      | some m1 =>
        rw [e] at h'
        obtain ⟨ih1, ih2⟩ := send_some (as := as) (bs := bs) (by simpa using hl) (show sendF m1 as bs = some m' from h')
        refine ⟨fun f => ?_, fun x hx => ih2 x ?_⟩
        · rw [ih1 f, show Under m1 f ↔ _ from ext_iff e f, List.map_cons, List.cons.injEq]
          have hb : b = ap f a ↔ (f a.2.1 = b.2.1 ∧ f a.2.2 = b.2.2) := by
            obtain ⟨b1, b2, b3⟩ := b
            constructor
            · intro q
              have q1 := congrArg (fun z : At κ => z.2.1) q
              have q2 := congrArg (fun z : At κ => z.2.2) q
              exact ⟨q1.symm, q2.symm⟩
            · rintro ⟨q1, q2⟩
              show (b1, b2, b3) = (a.1, f a.2.1, f a.2.2)
              rw [q1, q2, hk]
          rw [hb]
          constructor
          · rintro ⟨⟨p1, p2, p3⟩, p4⟩; exact ⟨p1, ⟨p2, p3⟩, p4⟩
          · rintro ⟨p1, ⟨p2, p3⟩, p4⟩; exact ⟨⟨p1, p2, p3⟩, p4⟩
        · obtain ⟨k1, k2, k3⟩ := look_keep e
          rcases hx with hx | ⟨c, hc, q⟩
          · exact .inl (k1 x hx)
          · rcases List.mem_cons.mp hc with z | hc
            · subst z
              rcases q with rfl | rfl
              · exact .inl k2
              · exact .inl k3
            · exact .inr ⟨c, hc, q⟩
    · rw [if_neg hk] at h'; cases h'
theorem send_none : ∀ {as bs : List (At κ)} {m : Mp}, as.length = bs.length → sendF m as bs = none → ∀ f, ¬ (Under m f ∧ bs = as.map (ap f))
  | [], [], m, _, h, f, _ => by simp [sendF] at h
  | a :: as, b :: bs, m, hl, h, f, ⟨u, eb⟩ => by
    have h' : (if a.1 = b.1 then (ext m a.2.1 b.2.1 a.2.2 b.2.2).bind fun m' => sendF m' as bs else none) = none := by simpa [sendF] using h
    rw [List.map_cons, List.cons.injEq] at eb
    obtain ⟨e1, e2⟩ := eb
    have hk : a.1 = b.1 := by rw [e1]; rfl
    have q1 : f a.2.1 = b.2.1 := by rw [e1]; rfl
    have q2 : f a.2.2 = b.2.2 := by rw [e1]; rfl
    rw [if_pos hk] at h'
    cases e : ext m a.2.1 b.2.1 a.2.2 b.2.2 with
    | none => exact ext_none e f ⟨u, q1, q2⟩
    | some m1 =>
      rw [e] at h'
      exact send_none (by simpa using hl) (show sendF m1 as bs = none from h') f ⟨(ext_iff e f).2 ⟨u, q1, q2⟩, e2⟩
theorem send_snoc : ∀ {as bs : List (At κ)} {m : Mp} (a b : At κ), as.length = bs.length → sendF m (as ++ [a]) (bs ++ [b]) = (sendF m as bs).bind fun m' => if a.1 = b.1 then ext m' a.2.1 b.2.1 a.2.2 b.2.2 else none
  | [], [], m, a, b, _ => by
    show sendF m [a] [b] = _
    by_cases h : a.1 = b.1
    · cases e : ext m a.2.1 b.2.1 a.2.2 b.2.2 <;> simp [sendF, h, e]
    · simp [sendF, h]
  | c :: as, d :: bs, m, a, b, hl => by
    show sendF m (c :: (as ++ [a])) (d :: (bs ++ [b])) = _
    by_cases h : c.1 = d.1
    · cases e : ext m c.2.1 d.2.1 c.2.2 d.2.2 with
      | none => simp [sendF, h, e]
      | some m1 =>
        have ih := send_snoc (m := m1) (as := as) (bs := bs) a b (by simpa using hl)
        simp [sendF, h, e, ih]
    · simp [sendF, h]
theorem send_cut {as bs : List (At κ)} {m : Mp} {i : Nat} (hl : as.length = bs.length) (h : sendF m (as.take i) (bs.take i) = none) : sendF m as bs = none := by
  induction as generalizing bs m i with
  | nil =>
    cases bs with
    | nil => simp [sendF] at h
    | cons b bs => simp at hl
  | cons a as ih =>
    cases bs with
    | nil => simp at hl
    | cons b bs =>
      cases i with
      | zero => simp [sendF] at h
      | succ i =>
        rw [List.take_succ_cons, List.take_succ_cons] at h
        by_cases hk : a.1 = b.1
        · cases e : ext m a.2.1 b.2.1 a.2.2 b.2.2 with
          | none => simp [sendF, hk, e]
          | some m1 =>
            have h2 : sendF m1 (as.take i) (bs.take i) = none := by simpa [sendF, hk, e] using h
            have := ih (by simpa using hl) h2
            simpa [sendF, hk, e] using this
        · simp [sendF, hk]
/-- the values of the variables under what was found -/
theorem send_cov {as bs cs : List (At κ)} {vs : List Int} {m : Mp} (hv : IsVars as vs) (hl : as.length = bs.length) (h : sendF [] as bs = some m) (pm : bs.Perm cs) : CovBy as cs vs (vs.map fun x => (look m x).getD 0) := by
  obtain ⟨h1, h2⟩ := send_some hl h
  have u : Under m (fun x => (look m x).getD 0) := fun k v e => by show (look m k).getD 0 = v; rw [e]; rfl
  obtain ⟨_, e⟩ := (h1 _).1 u
  exact ⟨_, rfl, by rw [← e]; exact pm⟩
theorem cov_send {as bs : List (At κ)} {vs : List Int} (hv : IsVars as vs) {f : Int → Int} (e : bs = as.map (ap f)) : ∃ m, sendF [] as bs = some m ∧ (vs.map fun x => (look m x).getD 0) = vs.map f := by
  have hl : as.length = bs.length := by rw [e, List.length_map]
  have u0 : Under [] f := fun k v h => by simp [look] at h
  cases h : sendF [] as bs with
  | none => exact absurd ⟨u0, e⟩ (send_none hl h f)
  | some m =>
    obtain ⟨h1, h2⟩ := send_some hl h
    have u := (h1 f).2 ⟨u0, e⟩
    refine ⟨m, rfl, List.map_congr_left fun x hx => ?_⟩
    obtain ⟨z, hz⟩ := Option.isSome_iff_exists.mp (h2 x (.inr ((hv.mem x).1 hx)))
    rw [hz]
    exact (u x z hz).symm
/-! ### no repeats by the count of members -/
theorem nodup_card {ds xs : List Int} (hd : ds.Nodup) (hm : ∀ k, k ∈ ds ↔ k ∈ xs) : ds.length = xs.length ↔ xs.Nodup := by
  constructor
  · intro h
    exact (perm_of_sub ds xs hd (fun x hx => (hm x).1 hx) (by omega)).nodup_iff.mpr hd
  · intro h
    exact ((List.perm_ext_iff_of_nodup hd h).mpr hm).length_eq
end CA
set_option Elab.async false
set_option linter.all false
/-! The table that is told: no program here. -/
namespace CA
universe u
variable {κ : Type} [DecidableEq κ]
def rowsZ (keys : List (At κ)) (xs : List Int) : List (Rw κ) := ((keys.zip xs).filter fun p => decide (0 < p.2)).map fun p => mkRow p.1 p.2
theorem rowsZ_map (keys : List (At κ)) (w : At κ → Int) : rowsZ keys (keys.map w) = (keys.map fun k => mkRow k (w k)).filter fun r => decide (0 < oft r) := by
  unfold rowsZ
  induction keys with
  | nil => rfl
  | cons k keys ih =>
    rw [List.map_cons, List.zip_cons_cons, List.map_cons, List.filter_cons, List.filter_cons]
    by_cases h : 0 < w k
    · rw [if_pos (decide_eq_true h), if_pos (show decide (0 < oft (mkRow k (w k))) = true from decide_eq_true h), List.map_cons, ih]
    · rw [if_neg (by simpa using h), if_neg (by show ¬ decide (0 < w k) = true; simpa using h), ih]
theorem cnt_drop (as : List (At κ)) (keys : List (At κ)) (w : At κ → Int) (h : ∀ a, 0 ≤ w a) : cnt as (rowsZ keys (keys.map w)) = cnt as (keys.map fun k => mkRow k (w k)) := by
  rw [cnt_S, cnt_S, rowsZ_map]
  refine S_drop as _ _ (fun r hr hz => ?_) []
  obtain ⟨k, _, rfl⟩ := List.mem_map.mp hr
  have h1 : ¬ 0 < w k := of_decide_eq_false hz
  have h2 := h k
  show w k = 0
  omega
theorem told {as bs p q keys : List (At κ)} {va vb : List Int} (ha : IsVars as va) (hb : IsVars bs vb) (hpq : (p = as ∧ q = bs ∧ va.length ≤ vb.length) ∨ (p = bs ∧ q = as ∧ vb.length ≤ va.length)) (hn : keys.Nodup) (hm : ∀ a, a ∈ keys ↔ a ∈ q) (la : as.length ≤ 4) (lb : bs.length ≤ 4)
    (same : ∀ xs : List Int, xs.length = keys.length → (∀ n ∈ xs, n ∈ grid) → cnt as (rowsZ keys xs) = cnt bs (rowsZ keys xs)) : ∃ t, CovBy as bs va t ∧ t.Nodup := by
  have eq : ∀ w : At κ → Int, InGrid w → cnt as (keys.map fun k => mkRow k (w k)) = cnt bs (keys.map fun k => mkRow k (w k)) := fun w hw => by
    have pos : ∀ a, 0 ≤ w a := fun a => by
      have := hw a
      unfold grid at this
      simp only [List.mem_cons, List.not_mem_nil, or_false] at this
      omega
    rw [← cnt_drop as keys w pos, ← cnt_drop bs keys w pos]
    exact same _ (List.length_map _) fun n hn => by
      obtain ⟨k, _, rfl⟩ := List.mem_map.mp hn
      exact hw k
  rcases hpq with ⟨rfl, rfl, hl⟩ | ⟨rfl, rfl, hl⟩
  · obtain ⟨f, pm⟩ := apart_cov hn hm la lb eq
    have c : CovBy p q va (va.map f) := ⟨f, rfl, pm⟩
    exact ⟨_, c, cov_ren ha hb hl c⟩
  · obtain ⟨f, pm⟩ := apart_cov hn hm lb la fun w hw => (eq w hw).symm
    have c : CovBy p q vb (vb.map f) := ⟨f, rfl, pm⟩
    exact ren_sym hb ha c (cov_ren hb ha hl c)
theorem rowsZ_key (keys : List (At κ)) (xs : List Int) : ∀ r ∈ rowsZ keys xs, key r ∈ keys ∧ oft r ∈ xs ∧ 0 < oft r := by
  intro r hr
  unfold rowsZ at hr
  obtain ⟨p, hp, rfl⟩ := List.mem_map.mp hr
  obtain ⟨h1, h2⟩ := List.mem_filter.mp hp
  obtain ⟨a, b⟩ := p
  have := List.of_mem_zip h1
  exact ⟨this.1, this.2, of_decide_eq_true h2⟩
theorem rowsZ_nodup {keys : List (At κ)} (hn : keys.Nodup) (xs : List Int) : ((rowsZ keys xs).map key).Nodup := by
  unfold rowsZ
  rw [List.map_map]
  have e : (key ∘ fun p : At κ × Int => mkRow p.1 p.2) = Prod.fst := by
    funext p; rfl
  rw [e]
  have s : (((keys.zip xs).filter fun p => decide (0 < p.2)).map Prod.fst).Sublist ((keys.zip xs).map Prod.fst) := (List.filter_sublist).map _
  refine s.nodup ?_
  have z : ∀ (ks : List (At κ)) (ys : List Int), ((ks.zip ys).map Prod.fst).Sublist ks := by
    intro ks
    induction ks with
    | nil => intro ys; exact List.Sublist.slnil
    | cons k ks ih =>
      intro ys
      cases ys with
      | nil => exact List.nil_sublist _
      | cons y ys =>
        rw [List.zip_cons_cons, List.map_cons]
        exact (ih ys).cons₂ k
  exact (z keys xs).nodup hn
theorem rowsZ_len (keys : List (At κ)) (xs : List Int) : (rowsZ keys xs).length ≤ keys.length := by
  unfold rowsZ
  rw [List.length_map]
  refine Nat.le_trans (List.length_filter_le _ _) ?_
  rw [List.length_zip]
  omega
end CA
set_option Elab.async false
set_option linter.all false
set_option maxRecDepth 100000
namespace CA
open PySem PySem.Spec PyProof.Rows L2

/-! ### match on a text, two written cases -/
def tMatch2 (ts : TE) (a : Str) (t1 : TS) (b : Str) (t2 : TS) : TS := fun D σ H => ts σ H fun x H1 => ∃ z, x = .str z ∧ (z = a → t1 D σ H1) ∧ (z ≠ a → z = b → t2 D σ H1) ∧ (z ≠ a → z ≠ b → D.nx σ H1)
section
variable {X : Cx}
theorem ps_match2 {subj : Expr} {a b : Str} {j1 j2 : Nat} {p1 p2 q1 q2 pos : Pos} {b1 b2 : List Stmt} {ts : TE} {t1 t2 : TS} (hs : PE X subj ts) (h1 : PSs X b1 t1) (h2 : PSs X b2 t2) :
    PS X (.Match subj [⟨.MatchValue (.Constant (.str a) j1 p1) q1, none, b1⟩, ⟨.MatchValue (.Constant (.str b) j2 p2) q2, none, b2⟩] pos) (tMatch2 ts a t1 b t2) := by
  refine ⟨fun pins s σ H D I h => ?_⟩
  refine wpAny_Match (thn (hs.run pins s σ H _ I h) fun v s1 ⟨x, H1, I1, r1, z, ex, k1, k2, k3⟩ => ?_)
  subst ex
  have eq : ∀ (c : Str) (j : Nat) (p : Pos) (s : Shared) (Q : Bool → Shared → Prop), Inv X pins σ H1 s → (∀ s', Inv X pins σ H1 s' → Q (decide (z = c)) s') →
      wpAny (model X.prog X.w) X.A (eval (.Constant (.str c) j p) X.env) (fun u s₁ => wpAny (model X.prog X.w) X.A (compareOp .Eq v u) (fun c s₂ => wpAny (model X.prog X.w) X.A (truthy c) Q X.xe s₂) X.xe s₁) X.xe s := fun c j p s Q J hQ => by
    refine thn ((pe_str (X := X) (x := c) (j := j) (pos := p)).run pins s σ H1 (fun y H2 => y = .str c ∧ H2 = H1) J ⟨rfl, rfl⟩) fun u s2 ⟨y, H2, I2, r2, ey, eH⟩ => ?_
    subst ey eH
    refine thn (op_eq pins s2 σ H2 (.str z) (.str c) v u (fun y H3 => y = .bl (decide (V.str z = V.str c)) ∧ H3 = H2) I2 r1 r2 ⟨rfl, rfl, rfl⟩) fun w s3 ⟨y, H3, I3, r3, ey, eH⟩ => ?_
    subst ey eH
    obtain rfl : w = Value.bool (decide (V.str z = V.str c)) := r3
    refine wpAny_truthy_bool ?_
    have e : decide (V.str z = V.str c) = decide (z = c) := by
      by_cases q : z = c
      · rw [q, decide_eq_true rfl, decide_eq_true rfl]
      · rw [decide_eq_false q, decide_eq_false fun w => q (V.str.inj w)]
    rw [e]
    exact hQ s3 I3
  refine wpAny_matchCases_cons (wpAny_matchPattern_Value (eq a j1 p1 s1 _ I1 fun s2 I2 => ?_))
  by_cases ha : z = a
  · simp only [ha, decide_true, if_true]
    exact wpAny_assignInOrder_none (h1.run pins s2 σ H1 D I2 (k1 ha))
  · simp only [ha, decide_false, Bool.false_eq_true, if_false]
    refine wpAny_matchCases_cons (wpAny_matchPattern_Value (eq b j2 p2 s2 _ I2 fun s3 I3 => ?_))
    by_cases hb : z = b
    · simp only [hb, decide_true, if_true]
      exact wpAny_assignInOrder_none (h2.run pins s3 σ H1 D I3 (k2 ha hb))
    · simp only [hb, decide_false, Bool.false_eq_true, if_false]
      exact wpAny_matchCases_nil ⟨σ, H1, I3, k3 ha hb⟩

/-! ### C(*xs) -/
open StX in
def tMakeS (K : PySem.W.Frag) (C : Addr) (sp : Sp) (E : XK) (te : TE) : TE := fun σ H Q => te σ H fun y H1 => ∃ a xs, y = V.ref a ∧ (SqT K H1 a xs ∨ SqL K H1 a xs) ∧
  ∀ x dx, H1 x = Option.none → H1 dx = Option.none → dx ≠ x → sp (V.ref x :: xs) (upd (upd H1 dx (.own x)) x (.ins C dx [])) (fun v H2 => v = .non ∧ Q (.ref x) H2) E
variable {CX : CXT} {k i : Nat} {f C : Addr} {sp : Sp} {E : XK} {x : Str} {e : Expr} {te : TE} {p sp_ pos : Pos}
theorem run_makeS {pins : List (Addr × Obj)} {s : Shared} {σ : L2.St} {H : Hp} {Q : VK} (M : Mk X.K C f) (F : FnR X.prog X.w X.K X.mg X.base CX k f sp) (hr : Room (k + 1) X.A) (hx : Passes CX X E) (he : PE X e te) (I : Inv X pins σ H s) (h : tMakeS X.K C sp E te σ H Q)
    (hst : starEach [.Starred e sp_] X.env = [(true, eval e X.env)]) : wpAny (model X.prog X.w) X.A (callWith pos (.ref C) [] (backTo pos (starEach [.Starred e sp_] X.env)) []) (EP X pins σ Q) X.xe s := by
  refine PySem.W.callWith_S (h₀ := X.base) I.ok.mod.kin M.kp (thn (he.run pins s σ H _ I h) fun v s1 ⟨y, H1, I1, ry, a, xs, ey, hxs, q⟩ => ?_) hst
  subst ey
  obtain rfl : v = Value.ref a := ry
  exact StX.star_any I1 hxs fun us s2 I2 rv => ⟨I2.kIn, StX.run_makeR M F hr hx I2 rv q⟩
/-- C a class of the module -/
theorem pe_makeS (M : Mk X.K C f) (F : FnR X.prog X.w X.K X.mg X.base CX k f sp) (hr : Room (k + 1) X.A) (hg : Gl X x) (hm : X.mg x = some (.ref C)) (hx : Passes CX X E) (he : PE X e te) (hdb : (x == ("__debug__" : Str)) = false := by decide)
    (hst : starEach [.Starred e sp_] X.env = [(true, eval e X.env)] := by rfl) : PE X (.Call (.Name x p) [.Starred e sp_] [] pos) (tMakeS X.K C sp E te) := by
  refine ⟨fun pins s σ H Q I h => ?_⟩
  exact wpAny_Call_Name_kw (ld_glob I hg hm (run_makeS M F hr hx he I h hst) hdb)
/-- C held by a name of the def -/
theorem pe_makeSL (M : Mk X.K C f) (F : FnR X.prog X.w X.K X.mg X.base CX k f sp) (hr : Room (k + 1) X.A) (hN : X.N[i]? = some x) (hv : Vis X.env.scope x) (hx : Passes CX X E) (he : PE X e te) (hdb : (x == ("__debug__" : Str)) = false := by decide) (hcd : (x == ("__classdict__" : Str)) = false := by decide)
    (hst : starEach [.Starred e sp_] X.env = [(true, eval e X.env)] := by rfl) : PE X (.Call (.Name x p) [.Starred e sp_] [] pos) (fun σ H Q => σ[i]? = some (some (.ref C)) ∧ tMakeS X.K C sp E te σ H Q) := by
  refine ⟨fun pins s σ H Q I h => ?_⟩
  obtain ⟨hs, h⟩ := h
  refine wpAny_Call_Name_kw (thn ((pe_var (pos := p) hN hv hdb hcd).run pins s σ H (fun v H1 => v = .ref C ∧ H1 = H) I ⟨.ref C, hs, rfl, rfl⟩) fun u s1 ⟨v, H1, I1, r1, q1⟩ => ?_)
  obtain ⟨ev, eH⟩ := q1
  subst ev eH
  cases r1
  exact run_makeS M F hr hx he I1 h hst
end
end CA
set_option Elab.async false
set_option linter.all false
set_option maxRecDepth 100000
namespace CA
open PySem PySem.Spec PyProof.Rows L2

/-! ### zip of two, each a list or a tuple -/
/-- t: a tuple; else a list -/
def Sd (K : PySem.W.Frag) (t : Bool) (H : Hp) (a : Addr) (xs : List V) : Prop := (t = true ∧ SqT K H a xs) ∨ (t = false ∧ SqL K H a xs)
def SdIt (t : Bool) (h : Heap) (it a : Addr) (i : Nat) : Prop := (t = true ∧ h.IsTupleIter it a i) ∨ (t = false ∧ h.IsListIter it a i)
def SdOb (t : Bool) (h : Heap) (a : Addr) (its : Array Value) : Prop := (t = true ∧ h.IsTuple a its) ∨ (t = false ∧ h.IsList a its)
theorem sdIt_ob {t : Bool} {h : Heap} {it a : Addr} {i : Nat} (x : SdIt t h it a i) : ∃ o, h.get? it = some o ∧ ∀ v, o.data ≠ .cell v := by
  rcases x with ⟨_, o, e, _, d⟩ | ⟨_, o, e, _, d⟩
  · exact ⟨o, e, fun v q => by rw [d] at q; cases q⟩
  · exact ⟨o, e, fun v q => by rw [d] at q; cases q⟩
theorem sdIt_at {t : Bool} {h h' : Heap} {it a : Addr} {i : Nat} (x : SdIt t h it a i) (k : ∀ o, h.get? it = some o → h'.get? it = some o) : SdIt t h' it a i := by
  rcases x with ⟨e, x⟩ | ⟨e, x⟩
  · exact .inl ⟨e, x.at k⟩
  · exact .inr ⟨e, x.at k⟩
theorem sd_draws {prog : Program} {w : World} {A : Around} (hh : A.handled = none) (t : Bool) (it a : Addr) (hne : a ≠ it) (its : Array Value) :
    Draws prog w A it [it, a] its.size (fun i v => its[i]? = some v) (fun i h => SdIt t h it a i ∧ SdOb t h a its) := by
  cases t with
  | true =>
    have D := Draws.tuple (prog := prog) (w := w) hh it a hne its
    have e : (fun (i : Nat) (h : Heap) => SdIt true h it a i ∧ SdOb true h a its) = fun i h => h.IsTupleIter it a i ∧ h.IsTuple a its := by
      funext i h
      simp [SdIt, SdOb]
    rw [e]
    exact D
  | false =>
    have D := Draws.list (prog := prog) (w := w) hh it a hne its
    have e : (fun (i : Nat) (h : Heap) => SdIt false h it a i ∧ SdOb false h a its) = fun i h => h.IsListIter it a i ∧ h.IsList a its := by
      funext i h
      simp [SdIt, SdOb]
    rw [e]
    exact D
theorem sd_vals {X : Cx} {pins : List (Addr × Obj)} {σ : L2.St} {H : Hp} {s : Shared} (I : Inv X pins σ H s) {t : Bool} {a : Addr} {xs : List V} (h : Sd X.K t H a xs) : ∃ its : List Value, Vals xs its ∧ SdOb t s.heap a its.toArray ∧ a < s.heap.objs.size := by
  rcases h with ⟨e, h⟩ | ⟨e, h⟩
  · obtain ⟨its, r, p, _⟩ := I.tuple h
    obtain ⟨o, ho, _⟩ := id p
    exact ⟨its, r, .inl ⟨e, p⟩, Heap.lt_size ho⟩
  · obtain ⟨its, r, p, _⟩ := I.list h
    exact ⟨its, r, .inr ⟨e, p.isList⟩, p.lt⟩
theorem sd_inj {X : Cx} {pins : List (Addr × Obj)} {σ : L2.St} {H : Hp} {s : Shared} (I : Inv X pins σ H s) {t : Bool} {a : Addr} {xs ys : List V} (h : Sd X.K t H a xs) (g : Sd X.K t H a ys) : xs = ys := by
  rcases h with ⟨e, h⟩ | ⟨e, h⟩
  · rcases g with ⟨_, g⟩ | ⟨e2, g⟩
    · exact I.tuple_inj h g
    · rw [e] at e2; cases e2
  · rcases g with ⟨e2, g⟩ | ⟨_, g⟩
    · rw [e] at e2; cases e2
    · exact I.list_inj h g
theorem sd_begins (t : Bool) (a : Addr) (its : Array Value) : ∃ o, Begins (.ref a) o (fun h => SdOb t h a its) ∧ ∀ h it, h.get? it = some o → SdIt t h it a 0 := by
  cases t with
  | true =>
    refine ⟨{ cls := .type "tuple_iterator", data := .fields #[.ref a, .int 0 0] }, ?_, fun h it e => .inl ⟨rfl, _, e, rfl, rfl⟩⟩
    have e : (fun h : Heap => SdOb true h a its) = fun h => h.IsTuple a its := by
      funext h
      simp [SdOb]
    rw [e]
    exact begins_tuple a its
  | false =>
    refine ⟨{ cls := .type "list_iterator", data := .fields #[.ref a, .int 0 0] }, ?_, fun h it e => .inr ⟨rfl, _, e, rfl, rfl⟩⟩
    have e : (fun h : Heap => SdOb false h a its) = fun h => h.IsList a its := by
      funext h
      simp [SdOb]
    rw [e]
    exact begins_list a its

def ItzM (K : PySem.W.Frag) (t1 t2 : Bool) (a b : Addr) : It :=
  ⟨fun i H => ∃ (xs ys : List V) (x y : V), Sd K t1 H a xs ∧ Sd K t2 H b ys ∧ xs[i]? = some x ∧ ys[i]? = some y,
    fun i H v H' => ∃ T x y, v = .ref T ∧ H T = none ∧ H' = upd H T (.tup [x, y]) ∧ (∀ xs, Sd K t1 H a xs → xs[i]? = some x) ∧ ∀ ys, Sd K t2 H b ys → ys[i]? = some y,
    fun i H => ∃ xs ys : List V, Sd K t1 H a xs ∧ Sd K t2 H b ys ∧ i = min xs.length ys.length⟩
theorem turn_zipM {P : Program} {w : World} {K : PySem.W.Frag} {elts : List Expr} {kk : Nat} {tpos : Pos} {t1 t2 : Bool} {a b N : Addr} (ha : a < N) (hb : b < N) :
    Turn P w K (.Tuple elts kk tpos) (ItzM K t1 t2 a b) [N + 4, N + 2, N + 3, N, N + 1] (N + 4)
      (fun i h => IsZip h (N + 4) (N + 2) (N + 3) .none ∧ IsTupOf2 h (N + 2) (.ref N) (.ref (N + 1)) ∧ (∃ x y, IsTupOf2 h (N + 3) x y) ∧ SdIt t1 h N a i ∧ SdIt t2 h (N + 1) b i) := by
  have S : ZipSep2 (N + 4) (N + 2) (N + 3) N (N + 1) [N, a] [N + 1, b] := zip_sep2 (N := N) (fp1 := [a]) (fp2 := [b]) (fun c hc => by rw [List.mem_singleton.mp hc]; exact ha) (fun c hc => by rw [List.mem_singleton.mp hc]; exact hb)
  refine ⟨by simp, fun i h st c hc => ?_, fun i h h' st k => ?_, ?_, ?_, fun A i s Q E st h => wpAny_pyIter_zip st.1 h⟩
  · obtain ⟨hz, hTI, ⟨x, y, hTO⟩, h1, h2⟩ := st
    have e' : c = N + 4 ∨ c = N + 2 ∨ c = N + 3 ∨ c = N ∨ c = N + 1 := by simpa using hc
    rcases e' with q | q | q | q | q
    · rw [q]; exact ⟨_, hz, fun v q => nomatch q⟩
    · rw [q]; exact ⟨_, hTI, fun v q => nomatch q⟩
    · rw [q]; exact ⟨_, hTO, fun v q => nomatch q⟩
    · rw [q]; exact sdIt_ob h1
    · rw [q]; exact sdIt_ob h2
  · obtain ⟨hz, hTI, ⟨x, y, hTO⟩, h1, h2⟩ := st
    exact ⟨k (N + 4) (by simp) _ hz, k (N + 2) (by simp) _ hTI, ⟨x, y, k (N + 3) (by simp) _ hTO⟩, sdIt_at h1 fun o q => k N (by simp) o q, sdIt_at h2 fun o q => k (N + 1) (by simp) o q⟩
  · intro X hP hw hK hc i pins s σ H E I hf st hg
    subst hP hw hK
    obtain ⟨hz, hTI, hTO, h1, h2⟩ := st
    obtain ⟨xs, ys, x, y, hqx, hqy, hx, hy⟩ := hg
    obtain ⟨its, rv, p, _⟩ := sd_vals I hqx
    obtain ⟨its2, rv2, p2, _⟩ := sd_vals I hqy
    obtain ⟨u, hu, ru⟩ := rv.get hx
    obtain ⟨u2, hu2, ru2⟩ := rv2.get hy
    have hh : X.A.in1.handled = none := I.ok.hd hc
    have W := GoesN.zip2 (elts := elts) (x1 := kk) (pos := tpos) S (sd_draws (prog := X.prog) (w := X.w) hh t1 N a (Nat.ne_of_lt ha) its.toArray) (sd_draws hh t2 (N + 1) b (Nat.ne_of_lt (Nat.lt_succ_of_lt hb)) its2.toArray)
    have l1 : i < its.toArray.size := by simpa using (List.getElem?_eq_some_iff.mp hu).1
    have l2 : i < its2.toArray.size := by simpa using (List.getElem?_eq_some_iff.mp hu2).1
    refine W.goes i s (fun u s2 => ∃ x H', Inv X pins σ H' s2 ∧ RelV x u ∧ (ItzM X.K t1 t2 a b).yld i H x H' ∧ _ ∧ ∀ b ∈ _, H' b = none) E (by omega) ⟨hz, hTI, hTO, ⟨h1, p⟩, ⟨h2, p2⟩⟩ fun v h' tk hY st' hk _ => ?_
    obtain ⟨T, x', y', rfl, hT, e1, e2, hTT⟩ := hY
    obtain rfl : x' = u := by
      have q : its[i]? = some x' := by simpa using e1
      rw [hu] at q
      exact (Option.some.inj q).symm
    obtain rfl : y' = u2 := by
      have q : its2[i]? = some y' := by simpa using e2
      rw [hu2] at q
      exact (Option.some.inj q).symm
    obtain ⟨z', TI', TO', ⟨g1, _⟩, ⟨g2, _⟩⟩ := st'
    have new : ObjOk X.prog X.w (upd H T (.tup [x, y])) h' T (.tup [x, y]) := ⟨by show 2 ≤ sizeLine; decide, [x', y'], .cons ru (.cons ru2 .nil), hTT⟩
    have I1 : Inv X pins σ (upd H T (.tup [x, y])) { s with heap := h', toks := tk } :=
      I.turnedNew (t' := tk) (ch := [N + 4, N + 2, N + 3, N, N + 1]) (fun c o hb q => hk c o (fun q' => hb (by
        have e : c = N + 4 ∨ c = N + 3 ∨ c = N ∨ c = N + 1 := by simpa using q'
        rcases e with e | e | e | e <;> simp [e])) q) hf hT new
    refine ⟨.ref T, _, I1, rfl, ⟨T, x, y, rfl, I.hok.fresh hT, rfl, fun l hl => by rw [sd_inj I hl hqx]; exact hx, fun l hl => by rw [sd_inj I hl hqy]; exact hy⟩, ⟨z', TI', TO', g1, g2⟩, fun c hcm => ?_⟩
    obtain ⟨o, ho, _⟩ : ∃ o, s.heap.get? c = some o ∧ True := by
      have e' : c = N + 4 ∨ c = N + 2 ∨ c = N + 3 ∨ c = N ∨ c = N + 1 := by simpa using hcm
      rcases e' with q | q | q | q | q
      · rw [q]; exact ⟨_, hz, trivial⟩
      · rw [q]; exact ⟨_, hTI, trivial⟩
      · rw [q]; obtain ⟨_, _, z⟩ := hTO; exact ⟨_, z, trivial⟩
      · rw [q]; obtain ⟨o, z, _⟩ := sdIt_ob h1; exact ⟨o, z, trivial⟩
      · rw [q]; obtain ⟨o, z, _⟩ := sdIt_ob h2; exact ⟨o, z, trivial⟩
    rw [upd_ne (Nat.ne_of_lt (Nat.lt_of_lt_of_le (Heap.lt_size ho) hT))]
    exact (hf c hcm).1
  · intro X hP hw hK hc i pins s σ H E I hf st hg
    subst hP hw hK
    obtain ⟨hz, hTI, hTO, h1, h2⟩ := st
    obtain ⟨xs, ys, hqx, hqy, hend⟩ := hg
    obtain ⟨its, rv, p, _⟩ := sd_vals I hqx
    obtain ⟨its2, rv2, p2, _⟩ := sd_vals I hqy
    have hh : X.A.in1.handled = none := I.ok.hd hc
    have W := GoesN.zip2 (elts := elts) (x1 := kk) (pos := tpos) S (sd_draws (prog := X.prog) (w := X.w) hh t1 N a (Nat.ne_of_lt ha) its.toArray) (sd_draws hh t2 (N + 1) b (Nat.ne_of_lt (Nat.lt_succ_of_lt hb)) its2.toArray)
    have l1 := rv.length
    have l2 := rv2.length
    have e : i = min its.toArray.size its2.toArray.size := by simp only [List.size_toArray]; omega
    refine W.stops s (fun s1 => Inv X pins σ H s1) E ⟨hz, hTI, hTO, by rw [← e]; exact ⟨h1, p⟩, by rw [← e]; exact ⟨h2, p2⟩⟩ fun h' tk hk _ => ?_
    exact I.turnedL (t' := tk) (ch := [N + 4, N + 2, N + 3, N, N + 1]) (fun c o hb q => hk c o (fun q' => hb (by
        have e : c = N + 4 ∨ c = N + 3 ∨ c = N ∨ c = N + 1 := by simpa using q'
        rcases e with e | e | e | e <;> simp [e])) q) hf
def iZipM (K : PySem.W.Frag) (ta : TA) : TI := fun σ H R => ta σ H fun vs H1 => ∃ (t1 t2 : Bool) (a b : Addr) (xs ys : List V), vs = [.ref a, .ref b] ∧ Sd K t1 H1 a xs ∧ Sd K t2 H1 b ys ∧ R (ItzM K t1 t2 a b) H1
theorem pi_zipM {X : Cx} {e e2 : Expr} {ta : TA} {p pos tpos : Pos} {elts : List Expr} {kk : Nat} (hg : Gl X "zip") (hm : X.mg "zip" = none) (ha : PA X [e, e2] ta)
    (hs : starEach [e, e2] X.env = (false, eval e X.env) :: starEach [e2] X.env := by rfl) (hpl : (backTo pos (starEach [e2] X.env)).any (·.1) = false := by rfl) :
    PI X (.Tuple elts kk tpos) (.Call (.Name "zip" p) [e, e2] [] pos) (iZipM X.K ta) := by
  refine ⟨fun pins s σ H R I h => ?_⟩
  refine Call_ (ld_blt I hg hm PyProof.Rows.boot_zip (PyProof.Rows.callWith_type1 (thn (ha.run pos pins s σ H _ I h) fun us s1 ⟨vs, H1, I1, r1, q1⟩ => ?_) hs hpl))
  obtain ⟨t1, t2, a, b, xs, ys, ex, hqx, hqy, q⟩ := q1
  subst ex
  cases r1 with
  | cons r rr =>
    cases rr with
    | cons r' rr =>
      cases rr
      cases r
      cases r'
      obtain ⟨its, rv, p1, la⟩ := sd_vals I1 hqx
      obtain ⟨its2, rv2, p2, lb⟩ := sd_vals I1 hqy
      obtain ⟨o1, B1, f1⟩ := sd_begins t1 a its.toArray
      obtain ⟨o2, B2, f2⟩ := sd_begins t2 b its2.toArray
      refine zip_begins2 B1 B2 p1 p2 fun h' hz hTI hTO h1 h2 hsz hk => wpAny_pyIter_zip hz ?_
      have I2 : Inv X pins σ H1 { s1 with heap := h' } := I1.kept (t' := s1.toks) hk
      refine ⟨s1.heap.objs.size + 4, [s1.heap.objs.size + 4, s1.heap.objs.size + 2, s1.heap.objs.size + 3, s1.heap.objs.size, s1.heap.objs.size + 1], _, _, H1, rfl, I2, turn_zipM la lb, ⟨hz, hTI, ⟨_, _, hTO⟩, f1 _ _ h1, f2 _ _ h2⟩, fun c hcm => ?_, q⟩
      have hle : s1.heap.objs.size ≤ c := by
        have e' : c = s1.heap.objs.size + 4 ∨ c = s1.heap.objs.size + 2 ∨ c = s1.heap.objs.size + 3 ∨ c = s1.heap.objs.size ∨ c = s1.heap.objs.size + 1 := by simpa using hcm
        rcases e' with z | z | z | z | z
        · rw [z]; exact Nat.le_add_right _ _
        · rw [z]; exact Nat.le_add_right _ _
        · rw [z]; exact Nat.le_add_right _ _
        · rw [z]; exact Nat.le_refl _
        · rw [z]; exact Nat.le_add_right _ _
      exact I1.fpOk hle (I1.hok.fresh hle)
theorem walk_zipM {K : PySem.W.Frag} {t1 t2 : Bool} {a b : Addr} {xs ys : List V} {n : Nat} (hn : n = min xs.length ys.length) (inj : ∀ H xs', Sd K t1 H a xs → Sd K t1 H a xs' → True) :
    Walk (ItzM K t1 t2 a b) n (fun H => Sd K t1 H a xs ∧ Sd K t2 H b ys) (YPair (fun i => xs[i]?) (fun i => ys[i]?)) := by
  subst hn
  refine ⟨fun i H hi q => ?_, fun H q => ⟨xs, ys, q.1, q.2, rfl⟩, fun i H v H' _ q y => ?_⟩
  · have h1 : i < xs.length := by omega
    have h2 : i < ys.length := by omega
    exact ⟨xs, ys, xs[i], ys[i], q.1, q.2, by simp [h1], by simp [h2]⟩
  · obtain ⟨T, x, z, h1, h2, h3, h4, h5⟩ := y
    exact ⟨T, x, z, h1, h2, h3, h4 xs q.1, h5 ys q.2⟩
end CA
set_option Elab.async false
set_option linter.all false
set_option maxRecDepth 100000
namespace CA
open PySem PySem.Spec PyProof.Rows L2

/-! ### the new set of a list's or a tuple's items, whatever they are: by what an adding keeps -/
abbrev newSetO (w : World) : Obj := { cls := .type "set", dict := none, data := .set #[] 0 (.fresh 0 0 (!w.params.followText "set-order")) }
section
variable {P : Program} {w : World} {A : Around} {E : Value → Shared → Prop} {s : Shared}
/-- one adding: from what holds behind i items to what holds behind i + 1 -/
def AddStep (P : Program) (w : World) (h0 : Heap) (S : Addr) (items : Array Value) (un : Nat) (G : Nat → Heap → Prop) : Prop :=
  ∀ (i : Nat) (v : Value) (s : Shared), items[i]? = some v → G i s.heap → (∀ b o, h0.get? b = some o → s.heap.get? b = some o) → ∀ (A : Around) (E : Value → Shared → Prop) (Q : Bool → Shared → Prop), A.units ≤ un →
    (∀ b h' tk, Heap.SameBut S s.heap h' → G (i + 1) h' → Q b { s with heap := h', toks := tk }) → wpAny (model P w) A (setAdd S v) Q E s
theorem set_loop_src {h0 : Heap} {S I l : Addr} {items : Array Value} {un : Nat} {G : Nat → Heap → Prop} {fp : List Addr} {St : Nat → Heap → Prop} (W : Walks P w A.in1 I fp [I] items.size (fun i v => items[i]? = some v) St) (hIS : I ≠ S) (hfS : S ∉ fp) (hI : h0.get? I = none) (hS0 : h0.get? S = none) (hu : A.in1.units ≤ un)
    (frame : ∀ i h h', G i h → (∀ b o, b ≠ I → h.get? b = some o → h'.get? b = some o) → G i h') (step : AddStep P w h0 S items un G) {R : Result → Shared → Prop} :
    ∀ (k i : Nat) (s : Shared), items.size - i = k → i ≤ items.size → St i s.heap → (∀ b o, h0.get? b = some o → s.heap.get? b = some o) → G i s.heap →
      (∀ h' tk, G items.size h' → (∀ b o, h0.get? b = some o → h'.get? b = some o) → R (.ok (.ret .none)) { s with heap := h', toks := tk }) →
      codeAny (model P w) A (.builtin "set.update.loop" ⟨[.ref S, .ref I], []⟩) R s := by
  have keep : ∀ {h h' : Heap}, (∀ b o, b ∉ [I] → h.get? b = some o → h'.get? b = some o) → (∀ b o, h0.get? b = some o → h.get? b = some o) → ∀ b o, h0.get? b = some o → h'.get? b = some o := fun k1 k0 b o e =>
    k1 b o (fun hb => by rw [List.mem_singleton.mp hb, hI] at e; cases e) (k0 b o e)
  intro k
  induction k with
  | zero =>
    intro i s hk' hi hst hkp g hR
    have hin : i = items.size := by omega
    subst hin
    refine codeAny_builtin F.entry_set_update_loop ?_
    rw [Around.under_plainId F.plain_set_update_loop _]
    show wpAny _ A.in1 (pyNext (.ref I) >>= _) _ _ s
    refine wpAny_bind (W.done s _ _ hst fun h' tk hm => ?_)
    show wpAny _ A.in1 (ret Value.none) _ _ _
    exact wpAny_pure (hR h' tk (frame _ _ _ g fun b o hb e => hm b o (fun z => hb (List.mem_singleton.mp z)) e) (keep hm hkp))
  | succ k ih =>
    intro i s hk' hi hst hkp g hR
    have hlt : i < items.size := by omega
    refine codeAny_builtin F.entry_set_update_loop ?_
    rw [Around.under_plainId F.plain_set_update_loop _]
    show wpAny _ A.in1 (pyNext (.ref I) >>= _) _ _ s
    refine wpAny_bind (W.item i s _ _ hlt hst fun v h1 tk hP st1 hm => ?_)
    have hkp1 := keep hm hkp
    have g1 : G i h1 := frame _ _ _ g fun b o hb e => hm b o (fun z => hb (List.mem_singleton.mp z)) e
    show wpAny _ A.in1 (holding [v] (setAdd S v) >>= _) _ _ _
    refine wpAny_bind (wpAny_holding (step i v { s with heap := h1, toks := tk } hP g1 hkp1 _ _ _ hu fun b h2 tk2 hs2 g2 => ?_))
    have hkp2 : ∀ b o, h0.get? b = some o → h2.get? b = some o := fun b o e => (hs2.2 b (fun z => by rw [z, hS0] at e; cases e)).trans (hkp1 b o e)
    refine wpAny_pure ⟨plainId_quiet F.plain_set_update_loop _, ih (i + 1) { s with heap := h2, toks := tk2 } (by omega) hlt (W.frame _ _ _ st1 fun b hb o e => ?_) hkp2 g2 hR⟩
    rw [hs2.2 b (fun z => hfS (by rw [← z]; exact hb))]
    exact e
end
end CA
set_option Elab.async false
set_option linter.all false
set_option maxRecDepth 100000
namespace CA
open PySem PySem.Spec PyProof.Rows L2
section
variable {P : Program} {w : World} {A : Around} {E : Value → Shared → Prop} {s : Shared}
set_option maxHeartbeats 3200000 in
/-- set(x), x a list or a tuple, whatever its items: by what the addings keep -/
theorem call_set_src {t : Bool} {l : Addr} {items : Array Value} {G : Nat → Heap → Prop} {Q : Value → Shared → Prop} (noH : A.handled = none) (src : SdOb t s.heap l items)
    (start : ∀ h, (∀ b o, s.heap.get? b = some o → h.get? b = some o) → h.get? s.heap.objs.size = some (newSetO w) → G 0 h)
    (frame : ∀ i h h', G i h → (∀ b o, b ≤ s.heap.objs.size → h.get? b = some o → h'.get? b = some o) → G i h')
    (step : AddStep P w s.heap s.heap.objs.size items (A.units + 3) G)
    (fin : ∀ h' tk, G items.size h' → (∀ b o, s.heap.get? b = some o → h'.get? b = some o) → Q (.ref s.heap.objs.size) { s with heap := h', toks := tk }) :
    wpAny (model P w) A (call (.type "set") [.ref l]) Q E s := by
  obtain ⟨cM, tM, mroS⟩ := F.called_set.mro
  have madeS := F.called_set.made
  have subS := F.called_set.sub
  refine wpAny_call (codeAny_of_tree ?_)
  show wpAny _ _ (callAny (.type "set") _) _ _ _
  refine wpAny_pure ⟨Code.quiet_builtin _ (by decide +kernel), codeAny_builtin F.entry_type_call ?_⟩
  rw [Around.under_plain (weight_type_call_type "set" [.ref l] []) rfl]
  have nT := F.called_set.notType
  have cC := F.called_set.canCreate
  have tC := F.typeCall_set_1 (.ref l)
  repeat (any_goals (first | assumption | wp_step))
  refine codeAny_mono (code_set_led1 (.ref l) (E := E) (Q₁ := fun ob s₁ => ob = .ref s.heap.objs.size ∧ s₁ = { s with heap := s.heap.push (newSetO w) }) ⟨rfl, rfl⟩) fun r s₁ hr => ?_
  match r, hr with
  | .error e, hr => exact hr
  | .ok .next, hr => exact hr.elim
  | .ok .brk, hr => exact hr.elim
  | .ok .cont, hr => exact hr.elim
  | .ok (.ret ob), hr =>
    obtain ⟨rfl, rfl⟩ := hr
    have atS : (s.heap.push (newSetO w)).get? s.heap.objs.size = some (newSetO w) := Heap.get?_push_size _ rfl
    have tyS : Shared.TypeIs { s with heap := s.heap.push (newSetO w) } (.ref s.heap.objs.size) "set" := ⟨_, atS, rfl⟩
    have iL := F.called_set.init.lookup
    have iB := F.called_set.init.bind (.ref s.heap.objs.size)
    repeat (any_goals (first | assumption | wp_step))
    refine codeAny_mono (codeAny_call_builtin (R := wants (fun r s₂ => r = .none ∧ ∃ h' tk, s₂ = { s with heap := h', toks := tk } ∧ G items.size h' ∧ (∀ b o, s.heap.get? b = some o → h'.get? b = some o)) E)
      F.called_set.init.plain F.entry_set_init (check_set_init_1 tyS ?_)) fun r₂ s₂ hr₂ => ?_
    · have noH3 : A.in1.in1.in1.handled = none := by simp [noH]
      have k1 : ∀ b o, s.heap.get? b = some o → (s.heap.push (newSetO w)).get? b = some o := fun b o e => Heap.get?_push_of_some _ e
      have szS : (s.heap.push (newSetO w)).objs.size = s.heap.objs.size + 1 := Heap.size_push ..
      -- the loop, from an iterator that has come
      have loop : ∀ (it : Obj) (St : Nat → Heap → Prop), l < s.heap.objs.size → Walks P w A.in1.in1.in1 (s.heap.push (newSetO w)).objs.size [(s.heap.push (newSetO w)).objs.size, l] [(s.heap.push (newSetO w)).objs.size] items.size (fun i v => items[i]? = some v) St →
          St 0 ((s.heap.push (newSetO w)).push it) → (∀ r : Result → Shared → Prop, (∀ h' tk, G items.size h' → (∀ b o, s.heap.get? b = some o → h'.get? b = some o) → r (.ok (.ret .none)) { s with heap := h', toks := tk }) →
            codeAny (model P w) A.in1.in1 (.builtin "set.update.loop" ⟨[.ref s.heap.objs.size, .ref (s.heap.push (newSetO w)).objs.size], []⟩) r { s with heap := (s.heap.push (newSetO w)).push it }) := fun it St ll W st r hr => by
        have none_of : ∀ b, s.heap.objs.size ≤ b → s.heap.get? b = none := fun b hb => by
          cases q : s.heap.get? b with
          | none => rfl
          | some o => exact absurd (Nat.lt_of_lt_of_le (Heap.lt_size q) hb) (Nat.lt_irrefl _)
        have k2 : ∀ b o, s.heap.get? b = some o → ((s.heap.push (newSetO w)).push it).get? b = some o := fun b o e => Heap.get?_push_of_some _ (k1 b o e)
        refine set_loop_src (h0 := s.heap) (un := A.units + 3) (l := l) W (by rw [szS]; exact Nat.succ_ne_self _) ?_ (none_of _ (by rw [szS]; exact Nat.le_succ _)) (none_of _ (Nat.le_refl _)) (by
            show A.units + 1 + 1 + 1 ≤ _
            omega) (fun i h h' g k => frame i h h' g fun b o hb e => k b o (by rw [szS]; exact Nat.ne_of_lt (Nat.lt_succ_of_le hb)) e) step (items.size - 0) 0 _ (by omega) (Nat.zero_le _) st k2
          (start _ k2 (Heap.get?_push_of_some _ atS)) hr
        rw [szS]
        simp only [List.mem_cons, List.not_mem_nil, or_false, not_or]
        exact ⟨Nat.ne_of_lt (Nat.lt_succ_self _), Nat.ne_of_gt ll⟩
      rcases src with ⟨rfl, src⟩ | ⟨rfl, src⟩
      · obtain ⟨⟨cl, dd, dt, sl⟩, at_l, hcl, nl, hdl⟩ := src
        simp only at hcl hdl
        subst hcl; subst hdl
        have ll := Heap.lt_size at_l
        have at_l2 := k1 _ _ at_l
        have q1 := F.sub_tuple_set
        have q2 := F.sub_tuple_frozenset
        have q3 : (Value.type "tuple" == Value.type "dict") = false := by decide
        have isT : (s.heap.push (newSetO w)).IsTuple l items := ⟨_, at_l2, rfl, nl, rfl⟩
        have apart : l ≠ (s.heap.push (newSetO w)).objs.size := by
          rw [szS]; exact Nat.ne_of_lt (Nat.lt_succ_of_lt ll)
        unfold Builtin.«set.__init__» noKeywords Builtin.Frozenset.updateFrom
        generalize gen : pyIter = PI
        wp_walk
        subst gen
        refine wpAny_pyIter_tuple isT (wpAny_bind (wpAny_runValue ?_))
        refine loop _ _ ll (Walks.tuple noH3 _ l apart items) ⟨⟨_, Heap.get?_push_size _ rfl, rfl, rfl⟩, isT.push _⟩ _ fun h' tk g k => ?_
        show wpAny _ _ _ _ _ _
        refine wpAny_pure ?_
        show wpAny _ _ (ret Value.none) _ _ _
        exact wpAny_pure ⟨rfl, h', tk, rfl, g, k⟩
      · obtain ⟨⟨cl, dd, dt, sl⟩, at_l, hcl, nl, hdl⟩ := src
        simp only at hcl hdl
        subst hcl; subst hdl
        have ll := Heap.lt_size at_l
        have at_l2 := k1 _ _ at_l
        have q1 := F.sub_list_set
        have q2 := F.sub_list_frozenset
        have q3 : (Value.type "list" == Value.type "dict") = false := by decide
        have isL : (s.heap.push (newSetO w)).IsList l items := ⟨_, at_l2, rfl, nl, rfl⟩
        have apart : l ≠ (s.heap.push (newSetO w)).objs.size := by
          rw [szS]; exact Nat.ne_of_lt (Nat.lt_succ_of_lt ll)
        unfold Builtin.«set.__init__» noKeywords Builtin.Frozenset.updateFrom
        generalize gen : pyIter = PI
        wp_walk
        subst gen
        refine wpAny_pyIter_list isL (wpAny_bind (wpAny_runValue ?_))
        refine loop _ _ ll (Walks.list noH3 _ l apart items) ⟨⟨_, Heap.get?_push_size _ rfl, rfl, rfl⟩, isL.push _⟩ _ fun h' tk g k => ?_
        show wpAny _ _ _ _ _ _
        refine wpAny_pure ?_
        show wpAny _ _ (ret Value.none) _ _ _
        exact wpAny_pure ⟨rfl, h', tk, rfl, g, k⟩
    · match r₂, hr₂ with
      | .error e, hr₂ => exact hr₂
      | .ok .next, hr₂ => exact hr₂.elim
      | .ok .brk, hr₂ => exact hr₂.elim
      | .ok .cont, hr₂ => exact hr₂.elim
      | .ok (.ret r), hr₂ =>
        obtain ⟨rfl, h', tk, rfl, g, k⟩ := hr₂
        repeat (any_goals (first | assumption | wp_step))
        exact fin h' tk g k
end
end CA
set_option Elab.async false
set_option linter.all false
set_option maxRecDepth 100000
namespace CA
open PySem PySem.Spec PyProof.Rows L2
section
variable {P : Program} {w : World} {A : Around} {E : Value → Shared → Prop} {s : Shared}
/-- set(x), x a list or a tuple of ints -/
theorem call_set_srcI {t : Bool} {l : Addr} {items : Array Value} (ns : List Int) {Q : Value → Shared → Prop} (noH : A.handled = none) (src : SdOb t s.heap l items) (hIs : IntsAre items.toList ns) (small : ns.length + 1 < scanBound)
    (fin : ∀ h' tk c, SetR w h' s.heap.objs.size (fun j => decide (j ∈ ns)) c → (∀ b o, s.heap.get? b = some o → h'.get? b = some o) → Q (.ref s.heap.objs.size) { s with heap := h', toks := tk }) :
    wpAny (model P w) A (call (.type "set") [.ref l]) Q E s := by
  have sz : items.size = ns.length := by
    have q := IntsAre.length hIs
    rw [Array.length_toList] at q
    exact q
  refine call_set_src (G := fun i h => ∃ c, c ≤ i ∧ SetR w h s.heap.objs.size (fun j => decide (j ∈ ns.take i)) c) noH src (fun h _ e => ⟨0, Nat.le_refl 0, setR_new_at e⟩)
    (fun i h h' ⟨c, hc, R⟩ k => ⟨c, hc, R.at fun o e => k _ o (Nat.le_refl _) e⟩) (fun i v s' hv ⟨c, hc, R⟩ _ A' E' Q' _ hQ => ?_) fun h' tk ⟨c, hc, R⟩ k => fin h' tk c ?_ k
  · have hi : i < ns.length := by rw [← sz]; exact (Array.getElem?_eq_some_iff.mp hv).1
    obtain ⟨tk, e⟩ := PyProof.Rows.IntsAre.int_at hIs i v (by rw [Array.getElem?_toList]; exact hv)
    have ez : ns.getD i 0 = ns[i] := by rw [List.getD_eq_getElem?_getD, List.getElem?_eq_getElem hi] <;> rfl
    rw [ez] at e
    subst e
    unfold setAdd
    refine wpAny_holding (wpAny_bind ((intKind P w).pyHash (k := ns[i]) (intKind_is _ _ _ _) ?_))
    refine setR_add_hashed (s := { s' with toks := s'.toks + 1 }) R (by omega) fun h2 sb R2 => ?_
    refine hQ _ h2 _ sb ⟨_, ?_, R2.congr fun j => ?_⟩
    · split <;> omega
    · rw [List.take_add_one, List.getElem?_eq_getElem hi]
      simp only [Option.toList_some, List.mem_append, List.mem_singleton, Bool.decide_or]
  · have e : ns.take items.size = ns := List.take_of_length_le (by omega)
    rw [e] at R
    exact R
end
section
variable {X : Cx}
def rSetI (K : PySem.W.Frag) (w : World) : List V → Hp → VK → Prop := fun xs H Q => ∃ (t : Bool) (l : Addr) (ns : List Int), xs = [V.ref l] ∧ Sd K t H l (ns.map V.int) ∧ ns.length + 1 < scanBound ∧
  ∀ (a : Addr) (ds : List Int), H a = none → ds.Nodup → (∀ k, k ∈ ds ↔ k ∈ ns) → Q (.ref a) (upd H a (SetO w a (fun j => decide (j ∈ ns)) ds.length))
theorem cr_setI (hc : X.calm = true) : CallR X (.type "set") (rSetI X.K X.w) := by
  intro pins s σ H xs us Q I r h
  obtain ⟨t, l, ns, rfl, hl, hb, q⟩ := h
  rw [Vals.ref1 r]
  obtain ⟨its, rv, ob, _⟩ := sd_vals I hl
  refine call_set_srcI ns (I.ok.hd hc) ob (by simpa using ints_of_vals rv) hb fun h' tk c R k => ?_
  have hn : H s.heap.objs.size = none := I.hok.fresh (Nat.le_refl _)
  obtain ⟨o, es, ep, tb, ho, hex, hd, ge, nd, mem, sb, fits, ec, r⟩ := id R
  have el : (es.toList.map keyOf).length = c := by rw [List.length_map, Array.length_toList, ec]
  have q' := q s.heap.objs.size (es.toList.map keyOf) hn nd fun k => by rw [← mem k]; exact decide_eq_true_iff
  rw [el] at q'
  exact ⟨.ref s.heap.objs.size, upd H s.heap.objs.size (SetO X.w s.heap.objs.size (fun j => decide (j ∈ ns)) c), I.laid (t' := tk) k (Nat.le_refl _) (setO_new R), rfl, q'⟩
def rLenSO (w : World) : List V → Hp → VK → Prop := fun xs H Q => ∃ (a : Addr) (S : Int → Bool) (n : Nat), xs = [V.ref a] ∧ H a = some (SetO w a S n) ∧ Q (.int n) H
theorem cr_lenSO : CallR X (.builtin "len") (rLenSO X.w) := by
  intro pins s σ H xs us Q I r h
  obtain ⟨a, S, n, rfl, ha, q⟩ := h
  rw [Vals.ref1 r]
  obtain ⟨o, es, ep, tb, ho, hex, hd, _, _, _, sb, fits, ec, _⟩ := setO_get I ha
  have hz : (es.size : Int) < 2 ^ 63 := by
    have : es.size < 4096 := sb
    omega
  exact call_len_set ho hex hd fits hz ⟨.int n, H, I.tok _, ⟨_, by rw [ec]⟩, q⟩
/-! ### x in t, xs.count(x): any data -/
def rNotInT (K : PySem.W.Frag) : R2 := fun x y H Q => ∃ d ds, Dp K H x d ∧ Dp K H y (.tuple ds) ∧ SeqAt.shaped d = true ∧ SeqAt.shaped (.tuple ds) = true ∧ Q (.bl (!ds.any fun z => PyData.eqv z d)) H
theorem op_notInT (hu : X.A.units + 65 < cLine) : OpR X (compareOp .NotIn) (rNotInT X.K) := by
  intro pins s σ H x y v u Q I rx ry ⟨d, ds, hd, he, sd, se, q⟩
  obtain ⟨as, r1⟩ := Dp.reads I d x v hd rx
  obtain ⟨bs, r2⟩ := Dp.reads I (.tuple ds) y u he ry
  exact SeqAt.notIn_tuple_reads r2 r1 (SeqAt.canLay_of_shaped se) (SeqAt.canLay_of_shaped sd) (room_in_shaped sd hu) ⟨.bl _, H, I, rfl, q⟩
def rCountD (K : PySem.W.Frag) : V → List V → Hp → VK → Prop := fun x xs H Q => ∃ (a : Addr) (y : V) (d : PyData) (ds : List PyData), x = V.ref a ∧ xs = [y] ∧ Dp K H (V.ref a) (.list ds) ∧ Dp K H y d ∧ SeqAt.shaped (.list ds) = true ∧ SeqAt.shaped d = true ∧
  Q (.int (ds.countP fun z => PyData.eqv z d : Nat)) H
theorem mt_countD (hu : X.A.units + 65 < cLine) : MtR X "list.count" (rCountD X.K) := by
  intro pins s σ H x xs v us Q I rx rxs ⟨a, y, d, ds, ex, exs, hl, hy, sl, sd, q⟩
  subst ex exs
  cases rx
  obtain ⟨uy, rfl, ry⟩ := rxs.one
  obtain ⟨bs, r1⟩ := Dp.reads I d y uy hy ry
  have hxs : PyData.canLayAll0 ds = true := SeqAt.canLay_of_shaped sl
  cases hl with
  | lst hs ha =>
    obtain ⟨its, rv, ⟨⟨cls, dd, data, sls⟩, n, ho, hc, hdn, hdt⟩, hlen⟩ := I.list hs
    simp only at hc hdt
    subst hc hdt
    obtain ⟨as, h4⟩ := Dp.readsAll I ds _ its ha rv
    have hmap : its.map (SeqAt.readOf s.heap) = ds := SeqAt.readsAll_map ds its as hxs h4
    refine call_meets PySem.F.slot_list_count ⟨_, ho, rfl⟩ PySem.F.entry_list_count (PySem.F.args_list_count_2 _ _)
      (SeqAt.list_countAt a its.toArray n dd sls uy fun u => PyData.eqv (SeqAt.readOf s.heap u) d) ⟨ho, SeqAt.items_eqAt (vs := its.toArray) (show ReadsAll s.heap its.toArray.toList ds as from h4) r1 hxs (SeqAt.canLay_of_shaped sd) (room_in_shaped sd hu), ?_⟩
    have ec : its.toArray.toList.countP (fun u => PyData.eqv (SeqAt.readOf s.heap u) d) = ds.countP fun z => PyData.eqv z d := by
      rw [← hmap, List.countP_map] <;> rfl
    refine ⟨.int (ds.countP (fun z => PyData.eqv z d) : Nat), H, I.tok _, ⟨s.toks, ?_⟩, q⟩
    show Value.int ((its.toArray.toList.countP (fun u => PyData.eqv (SeqAt.readOf s.heap u) d) : Nat) : Int) s.toks = _
    rw [ec]
end
end CA
set_option Elab.async false
set_option linter.all false
set_option maxRecDepth 100000
namespace CA
open PySem PySem.Spec PyProof.Rows L2
/-! ### sets of tuples of ints and texts: the table's slots as TupSets tells them, the keys of either kind -/
abbrev hM (P : Program) (w : World) (k : List Key) : Int := tupleKeyHash (mixKind P w) k
abbrev IsM (P : Program) (w : World) (h : Heap) (k : List Key) (a : Addr) : Prop := IsTupleKey (mixKind P w) h k a
abbrev Ent := List (Addr × List Key)
def rowM (P : Program) (w : World) (L : Ent) : List (Int × Value) := L.map fun p => (hM P w p.2, Value.ref p.1)
abbrev begM (m : Nat) (z : Int) : SetTable.Probe := runAt m (SetTable.bits z % (m + 1)) (SetTable.bits z)
/-- an int or a text, by value -/
def Plain2 (v : Value) : Prop := (∃ i t, v = Value.int i t) ∨ ∃ x t, v = Value.str x t
section
variable {P : Program} {w : World} {A : Around} {E : Value → Shared → Prop} {s : Shared}
theorem plain2_items {k : List Key} {vs : List Value} (h : ItemsAre (mixKind P w) k vs) : ∀ v ∈ vs, Plain2 v := by
  induction h with
  | nil => intro v hv; cases hv
  | cons h1 _ ih =>
    intro v hv
    rcases List.mem_cons.mp hv with e | hv
    · rw [e]
      rcases keyIs_shape h1 with ⟨i, t, _, e2⟩ | ⟨x, t, _, e2⟩
      · exact .inl ⟨i, t, e2⟩
      · exact .inr ⟨x, t, e2⟩
    · exact ih v hv
theorem noClass2 (n : Nat) {v : Value} (h : Plain2 v) : ofAClassStatement n v = pure false := by
  rcases h with ⟨i, t, rfl⟩ | ⟨x, t, rfl⟩ <;> (cases n <;> rfl)
theorem byVal2 (n : Nat) {v : Value} (h : Plain2 v) : ∃ b, hashByValue n v = pure b := by
  rcases h with ⟨i, t, rfl⟩ | ⟨x, t, rfl⟩
  · exact ⟨true, by cases n <;> rfl⟩
  · exact ⟨false, by cases n <;> rfl⟩
theorem noClassM {k : List Key} {b : Addr} {Q : Bool → Shared → Prop} (hk : IsM P w s.heap k b) (h : Q false s) : wpAny (model P w) A (ofAClassStatement 8 (.ref b)) Q E s := by
  have ty := hk.typeIs
  obtain ⟨o, vs, n, ho, _, hd, hi⟩ := hk
  unfold ofAClassStatement
  refine wpAny_bind (wpAny_typeOf ty ?_)
  dsimp only
  have e : (("tuple" : String) == "tuple") = true := by decide
  simp only [e, if_true, Bool.not_true, Bool.false_eq_true, if_false]
  try refine wpAny_bind (wpAny_pure ?_)
  try simp only [Bool.not_true, Bool.false_eq_true, if_false]
  refine wpAny_bind (wpAny_seqItems ho hd ?_)
  dsimp only
  refine wpAny_bind ?_
  show wpAny _ _ (forIn vs _ _) _ _ s
  rw [← Array.forIn_toList]
  refine wpAny_forIn_list _ (fun left r s' => r.1 = none ∧ s' = s ∧ ∀ v ∈ left, Plain2 v) _ (fun v left r s' ⟨hr, hs, hall⟩ => ?_) (fun r s' ⟨hr, hs, _⟩ => ?_) _ _ ⟨rfl, rfl, plain2_items hi⟩
  · subst hs
    rw [noClass2 _ (hall v List.mem_cons_self)]
    refine wpAny_bind (wpAny_pure ?_)
    simp only [Bool.false_eq_true, if_false]
    exact wpAny_pure ⟨rfl, rfl, fun u q => hall u (List.mem_cons_of_mem _ q)⟩
  · obtain ⟨r1, r2⟩ := r
    simp only at hr
    subst hr hs
    exact wpAny_pure h
theorem byValM {k : List Key} {b : Addr} {Q : Bool → Shared → Prop} (hk : IsM P w s.heap k b) (h : ∀ c, Q c s) : wpAny (model P w) A (hashByValue 8 (.ref b)) Q E s := by
  have ty := hk.typeIs
  obtain ⟨o, vs, n, ho, _, hd, hi⟩ := hk
  unfold hashByValue
  refine wpAny_bind (wpAny_specialOf ty F.slot_tuple_hash.lookup ?_)
  show wpAny _ _ (seqItems? (.ref b) >>= _) _ _ s
  refine wpAny_bind (wpAny_seqItems ho hd ?_)
  refine wpAny_bind ?_
  show wpAny _ _ (forIn vs _ _) _ _ s
  rw [← Array.forIn_toList]
  have run : wpAny (model P w) A (forIn vs.toList ((none : Option Bool), ()) fun x _ => do
      if !(← hashByValue 7 x) then pure (ForInStep.done (some false, ())) else pure (ForInStep.yield (none, ()))) (fun _ s' => s' = s) E s := by
    refine wpAny_forIn_list _ (fun left _ s' => s' = s ∧ ∀ v ∈ left, Plain2 v) (fun _ s' => s' = s) (fun v left r s' ⟨hs, hall⟩ => ?_) (fun r s' ⟨hs, _⟩ => hs) _ _ ⟨rfl, plain2_items hi⟩
    subst hs
    obtain ⟨c, e⟩ := byVal2 7 (hall v List.mem_cons_self)
    rw [e]
    refine wpAny_bind (wpAny_pure ?_)
    cases c with
    | true =>
      simp only [Bool.not_true, Bool.false_eq_true, if_false]
      exact wpAny_pure ⟨rfl, fun u q => hall u (List.mem_cons_of_mem _ q)⟩
    | false =>
      simp only [Bool.not_false, if_true]
      exact wpAny_pure rfl
  refine thn run fun r s' hs => ?_
  subst hs
  obtain ⟨r1, r2⟩ := r
  cases r1 with
  | none => exact wpAny_pure (h _)
  | some c => exact wpAny_pure (h _)
theorem unseenM {k : List Key} {b : Addr} {Q : Bool → Shared → Prop} (hk : IsM P w s.heap k b) {ys : List Value} (hy : ∀ y ∈ ys, ∃ k' c, y = Value.ref c ∧ IsM P w s.heap k' c) (h : Q false s) :
    wpAny (model P w) A (searchCouldBeSeen (.ref b) ys) Q E s := by
  unfold searchCouldBeSeen
  refine wpAny_bind ?_
  refine wpAny_forIn_list _ (fun left r s' => r.1 = none ∧ s' = s ∧ ∀ y ∈ left, ∃ k' c, y = Value.ref c ∧ IsM P w s.heap k' c) _ (fun v left r s' ⟨hr, hs, hall⟩ => ?_) (fun r s' ⟨hr, hs, _⟩ => ?_) _ _ ⟨rfl, rfl, hy⟩
  · subst hs
    obtain ⟨k', c, rfl, hc⟩ := hall v List.mem_cons_self
    have left' : ∀ y ∈ left, ∃ k' c, y = Value.ref c ∧ IsM P w s'.heap k' c := fun u q => hall u (List.mem_cons_of_mem _ q)
    dsimp only
    by_cases hv : (b == c || (carriedByValue (.ref b) && carriedByValue (.ref c))) = true
    · exact wp_if_pos hv (wpAny_pure ⟨rfl, rfl, left'⟩)
    · refine wp_if_neg hv (wpAny_bind (wpAny_eqIsQuiet_tuple hk ?_))
      simp only [Bool.not_true, Bool.false_eq_true, if_false]
      refine wpAny_bind (wpAny_eqIsQuiet_tuple hc ?_)
      simp only [Bool.not_true, Bool.false_eq_true, if_false]
      refine wpAny_bind (noClassM hk ?_)
      simp only [Bool.false_eq_true, if_false]
      refine wpAny_bind (noClassM hc ?_)
      simp only [Bool.false_eq_true, if_false]
      exact wpAny_pure ⟨rfl, rfl, left'⟩
  · obtain ⟨r1, r2⟩ := r
    simp only at hr
    subst hr hs
    exact wpAny_pure h
/-- the set at a holds the entries L, in the table's order -/
structure SetM (P : Program) (w : World) (h : Heap) (a : Addr) (L : Ent) (es : Array (Int × Value)) (ep : Nat) (t : SetTable) : Prop where
  ob : ∃ o, h.get? a = some o ∧ o.ExactSet ∧ o.data = .set es ep t
  rows : es.toList = rowM P w L
  tab : TabOk t (L.map fun p => hM P w p.2)
  nd : (L.map (·.2)).Nodup
  tup : ∀ p ∈ L, IsM P w h p.2 p.1
  led : w.params.followText "set-order" = true ∨ t.led = true
  room : L.length * 5 < t.mask * 3
  few : L.length < 64
variable {a : Addr} {L : Ent} {es : Array (Int × Value)} {ep : Nat} {t : SetTable}
theorem rowM_len {es : Array (Int × Value)} {L : Ent} (h : es.toList = rowM P w L) : es.size = L.length := by
  have q := congrArg List.length h
  rwa [rowM, Array.length_toList, List.length_map] at q
theorem SetM.fits (R : SetM P w s.heap a L es ep t) : t.fits es.size = true := by
  have h1 := R.tab.sz
  rw [List.length_map] at h1
  have h2 := rowM_len R.rows
  have h3 := R.room
  unfold SetTable.fits SetTable.fill
  rw [R.tab.dm, Bool.and_eq_true, beq_iff_eq, decide_eq_true_eq]
  show t.place.size = es.size ∧ t.place.size + 0 ≤ t.mask
  omega
theorem SetM.ent (R : SetM P w s.heap a L es ep t) {i : Nat} {p : Addr × List Key} (h : L[i]? = some p) : es[i]? = some (hM P w p.2, Value.ref p.1) := by
  rw [← Array.getElem?_toList, R.rows, rowM, List.getElem?_map, h] <;> rfl
theorem SetM.odd (R : SetM P w s.heap a L es ep t) : ¬ t.gaveWay = true := by
  unfold SetTable.gaveWay
  rw [mask_odd R.tab.mok]
  decide
theorem nth_nodummy (m : Nat) : ∀ (n : Nat) (p : SetTable.Probe), p.dummy = none → (nth m p n).dummy = none
  | 0, _, h => h
  | n + 1, p, h => nth_nodummy m n (adv m p) (by unfold adv; split <;> exact h)
/-- the search from the c-th slot of the way on -/
theorem seekM (R : SetM P w s.heap a L es ep t) {x : Addr} {k : List Key} (hx : IsM P w s.heap k x) (hu : A.units < cLine) {K : Nat} (kf : K < 10 * SetTable.turns t.mask) (emp : way t.mask (hM P w k) K ∉ t.place.toList)
    (occ : ∀ c, c < K → way t.mask (hM P w k) c ∈ t.place.toList) {Q : SetFound → Shared → Prop} (yes : k ∈ L.map (·.2) → Q (.there none) s) (no : k ∉ L.map (·.2) → Q (.free (way t.mask (hM P w k) K) false) s) :
    ∀ (f c : Nat) (st : Option SetTable.Probe), st.getD (t.probeStart (hM P w k)) = nth t.mask (begM t.mask (hM P w k)) c → c ≤ K → K - c < f →
      (∀ (i : Nat) p, L[i]? = some p → p.2 = k → ∃ c', c ≤ c' ∧ c' < K ∧ t.place.toList[i]? = some (way t.mask (hM P w k) c')) →
      wpAny (model P w) A (setSearchFrom a (.ref x) (hM P w k) true f st) Q E s := by
  intro f
  induction f with
  | zero => intro c st _ _ hf; exact absurd hf (Nat.not_lt_zero _)
  | succ f ih =>
    intro c st hst hc hf ahead
    obtain ⟨o, ho, hex, hd⟩ := R.ob
    rw [setSearchFrom_succ]
    refine wpAny_bind (wpAny_setState_of ho hd R.fits ?_)
    dsimp only
    refine wp_if_neg R.odd ?_
    try refine wpAny_bind (wpAny_pure ?_)
    have sh : ∀ q, nth t.mask (nth t.mask (begM t.mask (hM P w k)) c) q = nth t.mask (begM t.mask (hM P w k)) (c + q) := fun q => (nth_add t.mask c _ q).symm
    have shj : ∀ q, (nth t.mask (nth t.mask (begM t.mask (hM P w k)) c) q).j = way t.mask (hM P w k) (c + q) := fun q => congrArg SetTable.Probe.j (sh q)
    have hAt : ∀ (i : Nat) p, L[i]? = some p → (fun i => (es[i]?.map (·.1)).getD 0) i = hM P w p.2 := fun i p hp => by
      show (es[i]?.map (·.1)).getD 0 = _
      rw [R.ent hp] <;> rfl
    have look := go_spec t R.tab.ris R.tab.dm (fun i => (es[i]?.map (·.1)).getD 0) (hM P w k) (10 * SetTable.turns t.mask) (K - c) (nth t.mask (begM t.mask (hM P w k)) c) (nth_nodummy t.mask c _ rfl) (by omega)
      (fun q hq => by rw [shj]; exact occ (c + q) (by omega)) (by rw [shj, show c + (K - c) = K by omega]; exact emp)
    rcases look with ⟨q, i, hq, hi, hh, hno, hpr⟩ | ⟨hno, hpr⟩
    · have pr : t.probe (fun i => (es[i]?.map (·.1)).getD 0) (hM P w k) (st.getD (t.probeStart (hM P w k))) = some (.candidate (way t.mask (hM P w k) (c + q)) i (nth t.mask (begM t.mask (hM P w k)) (c + (q + 1)))) := by
        rw [hst, ← shj, ← sh]
        exact hpr
      rw [pr]
      dsimp only
      rw [shj] at hi
      have il : i < L.length := by
        have h1 : i < t.place.toList.length := (List.getElem?_eq_some_iff.mp hi).1
        have h2 := R.tab.sz
        rw [List.length_map] at h2
        rw [Array.length_toList] at h1
        omega
      obtain ⟨p, hp⟩ : ∃ p, L[i]? = some p := ⟨_, List.getElem?_eq_getElem il⟩
      have pm : p ∈ L := List.mem_of_getElem? hp
      have pt := R.tup p pm
      have tail : wpAny (model P w) A (searchRest a (.ref x) (hM P w k) true f es t (way t.mask (hM P w k) (c + q)) i (nth t.mask (begM t.mask (hM P w k)) (c + (q + 1)))) Q E s := by
        unfold searchRest
        rw [R.ent hp]
        dsimp only
        refine wpAny_bind (wpAny_holding (wpAny_eqBool_tuple hu pt hx ?_))
        refine wpAny_bind (wpAny_setState_of ho hd R.fits ?_)
        dsimp only
        by_cases hkk : p.2 = k
        · exact wp_if_pos (by simp [hkk]) (wpAny_pure (yes (List.mem_map.mpr ⟨p, pm, hkk⟩)))
        · refine wp_if_neg (by simp [hkk]) ?_
          try refine wpAny_bind (wpAny_pure ?_)
          rw [sameMem]
          dsimp only
          have live : t.slot (way t.mask (hM P w k) (c + q)) = .live i := slot_live R.tab.ris hi
          simp only [if_true, live, R.ent hp]
          refine wpAny_bind (wpAny_isSame_ref_self (wpAny_bind (wpAny_pure ?_)))
          simp only [if_true]
          refine wp_if_neg (by simp [hkk]) (ih (c + (q + 1)) _ rfl (by omega) (by omega) fun i0 p0 h0 hk0 => ?_)
          obtain ⟨c', a1, a2, a3⟩ := ahead i0 p0 h0 hk0
          refine ⟨c', ?_, a2, a3⟩
          rcases Nat.lt_trichotomy c' (c + q) with z | z | z
          · exact (hno (c' - c) i0 (by omega) (by rw [shj, show c + (c' - c) = c' by omega]; exact a3) ((hAt i0 p0 h0).trans (congrArg (hM P w) hk0))).elim
          · rw [z] at a3
            have l0 := slot_live R.tab.ris a3
            rw [live] at l0
            injection l0 with l0
            rw [← l0, hp] at h0
            exact (hkk ((congrArg Prod.snd (Option.some.inj h0)).trans hk0)).elim
          · omega
      by_cases hl : t.led = true
      · refine wp_if_neg (by simp [hl]) ?_
        try refine wpAny_bind (wpAny_pure ?_)
        exact tail
      · refine wp_if_pos (by simp [hl]) (wpAny_bind (unseenM hx (fun y hy => ?_) (wp_if_neg (by decide) ?_)))
        · obtain ⟨e, he, ee⟩ := List.mem_map.mp hy
          have he1 : e ∈ es ∧ e.1 = hM P w k := by simpa using he
          have he2 : e ∈ es.toList := by simpa using he1.1
          rw [R.rows] at he2
          obtain ⟨p2, hp2, e2⟩ := List.mem_map.mp he2
          exact ⟨p2.2, p2.1, by rw [← ee, ← e2], R.tup p2 hp2⟩
        · try refine wpAny_bind (wpAny_pure ?_)
          exact tail
    · have pr : t.probe (fun i => (es[i]?.map (·.1)).getD 0) (hM P w k) (st.getD (t.probeStart (hM P w k))) = some (.empty (way t.mask (hM P w k) K) none) := by
        have e2 : way t.mask (hM P w k) K = (nth t.mask (nth t.mask (begM t.mask (hM P w k)) c) (K - c)).j := by
          rw [shj, show c + (K - c) = K by omega]
        rw [hst, e2]
        exact hpr
      rw [pr]
      dsimp only
      refine wpAny_pure (no fun hm => ?_)
      obtain ⟨p0, h0, hk0⟩ := List.mem_map.mp hm
      obtain ⟨i0, hi0, e0⟩ := List.getElem_of_mem h0
      have h00 : L[i0]? = some p0 := by rw [List.getElem?_eq_getElem hi0, e0]
      obtain ⟨c', a1, a2, a3⟩ := ahead i0 p0 h00 hk0
      exact hno (c' - c) i0 (by omega) (by rw [shj, show c + (c' - c) = c' by omega]; exact a3) ((hAt i0 p0 h00).trans (congrArg (hM P w) hk0))
theorem searchM (R : SetM P w s.heap a L es ep t) {x : Addr} {k : List Key} (hx : IsM P w s.heap k x) (hu : A.units < cLine) {Q : SetFound → Shared → Prop} (yes : k ∈ L.map (·.2) → Q (.there none) s)
    (no : ∀ K, k ∉ L.map (·.2) → way t.mask (hM P w k) K ∉ t.place.toList → (∀ c, c < K → way t.mask (hM P w k) c ∈ t.place.toList) → Q (.free (way t.mask (hM P w k) K) false) s) :
    wpAny (model P w) A (setSearch a (.ref x) (hM P w k) true) Q E s := by
  have room := R.room
  obtain ⟨K, kf, emp, occ⟩ := R.tab.first (by rw [List.length_map]; omega) (hM P w k)
  have big : K < 100000 := by
    have : 10 * SetTable.turns t.mask ≤ 1420 := by
      unfold SetTable.turns
      rcases R.tab.mok with e | e | e <;> omega
    omega
  unfold setSearch
  refine seekM R hx hu kf emp occ yes (fun hn => no K hn emp occ) 100000 0 none rfl (Nat.zero_le _) (by omega) fun i p hp hk => ?_
  have hi : (L.map fun p => hM P w p.2)[i]? = some (hM P w k) := by rw [List.getElem?_map, hp, ← hk] <;> rfl
  have il : i < t.place.toList.length := by
    have h1 : i < L.length := (List.getElem?_eq_some_iff.mp hp).1
    have h2 := R.tab.sz
    rw [List.length_map] at h2
    rw [Array.length_toList]
    omega
  have hj := List.getElem?_eq_getElem il
  obtain ⟨c, hc, e⟩ := R.tab.before emp hi hj
  exact ⟨c, Nat.zero_le _, hc, by rw [hj, e]⟩
end
end CA
set_option Elab.async false
set_option linter.all false
set_option maxRecDepth 100000
namespace CA
open PySem PySem.Spec PyProof.Rows L2
section
variable {P : Program} {w : World} {A : Around} {E : Value → Shared → Prop} {s : Shared}
theorem isM_same {h h' : Heap} {k : List Key} {a b : Addr} {o : Obj} {es : Array (Int × Value)} {ep : Nat} {t : SetTable} (hb : IsM P w h k b) (ho : h.get? a = some o) (hd : o.data = .set es ep t) (hs : Heap.SameBut a h h') : IsM P w h' k b := by
  obtain ⟨o2, vs, n, ho2, hc, hd2, hi⟩ := hb
  have ne : b ≠ a := fun e => by
    subst e
    rw [ho2] at ho
    cases ho
    rw [hd] at hd2
    cases hd2
  exact ⟨o2, vs, n, (hs.2 b ne).trans ho2, hc, hd2, hi⟩
theorem isM_keep {h h' : Heap} {k : List Key} {b : Addr} (x : IsM P w h k b) (hk : ∀ o, h.get? b = some o → h'.get? b = some o) : IsM P w h' k b := by
  obtain ⟨o, vs, n, ho, r⟩ := x
  exact ⟨o, vs, n, hk o ho, r⟩
theorem rowM_put (L : Ent) (p : Nat) (x : Addr) (k : List Key) : rowM P w (L.take p ++ (x, k) :: L.drop p) = (rowM P w L).take p ++ (hM P w k, Value.ref x) :: (rowM P w L).drop p := by
  simp only [rowM, List.map_append, List.map_cons, List.map_take, List.map_drop]
theorem ins_perm {α : Type} (L : List α) (p : Nat) (x : α) : (L.take p ++ x :: L.drop p).Perm (x :: L) := by
  have h : (L.take p ++ x :: L.drop p).Perm (x :: (L.take p ++ L.drop p)) := List.perm_middle
  rwa [List.take_append_drop] at h
theorem reorderM (L : Ent) (es : Array (Int × Value)) (order : Array Nat) (hr : es.toList = rowM P w L) (hp : order.toList.Perm (List.range L.length)) :
    ∃ L2 : Ent, (order.filterMap (es[·]?)).toList = rowM P w L2 ∧ L2.Perm L ∧ (L2.map fun p => hM P w p.2) = order.toList.map fun i => (es.map (·.1)).getD i 0 := by
  have sz := rowM_len hr
  have ent : ∀ i (h : i < L.length), es[i]? = some (hM P w (L[i]).2, Value.ref (L[i]).1) := fun i h => by
    rw [← Array.getElem?_toList, hr, rowM, List.getElem?_map, List.getElem?_eq_getElem h] <;> rfl
  have key : ∀ l : List Nat, (∀ i ∈ l, i < L.length) → ∃ L2 : Ent, l.filterMap (fun i => es[i]?) = rowM P w L2 ∧ L2 = l.filterMap (fun i => L[i]?) ∧ (L2.map fun p => hM P w p.2) = l.map fun i => (es.map (·.1)).getD i 0 := by
    intro l
    induction l with
    | nil => intro _; exact ⟨[], rfl, rfl, rfl⟩
    | cons i l ih =>
      intro hl
      have hi := hl i List.mem_cons_self
      obtain ⟨L2, e1, e2, e3⟩ := ih fun j hj => hl j (List.mem_cons_of_mem _ hj)
      refine ⟨L[i] :: L2, ?_, ?_, ?_⟩
      · rw [List.filterMap_cons_some (ent i hi), e1] <;> rfl
      · rw [List.filterMap_cons_some (List.getElem?_eq_getElem hi), e2]
      · rw [List.map_cons, List.map_cons, e3]
        have e5 : (es.map (·.1))[i]? = some (hM P w (L[i]).2) := by rw [Array.getElem?_map, ent i hi] <;> rfl
        have e4 : (es.map (·.1)).getD i 0 = hM P w (L[i]).2 := by simp [Array.getD_eq_getD_getElem?, e5]
        rw [e4]
  obtain ⟨L2, e1, e2, e3⟩ := key order.toList fun i hi => List.mem_range.mp (hp.mem_iff.mp hi)
  refine ⟨L2, by first | (rw [Array.toList_filterMap]; exact e1) | simpa using e1, ?_, e3⟩
  have h1 : L2.Perm ((List.range L.length).filterMap fun i => L[i]?) := by
    rw [e2]
    exact hp.filterMap _
  have h2 : ∀ n, n ≤ L.length → (List.range n).filterMap (fun i => L[i]?) = L.take n := by
    intro n
    induction n with
    | zero => intro _; rfl
    | succ n ih =>
      intro hn
      have hlt : n < L.length := hn
      rw [List.range_succ, List.filterMap_append, ih (Nat.le_of_lt hlt), List.take_succ, List.getElem?_eq_getElem hlt, List.filterMap_cons_some (List.getElem?_eq_getElem hlt)] <;> rfl
  rw [h2 L.length (Nat.le_refl _), List.take_length] at h1
  exact h1
variable {a : Addr} {L : Ent} {es : Array (Int × Value)} {ep : Nat} {t : SetTable}
theorem relayM {o : Obj} (ho : s.heap.get? a = some o) (hex : o.ExactSet) (hd : o.data = .set es ep t) (rows : es.toList = rowM P w L) (hsz : t.place.size = es.size) (hdm : t.dummies = #[]) (hfl : es.size ≤ t.mask)
    (nd : (L.map (·.2)).Nodup) (tup : ∀ p ∈ L, IsM P w s.heap p.2 p.1) (ld : w.params.followText "set-order" = true ∨ t.led = true) (few : L.length < 64) {wanted M : Nat}
    (hw : SetTable.sizeAbove wanted - 1 = M) (hMo : MaskOk M) (hw2 : SetTable.sizeAbove wanted ≤ 128) (hn : L.length * 5 < M * 3) {Q : Unit → Shared → Prop}
    (hQ : ∀ h' L' es' ep' t', Heap.SameBut a s.heap h' → SetM P w h' a L' es' ep' t' → L'.Perm L → Q () { s with heap := h' }) : wpAny (model P w) A (setRelay a wanted) Q E s := by
  have sl := rowM_len rows
  have fits : t.fits es.size = true := by
    unfold SetTable.fits SetTable.fill
    rw [hdm, Bool.and_eq_true, beq_iff_eq, decide_eq_true_eq]
    show t.place.size = es.size ∧ t.place.size + 0 ≤ t.mask
    omega
  obtain ⟨t', order, e, hp, T, em, el, _, ed⟩ := relaid_ok t (hs := es.map (·.1)) (wanted := wanted) hw hMo (by rw [Array.size_map, sl]; omega)
  rw [Array.size_map, sl] at hp
  obtain ⟨L2, r1, r2, r3⟩ := reorderM L es order rows hp
  rw [← r3] at T
  have s2 : (order.filterMap (es[·]?)).size = es.size := by rw [rowM_len r1, r2.length_eq, sl]
  rw [setRelay_eq]
  refine wpAny_bind (wpAny_setState_of ho hd fits ?_)
  dsimp only
  refine wp_if_neg (by rw [sizeLine_eq]; omega) ?_
  try refine wpAny_bind (wpAny_pure ?_)
  rw [e]
  dsimp only
  refine wpAny_bind (wp_if_neg (by rw [s2]; simp) ?_)
  try refine wpAny_bind (wpAny_pure ?_)
  refine wpAny_pure ?_
  dsimp only
  refine wpAny_storeSet_of ho hd ?_ (by rw [s2, sl, sizeLine_eq]; omega)
  have sb : Heap.SameBut a s.heap (s.heap.update a (Obj.putSet (order.filterMap (es[·]?)) t')) := Heap.SameBut.update ..
  refine hQ _ L2 (order.filterMap (es[·]?)) (ep + 1) t' sb ⟨⟨_, store_at ho hd, ⟨hex.1, hex.2.1, hex.2.2⟩, rfl⟩, r1, T, (r2.map (·.2)).nodup_iff.mpr nd, fun p hpm => isM_same (tup p (r2.mem_iff.mp hpm)) ho hd sb, by rw [el]; exact ld, ?_, by rw [r2.length_eq]; exact few⟩ r2
  rw [r2.length_eq, em]
  exact hn
theorem tabOk_plain {t : SetTable} {hs : List Int} {b : Bool} (T : TabOk t hs) : TabOk { t with plain := b } hs := ⟨T.ris, T.dm, T.sz, T.mok, T.bd, T.reach⟩
/-- one tuple added -/
theorem addM (R : SetM P w s.heap a L es ep t) {x : Addr} {k : List Key} (hx : IsM P w s.heap k x) (hu : A.units < cLine) (few : L.length + 1 < 64) {Q : Bool → Shared → Prop}
    (hQ : ∀ b h' L' es' ep' t', Heap.SameBut a s.heap h' → SetM P w h' a L' es' ep' t' → (k ∈ L.map (·.2) → L' = L) → (k ∉ L.map (·.2) → L'.Perm ((x, k) :: L)) → Q b { s with heap := h' }) :
    wpAny (model P w) A (setAddHashed a (.ref x) (hM P w k)) Q E s := by
  obtain ⟨o, ho, hex, hd⟩ := R.ob
  have sl := rowM_len R.rows
  have room := R.room
  unfold setAddHashed
  refine wpAny_holding ?_
  rw [show (100000 : Nat) = 99999 + 1 from rfl, setAddHashedIn_succ]
  refine wpAny_bind (wpAny_setState_of ho hd R.fits ?_)
  dsimp only
  refine wp_if_neg (by simp [byScan, Value.scannable]) ?_
  try refine wpAny_bind (wpAny_pure ?_)
  refine wpAny_bind (searchM R hx hu (fun hm => ?_) fun K hm emp occ => ?_)
  · dsimp only
    exact wpAny_pure (hQ false s.heap L es ep t (Heap.SameBut.refl a s.heap) R (fun _ => rfl) fun z => absurd hm z)
  · dsimp only
    refine wpAny_bind (wpAny_setState_of ho hd R.fits ?_)
    dsimp only
    obtain ⟨q1, q2, q3, q4, q5, q6, q7, q8, q9⟩ := R.tab.put emp occ
    generalize hpt : t.put (way t.mask (hM P w k) K) = pt at q1 q3 q4 q5 q6 q7 q8 q9 ⊢
    obtain ⟨t0, p⟩ := pt
    dsimp only at q1 q3 q4 q5 q6 q7 q8 q9 ⊢
    subst q1
    have hin : (SetTable.insertAt es (SetTable.below t.place (way t.mask (hM P w k) K)) (hM P w k, Value.ref x)).toList = rowM P w (L.take (SetTable.below t.place (way t.mask (hM P w k) K)) ++ (x, k) :: L.drop (SetTable.below t.place (way t.mask (hM P w k) K))) := by
      rw [SetTable.toList_insertAt, rowM_put, R.rows]
    generalize SetTable.below t.place (way t.mask (hM P w k) K) = p at q2 q3 hin ⊢
    have pm := ins_perm L p (x, k)
    have len1 : (L.take p ++ (x, k) :: L.drop p).length = L.length + 1 := pm.length_eq
    have hh : (L.take p ++ (x, k) :: L.drop p).map (fun p => hM P w p.2) = (L.map fun p => hM P w p.2).take p ++ hM P w k :: (L.map fun p => hM P w p.2).drop p := by
      rw [List.map_append, List.map_cons, List.map_take, List.map_drop]
    rw [← hh] at q3
    have nd1 : ((L.take p ++ (x, k) :: L.drop p).map (·.2)).Nodup := by
      refine (pm.map (·.2)).nodup_iff.mpr ?_
      rw [List.map_cons]
      exact List.nodup_cons.mpr ⟨hm, R.nd⟩
    have esz : (SetTable.insertAt es p (hM P w k, Value.ref x)).size = L.length + 1 := by rw [rowM_len hin, len1]
    generalize SetTable.insertAt es p (hM P w k, Value.ref x) = es1 at hin esz ⊢
    generalize L.take p ++ (x, k) :: L.drop p = L1 at pm len1 q3 nd1 hin
    -- whatever the plain mark is
    have rest : ∀ t1 : SetTable, TabOk t1 (L1.map fun p => hM P w p.2) → t1.mask = t.mask → t1.led = t.led → t1.fill = L.length + 1 →
        wpAny (model P w) A (do
          storeSet a es1 t1
          if (!false && t1.tooFull) = true then setRelay a (SetTable.grown (es.size + 1))
          return true) Q E s := fun t1 q3 q4 q5 q9 => by
      refine wpAny_bind (wpAny_storeSet_of ho hd ?_ (by rw [esz, sizeLine_eq]; omega))
      have sb : Heap.SameBut a s.heap (s.heap.update a (Obj.putSet es1 t1)) := Heap.SameBut.update ..
      have ho1 := store_at (es' := es1) (t' := t1) ho hd
      generalize s.heap.update a (Obj.putSet es1 t1) = h1 at sb ho1 ⊢
      have tup1 : ∀ p ∈ L1, IsM P w h1 p.2 p.1 := fun p hp => by
        rcases List.mem_cons.mp (pm.mem_iff.mp hp) with e | hp
        · rw [e]; exact isM_same hx ho hd sb
        · exact isM_same (R.tup p hp) ho hd sb
      have ld1 : w.params.followText "set-order" = true ∨ t1.led = true := by rw [q5]; exact R.led
      by_cases hf : t1.tooFull = true
      · first
          | (refine wpAny_bind ?_; refine wp_if_pos (by simp [hf]) ?_)
          | (refine wp_if_pos (by simp [hf]) ?_; refine wpAny_bind ?_)
        have full : (L.length + 1) * 5 ≥ t1.mask * 3 := by
          have h := hf
          unfold SetTable.tooFull at h
          rwa [decide_eq_true_eq, q9] at h
        rw [sl]
        have hsz1 : t1.place.size = es1.size := by
          have h := q3.sz
          rw [List.length_map, len1] at h
          rw [h, esz]
        have two : (t.mask = 7 ∧ L.length = 4) ∨ (t.mask = 31 ∧ L.length = 18) := by
          rcases R.tab.mok with e | e | e
          · left; rw [q4, e] at full; rw [e] at room; exact ⟨e, by omega⟩
          · right; rw [q4, e] at full; rw [e] at room; exact ⟨e, by omega⟩
          · exfalso; rw [q4, e] at full; omega
        have go : ∀ M, SetTable.sizeAbove (SetTable.grown (L.length + 1)) - 1 = M → MaskOk M → SetTable.sizeAbove (SetTable.grown (L.length + 1)) ≤ 128 → (L.length + 1) * 5 < M * 3 →
            wpAny (model P w) A (setRelay a (SetTable.grown (L.length + 1))) (fun _ s' => wpAny (model P w) A (pure true) Q E s') E { s with heap := h1 } := fun M m1 m2 m3 m4 => by
          refine relayM (s := { s with heap := h1 }) ho1 ⟨hex.1, hex.2.1, hex.2.2⟩ rfl hin hsz1 q3.dm (by rw [esz, q4]; rcases two with ⟨e, e2⟩ | ⟨e, e2⟩ <;> omega) nd1 tup1 ld1 (by rw [len1]; exact few) m1 m2 m3 (by rw [len1]; exact m4) ?_
          intro h2 L2 es2 ep2 t2 sb2 R2 pm2
          exact wpAny_pure (hQ true h2 L2 es2 ep2 t2 (sb.trans sb2) R2 (fun z => absurd z hm) fun _ => pm2.trans pm)
        rcases two with ⟨_, e2⟩ | ⟨_, e2⟩
        · exact go 31 (by rw [e2, size_20]) (.inr (.inl rfl)) (by rw [e2, size_20]; decide) (by omega)
        · exact go 127 (by rw [e2, size_76]) (.inr (.inr rfl)) (by rw [e2, size_76]; decide) (by omega)
      · first
          | refine wp_if_neg (by simp [hf]) ?_
          | (refine wpAny_bind ?_; refine wp_if_neg (by simp [hf]) ?_; refine wpAny_pure ?_)
        refine wpAny_pure (hQ true h1 L1 es1 (ep + 1) t1 sb ⟨⟨_, ho1, ⟨hex.1, hex.2.1, hex.2.2⟩, rfl⟩, hin, q3, nd1, tup1, ld1, ?_, by rw [len1]; exact few⟩ (fun z => absurd z hm) fun _ => pm)
        have h := hf
        unfold SetTable.tooFull at h
        rw [decide_eq_true_eq, q9] at h
        rw [len1]
        omega
    rw [List.length_map] at q9
    cases hpl : t0.plain with
    | true =>
      first
        | (refine wpAny_bind ?_; refine wp_if_pos rfl ?_; refine byValM hx fun c => ?_)
        | refine wp_if_pos rfl (wpAny_bind (byValM hx fun c => ?_))
        | (refine wpAny_bind ?_; refine wp_if_pos hpl ?_; refine byValM hx fun c => ?_)
        | refine wp_if_pos hpl (wpAny_bind (byValM hx fun c => ?_))
      cases c with
      | true => exact rest t0 q3 q4 q5 q9
      | false => exact rest { t0 with plain := false } (tabOk_plain q3) q4 q5 q9
    | false =>
      first
        | (refine wpAny_bind ?_; refine wp_if_neg (by simp) ?_; refine wpAny_pure ?_)
        | refine wp_if_neg (by simp) (wpAny_bind (wpAny_pure ?_))
        | (refine wpAny_bind ?_; refine wp_if_neg (by simp [hpl]) ?_; refine wpAny_pure ?_)
        | refine wp_if_neg (by simp [hpl]) (wpAny_bind (wpAny_pure ?_))
      exact rest t0 q3 q4 q5 q9
end
end CA
set_option Elab.async false
set_option linter.all false
set_option maxRecDepth 100000
namespace CA
open PySem PySem.Spec PyProof.Rows L2
/-! ### set(list or tuple) of tuples of ints and texts -/
def kD : Key → PyData
  | .inl i => .int i
  | .inr z => .str z
structure GotM (ks : Ent) (i : Nat) (L : Ent) : Prop where
  sub : ∀ p ∈ L, p ∈ ks.take i
  all : ∀ p ∈ ks.take i, p.2 ∈ L.map (·.2)
  len : L.length ≤ i
theorem GotM.zero (ks : Ent) : GotM ks 0 [] := ⟨fun p h => (by cases h), fun p h => (by simp at h), Nat.le_refl _⟩
theorem take_nextM {α : Type} {l : List α} {i : Nat} {x : α} (h : l[i]? = some x) : l.take (i + 1) = l.take i ++ [x] := by
  rw [List.take_succ, h] <;> rfl
theorem GotM.same {ks L : Ent} {i : Nat} {x : Addr × List Key} (g : GotM ks i L) (h : ks[i]? = some x) (hm : x.2 ∈ L.map (·.2)) : GotM ks (i + 1) L := by
  refine ⟨fun p hp => ?_, fun p hp => ?_, Nat.le_succ_of_le g.len⟩
  · rw [take_nextM h]
    exact List.mem_append_left _ (g.sub p hp)
  · rw [take_nextM h] at hp
    rcases List.mem_append.mp hp with z | z
    · exact g.all p z
    · rw [List.mem_singleton.mp z]; exact hm
theorem GotM.more {ks L L' : Ent} {i : Nat} {x : Addr × List Key} (g : GotM ks i L) (h : ks[i]? = some x) (pm : L'.Perm (x :: L)) : GotM ks (i + 1) L' := by
  refine ⟨fun p hp => ?_, fun p hp => ?_, ?_⟩
  · rw [take_nextM h]
    rcases List.mem_cons.mp (pm.mem_iff.mp hp) with e | z
    · rw [e]; exact List.mem_append_right _ (List.mem_singleton.mpr rfl)
    · exact List.mem_append_left _ (g.sub p z)
  · rw [(pm.map (·.2)).mem_iff, List.map_cons]
    rw [take_nextM h] at hp
    rcases List.mem_append.mp hp with z | z
    · exact List.mem_cons_of_mem _ (g.all p z)
    · rw [List.mem_singleton.mp z]; exact List.mem_cons_self
  · rw [pm.length_eq, List.length_cons]
    exact Nat.succ_le_succ g.len
section
variable {P : Program} {w : World} {A : Around} {E : Value → Shared → Prop} {s : Shared}
theorem SetM.keepM {h h' : Heap} {a : Addr} {L : Ent} {es : Array (Int × Value)} {ep : Nat} {t : SetTable} (R : SetM P w h a L es ep t) (ha : ∀ o, h.get? a = some o → h'.get? a = some o) (ht : ∀ p ∈ L, IsM P w h' p.2 p.1) : SetM P w h' a L es ep t := by
  obtain ⟨o, ho, r⟩ := R.ob
  exact ⟨⟨o, ha o ho, r⟩, R.rows, R.tab, R.nd, ht, R.led, R.room, R.few⟩
theorem setM_fresh {h : Heap} {a : Addr} (ho : h.get? a = some (newSetO w)) : SetM P w h a [] #[] 0 (.fresh 0 0 (!w.params.followText "set-order")) where
  ob := ⟨_, ho, ⟨rfl, rfl, rfl⟩, rfl⟩
  rows := rfl
  tab := ⟨List.Pairwise.nil, rfl, rfl, .inl rfl, fun x hx => (by cases hx), fun i h j hi => (by simp at hi)⟩
  nd := List.nodup_nil
  tup := fun p hp => (by cases hp)
  led := by
    show _ ∨ (!w.params.followText "set-order") = true
    cases w.params.followText "set-order"
    · exact .inr rfl
    · exact .inl rfl
  room := by
    show 0 * 5 < 7 * 3
    decide
  few := by
    show 0 < 64
    decide
theorem call_set_srcM {t : Bool} {l : Addr} {items : Array Value} (ks : Ent) {Q : Value → Shared → Prop} (noH : A.handled = none) (src : SdOb t s.heap l items) (hit : items.toList = ks.map fun p => Value.ref p.1)
    (hk : ∀ p ∈ ks, IsM P w s.heap p.2 p.1) (few : ks.length < 64) (hu : A.units + 64 < cLine)
    (fin : ∀ h' tk L es ep t, SetM P w h' s.heap.objs.size L es ep t → GotM ks ks.length L → (∀ b o, s.heap.get? b = some o → h'.get? b = some o) → Q (.ref s.heap.objs.size) { s with heap := h', toks := tk }) :
    wpAny (model P w) A (call (.type "set") [.ref l]) Q E s := by
  have sz : items.size = ks.length := by
    have q := congrArg List.length hit
    rwa [Array.length_toList, List.length_map] at q
  refine call_set_src (G := fun i h => ∃ L es ep t, SetM P w h s.heap.objs.size L es ep t ∧ GotM ks i L) noH src (fun h k e => ⟨[], #[], 0, _, setM_fresh e, GotM.zero ks⟩)
    (fun i h h' ⟨L, es, ep, t, R, g⟩ k => ⟨L, es, ep, t, R.keepM (fun o e => k _ o (Nat.le_refl _) e) (fun p hp => isM_keep (R.tup p hp) fun o e => k _ o (Nat.le_of_lt ?_) e), g⟩) (fun i v s' hv ⟨L, es, ep, t, R, g⟩ k0 A' E' Q' hA hQ => ?_) fun h' tk ⟨L, es, ep, t, R, g⟩ k => fin h' tk L es ep t R (by rw [← sz]; exact g) k
  · obtain ⟨o2, vs2, n2, ho2, _⟩ := hk p (List.mem_of_mem_take (g.sub p hp))
    exact Heap.lt_size ho2
  · have hi : i < ks.length := by rw [← sz]; exact (Array.getElem?_eq_some_iff.mp hv).1
    have hv2 : (ks.map fun p => Value.ref p.1)[i]? = some v := by rw [← hit, Array.getElem?_toList]; exact hv
    rw [List.getElem?_map, List.getElem?_eq_getElem hi] at hv2
    have ev : v = Value.ref (ks[i]).1 := (Option.some.inj hv2).symm
    subst ev
    have hx : IsM P w s'.heap (ks[i]).2 (ks[i]).1 := isM_keep (hk _ (List.getElem_mem hi)) fun o e => k0 _ o e
    have gi : ks[i]? = some ((ks[i]).1, (ks[i]).2) := List.getElem?_eq_getElem hi
    have hlen := g.len
    have hu2 : A'.units < cLine := by omega
    unfold setAdd
    refine wpAny_holding (wpAny_bind (wpAny_pyHash_tuple hu2 hx ?_))
    refine addM (s := { s' with toks := s'.toks + ((ks[i]).2.length + 1) }) R hx hu2 (by omega) fun b h2 L2 es2 ep2 t2 sb R2 c1 c2 => hQ b h2 _ sb ⟨L2, es2, ep2, t2, R2, ?_⟩
    by_cases hm : (ks[i]).2 ∈ L.map (·.2)
    · rw [c1 hm]
      exact g.same gi hm
    · exact g.more gi (c2 hm)
end
/-- the set at a, without the tuples themselves -/
structure SetM0 (P : Program) (w : World) (h : Heap) (a : Addr) (L : Ent) : Prop where
  ex : ∃ (es : Array (Int × Value)) (ep : Nat) (t : SetTable), (∃ o, h.get? a = some o ∧ o.ExactSet ∧ o.data = .set es ep t) ∧ es.toList = rowM P w L ∧ TabOk t (L.map fun p => hM P w p.2) ∧ (L.map (·.2)).Nodup ∧
    (w.params.followText "set-order" = true ∨ t.led = true) ∧ L.length * 5 < t.mask * 3 ∧ L.length < 64
def SetMO (P : Program) (w : World) (a : Addr) (L : Ent) : HO := .ext fun h => SetM0 P w h a L
theorem SetM.m0 {P : Program} {w : World} {h : Heap} {a : Addr} {L : Ent} {es : Array (Int × Value)} {ep : Nat} {t : SetTable} (R : SetM P w h a L es ep t) : SetM0 P w h a L :=
  ⟨es, ep, t, R.ob, R.rows, R.tab, R.nd, R.led, R.room, R.few⟩
theorem SetM0.full {P : Program} {w : World} {h : Heap} {a : Addr} {L : Ent} (R : SetM0 P w h a L) (ht : ∀ p ∈ L, IsM P w h p.2 p.1) : ∃ es ep t, SetM P w h a L es ep t := by
  obtain ⟨es, ep, t, h1, h2, h3, h4, h6, h7, h8⟩ := R.ex
  exact ⟨es, ep, t, h1, h2, h3, h4, ht, h6, h7, h8⟩
theorem setMO_new {P : Program} {w : World} {H : Hp} {h : Heap} {a : Addr} {L : Ent} (R : SetM0 P w h a L) : ObjOk P w H h a (SetMO P w a L) := by
  have ⟨es, ep, t, ⟨o, ho, r⟩, q⟩ := R.ex
  refine ⟨R, ⟨o, ho⟩, fun h1 h2 p k => ?_⟩
  have ⟨es', ep', t', ⟨o', ho', r'⟩, q'⟩ := SetM0.ex p
  exact ⟨es', ep', t', ⟨o', k o' ho', r'⟩, q'⟩
theorem itemsM_of_vals {P : Program} {w : World} : ∀ {k : List Key} {us : List Value}, Vals (k.map kV) us → ItemsAre (mixKind P w) k us
  | [], _, .nil => .nil
  | .inl n :: k, _, .cons r t => by
    obtain ⟨tk, rfl⟩ := r
    exact .cons (mixKind_int P w n tk) (itemsM_of_vals t)
  | .inr n :: k, _, .cons r t => by
    obtain ⟨tk, rfl⟩ := r
    exact .cons (mixKind_str P w n tk) (itemsM_of_vals t)
theorem refsM_of_vals : ∀ {ks : Ent} {us : List Value}, Vals (ks.map fun p => V.ref p.1) us → us = ks.map fun p => Value.ref p.1
  | [], _, .nil => rfl
  | p :: ks, _, .cons r t => by
    cases r
    rw [refsM_of_vals t] <;> rfl
section
variable {X : Cx}
theorem inv_isM {pins : List (Addr × Obj)} {σ : L2.St} {H : Hp} {s : Shared} {b : Addr} {k : List Key} (I : Inv X pins σ H s) (h : SqT X.K H b (k.map kV)) : IsM X.prog X.w s.heap k b := by
  obtain ⟨its, r, ⟨o, ho, hc, n, hd⟩, _⟩ := I.tuple h
  exact ⟨o, its.toArray, n, ho, hc, hd, by simpa using itemsM_of_vals r⟩
/-- set(xs), xs a list or tuple of tuples of ints and texts -/
def rSetM (K : PySem.W.Frag) (P : Program) (w : World) : List V → Hp → VK → Prop := fun xs H Q => ∃ (t : Bool) (l : Addr) (ks : Ent), xs = [V.ref l] ∧ Sd K t H l (ks.map fun p => V.ref p.1) ∧ (∀ p ∈ ks, SqT K H p.1 (p.2.map kV)) ∧ ks.length < 64 ∧
  ∀ a L, H a = none → (∀ p ∈ L, p ∈ ks) → (∀ p ∈ ks, p.2 ∈ L.map (·.2)) → (L.map (·.2)).Nodup → Q (.ref a) (upd H a (SetMO P w a L))
theorem cr_setM (hc : X.calm = true) (hu : X.A.units + 64 < cLine) : CallR X (.type "set") (rSetM X.K X.prog X.w) := by
  intro pins s σ H xs us Q I r h
  obtain ⟨t, l, ks, rfl, hl, hk, hf, q⟩ := h
  rw [Vals.ref1 r]
  obtain ⟨its, rv, ob, _⟩ := sd_vals I hl
  have hn : H s.heap.objs.size = none := I.hok.fresh (Nat.le_refl _)
  refine call_set_srcM (P := X.prog) (w := X.w) ks (I.ok.hd hc) ob (by simpa using refsM_of_vals rv) (fun p hp => inv_isM I (hk p hp)) hf hu fun h' tk L es ep t R g k => ?_
  refine ⟨.ref s.heap.objs.size, upd H s.heap.objs.size (SetMO X.prog X.w s.heap.objs.size L), I.laid (t' := tk) k (Nat.le_refl _) (setMO_new R.m0), rfl, q _ L hn (fun p hp => ?_) (fun p hp => ?_) R.nd⟩
  · exact List.mem_of_mem_take (g.sub p hp)
  · exact g.all p (by rw [List.take_length]; exact hp)
end
end CA
set_option Elab.async false
set_option linter.all false
set_option maxRecDepth 100000
namespace CA
open PySem PySem.Spec PyProof.Rows L2
open PySem.W (EachIs)
/-! ### sorted of data: a list, a tuple, a set of tuples -/
theorem each_perm {α β : Type} {R : α → β → Prop} {us vs : List α} (p : us.Perm vs) : ∀ {bs : List β}, EachIs R vs bs → ∃ bs' : List β, bs'.Perm bs ∧ EachIs R us bs' := by
  induction p with
  | nil => intro bs h; exact ⟨bs, .refl _, h⟩
  | cons x _ ih =>
    intro bs h
    cases h with
    | cons h1 h2 =>
      obtain ⟨bs', p', e'⟩ := ih h2
      exact ⟨_ :: bs', p'.cons _, .cons h1 e'⟩
  | swap x y l =>
    intro bs h
    cases h with
    | cons h1 h2 =>
      cases h2 with
      | cons h3 h4 => exact ⟨_ :: _ :: _, .swap _ _ _, .cons h3 (.cons h1 h4)⟩
  | trans _ _ ih1 ih2 =>
    intro bs h
    obtain ⟨b1, p1, e1⟩ := ih2 h
    obtain ⟨b2, p2, e2⟩ := ih1 e1
    exact ⟨b2, p2.trans p1, e2⟩
theorem each_and {α β : Type} {R R' : α → β → Prop} : ∀ {as : List α} {bs : List β}, EachIs R as bs → EachIs R' as bs → EachIs (fun a b => R a b ∧ R' a b) as bs
  | _, _, .nil, .nil => .nil
  | _, _, .cons h1 t1, .cons h2 t2 => .cons ⟨h1, h2⟩ (each_and t1 t2)
theorem each_vals {β : Type} {val : β → V} : ∀ {us : List Value} {bs : List β}, Vals (bs.map val) us → EachIs (fun u b => RelV (val b) u) us bs
  | _, [], .nil => .nil
  | _, b :: bs, .cons r t => .cons r (each_vals t)
theorem vals_each {β : Type} {val : β → V} : ∀ {us : List Value} {bs : List β}, EachIs (fun u b => RelV (val b) u) us bs → Vals (bs.map val) us
  | _, _, .nil => .nil
  | _, _, .cons r t => .cons r (vals_each t)
section
variable {P : Program} {w : World} {A : Around} {E : Value → Shared → Prop} {s : Shared}
def ColPost (s : Shared) (vs0 : List Value) (vs : List Value) (s1 : Shared) : Prop := (∀ b o, s.heap.get? b = some o → s1.heap.get? b = some o) ∧ s1.gens = s.gens ∧ s1.os = s.os ∧ vs.Perm vs0
theorem sorted_core {x : Value} {β : Type} {R : Value → β → Prop} {enc : β → PyData} {vs0 : List Value} {bs0 : List β} {Q : Value → Shared → Prop}
    (col : ∀ (E' : Value → Shared → Prop) (Q' : List Value → Shared → Prop), (∀ vs s1, ColPost s vs0 vs s1 → Q' vs s1) → wpAny (model P w) A.in1 (collect x) Q' E' s)
    (e : EachIs R vs0 bs0) (er : EachIs (fun v b => ∃ as, Reads s.heap v (enc b) as) vs0 bs0) (hal : PySem.W.AllAlike (bs0.map enc)) (hk : PySem.W.Sortable (bs0.map enc)) (hL : bs0.length ≤ sizeLine)
    (hu : ∀ b, b ∈ bs0 → A.units + 3 + (enc b).depth < cLine)
    (h : ∀ s' p (out : List Value) (c : Nat) (bs : List β), (∀ b o, s.heap.get? b = some o → s'.heap.get? b = some o) → s'.gens = s.gens → s'.os = s.os → (∃ h1 : Heap, (∀ b o, s.heap.get? b = some o → h1.get? b = some o) ∧ h1.objs.size ≤ p) →
      s'.heap.get? p = some (seqObj "list" out.toArray c) → EachIs R out bs → bs.Perm bs0 → bs.Pairwise (fun a b => PySem.W.dataLe false enc a b = true) → Q (.ref p) s') :
    wpAny (model P w) A (call (.builtin "sorted") [x]) Q E s := by
  refine Calls.call_function_entry kind_sorted plain_sorted entry_sorted (args_sorted1 _) ?_
  unfold Builtin.«sorted»
  refine wpAny_bind (m := checkCount "sorted" 1 1 _) (wpAny_pure ?_)
  refine wpAny_bind (col _ _ fun vs s1 hp => ?_)
  obtain ⟨k1, g1, o1, pm⟩ := hp
  obtain ⟨bs1, pb, e1⟩ := each_perm pm (each_and e er)
  have er1 : EachIs (fun v b => ∃ as, Reads s1.heap v (enc b) as) vs bs1 := e1.mono fun v b ⟨_, as, r⟩ => ⟨as, PyProof.Rows.Reads.keeps (fun _ _ q => k1 _ _ q) r⟩
  have e2 : EachIs R vs bs1 := e1.mono fun v b z => z.1
  have hal1 : PySem.W.AllAlike (bs1.map enc) := fun d hd d' hd' => hal d ((pb.map enc).mem_iff.mp hd) d' ((pb.map enc).mem_iff.mp hd')
  have hk1 : PySem.W.Sortable (bs1.map enc) := hk.imp (fun q d hd => q d ((pb.map enc).mem_iff.mp hd)) (fun q d hd => q d ((pb.map enc).mem_iff.mp hd))
  have hvl : vs.length ≤ sizeLine := by rw [e2.length, pb.length_eq]; exact hL
  refine wpAny_bind (wpAny_newList ?_ hvl)
  have hoL : (s1.heap.push (seqObj "list" vs.toArray 0)).get? s1.heap.objs.size = some (seqObj "list" vs.toArray 0) := Heap.get?_push_size _ rfl
  have keep : ∀ b o, s1.heap.get? b = some o → (PySem.W.sortingHeap (s1.heap.push (seqObj "list" vs.toArray 0)) s1.heap.objs.size vs).get? b = some o := fun b o q => by
    have hlt := Heap.lt_size q
    exact PySem.W.sortingHeap_old (Nat.ne_of_lt hlt) (Heap.get?_push_of_some _ q)
  have er2 : EachIs (fun v b => ∃ as, Reads (PySem.W.sortingHeap (s1.heap.push (seqObj "list" vs.toArray 0)) s1.heap.objs.size vs) v (enc b) as) vs bs1 := er1.mono fun v b ⟨as, r⟩ => ⟨as, PyProof.Rows.Reads.keeps (fun _ _ q => keep _ _ q) r⟩
  have S : PySem.W.SortsAt P w A.in1.in1 { s1 with heap := PySem.W.sortingHeap (s1.heap.push (seqObj "list" vs.toArray 0)) s1.heap.objs.size vs } (PySem.W.dataKind (PySem.W.sortingHeap (s1.heap.push (seqObj "list" vs.toArray 0)) s1.heap.objs.size vs) (bs1.map enc)) vs :=
    PySem.W.SortsAt.data (s := { s1 with heap := PySem.W.sortingHeap (s1.heap.push (seqObj "list" vs.toArray 0)) s1.heap.objs.size vs }) (PySem.W.each_map (R := fun v d => ∃ as, Reads (PySem.W.sortingHeap (s1.heap.push (seqObj "list" vs.toArray 0)) s1.heap.objs.size vs) v d as) enc er2) hal1 hk1
      (PySem.W.bound_map fun b hb => by
        have q := hu b (pb.mem_iff.mp hb)
        show A.units + 2 + (enc b).depth < cLine
        omega)
  refine wpAny_bind (wpAny_holding (wpAny_call_entry PyProof.Rows.slot_list_sort ⟨_, hoL, rfl⟩ entry_list_sort (PySem.W.list_sort_vals (s := { s1 with heap := s1.heap.push (seqObj "list" vs.toArray 0) }) hoL S hvl ⟨.none, rfl, ?_⟩) (args_list_sort _)))
  have eo := PySem.W.sortVals_data false e2 er2 hal1
  generalize PySem.W.sortVals (PySem.W.dataKind (PySem.W.sortingHeap (s1.heap.push (seqObj "list" vs.toArray 0)) s1.heap.objs.size vs) (bs1.map enc)) false vs vs = out at eo ⊢
  obtain ⟨c, hc⟩ := sortedHeap_at (vs := vs) (out := out.toArray) hoL
  refine wpAny_pure ⟨_, rfl, h _ s1.heap.objs.size out c _ (fun b u q => ?_) g1 o1 ⟨_, k1, Nat.le_refl _⟩ hc eo ((List.mergeSort_perm _ _).trans pb) (PySem.W.sort_pairwise (PySem.W.sortLe_total _ _ _) _)⟩
  have q := k1 b u q
  have hlt := Heap.lt_size q
  show (sortedHeap (s1.heap.push (seqObj "list" vs.toArray 0)) s1.heap.objs.size vs out.toArray).get? b = some u
  rw [sortedHeap_old (Nat.ne_of_lt hlt) (by rw [size_push']; exact Nat.lt_succ_of_lt hlt)]
  exact Heap.get?_push_of_some _ q
end
section
variable {X : Cx} {pins : List (Addr × Obj)} {σ : L2.St} {H : Hp} {s : Shared}
/-- what the sort has left, as the hand layer sees it -/
theorem sorted_out {β : Type} {val : β → V} {Q : VK} (I : Inv X pins σ H s) {s' : Shared} {p : Addr} {out : List Value} {c : Nat} {bs : List β} (hL : bs.length ≤ sizeLine) (k : ∀ b o, s.heap.get? b = some o → s'.heap.get? b = some o) (g : s'.gens = s.gens) (o : s'.os = s.os)
    (hp : ∃ h1 : Heap, (∀ b o, s.heap.get? b = some o → h1.get? b = some o) ∧ h1.objs.size ≤ p) (hc : s'.heap.get? p = some (seqObj "list" out.toArray c)) (e : EachIs (fun u b => RelV (val b) u) out bs) (q : H p = none → Q (.ref p) (upd H p (.lst (bs.map val)))) :
    ∃ y H', Inv X pins σ H' s' ∧ RelV y (.ref p) ∧ Q y H' := by
  obtain ⟨h1, k1, hz⟩ := hp
  have hn : H p = none := (I.hok.kept k1).fresh hz
  have hsn : s.heap.get? p = none := by
    cases e0 : s.heap.get? p with
    | none => rfl
    | some u => exact absurd (Nat.lt_of_lt_of_le (Heap.lt_size (k1 p u e0)) hz) (Nat.lt_irrefl _)
  have hlen : (bs.map val).length ≤ sizeLine := by rw [List.length_map]; exact hL
  have J : Inv X pins σ (upd H p (.lst (bs.map val))) { s with heap := s'.heap, gens := s'.gens, drawn := s'.drawn, toks := s'.toks } :=
    I.call (ch := []) (Un.laidN k hsn hn) (I.hok.laidN k hn ⟨hlen, out, c, vals_each e, hc⟩) (by rw [g]; exact I.bare) (fun _ z => nomatch z)
  have e2 : s' = { s with heap := s'.heap, gens := s'.gens, drawn := s'.drawn, toks := s'.toks } := by
    cases s'
    cases s
    cases o
    rfl
  rw [e2]
  exact ⟨.ref p, _, J, rfl, q hn⟩
/-- sorted(xs), xs a list or a tuple of data -/
def rSortedD (K : PySem.W.Frag) : List V → Hp → VK → Prop := fun xs H Q => ∃ (t : Bool) (l : Addr) (β : Type) (bs : List β) (val : β → V) (enc : β → PyData), xs = [V.ref l] ∧ Sd K t H l (bs.map val) ∧ (∀ b ∈ bs, Dp K H (val b) (enc b)) ∧ PySem.W.AllAlike (bs.map enc) ∧ PySem.W.Sortable (bs.map enc) ∧
  (∀ b ∈ bs, (enc b).depth ≤ 8) ∧ ∀ (bs' : List β) (p : Addr), bs'.Perm bs → bs'.Pairwise (fun a b => PySem.W.dataLe false enc a b = true) → H p = none → Q (.ref p) (upd H p (.lst (bs'.map val)))
theorem dp_each (I : Inv X pins σ H s) {β : Type} {val : β → V} {enc : β → PyData} : ∀ {us : List Value} {bs : List β}, EachIs (fun u b => RelV (val b) u) us bs → (∀ b ∈ bs, Dp X.K H (val b) (enc b)) → EachIs (fun v b => ∃ as, Reads s.heap v (enc b) as) us bs
  | _, _, .nil, _ => .nil
  | _, _, .cons r t, h => .cons (Dp.reads I _ _ _ (h _ List.mem_cons_self) r) (dp_each I t fun b hb => h b (List.mem_cons_of_mem _ hb))
theorem cr_sortedD (hu : X.A.units + 16 < cLine) : CallR X (.builtin "sorted") (rSortedD X.K) := by
  intro pins s σ H xs us Q I r h
  obtain ⟨t, l, β, bs, val, enc, rfl, hl, hd, hal, hk, hdep, q⟩ := h
  rw [Vals.ref1 r]
  obtain ⟨its, rv, ob, _⟩ := sd_vals I hl
  have hlen : its.length ≤ sizeLine := by
    rcases hl with ⟨_, hl⟩ | ⟨_, hl⟩
    · obtain ⟨its2, rv2, _, hz⟩ := I.tuple hl
      rw [rv.length.symm.trans rv2.length, ← rv2.length]
      first | exact hz | (rw [rv2.length]; exact hz)
    · obtain ⟨its2, rv2, _, hz⟩ := I.list hl
      rw [rv.length.symm.trans rv2.length, ← rv2.length]
      first | exact hz | (rw [rv2.length]; exact hz)
  have e0 := each_vals rv
  refine sorted_core (R := fun u b => RelV (val b) u) (enc := enc) (vs0 := its) (bs0 := bs) (fun E' Q' hQ => ?_) e0 (dp_each I e0 hd) hal hk (by rw [← e0.length]; exact hlen) (fun b hb => by have := hdep b hb; omega) fun s' p out c bs' k g o hp hc e pm pw => ?_
  · have fin : ∀ h' : Heap, (∀ b o', s.heap.get? b = some o' → h'.get? b = some o') → Q' its.toArray.toList { s with heap := h' } := fun h' k => hQ _ _ ⟨k, rfl, rfl, by simp⟩
    rcases ob with ⟨_, o, ho, hc, n, hd⟩ | ⟨_, ho⟩
    · exact wpAny_collect_seq l (.inr rfl) ho hc hd fin (by simpa using hlen)
    · obtain ⟨n, ho, hc2, n2, hd2⟩ := ho
      exact wpAny_collect_seq l (.inl rfl) ho hc2 hd2 fin (by simpa using hlen)
  · exact sorted_out I (by rw [pm.length_eq, ← e0.length]; exact hlen) k g o hp hc e fun hn => q bs' p pm pw hn
/-- sorted(s), s a set of tuples of ints and texts -/
def encM (p : Addr × List Key) : PyData := .tuple (p.2.map kD)
def rSortedM (K : PySem.W.Frag) (P : Program) (w : World) : List V → Hp → VK → Prop := fun xs H Q => ∃ (a : Addr) (L : Ent), xs = [V.ref a] ∧ H a = some (SetMO P w a L) ∧ (∀ p ∈ L, SqT K H p.1 (p.2.map kV)) ∧ PySem.W.AllAlike (L.map encM) ∧ (∀ p ∈ L, p.2 ≠ []) ∧
  ∀ (L' : Ent) (p : Addr), L'.Perm L → L'.Pairwise (fun a b => PySem.W.dataLe false encM a b = true) → H p = none → Q (.ref p) (upd H p (.lst (L'.map fun q => V.ref q.1)))
theorem dpAll_keys {K : PySem.W.Frag} {H : Hp} : ∀ k : List Key, DpAll K H (k.map kV) (k.map kD)
  | [] => .nil
  | .inl i :: k => .cons (.int i) (dpAll_keys k)
  | .inr z :: k => .cons (.str z) (dpAll_keys k)
theorem depth_keys : ∀ k : List Key, PyData.depthAll (k.map kD) = 0
  | [] => by simp [PyData.depthAll]
  | .inl i :: k => by
    show PyData.depthAll (.int i :: k.map kD) = 0
    rw [PyData.depthAll, depth_keys k]
    simp [PyData.depth]
  | .inr z :: k => by
    show PyData.depthAll (.str z :: k.map kD) = 0
    rw [PyData.depthAll, depth_keys k]
    simp [PyData.depth]
theorem cr_sortedM (hc : X.calm = true) (hu : X.A.units + 16 < cLine) : CallR X (.builtin "sorted") (rSortedM X.K X.prog X.w) := by
  intro pins s σ H xs us Q I r h
  obtain ⟨a, L, rfl, ha, hk, hal, hne, q⟩ := h
  rw [Vals.ref1 r]
  have R0 : SetM0 X.prog X.w s.heap a L := (I.hok a _ ha).1
  obtain ⟨es, ep, t, R⟩ := R0.full fun p hp => inv_isM I (hk p hp)
  have few := R.few
  have vr : ∀ L : Ent, Vals (L.map fun p => V.ref p.1) (L.map fun p => Value.ref p.1) := fun L => by
    induction L with
    | nil => exact .nil
    | cons p L ih => exact .cons rfl ih
  have e0 := each_vals (val := fun q : Addr × List Key => V.ref q.1) (vr L)
  have hd : ∀ p ∈ L, Dp X.K H (V.ref p.1) (encM p) := fun p hp => .tup (hk p hp) (dpAll_keys p.2)
  have hes : es.toList.map (·.2) = L.map fun q => Value.ref q.1 := by
    rw [R.rows]
    unfold rowM
    rw [List.map_map] <;> rfl
  have hLs : L.length ≤ sizeLine := by rw [sizeLine_eq]; omega
  refine sorted_core (R := fun u b => RelV (V.ref b.1) u) (enc := encM) (vs0 := L.map fun q => Value.ref q.1) (bs0 := L) (fun E' Q' hQ => ?_) e0 (dp_each I e0 hd) hal ?_ hLs (fun b hb => ?_) fun s' p out c bs' k g o hp hc e pm pw => ?_
  · obtain ⟨o, ho, hex, hdt⟩ := R.ob
    refine collect_set (I.ok.hd hc) ⟨o, ho, hex.1, hdt⟩ R.fits (by rw [rowM_len R.rows]; unfold scanBound; omega) R.tab.ris R.led fun s1 vs k1 hz g1 o1 pm => hQ vs s1 ⟨k1, g1, o1, by rw [← hes]; exact pm⟩
  · refine .inl fun d hd => ?_
    obtain ⟨p, hp, rfl⟩ := List.mem_map.mp hd
    cases hx : p.2 with
    | nil => exact absurd hx (hne p hp)
    | cons x r => exact ⟨kD x, r.map kD, by unfold encM; rw [hx] <;> rfl⟩
  · have : (encM b).depth = 1 := by
      unfold encM
      rw [PyData.depth, depth_keys]
    omega
  · exact sorted_out I (val := fun q : Addr × List Key => V.ref q.1) (by rw [pm.length_eq]; exact hLs) k g o hp hc e fun hn => q bs' p pm pw hn
end
end CA
set_option Elab.async false
set_option linter.all false
set_option maxRecDepth 100000
set_option maxHeartbeats 1000000
namespace CA
open PySem PySem.Spec PyProof.Rows L2 GenW
/-! ### for in a generator's body -/
def tGFor (wi : TI) (g : TG) (tb : TGn) : TGn := fun D ys σ H => wi σ H fun J H1 => ∃ W : Nat → Nat → List V → L2.St → Hp → Prop, (∃ m, W 0 m ys σ H1) ∧ ∀ i m ys σ H, W i m ys σ H →
  (J.stop i H ∧ D.nx ys σ H) ∨ (J.go i H ∧ ∃ N : List V → L2.St → Hp → Prop, (∀ ys' σ' H', N ys' σ' H' → ∃ m', m' < m ∧ W (i + 1) m' ys' σ' H') ∧ ∀ x H', J.yld i H x H' → g x σ H' fun σ2 H2 => tb { D with nx := N, ct := N, bk := D.nx } ys σ2 H2)
section
variable {X : Cx}
theorem gs_for {tg iter : Expr} {body : List Stmt} {wi : TI} {g : TG} {tb : TGn} {pos : Pos} (hp : PassesOwn (model X.prog X.w) X.A X.env X.xe) (hc : X.calm = true) (hi : PI X tg iter wi) (hg : PG X tg g) (hb : GSs X body tb)
    (hs : ∀ x, foldedSetIterable iter X.env x = pure x := by intro _; rfl) : GS X (.For tg iter body [] pos) (tGFor wi g tb) := by
  refine ⟨fun A S ip R n ys s₀ c fs K J gd lv s σ H D gc hn k hI ht => ?_⟩
  obtain ⟨acc, cc, r, I⟩ := hI
  rw [exec_For]
  refine seg_bind_wrap (wpAny_standAt ?_)
  refine seg_bind_wrap ?_
  rw [gc.over]
  refine wpAny_mono (hi.run _ s σ H _ I ht) (fun v s1 h1 => ?_) fun x s' hx => k.exc n s₀ x s' hx
  refine seg_bind_wrap (wpAny_of_eq (hs v) ?_)
  refine seg_bind_wrap (wpAny_standAt ?_)
  refine seg_bind_wrap (wpAny_holding ?_)
  rw [gc.over]
  refine wpAny_mono h1 (fun itv s2 h2 => ?_) fun x s' hx => k.exc n s₀ x s' hx
  obtain ⟨it, fp, tn, J2, H2, e, I2, T, st2, f2, W, ⟨m0, w0⟩, turn⟩ := h2
  subst e
  have fpS : ∀ b ∈ fp, b ≠ S := fun b hb e => by
    obtain ⟨_, _, _, _, _, q⟩ := f2 b hb
    exact q (S, lstObj acc cc) (List.mem_append_right _ List.mem_cons_self) e.symm
  have stat : ∀ {H' : Hp} {acc' : Array Value} {c' : Nat}, (∀ b ∈ fp, H' b = none) → ∀ b ∈ fp, FpOk X ((S, lstObj acc' c') :: ip) H' b := fun hn b hb => by
    obtain ⟨_, q1, q2, q3, q4, q5⟩ := f2 b hb
    refine ⟨hn b hb, q1, q2, q3, q4, fun p hp => ?_⟩
    rcases List.mem_append.mp hp with hp | hp
    · exact q5 p (List.mem_append_left _ hp)
    · rcases List.mem_cons.mp hp with e | hp
      · rw [e]; exact (fpS b hb).symm
      · exact q5 p (List.mem_append_right _ (List.mem_cons_of_mem _ hp))
  refine seg_call fun p => ?_
  have gl := fun (kk : Result → Sem PySem.Fin) => gc_loop (k := kk) (c' := .forLoop tg (.ref it) body [] X.env) (l := lv []) (kp := []) (p := p) gc rfl rfl
  have loop : ∀ (m i n : Nat) (ys : List V) (s₀ s : Shared) (σ : L2.St) (H : Hp), n + ys.length = sizeLine → W i m ys σ H → GI X S ip ys σ H s → tn i s.heap → (∀ b ∈ fp, H b = none) →
      Seg (model X.prog X.w) A R (GY X S) n s₀ (.forLoop tg (.ref it) body [] X.env) ((model X.prog X.w).den (.forLoop tg (.ref it) body [] X.env))
        (.ret (fun r => ((match r with | .ok f => (.pure f : Sem Flow) | .error e => .raise e).onRaise (cameBack X.env)).wrap K J gd lv) none (gd false) (lv []) c p [] :: fs) s := by
    intro m
    induction m using Nat.strongRecOn with
    | ind m ih =>
      intro i n ys s₀ s σ H hn w hI st fr
      have ee : ∀ (n : Nat) (s₀ : Shared) (x : Value) (s' : Shared), X.xe x s' → Seg (model X.prog X.w) A R (GY X S) n s₀ (.forLoop tg (.ref it) body [] X.env)
          ((do noteFrame x X.env; theTreesLotGoes x : Sem Unit).bind (fun _ => .raise x))
          (.ret (fun r => ((match r with | .ok f => (.pure f : Sem Flow) | .error e => .raise e).onRaise (cameBack X.env)).wrap K J gd lv) none (gd false) (lv []) c p [] :: fs) s' := fun n s₀ x s' hx => by
        rw [Sem.bind_eq_wrap]
        refine seg_wrap ?_
        rw [(gl _).over]
        refine wpAny_bind (wpAny_mono (hp x s' hx) (fun _ s'' hcb => wpAny_theTreesLotGoes ?_) fun y s'' hcb => ?_)
        · exact seg_leaf (.error x) (seg_cameBack gc k hcb)
        · exact seg_leaf (.error y) (seg_cameBack gc k hcb)
      show Seg _ A R _ n s₀ _ ((forTurn tg (.ref it) body [] X.env).onRaise (fun x => do noteFrame x X.env; theTreesLotGoes x)) _ s
      unfold forTurn
      rw [Sem.onRaise_eq_wrap]
      refine seg_bind_wrap (wpAny_standAt ?_)
      refine seg_bind_wrap ?_
      rw [(gl _).over]
      obtain ⟨acc, cc, r, I⟩ := hI
      rcases turn i m ys σ H w with ⟨stop, qn⟩ | ⟨go, N, hN, step⟩
      · refine wpAny_onRaise (wpAny_mono (T.done X rfl rfl rfl hc i _ s σ H X.xe I (stat fr) st stop) (fun rr s4 ⟨hr, I4⟩ => ?_) fun x s' hx => wpAny_standAt (ee n s₀ x s' hx))
        subst hr
        refine seg_again rfl ?_
        exact seg_leaf (.ok .next) (k.ok n ys s₀ s4 .next hn ⟨σ, H, ⟨acc, cc, r, I4⟩, qn⟩)
      · refine wpAny_onRaise (wpAny_mono (T.item X rfl rfl rfl hc i _ s σ H X.xe I (stat fr) st go) (fun rr s4 ⟨u, hr, h4⟩ => ?_) fun x s' hx => wpAny_standAt (ee n s₀ x s' hx))
        subst hr
        refine seg_bind_wrap ?_
        rw [(gl _).over]
        refine wpAny_mono h4 (fun _ s5 ⟨x, H5, I5, r5, y5, st5, fr5⟩ => ?_) fun x s' hx => ee n s₀ x s' hx
        have I5' : Inv X ((S, lstObj acc cc) :: (ip ++ pinsAt fp s5.heap)) σ H5 s5 := I5.pinned (stat fr5) (T.obj _ _ st5)
        refine seg_bind_wrap ?_
        rw [(gl _).over]
        refine wpAny_mono (hg.run _ s5 σ H5 x u _ I5' r5 (step x H5 y5)) (fun _ s6 ⟨σ6, H6, I6, q6⟩ => ?_) fun x s' hx => ee n s₀ x s' hx
        have gi : ∀ kk : Result → Sem PySem.Fin, GC X S (ip ++ pinsAt fp s5.heap) A (.forLoop tg (.ref it) body [] X.env) (.ret kk none (gd false) (lv []) c p [] :: fs) id := fun kk =>
          ⟨(gl kk).pn, fun q hq => (List.mem_append.mp hq).elim (gc.ip q) fun z => fpS q.1 (of_pinsAt z).1, (gl kk).apart, (gl kk).over, (gl kk).split, (gl kk).guard, rfl⟩
        rw [Sem.bind_eq_wrap', Sem.wrap_wrap]
        have again : ∀ {n' : Nat} {s₀' : Shared} {ys' : List V} {σ7 : L2.St} {H7 : Hp} {s7 : Shared}, n' + ys'.length = sizeLine → GI X S (ip ++ pinsAt fp s5.heap) ys' σ7 H7 s7 → N ys' σ7 H7 →
            Seg (model X.prog X.w) A R (GY X S) n' s₀' (.forLoop tg (.ref it) body [] X.env) (.pure (.again (.forLoop tg (.ref it) body [] X.env)))
              (.ret (fun r => ((match r with | .ok f => (.pure f : Sem Flow) | .error e => .raise e).onRaise (cameBack X.env)).wrap K J gd lv) none (gd false) (lv []) c p [] :: fs) s7 := fun {n' s₀' ys' σ7 H7 s7} hn' hI7 n7 => by
          obtain ⟨m', hm, w7⟩ := hN ys' σ7 H7 n7
          obtain ⟨acc7, c7, r7, I7⟩ := hI7
          have pin7 : ∀ b ∈ fp, ∀ o, s5.heap.get? b = some o → s7.heap.get? b = some o ∧ H7 b = none := fun b hb o e => by
            have q := I7.pin (b, o) (List.mem_append_right _ (List.mem_cons_of_mem _ (List.mem_append_right _ (mem_pinsAt hb e))))
            exact ⟨q.1, q.2.1⟩
          refine seg_again rfl (ih m' hm (i + 1) n' ys' s₀' s7 σ7 H7 hn' w7 ⟨acc7, c7, r7, Inv.unpinned (pins := (S, lstObj acc7 c7) :: ip) (pl := pinsAt fp s5.heap) I7⟩ (T.keep _ _ _ st5 fun b hb o e => (pin7 b hb o e).1) fun b hb => ?_)
          obtain ⟨o, e, d⟩ := T.obj _ _ st5 b hb
          exact (pin7 b hb o e).2
        have less : ∀ {ys' : List V} {σ7 : L2.St} {H7 : Hp} {s7 : Shared}, GI X S (ip ++ pinsAt fp s5.heap) ys' σ7 H7 s7 → GI X S ip ys' σ7 H7 s7 := fun ⟨acc7, c7, r7, I7⟩ => ⟨acc7, c7, r7, Inv.unpinned (pins := (S, lstObj acc7 c7) :: ip) (pl := pinsAt fp s5.heap) I7⟩
        refine hb.run A S (ip ++ pinsAt fp s5.heap) R n ys s₀ _ _ _ _ id id s6 σ6 H6 { D with nx := N, ct := N, bk := D.nx } (gi _) hn ⟨fun n' ys' s₀' s7 f hn' hs => ?_, fun n' s₀' x s7 hx => ee n' s₀' x s7 hx⟩ ⟨acc, cc, r, I6⟩ q6
        cases f with
        | next => obtain ⟨σ7, H7, I7, n7⟩ := hs; exact again hn' I7 n7
        | cont => obtain ⟨σ7, H7, I7, n7⟩ := hs; exact again hn' I7 n7
        | brk => obtain ⟨σ7, H7, I7, n7⟩ := hs; exact seg_leaf (.ok .next) (k.ok n' ys' s₀' s7 .next hn' ⟨σ7, H7, less I7, n7⟩)
        | ret v => obtain ⟨x7, σ7, H7, I7, r7, n7⟩ := hs; exact seg_leaf (.ok (.ret v)) (k.ok n' ys' s₀' s7 (.ret v) hn' ⟨x7, σ7, H7, less I7, r7, n7⟩)
  exact loop m0 0 n ys s₀ s2 σ H2 hn w0 ⟨acc, cc, r, I2⟩ st2 fun b hb => (f2 b hb).1
end
end CA
set_option Elab.async false
set_option linter.all false
set_option maxRecDepth 100000
namespace CA
open PySem PySem.Spec PyProof.Rows L2
/-! ### the text by places -/
def top (i : Nat) : Stmt := PySem.Challenge.pw_countalike_k45_whole_alike_questions_cou.main.body.getD i (.Pass ⟨0, 0, 0, 0⟩)
abbrev s_is_integer : Stmt := top 17
abbrev s_is_between : Stmt := top 18
abbrev s_is_kind : Stmt := top 19
abbrev s_is_key : Stmt := top 20
abbrev s_is_row : Stmt := top 21
abbrev s_are_rows : Stmt := top 22
abbrev s_word_number : Stmt := top 23
abbrev s_row_of_line : Stmt := top 24
abbrev s_need_table : Stmt := top 31
abbrev s_is_atom : Stmt := top 35
abbrev s_are_atoms : Stmt := top 36
abbrev s_atom_of_word : Stmt := top 37
abbrev s_variables_of : Stmt := top 38
abbrev s_extended : Stmt := top 39
abbrev s_raw_ways : Stmt := top 40
abbrev s_raw_count : Stmt := top 41
abbrev s_need_question : Stmt := top 44
abbrev s_orders : Stmt := top 46
abbrev s_sending : Stmt := top 47
abbrev s_raw_coverings : Stmt := top 48
abbrev s_is_listed : Stmt := top 49
abbrev s_same : Stmt := top 50
abbrev s_raw_renamings : Stmt := top 55
abbrev s_numbers : Stmt := top 57
abbrev s_telling : Stmt := top 58
abbrev s_alike : Stmt := top 59
abbrev s_shows_alike : Stmt := top 60
abbrev s__law_cell_at : Stmt := top 62
abbrev s__law_pen : Stmt := top 63
abbrev s__law_draw : Stmt := top 64
abbrev s__law_mixed : Stmt := top 65
abbrev s__law_drawn : Stmt := top 66
abbrev s__law_names : Stmt := top 67
abbrev s__law_renamed : Stmt := top 68
abbrev s__law_near : Stmt := top 69
abbrev s__law_text : Stmt := top 70
abbrev s__law_table : Stmt := top 71
abbrev s__law_alike_right : Stmt := top 72
abbrev s__law_apart_right : Stmt := top 73
abbrev s__law_right : Stmt := top 74
abbrev s_renamings : Stmt := top 56
abbrev s_law : Stmt := top 75
abbrev s_Table_init : Stmt := inClass (top 30) 0
abbrev s_Table_read : Stmt := inClass (top 30) 1
abbrev s_Table_text : Stmt := inClass (top 30) 2
abbrev s_Table_rows : Stmt := inClass (top 30) 3
abbrev s_Question_init : Stmt := inClass (top 43) 0
abbrev s_Question_read : Stmt := inClass (top 43) 1
abbrev s_Question_atoms : Stmt := inClass (top 43) 3
abbrev s_Question_variables : Stmt := inClass (top 43) 4
abbrev s_Question_call : Stmt := inClass (top 43) 7
/-! ### the facts of the top -/
abbrev ad (K : PySem.W.Frag) (x : Str) : Addr := He.ga K x
abbrev me (K : PySem.W.Frag) (C m : Str) : Addr := He.ma K (He.ga K C) m
abbrev wr (K : PySem.W.Frag) (C : Str) (T : String) (m : Str) : Addr := He5.wf K (He.ga K C) T m
def DefIs (K : PySem.W.Frag) (mg : Str → Option Value) (x : Str) (st : Stmt) : Prop := (∃ fd, Fun K x x st (ad K x) fd) ∧ mg x = some (.ref (ad K x))
def MetIs (K : PySem.W.Frag) (C m qual : Str) (st : Stmt) (f : Addr) : Prop := ∃ fd, FunD K m qual (defArgs st) (defBody st) (defScope st) [] [] f fd
structure Txt (K : PySem.W.Frag) (mg : Str → Option Value) : Prop where
  f_isinstance : mg "isinstance" = none
  f_int : mg "int" = none
  f_bool : mg "bool" = none
  f_str : mg "str" = none
  f_len : mg "len" = none
  f_tuple : mg "tuple" = none
  f_all : mg "all" = none
  f_sorted : mg "sorted" = none
  f_set : mg "set" = none
  f_dict : mg "dict" = none
  f_sum : mg "sum" = none
  f_range : mg "range" = none
  f_zip : mg "zip" = none
  f_list : mg "list" = none
  f_max : mg "max" = none
  f_min : mg "min" = none
  n_MOST_VALUE : ∃ t, mg "MOST_VALUE" = some (.int 99 t)
  n_MOST_OFTEN : ∃ t, mg "MOST_OFTEN" = some (.int 10000 t)
  n_MOST_ROWS : ∃ t, mg "MOST_ROWS" = some (.int 12 t)
  n_MOST_ATOMS : ∃ t, mg "MOST_ATOMS" = some (.int 4 t)
  n_MOST_VARIABLE : ∃ t, mg "MOST_VARIABLE" = some (.int 9 t)
  n_MOST_TOLD : ∃ t, mg "MOST_TOLD" = some (.int 4 t)
  n_DIGITS : ∃ t, mg "DIGITS" = some (.str "0123456789" t)
  n_ALIKE : ∃ t, mg "ALIKE" = some (.str "alike" t)
  n_APART : ∃ t, mg "APART" = some (.str "apart" t)
  n_KINDS : mg "KINDS" = some (.ref (ad K "KINDS"))
  k_KINDS : ∀ H, SqT K H (ad K "KINDS") [.str "A", .str "B", .str "C"]
  d_is_integer : DefIs K mg "is_integer" s_is_integer
  d_is_between : DefIs K mg "is_between" s_is_between
  d_is_kind : DefIs K mg "is_kind" s_is_kind
  d_is_key : DefIs K mg "is_key" s_is_key
  d_is_row : DefIs K mg "is_row" s_is_row
  d_are_rows : DefIs K mg "are_rows" s_are_rows
  d_word_number : DefIs K mg "word_number" s_word_number
  d_row_of_line : DefIs K mg "row_of_line" s_row_of_line
  d_need_table : DefIs K mg "need_table" s_need_table
  d_is_atom : DefIs K mg "is_atom" s_is_atom
  d_are_atoms : DefIs K mg "are_atoms" s_are_atoms
  d_atom_of_word : DefIs K mg "atom_of_word" s_atom_of_word
  d_variables_of : DefIs K mg "variables_of" s_variables_of
  d_extended : DefIs K mg "extended" s_extended
  d_raw_ways : DefIs K mg "raw_ways" s_raw_ways
  d_raw_count : DefIs K mg "raw_count" s_raw_count
  d_need_question : DefIs K mg "need_question" s_need_question
  d_orders : DefIs K mg "orders" s_orders
  d_sending : DefIs K mg "sending" s_sending
  d_raw_coverings : DefIs K mg "raw_coverings" s_raw_coverings
  d_is_listed : DefIs K mg "is_listed" s_is_listed
  d_same : DefIs K mg "same" s_same
  d_raw_renamings : DefIs K mg "raw_renamings" s_raw_renamings
  d_numbers : DefIs K mg "numbers" s_numbers
  d_telling : DefIs K mg "telling" s_telling
  d_alike : DefIs K mg "alike" s_alike
  d_shows_alike : DefIs K mg "shows_alike" s_shows_alike
  d__law_cell_at : DefIs K mg "_law_cell_at" s__law_cell_at
  d__law_pen : DefIs K mg "_law_pen" s__law_pen
  d__law_draw : DefIs K mg "_law_draw" s__law_draw
  d__law_mixed : DefIs K mg "_law_mixed" s__law_mixed
  d__law_drawn : DefIs K mg "_law_drawn" s__law_drawn
  d__law_names : DefIs K mg "_law_names" s__law_names
  d__law_renamed : DefIs K mg "_law_renamed" s__law_renamed
  d__law_near : DefIs K mg "_law_near" s__law_near
  d__law_text : DefIs K mg "_law_text" s__law_text
  d__law_table : DefIs K mg "_law_table" s__law_table
  d__law_alike_right : DefIs K mg "_law_alike_right" s__law_alike_right
  d__law_apart_right : DefIs K mg "_law_apart_right" s__law_apart_right
  d__law_right : DefIs K mg "_law_right" s__law_right
  d_renamings : DefIs K mg "renamings" s_renamings
  d_law : DefIs K mg "law" s_law
  g_Table : mg "Table" = some (.ref (ad K "Table"))
  mk_Table : Mk K (ad K "Table") (me K "Table" "__init__")
  ic_Table : C8.InsC K (ad K "Table")
  no_Table : NoAttr K (ad K "Table") "kept"
  i_Table : MetIs K "Table" "__init__" "Table.__init__" s_Table_init (me K "Table" "__init__")
  r_Table : MetIs K "Table" "read" "Table.read" s_Table_read (wr K "Table" "classmethod" "read")
  rr_Table : ClX.CRead K (ad K "Table") (.type "type")
  rm_Table : ClX.CMet K (ad K "Table") (.type "type") "read" (me K "Table" "read") (wr K "Table" "classmethod" "read")
  g_Question : mg "Question" = some (.ref (ad K "Question"))
  mk_Question : Mk K (ad K "Question") (me K "Question" "__init__")
  ic_Question : C8.InsC K (ad K "Question")
  no_Question : NoAttr K (ad K "Question") "kept"
  i_Question : MetIs K "Question" "__init__" "Question.__init__" s_Question_init (me K "Question" "__init__")
  r_Question : MetIs K "Question" "read" "Question.read" s_Question_read (wr K "Question" "classmethod" "read")
  rr_Question : ClX.CRead K (ad K "Question") (.type "type")
  rm_Question : ClX.CMet K (ad K "Question") (.type "type") "read" (me K "Question" "read") (wr K "Question" "classmethod" "read")
  p_Table_rows : PropOf K (ad K "Table") "rows" (me K "Table" "rows") (wr K "Table" "property" "rows")
  q_Table_rows : MetIs K "Table" "rows" "Table.rows" s_Table_rows (wr K "Table" "property" "rows")
  p_Question_atoms : PropOf K (ad K "Question") "atoms" (me K "Question" "atoms") (wr K "Question" "property" "atoms")
  q_Question_atoms : MetIs K "Question" "atoms" "Question.atoms" s_Question_atoms (wr K "Question" "property" "atoms")
  p_Question_variables : PropOf K (ad K "Question") "variables" (me K "Question" "variables") (wr K "Question" "property" "variables")
  q_Question_variables : MetIs K "Question" "variables" "Question.variables" s_Question_variables (wr K "Question" "property" "variables")
  m_text : Meth K (ad K "Table") "text" (me K "Table" "text")
  i_text : MetIs K "Table" "text" "Table.text" s_Table_text (me K "Table" "text")
  c_call : StX.CallO K (ad K "Question") (me K "Question" "__call__")
  i_call : MetIs K "Question" "__call__" "Question.__call__" s_Question_call (me K "Question" "__call__")
/-! ### a def that keeps its promise, by its name -/
structure Ok (P : Program) (w : World) (K : PySem.W.Frag) (mg : Str → Option Value) (base : Heap) (k : Nat) (x : Str) (ps : List Str) (sp : Sp) : Prop where
  ex : ∃ fd, FnOk P w K mg base CX0 k (ad K x) fd ps sp ∧ Binds K fd ps []
  kp : PySem.W.keepIn K (.ref (ad K x)) = true
  gl : mg x = some (.ref (ad K x))
section
variable {P : Program} {w : World} {K : PySem.W.Frag} {mg : Str → Option Value} {base : Heap}
theorem mkOk {x : Str} {st : Stmt} {N ps : List Str} {k : Nat} {sp : Sp} (D : DefIs K mg x st) (S : FnScope N ps (defScope st))
    (hb : ∀ (kV doc pm : Value) (an : Option Addr) (cdv ct : Value) (us : List Value), us.length = ps.length → bindArgs (PySem.W.fnOf x x (defArgs st) (defBody st) (defScope st) .none kV doc pm an cdv ct) ⟨us, []⟩ = pure (ps.zip us))
    (len : ∀ vs H Q E, sp vs H Q E → vs.length = ps.length)
    (hbody : ∀ (cdv : Value) (A : Around) (outer : List Env) (s : Shared) (H : Hp) (vs : List V) (Q : VK) (E : XK), Room k (A.deeper (envOfC x (defScope st) s.heap.objs.size (ad K x) cdv)) → sp vs H Q E →
      ∃ t, PSs (cxOf CX0 P w K mg base N x (defScope st) (ad K x) cdv A outer s H E).nox (defBody st) t ∧ t { nx := fun _ H' => Q .non H', rt := Q } (start N vs) H) :
    Ok P w K mg base (k + 1) x ps sp := by
  obtain ⟨⟨fd, F⟩, g⟩ := D
  exact ⟨⟨fd, F.ok S len hbody, F.binds hb⟩, F.kp, g⟩
end
section
variable {X : Cx} {k : Nat} {x : Str} {ps : List Str} {sp : Sp} {e : Expr} {es : List Expr} {t : TA} {p pos : Pos}
theorem pcl (O : Ok X.prog X.w X.K X.mg X.base k x ps sp) (hr : Room k X.A) (ha : PA X (e :: es) t) (hg : Gl X x := by rfl) (hdb : (x == ("__debug__" : Str)) = false := by decide) (he : starEach (e :: es) X.env = (false, eval e X.env) :: starEach es X.env := by rfl)
    (hpl : (backTo pos (starEach es X.env)).any (·.1) = false := by rfl) : PE X (.Call (.Name x p) (e :: es) [] pos) (tCall sp [] E0 t) := by
  obtain ⟨fd, F, b⟩ := O.ex
  exact pe_call F hr hg O.gl O.kp b .nil pass0 ha hdb he hpl
theorem pi_or {tg it : Expr} {w1 w2 : TI} (h1 : PI X tg it w1) (h2 : PI X tg it w2) : PI X tg it (fun σ H R => w1 σ H R ∨ w2 σ H R) :=
  ⟨fun pins s σ H R I h => h.elim (h1.run pins s σ H R I) (h2.run pins s σ H R I)⟩
end
/-! ### things that are laid -/
def sqO (t : Bool) (xs : List V) : HO := if t = true then .tup xs else .lst xs
theorem sd_of {K : PySem.W.Frag} {t : Bool} {H : Hp} {a : Addr} {xs : List V} (h : H a = some (sqO t xs)) : Sd K t H a xs := by
  cases t with
  | true => exact .inl ⟨rfl, SqT.of h⟩
  | false => exact .inr ⟨rfl, SqL.of h⟩
theorem same_upd {H : Hp} {a : Addr} {o : HO} (h : H a = none) : Same H (upd H a o) := fun b u e => by
  rw [upd_ne (ne_of_none e h)]; exact e
/-- walked: a list or a tuple -/
def ItS (K : PySem.W.Frag) (t : Bool) (a : Addr) : It := if t = true then Itt K a else Itl K a
def iSd (K : PySem.W.Frag) (te : TE) : TI := fun σ H R => te σ H fun x H1 => ∃ (t : Bool) (a : Addr), x = .ref a ∧ (∃ xs, Sd K t H1 a xs) ∧ R (ItS K t a) H1
theorem tsd_walk {K : PySem.W.Frag} {t : Bool} {a : Addr} {xs : List V} : Walk (ItS K t a) xs.length (fun H => Sd K t H a xs) (YAt xs) := by
  cases t with
  | true => exact walk_tup.mono (fun H h => h.elim (fun q => q.2) fun q => by cases q.1) fun i H x H' _ _ y => y
  | false => exact walk_list.mono (fun H h => h.elim (fun q => by cases q.1) fun q => q.2) fun i H x H' _ _ y => y
section
variable {X : Cx}
theorem pie_new {tg : Expr} {pins : List (Addr × Obj)} {σ : L2.St} {H1 : Hp} {s1 : Shared} {R : It → Hp → Prop} {J : It} {o : Obj} {tn : Nat → Heap → Prop} (I1 : Inv X pins σ H1 s1)
    (T : Turn X.prog X.w X.K tg J [s1.heap.objs.size] s1.heap.objs.size tn) (h0 : tn 0 (s1.heap.push o)) (q : R J H1) : PIE X pins σ tg R (.ref s1.heap.objs.size) { s1 with heap := s1.heap.push o } := by
  have J1 : Inv X pins σ H1 { s1 with heap := s1.heap.push o, toks := s1.toks } := I1.kept fun b u e => Heap.get?_push_of_some _ e
  refine ⟨_, _, tn, J, H1, rfl, J1, T, h0, ?_, q⟩
  intro b hb
  rw [List.mem_singleton] at hb
  subst hb
  have fr : H1 s1.heap.objs.size = none := I1.hok.fresh (Nat.le_refl _)
  exact I1.fpOk (Nat.le_refl _) fr
theorem pi_sd {tg l : Expr} {tl : TE} (hl : PE X l tl) : PI X tg l (iSd X.K tl) := by
  constructor
  intro pins s σ H R I h
  refine thn (hl.run pins s σ H _ I h) ?_
  rintro v s1 ⟨x, H1, I1, r1, t, a, rfl, ⟨xs, hq⟩, q⟩
  cases r1
  cases t with
  | true =>
    have hq2 : SqT X.K H1 a xs := hq.elim (fun z => z.2) fun z => by cases z.1
    obtain ⟨its, rv, p, _⟩ := I1.tuple hq2
    have p2 : s1.heap.IsTuple a its.toArray := p
    exact wpAny_pyIter_tuple p2 (pie_new I1 (turn_tuple a _) ⟨_, Heap.get?_push_size _ rfl, rfl, rfl⟩ q)
  | false =>
    have hq2 : SqL X.K H1 a xs := hq.elim (fun z => by cases z.1) fun z => z.2
    obtain ⟨its, rv, p, _⟩ := I1.list hq2
    exact wpAny_pyIter_list p.isList (pie_new I1 (turn_list a _) ⟨_, Heap.get?_push_size _ rfl, rfl, rfl⟩ q)
theorem te_weak {e : Expr} {t1 t2 : TE} (h : PE X e t1) (w : ∀ σ H Q, t2 σ H Q → t1 σ H Q) : PE X e t2 := ⟨fun pins s σ H Q I q => h.run pins s σ H Q I (w σ H Q q)⟩
end
theorem inj_len {α : Type} {a b : List α} (h : a = b) : a.length = b.length := by rw [h]
end CA
set_option Elab.async false
set_option linter.all false
set_option maxRecDepth 100000
namespace CA
open PySem PySem.Spec PyProof.Rows L2
/-! ### isinstance of built-in types -/
theorem k_ii {K : PySem.W.Frag} : PySem.W.kitOne K (.type "int") (.type "int") = some true := kit_ty (by decide +kernel)
theorem k_ib {K : PySem.W.Frag} : PySem.W.kitOne K (.type "int") (.type "bool") = some false := kit_ty (by decide +kernel)
theorem k_ss {K : PySem.W.Frag} : PySem.W.kitOne K (.type "str") (.type "str") = some true := kit_ty (by decide +kernel)
theorem k_tt {K : PySem.W.Frag} : PySem.W.kitOne K (.type "tuple") (.type "tuple") = some true := kit_ty (by decide +kernel)
def isKind (k : Str) : Prop := k = "A" ∨ k = "B" ∨ k = "C"
/-! ### promises -/
def sp_is_integer : Sp := fun vs H Q _ => ∃ i : Int, vs = [.int i] ∧ Q (.bl true) H
def sp_is_between : Sp := fun vs H Q _ => ∃ i lo hi : Int, vs = [.int i, .int lo, .int hi] ∧ lo ≤ i ∧ i ≤ hi ∧ Q (.bl true) H
def sp_is_kind : Sp := fun vs H Q _ => ∃ k : Str, vs = [.str k] ∧ isKind k ∧ Q (.bl true) H
def sp_is_key (n : Int) : Sp := fun vs H Q _ => ∃ (t : Addr) (k : Str) (l r : Int), vs = [.ref t] ∧ H t = some (.tup [.str k, .int l, .int r]) ∧ isKind k ∧ 0 ≤ l ∧ l ≤ n ∧ 0 ≤ r ∧ r ≤ n ∧ Q (.bl true) H
def sp_is_row : Sp := fun vs H Q _ => ∃ (t : Addr) (k : Str) (l r o : Int), vs = [.ref t] ∧ H t = some (.tup [.str k, .int l, .int r, .int o]) ∧ isKind k ∧ 0 ≤ l ∧ l ≤ 99 ∧ 0 ≤ r ∧ r ≤ 99 ∧ 1 ≤ o ∧ o ≤ 10000 ∧ ∀ H', Same H H' → Q (.bl true) H'
def sp_same : Sp := fun vs H Q _ => ∃ i j : Int, vs = [.int i, .int j] ∧ Q (.bl (decide (i = j))) H
section
variable {P : Program} {w : World} {K : PySem.W.Frag} {mg : Str → Option Value} {base : Heap}

theorem sc_is_integer : FnScope ["thing"] ["thing"] (defScope s_is_integer) := ⟨rfl, rfl, rfl, by decide +kernel, rfl, by decide +kernel, by decide +kernel⟩
theorem ok_is_integer (T : Txt K mg) : Ok P w K mg base 1 "is_integer" ["thing"] (sp_is_integer) := by
  have S := sc_is_integer
  refine mkOk T.d_is_integer S (fun _ _ _ _ _ _ us hl => match us, hl with | [_], _ => rfl) (fun vs H Q E h => ?_) (fun cdv A outer s H vs Q E hr h => ?_)
  · obtain ⟨i, rfl, _⟩ := h
    rfl
  · obtain ⟨i, rfl, k⟩ := h
    refine ⟨_, (pss_one (ps_ret (pe_and (pe_callB call_isi (by rfl) T.f_isinstance (by decide +kernel) (pa_cons (pv 0) (pa_cons (pe_bltn (by rfl) T.f_int (by decide +kernel) (show RelV (.ty "int") (.type "int") from rfl)) pa_nil))) (pe_one (pe_not (pe_callB call_isi (by rfl) T.f_isinstance (by decide +kernel) (pa_cons (pv 0) (pa_cons (pe_bltn (by rfl) T.f_bool (by decide +kernel) (show RelV (.ty "bool") (.type "bool") from rfl)) pa_nil)))))))), ?_⟩
    refine ⟨_, rfl, _, _, _, _, _, rfl, .ty _, .base (.int _), k_ii, true, rfl, iteT ⟨_, rfl, _, _, _, _, _, rfl, .ty _, .base (.int _), k_ib, false, rfl, k⟩⟩
theorem sc_is_between : FnScope ["thing", "low", "high"] ["thing", "low", "high"] (defScope s_is_between) := ⟨rfl, rfl, rfl, by decide +kernel, rfl, by decide +kernel, by decide +kernel⟩
theorem ok_is_between (T : Txt K mg) : Ok P w K mg base 2 "is_between" ["thing", "low", "high"] (sp_is_between) := by
  have S := sc_is_between
  refine mkOk T.d_is_between S (fun _ _ _ _ _ _ us hl => match us, hl with | [_, _, _], _ => rfl) (fun vs H Q E h => ?_) (fun cdv A outer s H vs Q E hr h => ?_)
  · obtain ⟨i, lo, hi, rfl, _⟩ := h
    rfl
  have O1 : Ok P w K mg base 1 "is_integer" ["thing"] sp_is_integer := ok_is_integer T
  · obtain ⟨i, lo, hi, rfl, h1, h2, k⟩ := h
    refine ⟨_, (pss_one (ps_ret (pe_and (pcl O1 hr (pa_cons (pv 0) pa_nil)) (pe_one (pe_chain op_le op_le (pv 1) (pv 0) (pv 2)))))), ?_⟩
    refine ⟨_, rfl, i, rfl, true, rfl, iteT ⟨_, rfl, _, rfl, _, _, rfl, rfl, _, rfl, ?_⟩⟩
    rw [decide_eq_true h1]
    refine iteT ⟨_, rfl, _, _, rfl, rfl, ?_⟩
    show Q (V.bl (decide (i ≤ hi))) H
    rw [decide_eq_true h2]
    exact k
theorem sc_is_kind : FnScope ["thing"] ["thing"] (defScope s_is_kind) := ⟨rfl, rfl, rfl, by decide +kernel, rfl, by decide +kernel, by decide +kernel⟩
theorem ok_is_kind (T : Txt K mg) : Ok P w K mg base 1 "is_kind" ["thing"] (sp_is_kind) := by
  have S := sc_is_kind
  refine mkOk T.d_is_kind S (fun _ _ _ _ _ _ us hl => match us, hl with | [_], _ => rfl) (fun vs H Q E h => ?_) (fun cdv A outer s H vs Q E hr h => ?_)
  · obtain ⟨z, rfl, _⟩ := h
    rfl
  · obtain ⟨z, rfl, hz, k⟩ := h
    refine ⟨_, (pss_one (ps_ret (pe_and (pe_callB call_isi (by rfl) T.f_isinstance (by decide +kernel) (pa_cons (pv 0) (pa_cons (pe_bltn (by rfl) T.f_str (by decide +kernel) (show RelV (.ty "str") (.type "str") from rfl)) pa_nil))) (pe_one (pe_cmpR op_in_seq (pv 0) (pe_glob (by rfl) T.n_KINDS (show RelV (.ref _) (.ref _) from rfl)) (by rfl)))))), ?_⟩
    refine ⟨_, rfl, _, _, _, _, _, rfl, .ty _, .base (.str _), k_ss, true, rfl, iteT ⟨_, rfl, _, _, rfl, .inr (T.k_KINDS H), rfl, rfl, ?_⟩⟩
    show Q (V.bl (inV (V.str z) [.str "A", .str "B", .str "C"])) H
    have e : inV (V.str z) [.str "A", .str "B", .str "C"] = true := by
      rcases hz with rfl | rfl | rfl <;> decide +kernel
    rw [e]
    exact k
theorem sc_is_key : FnScope ["thing"] ["thing"] (defScope s_is_key) := ⟨rfl, rfl, rfl, by decide +kernel, rfl, by decide +kernel, by decide +kernel⟩
theorem ok_is_key (T : Txt K mg) : Ok P w K mg base 3 "is_key" ["thing"] (sp_is_key 99) := by
  have S := sc_is_key
  refine mkOk T.d_is_key S (fun _ _ _ _ _ _ us hl => match us, hl with | [_], _ => rfl) (fun vs H Q E h => ?_) (fun cdv A outer s H vs Q E hr h => ?_)
  · obtain ⟨t, z, l, r, rfl, _⟩ := h
    rfl
  have O2 : Ok P w K mg base 2 "is_between" ["thing", "low", "high"] sp_is_between := ok_is_between T
  have O1 : Ok P w K mg base 1 "is_kind" ["thing"] sp_is_kind := ok_is_kind T
  obtain ⟨tn, gn⟩ := T.n_MOST_VALUE
  · obtain ⟨t, z, l, r, rfl, ht, hz, l0, l1, r0, r1, k⟩ := h
    refine ⟨_, (pss_cons (ps_if (PW.pt (pw_or (pt_not (pt_val (pe_callB call_isi (by rfl) T.f_isinstance (by decide +kernel) (pa_cons (pv 0) (pa_cons (pe_bltn (by rfl) T.f_tuple (by decide +kernel) (show RelV (.ty "tuple") (.type "tuple") from rfl)) pa_nil))))) (pw_or (pt_cmpR op_ne (pe_callB call_len_seq (by rfl) T.f_len (by decide +kernel) (pa_cons (pv 0) pa_nil)) pe_int (nomark _)) (pw_or1 (pt_not (pt_val (pcl O1 (hr.mono (by decide)) (pa_cons (pe_ix ix_tup (pv 0) pe_int (fun _ _ => rfl)) pa_nil)))))))) (pss_one (ps_ret pe_bl)) pss_nil) (pss_one (ps_ret (pe_and (pcl O2 hr (pa_cons (pe_ix ix_tup (pv 0) pe_int (fun _ _ => rfl)) (pa_cons pe_int (pa_cons (pe_glob (by rfl) gn (show RelV (.int 99) _ from ⟨_, rfl⟩)) pa_nil)))) (pe_one (pcl O2 hr (pa_cons (pe_ix ix_tup (pv 0) pe_int (fun _ _ => rfl)) (pa_cons pe_int (pa_cons (pe_glob (by rfl) gn (show RelV (.int 99) _ from ⟨_, rfl⟩)) pa_nil))))))))), ?_⟩
    refine ⟨_, rfl, _, _, _, _, _, rfl, .ty _, .base (.tup ht), k_tt, true, rfl, iteF ?_⟩
    refine ⟨_, rfl, _, _, rfl, .inr (SqT.of ht), rfl, _, rfl, iteF ?_⟩
    refine ⟨_, rfl, _, _, _, _, rfl, rfl, SqT.of ht, rfl, _, rfl, hz, true, rfl, iteF ?_⟩
    refine ⟨_, rfl, _, _, _, _, rfl, rfl, SqT.of ht, rfl, _, _, _, rfl, l0, l1, true, rfl, iteT ?_⟩
    exact ⟨_, rfl, _, _, _, _, rfl, rfl, SqT.of ht, rfl, _, _, _, rfl, r0, r1, k⟩
theorem sc_is_atom : FnScope ["thing"] ["thing"] (defScope s_is_atom) := ⟨rfl, rfl, rfl, by decide +kernel, rfl, by decide +kernel, by decide +kernel⟩
theorem ok_is_atom (T : Txt K mg) : Ok P w K mg base 3 "is_atom" ["thing"] (sp_is_key 9) := by
  have S := sc_is_atom
  refine mkOk T.d_is_atom S (fun _ _ _ _ _ _ us hl => match us, hl with | [_], _ => rfl) (fun vs H Q E h => ?_) (fun cdv A outer s H vs Q E hr h => ?_)
  · obtain ⟨t, z, l, r, rfl, _⟩ := h
    rfl
  have O2 : Ok P w K mg base 2 "is_between" ["thing", "low", "high"] sp_is_between := ok_is_between T
  have O1 : Ok P w K mg base 1 "is_kind" ["thing"] sp_is_kind := ok_is_kind T
  obtain ⟨tn, gn⟩ := T.n_MOST_VARIABLE
  · obtain ⟨t, z, l, r, rfl, ht, hz, l0, l1, r0, r1, k⟩ := h
    refine ⟨_, (pss_cons (ps_if (PW.pt (pw_or (pt_not (pt_val (pe_callB call_isi (by rfl) T.f_isinstance (by decide +kernel) (pa_cons (pv 0) (pa_cons (pe_bltn (by rfl) T.f_tuple (by decide +kernel) (show RelV (.ty "tuple") (.type "tuple") from rfl)) pa_nil))))) (pw_or (pt_cmpR op_ne (pe_callB call_len_seq (by rfl) T.f_len (by decide +kernel) (pa_cons (pv 0) pa_nil)) pe_int (nomark _)) (pw_or1 (pt_not (pt_val (pcl O1 (hr.mono (by decide)) (pa_cons (pe_ix ix_tup (pv 0) pe_int (fun _ _ => rfl)) pa_nil)))))))) (pss_one (ps_ret pe_bl)) pss_nil) (pss_one (ps_ret (pe_and (pcl O2 hr (pa_cons (pe_ix ix_tup (pv 0) pe_int (fun _ _ => rfl)) (pa_cons pe_int (pa_cons (pe_glob (by rfl) gn (show RelV (.int 9) _ from ⟨_, rfl⟩)) pa_nil)))) (pe_one (pcl O2 hr (pa_cons (pe_ix ix_tup (pv 0) pe_int (fun _ _ => rfl)) (pa_cons pe_int (pa_cons (pe_glob (by rfl) gn (show RelV (.int 9) _ from ⟨_, rfl⟩)) pa_nil))))))))), ?_⟩
    refine ⟨_, rfl, _, _, _, _, _, rfl, .ty _, .base (.tup ht), k_tt, true, rfl, iteF ?_⟩
    refine ⟨_, rfl, _, _, rfl, .inr (SqT.of ht), rfl, _, rfl, iteF ?_⟩
    refine ⟨_, rfl, _, _, _, _, rfl, rfl, SqT.of ht, rfl, _, rfl, hz, true, rfl, iteF ?_⟩
    refine ⟨_, rfl, _, _, _, _, rfl, rfl, SqT.of ht, rfl, _, _, _, rfl, l0, l1, true, rfl, iteT ?_⟩
    exact ⟨_, rfl, _, _, _, _, rfl, rfl, SqT.of ht, rfl, _, _, _, rfl, r0, r1, k⟩
theorem sc_is_row : FnScope ["thing"] ["thing"] (defScope s_is_row) := ⟨rfl, rfl, rfl, by decide +kernel, rfl, by decide +kernel, by decide +kernel⟩
theorem ok_is_row (T : Txt K mg) : Ok P w K mg base 4 "is_row" ["thing"] (sp_is_row) := by
  have S := sc_is_row
  refine mkOk T.d_is_row S (fun _ _ _ _ _ _ us hl => match us, hl with | [_], _ => rfl) (fun vs H Q E h => ?_) (fun cdv A outer s H vs Q E hr h => ?_)
  · obtain ⟨t, z, l, r, o, rfl, _⟩ := h
    rfl
  have O2 : Ok P w K mg base 2 "is_between" ["thing", "low", "high"] sp_is_between := ok_is_between T
  have O1 : Ok P w K mg base 1 "is_kind" ["thing"] sp_is_kind := ok_is_kind T
  have O3 : Ok P w K mg base 3 "is_key" ["thing"] (sp_is_key 99) := ok_is_key T
  obtain ⟨tn, gn⟩ := T.n_MOST_OFTEN
  · obtain ⟨t, z, l, r, o, rfl, ht, hz, l0, l1, r0, r1, o0, o1, k⟩ := h
    refine ⟨_, (pss_cons (ps_if (PW.pt (pw_or (pt_not (pt_val (pe_callB call_isi (by rfl) T.f_isinstance (by decide +kernel) (pa_cons (pv 0) (pa_cons (pe_bltn (by rfl) T.f_tuple (by decide +kernel) (show RelV (.ty "tuple") (.type "tuple") from rfl)) pa_nil))))) (pw_or1 (pt_cmpR op_ne (pe_callB call_len_seq (by rfl) T.f_len (by decide +kernel) (pa_cons (pv 0) pa_nil)) pe_int (nomark _))))) (pss_one (ps_ret pe_bl)) pss_nil) (pss_one (ps_ret (pe_and (pcl O3 hr (pa_cons (pe_slice sl_tupA (pv 0) po_none (po_some pe_int)) pa_nil)) (pe_one (pcl O2 (hr.mono (by decide)) (pa_cons (pe_ix ix_tup (pv 0) pe_int (fun _ _ => rfl)) (pa_cons pe_int (pa_cons (pe_glob (by rfl) gn (show RelV (.int 10000) _ from ⟨_, rfl⟩)) pa_nil))))))))), ?_⟩
    refine ⟨_, rfl, _, _, _, _, _, rfl, .ty _, .base (.tup ht), k_tt, true, rfl, iteF ?_⟩
    refine ⟨_, rfl, _, _, rfl, .inr (SqT.of ht), rfl, _, rfl, iteF ?_⟩
    refine ⟨_, rfl, _, rfl, _, _, rfl, SqT.of ht, (fun q => absurd q (show ¬ (HT.sIx 4 0 none = 0 ∧ HT.sIx 4 4 (some 3) = 4) by decide +kernel)), fun _ p hp => ?_⟩
    have htp : t ≠ p := ne_of_none ht hp
    have ht2 := (upd_ne (o := .tup (cutV [.str z, .int l, .int r, .int o] none (some 3))) htp).trans ht
    refine ⟨p, z, l, r, rfl, upd_same, hz, l0, l1, r0, r1, true, rfl, iteT ?_⟩
    exact ⟨_, rfl, _, _, _, _, rfl, rfl, SqT.of ht2, rfl, _, _, _, rfl, o0, o1, k _ (same_upd hp)⟩
theorem sc_same : FnScope ["thing", "number"] ["thing", "number"] (defScope s_same) := ⟨rfl, rfl, rfl, by decide +kernel, rfl, by decide +kernel, by decide +kernel⟩
theorem ok_same (T : Txt K mg) : Ok P w K mg base 1 "same" ["thing", "number"] (sp_same) := by
  have S := sc_same
  refine mkOk T.d_same S (fun _ _ _ _ _ _ us hl => match us, hl with | [_, _], _ => rfl) (fun vs H Q E h => ?_) (fun cdv A outer s H vs Q E hr h => ?_)
  · obtain ⟨i, j, rfl, _⟩ := h
    rfl
  · obtain ⟨i, j, rfl, k⟩ := h
    refine ⟨_, (pss_one (ps_ret (pe_and (pe_callB call_isi (by rfl) T.f_isinstance (by decide +kernel) (pa_cons (pv 0) (pa_cons (pe_bltn (by rfl) T.f_int (by decide +kernel) (show RelV (.ty "int") (.type "int") from rfl)) pa_nil))) (pe_and (pe_not (pe_callB call_isi (by rfl) T.f_isinstance (by decide +kernel) (pa_cons (pv 0) (pa_cons (pe_bltn (by rfl) T.f_bool (by decide +kernel) (show RelV (.ty "bool") (.type "bool") from rfl)) pa_nil)))) (pe_one (pe_cmpR op_eq (pv 0) (pv 1) (nomark _))))))), ?_⟩
    refine ⟨_, rfl, _, _, _, _, _, rfl, .ty _, .base (.int _), k_ii, true, rfl, iteT ⟨_, rfl, _, _, _, _, _, rfl, .ty _, .base (.int _), k_ib, false, rfl, true, rfl, iteT ⟨_, rfl, _, rfl, rfl, ?_⟩⟩⟩
    show Q (V.bl (decide (V.int i = V.int j))) H
    have e : decide (V.int i = V.int j) = decide (i = j) := by simp
    rw [e]
    exact k
end
end CA
set_option Elab.async false
set_option linter.all false
set_option maxRecDepth 100000
namespace CA
open PySem PySem.Spec PyProof.Rows L2
/-! ### a comprehension that leaves what was there -/
/-- all but what is at D is kept -/
def Off (D : Addr) (H H' : Hp) : Prop := ∀ b o, b ≠ D → H b = some o → H' b = some o
theorem off_same {D : Addr} {H H' : Hp} (s : Same H H') : Off D H H' := fun b o _ e => s b o e
theorem off_upd {D : Addr} {H : Hp} {o : HO} : Off D H (upd H D o) := fun b u hb e => by rw [upd_ne hb]; exact e
theorem Off.trans {D : Addr} {H H1 H2 : Hp} (a : Off D H H1) (b : Off D H1 H2) : Off D H H2 := fun c o hc e => b c o hc (a c o hc e)
/-- what is no list at D stays -/
theorem Off.tup {D a : Addr} {H H' : Hp} {xs acc : List V} (s : Off D H H') (hD : H D = some (.lst acc)) (h : H a = some (.tup xs)) : H' a = some (.tup xs) := s _ _ (ne_of h hD (by intro z; cases z)) h
theorem same_off {D : Addr} {H1 H H' : Hp} (hD : H1 D = none) (s : Same H1 H) (o : Off D H H') : Same H1 H' := fun b u e => o b u (ne_of_none e hD) (s b u e)
theorem lc_mapT {J : It} {n : Nat} {G : Hp → Prop} {Y : Nat → Hp → V → Hp → Prop} (w : Walk J n G Y) {g : TG} {tt : TT} {te : TE} {vs : List Nat} {σ : L2.St} {H1 : Hp} {D : Addr} {Qd : Hp → Prop} (Pv : Nat → List V → Hp → Prop) (hD : H1 D = none)
    (hG : ∀ H, Same H1 H → G H) (Ps : ∀ i ys H H' acc, H D = some (.lst acc) → Off D H H' → Pv i ys H → Pv i ys H') (hn : n ≤ sizeLine)
    (h0 : Pv 0 [] (upd H1 D (.lst [])))
    (hs : ∀ i x H H' ys, i < n → ys.length ≤ i → Same H1 H → H D = some (.lst ys) → Pv i ys H → Y i H x H' → ∀ (Q' : VK) (Qn : Hp → Prop), (∀ y H4, Same H H4 → Pv (i + 1) (ys ++ [y]) H4 → Q' y H4) → (∀ H4, Same H H4 → Pv (i + 1) ys H4 → Qn H4) →
      g x (wipe σ vs) H' fun σ2 H2 => wipe σ2 vs = wipe σ vs ∧ tt σ2 H2 fun b H3 => if b = true then te σ2 H3 Q' else Qn H3)
    (hd : ∀ H (ys : List V), Same H1 H → H D = some (.lst ys) → ys.length ≤ n → Pv n ys H → Qd H) :
    ∃ W : Nat → Nat → Hp → Prop, (∃ m, W 0 m (upd H1 D (.lst []))) ∧ ∀ i m H, W i m H →
      (J.stop i H ∧ Qd H) ∨ (J.go i H ∧ ∃ Nx : Hp → Prop, (∀ H', Nx H' → ∃ m', m' < m ∧ W (i + 1) m' H') ∧ ∀ x H', J.yld i H x H' → g x (wipe σ vs) H' fun σ2 H2 => wipe σ2 vs = wipe σ vs ∧ tt σ2 H2 fun b H3 =>
        if b = true then te σ2 H3 fun y H4 => ∃ acc, H4 D = some (.lst acc) ∧ acc.length < sizeLine ∧ Nx (upd H4 D (.lst (acc ++ [y]))) else Nx H3) := by
  refine lc_it (tt := tt) w (fun i H => Same H1 H ∧ ∃ ys : List V, H D = some (.lst ys) ∧ ys.length ≤ i ∧ Pv i ys H) ⟨same_upd hD, [], upd_same, Nat.le_refl _, h0⟩ (fun i H _ h => hG H h.1) (fun i x H H' hi h hy => ?_) fun H h => ?_
  · obtain ⟨s, ys, hDl, hl, hR⟩ := h
    refine hs i x H H' ys hi hl s hDl hR hy _ _ (fun y H4 s4 r4 => ?_) fun H4 s4 r4 => ⟨s.trans s4, ys, s4 _ _ hDl, by omega, r4⟩
    refine ⟨ys, s4 _ _ hDl, by omega, same_off hD (s.trans s4) off_upd, ys ++ [y], upd_same, by rw [List.length_append, List.length_singleton]; omega, ?_⟩
    exact Ps _ _ _ _ ys (s4 _ _ hDl) off_upd r4
  · obtain ⟨s, ys, hDl, hl, hR⟩ := h
    exact hd H ys s hDl hl hR
/-- no test: the i-th is known by R -/
theorem lc_mapD {J : It} {n : Nat} {G : Hp → Prop} {Y : Nat → Hp → V → Hp → Prop} (w : Walk J n G Y) {g : TG} {te : TE} {vs : List Nat} {σ : L2.St} {H1 : Hp} {D : Addr} {Qd : Hp → Prop} (R : Nat → V → Hp → Prop) (hD : H1 D = none)
    (hG : ∀ H, Same H1 H → G H) (Rs : ∀ i y H H' acc, H D = some (.lst acc) → Off D H H' → R i y H → R i y H') (hn : n ≤ sizeLine)
    (hs : ∀ i x H H', i < n → Same H1 H → (∃ acc, H D = some (.lst acc)) → Y i H x H' → ∀ Q' : VK, (∀ y H4, Same H H4 → R i y H4 → Q' y H4) → g x (wipe σ vs) H' fun σ2 H2 => wipe σ2 vs = wipe σ vs ∧ te σ2 H2 Q')
    (hd : ∀ H (ys : List V), Same H1 H → H D = some (.lst ys) → ys.length = n → (∀ (i : Nat) (y : V), ys[i]? = some y → R i y H) → Qd H) :
    ∃ W : Nat → Nat → Hp → Prop, (∃ m, W 0 m (upd H1 D (.lst []))) ∧ ∀ i m H, W i m H →
      (J.stop i H ∧ Qd H) ∨ (J.go i H ∧ ∃ Nx : Hp → Prop, (∀ H', Nx H' → ∃ m', m' < m ∧ W (i + 1) m' H') ∧ ∀ x H', J.yld i H x H' → g x (wipe σ vs) H' fun σ2 H2 => wipe σ2 vs = wipe σ vs ∧ tYes σ2 H2 fun b H3 =>
        if b = true then te σ2 H3 fun y H4 => ∃ acc, H4 D = some (.lst acc) ∧ acc.length < sizeLine ∧ Nx (upd H4 D (.lst (acc ++ [y]))) else Nx H3) := by
  refine lc_mapT (tt := tYes) w (fun i ys H => ys.length = i ∧ ∀ j y, ys[j]? = some y → R j y H) hD hG (fun i ys H H' acc hDl o h => ⟨h.1, fun j y e => Rs j y H H' acc hDl o (h.2 j y e)⟩) hn ⟨rfl, fun j y e => by simp at e⟩ (fun i x H H' ys hi _ s hDl hP hy Q' Qn hQ _ => ?_) fun H ys s hDl _ hP => hd H ys s hDl hP.1 hP.2
  have q := hs i x H H' hi s ⟨ys, hDl⟩ hy Q' fun y H4 s4 r4 => hQ y H4 s4 ⟨by rw [List.length_append, hP.1]; rfl, fun j z e => by
    by_cases hj : j < ys.length
    · rw [List.getElem?_append_left hj] at e
      exact Rs j z H H4 ys hDl (off_same s4) (hP.2 j z e)
    · rw [List.getElem?_append_right (by omega)] at e
      have hj2 : j = ys.length := by
        have h2 := (List.getElem?_eq_some_iff.mp e).1
        rw [List.length_singleton] at h2
        omega
      subst hj2
      rw [Nat.sub_self] at e
      have ez : y = z := by simpa using e
      subst ez
      rw [hP.1]
      exact r4⟩
  exact q
/-- no test: the i-th is known by R -/
theorem lc_mapS {J : It} {n : Nat} {G : Hp → Prop} {Y : Nat → Hp → V → Hp → Prop} (w : Walk J n G Y) {g : TG} {te : TE} {vs : List Nat} {σ : L2.St} {H1 : Hp} {D : Addr} {Qd : Hp → Prop} (R : Nat → V → Hp → Prop) (hD : H1 D = none)
    (hG : ∀ H, Same H1 H → G H) (Rs : ∀ i y H H' acc, H D = some (.lst acc) → Off D H H' → R i y H → R i y H') (hn : n ≤ sizeLine)
    (hs : ∀ i x H H', i < n → Same H1 H → Y i H x H' → ∀ Q' : VK, (∀ y H4, Same H H4 → R i y H4 → Q' y H4) → g x (wipe σ vs) H' fun σ2 H2 => wipe σ2 vs = wipe σ vs ∧ te σ2 H2 Q')
    (hd : ∀ H (ys : List V), Same H1 H → H D = some (.lst ys) → ys.length = n → (∀ (i : Nat) (y : V), ys[i]? = some y → R i y H) → Qd H) :
    ∃ W : Nat → Nat → Hp → Prop, (∃ m, W 0 m (upd H1 D (.lst []))) ∧ ∀ i m H, W i m H →
      (J.stop i H ∧ Qd H) ∨ (J.go i H ∧ ∃ Nx : Hp → Prop, (∀ H', Nx H' → ∃ m', m' < m ∧ W (i + 1) m' H') ∧ ∀ x H', J.yld i H x H' → g x (wipe σ vs) H' fun σ2 H2 => wipe σ2 vs = wipe σ vs ∧ tYes σ2 H2 fun b H3 =>
        if b = true then te σ2 H3 fun y H4 => ∃ acc, H4 D = some (.lst acc) ∧ acc.length < sizeLine ∧ Nx (upd H4 D (.lst (acc ++ [y]))) else Nx H3) := by
  exact lc_mapD w R hD hG Rs hn (fun i x H H' hi s _ hy => hs i x H H' hi s hy) hd
/-! ### things laid as tuples -/
abbrev En (α : Type) := List (Addr × α)
def refs {α : Type} (es : En α) : List V := es.map fun p => V.ref p.1
def Lay {α : Type} (f : α → List V) (H : Hp) (es : En α) : Prop := ∀ p ∈ es, H p.1 = some (.tup (f p.2))
theorem Lay.same {α : Type} {f : α → List V} {H H' : Hp} {es : En α} (h : Lay f H es) (s : Same H H') : Lay f H' es := fun p hp => s _ _ (h p hp)
theorem refs_at {α : Type} {es : En α} {i : Nat} {x : V} (h : (refs es)[i]? = some x) : ∃ p, es[i]? = some p ∧ x = .ref p.1 := by
  unfold refs at h
  rw [List.getElem?_map] at h
  cases e : es[i]? with
  | none => rw [e] at h; cases h
  | some p => rw [e] at h; exact ⟨p, rfl, (Option.some.inj h).symm⟩
theorem refs_len {α : Type} (es : En α) : (refs es).length = es.length := List.length_map _
def aV (a : At Str) : List V := [.str a.1, .int a.2.1, .int a.2.2]
def rV (r : Rw Str) : List V := [.str r.1, .int r.2.1, .int r.2.2.1, .int r.2.2.2]
def OkA (a : At Str) : Prop := isKind a.1 ∧ 0 ≤ a.2.1 ∧ a.2.1 ≤ 9 ∧ 0 ≤ a.2.2 ∧ a.2.2 ≤ 9
def OkR (r : Rw Str) : Prop := isKind r.1 ∧ 0 ≤ r.2.1 ∧ r.2.1 ≤ 99 ∧ 0 ≤ r.2.2.1 ∧ r.2.2.1 ≤ 99 ∧ 1 ≤ r.2.2.2 ∧ r.2.2.2 ≤ 10000
theorem seq_or {K : PySem.W.Frag} {t : Bool} {H : Hp} {a : Addr} {xs : List V} (h : H a = some (sqO t xs)) : SqL K H a xs ∨ SqT K H a xs := by
  cases t with
  | true => exact .inr (SqT.of h)
  | false => exact .inl (SqL.of h)
theorem all_true {ys : List V} (h : ∀ (i : Nat) (y : V), ys[i]? = some y → y = V.bl true) : ys = (List.replicate ys.length true).map V.bl := by
  refine List.ext_getElem? fun i => ?_
  rw [List.map_replicate, List.getElem?_replicate]
  by_cases hi : i < ys.length
  · rw [if_pos hi, List.getElem?_eq_getElem hi, h i _ (List.getElem?_eq_getElem hi)]
  · rw [if_neg hi, List.getElem?_eq_none (by omega)]
theorem all_rep (n : Nat) : (List.replicate n true).all id = true := by
  rw [List.all_eq_true]
  intro x hx
  rw [List.eq_of_mem_replicate hx]
  rfl
/-! ### the same as data -/
def keyD (a : At Str) : PyData := .tuple [.str a.1, .int a.2.1, .int a.2.2]
def rowD (r : Rw Str) : PyData := .tuple [.str r.1, .int r.2.1, .int r.2.2.1, .int r.2.2.2]
theorem eqv_keyD (a b : At Str) : PyData.eqv (keyD a) (keyD b) = decide (a = b) := by
  obtain ⟨k, l, r⟩ := a
  obtain ⟨k', l', r'⟩ := b
  have e : PyData.eqv (keyD (k, l, r)) (keyD (k', l', r')) = (k == k' && (l == l' && (r == r' && true))) := by simp only [keyD, PyData.eqv, PyData.eqvAll]
  rw [e]
  by_cases h1 : k = k' <;> by_cases h2 : l = l' <;> by_cases h3 : r = r' <;> simp [h1, h2, h3]
theorem dp_key {K : PySem.W.Frag} {H : Hp} {t : Addr} {a : At Str} (h : H t = some (.tup (aV a))) : Dp K H (.ref t) (keyD a) := .tup (SqT.of h) (.cons (.str _) (.cons (.int _) (.cons (.int _) .nil)))
theorem dp_row {K : PySem.W.Frag} {H : Hp} {t : Addr} {r : Rw Str} (h : H t = some (.tup (rV r))) : Dp K H (.ref t) (rowD r) := .tup (SqT.of h) (.cons (.str _) (.cons (.int _) (.cons (.int _) (.cons (.int _) .nil))))
theorem strOk_kind {k : Str} (h : isKind k) : PyData.strOk k = true := by
  rcases h with rfl | rfl | rfl <;> decide +kernel
theorem sh_key {a : At Str} (h : isKind a.1) : SeqAt.shaped (keyD a) = true := by
  have q := strOk_kind h
  simp [SeqAt.shaped, keyD, PyData.canLay0, PyData.canLayAll0, PyData.depth, PyData.depthAll, q]
theorem can_keys : ∀ {as : List (At Str)}, (∀ a ∈ as, isKind a.1) → PyData.canLayAll0 (as.map keyD) = true
  | [], _ => by simp [PyData.canLayAll0]
  | a :: as, h => by
    have q := strOk_kind (h a List.mem_cons_self)
    rw [List.map_cons, PyData.canLayAll0, can_keys fun b hb => h b (List.mem_cons_of_mem _ hb)]
    simp [keyD, PyData.canLay0, PyData.canLayAll0, q]
theorem depth_keysD (as : List (At Str)) : PyData.depthAll (as.map keyD) ≤ 1 := by
  induction as with
  | nil => simp [PyData.depthAll]
  | cons a as ih =>
    rw [List.map_cons, PyData.depthAll]
    have : (keyD a).depth = 1 := by simp [keyD, PyData.depth, PyData.depthAll]
    omega
theorem sh_keys_l {as : List (At Str)} (hk : ∀ a ∈ as, isKind a.1) : SeqAt.shaped (.list (as.map keyD)) = true := by
  have h := depth_keysD as
  unfold SeqAt.shaped
  rw [Bool.and_eq_true, decide_eq_true_eq, PyData.canLay0, PyData.depth]
  exact ⟨can_keys hk, by omega⟩
theorem sh_keys_t {as : List (At Str)} (hk : ∀ a ∈ as, isKind a.1) : SeqAt.shaped (.tuple (as.map keyD)) = true := by
  have h := depth_keysD as
  unfold SeqAt.shaped
  rw [Bool.and_eq_true, decide_eq_true_eq, PyData.canLay0, PyData.depth]
  exact ⟨can_keys hk, by omega⟩
theorem dp_keys {K : PySem.W.Frag} {H : Hp} : ∀ {es : En (At Str)}, Lay aV H es → DpAll K H (refs es) ((es.map (·.2)).map keyD)
  | [], _ => .nil
  | p :: es, h => .cons (dp_key (h p List.mem_cons_self)) (dp_keys fun q hq => h q (List.mem_cons_of_mem _ hq))
theorem count_nodup : ∀ {as : List (At Str)} {a : At Str}, as.Nodup → a ∈ as → (as.map keyD).countP (fun z => PyData.eqv z (keyD a)) = 1
  | b :: as, a, hn, ha => by
    rw [List.nodup_cons] at hn
    have zero : ∀ {as : List (At Str)}, a ∉ as → (as.map keyD).countP (fun z => PyData.eqv z (keyD a)) = 0 := fun {as} h => by
      rw [List.countP_eq_zero]
      intro d hd
      obtain ⟨c, hc, rfl⟩ := List.mem_map.mp hd
      rw [eqv_keyD, decide_eq_true_eq]
      intro e
      subst e
      exact h hc
    rw [List.map_cons, List.countP_cons, eqv_keyD]
    by_cases e : b = a
    · subst e
      rw [zero hn.1]
      simp
    · rw [count_nodup hn.2 ((List.mem_cons.mp ha).resolve_left fun q => e q.symm)]
      simp [e]
/-- a list whose items are new tuples -/
theorem en_of {β : Type} {f : β → List V} {H : Hp} : ∀ {ys : List V} {bs : List β}, ys.length = bs.length → (∀ (i : Nat) (y : V), ys[i]? = some y → ∃ b, bs[i]? = some b ∧ ∃ t, y = .ref t ∧ H t = some (.tup (f b))) → ∃ es : En β, ys = refs es ∧ Lay f H es ∧ es.map (·.2) = bs
  | [], [], _, _ => ⟨[], rfl, (fun p hp => absurd hp List.not_mem_nil), rfl⟩
  | y :: ys, b :: bs, hl, h => by
    obtain ⟨b0, e0, t, ey, ht⟩ := h 0 y rfl
    have eb : b = b0 := by simpa using e0
    subst eb
    obtain ⟨es, e1, e2, e3⟩ := en_of (ys := ys) (bs := bs) (f := f) (H := H) (by simpa using hl) fun i z hz => h (i + 1) z hz
    refine ⟨(t, b) :: es, ?_, fun p hp => ?_, ?_⟩
    · rw [ey, e1]; rfl
    · rcases List.mem_cons.mp hp with z | hp
      · rw [z]; exact ht
      · exact e2 p hp
    · rw [List.map_cons, e3]
theorem hu65 {A : Around} {k : Nat} (hr : Room k A) : A.units + 65 < cLine := by
  have := hr.un
  omega
theorem ext_at {ys zs : List V} (hl : ys.length = zs.length) (h : ∀ (i : Nat) (y : V), ys[i]? = some y → zs[i]? = some y) : ys = zs := by
  refine List.ext_getElem? fun i => ?_
  by_cases hi : i < ys.length
  · rw [List.getElem?_eq_getElem hi, h i _ (List.getElem?_eq_getElem hi)]
  · rw [List.getElem?_eq_none (by omega), List.getElem?_eq_none (by omega)]
theorem nodup_le {ds ns : List Int} (nd : ds.Nodup) (h : ∀ x ∈ ds, x ∈ ns) : ds.length ≤ ns.length := by
  induction ds generalizing ns with
  | nil => exact Nat.zero_le _
  | cons d ds ih =>
    rw [List.nodup_cons] at nd
    have hd := h d List.mem_cons_self
    have q := ih (ns := ns.erase d) nd.2 fun x hx => by
      have hne : x ≠ d := fun e => by subst e; exact nd.1 hx
      exact (List.mem_erase_of_ne hne).mpr (h x (List.mem_cons_of_mem _ hx))
    have p := (List.perm_cons_erase hd).length_eq
    rw [List.length_cons] at p ⊢
    omega
theorem hu16_of {A : Around} {k : Nat} (hr : Room k A) : A.units + 16 < cLine := by
  have := hr.un
  omega
theorem vars_len {as : List (At Str)} {ns : List Int} (h : IsVars as ns) (h4 : as.length ≤ 4) : ns.length ≤ 8 := by
  have q := nodup_le h.nodup (ns := as.map (fun a => a.2.1) ++ as.map (fun a => a.2.2)) fun x hx => by
    obtain ⟨a, ha, e⟩ := (h.mem x).1 hx
    rcases e with e | e
    · exact List.mem_append_left _ (List.mem_map.mpr ⟨a, ha, e.symm⟩)
    · exact List.mem_append_right _ (List.mem_map.mpr ⟨a, ha, e.symm⟩)
  rw [List.length_append, List.length_map, List.length_map] at q
  omega
theorem all_int : ∀ {ys : List V}, (∀ (i : Nat) (y : V), ys[i]? = some y → ∃ z : Int, y = .int z) → ∃ xs : List Int, ys = xs.map V.int
  | [], _ => ⟨[], rfl⟩
  | y :: ys, h => by
    obtain ⟨z, e⟩ := h 0 y rfl
    obtain ⟨xs, ex⟩ := all_int (ys := ys) fun i y hy => h (i + 1) y hy
    exact ⟨z :: xs, by rw [e, ex]; rfl⟩
theorem dp_ints {K : PySem.W.Frag} {H : Hp} : ∀ xs : List Int, DpAll K H (xs.map V.int) (xs.map .int)
  | [] => .nil
  | x :: xs => .cons (.int x) (dp_ints xs)
theorem en_ofL {β γ : Type} {f : β → En γ} {H : Hp} : ∀ {ys : List V} {bs : List β}, ys.length = bs.length → (∀ (i : Nat) (y : V), ys[i]? = some y → ∃ b, bs[i]? = some b ∧ ∃ t, y = .ref t ∧ H t = some (.lst (refs (f b)))) →
    ∃ os : En (En γ), ys = refs os ∧ (∀ q ∈ os, H q.1 = some (.lst (refs q.2))) ∧ os.map (·.2) = bs.map f
  | [], [], _, _ => ⟨[], rfl, (fun p hp => absurd hp List.not_mem_nil), rfl⟩
  | y :: ys, b :: bs, hl, h => by
    obtain ⟨b0, e0, t, ey, ht⟩ := h 0 y rfl
    have eb : b = b0 := by simpa using e0
    subst eb
    obtain ⟨es, e1, e2, e3⟩ := en_ofL (ys := ys) (bs := bs) (f := f) (H := H) (by simpa using hl) fun i z hz => h (i + 1) z hz
    refine ⟨(t, f b) :: es, by rw [ey, e1]; rfl, fun p hp => ?_, by rw [List.map_cons, e3]; rfl⟩
    rcases List.mem_cons.mp hp with z | hp
    · rw [z]; exact ht
    · exact e2 p hp
/-- a new address is none that is tracked -/
theorem ne_of_new {H H' : Hp} {t L : Addr} {o : HO} (s : Same H H') (ht : H' t = none) (hL : H L = some o) : t ≠ L := fun e => by
  subst e
  rw [s _ _ hL] at ht
  cases ht
theorem flat_len {α β : Type} {f : α → List β} : ∀ {l : List α}, l.length ≤ 24 → (∀ x ∈ l, (f x).length ≤ 24) → (l.flatMap f).length ≤ 24 * 24 := by
  have h : ∀ (l : List α), (∀ x ∈ l, (f x).length ≤ 24) → (l.flatMap f).length ≤ 24 * l.length := by
    intro l
    induction l with
    | nil => intro _; exact Nat.le_refl _
    | cons x l ih =>
      intro h
      have h1 := h x List.mem_cons_self
      have h2 := ih fun y hy => h y (List.mem_cons_of_mem _ hy)
      rw [List.flatMap_cons, List.length_append, List.length_cons]
      omega
  intro l hl hx
  have := h l hx
  omega
end CA
set_option Elab.async false
set_option linter.all false
set_option maxRecDepth 100000
namespace CA
open PySem PySem.Spec PyProof.Rows L2
def sp_are_atoms : Sp := fun vs H Q _ => ∃ (t : Bool) (a : Addr) (es : En (At Str)), vs = [.ref a] ∧ H a = some (sqO t (refs es)) ∧ Lay aV H es ∧ (∀ p ∈ es, OkA p.2) ∧ 1 ≤ es.length ∧ es.length ≤ 4 ∧ ∀ H', Same H H' → Q (.bl true) H'
def sp_are_rows : Sp := fun vs H Q _ => ∃ (t : Bool) (a : Addr) (es : En (Rw Str)), vs = [.ref a] ∧ H a = some (sqO t (refs es)) ∧ Lay rV H es ∧ (∀ p ∈ es, OkR p.2) ∧ (es.map fun p => key p.2).Nodup ∧ es.length ≤ 12 ∧ ∀ H', Same H H' → Q (.bl true) H'
def sp_variables_of : Sp := fun vs H Q _ => ∃ (a : Addr) (es : En (At Str)), vs = [.ref a] ∧ H a = some (.tup (refs es)) ∧ Lay aV H es ∧ es.length ≤ 4 ∧
  ∀ (p : Addr) (ns : List Int) H', Same H H' → H p = none → IsVars (es.map (·.2)) ns → H' p = some (.tup (ns.map V.int)) → Q (.ref p) H'
def sp_law_names : Sp := fun vs H Q _ => ∃ (a : Addr) (es : En (At Str)), vs = [.ref a] ∧ H a = some (.lst (refs es)) ∧ Lay aV H es ∧ es.length ≤ 4 ∧
  ∀ (p : Addr) (ns : List Int) H', Same H H' → H p = none → IsVars (es.map (·.2)) ns → H' p = some (.lst (ns.map V.int)) → Q (.ref p) H'
section
variable {P : Program} {w : World} {K : PySem.W.Frag} {mg : Str → Option Value} {base : Heap}

theorem sc_are_atoms : FnScope ["things", "thing"] ["things"] (defScope s_are_atoms) := ⟨rfl, rfl, rfl, by decide +kernel, rfl, by decide +kernel, by decide +kernel⟩
theorem ok_are_atoms (T : Txt K mg) : Ok P w K mg base 4 "are_atoms" ["things"] (sp_are_atoms) := by
  have S := sc_are_atoms
  have OA : Ok P w K mg base 3 "is_atom" ["thing"] (sp_is_key 9) := ok_is_atom T
  obtain ⟨tn, gn⟩ := T.n_MOST_ATOMS
  refine mkOk T.d_are_atoms S (fun _ _ _ _ _ _ us hl => match us, hl with | [_], _ => rfl) (fun vs H Q E h => ?_) (fun cdv A outer s H vs Q E hr h => ?_)
  · obtain ⟨t, a, es, rfl, _⟩ := h
    rfl
  · obtain ⟨t, a, es, rfl, ha, hl, hok, h1, h4, k⟩ := h
    refine ⟨_, (pss_one (ps_ret (pe_and (pe_chain op_le op_le pe_int (pe_callB call_len_seq (by rfl) T.f_len (by decide +kernel) (pa_cons (pv 0) pa_nil)) (pe_glob (by rfl) gn (show RelV (.int 4) _ from ⟨_, rfl⟩))) (pe_one (pe_callB (cr_all rfl) (by rfl) T.f_all (by decide +kernel) (pa_cons (pe_lc (own := [("thing", 1)]) rfl S.nd (pi_sd (pv 0)) (blkOk_by (N := ["things", "thing"]) (sc := defScope s_are_atoms) (by decide +kernel)) (fun _ _ _ _ _ => (pg_name (i := 1) S.nd rfl (Or.inl rfl))) (fun _ _ _ _ _ => pts_nil) (fun _ _ _ _ _ => (pcl OA hr (pa_cons (pv 1) pa_nil)))) pa_nil)))))), ?_⟩
    refine ⟨_, rfl, _, _, rfl, seq_or ha, _, _, rfl, rfl, _, rfl, ?_⟩
    rw [refs_len, show decide ((1 : Int) ≤ ((es.length : Nat) : Int)) = true from decide_eq_true (by omega)]
    refine iteT ⟨_, _, rfl, rfl, ?_⟩
    refine ⟨true, congrArg V.bl (show decide (((es.length : Nat) : Int) ≤ (4 : Int)) = true from decide_eq_true (by omega)), iteT ?_⟩
    refine ⟨_, rfl, t, a, rfl, ⟨_, sd_of ha⟩, fun D hD => ?_⟩
    refine lc_mapS (tsd_walk (K := K) (t := t) (a := a) (xs := refs es)) (fun i y H => y = V.bl true) hD (fun H1 s1 => sd_of (s1 _ _ ha)) (fun i y H H' acc _ _ e => e) (by rw [refs_len, sizeLine_eq]; omega) (fun i x H1 H' hi s1 hy Q' k' => ?_) fun H1 ys s1 hDl hlen hR => ?_
    · obtain ⟨rfl, hx⟩ := hy
      obtain ⟨p, hp, rfl⟩ := refs_at hx
      have hm := List.mem_of_getElem? hp
      obtain ⟨c1, c2, c3, c4, c5⟩ := hok p hm
      refine ⟨rfl, ?_⟩
      exact ⟨_, rfl, p.1, p.2.1, p.2.2.1, p.2.2.2, rfl, s1 _ _ (hl p hm), c1, c2, c3, c4, c5, k' _ _ (Same.refl _) rfl⟩
    · refine ⟨D, List.replicate ys.length true, rfl, SqL.of (by rw [← all_true hR]; exact hDl), ?_⟩
      rw [all_rep]
      exact k _ s1
theorem sc_are_rows : FnScope ["things", "keys", "thing", "key"] ["things"] (defScope s_are_rows) := ⟨rfl, rfl, rfl, by decide +kernel, rfl, by decide +kernel, by decide +kernel⟩
theorem ok_are_rows (T : Txt K mg) : Ok P w K mg base 5 "are_rows" ["things"] (sp_are_rows) := by
  have S := sc_are_rows
  have OR : Ok P w K mg base 4 "is_row" ["thing"] sp_is_row := ok_is_row T
  obtain ⟨tn, gn⟩ := T.n_MOST_ROWS
  refine mkOk T.d_are_rows S (fun _ _ _ _ _ _ us hl => match us, hl with | [_], _ => rfl) (fun vs H Q E h => ?_) (fun cdv A outer s H vs Q E hr h => ?_)
  · obtain ⟨t, a, es, rfl, _⟩ := h
    rfl
  · obtain ⟨t, a, es, rfl, ha, hl, hok, nd, h12, k⟩ := h
    have hu := hu65 hr
    refine ⟨_, (pss_cons (ps_if (PW.pt (pw_or (pt_cmpR op_gt (pe_callB call_len_seq (by rfl) T.f_len (by decide +kernel) (pa_cons (pv 0) pa_nil)) (pe_glob (by rfl) gn (show RelV (.int 12) _ from ⟨_, rfl⟩)) (nomark _)) (pw_or1 (pt_not (pt_val (pe_callB (cr_all rfl) (by rfl) T.f_all (by decide +kernel) (pa_cons (pe_lc (own := [("thing", 2)]) rfl S.nd (pi_sd (pv 0)) (blkOk_by (N := ["things", "keys", "thing", "key"]) (sc := defScope s_are_rows) (by decide +kernel)) (fun _ _ _ _ _ => (pg_name (i := 2) S.nd rfl (Or.inl rfl))) (fun _ _ _ _ _ => pts_nil) (fun _ _ _ _ _ => (pcl OR hr (pa_cons (pv 2) pa_nil)))) pa_nil))))))) (pss_one (ps_ret pe_bl)) pss_nil) (pss_cons (ps_set (i := 1) S.nd rfl (.inr rfl) (pe_lc (own := [("thing", 2)]) (te := tSl (rSlA K) (tVar 2) tNoPart (tPart (tC (.int 3)))) rfl S.nd (pi_sd (pv 0)) (blkOk_by (N := ["things", "keys", "thing", "key"]) (sc := defScope s_are_rows) (by decide +kernel)) (fun _ _ _ _ _ => (pg_name (i := 2) S.nd rfl (Or.inl rfl))) (fun _ _ _ _ _ => pts_nil) (fun _ _ _ _ _ => (pe_slice sl_tupA (pv 2) po_none (po_some pe_int))))) (pss_one (ps_ret (pe_callB (cr_all rfl) (by rfl) T.f_all (by decide +kernel) (pa_cons (pe_lc (own := [("key", 3)]) (te := tOp rEq (tBM K "list" (rCountD K) (tVar 1) (tCons (tVar 3) tNil)) (tC (.int 1))) rfl S.nd (pi_sd (pv 1)) (blkOk_by (N := ["things", "keys", "thing", "key"]) (sc := defScope s_are_rows) (by decide +kernel)) (fun _ _ _ _ _ => (pg_name (i := 3) S.nd rfl (Or.inl rfl))) (fun _ _ _ _ _ => pts_nil) (fun _ _ _ _ _ => (pe_cmpR op_eq (pe_bm PySem.F.plainAttrs_list PySem.F.slot_list_count PySem.F.type_list_count (mt_countD hu) (pv 1) (pa_cons (pv 3) pa_nil)) pe_int (nomark _)))) pa_nil)))))), ?_⟩
    refine ⟨_, rfl, _, _, rfl, seq_or ha, _, _, rfl, rfl, _, congrArg V.bl (show decide ((12 : Int) < (((refs es).length : Nat) : Int)) = false from decide_eq_false (by rw [refs_len]; omega)), iteF ?_⟩
    refine ⟨_, rfl, t, a, rfl, ⟨_, sd_of ha⟩, fun D hD => ?_⟩
    refine lc_mapS (tsd_walk (K := K) (t := t) (a := a) (xs := refs es)) (fun i y H => y = V.bl true) hD (fun H1 s1 => sd_of (s1 _ _ ha)) (fun i y H H' acc _ _ e => e) (by rw [refs_len, sizeLine_eq]; omega) (fun i x H1 H' hi s1 hy Q' k' => ?_) fun H1 ys s1 hDl hlen hR => ?_
    · obtain ⟨rfl, hx⟩ := hy
      obtain ⟨p, hp, rfl⟩ := refs_at hx
      have hm := List.mem_of_getElem? hp
      obtain ⟨c1, c2, c3, c4, c5, c6, c7⟩ := hok p hm
      refine ⟨rfl, ?_⟩
      exact ⟨_, rfl, p.1, p.2.1, p.2.2.1, p.2.2.2.1, p.2.2.2.2, rfl, s1 _ _ (hl p hm), c1, c2, c3, c4, c5, c6, c7, fun H4 s4 => k' _ _ s4 rfl⟩
    refine ⟨D, List.replicate ys.length true, rfl, SqL.of (by rw [← all_true hR]; exact hDl), true, congrArg V.bl (all_rep _), iteF ?_⟩
    refine ⟨_, rfl, t, a, rfl, ⟨_, sd_of (s1 _ _ ha)⟩, fun D2 hD2 => ?_⟩
    refine lc_mapS (tsd_walk (K := K) (t := t) (a := a) (xs := refs es)) (fun i y H => ∃ b, (es.map fun p => key p.2)[i]? = some b ∧ ∃ t, y = .ref t ∧ H t = some (.tup (aV b))) hD2 (fun H2 s2 => sd_of (s2 _ _ (s1 _ _ ha))) (fun i y H H' acc hDl o ⟨b, e, t, ey, ht⟩ => ⟨b, e, t, ey, o.tup hDl ht⟩) (by rw [refs_len, sizeLine_eq]; omega) (fun i x H2 H' hi s2 hy Q' k' => ?_) fun H2 ks s2 hDl2 hlen2 hR2 => ?_
    · obtain ⟨rfl, hx⟩ := hy
      obtain ⟨p, hp, rfl⟩ := refs_at hx
      have hm := List.mem_of_getElem? hp
      have ht := s2 _ _ (s1 _ _ (hl p hm))
      refine ⟨rfl, _, rfl, _, rfl, _, _, rfl, SqT.of ht, (fun q => absurd q (show ¬ (HT.sIx 4 0 none = 0 ∧ HT.sIx 4 4 (some 3) = 4) by decide +kernel)), fun _ q hq => ?_⟩
      exact k' _ _ (same_upd hq) ⟨key p.2, by rw [List.getElem?_map, hp]; rfl, q, rfl, upd_same⟩
    obtain ⟨es2, rfl, hl2, em⟩ := en_of (f := aV) (H := H2) (ys := ks) (bs := es.map fun p => key p.2) (by rw [hlen2, refs_len, List.length_map]) hR2
    have hkind : ∀ b ∈ es2.map (·.2), isKind b.1 := fun b hb => by
      rw [em] at hb
      obtain ⟨p, hp, rfl⟩ := List.mem_map.mp hb
      exact (hok p hp).1
    refine ⟨_, rfl, false, D2, rfl, ⟨_, sd_of (t := false) hDl2⟩, fun D3 hD3 => ?_⟩
    refine lc_mapS (tsd_walk (K := K) (t := false) (a := D2) (xs := refs es2)) (fun i y H => y = V.bl true) hD3 (fun H3 s3 => sd_of (t := false) (s3 _ _ hDl2)) (fun i y H H' acc _ _ e => e) (by rw [hlen2, refs_len, sizeLine_eq]; omega) (fun i x H3 H' hi s3 hy Q' k' => ?_) fun H3 zs s3 hDl3 hlen3 hR3 => ?_
    · obtain ⟨rfl, hx⟩ := hy
      obtain ⟨p, hp, rfl⟩ := refs_at hx
      have hm := List.mem_of_getElem? hp
      have hd2 := s3 _ _ hDl2
      have hm2 : p.2 ∈ es2.map (·.2) := List.mem_map.mpr ⟨p, hm, rfl⟩
      refine ⟨rfl, _, rfl, .inl ⟨rfl, _, SqL.of hd2⟩, _, rfl, D2, _, keyD p.2, (es2.map (·.2)).map keyD, rfl, rfl, .lst (SqL.of hd2) (dp_keys (hl2.same s3)), dp_key ((hl2.same s3) p hm), sh_keys_l hkind, sh_key (hkind _ hm2), rfl, ?_⟩
      rw [count_nodup (by rw [em]; exact nd) hm2]
      exact k' _ _ (Same.refl _) rfl
    · refine ⟨D3, List.replicate zs.length true, rfl, SqL.of (by rw [← all_true hR3]; exact hDl3), ?_⟩
      rw [all_rep]
      exact k _ (s1.trans (s2.trans s3))
theorem sc_variables_of : FnScope ["atoms", "atom"] ["atoms"] (defScope s_variables_of) := ⟨rfl, rfl, rfl, by decide +kernel, rfl, by decide +kernel, by decide +kernel⟩
theorem ok_variables_of (T : Txt K mg) : Ok P w K mg base 1 "variables_of" ["atoms"] sp_variables_of := by
  have S := sc_variables_of
  refine mkOk T.d_variables_of S (fun _ _ _ _ _ _ us hl => match us, hl with | [_], _ => rfl) (fun vs H Q E h => ?_) (fun cdv A outer s H vs Q E hr h => ?_)
  · obtain ⟨a, es, rfl, _⟩ := h
    rfl
  · obtain ⟨a, es, rfl, ha, hl, h4, k⟩ := h
    have ha2 : H a = some (sqO true (refs es)) := ha
    refine ⟨_, (pss_one (ps_ret (pe_callTy call_tuple_of (by rfl) T.f_tuple (by decide +kernel) (pa_cons (pe_callB (cr_sortedSet rfl) (by rfl) T.f_sorted (by decide +kernel) (pa_cons (pe_callTy (cr_setI rfl) (by rfl) T.f_set (by decide +kernel) (pa_cons (pe_op op_cat (pe_lc (own := [("atom", 1)]) (te := tOp (rIxT K) (tVar 1) (tC (.int 1))) rfl S.nd (pi_sd (pv 0)) (blkOk_by (N := ["atoms", "atom"]) (sc := defScope s_variables_of) (by decide +kernel)) (fun _ _ _ _ _ => (pg_name (i := 1) S.nd rfl (Or.inl rfl))) (fun _ _ _ _ _ => pts_nil) (fun _ _ _ _ _ => (pe_ix ix_tup (pv 1) pe_int (fun _ _ => rfl)))) (pe_lc (own := [("atom", 1)]) (te := tOp (rIxT K) (tVar 1) (tC (.int 2))) rfl S.nd (pi_sd (pv 0)) (blkOk_by (N := ["atoms", "atom"]) (sc := defScope s_variables_of) (by decide +kernel)) (fun _ _ _ _ _ => (pg_name (i := 1) S.nd rfl (Or.inl rfl))) (fun _ _ _ _ _ => pts_nil) (fun _ _ _ _ _ => (pe_ix ix_tup (pv 1) pe_int (fun _ _ => rfl))))) pa_nil)) pa_nil)) pa_nil)))), ?_⟩
    refine ⟨_, rfl, true, a, rfl, ⟨_, sd_of ha2⟩, fun D hD => ?_⟩
    refine lc_mapS (tsd_walk (K := K) (t := true) (a := a) (xs := refs es)) (fun i y H => (es.map fun p => V.int p.2.2.1)[i]? = some y) hD (fun H1 s1 => sd_of (s1 _ _ ha2)) (fun i y H H' acc _ _ e => e) (by rw [refs_len, sizeLine_eq]; omega) (fun i x H1 H' hi s1 hy Q' k' => ?_) fun H1 ys s1 hDl hlen hR => ?_
    · obtain ⟨rfl, hx⟩ := hy
      obtain ⟨p, hp, rfl⟩ := refs_at hx
      exact ⟨rfl, _, rfl, _, _, _, _, rfl, rfl, SqT.of (s1 _ _ (hl p (List.mem_of_getElem? hp))), rfl, k' _ _ (Same.refl _) (by rw [List.getElem?_map, hp]; rfl)⟩
    have eys : ys = es.map fun p => V.int p.2.2.1 := ext_at (by rw [hlen, refs_len, List.length_map]) hR
    refine ⟨_, rfl, true, a, rfl, ⟨_, sd_of (s1 _ _ ha2)⟩, fun D2 hD2 => ?_⟩
    refine lc_mapS (tsd_walk (K := K) (t := true) (a := a) (xs := refs es)) (fun i y H => (es.map fun p => V.int p.2.2.2)[i]? = some y) hD2 (fun H2 s2 => sd_of (s2 _ _ (s1 _ _ ha2))) (fun i y H H' acc _ _ e => e) (by rw [refs_len, sizeLine_eq]; omega) (fun i x H2 H' hi s2 hy Q' k' => ?_) fun H2 zs s2 hDl2 hlen2 hR2 => ?_
    · obtain ⟨rfl, hx⟩ := hy
      obtain ⟨p, hp, rfl⟩ := refs_at hx
      exact ⟨rfl, _, rfl, _, _, _, _, rfl, rfl, SqT.of (s2 _ _ (s1 _ _ (hl p (List.mem_of_getElem? hp)))), rfl, k' _ _ (Same.refl _) (by rw [List.getElem?_map, hp]; rfl)⟩
    have ezs : zs = es.map fun p => V.int p.2.2.2 := ext_at (by rw [hlen2, refs_len, List.length_map]) hR2
    refine ⟨D, D2, ys, zs, rfl, rfl, s2 _ _ hDl, hDl2, by rw [hlen, hlen2, refs_len, sizeLine_eq]; omega, fun p hp => ?_⟩
    have eall : ys ++ zs = (es.map (fun p => p.2.2.1) ++ es.map (fun p => p.2.2.2)).map V.int := by
      rw [eys, ezs, List.map_append, List.map_map, List.map_map] <;> rfl
    have hlen3 : (es.map (fun p => p.2.2.1) ++ es.map (fun p => p.2.2.2)).length ≤ 8 := by
      rw [List.length_append, List.length_map, List.length_map]; omega
    refine ⟨false, p, es.map (fun p => p.2.2.1) ++ es.map (fun p => p.2.2.2), rfl, .inr ⟨rfl, SqL.of (by rw [← eall]; exact upd_same)⟩, by unfold scanBound; omega, fun b ds hb nd mem => ?_⟩
    have dlen : ds.length ≤ 8 := Nat.le_trans (nodup_le nd fun x hx => (mem x).1 hx) hlen3
    refine ⟨_, _, _, rfl, upd_same, by omega, fun ns q asc hmem _ hq => ?_⟩
    have s3 : Same H (upd (upd (upd H2 p (.lst (ys ++ zs))) b (SetO w b (fun j => decide (j ∈ es.map (fun p => p.2.2.1) ++ es.map (fun p => p.2.2.2))) ds.length)) q (.lst (ns.map V.int))) :=
      (s1.trans s2).trans ((same_upd hp).trans ((same_upd hb).trans (same_upd hq)))
    have iv : IsVars (es.map (·.2)) ns := ⟨asc, fun x => by
      rw [hmem, decide_eq_true_eq, List.mem_append]
      constructor
      · rintro (h | h)
        · obtain ⟨p, hp, e⟩ := List.mem_map.mp h
          exact ⟨p.2, List.mem_map.mpr ⟨p, hp, rfl⟩, .inl e.symm⟩
        · obtain ⟨p, hp, e⟩ := List.mem_map.mp h
          exact ⟨p.2, List.mem_map.mpr ⟨p, hp, rfl⟩, .inr e.symm⟩
      · rintro ⟨a, ha, e⟩
        obtain ⟨p, hp, rfl⟩ := List.mem_map.mp ha
        rcases e with e | e
        · exact .inl (List.mem_map.mpr ⟨p, hp, e.symm⟩)
        · exact .inr (List.mem_map.mpr ⟨p, hp, e.symm⟩)⟩
    refine ⟨q, _, rfl, .inl ⟨SqL.of upd_same, fun u hu => ?_⟩⟩
    exact k u ns _ (s3.trans (same_upd hu)) (s3.free hu) iv upd_same
theorem sc__law_names : FnScope ["_law_atoms", "_law_atom"] ["_law_atoms"] (defScope s__law_names) := ⟨rfl, rfl, rfl, by decide +kernel, rfl, by decide +kernel, by decide +kernel⟩
theorem ok__law_names (T : Txt K mg) : Ok P w K mg base 1 "_law_names" ["_law_atoms"] sp_law_names := by
  have S := sc__law_names
  refine mkOk T.d__law_names S (fun _ _ _ _ _ _ us hl => match us, hl with | [_], _ => rfl) (fun vs H Q E h => ?_) (fun cdv A outer s H vs Q E hr h => ?_)
  · obtain ⟨a, es, rfl, _⟩ := h
    rfl
  · obtain ⟨a, es, rfl, ha, hl, h4, k⟩ := h
    have ha2 : H a = some (sqO false (refs es)) := ha
    refine ⟨_, (pss_one (ps_ret (pe_callB (cr_sortedSet rfl) (by rfl) T.f_sorted (by decide +kernel) (pa_cons (pe_callTy (cr_setI rfl) (by rfl) T.f_set (by decide +kernel) (pa_cons (pe_op op_cat (pe_lc (own := [("_law_atom", 1)]) (te := tOp (rIxT K) (tVar 1) (tC (.int 1))) rfl S.nd (pi_sd (pv 0)) (blkOk_by (N := ["_law_atoms", "_law_atom"]) (sc := defScope s__law_names) (by decide +kernel)) (fun _ _ _ _ _ => (pg_name (i := 1) S.nd rfl (Or.inl rfl))) (fun _ _ _ _ _ => pts_nil) (fun _ _ _ _ _ => (pe_ix ix_tup (pv 1) pe_int (fun _ _ => rfl)))) (pe_lc (own := [("_law_atom", 1)]) (te := tOp (rIxT K) (tVar 1) (tC (.int 2))) rfl S.nd (pi_sd (pv 0)) (blkOk_by (N := ["_law_atoms", "_law_atom"]) (sc := defScope s__law_names) (by decide +kernel)) (fun _ _ _ _ _ => (pg_name (i := 1) S.nd rfl (Or.inl rfl))) (fun _ _ _ _ _ => pts_nil) (fun _ _ _ _ _ => (pe_ix ix_tup (pv 1) pe_int (fun _ _ => rfl))))) pa_nil)) pa_nil)))), ?_⟩
    refine ⟨_, rfl, false, a, rfl, ⟨_, sd_of ha2⟩, fun D hD => ?_⟩
    refine lc_mapS (tsd_walk (K := K) (t := false) (a := a) (xs := refs es)) (fun i y H => (es.map fun p => V.int p.2.2.1)[i]? = some y) hD (fun H1 s1 => sd_of (s1 _ _ ha2)) (fun i y H H' acc _ _ e => e) (by rw [refs_len, sizeLine_eq]; omega) (fun i x H1 H' hi s1 hy Q' k' => ?_) fun H1 ys s1 hDl hlen hR => ?_
    · obtain ⟨rfl, hx⟩ := hy
      obtain ⟨p, hp, rfl⟩ := refs_at hx
      exact ⟨rfl, _, rfl, _, _, _, _, rfl, rfl, SqT.of (s1 _ _ (hl p (List.mem_of_getElem? hp))), rfl, k' _ _ (Same.refl _) (by rw [List.getElem?_map, hp]; rfl)⟩
    have eys : ys = es.map fun p => V.int p.2.2.1 := ext_at (by rw [hlen, refs_len, List.length_map]) hR
    refine ⟨_, rfl, false, a, rfl, ⟨_, sd_of (s1 _ _ ha2)⟩, fun D2 hD2 => ?_⟩
    refine lc_mapS (tsd_walk (K := K) (t := false) (a := a) (xs := refs es)) (fun i y H => (es.map fun p => V.int p.2.2.2)[i]? = some y) hD2 (fun H2 s2 => sd_of (s2 _ _ (s1 _ _ ha2))) (fun i y H H' acc _ _ e => e) (by rw [refs_len, sizeLine_eq]; omega) (fun i x H2 H' hi s2 hy Q' k' => ?_) fun H2 zs s2 hDl2 hlen2 hR2 => ?_
    · obtain ⟨rfl, hx⟩ := hy
      obtain ⟨p, hp, rfl⟩ := refs_at hx
      exact ⟨rfl, _, rfl, _, _, _, _, rfl, rfl, SqT.of (s2 _ _ (s1 _ _ (hl p (List.mem_of_getElem? hp)))), rfl, k' _ _ (Same.refl _) (by rw [List.getElem?_map, hp]; rfl)⟩
    have ezs : zs = es.map fun p => V.int p.2.2.2 := ext_at (by rw [hlen2, refs_len, List.length_map]) hR2
    refine ⟨D, D2, ys, zs, rfl, rfl, s2 _ _ hDl, hDl2, by rw [hlen, hlen2, refs_len, sizeLine_eq]; omega, fun p hp => ?_⟩
    have eall : ys ++ zs = (es.map (fun p => p.2.2.1) ++ es.map (fun p => p.2.2.2)).map V.int := by
      rw [eys, ezs, List.map_append, List.map_map, List.map_map] <;> rfl
    have hlen3 : (es.map (fun p => p.2.2.1) ++ es.map (fun p => p.2.2.2)).length ≤ 8 := by
      rw [List.length_append, List.length_map, List.length_map]; omega
    refine ⟨false, p, es.map (fun p => p.2.2.1) ++ es.map (fun p => p.2.2.2), rfl, .inr ⟨rfl, SqL.of (by rw [← eall]; exact upd_same)⟩, by unfold scanBound; omega, fun b ds hb nd mem => ?_⟩
    have dlen : ds.length ≤ 8 := Nat.le_trans (nodup_le nd fun x hx => (mem x).1 hx) hlen3
    refine ⟨_, _, _, rfl, upd_same, by omega, fun ns q asc hmem _ hq => ?_⟩
    have s3 : Same H (upd (upd (upd H2 p (.lst (ys ++ zs))) b (SetO w b (fun j => decide (j ∈ es.map (fun p => p.2.2.1) ++ es.map (fun p => p.2.2.2))) ds.length)) q (.lst (ns.map V.int))) :=
      (s1.trans s2).trans ((same_upd hp).trans ((same_upd hb).trans (same_upd hq)))
    have iv : IsVars (es.map (·.2)) ns := ⟨asc, fun x => by
      rw [hmem, decide_eq_true_eq, List.mem_append]
      constructor
      · rintro (h | h)
        · obtain ⟨p, hp, e⟩ := List.mem_map.mp h
          exact ⟨p.2, List.mem_map.mpr ⟨p, hp, rfl⟩, .inl e.symm⟩
        · obtain ⟨p, hp, e⟩ := List.mem_map.mp h
          exact ⟨p.2, List.mem_map.mpr ⟨p, hp, rfl⟩, .inr e.symm⟩
      · rintro ⟨a, ha, e⟩
        obtain ⟨p, hp, rfl⟩ := List.mem_map.mp ha
        rcases e with e | e
        · exact .inl (List.mem_map.mpr ⟨p, hp, e.symm⟩)
        · exact .inr (List.mem_map.mpr ⟨p, hp, e.symm⟩)⟩
    have fr : H q = none := ((s1.trans s2).trans ((same_upd hp).trans (same_upd hb))).free hq
    exact k q ns _ s3 fr iv upd_same
end
end CA
set_option Elab.async false
set_option linter.all false
set_option maxRecDepth 100000
namespace CA
open PySem PySem.Spec PyProof.Rows L2
/-! ### dicts of ints -/
def mpV (m : Mp) : List (Key × V) := m.map fun p => ((Sum.inl p.1 : Key), V.int p.2)
def pV (p : Int × Int) : List V := [.int p.1, .int p.2]
theorem val_mp : ∀ (m : Mp) (x : Int), valV (mpV m) (Sum.inl x : Key) = (look m x).map V.int
  | [], x => rfl
  | (k, v) :: m, x => by
    show valV (((Sum.inl k : Key), V.int v) :: mpV m) (Sum.inl x) = (if k = x then some v else look m x).map V.int
    by_cases e : k = x
    · rw [if_pos e, valV_pos (by rw [e])]; rfl
    · rw [if_neg e, valV_neg (fun q => e (by injection q)), val_mp m x]
theorem put_mp (m : Mp) (x y : Int) : putK (mpV m) (Sum.inl x : Key) (V.int y) = mpV (putI m x y) := by
  have ea : ((mpV m).any fun kv => decide (kv.1 = (Sum.inl x : Key))) = (look m x).isSome := by
    rw [valV_any, val_mp]
    cases look m x <;> rfl
  unfold putK putI
  rw [ea]
  by_cases h : (look m x).isSome = true
  · rw [if_pos h, if_pos h]
    unfold mpV
    rw [List.map_map, List.map_map]
    refine List.map_congr_left fun p _ => ?_
    show (if (Sum.inl p.1 : Key) = Sum.inl x then ((Sum.inl p.1 : Key), V.int y) else ((Sum.inl p.1 : Key), V.int p.2)) = ((Sum.inl (if p.1 = x then (p.1, y) else p).1 : Key), V.int (if p.1 = x then (p.1, y) else p).2)
    by_cases e : p.1 = x
    · rw [if_pos (by rw [e]), if_pos e]
    · rw [if_neg (fun q => e (by injection q)), if_neg e]
  · rw [if_neg h, if_neg h]
    unfold mpV
    rw [List.map_append] <;> rfl
def extL : Mp → List (Int × Int) → Option Mp
  | m, [] => some m
  | m, p :: ps => (ext1 m p.1 p.2).bind fun m' => extL m' ps
theorem extL_two (m : Mp) (a b c d : Int) : extL m [(a, b), (c, d)] = ext m a b c d := by
  unfold extL ext
  cases ext1 m a b with
  | none => rfl
  | some m' =>
    show (extL m' [(c, d)]) = ext1 m' c d
    unfold extL
    cases ext1 m' c d <;> rfl
theorem extL_snoc : ∀ (ps : List (Int × Int)) (m : Mp) (p : Int × Int), extL m (ps ++ [p]) = (extL m ps).bind fun m' => ext1 m' p.1 p.2
  | [], m, p => by
    show extL m [p] = _
    cases h : ext1 m p.1 p.2 <;> simp [extL, h]
  | q :: ps, m, p => by
    show (ext1 m q.1 q.2).bind (fun m' => extL m' (ps ++ [p])) = ((ext1 m q.1 q.2).bind fun m' => extL m' ps).bind _
    cases ext1 m q.1 q.2 with
    | none => rfl
    | some m' => exact extL_snoc ps m' p
theorem extL_none : ∀ (ps : List (Int × Int)) (qs : List (Int × Int)) (m : Mp), extL m ps = none → extL m (ps ++ qs) = none
  | [], qs, m, h => by cases h
  | p :: ps, qs, m, h => by
    have h' : (ext1 m p.1 p.2).bind (fun m' => extL m' ps) = none := h
    show (ext1 m p.1 p.2).bind (fun m' => extL m' (ps ++ qs)) = none
    cases e : ext1 m p.1 p.2 with
    | none => rfl
    | some m' =>
      rw [e] at h'
      exact extL_none ps qs m' h'
theorem put_len (m : Mp) (x y : Int) : (putI m x y).length ≤ m.length + 1 := by
  unfold putI
  split
  · rw [List.length_map]; omega
  · rw [List.length_append]; exact Nat.le_refl _
theorem ext1_len {m m' : Mp} {x y : Int} (h : ext1 m x y = some m') : m'.length ≤ m.length + 1 := by
  unfold ext1 at h
  split at h
  · cases h; exact put_len m x y
  · cases h
theorem extL_len : ∀ (ps : List (Int × Int)) {m m' : Mp}, extL m ps = some m' → m'.length ≤ m.length + ps.length
  | [], m, m', h => by cases h; exact Nat.le_refl _
  | p :: ps, m, m', h => by
    have h' : (ext1 m p.1 p.2).bind (fun m' => extL m' ps) = some m' := h
    cases e : ext1 m p.1 p.2 with
    | none => rw [e] at h'; cases h'
    | some m1 =>
      rw [e] at h'
      have a := ext1_len e
      have b := extL_len ps (show extL m1 ps = some m' from h')
      rw [List.length_cons]
      omega
theorem take_next1 {α : Type} {l : List α} {i : Nat} {x : α} (h : l[i]? = some x) : l.take (i + 1) = l.take i ++ [x] := by
  rw [List.take_succ, h] <;> rfl
def sp_extended : Sp := fun vs H Q _ => ∃ (d l : Addr) (m : Mp) (ps : En (Int × Int)), vs = [.ref d, .ref l] ∧ H d = some (.dK (mpV m)) ∧ H l = some (.lst (refs ps)) ∧ Lay pV H ps ∧ ps.length ≤ 2 ∧ m.length ≤ 100 ∧
  (extL m (ps.map (·.2)) = none → ∀ H', Same H H' → Q .non H') ∧ ∀ m' p H', extL m (ps.map (·.2)) = some m' → Same H H' → H p = none → H' p = some (.dK (mpV m')) → Q (.ref p) H'
section
variable {P : Program} {w : World} {K : PySem.W.Frag} {mg : Str → Option Value} {base : Heap}

theorem sc_extended : FnScope ["found", "pairs", "known", "variable", "value"] ["found", "pairs"] (defScope s_extended) := ⟨rfl, rfl, rfl, by decide +kernel, rfl, by decide +kernel, by decide +kernel⟩
theorem ok_extended (T : Txt K mg) : Ok P w K mg base 1 "extended" ["found", "pairs"] sp_extended := by
  have S := sc_extended
  refine mkOk T.d_extended S (fun _ _ _ _ _ _ us hl => match us, hl with | [_, _], _ => rfl) (fun vs H Q E h => ?_) (fun cdv A outer s H vs Q E hr h => ?_)
  · obtain ⟨d, l, m, ps, rfl, _⟩ := h
    rfl
  · obtain ⟨d, l, m, ps, rfl, hd, hl, hL, hp2, hm, kN, kS⟩ := h
    have hu1 := hu_of hr
    have hl2 : H l = some (sqO false (refs ps)) := hl
    refine ⟨_, (pss_cons (ps_set (i := 2) S.nd rfl (.inl rfl) (pe_callTy call_dictD (by rfl) T.f_dict (by decide +kernel) (pa_cons (pv 0) pa_nil))) (pss_cons (ps_for PassesOwn.never rfl (pi_sd (pv 1)) (pg_tup rfl (pgs_cons (pg_name (i := 3) S.nd rfl (Or.inl rfl)) (pgs_cons (pg_name (i := 4) S.nd rfl (Or.inl rfl)) pgs_nil))) (pss_cons (ps_if (pt_cmpR op_ne (pe_dget2 hu1 (pv 2) (pv 3) (pv 4) ⟨rfl, rfl, rfl, rfl⟩) (pv 4) (nomark _)) (pss_one (ps_ret pe_non)) pss_nil) (pss_one (ps_dput hu1 (pv 2) (pv 3) (pv 4) rfl)))) (pss_one (ps_ret (pv 2))))), ?_⟩
    refine ⟨_, rfl, d, _, rfl, .inl hd, fun D hD => ?_⟩
    have s0 : ∀ (o : HO) (H' : Hp), Same H H' → Same H (upd H' D o) := fun o H' s b u e => by rw [upd_ne (ne_of_none e hD)]; exact s b u e
    refine ⟨_, rfl, false, l, rfl, ⟨_, sd_of (same_upd hD _ _ hl2)⟩, ?_⟩
    refine for_it (tsd_walk (K := K) (t := false) (a := l) (xs := refs ps)) (fun i σ H' => Same H H' ∧ ∃ m' v3 v4, extL m ((ps.map (·.2)).take i) = some m' ∧ σ = [some (.ref d), some (.ref l), some (.ref D), v3, v4] ∧ H' D = some (.dK (mpV m')))
      ⟨same_upd hD, m, none, none, by rw [List.take_zero]; rfl, rfl, upd_same⟩ (fun i σ H' _ h => sd_of (t := false) (h.1 _ _ hl2)) (fun i x σ H1 H2 hi h hy => ?_) fun σ H1 h => ?_
    · obtain ⟨s1, m1, v3, v4, em, rfl, hDl⟩ := h
      obtain ⟨rfl, hx⟩ := hy
      obtain ⟨p, hp, rfl⟩ := refs_at hx
      have hi2 : (ps.map (·.2))[i]? = some p.2 := by rw [List.getElem?_map, hp]; rfl
      have hml := extL_len _ em
      have htl : ((ps.map (·.2)).take i).length ≤ 2 := by
        rw [List.length_take, List.length_map]; omega
      refine ⟨_, _, rfl, SqT.of (s1 _ _ (hL p (List.mem_of_getElem? hp))), rfl, _, _, rfl, _, _, rfl, rfl, ?_⟩
      refine ⟨_, rfl, _, rfl, .inl ⟨_, .inl hDl⟩, _, rfl, _, rfl, _, DGet.k (k := Sum.inl p.2.1) hDl, ?_⟩
      have ev : (valV (mpV m1) (Sum.inl p.2.1 : Key)).getD (V.int p.2.2) = V.int ((look m1 p.2.1).getD p.2.2) := by
        rw [val_mp]; cases look m1 p.2.1 <;> rfl
      rw [ev]
      refine ⟨_, rfl, rfl, !decide ((look m1 p.2.1).getD p.2.2 = p.2.2), congrArg V.bl (by simp), ?_⟩
      by_cases e : (look m1 p.2.1).getD p.2.2 = p.2.2
      · rw [decide_eq_true e]
        refine iteF ?_
        have e1 : ext1 m1 p.2.1 p.2.2 = some (putI m1 p.2.1 p.2.2) := by unfold ext1; rw [if_pos e]
        refine ⟨_, rfl, _, rfl, _, rfl, _, _, rfl, DPut.k (k := Sum.inl p.2.1) hDl (by unfold mpV; rw [List.length_map, sizeLine_eq]; omega), ?_⟩
        refine ⟨s0 _ _ s1, putI m1 p.2.1 p.2.2, some (.int p.2.1), some (.int p.2.2), ?_, rfl, ?_⟩
        · rw [take_next1 hi2, extL_snoc, em]; exact e1
        · rw [upd_same, put_mp]
      · rw [decide_eq_false e]
        refine iteT ?_
        refine kN ?_ _ s1
        have e1 : extL m ((ps.map (·.2)).take (i + 1)) = none := by
          rw [take_next1 hi2, extL_snoc, em]
          show ext1 m1 p.2.1 p.2.2 = none
          unfold ext1
          rw [if_neg e]
        have e2 := extL_none _ ((ps.map (·.2)).drop (i + 1)) m e1
        rwa [List.take_append_drop] at e2
    · obtain ⟨s1, m1, v3, v4, em, rfl, hDl⟩ := h
      rw [List.take_of_length_le (by rw [List.length_map, refs_len]; exact Nat.le_refl _)] at em
      exact ⟨_, rfl, kS m1 D _ em s1 hD hDl⟩
end
end CA
set_option Elab.async false
set_option linter.all false
set_option maxRecDepth 100000
set_option maxHeartbeats 1000000
namespace CA
open PySem PySem.Spec PyProof.Rows L2
/-! ### comprehensions by places -/
def retE (st : Stmt) (i : Nat) : Expr := match (defBody st).getD i (.Pass ⟨0, 0, 0, 0⟩) with
  | .Return (some e) _ => e
  | .Assign _ e _ => e
  | .Expr e _ => e
  | _ => .Constant .none 0 ⟨0, 0, 0, 0⟩
def arg0 (e : Expr) : Expr := match e with
  | .Call _ (a :: _) _ _ => a
  | _ => .Constant .none 0 ⟨0, 0, 0, 0⟩
def lcScope (e : Expr) : Scope := match e with
  | .ListComp _ _ sc _ => sc
  | _ => { kind := .function, names := [], isGenerator := false, isCoroutine := false }
/-! ### the search's states as they are laid -/
abbrev FE := En (Addr × Mp × Int)
def wV (q : Addr × Mp × Int) : List V := [.ref q.1, .int q.2.2]
structure FdAt (H : Hp) (fs : FE) : Prop where
  lay : Lay wV H fs
  dic : ∀ p ∈ fs, H p.2.1 = some (.dK (mpV p.2.2.1))
def st5 (fs : FE) : List (Mp × Int) := fs.map fun p => (p.2.2.1, p.2.2.2)
theorem FdAt.same {H H' : Hp} {fs : FE} (h : FdAt H fs) (s : Same H H') : FdAt H' fs := ⟨h.lay.same s, fun p hp => s _ _ (h.dic p hp)⟩
theorem FdAt.off {D : Addr} {H H' : Hp} {fs : FE} {acc : List V} (h : FdAt H fs) (hD : H D = some (.lst acc)) (s : Off D H H') : FdAt H' fs :=
  ⟨fun p hp => s.tup hD (h.lay p hp), fun p hp => s _ _ (ne_of (h.dic p hp) hD (by intro z; cases z)) (h.dic p hp)⟩
theorem FdAt.snoc {H : Hp} {fs : FE} {p : Addr × Addr × Mp × Int} (h : FdAt H fs) (h1 : H p.1 = some (.tup (wV p.2))) (h2 : H p.2.1 = some (.dK (mpV p.2.2.1))) : FdAt H (fs ++ [p]) :=
  ⟨fun q hq => (List.mem_append.mp hq).elim (h.lay q) fun z => by rw [List.mem_singleton.mp z]; exact h1, fun q hq => (List.mem_append.mp hq).elim (h.dic q) fun z => by rw [List.mem_singleton.mp z]; exact h2⟩
theorem refs_snoc {α : Type} (es : En α) (p : Addr × α) : refs (es ++ [p]) = refs es ++ [.ref p.1] := by
  unfold refs
  rw [List.map_append] <;> rfl
theorem pow12 {i : Nat} (h : i ≤ 3) : 12 ^ i ≤ 1728 := Nat.le_trans (Nat.pow_le_pow_right (by decide) h) (by decide)
/-- the items that the sort is given -/
theorem ways_items {H : Hp} : ∀ {fs : FE} {ys : List V}, ys.length = fs.length → (∀ (i : Nat) (y : V), ys[i]? = some y → ∃ f, fs[i]? = some f ∧ ∃ (t1 t2 : Addr) (xs : List Int), y = .ref t1 ∧ H t1 = some (.tup [.ref t2, .int f.2.2.2]) ∧ H t2 = some (.tup (xs.map V.int)) ∧ xs ≠ []) →
    ∃ bs : List (Addr × Addr × List Int × Int), ys = bs.map (fun b => V.ref b.1) ∧ (∀ b ∈ bs, H b.1 = some (.tup [.ref b.2.1, .int b.2.2.2]) ∧ H b.2.1 = some (.tup (b.2.2.1.map V.int)) ∧ b.2.2.1 ≠ []) ∧ bs.map (fun b => b.2.2.2) = fs.map fun f => f.2.2.2
  | [], [], _, _ => ⟨[], rfl, (fun b hb => absurd hb List.not_mem_nil), rfl⟩
  | f :: fs, y :: ys, hl, h => by
    obtain ⟨f0, e0, t1, t2, xs, ey, g1, g2, g3⟩ := h 0 y rfl
    have ef : f = f0 := by simpa using e0
    subst ef
    obtain ⟨bs, b1, b2, b3⟩ := ways_items (fs := fs) (ys := ys) (H := H) (by simpa using hl) fun i z hz => h (i + 1) z hz
    refine ⟨(t1, t2, xs, f.2.2.2) :: bs, by rw [ey, b1]; rfl, fun b hb => ?_, by rw [List.map_cons, List.map_cons, b3]⟩
    rcases List.mem_cons.mp hb with e | hb
    · rw [e]; exact ⟨g1, g2, g3⟩
    · exact b2 b hb
def yV (b : V × Int) : List V := [b.1, .int b.2]
def sp_raw_ways : Sp := fun vs H Q _ => ∃ (a r : Addr) (t : Bool) (es : En (At Str)) (rs : En (Rw Str)), vs = [.ref a, .ref r] ∧ H a = some (.tup (refs es)) ∧ Lay aV H es ∧ 1 ≤ es.length ∧ es.length ≤ 4 ∧
  H r = some (sqO t (refs rs)) ∧ Lay rV H rs ∧ rs.length ≤ 12 ∧ (∀ p ∈ rs, 0 ≤ oft p.2 ∧ oft p.2 ≤ 10000) ∧
  ∀ (p : Addr) (bs : En (V × Int)) H', Same H H' → H p = none → H' p = some (.lst (refs bs)) → Lay yV H' bs → bs.length ≤ sizeLine → (bs.map fun b => b.2.2).sum = cnt (es.map (·.2)) (rs.map (·.2)) → Q (.ref p) H'
def sp_raw_count : Sp := fun vs H Q _ => ∃ (a r : Addr) (t : Bool) (es : En (At Str)) (rs : En (Rw Str)), vs = [.ref a, .ref r] ∧ H a = some (.tup (refs es)) ∧ Lay aV H es ∧ 1 ≤ es.length ∧ es.length ≤ 4 ∧
  H r = some (sqO t (refs rs)) ∧ Lay rV H rs ∧ rs.length ≤ 12 ∧ (∀ p ∈ rs, 0 ≤ oft p.2 ∧ oft p.2 ≤ 10000) ∧
  ∀ H', Same H H' → Q (.int (cnt (es.map (·.2)) (rs.map (·.2)))) H'
section
variable {P : Program} {w : World} {K : PySem.W.Frag} {mg : Str → Option Value} {base : Heap}

theorem sc_raw_ways : FnScope ["atoms", "rows", "found", "kind", "left", "right", "longer", "known", "weight", "row", "more", "names", "name"] ["atoms", "rows"] (defScope s_raw_ways) := ⟨rfl, rfl, rfl, by decide +kernel, rfl, by decide +kernel, by decide +kernel⟩
theorem ok_raw_ways (T : Txt K mg) : Ok P w K mg base 2 "raw_ways" ["atoms", "rows"] sp_raw_ways := by
  have S := sc_raw_ways
  have OE : Ok P w K mg base 1 "extended" ["found", "pairs"] sp_extended := ok_extended T
  have OV : Ok P w K mg base 1 "variables_of" ["atoms"] sp_variables_of := ok_variables_of T
  refine mkOk T.d_raw_ways S (fun _ _ _ _ _ _ us hl => match us, hl with | [_, _], _ => rfl) (fun vs H Q E h => ?_) (fun cdv A outer s H vs Q E hr h => ?_)
  · obtain ⟨a, r, t, es, rs, rfl, _⟩ := h
    rfl
  · obtain ⟨a, r, t, es, rs, rfl, ha, hl, h1, h4, hrr, hlr, h12, hof, k⟩ := h
    have hu1 := hu_of hr
    have hu16 := hu16_of hr
    have hr1 : Room 1 _ := hr
    refine ⟨_, (pss_cons (ps_set (i := 2) S.nd rfl (.inl rfl) (pe_lst (pa_cons (pe_tup (pa_cons pe_dnewK (pa_cons pe_int pa_nil))) pa_nil))) (pss_cons (ps_for PassesOwn.never rfl (pi_sd (pv 0)) (pg_tup rfl (pgs_cons (pg_name (i := 3) S.nd rfl (Or.inl rfl)) (pgs_cons (pg_name (i := 4) S.nd rfl (Or.inl rfl)) (pgs_cons (pg_name (i := 5) S.nd rfl (Or.inl rfl)) pgs_nil)))) (pss_cons (ps_set (i := 6) S.nd rfl (.inl rfl) (pe_lst pa_nil)) (pss_cons (ps_for PassesOwn.never rfl (pi_sd (pv 2)) (pg_tup rfl (pgs_cons (pg_name (i := 7) S.nd rfl (Or.inl rfl)) (pgs_cons (pg_name (i := 8) S.nd rfl (Or.inl rfl)) pgs_nil))) (pss_one (ps_for PassesOwn.never rfl (pi_sd (pv 1)) (pg_name (i := 9) S.nd rfl (Or.inl rfl)) (pss_cons (ps_set (i := 10) S.nd rfl (.inl rfl) (pe_ifExp (pt_cmpR op_eq (pe_ix ix_tup (pv 9) pe_int (fun _ _ => rfl)) (pv 3) (nomark _)) (pcl OE hr1 (pa_cons (pv 7) (pa_cons (pe_lst (pa_cons (pe_tup (pa_cons (pv 4) (pa_cons (pe_ix ix_tup (pv 9) pe_int (fun _ _ => rfl)) pa_nil))) (pa_cons (pe_tup (pa_cons (pv 5) (pa_cons (pe_ix ix_tup (pv 9) pe_int (fun _ _ => rfl)) pa_nil))) pa_nil))) pa_nil))) pe_non)) (pss_one (ps_if (pt_cmpR op_notN (pv 10) pe_non (nomark _)) (pss_one (ps_expr (pe_bm PySem.F.plainAttrs_list PySem.F.slot_list_append PySem.F.type_list_append mt_append (pv 6) (pa_cons (pe_tup (pa_cons (pv 10) (pa_cons (pe_op op_mul (pv 8) (pe_ix ix_tup (pv 9) pe_int (fun _ _ => rfl))) pa_nil))) pa_nil)))) pss_nil)))))) (pss_one (ps_set (i := 2) S.nd rfl (.inl rfl) (pv 6)))))) (pss_cons (ps_set (i := 11) S.nd rfl (.inr rfl) (pcl OV (hr.mono (by decide)) (pa_cons (pv 0) pa_nil))) (pss_one (ps_ret (pe_callB (cr_sortedD hu16) (by rfl) T.f_sorted (by decide +kernel) (pa_cons (pe_lc (own := [("known", 7), ("weight", 8)]) (g := gTup K 2 (gCons (gName 7) (gCons (gName 8) gNil))) (te := tTup (tCons (tCB (fun xs H Q => ∃ p ys, xs = [V.ref p] ∧ ((SqL K H p ys ∧ ∀ l, H l = none → Q (.ref l) (upd H l (.tup ys))) ∨ (SqT K H p ys ∧ Q (.ref p) H))) (tCons (tLc (iSd K (tVar 11)) (gName 12) tYes (tDGet (tVar 7) (tVar 12)) [12]) tNil)) (tCons (tVar 8) tNil))) rfl S.nd (pi_sd (pv 2)) (blkOk_by (N := ["atoms", "rows", "found", "kind", "left", "right", "longer", "known", "weight", "row", "more", "names", "name"]) (sc := defScope s_raw_ways) (by decide +kernel)) (fun _ _ _ _ _ => (pg_tup rfl (pgs_cons (pg_name (i := 7) S.nd rfl (Or.inr rfl)) (pgs_cons (pg_name (i := 8) S.nd rfl (Or.inl rfl)) pgs_nil)))) (fun _ _ _ _ _ => pts_nil) (fun _ _ _ _ _ => (pe_tup (pa_cons (pe_callTy call_tuple_of (by rfl) T.f_tuple (by decide +kernel) (pa_cons (pe_lc (own := [("name", 12)]) rfl S.nd (pi_sd (pv 11)) (blkOk_by (N := ["atoms", "rows", "found", "kind", "left", "right", "longer", "known", "weight", "row", "more", "names", "name"]) (sc := { kind := .function, names := [(".0", .local), ("known", .cell), ("weight", .local), ("tuple", .globalImplicit), ("names", .cell)], isGenerator := false, isCoroutine := false }) (by decide +kernel)) (fun _ _ _ _ _ => (pg_name (i := 12) S.nd rfl (Or.inl rfl))) (fun _ _ _ _ _ => pts_nil) (fun _ _ _ _ _ => (pe_dget hu1 (pv 7) (pv 12) (fun _ _ => rfl)))) pa_nil)) (pa_cons (pv 8) pa_nil))))) pa_nil))))))), ?_⟩
    refine fun d0 hd0 => ⟨by show 2 ≤ sizeLine; decide, fun t0 ht0 => ⟨by show 1 ≤ sizeLine; decide, fun F0 hF0 => ?_⟩⟩
    have ha2 : H a = some (sqO true (refs es)) := ha
    have s0 : Same H (upd (upd (upd H d0 (.dK [])) t0 (.tup [.ref d0, .int 1])) F0 (.lst [.ref t0])) := (same_upd hd0).trans ((same_upd ht0).trans (same_upd hF0))
    refine ⟨_, rfl, true, a, rfl, ⟨_, sd_of (s0 _ _ ha2)⟩, ?_⟩
    refine for_it (tsd_walk (K := K) (t := true) (a := a) (xs := refs es)) (fun i σ H' => Same H H' ∧ ∃ (F : Addr) (fs : FE) (v3 v4 v5 v6 v7 v8 v9 v10 : Option V), σ = [some (.ref a), some (.ref r), some (.ref F), v3, v4, v5, v6, v7, v8, v9, v10, none, none] ∧
        H F = none ∧ H' F = some (.lst (refs fs)) ∧ FdAt H' fs ∧ st5 fs = waysFrom ((es.map (·.2)).take i) (rs.map (·.2)) [([], 1)] ∧ fs.length ≤ 12 ^ i ∧ ∀ p ∈ fs, p.2.2.1.length ≤ 2 * i)
      ⟨s0, F0, [(t0, d0, [], 1)], none, none, none, none, none, none, none, none, rfl, ?_, upd_same, ?_, rfl, Nat.le_refl _, fun p hp => ?_⟩ (fun i σ H' _ h => sd_of (h.1 _ _ ha2)) (fun i x σ H1 H2 hi h hy => ?_) fun σ H1 h => ?_
    · exact ((same_upd hd0).trans (same_upd ht0)).free hF0
    · refine ⟨fun p hp => ?_, fun p hp => ?_⟩
      · rw [List.mem_singleton.mp hp]
        exact (same_upd hF0) _ _ upd_same
      · rw [List.mem_singleton.mp hp]
        exact (same_upd hF0) _ _ ((same_upd ht0) _ _ upd_same)
    · rw [List.mem_singleton.mp hp]; exact Nat.le_refl _
    · -- one atom
      obtain ⟨s1, F, fs, v3, v4, v5, v6, v7, v8, v9, v10, rfl, hF0', hF, hfd, hst, hfl, hml⟩ := h
      obtain ⟨rfl, hx⟩ := hy
      obtain ⟨p, hp, rfl⟩ := refs_at hx
      have hi3 : i ≤ 3 := by rw [refs_len] at hi; omega
      have hp12 := pow12 hi3
      refine ⟨_, _, rfl, SqT.of (s1 _ _ (hl p (List.mem_of_getElem? hp))), rfl, _, _, rfl, _, _, rfl, _, _, rfl, rfl, ?_⟩
      refine ⟨Nat.zero_le _, fun Lg hLg => ?_⟩
      have hF2 : H2 F = some (sqO false (refs fs)) := hF
      refine ⟨_, rfl, false, F, rfl, ⟨_, sd_of ((same_upd hLg) _ _ hF2)⟩, ?_⟩
      refine for_it (tsd_walk (K := K) (t := false) (a := F) (xs := refs fs)) (fun j σ H' => Same H2 H' ∧ ∃ (ls : FE) (u7 u8 u9 u10 : Option V), σ = [some (.ref a), some (.ref r), some (.ref F), some (.str p.2.1), some (.int p.2.2.1), some (.int p.2.2.2), some (.ref Lg), u7, u8, u9, u10, none, none] ∧
          H' Lg = some (.lst (refs ls)) ∧ FdAt H' ls ∧ st5 ls = stepW p.2 (rs.map (·.2)) ((st5 fs).take j) ∧ ls.length ≤ 12 * j ∧ ∀ q ∈ ls, q.2.2.1.length ≤ 2 * (i + 1))
        ⟨same_upd hLg, [], v7, v8, v9, v10, rfl, upd_same, ⟨fun q hq => absurd hq List.not_mem_nil, fun q hq => absurd hq List.not_mem_nil⟩, by rw [List.take_zero]; rfl, Nat.zero_le _, fun q hq => absurd hq List.not_mem_nil⟩
        (fun j σ H' _ h => sd_of (t := false) (h.1 _ _ hF2)) (fun j x σ H3 H4 hj h hy => ?_) fun σ H3 h => ?_
      · -- one state
        obtain ⟨s3, ls, u7, u8, u9, u10, rfl, hLl, hld, hls, hll, hlm⟩ := h
        obtain ⟨rfl, hx⟩ := hy
        obtain ⟨q, hq, rfl⟩ := refs_at hx
        have hqm := List.mem_of_getElem? hq
        have hfd3 := hfd.same s3
        have hjl : j < fs.length := by rwa [refs_len] at hj
        refine ⟨_, _, rfl, SqT.of (hfd3.lay q hqm), rfl, _, _, rfl, _, _, rfl, rfl, ?_⟩
        have hr3 : H4 r = some (sqO t (refs rs)) := s3 _ _ (s1 _ _ hrr)
        refine ⟨_, rfl, t, r, rfl, ⟨_, sd_of hr3⟩, ?_⟩
        have tk : (st5 fs).take (j + 1) = (st5 fs).take j ++ [(q.2.2.1, q.2.2.2)] := take_next1 (by unfold st5; rw [List.getElem?_map, hq]; rfl)
        refine for_it (tsd_walk (K := K) (t := t) (a := r) (xs := refs rs)) (fun m σ H' => Same H2 H' ∧ ∃ (ls : FE) (z9 z10 : Option V), σ = [some (.ref a), some (.ref r), some (.ref F), some (.str p.2.1), some (.int p.2.2.1), some (.int p.2.2.2), some (.ref Lg), some (.ref q.2.1), some (.int q.2.2.2), z9, z10, none, none] ∧
            H' Lg = some (.lst (refs ls)) ∧ FdAt H' ls ∧ st5 ls = stepW p.2 (rs.map (·.2)) ((st5 fs).take j) ++ ((rs.map (·.2)).take m).filterMap (fun row => one1 p.2 row (q.2.2.1, q.2.2.2)) ∧ ls.length ≤ 12 * j + m ∧ ∀ q ∈ ls, q.2.2.1.length ≤ 2 * (i + 1))
          ⟨s3, ls, u9, u10, rfl, hLl, hld, by rw [hls, List.take_zero, List.filterMap_nil, List.append_nil], by omega, hlm⟩
          (fun m σ H' _ h => sd_of (h.1 _ _ (s1 _ _ hrr))) (fun m x σ H5 H6 hm h hy => ?_) fun σ H5 h => ?_
        · -- one row
          obtain ⟨s5, ls, z9, z10, rfl, hLl, hld, hls, hll, hlm⟩ := h
          obtain ⟨rfl, hx⟩ := hy
          obtain ⟨y, hy, rfl⟩ := refs_at hx
          have hym := List.mem_of_getElem? hy
          have hyt := s5 _ _ (s1 _ _ (hlr y hym))
          have hmr : m < rs.length := by rwa [refs_len] at hm
          have hqd := s5 _ _ (hfd.dic q hqm)
          have tkr : ((rs.map (·.2)).take (m + 1)).filterMap (fun row => one1 p.2 row (q.2.2.1, q.2.2.2)) = ((rs.map (·.2)).take m).filterMap (fun row => one1 p.2 row (q.2.2.1, q.2.2.2)) ++ (one1 p.2 y.2 (q.2.2.1, q.2.2.2)).toList := by
            rw [take_next1 (by rw [List.getElem?_map, hy]; rfl), fm_snoc]
          refine ⟨_, rfl, _, _, _, _, rfl, rfl, SqT.of hyt, rfl, _, rfl, rfl, decide (y.2.1 = p.2.1), congrArg V.bl (by simp), ?_⟩
          have skip : ∀ (H7 : Hp) (zz : Option V), Same H6 H7 → one1 p.2 y.2 (q.2.2.1, q.2.2.2) = none → Same H2 H7 ∧ ∃ (ls : FE) (z9 z10 : Option V), [some (V.ref a), some (.ref r), some (.ref F), some (.str p.2.1), some (.int p.2.2.1), some (.int p.2.2.2), some (.ref Lg), some (.ref q.2.1), some (.int q.2.2.2), some (.ref y.1), zz, none, none] = [some (.ref a), some (.ref r), some (.ref F), some (.str p.2.1), some (.int p.2.2.1), some (.int p.2.2.2), some (.ref Lg), some (.ref q.2.1), some (.int q.2.2.2), z9, z10, none, none] ∧
            H7 Lg = some (.lst (refs ls)) ∧ FdAt H7 ls ∧ st5 ls = stepW p.2 (rs.map (·.2)) ((st5 fs).take j) ++ ((rs.map (·.2)).take (m + 1)).filterMap (fun row => one1 p.2 row (q.2.2.1, q.2.2.2)) ∧ ls.length ≤ 12 * j + (m + 1) ∧ ∀ q ∈ ls, q.2.2.1.length ≤ 2 * (i + 1) := fun H7 zz s7 e =>
              ⟨s5.trans s7, ls, _, _, rfl, s7 _ _ hLl, hld.same s7, by rw [tkr, e, hls]; simp, by omega, hlm⟩
          refine ite2 (fun hk => ?_) (fun hk => ?_)
          · -- the kind is the same
            have hk : y.2.1 = p.2.1 := of_decide_eq_true hk
            refine ⟨_, rfl, _, rfl, _, rfl, _, _, _, _, rfl, rfl, SqT.of hyt, rfl, by show 2 ≤ sizeLine; decide, fun t1 ht1 => ?_⟩
            have e1 := same_upd (o := .tup [.int p.2.2.1, .int y.2.2.1]) ht1
            refine ⟨_, rfl, _, rfl, _, _, _, _, rfl, rfl, SqT.of (e1 _ _ hyt), rfl, by show 2 ≤ sizeLine; decide, fun t2 ht2 => ?_⟩
            have e2 := same_upd (o := .tup [.int p.2.2.2, .int y.2.2.2.1]) ht2
            refine ⟨by show 2 ≤ sizeLine; decide, fun l1 hl1 => ?_⟩
            have e3 := same_upd (o := .lst [.ref t1, .ref t2]) hl1
            have e123 := e1.trans (e2.trans e3)
            refine ⟨q.2.1, l1, q.2.2.1, [(t1, p.2.2.1, y.2.2.1), (t2, p.2.2.2, y.2.2.2.1)], rfl, e123 _ _ hqd, upd_same, fun z hz => ?_, Nat.le_refl 2, by have := hml q hqm; omega, fun en H7 s7 => ?_, fun m' D H7 en s7 hD hDd => ?_⟩
            · rcases List.mem_cons.mp hz with e | hz
              · rw [e]; exact (e2.trans e3) _ _ upd_same
              · rw [List.mem_singleton.mp hz]; exact e3 _ _ upd_same
            · -- no more
              refine ⟨_, rfl, rfl, false, rfl, iteF ?_⟩
              refine skip H7 _ (e123.trans s7) ?_
              have e0 : ext q.2.2.1 p.2.2.1 y.2.2.1 p.2.2.2 y.2.2.2.1 = none := by rw [← extL_two]; exact en
              unfold one1
              rw [if_pos hk, e0] <;> rfl
            · -- longer
              have e0 : ext q.2.2.1 p.2.2.1 y.2.2.1 p.2.2.2 y.2.2.2.1 = some m' := by rw [← extL_two]; exact en
              have hone : one1 p.2 y.2 (q.2.2.1, q.2.2.2) = some (m', q.2.2.2 * oft y.2) := by
                unfold one1
                rw [if_pos hk, e0] <;> rfl
              have hml' : m'.length ≤ 2 * (i + 1) := by
                have h1 := extL_len _ en
                have h2 := hml q hqm
                simp only [List.map_cons, List.map_nil, List.length_cons, List.length_nil] at h1
                omega
              have e7 := e123.trans s7
              have ho := hof y hym
              refine ⟨_, rfl, rfl, true, rfl, iteT ?_⟩
              refine ⟨_, rfl, .inl ⟨rfl, _, SqL.of (e7 _ _ hLl)⟩, _, rfl, _, rfl, _, rfl, _, _, _, _, rfl, rfl, SqT.of (e7 _ _ hyt), rfl, _, _, rfl, rfl, .inr ⟨?_, ?_⟩, by show 2 ≤ sizeLine; decide, fun t3 ht3 => ?_⟩
              · have : 0 ≤ y.2.2.2.2 := ho.1
                omega
              · have : y.2.2.2.2 ≤ 10000 := ho.2
                omega
              have e8 := e7.trans (same_upd (o := .tup [.ref D, .int (q.2.2.2 * y.2.2.2.2)]) ht3)
              refine ⟨Lg, _, _, rfl, rfl, e8 _ _ hLl, ?_, ?_⟩
              · rw [refs_len, sizeLine_eq]; omega
              have offL := off_upd (D := Lg) (H := upd H7 t3 (.tup [.ref D, .int (q.2.2.2 * y.2.2.2.2)])) (o := .lst (refs ls ++ [.ref t3]))
              have hld2 : FdAt (upd H7 t3 (.tup [.ref D, .int (q.2.2.2 * y.2.2.2.2)])) (ls ++ [(t3, D, m', q.2.2.2 * oft y.2)]) := (hld.same e8).snoc upd_same ((same_upd ht3) _ _ hDd)
              refine ⟨same_off hLg (s5.trans e8) offL, ls ++ [(t3, D, m', q.2.2.2 * oft y.2)], _, _, rfl, by rw [refs_snoc]; exact upd_same, hld2.off (e8 _ _ hLl) offL, ?_, ?_, fun z hz => ?_⟩
              · rw [tkr, hone, ← List.append_assoc, ← hls]
                unfold st5
                rw [List.map_append] <;> rfl
              · rw [List.length_append, List.length_singleton]; omega
              · rcases List.mem_append.mp hz with h | h
                · exact hlm z h
                · rw [List.mem_singleton.mp h]; exact hml'
          · -- another kind
            have hk : ¬ y.2.1 = p.2.1 := of_decide_eq_false (by simpa using hk)
            refine ⟨_, rfl, rfl, false, rfl, iteF ?_⟩
            refine skip H6 _ (Same.refl _) ?_
            unfold one1
            rw [if_neg hk]
        · obtain ⟨s5, ls, z9, z10, rfl, hLl, hld, hls, hll, hlm⟩ := h
          refine ⟨s5, ls, _, _, _, _, rfl, hLl, hld, ?_, ?_, hlm⟩
          · rw [tk, stepW_snoc, hls, List.take_of_length_le (l := rs.map (·.2)) (by rw [List.length_map, refs_len]; exact Nat.le_refl _)]
          · rw [refs_len] at hll; omega
      · obtain ⟨s3, ls, u7, u8, u9, u10, rfl, hLl, hld, hls, hll, hlm⟩ := h
        refine ⟨_, rfl, ?_⟩
        refine ⟨s1.trans s3, Lg, ls, _, _, _, _, _, _, _, _, rfl, s1.free hLg, hLl, hld, ?_, ?_, hlm⟩
        · rw [take_next1 (by rw [List.getElem?_map, hp]; rfl), waysFrom_snoc, ← hst, hls, List.take_of_length_le (by unfold st5; rw [List.length_map, refs_len]; exact Nat.le_refl _)]
        · rw [refs_len] at hll
          rw [Nat.pow_succ]
          omega
    · -- all atoms
      obtain ⟨s1, F, fs, v3, v4, v5, v6, v7, v8, v9, v10, rfl, hF0', hF, hfd, hst, hfl, hml⟩ := h
      rw [List.take_of_length_le (by rw [List.length_map, refs_len]; exact Nat.le_refl _)] at hst
      rw [refs_len] at hfl
      have hfl2 : fs.length ≤ 20736 := Nat.le_trans hfl (Nat.le_trans (Nat.pow_le_pow_right (by decide) h4) (by decide))
      refine ⟨_, rfl, a, es, rfl, s1 _ _ ha, hl.same s1, h4, fun np ns H2 s2 hnp hns hnt => ?_⟩
      have hF2 : H2 F = some (sqO false (refs fs)) := s2 _ _ hF
      refine ⟨_, rfl, false, F, rfl, ⟨_, sd_of hF2⟩, fun D hD => ?_⟩
      have hns0 : ns ≠ [] := fun e => by
        obtain ⟨p, hp⟩ : ∃ p, p ∈ es := by
          cases es with
          | nil => simp at h1
          | cons p es => exact ⟨p, List.mem_cons_self⟩
        have := (hns.mem p.2.2.1).2 ⟨p.2, List.mem_map.mpr ⟨p, hp, rfl⟩, .inl rfl⟩
        rw [e] at this
        cases this
      have hnl : ns.length ≤ 8 := vars_len hns (by rw [List.length_map]; exact h4)
      refine lc_mapS (tsd_walk (K := K) (t := false) (a := F) (xs := refs fs)) (fun i y H => ∃ f, fs[i]? = some f ∧ ∃ (t1 t2 : Addr) (xs : List Int), y = .ref t1 ∧ H t1 = some (.tup [.ref t2, .int f.2.2.2]) ∧ H t2 = some (.tup (xs.map V.int)) ∧ xs ≠ []) hD (fun H3 s3 => sd_of (t := false) (s3 _ _ hF2))
        (fun i y H H' acc hDl o ⟨f, e, t1, t2, xs, ey, h1, h2, h3⟩ => ⟨f, e, t1, t2, xs, ey, o.tup hDl h1, o.tup hDl h2, h3⟩) (by rw [refs_len, sizeLine_eq]; omega) (fun i x H3 H3' hi s3 hy Q' k' => ?_) fun H3 ys s3 hDl hlen hR => ?_
      · obtain ⟨rfl, hx⟩ := hy
        obtain ⟨f, hf, rfl⟩ := refs_at hx
        have hfm := List.mem_of_getElem? hf
        have hfd3 := (hfd.same s2).same s3
        have hnt3 : H3' np = some (sqO true (ns.map V.int)) := s3 _ _ hnt
        refine ⟨_, _, rfl, SqT.of (hfd3.lay f hfm), rfl, _, _, rfl, _, _, rfl, rfl, rfl, ?_⟩
        refine ⟨_, rfl, true, np, rfl, ⟨_, sd_of hnt3⟩, fun D2 hD2 => ?_⟩
        refine lc_mapS (tsd_walk (K := K) (t := true) (a := np) (xs := ns.map V.int)) (fun i y H => ∃ z : Int, y = .int z) hD2 (fun H4 s4 => sd_of (s4 _ _ hnt3)) (fun i y H H' acc _ _ e => e) (by rw [List.length_map, sizeLine_eq]; omega) (fun i2 x2 H4 H4' hi2 s4 hy2 Q2 k2 => ?_) fun H4 zs s4 hDl2 hlen2 hR2 => ?_
        · obtain ⟨rfl, hx2⟩ := hy2
          rw [List.getElem?_map] at hx2
          cases en : ns[i2]? with
          | none => rw [en] at hx2; cases hx2
          | some n =>
            rw [en] at hx2
            obtain rfl : V.int n = x2 := Option.some.inj hx2
            have hd4 := s4 _ _ (hfd3.dic f hfm)
            have hv : VarOf (es.map (·.2)) n := (hns.mem n).1 (List.mem_of_getElem? en)
            have hin : (f.2.2.1, f.2.2.2) ∈ waysFrom (es.map (·.2)) (rs.map (·.2)) [([], 1)] := by
              rw [← hst]
              exact List.mem_map.mpr ⟨f, hfm, rfl⟩
            obtain ⟨z, hz⟩ := Option.isSome_iff_exists.mp (ways_all hin hv)
            have hz2 : look f.2.2.1 n = some z := hz
            refine ⟨rfl, _, rfl, _, rfl, _, _, rfl, .inl ⟨_, Sum.inl n, .inl hd4, rfl, ?_⟩, k2 (.int z) _ (Same.refl _) ⟨z, rfl⟩⟩
            rw [val_mp, hz2] <;> rfl
        · refine ⟨D2, zs, rfl, .inl ⟨SqL.of hDl2, fun t2 ht2 => ?_⟩⟩
          refine ⟨_, rfl, by show 2 ≤ sizeLine; decide, fun t1 ht1 => ?_⟩
          obtain ⟨xs, rfl⟩ := all_int hR2
          refine k' _ _ (s4.trans ((same_upd ht2).trans (same_upd ht1))) ⟨f, hf, t1, t2, xs, rfl, upd_same, (same_upd ht1) _ _ upd_same, fun e => ?_⟩
          rw [e, List.map_nil, List.length_nil, List.length_map] at hlen2
          exact hns0 (List.length_eq_zero_iff.mp hlen2.symm)
      · -- sorted
        obtain ⟨bs, eb, hb, hbw⟩ := ways_items (H := H3) (fs := fs) (ys := ys) (by rw [hlen, refs_len]) hR
        subst eb
        refine ⟨false, D, _, bs, fun b => V.ref b.1, fun b => .tuple [.tuple (b.2.2.1.map .int), .int b.2.2.2], rfl, .inr ⟨rfl, SqL.of hDl⟩, fun b hm => ?_, ?_, ?_, fun b hm => ?_, fun bs' q pm pw hq => ?_⟩
        · obtain ⟨g1, g2, g3⟩ := hb b hm
          exact .tup (SqT.of g1) (.cons (.tup (SqT.of g2) (dp_ints _)) (.cons (.int _) .nil))
        · exact PySem.W.AllAlike.of fun b b' => by
            have := PySem.W.alike_ints b.2.2.1 b'.2.2.1
            simp [PySem.W.alike, PySem.W.alikeAll, this]
        · exact PySem.W.Sortable.tuples fun b => ⟨_, _, rfl⟩
        · simp [PyData.depth, PyData.depthAll, PySem.W.depth_ints]
        · have fin : Same H (upd H3 q (.lst (bs'.map fun b => V.ref b.1))) := (s1.trans (s2.trans s3)).trans (same_upd hq)
          refine k q (bs'.map fun b => (b.1, V.ref b.2.1, b.2.2.2)) _ fin ((s1.trans (s2.trans s3)).free hq) ?_ (fun p hp => ?_) ?_ ?_
          · unfold refs
            rw [List.map_map] <;> exact upd_same
          · obtain ⟨b, hbm, rfl⟩ := List.mem_map.mp hp
            exact (same_upd hq) _ _ (hb b (pm.mem_iff.mp hbm)).1
          · have e3 := congrArg List.length hbw
            rw [List.length_map, List.length_map] at e3
            rw [List.length_map, pm.length_eq, e3, sizeLine_eq]
            omega
          · rw [List.map_map]
            have e1 : (bs'.map ((fun b : Addr × V × Int => b.2.2) ∘ fun b : Addr × Addr × List Int × Int => (b.1, V.ref b.2.1, b.2.2.2))).Perm (fs.map fun f => f.2.2.2) := by
              rw [← hbw]
              exact (pm.map fun b => b.2.2.2)
            have e2 := sm_perm e1 fun x => x
            unfold sm at e2
            rw [List.map_id', List.map_id'] at e2
            rw [e2]
            unfold cnt ways
            rw [← hst]
            unfold sm st5
            rw [List.map_map] <;> rfl
theorem sc_raw_count : FnScope ["atoms", "rows", "way", "weight"] ["atoms", "rows"] (defScope s_raw_count) := ⟨rfl, rfl, rfl, by decide +kernel, rfl, by decide +kernel, by decide +kernel⟩
theorem ok_raw_count (T : Txt K mg) : Ok P w K mg base 3 "raw_count" ["atoms", "rows"] sp_raw_count := by
  have S := sc_raw_count
  have OW : Ok P w K mg base 2 "raw_ways" ["atoms", "rows"] sp_raw_ways := ok_raw_ways T
  refine mkOk T.d_raw_count S (fun _ _ _ _ _ _ us hl => match us, hl with | [_, _], _ => rfl) (fun vs H Q E h => ?_) (fun cdv A outer s H vs Q E hr h => ?_)
  · obtain ⟨a, r, t, es, rs, rfl, _⟩ := h
    rfl
  · obtain ⟨a, r, t, es, rs, rfl, ha, hl, h1, h4, hrr, hlr, h12, hof, k⟩ := h
    refine ⟨_, (pss_one (ps_ret (pe_callB (cr_sum rfl) (by rfl) T.f_sum (by decide +kernel) (pa_cons (pe_lc (g := gTup K 2 (gCons (gName 2) (gCons (gName 3) gNil))) (own := [("way", 2), ("weight", 3)]) rfl S.nd (pi_sd (pcl OW hr (pa_cons (pv 0) (pa_cons (pv 1) pa_nil)))) (blkOk_by (N := ["atoms", "rows", "way", "weight"]) (sc := defScope s_raw_count) (by decide +kernel)) (fun _ _ _ _ _ => (pg_tup rfl (pgs_cons (pg_name (i := 2) S.nd rfl (Or.inl rfl)) (pgs_cons (pg_name (i := 3) S.nd rfl (Or.inl rfl)) pgs_nil)))) (fun _ _ _ _ _ => pts_nil) (fun _ _ _ _ _ => (pv 3))) pa_nil)))), ?_⟩
    refine ⟨_, rfl, _, rfl, a, r, t, es, rs, rfl, ha, hl, h1, h4, hrr, hlr, h12, hof, fun p bs H1 s1 hp0 hp hlb hbl hsum => ?_⟩
    have hp2 : H1 p = some (sqO false (refs bs)) := hp
    refine ⟨false, p, rfl, ⟨_, sd_of hp2⟩, fun D hD => ?_⟩
    refine lc_mapS (tsd_walk (K := K) (t := false) (a := p) (xs := refs bs)) (fun i y H => (bs.map fun b => V.int b.2.2)[i]? = some y) hD (fun H2 s2 => sd_of (t := false) (s2 _ _ hp2)) (fun i y H H' acc _ _ e => e) ?_ (fun i x H2 H2' hi s2 hy Q' k' => ?_) fun H2 ys s2 hDl hlen hR => ?_
    · rw [refs_len]; exact hbl
    · obtain ⟨rfl, hx⟩ := hy
      obtain ⟨b, hb, rfl⟩ := refs_at hx
      refine ⟨_, _, rfl, SqT.of (s2 _ _ (hlb b (List.mem_of_getElem? hb))), rfl, _, _, rfl, _, _, rfl, rfl, rfl, ?_⟩
      exact ⟨_, rfl, k' _ _ (Same.refl _) (by rw [List.getElem?_map, hb]; rfl)⟩
    · have eys : ys = (bs.map fun b => b.2.2).map V.int := by
        have e := ext_at (ys := ys) (zs := bs.map fun b => V.int b.2.2) (by rw [hlen, refs_len, List.length_map]) hR
        rw [e, List.map_map] <;> rfl
      refine ⟨D, bs.map fun b => b.2.2, rfl, SqL.of (by rw [← eys]; exact hDl), ?_⟩
      rw [hsum]
      exact k _ (s1.trans s2)
end
end CA
set_option Elab.async false
set_option linter.all false
set_option maxRecDepth 100000
set_option maxHeartbeats 1000000
namespace CA
open PySem PySem.Spec PyProof.Rows L2
/-! ### lists of indices -/
def natV (l : List Nat) : List V := l.map fun i => V.int ((i : Nat) : Int)
theorem natV_snoc (l : List Nat) (i : Nat) : natV (l ++ [i]) = natV l ++ [.int i] := by
  unfold natV; rw [List.map_append] <;> rfl
theorem natV_flat (l : List Nat) : (natV l).all flatV = true := by
  unfold natV
  rw [List.all_eq_true]
  intro x hx
  obtain ⟨i, _, rfl⟩ := List.mem_map.mp hx
  rfl
theorem natV_in (l : List Nat) (i : Nat) : inV (.int (0 + (i : Nat))) (natV l) = decide (i ∈ l) := by
  unfold inV natV
  rw [List.any_map]
  induction l with
  | nil => rfl
  | cons j l ih =>
    rw [List.any_cons, ih]
    have e : ((fun y => eqV y (V.int (0 + ((i : Nat) : Int)))) ∘ fun i : Nat => V.int ((i : Nat) : Int)) j = decide (i = j) := by
      show (((j : Nat) : Int) == (0 + ((i : Nat) : Int))) = _
      rw [Int.zero_add]
      by_cases h : i = j
      · subst h; simp
      · have : ¬ ((j : Int) = (i : Int)) := by omega
        simp [h, this]
    rw [e]
    by_cases h : i = j <;> simp [h]
/-- lists of indices, none at L -/
def LL (L : Addr) (H : Hp) (es : En (List Nat)) : Prop := ∀ p ∈ es, p.1 ≠ L ∧ H p.1 = some (.lst (natV p.2))
theorem LL.same {L : Addr} {H H' : Hp} {es : En (List Nat)} (h : LL L H es) (s : Same H H') : LL L H' es := fun p hp => ⟨(h p hp).1, s _ _ (h p hp).2⟩
theorem LL.off {L : Addr} {H H' : Hp} {es : En (List Nat)} (h : LL L H es) (s : Off L H H') : LL L H' es := fun p hp => ⟨(h p hp).1, s _ _ (h p hp).1 (h p hp).2⟩
theorem LL.append {L : Addr} {H : Hp} {es fs : En (List Nat)} (h : LL L H es) (g : LL L H fs) : LL L H (es ++ fs) := fun p hp => (List.mem_append.mp hp).elim (h p) (g p)
def nexts (n : Nat) (old : List Nat) : List (List Nat) := ((List.range n).filter fun i => decide (i ∉ old)).map fun i => old ++ [i]
theorem arr_succ (n k : Nat) : arr n (k + 1) = (arr n k).flatMap (nexts n) := rfl
def nextsTo (n m : Nat) (old : List Nat) : List (List Nat) := ((List.range m).filter fun i => decide (i ∉ old)).map fun i => old ++ [i]
theorem nextsTo_yes {n m : Nat} {old : List Nat} (h : m ∉ old) : nextsTo n (m + 1) old = nextsTo n m old ++ [old ++ [m]] := by
  unfold nextsTo
  rw [List.range_succ, List.filter_append, List.map_append]
  simp [h]
theorem nextsTo_no {n m : Nat} {old : List Nat} (h : m ∈ old) : nextsTo n (m + 1) old = nextsTo n m old := by
  unfold nextsTo
  rw [List.range_succ, List.filter_append, List.map_append]
  simp [h]
theorem flatMap_snoc {α β : Type} (f : α → List β) (l : List α) (x : α) : (l ++ [x]).flatMap f = l.flatMap f ++ f x := by
  rw [List.flatMap_append, List.flatMap_cons, List.flatMap_nil, List.append_nil]
theorem refs_append {α : Type} (es fs : En α) : refs (es ++ fs) = refs es ++ refs fs := by
  unfold refs; rw [List.map_append]
def sp_orders : Sp := fun vs H Q _ => ∃ (a : Addr) (es : En (At Str)), vs = [.ref a] ∧ H a = some (.tup (refs es)) ∧ es.length ≤ 4 ∧
  ∀ (p : Addr) (os : En (En (At Str))) H', Same H H' → H p = none → H' p = some (.lst (refs os)) → (∀ q ∈ os, H' q.1 = some (.lst (refs q.2)) ∧ q.2.Perm es) → (∀ l : En (At Str), l.Perm es → l ∈ os.map (·.2)) → os.length ≤ 24 → Q (.ref p) H'
section
variable {P : Program} {w : World} {K : PySem.W.Frag} {mg : Str → Option Value} {base : Heap}

theorem sc_orders : FnScope ["things", "found", "turn", "longer", "old", "at"] ["things"] (defScope s_orders) := ⟨rfl, rfl, rfl, by decide +kernel, rfl, by decide +kernel, by decide +kernel⟩
theorem ok_orders (T : Txt K mg) : Ok P w K mg base 1 "orders" ["things"] sp_orders := by
  have S := sc_orders
  refine mkOk T.d_orders S (fun _ _ _ _ _ _ us hl => match us, hl with | [_], _ => rfl) (fun vs H Q E h => ?_) (fun cdv A outer s H vs Q E hr h => ?_)
  · obtain ⟨a, es, rfl, _⟩ := h
    rfl
  · obtain ⟨a, es, rfl, ha, h4, k⟩ := h
    have ha2 : H a = some (sqO true (refs es)) := ha
    refine ⟨_, (pss_cons (ps_set (i := 1) S.nd rfl (.inl rfl) (pe_lst (pa_cons (pe_lst pa_nil) pa_nil))) (pss_cons (ps_for PassesOwn.never rfl (pi_sd (pv 0)) (pg_name (i := 2) S.nd rfl (Or.inl rfl)) (pss_cons (ps_set (i := 3) S.nd rfl (.inl rfl) (pe_lst pa_nil)) (pss_cons (ps_for PassesOwn.never rfl (pi_sd (pv 1)) (pg_name (i := 4) S.nd rfl (Or.inr rfl)) (pss_one (ps_expr (pe_bm PySem.F.plainAttrs_list PySem.F.slot_list_extend PySem.F.type_list_extend mt_extend (pv 3) (pa_cons (pe_lc (own := [("at", 5)]) (tt := tTest (tOp (rIn K true) (tVar 5) (tVar 4))) rfl S.nd (pi_range1 (by rfl) T.f_range (pa_cons (pe_callB call_len_seq (by rfl) T.f_len (by decide +kernel) (pa_cons (pv 0) pa_nil)) pa_nil)) (blkOk_by (N := ["things", "found", "turn", "longer", "old", "at"]) (sc := defScope s_orders) (by decide +kernel)) (fun _ _ _ _ _ => (pg_name (i := 5) S.nd rfl (Or.inl rfl))) (fun _ _ _ _ _ => (pts_one (pt_cmpR op_notIn_seq (pv 5) (pv 4) (by rfl)))) (fun _ _ _ _ _ => (pe_op op_cat (pv 4) (pe_lst (pa_cons (pv 5) pa_nil))))) pa_nil))))) (pss_one (ps_set (i := 1) S.nd rfl (.inl rfl) (pv 3)))))) (pss_one (ps_ret (pe_lc (own := [("old", 4)]) (te := tLc (iSd K (tVar 4)) (gName 5) tYes (tOp (rIxT K) (tVar 0) (tVar 5)) [5]) rfl S.nd (pi_sd (pv 1)) (blkOk_by (N := ["things", "found", "turn", "longer", "old", "at"]) (sc := defScope s_orders) (by decide +kernel)) (fun _ _ _ _ _ => (pg_name (i := 4) S.nd rfl (Or.inl rfl))) (fun _ _ _ _ _ => pts_nil) (fun _ _ _ _ _ => (pe_lc (own := [("at", 5)]) (te := tOp (rIxT K) (tVar 0) (tVar 5)) rfl S.nd (pi_sd (pv 4)) (blkOk_by (N := ["things", "found", "turn", "longer", "old", "at"]) (sc := { kind := .function, names := [(".0", .local), ("old", .local), ("things", .cell)], isGenerator := false, isCoroutine := false }) (by decide +kernel)) (fun _ _ _ _ _ => (pg_name (i := 5) S.nd rfl (Or.inl rfl))) (fun _ _ _ _ _ => pts_nil) (fun _ _ _ _ _ => (pe_ix ix_tup (pv 0) (pv 5) (fun _ _ => rfl)))))))))), ?_⟩
    refine ⟨Nat.zero_le _, fun p0 hp0 => ⟨by show 1 ≤ sizeLine; decide, fun F0 hF0 => ?_⟩⟩
    have s0 : Same H (upd (upd H p0 (.lst [])) F0 (.lst [.ref p0])) := (same_upd hp0).trans (same_upd hF0)
    refine ⟨_, rfl, true, a, rfl, ⟨_, sd_of (s0 _ _ ha2)⟩, ?_⟩
    refine for_it (tsd_walk (K := K) (t := true) (a := a) (xs := refs es)) (fun i σ H' => Same H H' ∧ ∃ (F : Addr) (ls : En (List Nat)) (v2 v3 v4 : Option V), σ = [some (.ref a), some (.ref F), v2, v3, v4, none] ∧
        H F = none ∧ H' F = some (.lst (refs ls)) ∧ LL F H' ls ∧ ls.map (·.2) = arr es.length i)
      ⟨s0, F0, [(p0, [])], none, none, none, rfl, (same_upd hp0).free hF0, upd_same, fun p hp => ?_, rfl⟩ (fun i σ H' _ h => sd_of (h.1 _ _ ha2)) (fun i x σ H1 H2 hi h hy => ?_) fun σ H1 h => ?_
    · rw [List.mem_singleton.mp hp]
      refine ⟨?_, (same_upd hF0) _ _ upd_same⟩
      intro e
      have e2 : p0 = F0 := e
      rw [← e2, upd_same] at hF0
      cases hF0
    · obtain ⟨s1, F, ls, v2, v3, v4, rfl, hF0', hF, hls, els⟩ := h
      obtain ⟨rfl, hx⟩ := hy
      obtain ⟨p, hp, rfl⟩ := refs_at hx
      have hi4 : i < es.length := by rwa [refs_len] at hi
      have hll : ls.length ≤ 24 := by
        have e := congrArg List.length els
        rw [List.length_map] at e
        rw [e]
        exact arr_len2 _ h4 _ (by omega)
      refine ⟨Nat.zero_le _, fun Lg hLg => ?_⟩
      have hF2 : H2 F = some (sqO false (refs ls)) := hF
      refine ⟨_, rfl, false, F, rfl, ⟨_, sd_of ((same_upd hLg) _ _ hF2)⟩, ?_⟩
      refine for_it (tsd_walk (K := K) (t := false) (a := F) (xs := refs ls)) (fun j σ H' => Same H2 H' ∧ ∃ (ks : En (List Nat)) (u4 : Option V), σ = [some (.ref a), some (.ref F), some (.ref p.1), some (.ref Lg), u4, none] ∧
          H' Lg = some (.lst (refs ks)) ∧ LL Lg H' ks ∧ ks.map (·.2) = ((arr es.length i).take j).flatMap (nexts es.length))
        ⟨same_upd hLg, [], v4, rfl, upd_same, fun q hq => absurd hq List.not_mem_nil, by rw [List.take_zero]; rfl⟩ (fun j σ H' _ h => sd_of (t := false) (h.1 _ _ hF2)) (fun j x σ H3 H4 hj h hy => ?_) fun σ H3 h => ?_
      · obtain ⟨s3, ks, u4, rfl, hLl, hkl, eks⟩ := h
        obtain ⟨rfl, hx⟩ := hy
        obtain ⟨q, hq, rfl⟩ := refs_at hx
        have hqm := List.mem_of_getElem? hq
        have hq4 := s3 _ _ (hls q hqm).2
        have hja : (arr es.length i)[j]? = some q.2 := by rw [← els, List.getElem?_map, hq]; rfl
        have hksl : ks.length ≤ 24 * 24 := by
          have e := congrArg List.length eks
          rw [List.length_map] at e
          rw [e]
          exact flat_len (by rw [List.length_take, ← els, List.length_map]; omega) fun l _ => by
            unfold nexts
            rw [List.length_map]
            exact Nat.le_trans (List.length_filter_le _ _) (by rw [List.length_range]; omega)
        refine ⟨_, rfl, .inl ⟨rfl, _, SqL.of hLl⟩, ?_⟩
        refine ⟨_, rfl, a, _, rfl, .inr (SqT.of (s3 _ _ (s1 _ _ ha))), ((es.length : Nat) : Int), by rw [refs_len], by omega, by omega, fun D hD => ?_⟩
        refine lc_mapT (walk_range (lo := 0) (n := es.length)) (fun m ys H => ∃ fs : En (List Nat), ys = refs fs ∧ LL D H fs ∧ LL Lg H fs ∧ fs.map (·.2) = nextsTo es.length m q.2) hD (fun _ _ => trivial)
          (fun m ys H5 H6 acc hDl of ⟨fs, e1, e2, e3, e4⟩ => ⟨fs, e1, e2.off of, fun z hz => ⟨(e3 z hz).1, of _ _ (e2 z hz).1 (e2 z hz).2⟩, e4⟩) (by rw [sizeLine_eq]; omega)
          ⟨[], rfl, fun q hq => absurd hq List.not_mem_nil, fun q hq => absurd hq List.not_mem_nil, rfl⟩ (fun m x H5 H6 ys hm hyl s5 hDl hP hy Q' Qn kQ kN => ?_) fun H5 ys s5 hDl hyl hP => ?_
        · obtain ⟨fs, rfl, f1, f2, f3⟩ := hP
          obtain ⟨rfl, rfl⟩ := hy
          have hq6 := s5 _ _ hq4
          refine ⟨rfl, _, rfl, _, rfl, q.1, _, rfl, .inl (SqL.of hq6), rfl, natV_flat _, !decide (m ∈ q.2), ?_, ?_⟩
          · rw [natV_in] <;> rfl
          by_cases hmq : m ∈ q.2
          · rw [decide_eq_true hmq]
            refine iteF ?_
            exact kN _ (Same.refl _) ⟨fs, rfl, f1, f2, by rw [f3, nextsTo_no hmq]⟩
          · rw [decide_eq_false hmq]
            refine iteT ?_
            refine ⟨_, rfl, _, rfl, by show 1 ≤ sizeLine; decide, fun t1 ht1 => ?_⟩
            refine ⟨q.1, t1, _, _, rfl, rfl, (same_upd ht1) _ _ hq6, upd_same, ?_, fun t2 ht2 => ?_⟩
            · have : q.2.length = i := (arr_mem.mp (List.mem_of_getElem? hja)).1
              unfold natV
              rw [List.length_map, this, sizeLine_eq]
              show i + 1 ≤ _
              omega
            have st := (same_upd ht1).trans (same_upd (o := .lst (natV q.2 ++ [.int (0 + (m : Nat))])) ht2)
            have hLg6 := s5 _ _ hLl
            refine kQ _ _ st ⟨fs ++ [(t2, q.2 ++ [m])], by rw [refs_snoc], (f1.same st).append fun z hz => ?_, (f2.same st).append fun z hz => ?_, by rw [List.map_append, f3, nextsTo_yes hmq] <;> rfl⟩
            · rw [List.mem_singleton.mp hz]
              refine ⟨ne_of_new (same_upd ht1) ht2 hDl, ?_⟩
              rw [upd_same, natV_snoc, Int.zero_add]
            · rw [List.mem_singleton.mp hz]
              refine ⟨ne_of_new (same_upd ht1) ht2 hLg6, ?_⟩
              rw [upd_same, natV_snoc, Int.zero_add]
        · obtain ⟨fs, rfl, f1, f2, f3⟩ := hP
          rw [show nextsTo es.length es.length q.2 = nexts es.length q.2 from rfl] at f3
          refine ⟨Lg, D, _, _, rfl, rfl, s5 _ _ hLl, hDl, ?_, ?_⟩
          · rw [refs_len, sizeLine_eq]; rw [refs_len] at hyl; rw [refs_len]; omega
          have of := off_upd (D := Lg) (H := H5) (o := .lst (refs ks ++ refs fs))
          refine ⟨same_off hLg (s3.trans s5) of, ks ++ fs, _, rfl, by rw [refs_append]; exact upd_same, ((hkl.same s5).append f2).off of, ?_⟩
          rw [List.map_append, eks, f3, take_next1 hja, flatMap_snoc]
      · obtain ⟨s3, ks, u4, rfl, hLl, hkl, eks⟩ := h
        refine ⟨_, rfl, s1.trans s3, Lg, ks, _, _, _, rfl, s1.free hLg, hLl, hkl, ?_⟩
        rw [eks, arr_succ, List.take_of_length_le (by rw [refs_len, ← els, List.length_map]; exact Nat.le_refl _)]
    · obtain ⟨s1, F, ls, v2, v3, v4, rfl, hF0', hF, hls, els⟩ := h
      rw [refs_len] at els
      have hF2 : H1 F = some (sqO false (refs ls)) := hF
      have hll : ls.length ≤ 24 := by
        have e := congrArg List.length els
        rw [List.length_map] at e
        rw [e]
        exact arr_len _ h4
      refine ⟨_, rfl, false, F, rfl, ⟨_, sd_of hF2⟩, fun D hD => ?_⟩
      refine lc_mapD (tsd_walk (K := K) (t := false) (a := F) (xs := refs ls)) (fun i y H => ∃ q, ls[i]? = some q ∧ ∃ t, y = .ref t ∧ t ≠ D ∧ H t = some (.lst (refs (pick es q.2)))) hD (fun H2 s2 => sd_of (t := false) (s2 _ _ hF2)) (fun i y H H' acc hDl of ⟨q, e, t, ey, hne, ht⟩ => ⟨q, e, t, ey, hne, of _ _ hne ht⟩)
        (by rw [refs_len, sizeLine_eq]; omega) (fun i x H2 H2' hi s2 ⟨acc, hacc⟩ hy Q' k' => ?_) fun H2 ys s2 hDl hlen hR => ?_
      · obtain ⟨rfl, hx⟩ := hy
        obtain ⟨q, hq, rfl⟩ := refs_at hx
        have hqm := List.mem_of_getElem? hq
        have hq2 : H2' q.1 = some (sqO false (natV q.2)) := s2 _ _ (hls q hqm).2
        obtain ⟨ql, _, qn⟩ := arr_mem.mp (show q.2 ∈ arr es.length es.length by rw [← els]; exact List.mem_map.mpr ⟨q, hqm, rfl⟩)
        refine ⟨rfl, _, rfl, false, q.1, rfl, ⟨_, sd_of hq2⟩, fun D2 hD2 => ?_⟩
        refine lc_mapS (tsd_walk (K := K) (t := false) (a := q.1) (xs := natV q.2)) (fun j y H => (refs (pick es q.2))[j]? = some y) hD2 (fun H3 s3 => sd_of (t := false) (s3 _ _ hq2)) (fun i y H H' acc _ _ e => e) (by unfold natV; rw [List.length_map, sizeLine_eq]; omega) (fun j x H3 H3' hj s3 hy Q2 k2 => ?_) fun H3 zs s3 hDl3 hlen3 hR3 => ?_
        · obtain ⟨rfl, hx⟩ := hy
          unfold natV at hx
          rw [List.getElem?_map] at hx
          cases en : q.2[j]? with
          | none => rw [en] at hx; cases hx
          | some n =>
            rw [en] at hx
            obtain rfl : V.int ((n : Nat) : Int) = x := Option.some.inj hx
            have hn := qn n (List.mem_of_getElem? en)
            have hp : (refs es)[n]? = some (.ref (es[n]).1) := by unfold refs; rw [List.getElem?_map, List.getElem?_eq_getElem hn]; rfl
            refine ⟨rfl, _, rfl, _, rfl, a, _, _, _, rfl, rfl, SqT.of (s3 _ _ (s2 _ _ (s1 _ _ ha))), atI_nat hp, k2 _ _ (Same.refl _) ?_⟩
            unfold refs
            rw [List.getElem?_map, pick_at qn, en]
            show ((es[n]?).map _) = _
            rw [List.getElem?_eq_getElem hn] <;> rfl
        · have ezs : zs = refs (pick es q.2) := ext_at (by rw [hlen3, refs_len, pick_len qn]; unfold natV; rw [List.length_map]) hR3
          subst ezs
          exact k' _ _ s3 ⟨q, hq, D2, rfl, ne_of_new (Same.refl _) hD2 hacc, hDl3⟩
      · obtain ⟨os, rfl, h1, h2⟩ := en_ofL (f := fun q : Addr × List Nat => pick es q.2) (H := H2) (ys := ys) (bs := ls) (by rw [hlen, refs_len]) (fun i y e => by
          obtain ⟨q, e1, t, e2, _, e3⟩ := hR i y e
          exact ⟨q, e1, t, e2, e3⟩)
        refine k D os _ (s1.trans s2) (s1.free hD) hDl (fun q hq => ⟨h1 q hq, ?_⟩) (fun l hl => ?_) (by
          have e := congrArg List.length h2
          rw [List.length_map, List.length_map] at e
          omega)
        · have : q.2 ∈ os.map (·.2) := List.mem_map.mpr ⟨q, hq, rfl⟩
          rw [h2] at this
          obtain ⟨z, hz, e⟩ := List.mem_map.mp this
          rw [← e]
          exact pick_perm (by rw [← els]; exact List.mem_map.mpr ⟨z, hz, rfl⟩)
        · obtain ⟨idx, h3, rfl⟩ := perm_pick hl
          rw [h2]
          rw [← els] at h3
          obtain ⟨z, hz, e⟩ := List.mem_map.mp h3
          exact List.mem_map.mpr ⟨z, hz, by rw [← e]⟩
end
end CA
set_option Elab.async false
set_option linter.all false
set_option maxRecDepth 100000
set_option maxHeartbeats 1000000
namespace CA
open PySem PySem.Spec PyProof.Rows L2
/-! ### coverings as they are listed -/
theorem filterMap_congr2 {α β : Type} {f g : α → Option β} : ∀ {l : List α}, (∀ x ∈ l, f x = g x) → l.filterMap f = l.filterMap g
  | [], _ => rfl
  | x :: l, h => by
    have e := filterMap_congr2 (l := l) fun y hy => h y (List.mem_cons_of_mem _ hy)
    have hx := h x List.mem_cons_self
    cases q : g x with
    | none => rw [List.filterMap_cons_none (hx.trans q), List.filterMap_cons_none q, e]
    | some y => rw [List.filterMap_cons_some (hx.trans q), List.filterMap_cons_some q, e]
theorem un64 {k : Nat} {A : Around} (r : Room k A) : A.units + 64 < cLine := by
  have := r.un
  omega
theorem dec_nat (n m : Nat) : decide (V.int ((n : Nat) : Int) = V.int ((m : Nat) : Int)) = decide (n = m) := by
  by_cases h : n = m
  · subst h; simp
  · have : ¬ V.int ((n : Nat) : Int) = V.int ((m : Nat) : Int) := fun e => by injection e with e; omega
    rw [decide_eq_false h, decide_eq_false this]
def intV (l : List Int) : List V := l.map V.int
structure IsCovs (as bs : List (At Str)) (vs : List Int) (ts : List (List Int)) : Prop where
  asc : ts.Pairwise fun t u => TS.code 10 t < TS.code 10 u
  mem : ∀ t, t ∈ ts ↔ CovBy as bs vs t
theorem IsCovs.one {as bs : List (At Str)} {vs : List Int} {ts us : List (List Int)} (h : IsCovs as bs vs ts) (g : IsCovs as bs vs us) : ts = us :=
  order_one (fun a b h1 h2 => by omega) h.asc g.asc fun x => (h.mem x).trans (g.mem x).symm
theorem code_inj {B : Int} : ∀ {t u : List Int}, t.length = u.length → TS.Bd B t → TS.Bd B u → TS.code B t = TS.code B u → t = u
  | [], [], _, _, _, _ => rfl
  | x :: t, y :: u, hl, h1, h2, e => by
    have hl' : t.length = u.length := by simpa using hl
    rcases Int.lt_trichotomy x y with h | h | h
    · have := TS.code_lt hl' h1.tail h2.tail h
      omega
    · subst h
      have i1 := (TS.code_same (B := B) (d := x) hl').mpr
      have i2 := (TS.code_same (B := B) (d := x) hl'.symm).mpr
      have : TS.code B t = TS.code B u := by
        rcases Int.lt_trichotomy (TS.code B t) (TS.code B u) with q | q | q
        · have := i1 q; omega
        · exact q
        · have := i2 q; omega
      rw [code_inj hl' h1.tail h2.tail this]
    · have := TS.code_lt hl'.symm h2.tail h1.tail h
      omega
theorem cov_len {as bs : List (At Str)} {vs t : List Int} (h : CovBy as bs vs t) : as.length = bs.length ∧ t.length = vs.length := by
  obtain ⟨f, rfl, pm⟩ := h
  have := pm.length_eq
  rw [List.length_map] at this
  exact ⟨this, List.length_map _⟩
theorem cov_bd {as bs : List (At Str)} {vs t : List Int} (hv : IsVars as vs) (hb : ∀ b ∈ bs, OkA b) (h : CovBy as bs vs t) : TS.Bd 10 t := by
  obtain ⟨f, rfl, pm⟩ := h
  intro m hm
  obtain ⟨x, hx, rfl⟩ := List.mem_map.mp hm
  obtain ⟨a, ha, e⟩ := (hv.mem x).1 hx
  obtain ⟨_, b1, b2, b3, b4⟩ := hb (ap f a) (pm.mem_iff.mp (List.mem_map.mpr ⟨a, ha, rfl⟩))
  have c1 : 0 ≤ f a.2.1 := b1
  have c2 : f a.2.1 ≤ 9 := b2
  have c3 : 0 ≤ f a.2.2 := b3
  have c4 : f a.2.2 ≤ 9 := b4
  rcases e with rfl | rfl <;> omega
/-- a permutation of the values comes from one of the entries -/
theorem perm_lift {l : List (At Str)} {fs : En (At Str)} (h : l.Perm (fs.map (·.2))) : ∃ g : En (At Str), g.Perm fs ∧ g.map (·.2) = l := by
  obtain ⟨idx, h1, e⟩ := perm_pick h
  rw [List.length_map] at h1
  refine ⟨pick fs idx, pick_perm h1, ?_⟩
  rw [e]
  unfold pick
  rw [List.map_filterMap]
  refine filterMap_congr2 fun i _ => ?_
  rw [List.getElem?_map]
def sp_sending : Sp := fun vs H Q _ => ∃ (a b : Addr) (es os : En (At Str)), vs = [.ref a, .ref b] ∧ H a = some (.tup (refs es)) ∧ Lay aV H es ∧ H b = some (.lst (refs os)) ∧ Lay aV H os ∧ es.length = os.length ∧ es.length ≤ 4 ∧
  (sendF [] (es.map (·.2)) (os.map (·.2)) = none → ∀ H', Same H H' → Q .non H') ∧ ∀ m p H', sendF [] (es.map (·.2)) (os.map (·.2)) = some m → Same H H' → H p = none → H' p = some (.dK (mpV m)) → Q (.ref p) H'
def sp_raw_coverings : Sp := fun vs H Q _ => ∃ (a b : Addr) (es fs : En (At Str)), vs = [.ref a, .ref b] ∧ H a = some (.tup (refs es)) ∧ Lay aV H es ∧ H b = some (.tup (refs fs)) ∧ Lay aV H fs ∧ (∀ p ∈ fs, OkA p.2) ∧ 1 ≤ es.length ∧ es.length ≤ 4 ∧ fs.length ≤ 4 ∧
  ∀ (p : Addr) (ts : En (List Int)) H', Same H H' → H p = none → H' p = some (.lst (refs ts)) → Lay intV H' ts → (∀ vs, IsVars (es.map (·.2)) vs → IsCovs (es.map (·.2)) (fs.map (·.2)) vs (ts.map (·.2))) → ts.length ≤ 63 → Q (.ref p) H'
section
variable {P : Program} {w : World} {K : PySem.W.Frag} {mg : Str → Option Value} {base : Heap}

theorem sc_sending : FnScope ["atoms", "others", "known", "atom", "other"] ["atoms", "others"] (defScope s_sending) := ⟨rfl, rfl, rfl, by decide +kernel, rfl, by decide +kernel, by decide +kernel⟩
theorem ok_sending (T : Txt K mg) : Ok P w K mg base 2 "sending" ["atoms", "others"] sp_sending := by
  have S := sc_sending
  have OE : Ok P w K mg base 1 "extended" ["found", "pairs"] sp_extended := ok_extended T
  refine mkOk T.d_sending S (fun _ _ _ _ _ _ us hl => match us, hl with | [_, _], _ => rfl) (fun vs H Q E h => ?_) (fun cdv A outer s H vs Q E hr h => ?_)
  · obtain ⟨a, b, es, os, rfl, _⟩ := h
    rfl
  · obtain ⟨a, b, es, os, rfl, ha, hla, hb, hlb, hlen, h4, kN, kS⟩ := h
    have ha2 : H a = some (sqO true (refs es)) := ha
    have hb2 : H b = some (sqO false (refs os)) := hb
    refine ⟨_, (pss_cons (ps_set (i := 2) S.nd rfl (.inl rfl) pe_dnewK) (pss_cons (ps_for PassesOwn.never rfl (pi_zipM (by rfl) T.f_zip (pa_cons (pv 0) (pa_cons (pv 1) pa_nil))) (pg_tup rfl (pgs_cons (pg_name (i := 3) S.nd rfl (Or.inl rfl)) (pgs_cons (pg_name (i := 4) S.nd rfl (Or.inl rfl)) pgs_nil))) (pss_cons (ps_set (i := 2) S.nd rfl (.inl rfl) (pe_ifExp (pt_cmpR op_eq (pe_ix ix_tup (pv 3) pe_int (fun _ _ => rfl)) (pe_ix ix_tup (pv 4) pe_int (fun _ _ => rfl)) (nomark _)) (pcl OE hr (pa_cons (pv 2) (pa_cons (pe_lst (pa_cons (pe_tup (pa_cons (pe_ix ix_tup (pv 3) pe_int (fun _ _ => rfl)) (pa_cons (pe_ix ix_tup (pv 4) pe_int (fun _ _ => rfl)) pa_nil))) (pa_cons (pe_tup (pa_cons (pe_ix ix_tup (pv 3) pe_int (fun _ _ => rfl)) (pa_cons (pe_ix ix_tup (pv 4) pe_int (fun _ _ => rfl)) pa_nil))) pa_nil))) pa_nil))) pe_non)) (pss_one (ps_if (pt_cmpR op_isN (pv 2) pe_non (nomark _)) (pss_one (ps_ret pe_non)) pss_nil)))) (pss_one (ps_ret (pv 2))))), ?_⟩
    refine fun d0 hd0 => ?_
    have s0 := same_upd (o := .dK []) hd0
    refine ⟨_, rfl, _, rfl, true, false, a, b, _, _, rfl, sd_of (s0 _ _ ha2), sd_of (s0 _ _ hb2), ?_⟩
    refine for_it (walk_zipM (K := K) (t1 := true) (t2 := false) (a := a) (b := b) (xs := refs es) (ys := refs os) (n := es.length) (by rw [refs_len, refs_len, ← hlen, Nat.min_self]) (fun _ _ _ _ => trivial))
      (fun i σ H' => Same H H' ∧ ∃ (D : Addr) (m : Mp) (v3 v4 : Option V), σ = [some (.ref a), some (.ref b), some (.ref D), v3, v4] ∧ H D = none ∧ H' D = some (.dK (mpV m)) ∧ sendF [] ((es.map (·.2)).take i) ((os.map (·.2)).take i) = some m ∧ m.length ≤ 2 * i)
      ⟨s0, d0, [], none, none, rfl, hd0, upd_same, rfl, Nat.le_refl _⟩ (fun i σ H' _ h => ⟨sd_of (h.1 _ _ ha2), sd_of (h.1 _ _ hb2)⟩) (fun i x σ H1 H2 hi h hy => ?_) fun σ H1 h => ?_
    · obtain ⟨s1, D, m, v3, v4, rfl, hD0, hD, hm, hml⟩ := h
      obtain ⟨t, x, y, rfl, ht, rfl, hx, hy⟩ := hy
      obtain ⟨p, hp, rfl⟩ := refs_at hx
      obtain ⟨q, hq, rfl⟩ := refs_at hy
      have st := same_upd (o := .tup [.ref p.1, .ref q.1]) ht
      have s2 := s1.trans st
      have hpt := s2 _ _ (hla p (List.mem_of_getElem? hp))
      have hqt := s2 _ _ (hlb q (List.mem_of_getElem? hq))
      have tka : (es.map (·.2)).take (i + 1) = (es.map (·.2)).take i ++ [p.2] := take_next1 (by rw [List.getElem?_map, hp]; rfl)
      have tkb : (os.map (·.2)).take (i + 1) = (os.map (·.2)).take i ++ [q.2] := take_next1 (by rw [List.getElem?_map, hq]; rfl)
      have hlt : ((es.map (·.2)).take i).length = ((os.map (·.2)).take i).length := by rw [List.length_take, List.length_take, List.length_map, List.length_map, hlen]
      have nxt := send_snoc (m := []) p.2 q.2 hlt
      rw [hm, ← tka, ← tkb] at nxt
      refine ⟨_, _, rfl, SqT.of upd_same, rfl, _, _, rfl, _, _, rfl, rfl, ?_⟩
      refine ⟨_, rfl, _, _, _, _, rfl, rfl, SqT.of hpt, rfl, _, rfl, _, _, _, _, rfl, rfl, SqT.of hqt, rfl, rfl, decide (p.2.1 = q.2.1), congrArg V.bl (by simp), ?_⟩
      have out : ∀ H7, Same H H7 → sendF [] ((es.map (·.2)).take (i + 1)) ((os.map (·.2)).take (i + 1)) = none → Q .non H7 := fun H7 s7 e => kN (send_cut (by rw [List.length_map, List.length_map, hlen]) e) H7 s7
      refine ite2 (fun hk => ?_) (fun hk => ?_)
      · have hk : p.2.1 = q.2.1 := of_decide_eq_true hk
        have nxt2 : sendF [] ((es.map (·.2)).take (i + 1)) ((os.map (·.2)).take (i + 1)) = ext m p.2.2.1 q.2.2.1 p.2.2.2 q.2.2.2 := by
          rw [nxt]
          show (if p.2.1 = q.2.1 then _ else none) = _
          rw [if_pos hk]
        refine ⟨_, rfl, _, rfl, _, _, _, _, rfl, rfl, SqT.of hpt, rfl, _, rfl, _, _, _, _, rfl, rfl, SqT.of hqt, rfl, by show 2 ≤ sizeLine; decide, fun t1 ht1 => ?_⟩
        have e1 := same_upd (o := .tup [.int p.2.2.1, .int q.2.2.1]) ht1
        refine ⟨_, rfl, _, _, _, _, rfl, rfl, SqT.of (e1 _ _ hpt), rfl, _, rfl, _, _, _, _, rfl, rfl, SqT.of (e1 _ _ hqt), rfl, by show 2 ≤ sizeLine; decide, fun t2 ht2 => ?_⟩
        have e2 := same_upd (o := .tup [.int p.2.2.2, .int q.2.2.2]) ht2
        refine ⟨by show 2 ≤ sizeLine; decide, fun l1 hl1 => ?_⟩
        have e3 := same_upd (o := .lst [.ref t1, .ref t2]) hl1
        have e123 := e1.trans (e2.trans e3)
        refine ⟨D, l1, m, [(t1, p.2.2.1, q.2.2.1), (t2, p.2.2.2, q.2.2.2)], rfl, e123 _ _ (st _ _ hD), upd_same, fun z hz => ?_, Nat.le_refl 2, by omega, fun en H7 s7 => ?_, fun m' D' H7 en s7 hDn hDd => ?_⟩
        · rcases List.mem_cons.mp hz with e | hz
          · rw [e]; exact (e2.trans e3) _ _ upd_same
          · rw [List.mem_singleton.mp hz]; exact e3 _ _ upd_same
        · refine ⟨_, rfl, rfl, true, rfl, iteT ?_⟩
          have e0 : ext m p.2.2.1 q.2.2.1 p.2.2.2 q.2.2.2 = none := by rw [← extL_two]; exact en
          exact out H7 (s2.trans (e123.trans s7)) (by rw [nxt2, e0])
        · have e0 : ext m p.2.2.1 q.2.2.1 p.2.2.2 q.2.2.2 = some m' := by rw [← extL_two]; exact en
          have h1 := extL_len _ en
          simp only [List.map_cons, List.map_nil, List.length_cons, List.length_nil] at h1
          refine ⟨_, rfl, rfl, false, rfl, iteF ?_⟩
          exact ⟨s2.trans (e123.trans s7), D', m', _, _, rfl, (s2.trans e123).free hDn, hDd, by rw [nxt2, e0], by omega⟩
      · have hk : ¬ p.2.1 = q.2.1 := of_decide_eq_false (by simpa using hk)
        refine ⟨_, rfl, rfl, true, rfl, iteT ?_⟩
        refine out _ s2 ?_
        rw [nxt]
        show (if p.2.1 = q.2.1 then _ else none) = none
        rw [if_neg hk]
    · obtain ⟨s1, D, m, v3, v4, rfl, hD0, hD, hm, hml⟩ := h
      rw [List.take_of_length_le (by rw [List.length_map]; exact Nat.le_refl _), List.take_of_length_le (by rw [List.length_map, ← hlen]; exact Nat.le_refl _)] at hm
      exact ⟨_, rfl, kS m D _ hm s1 hD0 hD⟩
theorem sc_raw_coverings : FnScope ["atoms", "others", "names", "found", "mixed", "known", "name"] ["atoms", "others"] (defScope s_raw_coverings) := ⟨rfl, rfl, rfl, by decide +kernel, rfl, by decide +kernel, by decide +kernel⟩
theorem ok_raw_coverings (T : Txt K mg) : Ok P w K mg base 3 "raw_coverings" ["atoms", "others"] sp_raw_coverings := by
  have S := sc_raw_coverings
  have OV : Ok P w K mg base 1 "variables_of" ["atoms"] sp_variables_of := ok_variables_of T
  have OO : Ok P w K mg base 1 "orders" ["things"] sp_orders := ok_orders T
  have OS : Ok P w K mg base 2 "sending" ["atoms", "others"] sp_sending := ok_sending T
  refine mkOk T.d_raw_coverings S (fun _ _ _ _ _ _ us hl => match us, hl with | [_, _], _ => rfl) (fun vs H Q E h => ?_) (fun cdv A outer s H vs Q E hr h => ?_)
  · obtain ⟨a, b, es, fs, rfl, _⟩ := h
    rfl
  · obtain ⟨a, b, es, fs, rfl, ha, hla, hb, hlb, hok, h1, h4, hf4, k⟩ := h
    have hu1 := hu_of hr
    have hu64 := (un64 hr)
    refine ⟨_, (pss_cons (ps_if (pt_cmpR op_ne (pe_callB call_len_seq (by rfl) T.f_len (by decide +kernel) (pa_cons (pv 0) pa_nil)) (pe_callB call_len_seq (by rfl) T.f_len (by decide +kernel) (pa_cons (pv 1) pa_nil)) (nomark _)) (pss_one (ps_ret (pe_lst pa_nil))) pss_nil) (pss_cons (ps_par (i := 2) (j := 3) (by rfl) S.nd rfl rfl (by decide) rfl rfl (pa_cons (pcl OV (hr.mono (by decide)) (pa_cons (pv 0) pa_nil)) (pa_cons (pe_lst pa_nil) pa_nil)) (by rfl)) (pss_cons (ps_for PassesOwn.never rfl (pi_sd (pcl OO (hr.mono (by decide)) (pa_cons (pv 1) pa_nil))) (pg_name (i := 4) S.nd rfl (Or.inl rfl)) (pss_cons (ps_set (i := 5) S.nd rfl (.inr rfl) (pcl OS hr (pa_cons (pv 0) (pa_cons (pv 4) pa_nil)))) (pss_one (ps_if (pt_cmpR op_notN (pv 5) pe_non (nomark _)) (pss_one (ps_expr (pe_bm PySem.F.plainAttrs_list PySem.F.slot_list_append PySem.F.type_list_append mt_append (pv 3) (pa_cons (pe_callTy call_tuple_of (by rfl) T.f_tuple (by decide +kernel) (pa_cons (pe_lc (own := [("name", 6)]) rfl S.nd (pi_sd (pv 2)) (blkOk_by (N := ["atoms", "others", "names", "found", "mixed", "known", "name"]) (sc := defScope s_raw_coverings) (by decide +kernel)) (fun _ _ _ _ _ => (pg_name (i := 6) S.nd rfl (Or.inl rfl))) (fun _ _ _ _ _ => pts_nil) (fun _ _ _ _ _ => (pe_dget hu1 (pv 5) (pv 6) (fun _ _ => rfl)))) pa_nil)) pa_nil)))) pss_nil)))) (pss_one (ps_ret (pe_callB (cr_sortedT rfl) (by rfl) T.f_sorted (by decide +kernel) (pa_cons (pe_callTy (cr_setOfT rfl hu64) (by rfl) T.f_set (by decide +kernel) (pa_cons (pv 3) pa_nil)) pa_nil))))))), ?_⟩
    refine ⟨_, rfl, _, _, rfl, .inr (SqT.of ha), _, rfl, _, _, rfl, .inr (SqT.of hb), rfl, !decide (es.length = fs.length), congrArg V.bl (by rw [refs_len, refs_len, dec_nat]), ?_⟩
    by_cases hlen : es.length = fs.length
    · rw [decide_eq_true hlen]
      refine iteF ?_
      refine ⟨_, rfl, a, es, rfl, ha, hla, h4, fun np ns H1 s1 hnp hns hnt => ?_⟩
      refine ⟨Nat.zero_le _, fun F hF => ?_⟩
      refine ⟨_, _, rfl, ?_⟩
      have e0 := same_upd (o := .lst []) hF
      have s2 := s1.trans e0
      refine ⟨_, rfl, b, fs, rfl, s2 _ _ hb, hf4, fun op os H3 s3 hop hol hos hall hol24 => ?_⟩
      have hF3 : H3 F = some (.lst []) := s3 _ _ upd_same
      have hns8 : ns.length ≤ 8 := vars_len hns (by rw [List.length_map]; exact h4)
      have hol2 : H3 op = some (sqO false (refs os)) := hol
      have opF : op ≠ F := ne_of_new (Same.refl _) hop upd_same
      have qF : ∀ q ∈ os, q.1 ≠ F := fun q hq e => by
        have h := (hos q hq).1
        rw [e, hF3] at h
        have e2 : ([] : List V) = refs q.2 := by injection h with h; injection h
        have e3 := congrArg List.length e2
        rw [refs_len, (hos q hq).2.length_eq] at e3
        simp at e3
        omega
      have s23 : Same H H3 := s2.trans s3
      refine ⟨false, op, rfl, ⟨_, sd_of hol2⟩, ?_⟩
      refine for_it (tsd_walk (K := K) (t := false) (a := op) (xs := refs os)) (fun i σ H' => Off F H3 H' ∧ ∃ (ts : En (List Int)) (v4 v5 : Option V), σ = [some (.ref a), some (.ref b), some (.ref np), some (.ref F), v4, v5, none] ∧
          H' F = some (.lst (refs ts)) ∧ Lay intV H' ts ∧ (∀ t ∈ ts, CovBy (es.map (·.2)) (fs.map (·.2)) ns t.2) ∧ (∀ q ∈ os.take i, ∀ f : Int → Int, q.2.map (·.2) = (es.map (·.2)).map (ap f) → ns.map f ∈ ts.map (·.2)) ∧ ts.length ≤ i)
        ⟨fun _ _ _ e => e, [], none, none, rfl, hF3, fun p hp => absurd hp List.not_mem_nil, fun t ht => absurd ht List.not_mem_nil, fun q hq => by rw [List.take_zero] at hq; exact absurd hq List.not_mem_nil, Nat.le_refl _⟩
        (fun i σ H' _ h => sd_of (t := false) (h.1 _ _ opF hol2)) (fun i x σ H4 H5 hi h hy => ?_) fun σ H4 h => ?_
      · obtain ⟨o4, ts, v4, v5, rfl, hF4, hlt, hcv, hcm, htl⟩ := h
        obtain ⟨rfl, hx⟩ := hy
        obtain ⟨q, hq, rfl⟩ := refs_at hx
        have hqm := List.mem_of_getElem? hq
        obtain ⟨hq3, hqp⟩ := hos q hqm
        have hi24 : i < 24 := by rw [refs_len] at hi; omega
        have ha5 : H5 a = some (.tup (refs es)) := o4.tup hF3 (s23 _ _ ha)
        have hla5 : Lay aV H5 es := fun p hp => o4.tup hF3 (s23 _ _ (hla p hp))
        have hlq5 : Lay aV H5 q.2 := fun p hp => o4.tup hF3 (s23 _ _ (hlb p (hqp.mem_iff.mp hp)))
        have tk : os.take (i + 1) = os.take i ++ [q] := take_next1 hq
        have hlq : es.length = q.2.length := by rw [hqp.length_eq, hlen]
        refine ⟨_, rfl, _, rfl, a, q.1, es, q.2, rfl, ha5, hla5, o4 _ _ (qF q hqm) hq3, hlq5, hlq, h4, fun en H7 s7 => ?_, fun m D H7 em s7 hD hDd => ?_⟩
        · refine ⟨_, rfl, rfl, false, rfl, iteF ?_⟩
          refine ⟨o4.trans (off_same s7), ts, _, _, rfl, s7 _ _ hF4, hlt.same s7, hcv, fun z hz f ef => ?_, by omega⟩
          rw [tk] at hz
          rcases List.mem_append.mp hz with hz | hz
          · exact hcm z hz f ef
          · rw [List.mem_singleton.mp hz] at ef
            exact absurd ⟨fun k v h => by simp [look] at h, ef⟩ (send_none (by rw [List.length_map, List.length_map, hlq]) en f)
        · refine ⟨_, rfl, rfl, true, rfl, iteT ?_⟩
          have hn7 : H7 np = some (sqO true (ns.map V.int)) := s7 _ _ (o4.tup hF3 (s3 _ _ (e0 _ _ hnt)))
          refine ⟨_, rfl, .inl ⟨rfl, _, SqL.of (s7 _ _ hF4)⟩, _, rfl, true, np, rfl, ⟨_, sd_of hn7⟩, fun D2 hD2 => ?_⟩
          refine lc_mapS (tsd_walk (K := K) (t := true) (a := np) (xs := ns.map V.int)) (fun j y H => (ns.map fun x => V.int ((look m x).getD 0))[j]? = some y) hD2 (fun H8 s8 => sd_of (s8 _ _ hn7)) (fun i y H H' acc _ _ e => e) (by rw [List.length_map, sizeLine_eq]; omega) (fun j x H8 H8' hj s8 hy Q2 k2 => ?_) fun H8 zs s8 hDl8 hlen8 hR8 => ?_
          · obtain ⟨rfl, hx⟩ := hy
            rw [List.getElem?_map] at hx
            cases en : ns[j]? with
            | none => rw [en] at hx; cases hx
            | some n =>
              rw [en] at hx
              obtain rfl : V.int n = x := Option.some.inj hx
              have hv : VarOf (es.map (·.2)) n := (hns.mem n).1 (List.mem_of_getElem? en)
              obtain ⟨z, hz⟩ := Option.isSome_iff_exists.mp ((send_some (by rw [List.length_map, List.length_map, hlq]) em).2 n (.inr hv))
              refine ⟨rfl, _, rfl, _, rfl, _, _, rfl, .inl ⟨_, Sum.inl n, .inl (s8 _ _ hDd), rfl, ?_⟩, k2 (.int z) _ (Same.refl _) ?_⟩
              · rw [val_mp, hz] <;> rfl
              · rw [List.getElem?_map, en]
                show some (V.int ((look m n).getD 0)) = _
                rw [hz] <;> rfl
          · have ezs : zs = intV (ns.map fun x => (look m x).getD 0) := by
              have e := ext_at (ys := zs) (zs := ns.map fun x => V.int ((look m x).getD 0)) (by rw [hlen8, List.length_map, List.length_map]) hR8
              rw [e]
              unfold intV
              rw [List.map_map] <;> rfl
            refine ⟨D2, zs, rfl, .inl ⟨SqL.of hDl8, fun t1 ht1 => ?_⟩⟩
            have s9 := s7.trans (s8.trans (same_upd (o := .tup zs) ht1))
            have cv : CovBy (es.map (·.2)) (fs.map (·.2)) ns (ns.map fun x => (look m x).getD 0) := send_cov hns (by rw [List.length_map, List.length_map, hlq]) em (hqp.map _)
            refine ⟨F, _, _, rfl, rfl, s9 _ _ hF4, by rw [refs_len, sizeLine_eq]; omega, ?_⟩
            have of := off_upd (D := F) (H := upd H8 t1 (.tup zs)) (o := .lst (refs ts ++ [.ref t1]))
            refine ⟨o4.trans ((off_same s9).trans of), ts ++ [(t1, ns.map fun x => (look m x).getD 0)], _, _, rfl, by rw [refs_snoc]; exact upd_same, fun z hz => ?_, fun z hz => ?_, fun z hz f ef => ?_, by rw [List.length_append, List.length_singleton]; omega⟩
            · rcases List.mem_append.mp hz with h | h
              · exact of.tup (s9 _ _ hF4) (s9 _ _ (hlt z h))
              · rw [List.mem_singleton.mp h]
                refine of.tup (s9 _ _ hF4) ?_
                rw [upd_same, ezs]
            · rcases List.mem_append.mp hz with h | h
              · exact hcv z h
              · rw [List.mem_singleton.mp h]; exact cv
            · rw [tk] at hz
              rw [List.map_append]
              rcases List.mem_append.mp hz with hz | hz
              · exact List.mem_append_left _ (hcm z hz f ef)
              · rw [List.mem_singleton.mp hz] at ef
                obtain ⟨m2, e1, e2⟩ := cov_send hns ef
                rw [em] at e1
                cases e1
                refine List.mem_append_right _ ?_
                rw [← e2]
                exact List.mem_singleton.mpr rfl
      · obtain ⟨o4, ts, v4, v5, rfl, hF4, hlt, hcv, hcm, htl⟩ := h
        rw [List.take_of_length_le (by rw [refs_len]; exact Nat.le_refl _)] at hcm
        rw [refs_len] at htl
        have s14 : Same H1 H4 := fun c u e => o4 _ _ (ne_of_none e hF) (s3 _ _ (e0 _ _ e))
        have ball : ∀ b ∈ fs.map (·.2), OkA b := fun b hb => by
          obtain ⟨p, hp, rfl⟩ := List.mem_map.mp hb
          exact hok p hp
        have hns1 : 1 ≤ ns.length := by
          cases ns with
          | nil =>
            exfalso
            obtain ⟨p, hp⟩ : ∃ p, p ∈ es := by
              cases es with
              | nil => simp at h1
              | cons p es => exact ⟨p, List.mem_cons_self⟩
            have := (hns.mem p.2.2.1).2 ⟨p.2, List.mem_map.mpr ⟨p, hp, rfl⟩, .inl rfl⟩
            cases this
          | cons n ns => exact Nat.succ_le_succ (Nat.zero_le _)
        refine ⟨_, rfl, F, ts, rfl, SqL.of hF4, fun p hp => SqT.of (hlt p hp), by omega, fun g L hg hsub hallL => ?_⟩
        have sg := same_upd (o := SetTO P w g L) hg
        refine ⟨g, L, ns.length, 10, rfl, upd_same, fun p hp => SqT.of (sg _ _ (hlt p (hsub p hp))), hns1, fun p hp => ⟨(cov_len (hcv p (hsub p hp))).2, cov_bd hns ball (hcv p (hsub p hp))⟩, fun L' p pm nd h64 pw hp => ?_⟩
        have sp := same_upd (o := .lst (L'.map fun q => V.ref q.1)) hp
        have hcL : ∀ q ∈ L', CovBy (es.map (·.2)) (fs.map (·.2)) ns q.2 := fun q hq => hcv q (hsub q (pm.mem_iff.mp hq))
        refine k p L' _ (s1.trans (s14.trans (sg.trans sp))) ((s1.trans (s14.trans sg)).free hp) upd_same (fun q hq => sp _ _ (sg _ _ (hlt q (hsub q (pm.mem_iff.mp hq))))) (fun vs hvs => ?_) (by omega)
        have ev := hvs.one hns
        subst ev
        refine ⟨?_, fun t => ⟨fun ht => ?_, fun ht => ?_⟩⟩
        · rw [List.pairwise_map]
          have nd2 : L'.Pairwise fun q r => q.2 ≠ r.2 := List.pairwise_map.mp nd
          refine (List.Pairwise.and_mem.mp (pw.and nd2)).imp fun {q r} h => ?_
          obtain ⟨hq, hr', hle, hne⟩ := h
          have c1 := hcL q hq
          have c2 := hcL r hr'
          rcases Int.lt_or_eq_of_le hle with h | h
          · exact h
          · exact absurd (code_inj (by rw [(cov_len c1).2, (cov_len c2).2]) (cov_bd hns ball c1) (cov_bd hns ball c2) h) hne
        · obtain ⟨q, hq, rfl⟩ := List.mem_map.mp ht
          exact hcL q hq
        · obtain ⟨f, rfl, pmf⟩ := id ht
          obtain ⟨l, hl, el⟩ := perm_lift pmf
          obtain ⟨q, hq, e⟩ := List.mem_map.mp (hall l hl)
          have := hcm q hq f (by rw [e, el])
          obtain ⟨z, hz, ez⟩ := List.mem_map.mp this
          have := hallL z hz
          rw [ez] at this
          exact ((pm.map (·.2)).mem_iff).mpr this
    · rw [decide_eq_false hlen]
      refine iteT ?_
      refine ⟨Nat.zero_le _, fun p hp => ?_⟩
      refine k p [] _ (same_upd hp) hp upd_same (fun q hq => absurd hq List.not_mem_nil) (fun vs hvs => ⟨List.Pairwise.nil, fun t => ⟨fun h => absurd h List.not_mem_nil, fun h => ?_⟩⟩) (Nat.zero_le _)
      have := (cov_len h).1
      rw [List.length_map, List.length_map] at this
      exact absurd this hlen
end
end CA
set_option Elab.async false
set_option linter.all false
set_option maxRecDepth 100000
set_option maxHeartbeats 1000000
namespace CA
open PySem PySem.Spec PyProof.Rows L2
/-! ### methods -/
structure OkM (P : Program) (w : World) (K : PySem.W.Frag) (mg : Str → Option Value) (base : Heap) (k : Nat) (f : Addr) (ps : List Str) (sp : Sp) : Prop where
  ex : ∃ fd, FnOk P w K mg base CX0 k f fd ps sp ∧ Binds K fd ps []
section
variable {P : Program} {w : World} {K : PySem.W.Frag} {mg : Str → Option Value} {base : Heap}
theorem mkMet {C m qual : Str} {st : Stmt} {f : Addr} {N ps : List Str} {k : Nat} {sp : Sp} (D : MetIs K C m qual st f) (S : FnScope N ps (defScope st))
    (hb : ∀ (kV doc pm : Value) (an : Option Addr) (cdv ct : Value) (us : List Value), us.length = ps.length → bindArgs (PySem.W.fnOf m qual (defArgs st) (defBody st) (defScope st) .none kV doc pm an cdv ct) ⟨us, []⟩ = pure (ps.zip us))
    (len : ∀ vs H Q E, sp vs H Q E → vs.length = ps.length)
    (hbody : ∀ (cdv : Value) (A : Around) (outer : List Env) (s : Shared) (H : Hp) (vs : List V) (Q : VK) (E : XK), Room k (A.deeper (envOfC qual (defScope st) s.heap.objs.size f cdv)) → sp vs H Q E →
      ∃ t, PSs (cxOf CX0 P w K mg base N qual (defScope st) f cdv A outer s H E).nox (defBody st) t ∧ t { nx := fun _ H' => Q .non H', rt := Q } (start N vs) H) :
    OkM P w K mg base (k + 1) f ps sp := by
  obtain ⟨fd, F⟩ := D
  have F2 := He5.fun_of F
  exact ⟨⟨fd, F2.ok S len hbody, F2.binds hb⟩⟩
theorem fnr_of {k : Nat} {f : Addr} {fd : FuncData} {ps : List Str} {sp : Sp} (F : FnOk P w K mg base CX0 k f fd ps sp) (b : Binds K fd ps []) : FnR P w K mg base CX0 k f sp := by
  intro A outer s H us vs Q E hr e0 r h
  have hk : K.In s.heap := e0.mod.kin.keeps fun b o e => (e0.bs b o e).1
  have hl : us.length = ps.length := by rw [← r.length]; exact F.len vs H Q E h
  have q := b s us hk (by rw [List.append_nil]; exact hl)
  rw [List.append_nil] at q
  exact F.run A outer s H ⟨us, []⟩ us vs Q E hr e0 q r h
theorem OkM.fnr {k : Nat} {f : Addr} {ps : List Str} {sp : Sp} (O : OkM P w K mg base k f ps sp) : FnR P w K mg base CX0 k f sp := by
  obtain ⟨fd, F, b⟩ := O.ex
  exact fnr_of F b
end
/-! ### the order of rows as a number -/
def nk (k : Str) : Int := if k = "A" then 0 else if k = "B" then 1 else 2
theorem nk_bd (k : Str) : 0 ≤ nk k ∧ nk k ≤ 2 := by
  unfold nk
  split
  · omega
  · split <;> omega
theorem kind_inj {k k' : Str} (h : isKind k) (h' : isKind k') (e : nk k = nk k') : k = k' := by
  rcases h with rfl | rfl | rfl <;> rcases h' with rfl | rfl | rfl <;> first | rfl | (exact absurd e (by decide +kernel))
theorem kind_lt {k k' : Str} (h : isKind k) (h' : isKind k') : decide (k.cps.toList < k'.cps.toList) = decide (nk k < nk k') := by
  rcases h with rfl | rfl | rfl <;> rcases h' with rfl | rfl | rfl <;> decide +kernel
def numA (a : At Str) : Int := (nk a.1 * 100 + a.2.1) * 100 + a.2.2
def numR (r : Rw Str) : Int := numA (key r) * 20000 + oft r
def Ok99 (a : At Str) : Prop := isKind a.1 ∧ 0 ≤ a.2.1 ∧ a.2.1 ≤ 99 ∧ 0 ≤ a.2.2 ∧ a.2.2 ≤ 99
theorem ok99_of {a : At Str} (h : OkA a) : Ok99 a := ⟨h.1, h.2.1, by have := h.2.2.1; omega, h.2.2.2.1, by have := h.2.2.2.2; omega⟩
theorem okR_key {r : Rw Str} (h : OkR r) : Ok99 (key r) := ⟨h.1, h.2.1, h.2.2.1, h.2.2.2.1, h.2.2.2.2.1⟩
open PySem.W in
theorem lt_key {a b : At Str} (ha : Ok99 a) (hb : Ok99 b) : dataLt (keyD a) (keyD b) = decide (numA a < numA b) := by
  obtain ⟨k, l, r⟩ := a
  obtain ⟨k', l', r'⟩ := b
  obtain ⟨a1, a2, a3, a4, a5⟩ := ha
  obtain ⟨b1, b2, b3, b4, b5⟩ := hb
  simp only at a1 a2 a3 a4 a5 b1 b2 b3 b4 b5
  unfold keyD numA
  rw [dataLt_tuple, dataLt_cons (by simp [alike]), dataLt_cons (by simp [alike]), dataLt_cons (by simp [alike]), dataLt_str, dataLt_int, dataLt_int]
  simp only [PyData.eqv, beq_iff_eq]
  rw [kind_lt a1 b1]
  have n1 := nk_bd k
  have n2 := nk_bd k'
  by_cases h1 : k = k'
  · subst h1
    rw [if_pos rfl]
    by_cases h2 : l = l'
    · subst h2
      rw [if_pos rfl]
      by_cases h3 : r = r'
      · subst h3
        rw [if_pos rfl, lex_irrefl]
        simp
      · rw [if_neg h3]
        by_cases h : r < r'
        · rw [decide_eq_true h, decide_eq_true (by omega)]
        · rw [decide_eq_false h, decide_eq_false (by omega)]
    · rw [if_neg h2]
      by_cases h : l < l'
      · rw [decide_eq_true h, decide_eq_true (by omega)]
      · rw [decide_eq_false h, decide_eq_false (by omega)]
  · rw [if_neg h1]
    have hne : nk k ≠ nk k' := fun e => h1 (kind_inj a1 b1 e)
    by_cases h : nk k < nk k'
    · rw [decide_eq_true h, decide_eq_true (by omega)]
    · rw [decide_eq_false h, decide_eq_false (by omega)]
open PySem.W in
theorem lt_row {a b : Rw Str} (ha : OkR a) (hb : OkR b) : dataLt (rowD a) (rowD b) = decide (numR a < numR b) := by
  obtain ⟨k, l, r, o⟩ := a
  obtain ⟨k', l', r', o'⟩ := b
  obtain ⟨a1, a2, a3, a4, a5, a6, a7⟩ := ha
  obtain ⟨b1, b2, b3, b4, b5, b6, b7⟩ := hb
  simp only at a1 a2 a3 a4 a5 a6 a7 b1 b2 b3 b4 b5 b6 b7
  unfold rowD numR numA key oft
  rw [dataLt_tuple, dataLt_cons (by simp [alike]), dataLt_cons (by simp [alike]), dataLt_cons (by simp [alike]), dataLt_cons (by simp [alike]), dataLt_str, dataLt_int, dataLt_int, dataLt_int]
  simp only [PyData.eqv, beq_iff_eq]
  rw [kind_lt a1 b1]
  have n1 := nk_bd k
  have n2 := nk_bd k'
  by_cases h1 : k = k'
  · subst h1
    rw [if_pos rfl]
    by_cases h2 : l = l'
    · subst h2
      rw [if_pos rfl]
      by_cases h3 : r = r'
      · subst h3
        rw [if_pos rfl]
        by_cases h4 : o = o'
        · subst h4
          rw [if_pos rfl, lex_irrefl]
          simp
        · rw [if_neg h4]
          by_cases h : o < o'
          · rw [decide_eq_true h, decide_eq_true (by omega)]
          · rw [decide_eq_false h, decide_eq_false (by omega)]
      · rw [if_neg h3]
        by_cases h : r < r'
        · rw [decide_eq_true h, decide_eq_true (by omega)]
        · rw [decide_eq_false h, decide_eq_false (by omega)]
    · rw [if_neg h2]
      by_cases h : l < l'
      · rw [decide_eq_true h, decide_eq_true (by omega)]
      · rw [decide_eq_false h, decide_eq_false (by omega)]
  · rw [if_neg h1]
    have hne : nk k ≠ nk k' := fun e => h1 (kind_inj a1 b1 e)
    by_cases h : nk k < nk k'
    · rw [decide_eq_true h, decide_eq_true (by omega)]
    · rw [decide_eq_false h, decide_eq_false (by omega)]
theorem numA_inj {a b : At Str} (ha : Ok99 a) (hb : Ok99 b) (e : numA a = numA b) : a = b := by
  obtain ⟨k, l, r⟩ := a
  obtain ⟨k', l', r'⟩ := b
  obtain ⟨a1, a2, a3, a4, a5⟩ := ha
  obtain ⟨b1, b2, b3, b4, b5⟩ := hb
  simp only at a1 a2 a3 a4 a5 b1 b2 b3 b4 b5
  unfold numA at e
  simp only at e
  have n1 := nk_bd k
  have n2 := nk_bd k'
  have e1 : nk k = nk k' := by omega
  have e2 : l = l' := by omega
  have e3 : r = r' := by omega
  rw [kind_inj a1 b1 e1, e2, e3]
/-- sorted rows of different keys: the same as any other ascending list of them -/
theorem rows_one {rs rs' : List (Rw Str)} (ok : ∀ r ∈ rs, OkR r) (nd : (rs.map key).Nodup) (pm : rs'.Perm rs) (pw : rs'.Pairwise fun a b => PySem.W.dataLe false rowD a b = true) (asc : rs.Pairwise fun a b => numA (key a) < numA (key b)) : rs' = rs := by
  refine order_one (r := fun a b => numA (key a) < numA (key b)) (fun a b h1 h2 => by omega) ?_ asc fun x => pm.mem_iff
  have nd2 : rs'.Pairwise fun a b => key a ≠ key b := List.pairwise_map.mp ((pm.map key).nodup_iff.mpr nd)
  refine (List.Pairwise.and_mem.mp (pw.and nd2)).imp fun {a b} h => ?_
  obtain ⟨ha, hb, hle, hne⟩ := h
  have oa := ok a (pm.mem_iff.mp ha)
  have ob := ok b (pm.mem_iff.mp hb)
  have h1 : (!PySem.W.dataLt (rowD b) (rowD a)) = true := hle
  rw [lt_row ob oa] at h1
  have h2 : ¬ numR b < numR a := by simpa using h1
  rcases Int.lt_trichotomy (numA (key a)) (numA (key b)) with h | h | h
  · exact h
  · exact absurd (numA_inj (okR_key oa) (okR_key ob) h) hne
  · exfalso
    apply h2
    have c1 : oft a ≤ 10000 := oa.2.2.2.2.2.2
    have c2 : oft b ≤ 10000 := ob.2.2.2.2.2.2
    have c3 : 1 ≤ oft a := oa.2.2.2.2.2.1
    unfold numR
    omega
/-! ### tables and questions as they stand -/
def kF (p : Addr) : List (Str × V) := [("kept", .ref p)]
structure QAt (K : PySem.W.Frag) (H : Hp) (q : Addr) (es : En (At Str)) : Prop where
  ins : ∃ dx kp, H q = some (.ins (ad K "Question") dx (kF kp)) ∧ H kp = some (.tup (refs es))
  lay : Lay aV H es
  ok : ∀ p ∈ es, OkA p.2
  pos : 1 ≤ es.length
  few : es.length ≤ 4
structure TAt (K : PySem.W.Frag) (H : Hp) (q : Addr) (rs : En (Rw Str)) : Prop where
  ins : ∃ dx kp, H q = some (.ins (ad K "Table") dx (kF kp)) ∧ H kp = some (.tup (refs rs))
  lay : Lay rV H rs
  ok : ∀ p ∈ rs, OkR p.2
  nd : (rs.map fun p => key p.2).Nodup
  few : rs.length ≤ 12
theorem QAt.same {K : PySem.W.Frag} {H H' : Hp} {q : Addr} {es : En (At Str)} (h : QAt K H q es) (s : Same H H') : QAt K H' q es := by
  obtain ⟨⟨dx, kp, h1, h2⟩, h3, h4, h5, h6⟩ := h
  exact ⟨⟨dx, kp, s _ _ h1, s _ _ h2⟩, h3.same s, h4, h5, h6⟩
theorem TAt.same {K : PySem.W.Frag} {H H' : Hp} {q : Addr} {es : En (Rw Str)} (h : TAt K H q es) (s : Same H H') : TAt K H' q es := by
  obtain ⟨⟨dx, kp, h1, h2⟩, h3, h4, h5, h6⟩ := h
  exact ⟨⟨dx, kp, s _ _ h1, s _ _ h2⟩, h3.same s, h4, h5, h6⟩
/-! ### __init__ -/
def sp_initT (K : PySem.W.Frag) : Sp := fun vs H Q _ => ∃ (t r dx : Addr) (rs : En (Rw Str)), vs = [.ref t, .ref r] ∧ H t = some (.ins (ad K "Table") dx []) ∧ H r = some (.tup (refs rs)) ∧ Lay rV H rs ∧ (∀ p ∈ rs, OkR p.2) ∧ (rs.map fun p => key p.2).Nodup ∧ rs.length ≤ 12 ∧
  ∀ (kp : Addr) (rs' : En (Rw Str)) H', Off t H H' → H' t = some (.ins (ad K "Table") dx (kF kp)) → H' kp = some (.tup (refs rs')) → rs'.Perm rs → (rs'.map (·.2)).Pairwise (fun a b => PySem.W.dataLe false rowD a b = true) → Q .non H'
def sp_initQ (K : PySem.W.Frag) : Sp := fun vs H Q _ => ∃ (t r dx : Addr) (es : En (At Str)), vs = [.ref t, .ref r] ∧ H t = some (.ins (ad K "Question") dx []) ∧ H r = some (.tup (refs es)) ∧ Lay aV H es ∧ (∀ p ∈ es, OkA p.2) ∧ 1 ≤ es.length ∧ es.length ≤ 4 ∧
  ∀ H', Off t H H' → H' t = some (.ins (ad K "Question") dx (kF r)) → Q .non H'
def starS (sp : Sp) : Sp := fun vs H Q E => ∃ ws rest, vs = ws ++ rest ∧ ws.length = 1 ∧ rest.length ≤ sizeLine ∧ ∀ p, H p = Option.none → sp (ws ++ [V.ref p]) (upd H p (.tup rest)) Q E
section
variable {P : Program} {w : World} {K : PySem.W.Frag} {mg : Str → Option Value} {base : Heap}
theorem mkStar {C m qual pv : Str} {st : Stmt} {f : Addr} {N : List Str} {k : Nat} {sp : Sp} (D : MetIs K C m qual st f) (S : FnScope N ["self", pv] (defScope st))
    (hb : ∀ (kV doc pm : Value) (an : Option Addr) (cdv ct : Value) (us rest : List Value), us.length = 1 → bindArgs (PySem.W.fnOf m qual (defArgs st) (defBody st) (defScope st) .none kV doc pm an cdv ct) ⟨us ++ rest, []⟩ = (newTuple rest >>= fun t => pure ((["self"] : List Str).zip us ++ [(pv, t)])))
    (hbody : ∀ (cdv : Value) (A : Around) (outer : List Env) (s : Shared) (H : Hp) (vs : List V) (Q : VK) (E : XK), Room k (A.deeper (envOfC qual (defScope st) s.heap.objs.size f cdv)) → sp vs H Q E →
      ∃ t, PSs (cxOf CX0 P w K mg base N qual (defScope st) f cdv A outer s H E).nox (defBody st) t ∧ t { nx := fun _ H' => Q .non H', rt := Q } (start N vs) H) :
    FnR P w K mg base CX0 (k + 1) f (starS sp) := by
  obtain ⟨fd, F⟩ := D
  obtain ⟨oc, od, kV, doc, pm, an, cdv, ct, osl, e, lk, hcd⟩ := (He5.fun_of F).ex
  subst e
  exact StX.fn_star (ps := ["self"]) lk hcd S StX.cxUp_none (fun us rest hl => hb kV doc pm an cdv ct us rest hl) fun A outer s H vs Q E hr h => by
    obtain ⟨t, h1, h2⟩ := hbody cdv A outer s H vs Q E hr h
    exact ⟨t, PSs.nox h1, h2⟩

theorem sc_init_T : FnScope ["self", "rows"] ["self", "rows"] (defScope s_Table_init) := ⟨rfl, rfl, rfl, by decide +kernel, rfl, by decide +kernel, by decide +kernel⟩
theorem ok_initT (T : Txt K mg) : FnR P w K mg base CX0 6 (me K "Table" "__init__") (starS (sp_initT K)) := by
  have S := sc_init_T
  have OR : Ok P w K mg base 5 "are_rows" ["things"] sp_are_rows := ok_are_rows T
  refine mkStar T.i_Table S (fun kV doc pm an cdv ct us rest hl => StX.bind_star1 (p1 := "self") (pv := "rows") (B := fun xs => bindArgs (PySem.W.fnOf "__init__" "Table.__init__" (defArgs s_Table_init) (defBody s_Table_init) (defScope s_Table_init) .none kV doc pm an cdv ct) ⟨xs, []⟩) (fun a => rfl) (fun a r rs => rfl) us rest hl) (fun cdv A outer s H vs Q E hr h => ?_)
  obtain ⟨t, r, dx, rs, rfl, ht, hr2, hl, hok, nd, h12, k⟩ := h
  have hu16 := hu16_of hr
  refine ⟨_, (pss_cons (ps_if (pt_not (pt_val (pcl OR (hr.mono (by decide)) (pa_cons (pv 1) pa_nil)))) (pss_one ps_never) pss_nil) (pss_one (ps_fld (pv 0) (pe_callTy call_tuple_of (by rfl) T.f_tuple (by decide +kernel) (pa_cons (pe_callB (cr_sortedD hu16) (by rfl) T.f_sorted (by decide +kernel) (pa_cons (pv 1) pa_nil)) pa_nil)) rfl))), ?_⟩
  have hr3 : H r = some (sqO true (refs rs)) := hr2
  refine ⟨_, rfl, true, r, rs, rfl, hr3, hl, hok, nd, h12, fun H1 s1 => ⟨true, rfl, iteF ?_⟩⟩
  have hl1 := hl.same s1
  refine ⟨_, rfl, true, r, _, rs, fun p => V.ref p.1, fun p => rowD p.2, rfl, .inl ⟨rfl, SqT.of (s1 _ _ hr2)⟩, fun p hp => dp_row (hl1 p hp), ?_, ?_, fun p hp => ?_, fun rs' p pm pw hp => ?_⟩
  · exact PySem.W.AllAlike.of fun b b' => by simp [rowD, PySem.W.alike, PySem.W.alikeAll]
  · exact PySem.W.Sortable.tuples fun b => ⟨_, _, rfl⟩
  · simp [rowD, PyData.depth, PyData.depthAll]
  · have s2 := s1.trans (same_upd (o := .lst (rs'.map fun p => V.ref p.1)) hp)
    refine ⟨_, _, rfl, .inl ⟨SqL.of upd_same, fun kp hkp => ?_⟩⟩
    have s3 := s2.trans (same_upd (o := .tup (rs'.map fun p => V.ref p.1)) hkp)
    refine ⟨_, rfl, t, ad K "Table", dx, [], rfl, s3 _ _ ht, T.ic_Table.cl, T.no_Table, (by show 0 < 1000; decide), ?_⟩
    refine k kp rs' _ ((off_same s3).trans off_upd) upd_same ?_ pm (List.pairwise_map.mpr pw)
    rw [upd_ne (ne_of_new s2 hkp ht)]
    exact upd_same
theorem sc_init_Q : FnScope ["self", "atoms"] ["self", "atoms"] (defScope s_Question_init) := ⟨rfl, rfl, rfl, by decide +kernel, rfl, by decide +kernel, by decide +kernel⟩
theorem ok_initQ (T : Txt K mg) : FnR P w K mg base CX0 5 (me K "Question" "__init__") (starS (sp_initQ K)) := by
  have S := sc_init_Q
  have OR : Ok P w K mg base 4 "are_atoms" ["things"] sp_are_atoms := ok_are_atoms T
  refine mkStar T.i_Question S (fun kV doc pm an cdv ct us rest hl => StX.bind_star1 (p1 := "self") (pv := "atoms") (B := fun xs => bindArgs (PySem.W.fnOf "__init__" "Question.__init__" (defArgs s_Question_init) (defBody s_Question_init) (defScope s_Question_init) .none kV doc pm an cdv ct) ⟨xs, []⟩) (fun a => rfl) (fun a r rs => rfl) us rest hl) (fun cdv A outer s H vs Q E hr h => ?_)
  obtain ⟨t, r, dx, rs, rfl, ht, hr2, hl, hok, h1, h4, k⟩ := h
  refine ⟨_, (pss_cons (ps_if (pt_not (pt_val (pcl OR (hr.mono (by decide)) (pa_cons (pv 1) pa_nil)))) (pss_one ps_never) pss_nil) (pss_one (ps_fld (pv 0) (pv 1) rfl))), ?_⟩
  have hr3 : H r = some (sqO true (refs rs)) := hr2
  refine ⟨_, rfl, true, r, rs, rfl, hr3, hl, hok, h1, h4, fun H1 s1 => ⟨true, rfl, iteF ?_⟩⟩
  refine ⟨_, rfl, _, rfl, t, ad K "Question", dx, [], rfl, s1 _ _ ht, T.ic_Question.cl, T.no_Question, (by show 0 < 1000; decide), ?_⟩
  exact k _ ((off_same s1).trans off_upd) upd_same
/-- what a new table is -/
theorem make_T {H1 : Hp} {rs : En (Rw Str)} {Q : VK} (hl : Lay rV H1 rs) (hok : ∀ p ∈ rs, OkR p.2) (nd : (rs.map fun p => key p.2).Nodup) (h12 : rs.length ≤ 12)
    (k : ∀ (x : Addr) (rs' : En (Rw Str)) H', Same H1 H' → H1 x = none → TAt K H' x rs' → rs'.Perm rs → (rs'.map (·.2)).Pairwise (fun a b => PySem.W.dataLe false rowD a b = true) → Q (.ref x) H') :
    ∀ x dx, H1 x = Option.none → H1 dx = Option.none → dx ≠ x → starS (sp_initT K) (V.ref x :: refs rs) (upd (upd H1 dx (.own x)) x (.ins (ad K "Table") dx [])) (fun v H2 => v = .non ∧ Q (.ref x) H2) E0 := by
  intro x dx hx hdx hne
  have sdx := same_upd (o := .own x) hdx
  have hx1 : upd H1 dx (.own x) x = none := by rw [upd_ne hne.symm]; exact hx
  have sx := sdx.trans (same_upd (o := .ins (ad K "Table") dx []) hx1)
  refine ⟨[.ref x], refs rs, rfl, rfl, by rw [refs_len, sizeLine_eq]; omega, fun p hp => ?_⟩
  have sp := same_upd (o := .tup (refs rs)) hp
  refine ⟨x, p, dx, rs, rfl, sp _ _ upd_same, upd_same, (hl.same sx).same sp, hok, nd, h12, fun kp rs' H' of ht hkp pm pw => ⟨rfl, ?_⟩⟩
  have s1 : Same H1 H' := fun b o e => of _ _ (ne_of_none e hx) (sp _ _ (sx _ _ e))
  refine k x rs' H' s1 hx ⟨⟨dx, kp, ht, hkp⟩, fun q hq => s1 _ _ (hl q (pm.mem_iff.mp hq)), fun q hq => hok q (pm.mem_iff.mp hq), ((pm.map fun p => key p.2).nodup_iff).mpr nd, by rw [pm.length_eq]; exact h12⟩ pm pw
theorem make_Q {H1 : Hp} {es : En (At Str)} {Q : VK} (hl : Lay aV H1 es) (hok : ∀ p ∈ es, OkA p.2) (h1 : 1 ≤ es.length) (h4 : es.length ≤ 4)
    (k : ∀ (x : Addr) H', Same H1 H' → H1 x = none → QAt K H' x es → Q (.ref x) H') :
    ∀ x dx, H1 x = Option.none → H1 dx = Option.none → dx ≠ x → starS (sp_initQ K) (V.ref x :: refs es) (upd (upd H1 dx (.own x)) x (.ins (ad K "Question") dx [])) (fun v H2 => v = .non ∧ Q (.ref x) H2) E0 := by
  intro x dx hx hdx hne
  have sdx := same_upd (o := .own x) hdx
  have hx1 : upd H1 dx (.own x) x = none := by rw [upd_ne hne.symm]; exact hx
  have sx := sdx.trans (same_upd (o := .ins (ad K "Question") dx []) hx1)
  refine ⟨[.ref x], refs es, rfl, rfl, by rw [refs_len, sizeLine_eq]; omega, fun p hp => ?_⟩
  have sp := same_upd (o := .tup (refs es)) hp
  have hpx : p ≠ x := ne_of_new (Same.refl _) hp upd_same
  refine ⟨x, p, dx, es, rfl, sp _ _ upd_same, upd_same, (hl.same sx).same sp, hok, h1, h4, fun H' of ht => ⟨rfl, ?_⟩⟩
  have s1 : Same H1 H' := fun b o e => of _ _ (ne_of_none e hx) (sp _ _ (sx _ _ e))
  exact k x H' s1 hx ⟨⟨dx, p, ht, of _ _ hpx upd_same⟩, hl.same s1, hok, h1, h4⟩
end
end CA
set_option Elab.async false
set_option linter.all false
set_option maxRecDepth 100000
set_option maxHeartbeats 1000000
namespace CA
open PySem PySem.Spec PyProof.Rows L2
/-! ### properties, two fors -/
theorem ppr {X : Cx} {k : Nat} {C p g : Addr} {f : Str} {sp : Sp} {e : Expr} {pos : Pos} {ta : TE} (he : PE X e ta) (c : Cls X.K C) (hp : PropOf X.K C f p g) (O : OkM X.prog X.w X.K X.mg X.base k g ["self"] sp) (hr : Room (k + 1) X.A)
    (hab : attributeBase e f X.env (eval e X.env) = eval e X.env := by rfl) : PE X (.Attribute e f pos) (tProp C sp [] E0 ta) := by
  obtain ⟨fd, F, b⟩ := O.ex
  exact pe_prop he c hp F hr b .nil pass0 hab
theorem it_W {J : It} {n : Nat} {G : Hp → Prop} {Y : Nat → Hp → V → Hp → Prop} (w : Walk J n G Y) (Pv : Nat → Hp → Prop) {Body : (Hp → Prop) → V → Hp → Prop} {Qd : Hp → Prop} {H0 : Hp} (h0 : Pv 0 H0) (hG : ∀ i H, i ≤ n → Pv i H → G H)
    (hs : ∀ i x H H', i < n → Pv i H → Y i H x H' → Body (Pv (i + 1)) x H') (hd : ∀ H, Pv n H → Qd H) :
    ∃ W : Nat → Nat → Hp → Prop, (∃ m, W 0 m H0) ∧ ∀ i m H, W i m H → (J.stop i H ∧ Qd H) ∨ (J.go i H ∧ ∃ Nx : Hp → Prop, (∀ H', Nx H' → ∃ m', m' < m ∧ W (i + 1) m' H') ∧ ∀ x H', J.yld i H x H' → Body Nx x H') := by
  refine ⟨fun i m H => m = n - i ∧ i ≤ n ∧ Pv i H, ⟨n, rfl, Nat.zero_le _, h0⟩, fun i m H ⟨e, hi, p⟩ => ?_⟩
  subst e
  have g := hG i H hi p
  by_cases hlt : i < n
  · exact .inr ⟨w.goes i H hlt g, Pv (i + 1), fun H' p' => ⟨n - (i + 1), by omega, rfl, hlt, p'⟩, fun x H' y => hs i x H H' hlt p (w.yields i H x H' hlt g y)⟩
  · obtain rfl : i = n := by omega
    exact .inl ⟨w.stops H g, hd H p⟩
def nums : Nat → List (List Int)
  | 0 => [[]]
  | k + 1 => (nums k).flatMap fun old => grid.map fun n => old ++ [n]
theorem nums_mem : ∀ {k : Nat} {x : List Int}, x ∈ nums k ↔ x.length = k ∧ ∀ n ∈ x, n ∈ grid
  | 0, x => by
    show x ∈ [[]] ↔ _
    rw [List.mem_singleton]
    constructor
    · rintro rfl; exact ⟨rfl, fun n hn => by cases hn⟩
    · rintro ⟨h, _⟩; exact List.length_eq_zero_iff.mp h
  | k + 1, x => by
    show x ∈ (nums k).flatMap (fun old => grid.map fun n => old ++ [n]) ↔ _
    rw [List.mem_flatMap]
    constructor
    · rintro ⟨old, ho, h⟩
      obtain ⟨n, hn, rfl⟩ := List.mem_map.mp h
      obtain ⟨h1, h2⟩ := nums_mem.mp ho
      refine ⟨by rw [List.length_append, h1]; rfl, fun m hm => ?_⟩
      rcases List.mem_append.mp hm with hm | hm
      · exact h2 m hm
      · rw [List.mem_singleton.mp hm]; exact hn
    · rintro ⟨h1, h2⟩
      have hne : x ≠ [] := fun e => by rw [e] at h1; cases h1
      have el : x.dropLast ++ [x.getLast hne] = x := List.dropLast_concat_getLast hne
      exact ⟨x.dropLast, nums_mem.mpr ⟨by rw [List.length_dropLast, h1]; rfl, fun n hn => h2 n (by rw [← el]; exact List.mem_append_left _ hn)⟩, List.mem_map.mpr ⟨x.getLast hne, h2 _ (List.getLast_mem hne), el⟩⟩
theorem nums_len : ∀ k, (nums k).length = 5 ^ k
  | 0 => rfl
  | k + 1 => by
    have h : ∀ l : List (List Int), (l.flatMap fun old => grid.map fun n => old ++ [n]).length = l.length * 5 := by
      intro l
      induction l with
      | nil => rfl
      | cons x l ih => rw [List.flatMap_cons, List.length_append, ih, List.length_map, List.length_cons]; show 5 + _ = _; omega
    show ((nums k).flatMap fun old => grid.map fun n => old ++ [n]).length = _
    rw [h, nums_len k, Nat.pow_succ]
theorem kF_at (p : Addr) : (kF p).lookup ("kept" : Str) = some (V.ref p) := by
  unfold kF
  rw [List.lookup_cons, beq_self_eq_true]
theorem kF_no (p : Addr) {m : Str} (h : (m == ("kept" : Str)) = false) : (kF p).lookup m = none := by
  unfold kF
  rw [List.lookup_cons, h] <;> rfl
theorem intV_at {xs : List Int} {i : Nat} {x : V} (h : (intV xs)[i]? = some x) : ∃ n, xs[i]? = some n ∧ x = .int n := by
  unfold intV at h
  rw [List.getElem?_map] at h
  cases e : xs[i]? with
  | none => rw [e] at h; cases h
  | some p => rw [e] at h; exact ⟨p, rfl, (Option.some.inj h).symm⟩
/-- the answers of same, place by place -/
theorem all_bl : ∀ {xs ws : List Int} {ys : List V}, ys.length = xs.length → ws.length = xs.length → (∀ (j : Nat) (y : V), ys[j]? = some y → ∃ m n, xs[j]? = some m ∧ ws[j]? = some n ∧ y = V.bl (decide (m = n))) → ∃ bs : List Bool, ys = bs.map V.bl ∧ bs.all id = decide (xs = ws)
  | [], [], [], _, _, _ => ⟨[], rfl, rfl⟩
  | x :: xs, w :: ws, y :: ys, h1, h2, h => by
    obtain ⟨m, n, e1, e2, e3⟩ := h 0 y rfl
    have e4 : x = m := by simpa using e1
    have e5 : w = n := by simpa using e2
    subst e4 e5
    obtain ⟨bs, b1, b2⟩ := all_bl (xs := xs) (ws := ws) (ys := ys) (by simpa using h1) (by simpa using h2) fun j z hz => h (j + 1) z hz
    refine ⟨decide (x = w) :: bs, by rw [e3, b1]; rfl, ?_⟩
    rw [List.all_cons, b2]
    by_cases hx : x = w
    · subst hx; simp
    · simp [hx]
/-- every list of atoms has its variables listed -/
theorem vars_ex (as : List (At Str)) : ∃ ns, IsVars as ns := by
  have ins : ∀ (ns : List Int) (x : Int), ns.Pairwise (· < ·) → ∃ ms : List Int, ms.Pairwise (· < ·) ∧ ∀ y, y ∈ ms ↔ y = x ∨ y ∈ ns := by
    intro ns x
    induction ns with
    | nil => intro _; exact ⟨[x], by simp, fun y => by simp⟩
    | cons n ns ih =>
      intro h
      rw [List.pairwise_cons] at h
      rcases Int.lt_trichotomy x n with q | q | q
      · refine ⟨x :: n :: ns, ?_, fun y => by simp⟩
        rw [List.pairwise_cons, List.pairwise_cons]
        refine ⟨fun z hz => ?_, h⟩
        rcases List.mem_cons.mp hz with e | hz
        · omega
        · have := h.1 z hz; omega
      · subst q
        exact ⟨x :: ns, List.pairwise_cons.mpr h, fun y => by simp⟩
      · obtain ⟨ms, m1, m2⟩ := ih h.2
        refine ⟨n :: ms, ?_, fun y => ?_⟩
        · rw [List.pairwise_cons]
          refine ⟨fun z hz => ?_, m1⟩
          rcases (m2 z).1 hz with e | hz
          · omega
          · exact h.1 z hz
        · rw [List.mem_cons, m2, List.mem_cons]
          constructor
          · rintro (h | h | h)
            · exact .inr (.inl h)
            · exact .inl h
            · exact .inr (.inr h)
          · rintro (h | h | h)
            · exact .inr (.inl h)
            · exact .inl h
            · exact .inr (.inr h)
  induction as with
  | nil => exact ⟨[], List.Pairwise.nil, fun x => ⟨fun h => (by cases h), fun ⟨a, ha, _⟩ => (by cases ha)⟩⟩
  | cons a as ih =>
    obtain ⟨ns, h⟩ := ih
    obtain ⟨m1, p1, q1⟩ := ins ns a.2.1 h.asc
    obtain ⟨m2, p2, q2⟩ := ins m1 a.2.2 p1
    refine ⟨m2, p2, fun x => ?_⟩
    rw [q2, q1, h.mem]
    constructor
    · rintro (e | e | ⟨b, hb, e⟩)
      · exact ⟨a, List.mem_cons_self, .inr e⟩
      · exact ⟨a, List.mem_cons_self, .inl e⟩
      · exact ⟨b, List.mem_cons_of_mem _ hb, e⟩
    · rintro ⟨b, hb, e⟩
      rcases List.mem_cons.mp hb with z | hb
      · subst z
        rcases e with e | e
        · exact .inr (.inl e)
        · exact .inl e
      · exact .inr (.inr ⟨b, hb, e⟩)
/-! ### promises -/
structure IsRens (as bs : List (At Str)) (vs : List Int) (ts : List (List Int)) : Prop where
  asc : ts.Pairwise fun t u => TS.code 10 t < TS.code 10 u
  mem : ∀ t, t ∈ ts ↔ CovBy as bs vs t ∧ t.Nodup
theorem IsRens.one {as bs : List (At Str)} {vs : List Int} {ts us : List (List Int)} (h : IsRens as bs vs ts) (g : IsRens as bs vs us) : ts = us :=
  order_one (fun a b h1 h2 => by omega) h.asc g.asc fun x => (h.mem x).trans (g.mem x).symm
def sp_need (K : PySem.W.Frag) (C : Str) : Sp := fun vs H Q _ => ∃ (t dx : Addr) (fs : List (Str × V)), vs = [.ref t] ∧ H t = some (.ins (ad K C) dx fs) ∧ Q .non H
def sp_kept (K : PySem.W.Frag) (C : Str) : Sp := fun vs H Q _ => ∃ (t dx kp : Addr), vs = [.ref t] ∧ H t = some (.ins (ad K C) dx (kF kp)) ∧ Q (.ref kp) H
def sp_vars (K : PySem.W.Frag) : Sp := fun vs H Q _ => ∃ (q : Addr) (es : En (At Str)), vs = [.ref q] ∧ QAt K H q es ∧ ∀ (p : Addr) (ns : List Int) H', Same H H' → H p = none → IsVars (es.map (·.2)) ns → H' p = some (.tup (ns.map V.int)) → Q (.ref p) H'
def sp_call (K : PySem.W.Frag) : Sp := fun vs H Q _ => ∃ (q t : Addr) (es : En (At Str)) (rs : En (Rw Str)), vs = [.ref q, .ref t] ∧ QAt K H q es ∧ TAt K H t rs ∧ ∀ H', Same H H' → Q (.int (cnt (es.map (·.2)) (rs.map (·.2)))) H'
def sp_raw_renamings (K : PySem.W.Frag) : Sp := fun vs H Q _ => ∃ (a b : Addr) (es fs : En (At Str)), vs = [.ref a, .ref b] ∧ QAt K H a es ∧ QAt K H b fs ∧
  ∀ (p : Addr) (ts : En (List Int)) H', Same H H' → H p = none → H' p = some (.lst (refs ts)) → Lay intV H' ts → (∀ vs, IsVars (es.map (·.2)) vs → IsRens (es.map (·.2)) (fs.map (·.2)) vs (ts.map (·.2))) → ts.length ≤ 63 → Q (.ref p) H'
def sp_is_listed : Sp := fun vs H Q _ => ∃ (a f : Addr) (xs : List Int) (ts : En (List Int)), vs = [.ref a, .ref f] ∧ H a = some (.tup (intV xs)) ∧ H f = some (.lst (refs ts)) ∧ Lay intV H ts ∧ xs.length ≤ 63 ∧ ∀ H', Same H H' → Q (.bl (decide (xs ∈ ts.map (·.2)))) H'
def sp_numbers : Sp := fun vs H Q _ => ∃ k : Nat, vs = [.int ((k : Nat) : Int)] ∧ k ≤ 4 ∧ ∀ (p : Addr) (ts : En (List Int)) H', Same H H' → H p = none → H' p = some (.lst (refs ts)) → Lay intV H' ts → ts.map (·.2) = nums k → Q (.ref p) H'
section
variable {P : Program} {w : World} {K : PySem.W.Frag} {mg : Str → Option Value} {base : Heap}

theorem sc_need_table : FnScope ["thing"] ["thing"] (defScope s_need_table) := ⟨rfl, rfl, rfl, by decide +kernel, rfl, by decide +kernel, by decide +kernel⟩
theorem ok_need_table (T : Txt K mg) : Ok P w K mg base 1 "need_table" ["thing"] (sp_need K "Table") := by
  have S := sc_need_table
  refine mkOk T.d_need_table S (fun _ _ _ _ _ _ us hl => match us, hl with | [_], _ => rfl) (fun vs H Q E h => ?_) (fun cdv A outer s H vs Q E hr h => ?_)
  · obtain ⟨t, dx, fs, rfl, _⟩ := h
    rfl
  · obtain ⟨t, dx, fs, rfl, ht, k⟩ := h
    refine ⟨_, (pss_one (ps_if (pt_not (pt_val (pe_callB (C8.call_isC T.ic_Table) (by rfl) T.f_isinstance (by decide +kernel) (pa_cons (pv 0) (pa_cons (pe_glob (by rfl) T.g_Table (show RelV (.ref _) (.ref _) from rfl)) pa_nil))))) (pss_one ps_never) pss_nil)), ?_⟩
    exact ⟨_, rfl, t, dx, fs, rfl, ht, true, rfl, iteF k⟩
theorem sc_need_question : FnScope ["thing"] ["thing"] (defScope s_need_question) := ⟨rfl, rfl, rfl, by decide +kernel, rfl, by decide +kernel, by decide +kernel⟩
theorem ok_need_question (T : Txt K mg) : Ok P w K mg base 1 "need_question" ["thing"] (sp_need K "Question") := by
  have S := sc_need_question
  refine mkOk T.d_need_question S (fun _ _ _ _ _ _ us hl => match us, hl with | [_], _ => rfl) (fun vs H Q E h => ?_) (fun cdv A outer s H vs Q E hr h => ?_)
  · obtain ⟨t, dx, fs, rfl, _⟩ := h
    rfl
  · obtain ⟨t, dx, fs, rfl, ht, k⟩ := h
    refine ⟨_, (pss_one (ps_if (pt_not (pt_val (pe_callB (C8.call_isC T.ic_Question) (by rfl) T.f_isinstance (by decide +kernel) (pa_cons (pv 0) (pa_cons (pe_glob (by rfl) T.g_Question (show RelV (.ref _) (.ref _) from rfl)) pa_nil))))) (pss_one ps_never) pss_nil)), ?_⟩
    exact ⟨_, rfl, t, dx, fs, rfl, ht, true, rfl, iteF k⟩
theorem sc_Table_rows : FnScope ["self"] ["self"] (defScope s_Table_rows) := ⟨rfl, rfl, rfl, by decide +kernel, rfl, by decide +kernel, by decide +kernel⟩
theorem ok_Table_rows (T : Txt K mg) : OkM P w K mg base 1 (wr K "Table" "property" "rows") ["self"] (sp_kept K "Table") := by
  have S := sc_Table_rows
  refine mkMet T.q_Table_rows S (fun _ _ _ _ _ _ us hl => match us, hl with | [_], _ => rfl) (fun vs H Q E h => ?_) (fun cdv A outer s H vs Q E hr h => ?_)
  · obtain ⟨t, dx, kp, rfl, _⟩ := h
    rfl
  · obtain ⟨t, dx, kp, rfl, ht, k⟩ := h
    refine ⟨_, (pss_one (ps_ret (pe_fld (pv 0) rfl))), ?_⟩
    exact ⟨_, rfl, t, ad K "Table", dx, _, _, rfl, ht, T.ic_Table.cl, T.no_Table, kF_at kp, k⟩
theorem sc_Question_atoms : FnScope ["self"] ["self"] (defScope s_Question_atoms) := ⟨rfl, rfl, rfl, by decide +kernel, rfl, by decide +kernel, by decide +kernel⟩
theorem ok_Question_atoms (T : Txt K mg) : OkM P w K mg base 1 (wr K "Question" "property" "atoms") ["self"] (sp_kept K "Question") := by
  have S := sc_Question_atoms
  refine mkMet T.q_Question_atoms S (fun _ _ _ _ _ _ us hl => match us, hl with | [_], _ => rfl) (fun vs H Q E h => ?_) (fun cdv A outer s H vs Q E hr h => ?_)
  · obtain ⟨t, dx, kp, rfl, _⟩ := h
    rfl
  · obtain ⟨t, dx, kp, rfl, ht, k⟩ := h
    refine ⟨_, (pss_one (ps_ret (pe_fld (pv 0) rfl))), ?_⟩
    exact ⟨_, rfl, t, ad K "Question", dx, _, _, rfl, ht, T.ic_Question.cl, T.no_Question, kF_at kp, k⟩
theorem sc_Question_variables : FnScope ["self"] ["self"] (defScope s_Question_variables) := ⟨rfl, rfl, rfl, by decide +kernel, rfl, by decide +kernel, by decide +kernel⟩
theorem ok_Question_variables (T : Txt K mg) : OkM P w K mg base 2 (wr K "Question" "property" "variables") ["self"] (sp_vars K) := by
  have S := sc_Question_variables
  have OV : Ok P w K mg base 1 "variables_of" ["atoms"] sp_variables_of := ok_variables_of T
  refine mkMet T.q_Question_variables S (fun _ _ _ _ _ _ us hl => match us, hl with | [_], _ => rfl) (fun vs H Q E h => ?_) (fun cdv A outer s H vs Q E hr h => ?_)
  · obtain ⟨q, es, rfl, _⟩ := h
    rfl
  · obtain ⟨q, es, rfl, ⟨⟨dx, kp, hq, hk⟩, hl, hok, h1, h4⟩, k⟩ := h
    refine ⟨_, (pss_one (ps_ret (pcl OV hr (pa_cons (pe_fld (pv 0) rfl) pa_nil)))), ?_⟩
    exact ⟨_, rfl, q, ad K "Question", dx, _, _, rfl, hq, T.ic_Question.cl, T.no_Question, kF_at kp, kp, es, rfl, hk, hl, h4, fun p ns H' s1 hp iv ht => k p ns H' s1 hp iv ht⟩
theorem sc_Question_call : FnScope ["self", "table"] ["self", "table"] (defScope s_Question_call) := ⟨rfl, rfl, rfl, by decide +kernel, rfl, by decide +kernel, by decide +kernel⟩
theorem ok_Question_call (T : Txt K mg) : OkM P w K mg base 4 (me K "Question" "__call__") ["self", "table"] (sp_call K) := by
  have S := sc_Question_call
  have ON : Ok P w K mg base 1 "need_table" ["thing"] (sp_need K "Table") := ok_need_table T
  have OC : Ok P w K mg base 3 "raw_count" ["atoms", "rows"] sp_raw_count := ok_raw_count T
  have OR : OkM P w K mg base 1 (wr K "Table" "property" "rows") ["self"] (sp_kept K "Table") := ok_Table_rows T
  refine mkMet T.i_call S (fun _ _ _ _ _ _ us hl => match us, hl with | [_, _], _ => rfl) (fun vs H Q E h => ?_) (fun cdv A outer s H vs Q E hr h => ?_)
  · obtain ⟨q, t, es, rs, rfl, _⟩ := h
    rfl
  · obtain ⟨q, t, es, rs, rfl, hQ, hT, k⟩ := h
    obtain ⟨⟨dx, kp, hq, hk⟩, hl, hok, h1, h4⟩ := hQ
    obtain ⟨⟨dt, kt, ht, hkt⟩, hlr, hokr, nd, h12⟩ := hT
    refine ⟨_, (pss_cons (ps_expr (pcl ON (hr.mono (by decide)) (pa_cons (pv 1) pa_nil))) (pss_one (ps_ret (pcl OC hr (pa_cons (pe_fld (pv 0) rfl) (pa_cons (ppr (pv 1) T.ic_Table.cl T.p_Table_rows OR (hr.mono (by decide))) pa_nil)))))), ?_⟩
    refine ⟨_, rfl, t, dt, _, rfl, ht, ?_⟩
    refine ⟨_, rfl, q, ad K "Question", dx, _, _, rfl, hq, T.ic_Question.cl, T.no_Question, kF_at kp, ?_⟩
    refine ⟨_, rfl, t, dt, _, rfl, ht, t, dt, kt, rfl, ht, ?_⟩
    exact ⟨kp, kt, true, es, rs, rfl, hk, hl, h1, h4, hkt, hlr, h12, fun p hp => ⟨by have := (hokr p hp).2.2.2.2.2.1; show (0 : Int) ≤ p.2.2.2.2; omega, (hokr p hp).2.2.2.2.2.2⟩, k⟩
theorem sc_raw_renamings : FnScope ["one", "other", "sent"] ["one", "other"] (defScope s_raw_renamings) := ⟨rfl, rfl, rfl, by decide +kernel, rfl, by decide +kernel, by decide +kernel⟩
theorem ok_raw_renamings (T : Txt K mg) : Ok P w K mg base 4 "raw_renamings" ["one", "other"] (sp_raw_renamings K) := by
  have S := sc_raw_renamings
  have OC : Ok P w K mg base 3 "raw_coverings" ["atoms", "others"] sp_raw_coverings := ok_raw_coverings T
  have OA : OkM P w K mg base 1 (wr K "Question" "property" "atoms") ["self"] (sp_kept K "Question") := ok_Question_atoms T
  refine mkOk T.d_raw_renamings S (fun _ _ _ _ _ _ us hl => match us, hl with | [_, _], _ => rfl) (fun vs H Q E h => ?_) (fun cdv A outer s H vs Q E hr h => ?_)
  · obtain ⟨a, b, es, fs, rfl, _⟩ := h
    rfl
  · obtain ⟨a, b, es, fs, rfl, hA, hB, k⟩ := h
    obtain ⟨⟨dx, kp, hq, hk⟩, hl, hok, h1, h4⟩ := hA
    obtain ⟨⟨dy, kq, hq2, hk2⟩, hl2, hok2, g1, g4⟩ := hB
    refine ⟨_, (pss_one (ps_ret (pe_lc (own := [("sent", 2)]) (tt := tTest (tOp rEq (tCB (rLenSO w) (tCons (tCB (rSetI K w) (tCons (tVar 2) tNil)) tNil)) (tCB (fun xs H Q => ∃ p ys, xs = [V.ref p] ∧ (SqL K H p ys ∨ SqT K H p ys) ∧ Q (.int ys.length) H) (tCons (tVar 2) tNil)))) rfl S.nd (pi_sd (pcl OC hr (pa_cons (ppr (pv 0) T.ic_Question.cl T.p_Question_atoms OA (hr.mono (by decide))) (pa_cons (ppr (pv 1) T.ic_Question.cl T.p_Question_atoms OA (hr.mono (by decide))) pa_nil)))) (blkOk_by (N := ["one", "other", "sent"]) (sc := defScope s_raw_renamings) (by decide +kernel)) (fun _ _ _ _ _ => (pg_name (i := 2) S.nd rfl (Or.inl rfl))) (fun _ _ _ _ _ => (pts_one (pt_cmpR op_eq (pe_callB cr_lenSO (by rfl) T.f_len (by decide +kernel) (pa_cons (pe_callTy (cr_setI rfl) (by rfl) T.f_set (by decide +kernel) (pa_cons (pv 2) pa_nil)) pa_nil)) (pe_callB call_len_seq (by rfl) T.f_len (by decide +kernel) (pa_cons (pv 2) pa_nil)) (nomark _)))) (fun _ _ _ _ _ => (pv 2))))), ?_⟩
    refine ⟨_, rfl, a, dx, _, rfl, hq, a, dx, kp, rfl, hq, _, rfl, b, dy, _, rfl, hq2, b, dy, kq, rfl, hq2, ?_⟩
    refine ⟨kp, kq, es, fs, rfl, hk, hl, hk2, hl2, hok2, h1, h4, g4, fun p ts H1 s1 hp0 hp hlt hcov h63 => ?_⟩
    have hp2 : H1 p = some (sqO false (refs ts)) := hp
    refine ⟨false, p, rfl, ⟨_, sd_of hp2⟩, fun D hD => ?_⟩
    refine lc_mapT (tsd_walk (K := K) (t := false) (a := p) (xs := refs ts)) (fun m ys H => ys = refs ((ts.take m).filter fun q => decide q.2.Nodup)) hD (fun H2 s2 => sd_of (t := false) (s2 _ _ hp2)) (fun i ys H H' acc _ _ e => e) (by rw [refs_len, sizeLine_eq]; omega) rfl
      (fun m x H2 H2' ys hm hyl s2 hDl hP hy Q' Qn kQ kN => ?_) fun H2 ys s2 hDl hyl hP => ?_
    · subst hP
      obtain ⟨rfl, hx⟩ := hy
      obtain ⟨q, hq, rfl⟩ := refs_at hx
      have hqt := s2 _ _ (hlt q (List.mem_of_getElem? hq))
      have tk : ts.take (m + 1) = ts.take m ++ [q] := take_next1 hq
      have hq8 : q.2.length ≤ 8 := by
        obtain ⟨ns, hns⟩ := vars_ex (es.map (·.2))
        have hc := ((hcov ns hns).mem q.2).1 (List.mem_map.mpr ⟨q, List.mem_of_getElem? hq, rfl⟩)
        rw [(cov_len hc).2]
        exact vars_len hns (by rw [List.length_map]; exact h4)
      refine ⟨rfl, _, rfl, true, q.1, q.2, rfl, .inl ⟨rfl, SqT.of hqt⟩, by unfold scanBound; omega, fun g ds hg nd mem => ?_⟩
      have sg := same_upd (o := SetO w g (fun j => decide (j ∈ q.2)) ds.length) hg
      refine ⟨g, _, _, rfl, upd_same, _, rfl, q.1, _, rfl, .inr (SqT.of (sg _ _ hqt)), rfl, decide (ds.length = q.2.length), congrArg V.bl ?_, ?_⟩
      · unfold intV
        rw [List.length_map, dec_nat]
      have hnd := nodup_card nd mem
      by_cases hd : q.2.Nodup
      · rw [decide_eq_true (hnd.mpr hd)]
        refine iteT ⟨_, rfl, kQ _ _ sg ?_⟩
        rw [tk, List.filter_append, refs_append]
        simp [hd, refs]
      · rw [decide_eq_false (fun e => hd (hnd.mp e))]
        refine iteF (kN _ sg ?_)
        rw [tk, List.filter_append, refs_append]
        simp [hd, refs]
    · subst hP
      rw [List.take_of_length_le (by rw [refs_len]; exact Nat.le_refl _)] at hDl hyl
      refine k D _ H2 (s1.trans s2) (s1.free hD) hDl (fun q hq => s2 _ _ (hlt q (List.mem_filter.mp hq).1)) (fun vs hvs => ?_) (by rw [refs_len, refs_len] at hyl; omega)
      have hc := hcov vs hvs
      refine ⟨?_, fun t => ?_⟩
      · rw [List.pairwise_map]
        exact (List.pairwise_map.mp hc.asc).filter _
      · constructor
        · intro ht
          obtain ⟨q, hq, rfl⟩ := List.mem_map.mp ht
          obtain ⟨q1, q2⟩ := List.mem_filter.mp hq
          exact ⟨(hc.mem q.2).1 (List.mem_map.mpr ⟨q, q1, rfl⟩), of_decide_eq_true q2⟩
        · rintro ⟨c, nd⟩
          obtain ⟨q, hq, rfl⟩ := List.mem_map.mp ((hc.mem t).2 c)
          exact List.mem_map.mpr ⟨q, List.mem_filter.mpr ⟨hq, decide_eq_true nd⟩, rfl⟩
theorem sc_is_listed : FnScope ["thing", "found", "one", "part", "whole"] ["thing", "found"] (defScope s_is_listed) := ⟨rfl, rfl, rfl, by decide +kernel, rfl, by decide +kernel, by decide +kernel⟩
theorem ok_is_listed (T : Txt K mg) : Ok P w K mg base 2 "is_listed" ["thing", "found"] sp_is_listed := by
  have S := sc_is_listed
  have OS : Ok P w K mg base 1 "same" ["thing", "number"] sp_same := ok_same T
  refine mkOk T.d_is_listed S (fun _ _ _ _ _ _ us hl => match us, hl with | [_, _], _ => rfl) (fun vs H Q E h => ?_) (fun cdv A outer s H vs Q E hr h => ?_)
  · obtain ⟨a, f, xs, ts, rfl, _⟩ := h
    rfl
  · obtain ⟨a, f, xs, ts, rfl, ha, hf, hlt, h63, k⟩ := h
    refine ⟨_, (pss_cons (ps_for PassesOwn.never rfl (pi_sd (pv 1)) (pg_name (i := 2) S.nd rfl (Or.inl rfl)) (pss_one (ps_if (PW.pt (pw_and (pt_cmpR op_eq (pe_callB call_len_seq (by rfl) T.f_len (by decide +kernel) (pa_cons (pv 2) pa_nil)) (pe_callB call_len_seq (by rfl) T.f_len (by decide +kernel) (pa_cons (pv 0) pa_nil)) (nomark _)) (pw_and1 (pt_val (pe_callB (cr_all rfl) (by rfl) T.f_all (by decide +kernel) (pa_cons (pe_lc (g := gTup K 2 (gCons (gName 3) (gCons (gName 4) gNil))) (own := [("part", 3), ("whole", 4)]) rfl S.nd (pi_zipM (by rfl) T.f_zip (pa_cons (pv 0) (pa_cons (pv 2) pa_nil))) (blkOk_by (N := ["thing", "found", "one", "part", "whole"]) (sc := defScope s_is_listed) (by decide +kernel)) (fun _ _ _ _ _ => (pg_tup rfl (pgs_cons (pg_name (i := 3) S.nd rfl (Or.inl rfl)) (pgs_cons (pg_name (i := 4) S.nd rfl (Or.inl rfl)) pgs_nil)))) (fun _ _ _ _ _ => pts_nil) (fun _ _ _ _ _ => (pcl OS hr (pa_cons (pv 3) (pa_cons (pv 4) pa_nil))))) pa_nil)))))) (pss_one (ps_ret pe_bl)) pss_nil))) (pss_one (ps_ret pe_bl))), ?_⟩
    have ha2 : H a = some (sqO true (intV xs)) := ha
    have hf2 : H f = some (sqO false (refs ts)) := hf
    refine ⟨_, rfl, false, f, rfl, ⟨_, sd_of hf2⟩, ?_⟩
    refine for_it (tsd_walk (K := K) (t := false) (a := f) (xs := refs ts)) (fun i σ H' => Same H H' ∧ ∃ v2, σ = [some (.ref a), some (.ref f), v2, none, none] ∧ xs ∉ (ts.map (·.2)).take i)
      ⟨Same.refl _, none, rfl, by rw [List.take_zero]; exact List.not_mem_nil⟩ (fun i σ H' _ h => sd_of (t := false) (h.1 _ _ hf2)) (fun i x σ H1 H2 hi h hy => ?_) fun σ H1 h => ?_
    · obtain ⟨s1, v2, rfl, hno⟩ := h
      obtain ⟨rfl, hx⟩ := hy
      obtain ⟨q, hq, rfl⟩ := refs_at hx
      have hqm := List.mem_of_getElem? hq
      have hqt := s1 _ _ (hlt q hqm)
      have hqt2 : H2 q.1 = some (sqO true (intV q.2)) := hqt
      have ha3 := s1 _ _ ha2
      have tk : (ts.map (·.2)).take (i + 1) = (ts.map (·.2)).take i ++ [q.2] := take_next1 (by rw [List.getElem?_map, hq]; rfl)
      have skip : ∀ H7 zz, Same H2 H7 → xs ≠ q.2 → Same H H7 ∧ ∃ v2, [some (V.ref a), some (.ref f), zz, none, none] = [some (.ref a), some (.ref f), v2, none, none] ∧ xs ∉ (ts.map (·.2)).take (i + 1) := fun H7 zz s7 hne => ⟨s1.trans s7, _, rfl, fun hm => by
        rw [tk] at hm
        rcases List.mem_append.mp hm with hm | hm
        · exact hno hm
        · exact hne (List.mem_singleton.mp hm)⟩
      refine ⟨_, rfl, _, _, rfl, .inr (SqT.of hqt), _, rfl, _, _, rfl, .inr (SqT.of ha3), rfl, decide (q.2.length = xs.length), congrArg V.bl ?_, ?_⟩
      · unfold intV
        rw [List.length_map, List.length_map, dec_nat]
      by_cases hlen : q.2.length = xs.length
      · rw [decide_eq_true hlen]
        refine iteT ?_
        refine ⟨_, rfl, _, rfl, true, true, a, q.1, _, _, rfl, sd_of ha3, sd_of hqt2, fun D hD => ?_⟩
        refine lc_mapS (walk_zipM (K := K) (t1 := true) (t2 := true) (a := a) (b := q.1) (xs := intV xs) (ys := intV q.2) (n := xs.length) (by unfold intV; rw [List.length_map, List.length_map, hlen, Nat.min_self]) (fun _ _ _ _ => trivial))
          (fun j y H => ∃ m n, xs[j]? = some m ∧ q.2[j]? = some n ∧ y = V.bl (decide (m = n))) hD (fun H3 s3 => ⟨sd_of (s3 _ _ ha3), sd_of (s3 _ _ hqt2)⟩) (fun i y H H' acc _ _ e => e) (by rw [sizeLine_eq]; omega) (fun j x H3 H4 hj s3 hy Q2 k2 => ?_) fun H3 ys s3 hDl hl3 hR => ?_
        · obtain ⟨t, x, y, rfl, ht, rfl, hx, hy⟩ := hy
          obtain ⟨m, hm, rfl⟩ := intV_at hx
          obtain ⟨n, hn, rfl⟩ := intV_at hy
          refine ⟨_, _, rfl, SqT.of upd_same, rfl, _, _, rfl, _, _, rfl, rfl, rfl, ?_⟩
          exact ⟨_, rfl, _, rfl, m, n, rfl, k2 _ _ (same_upd ht) ⟨m, n, hm, hn, rfl⟩⟩
        · obtain ⟨bs, rfl, hb⟩ := all_bl hl3 hlen hR
          refine ⟨D, bs, rfl, SqL.of hDl, _, rfl, ?_⟩
          rw [hb]
          by_cases he : xs = q.2
          · rw [decide_eq_true he]
            refine iteT ?_
            have hin : xs ∈ ts.map (·.2) := List.mem_map.mpr ⟨q, hqm, he.symm⟩
            have := k H3 (s1.trans s3)
            rw [decide_eq_true hin] at this
            exact this
          · rw [decide_eq_false he]
            exact iteF (skip _ _ s3 he)
      · rw [decide_eq_false hlen]
        refine iteF (iteF ?_)
        exact skip _ _ (Same.refl _) fun e => hlen (by rw [e])
    · obtain ⟨s1, v2, rfl, hno⟩ := h
      rw [List.take_of_length_le (by rw [List.length_map, refs_len]; exact Nat.le_refl _)] at hno
      have := k H1 s1
      rw [decide_eq_false hno] at this
      exact this
theorem sc_numbers : FnScope ["many", "found", "turn", "old", "number"] ["many"] (defScope s_numbers) := ⟨rfl, rfl, rfl, by decide +kernel, rfl, by decide +kernel, by decide +kernel⟩
theorem ok_numbers (T : Txt K mg) : Ok P w K mg base 1 "numbers" ["many"] sp_numbers := by
  have S := sc_numbers
  obtain ⟨tn, gn⟩ := T.n_MOST_TOLD
  refine mkOk T.d_numbers S (fun _ _ _ _ _ _ us hl => match us, hl with | [_], _ => rfl) (fun vs H Q E h => ?_) (fun cdv A outer s H vs Q E hr h => ?_)
  · obtain ⟨n, rfl, _⟩ := h
    rfl
  · obtain ⟨n, rfl, h4, k⟩ := h
    refine ⟨_, (pss_cons (ps_set (i := 1) S.nd rfl (.inl rfl) (pe_lst (pa_cons (pe_tup pa_nil) pa_nil))) (pss_cons (ps_for PassesOwn.never rfl (pi_range1 (by rfl) T.f_range (pa_cons (pv 0) pa_nil)) (pg_name (i := 2) S.nd rfl (Or.inl rfl)) (pss_one (ps_setLc2 (i := 1) (own := [("old", 3), ("number", 4)]) (vs1 := [4]) (g := gName 3) (g1 := gName 4) (te := tOp (rCatA K) (tVar 3) (tTup (tCons (tVar 4) tNil))) rfl S.nd rfl rfl (sw_true rfl rfl rfl (by decide +kernel)) (pi_sd (pv 1)) (blkOk_by (N := ["many", "found", "turn", "old", "number"]) (sc := defScope s_numbers) (by decide +kernel)) (by decide) (fun _ _ _ _ _ => (pg_name (i := 3) S.nd rfl (Or.inl rfl))) (fun _ _ _ _ _ => pts_nil) (fun _ _ _ _ _ => pi_range1 (by rfl) T.f_range (pa_cons (pe_op op_add (pe_glob (by rfl) gn (show RelV (.int 4) _ from ⟨_, rfl⟩)) pe_int) pa_nil)) (fun _ _ _ _ _ => (pg_name (i := 4) S.nd rfl (Or.inl rfl))) (fun _ _ _ _ _ => pts_nil) (fun _ _ _ _ _ => pe_op op_catA (pv 3) (pe_tup (pa_cons (pv 4) pa_nil)))))) (pss_one (ps_ret (pv 1))))), ?_⟩
    refine ⟨Nat.zero_le _, fun t0 ht0 => ⟨by show 1 ≤ sizeLine; decide, fun F0 hF0 => ?_⟩⟩
    have s0 := (same_upd (o := .tup []) ht0).trans (same_upd (o := .lst [.ref t0]) hF0)
    refine ⟨_, rfl, ((n : Nat) : Int), rfl, by omega, by omega, ?_⟩
    refine for_it (walk_range (lo := 0) (n := n)) (fun i σ H' => Same H H' ∧ ∃ (F : Addr) (ts : En (List Int)) (v2 : Option V), σ = [some (.int ((n : Nat) : Int)), some (.ref F), v2, none, none] ∧ H F = none ∧ H' F = some (.lst (refs ts)) ∧ Lay intV H' ts ∧ ts.map (·.2) = nums i)
      ⟨s0, F0, [(t0, [])], none, rfl, (same_upd ht0).free hF0, upd_same, fun q hq => by rw [List.mem_singleton.mp hq]; exact (same_upd hF0) _ _ upd_same, rfl⟩ (fun _ _ _ _ _ => trivial) (fun i x σ H1 H2 hi h hy => ?_) fun σ H1 h => ?_
    · obtain ⟨s1, F, ts, v2, rfl, hF0', hF, hlt, ets⟩ := h
      obtain ⟨rfl, rfl⟩ := hy
      have hF2 : H2 F = some (sqO false (refs ts)) := hF
      have htl : ts.length ≤ 125 := by
        have e := congrArg List.length ets
        rw [List.length_map, nums_len] at e
        rw [e]
        exact Nat.le_trans (Nat.pow_le_pow_right (by decide) (show i ≤ 3 by omega)) (by decide)
      refine ⟨_, rfl, false, F, rfl, ⟨_, sd_of hF2⟩, fun D hD => ?_⟩
      refine it_W (tsd_walk (K := K) (t := false) (a := F) (xs := refs ts)) (fun j H' => Same H2 H' ∧ ∃ us : En (List Int), H' D = some (.lst (refs us)) ∧ Lay intV H' us ∧ us.map (·.2) = ((ts.map (·.2)).take j).flatMap (fun old => grid.map fun n => old ++ [n]) ∧ us.length = j * 5)
        ⟨same_upd hD, [], upd_same, fun q hq => absurd hq List.not_mem_nil, by rw [List.take_zero]; rfl, rfl⟩ (fun j H' _ h => sd_of (t := false) (h.1 _ _ hF2)) (fun j x H3 H4 hj h hy => ?_) fun H3 h => ?_
      · obtain ⟨s3, us, hDl, hlu, eus, hul⟩ := h
        obtain ⟨rfl, hx⟩ := hy
        obtain ⟨q, hq, rfl⟩ := refs_at hx
        have hqm := List.mem_of_getElem? hq
        have hjl : j < ts.length := by rwa [refs_len] at hj
        have tk : (ts.map (·.2)).take (j + 1) = (ts.map (·.2)).take j ++ [q.2] := take_next1 (by rw [List.getElem?_map, hq]; rfl)
        have hql : q.2.length = i := (nums_mem.mp (by rw [← ets]; exact List.mem_map.mpr ⟨q, hqm, rfl⟩)).1
        refine ⟨rfl, ?_⟩
        refine ⟨_, _, rfl, rfl, (5 : Int), rfl, by decide, by decide, ?_⟩
        refine it_W (walk_range (lo := 0) (n := 5)) (fun m H' => Same H2 H' ∧ ∃ us : En (List Int), H' D = some (.lst (refs us)) ∧ Lay intV H' us ∧ us.map (·.2) = ((ts.map (·.2)).take j).flatMap (fun old => grid.map fun n => old ++ [n]) ++ (List.range m).map (fun n => q.2 ++ [((n : Nat) : Int)]) ∧ us.length = j * 5 + m)
          ⟨s3, us, hDl, hlu, by rw [eus]; simp, by omega⟩ (fun _ _ _ _ => trivial) (fun m x H5 H6 hm h hy => ?_) fun H5 h => ?_
        · obtain ⟨s5, us, hDl, hlu, eus, hul⟩ := h
          obtain ⟨rfl, rfl⟩ := hy
          have hqt := s5 _ _ (hlt q hqm)
          refine ⟨rfl, ?_⟩
          refine ⟨_, rfl, _, rfl, by show 1 ≤ sizeLine; decide, fun t1 ht1 => ?_⟩
          have e1 := same_upd (o := .tup [V.int (0 + ((m : Nat) : Int))]) ht1
          have put : ∀ (t : Addr) (H7 : Hp), Same H6 H7 → H7 t = some (.tup (intV (q.2 ++ [((m : Nat) : Int)]))) → ∃ acc, H7 D = some (.lst acc) ∧ acc.length < sizeLine ∧ (Same H2 (upd H7 D (.lst (acc ++ [.ref t]))) ∧ ∃ us : En (List Int), (upd H7 D (.lst (acc ++ [.ref t]))) D = some (.lst (refs us)) ∧ Lay intV (upd H7 D (.lst (acc ++ [.ref t]))) us ∧
              us.map (·.2) = ((ts.map (·.2)).take j).flatMap (fun old => grid.map fun n => old ++ [n]) ++ (List.range (m + 1)).map (fun n => q.2 ++ [((n : Nat) : Int)]) ∧ us.length = j * 5 + (m + 1)) := fun t H7 s7 h7 => by
            have hD7 := s7 _ _ hDl
            have of := off_upd (D := D) (H := H7) (o := .lst (refs us ++ [.ref t]))
            refine ⟨refs us, hD7, by rw [refs_len, sizeLine_eq]; omega, same_off hD (s5.trans s7) of, us ++ [(t, q.2 ++ [((m : Nat) : Int)])], by rw [refs_snoc]; exact upd_same, fun z hz => ?_, ?_, by rw [List.length_append, List.length_singleton]; omega⟩
            · rcases List.mem_append.mp hz with h | h
              · exact of.tup hD7 (s7 _ _ (hlu z h))
              · rw [List.mem_singleton.mp h]; exact of.tup hD7 h7
            · rw [List.map_append, eus, List.range_succ, List.map_append, List.append_assoc] <;> rfl
          refine ⟨q.1, t1, _, _, rfl, rfl, SqT.of (e1 _ _ hqt), SqT.of upd_same, ?_, fun e0 => ?_, (fun _ e => absurd e (by simp)), fun hne _ t2 ht2 => ?_⟩
          · unfold intV
            rw [List.length_map, hql, sizeLine_eq]
            show i + 1 ≤ _
            omega
          · refine put t1 _ e1 ?_
            have e2 : q.2 = [] := by
              unfold intV at e0
              exact List.map_eq_nil_iff.mp e0
            rw [e2, upd_same]
            show some (HO.tup [V.int (0 + ((m : Nat) : Int))]) = some (HO.tup [V.int ((m : Nat) : Int)])
            rw [Int.zero_add]
          · refine put t2 _ (e1.trans (same_upd ht2)) ?_
            rw [upd_same]
            show some (HO.tup (intV q.2 ++ [V.int (0 + ((m : Nat) : Int))])) = _
            rw [Int.zero_add]
            unfold intV
            rw [List.map_append] <;> rfl
        · obtain ⟨s5, us, hDl, hlu, eus, hul⟩ := h
          refine ⟨s5, us, hDl, hlu, ?_, by omega⟩
          rw [eus, tk, flatMap_snoc] <;> rfl
      · obtain ⟨s3, us, hDl, hlu, eus, hul⟩ := h
        refine ⟨s1.trans s3, D, us, _, rfl, s1.free hD, hDl, hlu, ?_⟩
        rw [eus, List.take_of_length_le (by rw [List.length_map, refs_len]; exact Nat.le_refl _), ets] <;> rfl
    · obtain ⟨s1, F, ts, v2, rfl, hF0', hF, hlt, ets⟩ := h
      exact ⟨_, rfl, k F ts H1 s1 hF0' hF hlt ets⟩
end
end CA
set_option Elab.async false
set_option linter.all false
set_option maxRecDepth 100000
set_option maxHeartbeats 1000000
namespace CA
open PySem PySem.Spec PyProof.Rows L2
/-! ### atoms as keys of a set -/
def aK (a : At Str) : List Key := [.inr a.1, .inl a.2.1, .inl a.2.2]
def unK : List Key → At Str
  | [.inr k, .inl l, .inl r] => (k, l, r)
  | _ => (Str.empty, 0, 0)
theorem unK_aK (a : At Str) : unK (aK a) = a := rfl
theorem aK_inj {a b : At Str} (h : aK a = aK b) : a = b := by
  have := congrArg unK h
  rwa [unK_aK, unK_aK] at this
def entK (es : En (At Str)) : Ent := es.map fun p => (p.1, aK p.2)
theorem entK_refs (es : En (At Str)) : (entK es).map (fun p => V.ref p.1) = refs es := by
  unfold entK refs
  rw [List.map_map] <;> rfl
theorem encM_aK (p : Addr) (a : At Str) : encM (p, aK a) = keyD a := rfl
/-- a sorted set of atoms, as entries -/
theorem keys_of {es : En (At Str)} {L L' : Ent} (ok : ∀ p ∈ es, Ok99 p.2) (hs : ∀ p ∈ L, p ∈ entK es) (ha : ∀ p ∈ entK es, p.2 ∈ L.map (·.2)) (nd : (L.map (·.2)).Nodup) (pm : L'.Perm L) (pw : L'.Pairwise fun a b => PySem.W.dataLe false encM a b = true) :
    ∃ ks : En (At Str), L'.map (fun q => V.ref q.1) = refs ks ∧ (∀ p ∈ ks, p ∈ es) ∧ (ks.map (·.2)).Nodup ∧ (∀ a, a ∈ ks.map (·.2) ↔ a ∈ es.map (·.2)) ∧ (ks.map (·.2)).Pairwise (fun a b => numA a < numA b) := by
  have hL : ∀ p ∈ L', ∃ q ∈ es, p = (q.1, aK q.2) := fun p hp => by
    obtain ⟨q, hq, e⟩ := List.mem_map.mp (hs p (pm.mem_iff.mp hp))
    exact ⟨q, hq, e.symm⟩
  have hk : ∀ p ∈ L', (p.1, unK p.2) ∈ es ∧ aK (unK p.2) = p.2 := fun p hp => by
    obtain ⟨q, hq, rfl⟩ := hL p hp
    exact ⟨hq, rfl⟩
  have hnd : ((L'.map fun p => (p.1, unK p.2)).map (·.2)).Nodup := by
    rw [List.map_map, List.Nodup, List.pairwise_map]
    have n1 : (L'.map fun q => q.2).Nodup := ((pm.map fun q => q.2).nodup_iff).mpr nd
    have n2 : L'.Pairwise fun a b => a.2 ≠ b.2 := List.pairwise_map.mp n1
    refine (List.Pairwise.and_mem.mp n2).imp fun {a b} h e => ?_
    obtain ⟨ha, hb, hne⟩ := h
    apply hne
    rw [← (hk a ha).2, ← (hk b hb).2]
    exact congrArg aK e
  refine ⟨L'.map fun p => (p.1, unK p.2), ?_, fun p hp => ?_, hnd, fun a => ⟨fun h => ?_, fun h => ?_⟩, ?_⟩
  · unfold refs
    rw [List.map_map] <;> rfl
  · obtain ⟨q, hq, rfl⟩ := List.mem_map.mp hp
    exact (hk q hq).1
  · obtain ⟨p, hp, rfl⟩ := List.mem_map.mp h
    obtain ⟨q, hq, rfl⟩ := List.mem_map.mp hp
    exact List.mem_map.mpr ⟨_, (hk q hq).1, rfl⟩
  · obtain ⟨p, hp, rfl⟩ := List.mem_map.mp h
    have h1 := ha (p.1, aK p.2) (List.mem_map.mpr ⟨p, hp, rfl⟩)
    obtain ⟨q, hq, e⟩ := List.mem_map.mp h1
    have hq2 := pm.mem_iff.mpr hq
    refine List.mem_map.mpr ⟨(q.1, unK q.2), List.mem_map.mpr ⟨q, hq2, rfl⟩, ?_⟩
    show unK q.2 = p.2
    rw [e]
    exact unK_aK p.2
  · rw [List.map_map, List.pairwise_map]
    have n1 : (L'.map fun q => q.2).Nodup := ((pm.map fun q => q.2).nodup_iff).mpr nd
    have n2 : L'.Pairwise fun a b => a.2 ≠ b.2 := List.pairwise_map.mp n1
    refine (List.Pairwise.and_mem.mp (pw.and n2)).imp fun {a b} h => ?_
    obtain ⟨ha, hb, hle, hne⟩ := h
    obtain ⟨p, hp, rfl⟩ := hL a ha
    obtain ⟨q, hq, rfl⟩ := hL b hb
    have h1 : (!PySem.W.dataLt (keyD q.2) (keyD p.2)) = true := hle
    rw [lt_key (ok q hq) (ok p hp)] at h1
    have h2 : ¬ numA q.2 < numA p.2 := by simpa using h1
    show numA p.2 < numA q.2
    rcases Int.lt_trichotomy (numA p.2) (numA q.2) with h | h | h
    · exact h
    · exact absurd (congrArg aK (numA_inj (ok p hp) (ok q hq) h)) hne
    · exact absurd h h2
theorem al_keys {L : Ent} {es : En (At Str)} (hs : ∀ p ∈ L, p ∈ entK es) : PySem.W.AllAlike (L.map encM) ∧ ∀ p ∈ L, p.2 ≠ [] := by
  constructor
  · intro d hd d' hd'
    obtain ⟨p, hp, rfl⟩ := List.mem_map.mp hd
    obtain ⟨q, hq, rfl⟩ := List.mem_map.mp hd'
    obtain ⟨a, _, rfl⟩ := List.mem_map.mp (hs p hp)
    obtain ⟨b, _, rfl⟩ := List.mem_map.mp (hs q hq)
    rw [encM_aK, encM_aK]
    simp [keyD, PySem.W.alike, PySem.W.alikeAll]
  · intro p hp e
    obtain ⟨a, _, rfl⟩ := List.mem_map.mp (hs p hp)
    cases e
theorem nodup_leA {ds ns : List (At Str)} (nd : ds.Nodup) (h : ∀ x ∈ ds, x ∈ ns) : ds.length ≤ ns.length := by
  induction ds generalizing ns with
  | nil => exact Nat.zero_le _
  | cons d ds ih =>
    rw [List.nodup_cons] at nd
    have hd := h d List.mem_cons_self
    have q := ih (ns := ns.erase d) nd.2 fun x hx => by
      have hne : x ≠ d := fun e => by subst e; exact nd.1 hx
      exact (List.mem_erase_of_ne hne).mpr (h x (List.mem_cons_of_mem _ hx))
    have p := (List.perm_cons_erase hd).length_eq
    rw [List.length_cons] at p ⊢
    omega
theorem rowsZ_snoc (ks : List (At Str)) (xs : List Int) (k : At Str) (n : Int) (hl : ks.length = xs.length) : rowsZ (ks ++ [k]) (xs ++ [n]) = rowsZ ks xs ++ (if 0 < n then [mkRow k n] else []) := by
  unfold rowsZ
  rw [List.zip_append hl, List.filter_append, List.map_append]
  by_cases h : 0 < n
  · simp [h]
  · simp [h]
/-! ### promises -/
def NoRen (as bs : List (At Str)) : Prop := ∀ vs, IsVars as vs → ¬ ∃ t, CovBy as bs vs t ∧ t.Nodup
def inQ (as bs : List (At Str)) (a : At Str) : Prop := ∀ va vb, IsVars as va → IsVars bs vb → if va.length < vb.length then a ∈ bs else a ∈ as
structure Told (as bs : List (At Str)) (rs : List (Rw Str)) : Prop where
  ne : cnt as rs ≠ cnt bs rs
  q : ∀ r ∈ rs, inQ as bs (key r) ∧ oft r ≤ 4
def sp_telling (K : PySem.W.Frag) : Sp := fun vs H Q _ => ∃ (a b : Addr) (es fs : En (At Str)), vs = [.ref a, .ref b] ∧ QAt K H a es ∧ QAt K H b fs ∧ NoRen (es.map (·.2)) (fs.map (·.2)) ∧
  ∀ (t : Addr) (rs : En (Rw Str)) H', Same H H' → H t = none → TAt K H' t rs → Told (es.map (·.2)) (fs.map (·.2)) (rs.map (·.2)) → Q (.ref t) H'
def sp_alike (K : PySem.W.Frag) : Sp := fun vs H Q _ => ∃ (a b : Addr) (es fs : En (At Str)), vs = [.ref a, .ref b] ∧ QAt K H a es ∧ QAt K H b fs ∧
  (∀ (p t : Addr) (ts : List (List Int)) (x : List Int) H', Same H H' → H p = none → H' p = some (.tup [.str "alike", .ref t]) → H' t = some (.tup (intV x)) → (∀ vs, IsVars (es.map (·.2)) vs → IsRens (es.map (·.2)) (fs.map (·.2)) vs ts) → ts[0]? = some x → Q (.ref p) H') ∧
  ∀ (p t : Addr) (rs : En (Rw Str)) H', Same H H' → H p = none → H' p = some (.tup [.str "apart", .ref t]) → TAt K H' t rs → NoRen (es.map (·.2)) (fs.map (·.2)) → Told (es.map (·.2)) (fs.map (·.2)) (rs.map (·.2)) → Q (.ref p) H'
def sp_shows (K : PySem.W.Frag) : Sp := fun vs H Q _ => ∃ (a b p t : Addr) (es fs : En (At Str)), vs = [.ref a, .ref b, .ref p] ∧ QAt K H a es ∧ QAt K H b fs ∧
  ((∃ x, H p = some (.tup [.str "alike", .ref t]) ∧ H t = some (.tup (intV x)) ∧ ∀ vs, IsVars (es.map (·.2)) vs → CovBy (es.map (·.2)) (fs.map (·.2)) vs x ∧ x.Nodup) ∨
   (∃ rs, H p = some (.tup [.str "apart", .ref t]) ∧ TAt K H t rs ∧ cnt (es.map (·.2)) (rs.map (·.2)) ≠ cnt (fs.map (·.2)) (rs.map (·.2)))) ∧ ∀ H', Same H H' → Q (.bl true) H'
theorem eqv_tss (ts : List (List Int)) : PyData.eqv (.list (ts.map fun t => .tuple (t.map .int))) (.list []) = ts.isEmpty := by
  cases ts with
  | nil => simp [PyData.eqv, PyData.eqvAll]
  | cons t ts => simp [PyData.eqv, PyData.eqvAll]
theorem sh_tss (ts : List (List Int)) : SeqAt.shaped (.list (ts.map fun t => .tuple (t.map .int))) = true := by
  have c1 : ∀ t : List Int, PyData.canLayAll0 (t.map .int) = true := fun t => by
    induction t with
    | nil => simp [PyData.canLayAll0]
    | cons x t ih =>
      show PyData.canLayAll0 (.int x :: t.map .int) = true
      rw [PyData.canLayAll0, ih]
      simp [PyData.canLay0]
  have c2 : PyData.canLayAll0 (ts.map fun t => PyData.tuple (t.map .int)) = true := by
    induction ts with
    | nil => simp [PyData.canLayAll0]
    | cons t ts ih =>
      rw [List.map_cons, PyData.canLayAll0, ih, PyData.canLay0, c1]; rfl
  have d2 : PyData.depthAll (ts.map fun t => PyData.tuple (t.map .int)) ≤ 1 := by
    induction ts with
    | nil => simp [PyData.depthAll]
    | cons t ts ih =>
      have ih2 := ih (by
        rw [List.map_cons, PyData.canLayAll0, Bool.and_eq_true] at c2
        exact c2.2)
      rw [List.map_cons, PyData.depthAll, PyData.depth, PySem.W.depth_ints]
      omega
  unfold SeqAt.shaped
  rw [Bool.and_eq_true, decide_eq_true_eq, PyData.canLay0, PyData.depth]
  exact ⟨c2, by omega⟩
theorem dp_tss {K : PySem.W.Frag} {H : Hp} : ∀ {ts : En (List Int)}, Lay intV H ts → DpAll K H (refs ts) ((ts.map (·.2)).map fun t => .tuple (t.map .int))
  | [], _ => .nil
  | p :: ts, h => .cons (.tup (SqT.of (h p List.mem_cons_self)) (dp_ints p.2)) (dp_tss fun q hq => h q (List.mem_cons_of_mem _ hq))
section
variable {P : Program} {w : World} {K : PySem.W.Frag} {mg : Str → Option Value} {base : Heap}

theorem sc_telling : FnScope ["one", "other", "q", "keys", "often", "rows", "key", "number"] ["one", "other"] (defScope s_telling) := ⟨rfl, rfl, rfl, by decide +kernel, rfl, by decide +kernel, by decide +kernel⟩
theorem ok_telling (T : Txt K mg) : Ok P w K mg base 8 "telling" ["one", "other"] (sp_telling K) := by
  have S := sc_telling
  have OA : OkM P w K mg base 1 (wr K "Question" "property" "atoms") ["self"] (sp_kept K "Question") := ok_Question_atoms T
  have OV : OkM P w K mg base 2 (wr K "Question" "property" "variables") ["self"] (sp_vars K) := ok_Question_variables T
  have ON : Ok P w K mg base 1 "numbers" ["many"] sp_numbers := ok_numbers T
  have OR : Ok P w K mg base 3 "raw_count" ["atoms", "rows"] sp_raw_count := ok_raw_count T
  have FI : FnR P w K mg base CX0 6 (me K "Table" "__init__") (starS (sp_initT K)) := ok_initT T
  refine mkOk T.d_telling S (fun _ _ _ _ _ _ us hl => match us, hl with | [_, _], _ => rfl) (fun vs H Q E h => ?_) (fun cdv A outer s H vs Q E hr h => ?_)
  · obtain ⟨a, b, es, fs, rfl, _⟩ := h
    rfl
  · obtain ⟨a, b, es, fs, rfl, hA, hB, hno, k⟩ := h
    have hu16 := hu16_of hr
    have hu64 := (un64 hr)
    obtain ⟨⟨dx, kp, hq, hk⟩, hl, hok, h1, h4⟩ := id hA
    obtain ⟨⟨dy, kq, hq2, hk2⟩, hl2, hok2, g1, g4⟩ := id hB
    refine ⟨_, (C8.pss_cut (ps_set (i := 2) S.nd rfl (.inl rfl) (pe_ifExp (pt_cmpR op_gt (pe_callB call_len_seq (by rfl) T.f_len (by decide +kernel) (pa_cons (ppr (pv 1) T.ic_Question.cl T.p_Question_variables OV (hr.mono (by decide))) pa_nil)) (pe_callB call_len_seq (by rfl) T.f_len (by decide +kernel) (pa_cons (ppr (pv 0) T.ic_Question.cl T.p_Question_variables OV (hr.mono (by decide))) pa_nil)) (nomark _)) (pv 1) (pv 0))) (pss_cons (ps_set (i := 3) S.nd rfl (.inl rfl) (pe_callB (cr_sortedM rfl hu16) (by rfl) T.f_sorted (by decide +kernel) (pa_cons (pe_callTy (cr_setM rfl hu64) (by rfl) T.f_set (by decide +kernel) (pa_cons (ppr (pv 2) T.ic_Question.cl T.p_Question_atoms OA (hr.mono (by decide))) pa_nil)) pa_nil))) (pss_cons (ps_for PassesOwn.never rfl (pi_sd (pcl ON (hr.mono (by decide)) (pa_cons (pe_callB call_len_seq (by rfl) T.f_len (by decide +kernel) (pa_cons (pv 3) pa_nil)) pa_nil))) (pg_name (i := 4) S.nd rfl (Or.inl rfl)) (pss_cons (ps_setLc (i := 5) (own := [("key", 6), ("number", 7)]) (g := gTup K 2 (gCons (gName 6) (gCons (gName 7) gNil))) (tt := tTest (tOp (rI0 fun i j => .bl (decide (j < i))) (tVar 7) (tC (.int 0)))) (te := tOp (rCatA K) (tVar 6) (tTup (tCons (tVar 7) tNil))) rfl S.nd rfl rfl (sw_true rfl rfl rfl (by decide +kernel)) (pi_zipM (by rfl) T.f_zip (pa_cons (pv 3) (pa_cons (pv 4) pa_nil))) (blkOk_by (N := ["one", "other", "q", "keys", "often", "rows", "key", "number"]) (sc := defScope s_telling) (by decide +kernel)) (fun _ _ _ _ _ => (pg_tup rfl (pgs_cons (pg_name (i := 6) S.nd rfl (Or.inl rfl)) (pgs_cons (pg_name (i := 7) S.nd rfl (Or.inl rfl)) pgs_nil)))) (fun _ _ _ _ _ => pts_one (pt_cmpR op_gt (pv 7) pe_int (nomark _))) (fun _ _ _ _ _ => pe_op op_catA (pv 6) (pe_tup (pa_cons (pv 7) pa_nil)))) (pss_one (ps_if (pt_cmpR op_ne (pcl OR (hr.mono (by decide)) (pa_cons (ppr (pv 0) T.ic_Question.cl T.p_Question_atoms OA (hr.mono (by decide))) (pa_cons (pv 5) pa_nil))) (pcl OR (hr.mono (by decide)) (pa_cons (ppr (pv 1) T.ic_Question.cl T.p_Question_atoms OA (hr.mono (by decide))) (pa_cons (pv 5) pa_nil))) (nomark _)) (pss_one (ps_ret (pe_makeS T.mk_Table FI hr (by rfl) T.g_Table pass0 (pv 5)))) pss_nil)))) (pss_one (ps_ret pe_non))))), ?_⟩
    refine ⟨fun σ' H2 => ∃ (q : Addr) (gs : En (At Str)), σ' = [some (.ref a), some (.ref b), some (.ref q), none, none, none, none, none] ∧ Same H H2 ∧ QAt K H2 q gs ∧ (∀ x, x ∈ gs.map (·.2) → inQ (es.map (·.2)) (fs.map (·.2)) x) ∧ (∀ keys : List (At Str), keys.Nodup → (∀ x, x ∈ keys ↔ x ∈ gs.map (·.2)) → (∀ xs : List Int, xs.length = keys.length → (∀ n ∈ xs, n ∈ grid) → cnt (es.map (·.2)) (rowsZ keys xs) = cnt (fs.map (·.2)) (rowsZ keys xs)) → False), ?_, ?_⟩
    · refine ⟨_, rfl, b, dy, _, rfl, hq2, b, fs, rfl, hB, fun pb nb H1 s1 hpb hnb htb => ?_⟩
      refine ⟨_, _, rfl, .inr (SqT.of htb), ?_⟩
      refine ⟨_, rfl, a, dx, _, rfl, s1 _ _ hq, a, es, rfl, hA.same s1, fun pa na H2 s2 hpa hna hta => ?_⟩
      have s12 := s1.trans s2
      refine ⟨_, _, rfl, .inr (SqT.of hta), _, _, rfl, rfl, decide (na.length < nb.length), congrArg V.bl (by rw [List.length_map, List.length_map]; exact decide_eq_decide.mpr (by omega)), ?_⟩
      refine ite2 (fun hlt => ?_) (fun hlt => ?_)
      · have hlt : na.length < nb.length := of_decide_eq_true hlt
        refine ⟨_, rfl, ⟨b, fs, rfl, s12, hB.same s12, fun x hx va vb ha hb => ?_, fun keys kn km same => hno na hna (told (p := es.map (·.2)) (q := fs.map (·.2)) hna hnb (.inl ⟨rfl, rfl, by omega⟩) kn km (by rw [List.length_map]; exact h4) (by rw [List.length_map]; exact g4) same)⟩⟩
        rw [ha.one hna, hb.one hnb, if_pos hlt]
        exact hx
      · have hlt : ¬ na.length < nb.length := of_decide_eq_false (by simpa using hlt)
        refine ⟨_, rfl, ⟨a, es, rfl, s12, hA.same s12, fun x hx va vb ha hb => ?_, fun keys kn km same => hno na hna (told (p := fs.map (·.2)) (q := es.map (·.2)) hna hnb (.inr ⟨rfl, rfl, by omega⟩) kn km (by rw [List.length_map]; exact h4) (by rw [List.length_map]; exact g4) same)⟩⟩
        rw [ha.one hna, hb.one hnb, if_neg hlt]
        exact hx
    · rintro σ' H2 ⟨q, gs, rfl, s12, hG, hin, habs⟩
      obtain ⟨⟨dz, kr, hq3, hk3⟩, hl3, hok3, f1, f4⟩ := id hG
      refine ⟨_, rfl, q, dz, _, rfl, hq3, q, dz, kr, rfl, hq3, ?_⟩
      refine ⟨true, kr, entK gs, rfl, .inl ⟨rfl, SqT.of (by rw [entK_refs]; exact hk3)⟩, fun p hp => ?_, by unfold entK; rw [List.length_map]; omega, fun g L hg hsub hall nd => ?_⟩
      · obtain ⟨z, hz, rfl⟩ := List.mem_map.mp hp
        exact SqT.of (hl3 z hz)
      have sg := same_upd (o := SetMO P w g L) hg
      obtain ⟨al, ne⟩ := al_keys hsub
      refine ⟨g, L, rfl, upd_same, fun p hp => ?_, al, ne, fun L' kl pm pw hkl => ?_⟩
      · obtain ⟨z, hz, rfl⟩ := List.mem_map.mp (hsub p hp)
        exact SqT.of (sg _ _ (hl3 z hz))
      obtain ⟨ks, ek, kin, knd, kmem, kasc⟩ := keys_of (fun p hp => ok99_of (hok3 p hp)) hsub hall nd pm pw
      rw [ek]
      have sk := sg.trans (same_upd (o := .lst (refs ks)) hkl)
      have hkl3 : (upd (upd H2 g (SetMO P w g L)) kl (.lst (refs ks))) kl = some (.lst (refs ks)) := upd_same
      have s3 := s12.trans sk
      have kl4 : ks.length ≤ 4 := by
        have h1 := nodup_leA knd (ns := gs.map (·.2)) fun x hx => (kmem x).1 hx
        rw [List.length_map, List.length_map] at h1
        omega
      refine ⟨_, rfl, kl, _, rfl, .inl (SqL.of hkl3), ks.length, (by rw [refs_len] <;> rfl), kl4, fun np ts H4 s4 hnp hnl hlt ets => ?_⟩
      have hnl2 : H4 np = some (sqO false (refs ts)) := hnl
      refine ⟨false, np, rfl, ⟨_, sd_of hnl2⟩, ?_⟩
      have s34 := s3.trans s4
      have hkl4 : H4 kl = some (sqO false (refs ks)) := s4 _ _ hkl3
      have hlk4 : Lay aV H4 ks := fun p hp => s4 _ _ (sk _ _ (hl3 p (kin p hp)))
      refine for_it (tsd_walk (K := K) (t := false) (a := np) (xs := refs ts)) (fun i σ H' => Same H4 H' ∧ ∃ v4 v5, σ = [some (.ref a), some (.ref b), some (.ref q), some (.ref kl), v4, v5, none, none] ∧ ∀ xs ∈ (ts.map (·.2)).take i, cnt (es.map (·.2)) (rowsZ (ks.map (·.2)) xs) = cnt (fs.map (·.2)) (rowsZ (ks.map (·.2)) xs))
        ⟨Same.refl _, none, none, rfl, fun xs hx => by rw [List.take_zero] at hx; cases hx⟩ (fun i σ H' _ h => sd_of (t := false) (h.1 _ _ hnl2)) (fun i x σ H5 H6 hi h hy => ?_) fun σ H5 h => ?_
      · obtain ⟨s5, v4, v5, rfl, heq⟩ := h
        obtain ⟨rfl, hx⟩ := hy
        obtain ⟨z, hz, rfl⟩ := refs_at hx
        have hzm := List.mem_of_getElem? hz
        have hzt := s5 _ _ (hlt z hzm)
        have hzt2 : H6 z.1 = some (sqO true (intV z.2)) := hzt
        have hkl6 := s5 _ _ hkl4
        obtain ⟨zl, zg⟩ := nums_mem.mp (show z.2 ∈ nums ks.length by rw [← ets]; exact List.mem_map.mpr ⟨z, hzm, rfl⟩)
        refine ⟨_, rfl, _, rfl, false, true, kl, z.1, _, _, rfl, sd_of hkl6, sd_of hzt2, fun D hD => ?_⟩
        refine lc_mapT (walk_zipM (K := K) (t1 := false) (t2 := true) (a := kl) (b := z.1) (xs := refs ks) (ys := intV z.2) (n := ks.length) (by unfold intV; rw [refs_len, List.length_map, zl, Nat.min_self]) (fun _ _ _ _ => trivial))
          (fun m ys H => ∃ rs : En (Rw Str), ys = refs rs ∧ Lay rV H rs ∧ rs.map (·.2) = rowsZ ((ks.map (·.2)).take m) (z.2.take m)) hD (fun H7 s7 => ⟨sd_of (s7 _ _ hkl6), sd_of (s7 _ _ hzt2)⟩)
          (fun m ys H7 H8 acc hDl of ⟨rs, e1, e2, e3⟩ => ⟨rs, e1, fun p hp => of.tup hDl (e2 p hp), e3⟩) (by rw [sizeLine_eq]; omega) ⟨[], rfl, fun p hp => absurd hp List.not_mem_nil, rfl⟩
          (fun m x H7 H8 ys hm hyl s7 hDl hP hy Q' Qn kQ kN => ?_) fun H7 ys s7 hDl hyl hP => ?_
        · obtain ⟨rs, rfl, hlr, ers⟩ := hP
          obtain ⟨t, x, y, rfl, ht, rfl, hx, hy⟩ := hy
          obtain ⟨p, hp, rfl⟩ := refs_at hx
          obtain ⟨n, hn, rfl⟩ := intV_at hy
          have st := same_upd (o := .tup [.ref p.1, .int n]) ht
          have hpt := st _ _ (s7 _ _ (s5 _ _ (hlk4 p (List.mem_of_getElem? hp))))
          have tka : (ks.map (·.2)).take (m + 1) = (ks.map (·.2)).take m ++ [p.2] := take_next1 (by rw [List.getElem?_map, hp]; rfl)
          have tkb : z.2.take (m + 1) = z.2.take m ++ [n] := take_next1 hn
          have step := rowsZ_snoc ((ks.map (·.2)).take m) (z.2.take m) p.2 n (by rw [List.length_take, List.length_take, List.length_map, zl])
          rw [← tka, ← tkb] at step
          refine ⟨_, _, rfl, SqT.of upd_same, rfl, _, _, rfl, _, _, rfl, rfl, rfl, ?_⟩
          refine ⟨_, rfl, _, _, rfl, rfl, decide (0 < n), rfl, ?_⟩
          refine ite2 (fun hpos => ?_) (fun hpos => ?_)
          · have hpos : 0 < n := of_decide_eq_true hpos
            refine ⟨_, rfl, _, rfl, by show 1 ≤ sizeLine; decide, fun t1 ht1 => ?_⟩
            have e1 := same_upd (o := .tup [.int n]) ht1
            refine ⟨p.1, t1, _, _, rfl, rfl, SqT.of (e1 _ _ hpt), SqT.of upd_same, by show 4 ≤ sizeLine; decide, (fun e => by cases e), (fun _ e => by cases e), fun _ _ t2 ht2 => ?_⟩
            have e2 := e1.trans (same_upd (o := .tup (aV p.2 ++ [.int n])) ht2)
            refine kQ _ _ (st.trans e2) ⟨rs ++ [(t2, mkRow p.2 n)], by rw [refs_snoc], fun q hq => ?_, ?_⟩
            · rcases List.mem_append.mp hq with h | h
              · exact e2 _ _ (st _ _ (hlr q h))
              · rw [List.mem_singleton.mp h]; exact upd_same
            · rw [List.map_append, ers, step, if_pos hpos] <;> rfl
          · have hpos : ¬ 0 < n := of_decide_eq_false (by simpa using hpos)
            refine kN _ st ⟨rs, rfl, hlr.same st, ?_⟩
            rw [ers, step, if_neg hpos, List.append_nil]
        · obtain ⟨rs, rfl, hlr, ers⟩ := hP
          rw [List.take_of_length_le (by rw [List.length_map]; exact Nat.le_refl _), List.take_of_length_le (by omega)] at ers
          have s47 := s5.trans s7
          have s07 := s34.trans s47
          have hA7 := hA.same s07
          have hB7 := hB.same s07
          obtain ⟨⟨dx7, kp7, hq7, hk7⟩, hl7, _, _, _⟩ := id hA7
          obtain ⟨⟨dy7, kq7, hq27, hk27⟩, hl27, _, _, _⟩ := id hB7
          have rlen : rs.length ≤ 12 := by
            have h1 := rowsZ_len (ks.map (·.2)) z.2
            rw [← ers, List.length_map, List.length_map] at h1
            omega
          have rprop : ∀ p ∈ rs, key p.2 ∈ ks.map (·.2) ∧ 0 < oft p.2 ∧ oft p.2 ≤ 4 := fun p hp => by
            obtain ⟨c1, c2, c3⟩ := rowsZ_key (ks.map (·.2)) z.2 p.2 (by rw [← ers]; exact List.mem_map.mpr ⟨p, hp, rfl⟩)
            have c4 := zg _ c2
            unfold grid at c4
            simp only [List.mem_cons, List.not_mem_nil, or_false] at c4
            exact ⟨c1, c3, by omega⟩
          have hDl2 : H7 D = some (sqO false (refs rs)) := hDl
          refine ⟨_, rfl, a, dx7, _, rfl, hq7, a, dx7, kp7, rfl, hq7, _, rfl, ?_⟩
          refine ⟨kp7, D, false, es, rs, rfl, hk7, hl7, h1, h4, hDl2, hlr, rlen, fun p hp => ⟨by have := (rprop p hp).2.1; omega, by have := (rprop p hp).2.2; omega⟩, fun H8 s8 => ?_⟩
          refine ⟨_, rfl, b, dy7, _, rfl, s8 _ _ hq27, b, dy7, kq7, rfl, s8 _ _ hq27, _, rfl, ?_⟩
          refine ⟨kq7, D, false, fs, rs, rfl, s8 _ _ hk27, hl27.same s8, g1, g4, s8 _ _ hDl2, hlr.same s8, rlen, fun p hp => ⟨by have := (rprop p hp).2.1; omega, by have := (rprop p hp).2.2; omega⟩, fun H9 s9 => ?_⟩
          refine ⟨rfl, !decide (cnt (es.map (·.2)) (rs.map (·.2)) = cnt (fs.map (·.2)) (rs.map (·.2))), congrArg V.bl (by simp), ?_⟩
          have s79 := s8.trans s9
          by_cases he : cnt (es.map (·.2)) (rs.map (·.2)) = cnt (fs.map (·.2)) (rs.map (·.2))
          · rw [decide_eq_true he]
            refine iteF ⟨s47.trans s79, _, _, rfl, fun xs hx => ?_⟩
            rw [take_next1 (by rw [List.getElem?_map, hz]; rfl)] at hx
            rcases List.mem_append.mp hx with hx | hx
            · exact heq xs hx
            · rw [List.mem_singleton.mp hx]
              show cnt _ (rowsZ (ks.map (·.2)) z.2) = _
              rw [← ers]
              exact he
          · rw [decide_eq_false he]
            refine iteT ?_
            have hkin : ∀ p ∈ rs, ∃ y ∈ gs, y.2 = key p.2 := fun p hp => by
              obtain ⟨y, hy, e⟩ := List.mem_map.mp (rprop p hp).1
              exact ⟨y, kin y hy, e⟩
            refine ⟨_, rfl, D, _, rfl, .inr (SqL.of (s79 _ _ hDl)), make_T (hlr.same s79) (fun p hp => ?_) ?_ rlen fun x rs' H10 s10 hx0 hT pm _ => ?_⟩
            · obtain ⟨y, hy, e⟩ := hkin p hp
              obtain ⟨c1, c2, c3, c4, c5⟩ := hok3 y hy
              rw [e] at c1 c2 c3 c4 c5
              have c6 := (rprop p hp).2
              refine ⟨c1, c2, ?_, c4, ?_, ?_, ?_⟩
              · have : p.2.2.1 ≤ 9 := c3
                omega
              · have : p.2.2.2.1 ≤ 9 := c5
                omega
              · have : 0 < p.2.2.2.2 := c6.1
                omega
              · have : p.2.2.2.2 ≤ 4 := c6.2
                omega
            · have := rowsZ_nodup knd z.2
              rw [← ers, List.map_map] at this
              exact this
            · have sall := s07.trans (s79.trans s10)
              refine k x rs' H10 sall ((s07.trans s79).free hx0) hT ⟨?_, fun r hr => ?_⟩
              · have p2 := pm.map (·.2)
                rw [cnt_rows p2, cnt_rows p2]
                exact he
              · obtain ⟨p, hp, rfl⟩ := List.mem_map.mp hr
                have hp2 := pm.mem_iff.mp hp
                obtain ⟨y, hy, e⟩ := hkin p hp2
                exact ⟨hin _ (by rw [← e]; exact List.mem_map.mpr ⟨y, hy, rfl⟩), (rprop p hp2).2.2⟩
      · obtain ⟨s5, v4, v5, rfl, heq⟩ := h
        rw [List.take_of_length_le (by rw [List.length_map, refs_len]; exact Nat.le_refl _), ets] at heq
        exact (habs (ks.map (·.2)) knd kmem fun xs hl hg => heq xs (nums_mem.mpr ⟨by rw [hl, List.length_map], hg⟩)).elim
end
end CA
set_option Elab.async false
set_option linter.all false
set_option maxRecDepth 100000
set_option maxHeartbeats 1000000
namespace CA
open PySem PySem.Spec PyProof.Rows L2
theorem passE0 {X : Cx} : Passes (CX X.prog X.w) X E0 := by
  intro pins σ H s e s' _ h
  obtain ⟨_, _, _, _, _, _, _, _, _, _, _, _, z⟩ := h
  exact z.elim
theorem noStop0 {K : PySem.W.Frag} : NoStop K E0 := fun _ _ _ z => z.elim
def spg_renamings (K : PySem.W.Frag) : SpG := fun vs H Q _ => ∃ (a b : Addr) (es fs : En (At Str)), vs = [.ref a, .ref b] ∧ QAt K H a es ∧ QAt K H b fs ∧
  ∀ (ts : En (List Int)) H', Same H H' → Lay intV H' ts → (∀ vs, IsVars (es.map (·.2)) vs → IsRens (es.map (·.2)) (fs.map (·.2)) vs (ts.map (·.2))) → Q (refs ts) H'
structure OkG (P : Program) (w : World) (K : PySem.W.Frag) (mg : Str → Option Value) (base : Heap) (k : Nat) (x : Str) (ps : List Str) (sp : SpG) : Prop where
  ex : ∃ fd, GFn P w K mg base k (ad K x) fd ps sp ∧ Binds K fd ps []
  kp : PySem.W.keepIn K (.ref (ad K x)) = true
  gl : mg x = some (.ref (ad K x))
/-- list(g(e, ..)) -/
theorem plg {X : Cx} {k : Nat} {x : Str} {ps : List Str} {sp : SpG} {e : Expr} {es : List Expr} {t : TA} {p p2 pos pos' : Pos} (O : OkG X.prog X.w X.K X.mg X.base k x ps sp) (hr : Room (k + 3) X.A) (ha : PA X (e :: es) t) (hm : X.mg "list" = none) (hg : Gl X x := by rfl) (hg2 : Gl X "list" := by rfl)
    (hdb : (x == ("__debug__" : Str)) = false := by decide) (he : starEach (e :: es) X.env = (false, eval e X.env) :: starEach es X.env := by rfl) (hpl : (backTo pos' (starEach es X.env)).any (·.1) = false := by rfl)
    (he2 : starEach [.Call (.Name x p) (e :: es) [] pos'] X.env = (false, eval (.Call (.Name x p) (e :: es) [] pos') X.env) :: starEach [] X.env := by rfl) :
    PE X (.Call (.Name "list" p2) [.Call (.Name x p) (e :: es) [] pos'] [] pos) (tListG (tCallG sp [] E0 t)) := by
  obtain ⟨fd, F, b⟩ := O.ex
  exact pe_listG (pgen_call F (hr.mono (by omega)) hg O.gl O.kp b .nil ha hdb he hpl) passE0 noStop0 hr hg2 hm (by decide +kernel) (by decide) (by decide) he2
section
variable {P : Program} {w : World} {K : PySem.W.Frag} {mg : Str → Option Value} {base : Heap}

theorem sc_alike : FnScope ["one", "other", "found"] ["one", "other"] (defScope s_alike) := ⟨rfl, rfl, rfl, by decide +kernel, rfl, by decide +kernel, by decide +kernel⟩
theorem ok_alike (T : Txt K mg) : Ok P w K mg base 9 "alike" ["one", "other"] (sp_alike K) := by
  have S := sc_alike
  have ONQ : Ok P w K mg base 1 "need_question" ["thing"] (sp_need K "Question") := ok_need_question T
  have OR : Ok P w K mg base 4 "raw_renamings" ["one", "other"] (sp_raw_renamings K) := ok_raw_renamings T
  have OT : Ok P w K mg base 8 "telling" ["one", "other"] (sp_telling K) := ok_telling T
  obtain ⟨ta, ga⟩ := T.n_ALIKE
  obtain ⟨tp, gp⟩ := T.n_APART
  refine mkOk T.d_alike S (fun _ _ _ _ _ _ us hl => match us, hl with | [_, _], _ => rfl) (fun vs H Q E h => ?_) (fun cdv A outer s H vs Q E hr h => ?_)
  · obtain ⟨a, b, es, fs, rfl, _⟩ := h
    rfl
  · obtain ⟨a, b, es, fs, rfl, hA, hB, kA, kB⟩ := h
    have hu64 := (un64 hr)
    obtain ⟨dx, kp, hq, hk⟩ := hA.ins
    obtain ⟨dy, kq, hq2, hk2⟩ := hB.ins
    refine ⟨_, (pss_cons (ps_expr (pcl ONQ (hr.mono (by decide)) (pa_cons (pv 0) pa_nil))) (pss_cons (ps_expr (pcl ONQ (hr.mono (by decide)) (pa_cons (pv 1) pa_nil))) (pss_cons (ps_set (i := 2) S.nd rfl (.inl rfl) (pcl OR (hr.mono (by decide)) (pa_cons (pv 0) (pa_cons (pv 1) pa_nil)))) (pss_cons (ps_if (pt_cmpR (op_neD hu64) (pv 2) (pe_lst pa_nil) (nomark _)) (pss_one (ps_ret (pe_tup (pa_cons (pe_glob (by rfl) ga (show RelV (.str "alike") _ from ⟨_, rfl⟩)) (pa_cons (pe_ix ix_list (pv 2) pe_int (fun _ _ => rfl)) pa_nil))))) pss_nil) (pss_one (ps_ret (pe_tup (pa_cons (pe_glob (by rfl) gp (show RelV (.str "apart") _ from ⟨_, rfl⟩)) (pa_cons (pcl OT hr (pa_cons (pv 0) (pa_cons (pv 1) pa_nil))) pa_nil))))))))), ?_⟩
    refine ⟨_, rfl, a, dx, _, rfl, hq, ?_⟩
    refine ⟨_, rfl, b, dy, _, rfl, hq2, ?_⟩
    refine ⟨_, rfl, _, rfl, a, b, es, fs, rfl, hA, hB, fun p ts H1 s1 hp0 hp hlt hren h63 => ?_⟩
    refine ⟨_, rfl, Nat.zero_le _, fun q hq0 => ?_⟩
    have sq := same_upd (o := .lst []) hq0
    refine ⟨.list ((ts.map (·.2)).map fun t => .tuple (t.map .int)), .list [], .lst (SqL.of (sq _ _ hp)) (dp_tss (hlt.same sq)), .lst (SqL.of upd_same) .nil, sh_tss _, by decide +kernel, _, congrArg V.bl (by rw [eqv_tss]), ?_⟩
    have s1q := s1.trans sq
    cases ts with
    | nil =>
      refine iteF ?_
      have hno : NoRen (es.map (·.2)) (fs.map (·.2)) := fun vs hvs ⟨t, c, n⟩ => by
        have := ((hren vs hvs).mem t).2 ⟨c, n⟩
        cases this
      refine ⟨_, rfl, _, rfl, a, b, es, fs, rfl, hA.same s1q, hB.same s1q, hno, fun t rs H2 s2 ht0 hT htold => ?_⟩
      refine ⟨by show 2 ≤ sizeLine; decide, fun r hr0 => ?_⟩
      have sr := same_upd (o := .tup [.str "apart", .ref t]) hr0
      exact kB r t rs _ (s1q.trans (s2.trans sr)) ((s1q.trans s2).free hr0) upd_same (hT.same sr) hno htold
    | cons z ts =>
      refine iteT ?_
      refine ⟨_, rfl, _, _, _, V.ref z.1, rfl, rfl, SqL.of (sq _ _ hp), atI_nat (j := 0) (show (refs (z :: ts))[0]? = some (V.ref z.1) from rfl), by show 2 ≤ sizeLine; decide, fun r hr0 => ?_⟩
      have sr := same_upd (o := .tup [.str "alike", .ref z.1]) hr0
      exact kA r z.1 _ z.2 _ (s1q.trans sr) (s1q.free hr0) upd_same (sr _ _ (sq _ _ (hlt z List.mem_cons_self))) hren rfl
theorem sc_shows_alike : FnScope ["one", "other", "thing"] ["one", "other", "thing"] (defScope s_shows_alike) := ⟨rfl, rfl, rfl, by decide +kernel, rfl, by decide +kernel, by decide +kernel⟩
theorem ok_shows_alike (T : Txt K mg) : Ok P w K mg base 5 "shows_alike" ["one", "other", "thing"] (sp_shows K) := by
  have S := sc_shows_alike
  have ONQ : Ok P w K mg base 1 "need_question" ["thing"] (sp_need K "Question") := ok_need_question T
  have OR : Ok P w K mg base 4 "raw_renamings" ["one", "other"] (sp_raw_renamings K) := ok_raw_renamings T
  have OL : Ok P w K mg base 2 "is_listed" ["thing", "found"] sp_is_listed := ok_is_listed T
  have FC : FnR P w K mg base CX0 4 (me K "Question" "__call__") (sp_call K) := (ok_Question_call T).fnr
  refine mkOk T.d_shows_alike S (fun _ _ _ _ _ _ us hl => match us, hl with | [_, _, _], _ => rfl) (fun vs H Q E h => ?_) (fun cdv A outer s H vs Q E hr h => ?_)
  · obtain ⟨a, b, p, t, es, fs, rfl, _⟩ := h
    rfl
  · obtain ⟨a, b, p, t, es, fs, rfl, hA, hB, hc, k⟩ := h
    obtain ⟨dx, kp, hq, hk⟩ := hA.ins
    obtain ⟨dy, kq, hq2, hk2⟩ := hB.ins
    refine ⟨_, (pss_cons (ps_expr (pcl ONQ (hr.mono (by decide)) (pa_cons (pv 0) pa_nil))) (pss_cons (ps_expr (pcl ONQ (hr.mono (by decide)) (pa_cons (pv 1) pa_nil))) (pss_cons (ps_if (PW.pt (pw_or (pt_not (pt_val (pe_callB call_isi (by rfl) T.f_isinstance (by decide +kernel) (pa_cons (pv 2) (pa_cons (pe_bltn (by rfl) T.f_tuple (by decide +kernel) (show RelV (.ty "tuple") (.type "tuple") from rfl)) pa_nil))))) (pw_or (pt_cmpR op_ne (pe_callB call_len_seq (by rfl) T.f_len (by decide +kernel) (pa_cons (pv 2) pa_nil)) pe_int (nomark _)) (pw_or1 (pt_not (pt_val (pe_callB call_isi (by rfl) T.f_isinstance (by decide +kernel) (pa_cons (pe_ix ix_tup (pv 2) pe_int (fun _ _ => rfl)) (pa_cons (pe_bltn (by rfl) T.f_str (by decide +kernel) (show RelV (.ty "str") (.type "str") from rfl)) pa_nil))))))))) (pss_one (ps_ret pe_bl)) pss_nil) (pss_cons (ps_match2 (pe_ix ix_tup (pv 2) pe_int (fun _ _ => rfl)) (pss_one (ps_ret (pe_and (pe_callB call_isi (by rfl) T.f_isinstance (by decide +kernel) (pa_cons (pe_ix ix_tup (pv 2) pe_int (fun _ _ => rfl)) (pa_cons (pe_bltn (by rfl) T.f_tuple (by decide +kernel) (show RelV (.ty "tuple") (.type "tuple") from rfl)) pa_nil))) (pe_one (pcl OL (hr.mono (by decide)) (pa_cons (pe_ix ix_tup (pv 2) pe_int (fun _ _ => rfl)) (pa_cons (pcl OR (hr.mono (by decide)) (pa_cons (pv 0) (pa_cons (pv 1) pa_nil))) pa_nil))))))) (pss_one (ps_ret (pe_and (pe_callB (C8.call_isC T.ic_Table) (by rfl) T.f_isinstance (by decide +kernel) (pa_cons (pe_ix ix_tup (pv 2) pe_int (fun _ _ => rfl)) (pa_cons (pe_glob (by rfl) T.g_Table (show RelV (.ref _) (.ref _) from rfl)) pa_nil))) (pe_one (pe_cmpR op_ne (StX.pe_callO (pv 0) T.c_call FC (hr.mono (by decide)) pass0 (pa_cons (pe_ix ix_tup (pv 2) pe_int (fun _ _ => rfl)) pa_nil)) (StX.pe_callO (pv 1) T.c_call FC (hr.mono (by decide)) pass0 (pa_cons (pe_ix ix_tup (pv 2) pe_int (fun _ _ => rfl)) pa_nil)) (nomark _))))))) (pss_one (ps_ret pe_bl)))))), ?_⟩
    refine ⟨_, rfl, a, dx, _, rfl, hq, ?_⟩
    refine ⟨_, rfl, b, dy, _, rfl, hq2, ?_⟩
    rcases hc with ⟨x, hp, ht, hx⟩ | ⟨rs, hp, hT, hne⟩
    · refine ⟨_, rfl, _, _, _, _, _, rfl, .ty _, .base (.tup hp), k_tt, true, rfl, iteF ?_⟩
      refine ⟨_, rfl, _, _, rfl, .inr (SqT.of hp), rfl, _, rfl, iteF ?_⟩
      refine ⟨_, rfl, _, _, _, _, rfl, rfl, SqT.of hp, rfl, _, _, _, _, _, rfl, .ty _, .base (.str _), k_ss, true, rfl, iteF ?_⟩
      refine ⟨_, rfl, _, _, _, _, rfl, rfl, SqT.of hp, rfl, "alike", rfl, fun _ => ?_, fun h => absurd rfl h, fun h => absurd rfl h⟩
      refine ⟨_, rfl, _, _, _, _, rfl, rfl, SqT.of hp, rfl, _, _, _, _, _, rfl, .ty _, .base (.tup ht), k_tt, true, rfl, iteT ?_⟩
      refine ⟨_, rfl, _, _, _, _, rfl, rfl, SqT.of hp, rfl, _, rfl, _, rfl, a, b, es, fs, rfl, hA, hB, fun q ts H1 s1 hq0 hql hlt hren h63 => ?_⟩
      refine ⟨t, q, x, ts, rfl, s1 _ _ ht, hql, hlt, ?_, fun H2 s2 => ?_⟩
      · obtain ⟨ns, hns⟩ := vars_ex (es.map (·.2))
        rw [(cov_len (hx ns hns).1).2]
        have := vars_len hns (by rw [List.length_map]; exact hA.few)
        omega
      · obtain ⟨ns, hns⟩ := vars_ex (es.map (·.2))
        rw [decide_eq_true (((hren ns hns).mem x).2 (hx ns hns))]
        exact k H2 (s1.trans s2)
    · obtain ⟨dt, kt, ht, hkt⟩ := hT.ins
      refine ⟨_, rfl, _, _, _, _, _, rfl, .ty _, .base (.tup hp), k_tt, true, rfl, iteF ?_⟩
      refine ⟨_, rfl, _, _, rfl, .inr (SqT.of hp), rfl, _, rfl, iteF ?_⟩
      refine ⟨_, rfl, _, _, _, _, rfl, rfl, SqT.of hp, rfl, _, _, _, _, _, rfl, .ty _, .base (.str _), k_ss, true, rfl, iteF ?_⟩
      refine ⟨_, rfl, _, _, _, _, rfl, rfl, SqT.of hp, rfl, "apart", rfl, fun h => absurd h (by decide +kernel), fun _ _ => ?_, fun _ h => absurd rfl h⟩
      refine ⟨_, rfl, _, _, _, _, rfl, rfl, SqT.of hp, rfl, t, dt, _, rfl, ht, true, rfl, iteT ?_⟩
      refine ⟨_, rfl, a, rfl, _, rfl, _, _, _, _, rfl, rfl, SqT.of hp, rfl, .inr ⟨dx, _, hq⟩, a, t, es, rs, rfl, hA, hT, fun H1 s1 => ?_⟩
      refine ⟨_, rfl, b, rfl, _, rfl, _, _, _, _, rfl, rfl, SqT.of (s1 _ _ hp), rfl, .inr ⟨dy, _, s1 _ _ hq2⟩, b, t, fs, rs, rfl, hB.same s1, hT.same s1, fun H2 s2 => ⟨rfl, ?_⟩⟩
      have e : (!decide (V.int (cnt (es.map (·.2)) (rs.map (·.2))) = V.int (cnt (fs.map (·.2)) (rs.map (·.2))))) = true := by
        have : ¬ V.int (cnt (es.map (·.2)) (rs.map (·.2))) = V.int (cnt (fs.map (·.2)) (rs.map (·.2))) := fun e => by injection e with e; exact hne e
        rw [decide_eq_false this]; rfl
      show Q (V.bl (!decide (V.int (cnt (es.map (·.2)) (rs.map (·.2))) = V.int (cnt (fs.map (·.2)) (rs.map (·.2)))))) _
      rw [e]
      exact k H2 (s1.trans s2)
theorem sc_renamings : GScope ["one", "other", "found"] ["one", "other"] (defScope s_renamings) := ⟨rfl, rfl, rfl, by decide +kernel, rfl, by decide +kernel, by decide +kernel⟩
theorem ok_renamings (T : Txt K mg) : OkG P w K mg base 5 "renamings" ["one", "other"] (spg_renamings K) := by
  have S := sc_renamings
  have ONQ : Ok P w K mg base 1 "need_question" ["thing"] (sp_need K "Question") := ok_need_question T
  have OR : Ok P w K mg base 4 "raw_renamings" ["one", "other"] (sp_raw_renamings K) := ok_raw_renamings T
  obtain ⟨⟨fd, F⟩, g⟩ := T.d_renamings
  have kp := F.kp
  have bd := F.binds (ps := ["one", "other"]) (fun _ _ _ _ _ _ us hl => match us, hl with | [_, _], _ => rfl)
  obtain ⟨oc, od, kV, doc, pm, an, cdv, ct, osl, e, lk, hcd⟩ := F.ex
  subst e
  refine ⟨⟨_, gfn_of lk hcd S (fun vs H Q E h => ?_) (fun A outer s H vs Q E pn hr h => ?_), bd⟩, kp, g⟩
  · obtain ⟨a, b, es, fs, rfl, _⟩ := h
    rfl
  · obtain ⟨a, b, es, fs, rfl, hA, hB, k⟩ := h
    obtain ⟨dx, kp, hq, hk⟩ := hA.ins
    obtain ⟨dy, kq, hq2, hk2⟩ := hB.ins
    refine ⟨_, (gss_cons (gs_ps (ps_expr (pcl ONQ (hr.mono (by decide)) (pa_cons (pv 0) pa_nil)))) (gss_cons (gs_ps (ps_expr (pcl ONQ (hr.mono (by decide)) (pa_cons (pv 1) pa_nil)))) (gss_cons (gs_for owns_gcx rfl (pi_sd (pcl OR hr (pa_cons (pv 0) (pa_cons (pv 1) pa_nil)))) (pg_name (i := 2) S.nd rfl (Or.inl rfl)) (gss_cons (gs_yield (pv 2)) gss_nil)) gss_nil))), ?_⟩
    refine ⟨_, rfl, a, dx, _, rfl, hq, ?_⟩
    refine ⟨_, rfl, b, dy, _, rfl, hq2, ?_⟩
    refine ⟨_, rfl, _, rfl, a, b, es, fs, rfl, hA, hB, fun p ts H1 s1 hp0 hp hlt hren h63 => ?_⟩
    have hp2 : H1 p = some (sqO false (refs ts)) := hp
    refine ⟨false, p, rfl, ⟨_, sd_of hp2⟩, ?_⟩
    have W := tsd_walk (K := K) (t := false) (a := p) (xs := refs ts)
    refine ⟨fun i m ys σ H' => m = ts.length - i ∧ i ≤ ts.length ∧ H' = H1 ∧ ys = (refs ts).take i ∧ ∃ v2, σ = [some (.ref a), some (.ref b), v2], ⟨ts.length, by omega, Nat.zero_le _, rfl, by rw [List.take_zero], none, rfl⟩, fun i m ys σ H' hw => ?_⟩
    obtain ⟨rfl, hi, rfl, rfl, v2, rfl⟩ := hw
    by_cases hlt2 : i < ts.length
    · refine .inr ⟨W.goes i H' (by rw [refs_len]; exact hlt2) (sd_of hp2), fun ys' σ' H2 => H2 = H' ∧ ys' = (refs ts).take (i + 1) ∧ ∃ v2, σ' = [some (.ref a), some (.ref b), v2], fun ys' σ' H2 h => ⟨ts.length - (i + 1), by omega, rfl, hlt2, h.1, h.2.1, h.2.2⟩, fun x H2 hy => ?_⟩
      obtain ⟨rfl, hx⟩ := W.yields i H' x H2 (by rw [refs_len]; exact hlt2) (sd_of hp2) hy
      refine ⟨?_, _, rfl, rfl, (take_next1 hx).symm, _, rfl⟩
      rw [List.length_take, refs_len, sizeLine_eq]
      omega
    · obtain rfl : i = ts.length := by omega
      have st := W.stops H' (sd_of hp2)
      rw [refs_len] at st
      refine .inl ⟨st, ?_⟩
      have := k ts H' s1 hlt hren
      rw [List.take_of_length_le (by rw [refs_len]; exact Nat.le_refl _)]
      exact this
end
end CA
set_option Elab.async false
set_option linter.all false
set_option maxRecDepth 100000
set_option maxHeartbeats 1000000
namespace CA
open PySem PySem.Spec PyProof.Rows L2 TL
/-! ### texts of digits, words, lines -/
def dgS (d : Int) : Str := Str.ofString (toString d)
def dc (d : Int) : Nat := 48 + d.toNat
def Dig (d : Int) : Prop := 0 ≤ d ∧ d ≤ 9
theorem dig_cases {d : Int} (h : Dig d) : d = 0 ∨ d = 1 ∨ d = 2 ∨ d = 3 ∨ d = 4 ∨ d = 5 ∨ d = 6 ∨ d = 7 ∨ d = 8 ∨ d = 9 := by
  obtain ⟨h1, h2⟩ := h
  omega
theorem dgS_at {d : Int} (h : Dig d) : dgS d = ⟨#[dc d]⟩ := by
  rcases dig_cases h with rfl | rfl | rfl | rfl | rfl | rfl | rfl | rfl | rfl | rfl <;> decide +kernel
theorem dgS_tl {d : Int} (h : Dig d) : tl (dgS d) = [dc d] := by rw [dgS_at h]
theorem dc_bd {d : Int} (h : Dig d) : 48 ≤ dc d ∧ dc d ≤ 57 := by
  obtain ⟨h1, h2⟩ := h
  unfold dc
  omega
theorem dg_int {d : Int} (h : Dig d) : PySem.intText? (⟨#[dc d]⟩ : Str) = some d := by
  rcases dig_cases h with rfl | rfl | rfl | rfl | rfl | rfl | rfl | rfl | rfl | rfl <;> decide +kernel
theorem dg_in {d : Int} (h : Dig d) : decide (dc d ∈ ("0123456789" : Str).cps.toList) = true := by
  rcases dig_cases h with rfl | rfl | rfl | rfl | rfl | rfl | rfl | rfl | rfl | rfl <;> decide +kernel
theorem dg_log {d : Int} (h : Dig d) : d.natAbs.log2 < 1920 := by
  rcases dig_cases h with rfl | rfl | rfl | rfl | rfl | rfl | rfl | rfl | rfl | rfl <;> decide +kernel
theorem kind_at {k : Str} (h : isKind k) : ∃ c, k = ⟨#[c]⟩ ∧ 65 ≤ c ∧ c ≤ 67 := by
  rcases h with rfl | rfl | rfl
  · exact ⟨65, by decide +kernel, by omega, by omega⟩
  · exact ⟨66, by decide +kernel, by omega, by omega⟩
  · exact ⟨67, by decide +kernel, by omega, by omega⟩
def wordA (a : At Str) : Str := a.1 ++ dgS a.2.1 ++ dgS a.2.2
theorem wordA_at {a : At Str} (h : OkA a) : ∃ c, 65 ≤ c ∧ c ≤ 67 ∧ a.1 = ⟨#[c]⟩ ∧ wordA a = ⟨#[c, dc a.2.1, dc a.2.2]⟩ := by
  obtain ⟨h1, h2, h3, h4, h5⟩ := h
  obtain ⟨c, e, c1, c2⟩ := kind_at h1
  refine ⟨c, c1, c2, e, ext_tl ?_⟩
  unfold wordA
  rw [tl_append, tl_append, dgS_tl ⟨h2, h3⟩, dgS_tl ⟨h4, h5⟩, e] <;> rfl
def OkR9 (r : Rw Str) : Prop := isKind r.1 ∧ Dig r.2.1 ∧ Dig r.2.2.1 ∧ 1 ≤ r.2.2.2 ∧ r.2.2.2 ≤ 9
theorem OkR9.okR {r : Rw Str} (h : OkR9 r) : OkR r := by
  obtain ⟨h1, ⟨h2, h3⟩, ⟨h4, h5⟩, h6, h7⟩ := h
  exact ⟨h1, h2, by omega, h4, by omega, h6, by omega⟩
theorem OkR9.od {r : Rw Str} (h : OkR9 r) : Dig r.2.2.2 := ⟨by have := h.2.2.2.1; omega, h.2.2.2.2⟩
def lineR (r : Rw Str) : Str := Txt.join " " [r.1, dgS r.2.1, dgS r.2.2.1, dgS r.2.2.2]
theorem lineR_tl {r : Rw Str} (h : OkR9 r) : ∃ c, 65 ≤ c ∧ c ≤ 67 ∧ r.1 = ⟨#[c]⟩ ∧ tl (lineR r) = [c, 32, dc r.2.1, 32, dc r.2.2.1, 32, dc r.2.2.2] := by
  obtain ⟨h1, h2, h3, h4, h5⟩ := id h
  obtain ⟨c, e, c1, c2⟩ := kind_at h1
  refine ⟨c, c1, c2, e, ?_⟩
  unfold lineR
  rw [join_eq, tl_join]
  simp only [List.map_cons, List.map_nil, joinL]
  rw [dgS_tl h2, dgS_tl h3, dgS_tl h.od, e] <;> rfl
theorem lineR_split {r : Rw Str} (h : OkR9 r) : Txt.split (lineR r) " " = [r.1, dgS r.2.1, dgS r.2.2.1, dgS r.2.2.2] := by
  obtain ⟨h1, h2, h3, h4, h5⟩ := id h
  obtain ⟨c, e, c1, c2⟩ := kind_at h1
  refine split_join (y := " ") (s := 32) (S := []) (by decide +kernel) (by decide +kernel) (by simp) fun p hp => ?_
  have dg : ∀ d, Dig d → (32 : Nat) ∉ tl (dgS d) := fun d hd hm => by
    rw [dgS_tl hd, List.mem_singleton] at hm
    have := (dc_bd hd).1
    omega
  simp only [List.mem_cons, List.not_mem_nil, or_false] at hp
  rcases hp with rfl | rfl | rfl | rfl
  · rw [e]
    intro hm
    have : (32 : Nat) = c := by simpa [tl] using hm
    omega
  · exact dg _ h2
  · exact dg _ h3
  · exact dg _ h.od
theorem len_tl' (x : Str) : x.length = (tl x).length := by
  show x.cps.size = x.cps.toList.length
  rw [Array.length_toList]
theorem lineR_len {r : Rw Str} (h : OkR9 r) : (lineR r).length = 7 := by
  obtain ⟨c, _, _, _, e⟩ := lineR_tl h
  rw [len_tl', e] <;> rfl
/-! ### promises -/
def sp_word_number : Sp := fun vs H Q _ => ∃ d : Int, vs = [.str (dgS d)] ∧ Dig d ∧ ∀ H', Same H H' → Q (.int d) H'
def sp_row_of_line : Sp := fun vs H Q _ => ∃ r : Rw Str, vs = [.str (lineR r)] ∧ OkR9 r ∧ ∀ (p : Addr) H', Same H H' → H p = none → H' p = some (.tup (rV r)) → Q (.ref p) H'
def sp_atom_of_word : Sp := fun vs H Q _ => ∃ a : At Str, vs = [.str (wordA a)] ∧ OkA a ∧ ∀ (p : Addr) H', Same H H' → H p = none → H' p = some (.tup (aV a)) → Q (.ref p) H'
section
variable {P : Program} {w : World} {K : PySem.W.Frag} {mg : Str → Option Value} {base : Heap}

theorem sc_atom_of_word : FnScope ["word"] ["word"] (defScope s_atom_of_word) := ⟨rfl, rfl, rfl, by decide +kernel, rfl, by decide +kernel, by decide +kernel⟩
theorem ok_atom_of_word (T : Txt K mg) : Ok P w K mg base 1 "atom_of_word" ["word"] sp_atom_of_word := by
  have S := sc_atom_of_word
  obtain ⟨tg, gd⟩ := T.n_DIGITS
  refine mkOk T.d_atom_of_word S (fun _ _ _ _ _ _ us hl => match us, hl with | [_], _ => rfl) (fun vs H Q E h => ?_) (fun cdv A outer s H vs Q E hr h => ?_)
  · obtain ⟨a, rfl, _⟩ := h
    rfl
  · obtain ⟨a, rfl, ha, k⟩ := h
    obtain ⟨c, c1, c2, ek, ew⟩ := wordA_at ha
    obtain ⟨h1, h2, h3, h4, h5⟩ := ha
    have d1 : Dig a.2.1 := ⟨h2, h3⟩
    have d2 : Dig a.2.2 := ⟨h4, h5⟩
    rw [ew]
    have hz : ((⟨#[c, dc a.2.1, dc a.2.2]⟩ : Str).length ≤ sizeLine) := by show 3 ≤ sizeLine; decide
    refine ⟨_, (pss_cons (ps_if (PW.pt (pw_or (pt_cmpR op_ne (pe_callB call_len_str (by rfl) T.f_len (by decide +kernel) (pa_cons (pv 0) pa_nil)) pe_int (nomark _)) (pw_or (pt_cmpR op_notIn_sign (pe_ix ix_str (pv 0) pe_int (fun _ _ => rfl)) (pe_glob (by rfl) gd (show RelV (.str "0123456789") _ from ⟨_, rfl⟩)) (by rfl)) (pw_or1 (pt_cmpR op_notIn_sign (pe_ix ix_str (pv 0) pe_int (fun _ _ => rfl)) (pe_glob (by rfl) gd (show RelV (.str "0123456789") _ from ⟨_, rfl⟩)) (by rfl)))))) (pss_one (ps_ret (pe_tup pa_nil))) pss_nil) (pss_one (ps_ret (pe_tup (pa_cons (pe_ix ix_str (pv 0) pe_int (fun _ _ => rfl)) (pa_cons (pe_callTy call_int_str (by rfl) T.f_int (by decide +kernel) (pa_cons (pe_ix ix_str (pv 0) pe_int (fun _ _ => rfl)) pa_nil)) (pa_cons (pe_callTy call_int_str (by rfl) T.f_int (by decide +kernel) (pa_cons (pe_ix ix_str (pv 0) pe_int (fun _ _ => rfl)) pa_nil)) pa_nil))))))), ?_⟩
    refine ⟨_, rfl, _, rfl, hz, rfl, _, rfl, iteF ?_⟩
    refine ⟨_, rfl, _, _, _, rfl, rfl, hz, rfl, _, _, rfl, rfl, !true, congrArg V.bl (by rw [dg_in d1]), iteF ?_⟩
    refine ⟨_, rfl, _, _, _, rfl, rfl, hz, rfl, _, _, rfl, rfl, !true, congrArg V.bl (by rw [dg_in d2]), iteF ?_⟩
    refine ⟨_, rfl, _, _, _, rfl, rfl, hz, rfl, _, rfl, _, _, _, rfl, rfl, hz, rfl, _, _, rfl, dg_int d1, by show 1 ≤ 640; decide, _, rfl, _, _, _, rfl, rfl, hz, rfl, _, _, rfl, dg_int d2, by show 1 ≤ 640; decide, by show 3 ≤ sizeLine; decide, fun p hp => ?_⟩
    refine k p _ (same_upd hp) hp ?_
    rw [upd_same]
    unfold aV
    rw [ek]
theorem sc_word_number : FnScope ["word", "sign"] ["word"] (defScope s_word_number) := ⟨rfl, rfl, rfl, by decide +kernel, rfl, by decide +kernel, by decide +kernel⟩
theorem ok_word_number (T : Txt K mg) : Ok P w K mg base 1 "word_number" ["word"] sp_word_number := by
  have S := sc_word_number
  obtain ⟨tg, gd⟩ := T.n_DIGITS
  refine mkOk T.d_word_number S (fun _ _ _ _ _ _ us hl => match us, hl with | [_], _ => rfl) (fun vs H Q E h => ?_) (fun cdv A outer s H vs Q E hr h => ?_)
  · obtain ⟨d, rfl, _⟩ := h
    rfl
  · obtain ⟨d, rfl, hd, k⟩ := h
    rw [dgS_at hd]
    refine ⟨_, (pss_cons (ps_if (PW.pt (pw_or (pt_not (pt_chain op_le op_le pe_int (pe_callB call_len_str (by rfl) T.f_len (by decide +kernel) (pa_cons (pv 0) pa_nil)) pe_int)) (pw_or1 (pt_not (pt_val (pe_callB (cr_all rfl) (by rfl) T.f_all (by decide +kernel) (pa_cons (pe_lc (own := [("sign", 1)]) rfl S.nd (pi_str (pv 0)) (blkOk_by (N := ["word", "sign"]) (sc := defScope s_word_number) (by decide +kernel)) (fun _ _ _ _ _ => (pg_name (i := 1) S.nd rfl (Or.inl rfl))) (fun _ _ _ _ _ => pts_nil) (fun _ _ _ _ _ => (pe_cmpR op_in_sign (pv 1) (pe_glob (by rfl) gd (show RelV (.str "0123456789") _ from ⟨_, rfl⟩)) (by rfl)))) pa_nil))))))) (pss_one (ps_ret (pe_un un_neg pe_int))) pss_nil) (pss_one (ps_ret (pe_callTy call_int_str (by rfl) T.f_int (by decide +kernel) (pa_cons (pv 0) pa_nil))))), ?_⟩
    refine ⟨_, rfl, _, rfl, (by show 1 ≤ sizeLine; decide), _, _, rfl, rfl, true, rfl, iteT ⟨_, _, rfl, rfl, true, rfl, iteF ?_⟩⟩
    refine ⟨_, rfl, _, rfl, fun D hD => ?_⟩
    refine lc_mapS (walk_str (z := (⟨#[dc d]⟩ : Str))) (fun i y H => y = V.bl true) hD (fun _ _ => trivial) (fun i y H H' acc _ _ e => e) (by show 1 ≤ sizeLine; decide) (fun i x H1 H' hi s1 hy Q' k' => ?_) fun H1 ys s1 hDl hlen hR => ?_
    · obtain ⟨rfl, c, hc, rfl⟩ := hy
      have hi0 : i = 0 := by
        have : i < 1 := hi
        omega
      subst hi0
      have ec : dc d = c := by simpa using hc
      subst ec
      refine ⟨rfl, _, rfl, _, _, rfl, rfl, ?_⟩
      exact k' _ _ (Same.refl _) (congrArg V.bl (dg_in hd))
    · refine ⟨D, List.replicate ys.length true, rfl, SqL.of (by rw [← all_true hR]; exact hDl), true, congrArg V.bl (all_rep _), iteF ?_⟩
      exact ⟨_, rfl, _, _, rfl, dg_int hd, by show 1 ≤ 640; decide, k _ s1⟩
theorem sc_row_of_line : FnScope ["line", "words", "word"] ["line"] (defScope s_row_of_line) := ⟨rfl, rfl, rfl, by decide +kernel, rfl, by decide +kernel, by decide +kernel⟩
theorem ok_row_of_line (T : Txt K mg) : Ok P w K mg base 2 "row_of_line" ["line"] sp_row_of_line := by
  have S := sc_row_of_line
  have OW : Ok P w K mg base 1 "word_number" ["word"] sp_word_number := ok_word_number T
  refine mkOk T.d_row_of_line S (fun _ _ _ _ _ _ us hl => match us, hl with | [_], _ => rfl) (fun vs H Q E h => ?_) (fun cdv A outer s H vs Q E hr h => ?_)
  · obtain ⟨r, rfl, _⟩ := h
    rfl
  · obtain ⟨r, rfl, ok, k⟩ := h
    obtain ⟨h1, h2, h3, h4, h5⟩ := id ok
    have h6 := ok.od
    refine ⟨_, (pss_cons (ps_set (i := 1) S.nd rfl (.inl rfl) (pe_split (pv 0) pe_str)) (pss_one (ps_ret (pe_op op_catA (pe_tup (pa_cons (pe_ix ix_list (pv 1) pe_int (fun _ _ => rfl)) pa_nil)) (pe_callTy call_tuple_of (by rfl) T.f_tuple (by decide +kernel) (pa_cons (pe_lc (own := [("word", 2)]) rfl S.nd (pi_sd (pe_slice sl_list (pv 1) (po_some pe_int) po_none)) (blkOk_by (N := ["line", "words", "word"]) (sc := defScope s_row_of_line) (by decide +kernel)) (fun _ _ _ _ _ => (pg_name (i := 2) S.nd rfl (Or.inl rfl))) (fun _ _ _ _ _ => pts_nil) (fun _ _ _ _ _ => (pcl OW hr (pa_cons (pv 2) pa_nil)))) pa_nil)))))), ?_⟩
    refine ⟨_, rfl, ⟨_, rfl⟩, _, _, rfl, rfl, by decide +kernel, by rw [lineR_len ok, sizeLine_eq]; omega, fun L hL => ?_⟩
    rw [lineR_split ok]
    have sL := same_upd (o := .lst [.str r.1, .str (dgS r.2.1), .str (dgS r.2.2.1), .str (dgS r.2.2.2)]) hL
    refine ⟨_, rfl, _, _, _, V.str r.1, rfl, rfl, SqL.of upd_same, rfl, by show 1 ≤ sizeLine; decide, fun t1 ht1 => ?_⟩
    have s1 := sL.trans (same_upd (o := .tup [V.str r.1]) ht1)
    have hL1 := (same_upd (o := .tup [V.str r.1]) ht1) L _ (upd_same (H := H) (o := .lst [.str r.1, .str (dgS r.2.1), .str (dgS r.2.2.1), .str (dgS r.2.2.2)]))
    refine ⟨_, rfl, _, rfl, _, _, rfl, SqL.of hL1, fun c hc => ?_⟩
    have sc := same_upd (o := .lst [.str (dgS r.2.1), .str (dgS r.2.2.1), .str (dgS r.2.2.2)]) hc
    have hcl : (upd (upd (upd H L (.lst [.str r.1, .str (dgS r.2.1), .str (dgS r.2.2.1), .str (dgS r.2.2.2)])) t1 (.tup [V.str r.1])) c (.lst [.str (dgS r.2.1), .str (dgS r.2.2.1), .str (dgS r.2.2.2)])) c = some (sqO false [.str (dgS r.2.1), .str (dgS r.2.2.1), .str (dgS r.2.2.2)]) := upd_same
    refine ⟨false, c, rfl, ⟨_, sd_of hcl⟩, fun D hD => ?_⟩
    refine lc_mapS (tsd_walk (K := K) (t := false) (a := c) (xs := [.str (dgS r.2.1), .str (dgS r.2.2.1), .str (dgS r.2.2.2)])) (fun i y H => [V.int r.2.1, .int r.2.2.1, .int r.2.2.2][i]? = some y) hD (fun H2 s2 => sd_of (t := false) (s2 _ _ hcl)) (fun i y H H' acc _ _ e => e) (by show 3 ≤ sizeLine; decide) (fun i x H2 H2' hi s2 hy Q' k' => ?_) fun H2 ys s2 hDl hlen hR => ?_
    · obtain ⟨rfl, hx⟩ := hy
      have hi3 : i < 3 := hi
      have hc3 : i = 0 ∨ i = 1 ∨ i = 2 := by omega
      rcases hc3 with rfl | rfl | rfl
      · have ex : V.str (dgS r.2.1) = x := by simpa using hx
        subst ex
        exact ⟨rfl, _, rfl, _, rfl, h2, fun H3 s3 => k' _ _ s3 rfl⟩
      · have ex : V.str (dgS r.2.2.1) = x := by simpa using hx
        subst ex
        exact ⟨rfl, _, rfl, _, rfl, h3, fun H3 s3 => k' _ _ s3 rfl⟩
      · have ex : V.str (dgS r.2.2.2) = x := by simpa using hx
        subst ex
        exact ⟨rfl, _, rfl, _, rfl, h6, fun H3 s3 => k' _ _ s3 rfl⟩
    · have eys : ys = [V.int r.2.1, .int r.2.2.1, .int r.2.2.2] := ext_at hlen hR
      subst eys
      refine ⟨D, _, rfl, .inl ⟨SqL.of hDl, fun t2 ht2 => ?_⟩⟩
      have st2 := same_upd (o := .tup [V.int r.2.1, .int r.2.2.1, .int r.2.2.2]) ht2
      have ht12 := st2 _ _ (s2 _ _ (sc t1 _ upd_same))
      refine ⟨t1, t2, _, _, rfl, rfl, SqT.of ht12, SqT.of upd_same, by show 4 ≤ sizeLine; decide, (fun e => by cases e), (fun _ e => by cases e), fun _ _ p hp => ?_⟩
      exact k p _ (s1.trans (sc.trans (s2.trans (st2.trans (same_upd hp))))) ((s1.trans (sc.trans (s2.trans st2))).free hp) upd_same
end
end CA
set_option Elab.async false
set_option linter.all false
set_option maxRecDepth 100000
set_option maxHeartbeats 1000000
namespace CA
open PySem PySem.Spec PyProof.Rows L2 TL
/-! ### the texts of tables and questions -/
def tabText (rs : List (Rw Str)) : Str := Txt.join "" (rs.map fun r => lineR r ++ "\n")
def qText (as : List (At Str)) : Str := Txt.join " " (as.map wordA)
theorem joinL_nil : ∀ ps : List (List Nat), joinL [] ps = ps.flatten
  | [] => rfl
  | [p] => by simp [joinL]
  | p :: q :: r => by
    show p ++ ([] ++ joinL [] (q :: r)) = _
    rw [joinL_nil (q :: r)]
    simp
theorem joinL_end (s : Nat) : ∀ ps : List (List Nat), joinL [s] (ps ++ [[]]) = (ps.map fun p => p ++ [s]).flatten
  | [] => rfl
  | p :: ps => by
    have ih := joinL_end s ps
    cases ps with
    | nil => simp [joinL]
    | cons q r =>
      show p ++ ([s] ++ joinL [s] (q :: r ++ [[]])) = _
      rw [ih]
      simp
theorem tab_tl (rs : List (Rw Str)) : tl (tabText rs) = (rs.map fun r => tl (lineR r) ++ [10]).flatten := by
  unfold tabText
  rw [join_eq, tl_join, show tl ("" : Str) = [] by decide +kernel, joinL_nil, List.map_map]
  have : (tl ∘ fun r => lineR r ++ "\n") = fun r => tl (lineR r) ++ [10] := by
    funext r
    show tl (lineR r ++ "\n") = _
    rw [tl_append, show tl ("\n" : Str) = [10] by decide +kernel]
  rw [this]
theorem tab_join (rs : List (Rw Str)) : tabText rs = Txt.join "\n" (rs.map lineR ++ [Str.empty]) := by
  refine ext_tl ?_
  rw [tab_tl, join_eq, tl_join, List.map_append, show tl ("\n" : Str) = [10] by decide +kernel, show [Str.empty].map tl = [[]] from rfl, joinL_end, List.map_map, List.map_map] <;> rfl
theorem tab_split {rs : List (Rw Str)} (ok : ∀ r ∈ rs, OkR9 r) : Txt.split (tabText rs) "\n" = rs.map lineR ++ [Str.empty] := by
  rw [tab_join]
  refine split_join (y := "\n") (s := 10) (S := []) (by decide +kernel) (by decide +kernel) (by simp) fun p hp => ?_
  rcases List.mem_append.mp hp with hp | hp
  · obtain ⟨r, hr, rfl⟩ := List.mem_map.mp hp
    obtain ⟨c, c1, c2, _, e⟩ := lineR_tl (ok r hr)
    obtain ⟨_, h2, h3, _, _⟩ := ok r hr
    have b1 := dc_bd h2
    have b2 := dc_bd h3
    have b3 := dc_bd (ok r hr).od
    rw [e]
    simp only [List.mem_cons, List.not_mem_nil, or_false]
    omega
  · rw [List.mem_singleton.mp hp]
    exact fun h => by cases h
theorem cut_last (xs : List V) (y : V) : cutV (xs ++ [y]) none (some (-1)) = xs := by
  unfold cutV HT.sIx
  have e : (-1 + ((xs.length : Nat) + 1 : Int)).toNat = xs.length := by omega
  simp [e]
theorem sum_le {α : Type} {f : α → Nat} {m : Nat} : ∀ {xs : List α}, (∀ x ∈ xs, f x ≤ m) → (xs.map f).sum ≤ m * xs.length
  | [], _ => Nat.le_refl _
  | x :: xs, h => by
    have h1 := h x List.mem_cons_self
    have h2 := sum_le (xs := xs) fun y hy => h y (List.mem_cons_of_mem _ hy)
    rw [List.map_cons, List.sum_cons, List.length_cons, Nat.mul_succ]
    omega
theorem join_len {sep : Str} {xs : List Str} {m : Nat} (h : ∀ x ∈ xs, x.length ≤ m) : (Txt.join sep xs).length ≤ m * xs.length + xs.length * sep.length := by
  rw [join_eq]
  have h1 := StrLaws.join_length_le sep xs
  have h2 := sum_le (f := fun x : Str => x.length) h
  omega
theorem word_len {a : At Str} (h : OkA a) : (wordA a).length = 3 := by
  obtain ⟨c, _, _, _, e⟩ := wordA_at h
  rw [e] <;> rfl
theorem q_split {as : List (At Str)} (ok : ∀ a ∈ as, OkA a) (h1 : as ≠ []) : Txt.split (qText as) " " = as.map wordA := by
  unfold qText
  refine split_join (y := " ") (s := 32) (S := []) (by decide +kernel) (by decide +kernel) (by simpa using h1) fun p hp => ?_
  obtain ⟨a, ha, rfl⟩ := List.mem_map.mp hp
  obtain ⟨c, c1, c2, _, e⟩ := wordA_at (ok a ha)
  obtain ⟨_, h2, h3, h4, h5⟩ := ok a ha
  have b1 := dc_bd (⟨h2, h3⟩ : Dig a.2.1)
  have b2 := dc_bd (⟨h4, h5⟩ : Dig a.2.2)
  rw [e]
  show (32 : Nat) ∉ [c, dc a.2.1, dc a.2.2]
  simp only [List.mem_cons, List.not_mem_nil, or_false]
  omega
theorem q_len {as : List (At Str)} (ok : ∀ a ∈ as, OkA a) (h4 : as.length ≤ 4) : (qText as).length ≤ 100 := by
  unfold qText
  have h := join_len (sep := " ") (xs := as.map wordA) (m := 3) fun x hx => by
    obtain ⟨a, ha, rfl⟩ := List.mem_map.mp hx
    rw [word_len (ok a ha)]
    exact Nat.le_refl _
  rw [List.length_map, show (" " : Str).length = 1 by decide +kernel] at h
  omega
theorem line_nl {r : Rw Str} (h : OkR9 r) : (lineR r ++ "\n").length = 8 := by
  rw [Str.length_append, lineR_len h, show ("\n" : Str).length = 1 by decide +kernel]
theorem tab_len {rs : List (Rw Str)} (ok : ∀ r ∈ rs, OkR9 r) (h12 : rs.length ≤ 12) : (tabText rs).length ≤ 1000 := by
  unfold tabText
  have h := join_len (sep := "") (xs := rs.map fun r => lineR r ++ "\n") (m := 8) fun x hx => by
    obtain ⟨r, hr, rfl⟩ := List.mem_map.mp hx
    rw [line_nl (ok r hr)]
    exact Nat.le_refl _
  rw [List.length_map, show ("" : Str).length = 0 by decide +kernel] at h
  omega
theorem tab_ends : ∀ {rs : List (Rw Str)}, rs ≠ [] → Txt.endswith (tabText rs) "\n" = true ∧ tabText rs ≠ ""
  | rs, h => by
    have e : ∃ z, tabText rs = z ++ "\n" := by
      refine ⟨⟨((rs.dropLast.map fun r => tl (lineR r) ++ [10]).flatten ++ tl (lineR (rs.getLast h))).toArray⟩, ext_tl ?_⟩
      rw [tab_tl, tl_append, show tl ("\n" : Str) = [10] by decide +kernel, tl_mk]
      have el : rs.dropLast ++ [rs.getLast h] = rs := List.dropLast_concat_getLast h
      have e2 : (rs.map fun r => tl (lineR r) ++ [10]) = (rs.dropLast.map fun r => tl (lineR r) ++ [10]) ++ [tl (lineR (rs.getLast h)) ++ [10]] := by
        have e3 := congrArg (List.map fun r => tl (lineR r) ++ [10]) el
        rw [List.map_append] at e3
        exact e3.symm
      rw [e2, List.flatten_append]
      simp
    obtain ⟨z, e⟩ := e
    rw [e]
    refine ⟨PySem.W.KT.ends_app z "\n", fun q => ?_⟩
    have := congrArg Str.length q
    rw [Str.length_append, show ("\n" : Str).length = 1 by decide +kernel, show ("" : Str).length = 0 by decide +kernel] at this
    omega
theorem fline {r : Rw Str} : Str.empty ++ r.1 ++ " " ++ Str.ofString (toString r.2.1) ++ " " ++ Str.ofString (toString r.2.2.1) ++ " " ++ Str.ofString (toString r.2.2.2) ++ "\n" = lineR r ++ "\n" := by
  refine ext_tl ?_
  unfold lineR
  rw [join_eq]
  simp only [tl_append, tl_join, List.map_cons, List.map_nil, joinL, List.append_assoc]
  rfl
def teLine : TE := fun σ H Q => tJs [tFmt (tVar 1), tC (V.str " "), tFmt (tVar 2), tC (V.str " "), tFmt (tVar 3), tC (V.str " "), tFmt (tVar 4), tC (V.str "\n")] Str.empty σ H fun out H1 => Q (V.str out) H1
def lineV (rs : En (Rw Str)) : List V := rs.map fun p => V.str (lineR p.2 ++ "\n")
theorem lineV_at {rs : En (Rw Str)} {i : Nat} {p : Addr × Rw Str} (h : rs[i]? = some p) : (lineV rs)[i]? = some (V.str (lineR p.2 ++ "\n")) := by
  unfold lineV
  rw [List.getElem?_map, h] <;> rfl
theorem lineV_len (rs : En (Rw Str)) : (lineV rs).length = rs.length := List.length_map _
theorem lineV_str (rs : En (Rw Str)) : lineV rs = (rs.map fun p => lineR p.2 ++ "\n").map V.str := by
  unfold lineV
  rw [List.map_map] <;> rfl
theorem line_lens {r : Rw Str} (h : OkR9 r) : (Str.empty ++ r.1).length ≤ sizeLine ∧ (Str.empty ++ r.1 ++ " ").length ≤ sizeLine ∧ (Str.empty ++ r.1 ++ " " ++ Str.ofString (toString r.2.1)).length ≤ sizeLine ∧ (Str.empty ++ r.1 ++ " " ++ Str.ofString (toString r.2.1) ++ " ").length ≤ sizeLine ∧
    (Str.empty ++ r.1 ++ " " ++ Str.ofString (toString r.2.1) ++ " " ++ Str.ofString (toString r.2.2.1)).length ≤ sizeLine ∧ (Str.empty ++ r.1 ++ " " ++ Str.ofString (toString r.2.1) ++ " " ++ Str.ofString (toString r.2.2.1) ++ " ").length ≤ sizeLine ∧
    (Str.empty ++ r.1 ++ " " ++ Str.ofString (toString r.2.1) ++ " " ++ Str.ofString (toString r.2.2.1) ++ " " ++ Str.ofString (toString r.2.2.2)).length ≤ sizeLine ∧ (Str.empty ++ r.1 ++ " " ++ Str.ofString (toString r.2.1) ++ " " ++ Str.ofString (toString r.2.2.1) ++ " " ++ Str.ofString (toString r.2.2.2) ++ "\n").length ≤ sizeLine ∧ r.1.length ≤ sizeLine := by
  obtain ⟨h1, h2, h3, h4, h5⟩ := id h
  obtain ⟨c, ec, _, _⟩ := kind_at h1
  have lk : r.1.length = 1 := by rw [ec] <;> rfl
  have ld : ∀ d, Dig d → (Str.ofString (toString d)).length = 1 := fun d hd => by
    show (dgS d).length = 1
    rw [dgS_at hd] <;> rfl
  have l1 := ld _ h2
  have l2 := ld _ h3
  have l3 := ld _ h.od
  have lsp : (" " : Str).length = 1 := by decide +kernel
  have lnl : ("\n" : Str).length = 1 := by decide +kernel
  have lem : Str.empty.length = 0 := by decide +kernel
  rw [sizeLine_eq]
  simp only [Str.length_append, lk, l1, l2, l3, lsp, lnl, lem]
  omega
/-! ### promises -/
def sp_readQ (K : PySem.W.Frag) : Sp := fun vs H Q _ => ∃ as : List (At Str), vs = [.ref (ad K "Question"), .str (qText as)] ∧ (∀ a ∈ as, OkA a) ∧ 1 ≤ as.length ∧ as.length ≤ 4 ∧ ∀ (q : Addr) (es : En (At Str)) H', Same H H' → H q = none → QAt K H' q es → es.map (·.2) = as → Q (.ref q) H'
def sp_text (K : PySem.W.Frag) : Sp := fun vs H Q _ => ∃ (t : Addr) (rs : En (Rw Str)), vs = [.ref t] ∧ TAt K H t rs ∧ (∀ p ∈ rs, OkR9 p.2) ∧ ∀ H', Same H H' → Q (.str (tabText (rs.map (·.2)))) H'
def sp_readT (K : PySem.W.Frag) : Sp := fun vs H Q _ => ∃ rs : List (Rw Str), vs = [.ref (ad K "Table"), .str (tabText rs)] ∧ (∀ r ∈ rs, OkR9 r) ∧ (rs.map key).Nodup ∧ rs.Pairwise (fun a b => numA (key a) < numA (key b)) ∧ rs.length ≤ 12 ∧
  ∀ (t : Addr) (es : En (Rw Str)) H', Same H H' → H t = none → TAt K H' t es → es.map (·.2) = rs → Q (.ref t) H'
section
variable {P : Program} {w : World} {K : PySem.W.Frag} {mg : Str → Option Value} {base : Heap}
theorem make_T1 {H1 : Hp} {rs : En (Rw Str)} {x dx : Addr} {R : Hp → Prop} (hx : H1 x = none) (hdx : H1 dx = none) (hne : dx ≠ x) (hl : Lay rV H1 rs) (hok : ∀ p ∈ rs, OkR p.2) (nd : (rs.map fun p => key p.2).Nodup) (h12 : rs.length ≤ 12)
    (k : ∀ (rs' : En (Rw Str)) H', Same H1 H' → TAt K H' x rs' → rs'.Perm rs → (rs'.map (·.2)).Pairwise (fun a b => PySem.W.dataLe false rowD a b = true) → R H') :
    starS (sp_initT K) (V.ref x :: refs rs) (upd (upd H1 dx (.own x)) x (.ins (ad K "Table") dx [])) (fun v H2 => v = .non ∧ R H2) E0 := by
  have sdx := same_upd (o := .own x) hdx
  have hx1 : upd H1 dx (.own x) x = none := by rw [upd_ne hne.symm]; exact hx
  have sx := sdx.trans (same_upd (o := .ins (ad K "Table") dx []) hx1)
  refine ⟨[.ref x], refs rs, rfl, rfl, by rw [refs_len, sizeLine_eq]; omega, fun p hp => ?_⟩
  have sp := same_upd (o := .tup (refs rs)) hp
  refine ⟨x, p, dx, rs, rfl, sp _ _ upd_same, upd_same, (hl.same sx).same sp, hok, nd, h12, fun kp rs' H' of ht hkp pm pw => ⟨rfl, ?_⟩⟩
  have s1 : Same H1 H' := fun b o e => of _ _ (ne_of_none e hx) (sp _ _ (sx _ _ e))
  refine k rs' H' s1 ⟨⟨dx, kp, ht, hkp⟩, fun q hq => s1 _ _ (hl q (pm.mem_iff.mp hq)), fun q hq => hok q (pm.mem_iff.mp hq), ((pm.map fun p => key p.2).nodup_iff).mpr nd, by rw [pm.length_eq]; exact h12⟩ pm pw

theorem sc_Question_read : FnScope ["cls", "text", "atoms", "word"] ["cls", "text"] (defScope s_Question_read) := ⟨rfl, rfl, rfl, by decide +kernel, rfl, by decide +kernel, by decide +kernel⟩
theorem ok_Question_read (T : Txt K mg) : OkM P w K mg base 7 (wr K "Question" "classmethod" "read") ["cls", "text"] (sp_readQ K) := by
  have S := sc_Question_read
  have OA : Ok P w K mg base 1 "atom_of_word" ["word"] sp_atom_of_word := ok_atom_of_word T
  have OAA : Ok P w K mg base 4 "are_atoms" ["things"] sp_are_atoms := ok_are_atoms T
  have FI : FnR P w K mg base CX0 5 (me K "Question" "__init__") (starS (sp_initQ K)) := ok_initQ T
  refine mkMet T.r_Question S (fun _ _ _ _ _ _ us hl => match us, hl with | [_, _], _ => rfl) (fun vs H Q E h => ?_) (fun cdv A outer s H vs Q E hr h => ?_)
  · obtain ⟨as, rfl, _⟩ := h
    rfl
  · obtain ⟨as, rfl, ok, h1, h4, k⟩ := h
    have hne : as ≠ [] := fun e => by rw [e] at h1; simp at h1
    refine ⟨_, (pss_cons (ps_if (pt_not (pt_val (pe_callB call_isi (by rfl) T.f_isinstance (by decide +kernel) (pa_cons (pv 1) (pa_cons (pe_bltn (by rfl) T.f_str (by decide +kernel) (show RelV (.ty "str") (.type "str") from rfl)) pa_nil))))) (pss_one ps_never) pss_nil) (pss_cons (ps_setLc (i := 2) (own := [("word", 3)]) rfl S.nd rfl rfl (sw_true rfl rfl rfl (by decide +kernel)) (pi_sd (pe_split (pv 1) pe_str)) (blkOk_by (N := ["cls", "text", "atoms", "word"]) (sc := defScope s_Question_read) (by decide +kernel)) (fun _ _ _ _ _ => (pg_name (i := 3) S.nd rfl (Or.inl rfl))) (fun _ _ _ _ _ => pts_nil) (fun _ _ _ _ _ => (pcl OA (hr.mono (by decide)) (pa_cons (pv 3) pa_nil)))) (pss_cons (ps_if (pt_not (pt_val (pcl OAA (hr.mono (by decide)) (pa_cons (pv 2) pa_nil)))) (pss_one ps_never) pss_nil) (pss_one (ps_ret (pe_makeSL (i := 0) T.mk_Question FI hr rfl (.inl rfl) pass0 (pv 2))))))), ?_⟩
    refine ⟨_, rfl, _, _, _, _, _, rfl, .ty _, .base (.str _), k_ss, true, rfl, iteF ?_⟩
    refine ⟨_, rfl, ⟨_, rfl⟩, _, _, rfl, rfl, by decide +kernel, by have := q_len ok h4; rw [sizeLine_eq]; omega, fun L hL => ?_⟩
    rw [q_split ok hne]
    have hL2 : (upd H L (.lst ((as.map wordA).map V.str))) L = some (sqO false ((as.map wordA).map V.str)) := upd_same
    refine ⟨false, L, rfl, ⟨_, sd_of hL2⟩, fun D hD => ?_⟩
    refine lc_mapS (tsd_walk (K := K) (t := false) (a := L) (xs := (as.map wordA).map V.str)) (fun i y H => ∃ b, as[i]? = some b ∧ ∃ t, y = .ref t ∧ H t = some (.tup (aV b))) hD (fun H2 s2 => sd_of (t := false) (s2 _ _ hL2)) (fun i y H H' acc hDl of ⟨b, e, t, ey, ht⟩ => ⟨b, e, t, ey, of.tup hDl ht⟩) (by rw [List.length_map, List.length_map, sizeLine_eq]; omega) (fun i x H2 H2' hi s2 hy Q' k' => ?_) fun H2 ys s2 hDl hlen hR => ?_
    · obtain ⟨rfl, hx⟩ := hy
      rw [List.getElem?_map, List.getElem?_map] at hx
      cases ea : as[i]? with
      | none => rw [ea] at hx; cases hx
      | some b =>
        rw [ea] at hx
        obtain rfl : V.str (wordA b) = x := Option.some.inj hx
        exact ⟨rfl, _, rfl, b, rfl, ok b (List.mem_of_getElem? ea), fun p H3 s3 hp hpt => k' _ _ s3 ⟨b, ea, p, rfl, hpt⟩⟩
    · obtain ⟨es, rfl, hl, em⟩ := en_of (f := aV) (H := H2) (ys := ys) (bs := as) (by rw [hlen, List.length_map, List.length_map]) hR
      have el : es.length = as.length := by rw [← em, List.length_map]
      have ok2 : ∀ p ∈ es, OkA p.2 := fun p hp => ok p.2 (by rw [← em]; exact List.mem_map.mpr ⟨p, hp, rfl⟩)
      have sH := (same_upd (o := .lst ((as.map wordA).map V.str)) hL).trans s2
      have hDl2 : H2 D = some (sqO false (refs es)) := hDl
      refine ⟨_, rfl, false, D, es, rfl, hDl2, hl, ok2, by omega, by omega, fun H3 s3 => ⟨true, rfl, iteF ?_⟩⟩
      refine ⟨rfl, _, rfl, D, _, rfl, .inr (SqL.of (s3 _ _ hDl)), make_Q (hl.same s3) ok2 (by omega) (by omega) fun x H4 s4 hx hQ => ?_⟩
      exact k x es H4 (sH.trans (s3.trans s4)) ((sH.trans s3).free hx) hQ em
theorem sc_Table_text : FnScope ["self", "kind", "left", "right", "often"] ["self"] (defScope s_Table_text) := ⟨rfl, rfl, rfl, by decide +kernel, rfl, by decide +kernel, by decide +kernel⟩
theorem ok_Table_text (T : Txt K mg) : OkM P w K mg base 1 (me K "Table" "text") ["self"] (sp_text K) := by
  have S := sc_Table_text
  refine mkMet T.i_text S (fun _ _ _ _ _ _ us hl => match us, hl with | [_], _ => rfl) (fun vs H Q E h => ?_) (fun cdv A outer s H vs Q E hr h => ?_)
  · obtain ⟨t, rs, rfl, _⟩ := h
    rfl
  · obtain ⟨t, rs, rfl, hT, ok, k⟩ := h
    obtain ⟨⟨dx, kp, ht, hk⟩, hl, hok, nd, h12⟩ := hT
    refine ⟨_, (pss_one (ps_ret (pe_join pe_str (pe_lc (te := teLine) (g := gTup K 4 (gCons (gName 1) (gCons (gName 2) (gCons (gName 3) (gCons (gName 4) gNil))))) (own := [("kind", 1), ("left", 2), ("right", 3), ("often", 4)]) rfl S.nd (pi_sd (pe_fld (pv 0) rfl)) (blkOk_by (N := ["self", "kind", "left", "right", "often"]) (sc := defScope s_Table_text) (by decide +kernel)) (fun _ _ _ _ _ => (pg_tup rfl (pgs_cons (pg_name (i := 1) S.nd rfl (Or.inl rfl)) (pgs_cons (pg_name (i := 2) S.nd rfl (Or.inl rfl)) (pgs_cons (pg_name (i := 3) S.nd rfl (Or.inl rfl)) (pgs_cons (pg_name (i := 4) S.nd rfl (Or.inl rfl)) pgs_nil)))))) (fun _ _ _ _ _ => pts_nil) (fun _ _ _ _ _ => (pe_joined (.cons (pe_fmt (pv 1)) (.cons pe_str (.cons (pe_fmt (pv 2)) (.cons pe_str (.cons (pe_fmt (pv 3)) (.cons pe_str (.cons (pe_fmt (pv 4)) (.cons pe_str .nil)))))))))))))), ?_⟩
    have hk2 : H kp = some (sqO true (refs rs)) := hk
    refine ⟨⟨_, rfl⟩, _, rfl, t, ad K "Table", dx, _, _, rfl, ht, T.ic_Table.cl, T.no_Table, kF_at kp, true, kp, rfl, ⟨_, sd_of hk2⟩, fun D hD => ?_⟩
    refine lc_mapS (te := teLine) (tsd_walk (K := K) (t := true) (a := kp) (xs := refs rs)) (fun i y H => (lineV rs)[i]? = some y) hD (fun H2 s2 => sd_of (s2 _ _ hk2)) (fun i y H H' acc _ _ e => e) (by rw [refs_len, sizeLine_eq]; omega) (fun i x H2 H2' hi s2 hy Q' k' => ?_) fun H2 ys s2 hDl hlen hR => ?_
    · obtain ⟨rfl, hx⟩ := hy
      obtain ⟨p, hp, rfl⟩ := refs_at hx
      have hpm := List.mem_of_getElem? hp
      obtain ⟨h1, h2, h3, h4, h5⟩ := ok p hpm
      have h6 := (ok p hpm).od
      obtain ⟨b1, b2, b3, b4, b5, b6, b7, b8, b0⟩ := line_lens (ok p hpm)
      refine ⟨_, _, rfl, SqT.of (s2 _ _ (hl p hpm)), rfl, _, _, rfl, _, _, rfl, _, _, rfl, _, _, rfl, rfl, rfl, ?_⟩
      refine ⟨_, rfl, .inl ⟨_, rfl, b0, _, rfl, b1, ?_⟩⟩
      refine ⟨_, rfl, b2, _, rfl, .inr ⟨_, rfl, dg_log h2, _, rfl, b3, ?_⟩⟩
      refine ⟨_, rfl, b4, _, rfl, .inr ⟨_, rfl, dg_log h3, _, rfl, b5, ?_⟩⟩
      refine ⟨_, rfl, b6, _, rfl, .inr ⟨_, rfl, dg_log h6, _, rfl, b7, ?_⟩⟩
      refine ⟨_, rfl, b8, ?_⟩
      rw [fline]
      exact k' _ _ (Same.refl _) (lineV_at hp)
    · have eys : ys = (rs.map fun p => lineR p.2 ++ "\n").map V.str := by
        rw [← lineV_str]
        exact ext_at (by rw [hlen, refs_len, lineV_len]) hR
      refine ⟨_, D, rs.map fun p => lineR p.2 ++ "\n", rfl, rfl, .inl (SqL.of (by rw [← eys]; exact hDl)), ?_, ?_⟩
      · have h := sum_le (f := fun x : Str => x.length) (m := 8) (xs := rs.map fun p => lineR p.2 ++ "\n") fun x hx => by
          obtain ⟨p, hp, rfl⟩ := List.mem_map.mp hx
          rw [line_nl (ok p hp)]
          exact Nat.le_refl _
        rw [List.length_map] at h ⊢
        rw [show ("" : Str).length = 0 by decide +kernel]
        omega
      · have e : tabText (rs.map (·.2)) = Txt.join "" (rs.map fun p => lineR p.2 ++ "\n") := by
          unfold tabText
          rw [List.map_map] <;> rfl
        rw [← e]
        exact k _ s2
theorem sc_Table_read : FnScope ["cls", "text", "rows", "made", "line"] ["cls", "text"] (defScope s_Table_read) := ⟨rfl, rfl, rfl, by decide +kernel, rfl, by decide +kernel, by decide +kernel⟩
theorem ok_Table_read (T : Txt K mg) : OkM P w K mg base 8 (wr K "Table" "classmethod" "read") ["cls", "text"] (sp_readT K) := by
  have S := sc_Table_read
  have OL : Ok P w K mg base 2 "row_of_line" ["line"] sp_row_of_line := ok_row_of_line T
  have OAR : Ok P w K mg base 5 "are_rows" ["things"] sp_are_rows := ok_are_rows T
  have FI : FnR P w K mg base CX0 6 (me K "Table" "__init__") (starS (sp_initT K)) := ok_initT T
  obtain ⟨fT, FT, bT⟩ := (ok_Table_text (P := P) (w := w) (base := base) T).ex
  refine mkMet T.r_Table S (fun _ _ _ _ _ _ us hl => match us, hl with | [_, _], _ => rfl) (fun vs H Q E h => ?_) (fun cdv A outer s H vs Q E hr h => ?_)
  · obtain ⟨rs, rfl, _⟩ := h
    rfl
  · obtain ⟨rs, rfl, ok, nd, asc, h12, k⟩ := h
    refine ⟨_, (C8.pss_cut (ps_if (PW.pt (pw_or (pt_not (pt_val (pe_callB call_isi (by rfl) T.f_isinstance (by decide +kernel) (pa_cons (pv 1) (pa_cons (pe_bltn (by rfl) T.f_str (by decide +kernel) (show RelV (.ty "str") (.type "str") from rfl)) pa_nil))))) (pw_or1 (PW.pt (pw_and (pt_cmpR op_ne (pv 1) pe_str (nomark _)) (pw_and1 (pt_not (pt_val (pe_m1 PySem.F.slot_str_endswith PySem.F.type_str_endswith mt_endswith (pv 1) pe_str))))))))) (pss_one ps_never) pss_nil) (pss_cons (ps_setLc (i := 2) (own := [("line", 4)]) rfl S.nd rfl rfl (sw_true rfl rfl rfl (by decide +kernel)) (pi_sd (pe_slice sl_list (pe_split (pv 1) pe_str) po_none (po_some (pe_un un_neg pe_int)))) (blkOk_by (N := ["cls", "text", "rows", "made", "line"]) (sc := defScope s_Table_read) (by decide +kernel)) (fun _ _ _ _ _ => (pg_name (i := 4) S.nd rfl (Or.inl rfl))) (fun _ _ _ _ _ => pts_nil) (fun _ _ _ _ _ => (pcl OL (hr.mono (by decide)) (pa_cons (pv 4) pa_nil)))) (pss_cons (ps_if (pt_not (pt_val (pcl OAR (hr.mono (by decide)) (pa_cons (pv 2) pa_nil)))) (pss_one ps_never) pss_nil) (pss_cons (ps_set (i := 3) S.nd rfl (.inl rfl) (pe_makeSL (i := 0) T.mk_Table FI hr rfl (.inl rfl) pass0 (pv 2))) (pss_cons (ps_if (pt_cmpR op_ne (pe_meth0 (pv 3) T.ic_Table.cl T.m_text FT (hr.mono (by decide)) bT .nil pass0) (pv 1) (nomark _)) (pss_one ps_never) pss_nil) (pss_one (ps_ret (pv 3)))))))), ?_⟩
    refine ⟨fun σ' H' => σ' = [some (.ref (ad K "Table")), some (.str (tabText rs)), none, none, none] ∧ H' = H, ?_, ?_⟩
    · refine ⟨_, rfl, _, _, _, _, _, rfl, .ty _, .base (.str _), k_ss, true, rfl, iteF ?_⟩
      refine ⟨_, rfl, rfl, !decide (tabText rs = ""), congrArg V.bl (by simp), ?_⟩
      by_cases h0 : rs = []
      · subst h0
        rw [decide_eq_true (show tabText [] = "" by decide +kernel)]
        exact iteF (iteF ⟨rfl, rfl⟩)
      · rw [decide_eq_false (tab_ends h0).2]
        refine iteT ⟨_, rfl, ⟨_, rfl⟩, _, _, rfl, rfl, true, congrArg V.bl (tab_ends h0).1, iteF ⟨rfl, rfl⟩⟩
    · rintro σ' H' ⟨rfl, rfl⟩
      have hz := tab_len ok h12
      refine ⟨_, rfl, ⟨_, rfl⟩, _, _, rfl, rfl, by decide +kernel, by rw [sizeLine_eq]; omega, fun L hL => ?_⟩
      rw [tab_split ok, show (rs.map lineR ++ [Str.empty]).map V.str = (rs.map lineR).map V.str ++ [V.str Str.empty] by rw [List.map_append] <;> rfl]
      have sL := same_upd (o := .lst ((rs.map lineR).map V.str ++ [V.str Str.empty])) hL
      refine ⟨_, rfl, _, rfl, L, _, rfl, SqL.of upd_same, fun M hM => ?_⟩
      have hM2 : (upd (upd H' L (.lst ((rs.map lineR).map V.str ++ [V.str Str.empty]))) M (.lst (cutV ((rs.map lineR).map V.str ++ [V.str Str.empty]) none (some (-1))))) M = some (sqO false ((rs.map lineR).map V.str)) := by
        rw [upd_same, cut_last] <;> rfl
      have sM := sL.trans (same_upd (o := .lst (cutV ((rs.map lineR).map V.str ++ [V.str Str.empty]) none (some (-1)))) hM)
      refine ⟨false, M, rfl, ⟨_, sd_of hM2⟩, fun D hD => ?_⟩
      refine lc_mapS (tsd_walk (K := K) (t := false) (a := M) (xs := (rs.map lineR).map V.str)) (fun i y H => ∃ b, rs[i]? = some b ∧ ∃ t, y = .ref t ∧ H t = some (.tup (rV b))) hD (fun H2 s2 => sd_of (t := false) (s2 _ _ hM2)) (fun i y H H' acc hDl of ⟨b, e, t, ey, ht⟩ => ⟨b, e, t, ey, of.tup hDl ht⟩) (by rw [List.length_map, List.length_map, sizeLine_eq]; omega) (fun i x H2 H2' hi s2 hy Q' k' => ?_) fun H2 ys s2 hDl hlen hR => ?_
      · obtain ⟨rfl, hx⟩ := hy
        rw [List.getElem?_map, List.getElem?_map] at hx
        cases ea : rs[i]? with
        | none => rw [ea] at hx; cases hx
        | some b =>
          rw [ea] at hx
          obtain rfl : V.str (lineR b) = x := Option.some.inj hx
          exact ⟨rfl, _, rfl, b, rfl, ok b (List.mem_of_getElem? ea), fun p H3 s3 hp hpt => k' _ _ s3 ⟨b, ea, p, rfl, hpt⟩⟩
      · obtain ⟨es, rfl, hl, em⟩ := en_of (f := rV) (H := H2) (ys := ys) (bs := rs) (by rw [hlen, List.length_map, List.length_map]) hR
        have el : es.length = rs.length := by rw [← em, List.length_map]
        have ok2 : ∀ p ∈ es, OkR p.2 := fun p hp => (ok p.2 (by rw [← em]; exact List.mem_map.mpr ⟨p, hp, rfl⟩)).okR
        have nd2 : (es.map fun p => key p.2).Nodup := by
          rw [← em, List.map_map] at nd
          exact nd
        have sH := sM.trans s2
        have hDl2 : H2 D = some (sqO false (refs es)) := hDl
        refine ⟨_, rfl, false, D, es, rfl, hDl2, hl, ok2, nd2, by omega, fun H3 s3 => ⟨true, rfl, iteF ?_⟩⟩
        refine ⟨rfl, _, rfl, D, _, rfl, .inr (SqL.of (s3 _ _ hDl)), fun x dx0 hx hdx hne => make_T1 hx hdx hne (hl.same s3) ok2 nd2 (by omega) fun rs' H4 s4 hT pm pw => ?_⟩
        have eq : rs'.map (·.2) = rs := by
          have := rows_one (rs := es.map (·.2)) (rs' := rs'.map (·.2)) (fun r hr => by
            obtain ⟨p, hp, rfl⟩ := List.mem_map.mp hr
            exact ok2 p hp) (by rw [em]; exact nd) (pm.map _) pw (by rw [em]; exact asc)
          rw [this, em]
        obtain ⟨dx, kp, hx4, hk4⟩ := hT.ins
        refine ⟨_, rfl, x, dx, _, rfl, hx4, kF_no kp (by decide +kernel), x, rs', rfl, hT, fun p hp => ?_, fun H5 s5 => ?_⟩
        · exact ok p.2 (by rw [← eq]; exact List.mem_map.mpr ⟨p, hp, rfl⟩)
        refine ⟨_, rfl, rfl, false, congrArg V.bl (by rw [eq]; simp), iteF ?_⟩
        exact ⟨_, rfl, k x rs' H5 (sH.trans (s3.trans (s4.trans s5))) ((sH.trans s3).free hx) (hT.same s5) eq⟩
end
end CA
set_option Elab.async false
set_option linter.all false
set_option maxRecDepth 100000
set_option maxHeartbeats 1000000
namespace CA
open PySem PySem.Spec PyProof.Rows L2 TL
/-! ### the pen -/
def PenAt (H : Hp) (p : Addr) (n : Nat) : Prop := ∃ a b c : Int, H p = some (.lst [.int a, .int b, .int c]) ∧ 0 ≤ a ∧ 0 ≤ b ∧ b < 1000000007 ∧ 0 ≤ c ∧ c ≤ (n : Int)
theorem PenAt.same {H H' : Hp} {p : Addr} {n : Nat} (h : PenAt H p n) (s : Same H H') : PenAt H' p n := by
  obtain ⟨a, b, c, e, r⟩ := h
  exact ⟨a, b, c, s _ _ e, r⟩
theorem PenAt.mono {H : Hp} {p : Addr} {n m : Nat} (h : PenAt H p n) (hm : n ≤ m) : PenAt H p m := by
  obtain ⟨a, b, c, e, r1, r2, r3, r4, r5⟩ := h
  exact ⟨a, b, c, e, r1, r2, r3, r4, by omega⟩
theorem atI_nn {xs : List V} {i : Int} (h0 : 0 ≤ i) (h : i < (xs.length : Nat)) : atI xs i = xs[i.toNat]? := by
  unfold atI ixN
  rw [if_pos h0, if_pos h] <;> rfl
theorem sqL_same {K : PySem.W.Frag} {H H' : Hp} {a : Addr} {xs : List V} (h : SqL K H a xs) (s : Same H H') : SqL K H' a xs := h.elim (fun q => .inl (q.elim (fun e => .inl (s _ _ e)) fun ⟨od, e⟩ => .inr ⟨od, s _ _ e⟩)) .inr
theorem stir_bd {b c : Int} (h0 : 0 ≤ b) (h1 : b < 1000000007) (h2 : 0 ≤ c) (h3 : c ≤ 100000) : 0 ≤ b + 17 * c ∧ b + 17 * c < 2 ^ 31 := by omega
def sp_cell_at (K : PySem.W.Frag) : Sp := fun vs H Q _ => ∃ (s : Addr) (ns : List Int) (k : Int), vs = [.ref s, .int k] ∧ SqL K H s (ns.map V.int) ∧ 0 ≤ k ∧ ∀ (z : Int) H', Same H H' → Q (.int z) H'
def sp_pen : Sp := fun vs H Q _ => ∃ z : Int, vs = [.int z] ∧ ∀ (p : Addr) H', Same H H' → H p = none → PenAt H' p 0 → Q (.ref p) H'
def sp_draw : Sp := fun vs H Q _ => ∃ (p : Addr) (m : Int) (n : Nat), vs = [.ref p, .int m] ∧ 1 ≤ m ∧ m ≤ 10 ∧ n < 100000 ∧ PenAt H p n ∧ ∀ (d : Int) H', 0 ≤ d → d < m → Off p H H' → PenAt H' p (n + 1) → Q (.int d) H'
section
variable {P : Program} {w : World} {K : PySem.W.Frag} {mg : Str → Option Value} {base : Heap}

theorem sc__law_cell_at : FnScope ["_law_script", "_law_k"] ["_law_script", "_law_k"] (defScope s__law_cell_at) := ⟨rfl, rfl, rfl, by decide +kernel, rfl, by decide +kernel, by decide +kernel⟩
theorem ok__law_cell_at (T : Txt K mg) : Ok P w K mg base 1 "_law_cell_at" ["_law_script", "_law_k"] (sp_cell_at K) := by
  have S := sc__law_cell_at
  refine mkOk T.d__law_cell_at S (fun _ _ _ _ _ _ us hl => match us, hl with | [_, _], _ => rfl) (fun vs H Q E h => ?_) (fun cdv A outer s H vs Q E hr h => ?_)
  · obtain ⟨a, ns, k, rfl, _⟩ := h
    rfl
  · obtain ⟨a, ns, k, rfl, ha, hk, q⟩ := h
    refine ⟨_, (pss_cons (ps_if (pt_cmpR op_lt (pv 1) (pe_callB call_len_seq (by rfl) T.f_len (by decide +kernel) (pa_cons (pv 0) pa_nil)) (nomark _)) (pss_one (ps_ret (pe_ix ix_list (pv 0) (pv 1) (fun _ _ => rfl)))) pss_nil) (pss_one (ps_ret pe_int))), ?_⟩
    refine ⟨_, rfl, _, rfl, _, _, rfl, .inl ha, ?_⟩
    by_cases hl : k < ((ns.map V.int).length : Nat)
    · refine ⟨_, _, rfl, rfl, true, congrArg V.bl (decide_eq_true hl), iteT ?_⟩
      have hi : k.toNat < ns.length := by
        rw [List.length_map] at hl
        omega
      refine ⟨_, rfl, _, rfl, _, _, _, .int ns[k.toNat], rfl, rfl, ha, ?_, q _ _ (Same.refl _)⟩
      rw [atI_nn hk hl, List.getElem?_map, List.getElem?_eq_getElem hi] <;> rfl
    · exact ⟨_, _, rfl, rfl, false, congrArg V.bl (decide_eq_false hl), iteF (q _ _ (Same.refl _))⟩
theorem sc__law_pen : FnScope ["_law_cell"] ["_law_cell"] (defScope s__law_pen) := ⟨rfl, rfl, rfl, by decide +kernel, rfl, by decide +kernel, by decide +kernel⟩
theorem ok__law_pen (T : Txt K mg) : Ok P w K mg base 1 "_law_pen" ["_law_cell"] sp_pen := by
  have S := sc__law_pen
  refine mkOk T.d__law_pen S (fun _ _ _ _ _ _ us hl => match us, hl with | [_], _ => rfl) (fun vs H Q E h => ?_) (fun cdv A outer s H vs Q E hr h => ?_)
  · obtain ⟨z, rfl, _⟩ := h
    rfl
  · obtain ⟨z, rfl, q⟩ := h
    refine ⟨_, (pss_one (ps_ret (pe_lst (pa_cons (pe_callB (call_max2 rfl) (by rfl) T.f_max (by decide +kernel) (pa_cons pe_int (pa_cons (pe_op op_sub (pv 0) (pe_op op_pow pe_int pe_int)) pa_nil))) (pa_cons (pe_op op_mod (pv 0) pe_int) (pa_cons pe_int pa_nil)))))), ?_⟩
    refine ⟨_, rfl, _, _, rfl, rfl, ⟨by decide, by decide, by decide⟩, _, _, rfl, rfl, _, _, rfl, _, rfl, _, _, rfl, rfl, (show (0 : Int) < 1000000007 by decide), (show (3 : Nat) ≤ sizeLine by decide), fun p hp => ?_⟩
    refine q p _ (same_upd hp) hp ⟨_, _, _, upd_same, ?_, Int.emod_nonneg _ (by decide), Int.emod_lt_of_pos _ (by decide), by decide, by decide⟩
    split <;> omega
theorem sc__law_draw : FnScope ["_law_pen_here", "_law_many", "_law_digit", "_law_stir"] ["_law_pen_here", "_law_many"] (defScope s__law_draw) := ⟨rfl, rfl, rfl, by decide +kernel, rfl, by decide +kernel, by decide +kernel⟩
theorem ok__law_draw (T : Txt K mg) : Ok P w K mg base 1 "_law_draw" ["_law_pen_here", "_law_many"] sp_draw := by
  have S := sc__law_draw
  refine mkOk T.d__law_draw S (fun _ _ _ _ _ _ us hl => match us, hl with | [_, _], _ => rfl) (fun vs H Q E h => ?_) (fun cdv A outer s H vs Q E hr h => ?_)
  · obtain ⟨p, m, n, rfl, _⟩ := h
    rfl
  · obtain ⟨p, m, n, rfl, m1, m10, hn, hp, q⟩ := h
    obtain ⟨a, b, c, ep, a0, b0, b1, c0, c1⟩ := hp
    refine ⟨_, (pss_cons (ps_if (pt_cmpR op_gt (pe_ix ix_list (pv 0) pe_int (fun _ _ => rfl)) pe_int (nomark _)) (pss_cons (ps_set (i := 2) S.nd rfl (.inl rfl) (pe_op op_mod (pe_ix ix_list (pv 0) pe_int (fun _ _ => rfl)) (pv 1))) (pss_cons (ps_asg (pe_op op_fdiv (pe_ix ix_list (pv 0) pe_int (fun _ _ => rfl)) (pv 1)) (pg_sub (pv 0) pe_int set_list)) (pss_one (ps_ret (pv 2))))) pss_nil) (pss_cons (ps_asg (pe_op op_add (pe_ix ix_list (pv 0) pe_int (fun _ _ => rfl)) pe_int) (pg_sub (pv 0) pe_int set_list)) (pss_cons (ps_set (i := 3) S.nd rfl (.inl rfl) (pe_op op_mod (pe_op op_mul (pe_op op_add (pe_ix ix_list (pv 0) pe_int (fun _ _ => rfl)) (pe_op op_mul pe_int (pe_ix ix_list (pv 0) pe_int (fun _ _ => rfl)))) (pe_op op_add pe_int (pe_op op_mul pe_int (pe_ix ix_list (pv 0) pe_int (fun _ _ => rfl))))) pe_int)) (pss_cons (ps_set (i := 3) S.nd rfl (.inl rfl) (pe_op op_mod (pe_op op_add (pe_op op_add (pe_op op_mul (pv 3) (pv 3)) (pe_op op_mul pe_int (pe_ix ix_list (pv 0) pe_int (fun _ _ => rfl)))) pe_int) pe_int)) (pss_one (ps_ret (pe_op op_mod (pe_op op_fdiv (pe_op op_mod (pe_op op_mul (pv 3) pe_int) pe_int) pe_int) (pv 1)))))))), ?_⟩
    refine ⟨_, rfl, _, _, _, V.int a, rfl, rfl, SqL.of ep, rfl, _, _, rfl, rfl, ?_⟩
    by_cases ha : 0 < a
    · refine ⟨true, congrArg V.bl (decide_eq_true ha), iteT ?_⟩
      refine ⟨_, rfl, _, _, _, V.int a, rfl, rfl, SqL.of ep, rfl, _, rfl, _, _, rfl, rfl, by omega, ?_⟩
      refine ⟨_, rfl, _, _, _, V.int a, rfl, rfl, SqL.of ep, rfl, _, rfl, _, _, rfl, rfl, ⟨by omega, by omega⟩, ?_⟩
      refine ⟨_, rfl, _, _, _, _, rfl, rfl, ep, rfl, ?_⟩
      refine ⟨_, rfl, q _ _ (Int.emod_nonneg _ (by omega)) (Int.emod_lt_of_pos _ (by omega)) off_upd ⟨a / m, b, c, upd_same, Int.ediv_nonneg a0 (by omega), b0, b1, c0, by omega⟩⟩
    · refine ⟨false, congrArg V.bl (decide_eq_false ha), iteF ?_⟩
      refine ⟨_, rfl, _, _, _, V.int c, rfl, rfl, SqL.of ep, rfl, _, _, rfl, rfl, ?_⟩
      refine ⟨_, rfl, _, _, _, _, rfl, rfl, ep, rfl, ?_⟩
      have h2 : (upd H p (.lst [.int a, .int b, .int (c + 1)])) p = some (.lst [.int a, .int b, .int (c + 1)]) := upd_same
      have f1 := stir_bd (b := b) (c := c + 1) b0 b1 (by omega) (by omega)
      refine ⟨_, rfl, _, _, _, V.int b, rfl, rfl, SqL.of h2, rfl, _, rfl, _, _, _, V.int (c + 1), rfl, rfl, SqL.of h2, rfl, _, _, rfl, rfl, .inl ⟨by decide, by decide⟩, _, _, rfl, rfl, ?_⟩
      refine ⟨_, rfl, _, _, _, V.int (c + 1), rfl, rfl, SqL.of h2, rfl, _, _, rfl, rfl, .inl ⟨by decide, by decide⟩, _, _, rfl, rfl, ?_⟩
      refine ⟨_, _, rfl, rfl, .inl ⟨by omega, by omega⟩, _, _, rfl, rfl, (show (0 : Int) < 2147483647 by decide), ?_⟩
      generalize hs1 : (b + 17 * (c + 1)) * (69621 + 2 * (c + 1)) % 2147483647 = s1
      have g1 : 0 ≤ s1 := by rw [← hs1]; exact Int.emod_nonneg _ (by decide)
      have g2 : s1 < 2147483647 := by rw [← hs1]; exact Int.emod_lt_of_pos _ (by decide)
      refine ⟨_, rfl, _, rfl, _, _, rfl, rfl, .inl ⟨by omega, by omega⟩, _, rfl, _, _, _, V.int (c + 1), rfl, rfl, SqL.of h2, rfl, _, _, rfl, rfl, .inl ⟨by decide, by decide⟩, _, _, rfl, rfl, _, _, rfl, rfl, _, _, rfl, rfl, (show (0 : Int) < 2147483629 by decide), ?_⟩
      generalize hs2 : (s1 * s1 + 40503 * (c + 1) + 5) % 2147483629 = s2
      have k1 : 0 ≤ s2 := by rw [← hs2]; exact Int.emod_nonneg _ (by decide)
      have k2 : s2 < 2147483629 := by rw [← hs2]; exact Int.emod_lt_of_pos _ (by decide)
      refine ⟨_, rfl, _, _, rfl, rfl, .inl ⟨by omega, by omega⟩, _, _, rfl, rfl, (show (0 : Int) < 2147483647 by decide), _, _, rfl, rfl, ⟨by decide, by decide⟩, _, rfl, _, _, rfl, rfl, by omega, ?_⟩
      exact q _ _ (Int.emod_nonneg _ (by omega)) (Int.emod_lt_of_pos _ (by omega)) off_upd ⟨a, b, c + 1, upd_same, a0, b0, b1, by omega, by omega⟩
end
end CA
set_option Elab.async false
set_option linter.all false
set_option maxRecDepth 100000
set_option maxHeartbeats 1000000
namespace CA
open PySem PySem.Spec PyProof.Rows L2 TL
/-! ### mixed -/
def Itm (H : Hp) (x : V) : Prop := (∃ i : Int, x = .int i) ∨ ∃ (t : Addr) (a : At Str), x = .ref t ∧ H t = some (.tup (aV a)) ∧ isKind a.1
theorem Off.pen {H H' : Hp} {p t : Addr} {xs : List V} {n : Nat} (o : Off p H H') (hp : PenAt H p n) (h : H t = some (.tup xs)) : H' t = some (.tup xs) := by
  obtain ⟨a, b, c, e, _⟩ := hp
  exact o.tup e h
theorem Itm.off {H H' : Hp} {p : Addr} {n : Nat} {x : V} (h : Itm H x) (hp : PenAt H p n) (o : Off p H H') : Itm H' x := by
  rcases h with h | ⟨t, a, e, h1, h2⟩
  · exact .inl h
  · exact .inr ⟨t, a, e, o.pen hp h1, h2⟩
theorem itm_data {K : PySem.W.Frag} {H : Hp} : ∀ {xs : List V}, (∀ x ∈ xs, Itm H x) → ∃ ds, DpAll K H xs ds ∧ PyData.canLayAll0 ds = true ∧ PyData.depthAll ds ≤ 1
  | [], _ => ⟨[], .nil, by simp [PyData.canLayAll0], by simp [PyData.depthAll]⟩
  | x :: xs, h => by
    obtain ⟨ds, h1, h2, h3⟩ := itm_data (K := K) (xs := xs) fun y hy => h y (List.mem_cons_of_mem _ hy)
    rcases h x List.mem_cons_self with ⟨i, rfl⟩ | ⟨t, a, rfl, ht, hk⟩
    · exact ⟨.int i :: ds, .cons (.int i) h1, by simp [PyData.canLayAll0, PyData.canLay0, h2], by simp [PyData.depthAll, PyData.depth]; omega⟩
    · refine ⟨keyD a :: ds, .cons (dp_key ht) h1, ?_, ?_⟩
      · have q := strOk_kind hk
        simp [PyData.canLayAll0, PyData.canLay0, keyD, h2, q]
      · simp [PyData.depthAll, PyData.depth, keyD]
        omega
theorem dpAll_len {K : PySem.W.Frag} {H : Hp} {xs : List V} {ds : List PyData} (h : DpAll K H xs ds) : xs.length = ds.length := by
  induction xs generalizing ds with
  | nil => cases h; rfl
  | cons x xs ih =>
    cases h with
    | cons _ h => rw [List.length_cons, List.length_cons, ih h]
theorem eqv_nil (ds : List PyData) : PyData.eqv (.list ds) (.list []) = decide (ds.length = 0) := by
  cases ds <;> simp [PyData.eqv, PyData.eqvAll]
theorem sh_list {ds : List PyData} (h1 : PyData.canLayAll0 ds = true) (h2 : PyData.depthAll ds ≤ 1) : SeqAt.shaped (.list ds) = true := by
  unfold SeqAt.shaped
  rw [Bool.and_eq_true, decide_eq_true_eq, PyData.canLay0, PyData.depth]
  exact ⟨h1, by omega⟩
theorem sh_nil : SeqAt.shaped (.list []) = true := sh_list (by simp [PyData.canLayAll0]) (by simp [PyData.depthAll])
theorem seqIx {d : Int} {n : Nat} (h0 : 0 ≤ d) (h : d < (n : Int)) : seqIndex? d n = some d.toNat := by
  unfold seqIndex?
  have : ¬ d < 0 := by omega
  simp [this, h0, h]
theorem pick_perm2 {α : Type} {fs ls xs : List α} {k : Nat} (hk : k < ls.length) (h : (fs ++ ls).Perm xs) : ((fs ++ [ls[k]]) ++ ls.eraseIdx k).Perm xs := by
  refine List.Perm.trans ?_ h
  rw [List.append_assoc]
  refine List.Perm.append_left fs ?_
  have e : ls = ls.take k ++ ls[k] :: ls.drop (k + 1) := by
    rw [← List.drop_eq_getElem_cons hk, List.take_append_drop]
  have q : (ls[k] :: ls.eraseIdx k).Perm (ls.take k ++ ls[k] :: ls.drop (k + 1)) := by
    rw [List.eraseIdx_eq_take_drop_succ]
    exact List.perm_middle.symm
  rw [← e] at q
  exact q
def sp_mixed : Sp := fun vs H Q _ => ∃ (p l : Addr) (xs : List V) (n : Nat), vs = [.ref p, .ref l] ∧ H l = some (.lst xs) ∧ xs.length ≤ 10 ∧ (∀ x ∈ xs, Itm H x) ∧ PenAt H p n ∧ n + 10 < 100000 ∧
  ∀ (f : Addr) (ys : List V) H', Off p H H' → H f = none → H' f = some (.lst ys) → ys.Perm xs → PenAt H' p (n + 10) → Q (.ref f) H'
section
variable {P : Program} {w : World} {K : PySem.W.Frag} {mg : Str → Option Value} {base : Heap}

theorem sc__law_mixed : FnScope ["_law_pen_here", "_law_things", "_law_left", "_law_found"] ["_law_pen_here", "_law_things"] (defScope s__law_mixed) := ⟨rfl, rfl, rfl, by decide +kernel, rfl, by decide +kernel, by decide +kernel⟩
theorem ok__law_mixed (T : Txt K mg) : Ok P w K mg base 2 "_law_mixed" ["_law_pen_here", "_law_things"] sp_mixed := by
  have S := sc__law_mixed
  have OD : Ok P w K mg base 1 "_law_draw" ["_law_pen_here", "_law_many"] sp_draw := ok__law_draw T
  refine mkOk T.d__law_mixed S (fun _ _ _ _ _ _ us hl => match us, hl with | [_, _], _ => rfl) (fun vs H Q E h => ?_) (fun cdv A outer s H vs Q E hr h => ?_)
  · obtain ⟨p, l, xs, n, rfl, _⟩ := h
    rfl
  · obtain ⟨p, l, xs, n, rfl, hl, h10, hit, hp, hn, q⟩ := h
    have hu64 := (un64 hr)
    refine ⟨_, (pss_cons (ps_par (i := 2) (j := 3) (by rfl) S.nd rfl rfl (by decide) rfl rfl (pa_cons (pe_callTy call_list_of (by rfl) T.f_list (by decide +kernel) (pa_cons (pv 1) pa_nil)) (pa_cons (pe_lst pa_nil) pa_nil)) (by rfl)) (pss_cons (ps_while PassesOwn.never (pt_cmpR (op_neD hu64) (pv 2) (pe_lst pa_nil) (nomark _)) (pss_one (ps_expr (pe_bm PySem.F.plainAttrs_list PySem.F.slot_list_append PySem.F.type_list_append mt_append (pv 3) (pa_cons (pe_bm PySem.F.plainAttrs_list PySem.F.slot_list_pop PySem.F.type_list_pop mt_popAt (pv 2) (pa_cons (pcl OD hr (pa_cons (pv 0) (pa_cons (pe_callB call_len_seq (by rfl) T.f_len (by decide +kernel) (pa_cons (pv 2) pa_nil)) pa_nil))) pa_nil)) pa_nil))))) (pss_one (ps_ret (pv 3))))), ?_⟩
    refine ⟨_, rfl, l, xs, rfl, .inl (SqL.of hl), fun L hL => ?_⟩
    have sL := same_upd (o := .lst xs) hL
    have hL1 : (upd H L (.lst xs)) L = some (.lst xs) := upd_same
    refine ⟨by decide, fun F hF => ?_⟩
    have sF := same_upd (o := .lst []) hF
    have hLF : L ≠ F := fun e => by subst e; rw [hL1] at hF; cases hF
    have hF0 : H F = none := (sL).free hF
    have hLp : L ≠ p := fun e => by
      subst e
      obtain ⟨_, _, _, e, _⟩ := hp
      rw [hL] at e; cases e
    have hFp : F ≠ p := fun e => by
      subst e
      obtain ⟨_, _, _, e, _⟩ := hp
      rw [hF0] at e; cases e
    refine ⟨_, _, rfl, ?_⟩
    refine while_by (fun σ H1 => ∃ ls fs : List V, σ = [some (.ref p), some (.ref l), some (.ref L), some (.ref F)] ∧ H1 L = some (.lst ls) ∧ H1 F = some (.lst fs) ∧ (fs ++ ls).Perm xs ∧ Off p H H1 ∧ PenAt H1 p (n + fs.length))
      (fun σ H1 => match H1 L with | some (.lst ls) => ls.length | _ => 0) ⟨xs, [], rfl, sF _ _ hL1, upd_same, .refl _, off_same (sL.trans sF), (hp.same (sL.trans sF)).mono (by omega)⟩ ?_ ?_
    · rintro σ H1 ⟨ls, fs, rfl, hL2, hF2, pm, of, pen⟩
      have hall : ∀ x ∈ ls, Itm H1 x := fun x hx => (hit x (pm.subset (List.mem_append_right _ hx))).off hp of
      have hlen : fs.length + ls.length = xs.length := by rw [← List.length_append, pm.length_eq]
      refine ⟨_, rfl, by decide, fun Z hZ => ?_⟩
      have sZ := same_upd (o := .lst []) hZ
      obtain ⟨ds, dd, dc, dz⟩ := itm_data (K := K) (H := upd H1 Z (.lst [])) (xs := ls) fun x hx => (hall x hx).off pen (off_same sZ)
      refine ⟨.list ds, .list [], .lst (SqL.of (sZ _ _ hL2)) dd, .lst (SqL.of upd_same) .nil, sh_list dc dz, sh_nil, _, rfl, ?_⟩
      rw [eqv_nil, ← dpAll_len dd]
      by_cases h0 : ls.length = 0
      · rw [decide_eq_true h0]
        refine iteF ?_
        have e0 : ls = [] := List.length_eq_zero_iff.mp h0
        subst e0
        rw [List.append_nil] at pm
        exact ⟨_, rfl, q F fs _ (of.trans (off_same sZ)) hF0 (sZ _ _ hF2) pm ((pen.same sZ).mono (by omega))⟩
      · rw [decide_eq_false h0]
        refine iteT ?_
        refine ⟨_, rfl, .inl ⟨rfl, _, SqL.of (sZ _ _ hF2)⟩, _, rfl, .inl ⟨rfl, _, SqL.of (sZ _ _ hL2)⟩, _, rfl, _, rfl, _, _, rfl, .inl (SqL.of (sZ _ _ hL2)), p, _, n + fs.length, rfl, by omega, by omega, by omega, pen.same sZ, fun d H2 d0 dm of2 pen2 => ?_⟩
        have hL3 := of2 _ _ hLp (sZ _ _ hL2)
        have hF3 := of2 _ _ hFp (sZ _ _ hF2)
        have hk : d.toNat < ls.length := by omega
        refine ⟨L, ls, d, d.toNat, ls[d.toNat], rfl, rfl, hL3, by omega, by omega, seqIx d0 dm, List.getElem?_eq_getElem hk, ?_⟩
        have hF4 : (upd H2 L (.lst (ls.eraseIdx d.toNat))) F = some (.lst fs) := by rw [upd_ne hLF.symm]; exact hF3
        refine ⟨F, fs, ls[d.toNat], rfl, rfl, hF4, by rw [sizeLine_eq]; omega, ?_⟩
        have hL5 : (upd (upd H2 L (.lst (ls.eraseIdx d.toNat))) F (.lst (fs ++ [ls[d.toNat]]))) L = some (.lst (ls.eraseIdx d.toNat)) := by rw [upd_ne hLF]; exact upd_same
        refine ⟨⟨ls.eraseIdx d.toNat, fs ++ [ls[d.toNat]], rfl, hL5, upd_same, pick_perm2 hk pm, ?_, ?_⟩, ?_⟩
        · intro b o hb e
          have h1 := of2 _ _ hb (sZ _ _ (of b o hb e))
          have n1 : b ≠ L := ne_of_none e hL
          have n2 : b ≠ F := ne_of_none e hF0
          rw [upd_ne n2, upd_ne n1]
          exact h1
        · obtain ⟨a, b, c, e, r⟩ := pen2
          refine PenAt.mono (n := n + fs.length + 1) ⟨a, b, c, ?_, r⟩ (by rw [List.length_append, List.length_singleton]; omega)
          rw [upd_ne hFp.symm, upd_ne hLp.symm]
          exact e
        · rw [hL5, hL2]
          show (ls.eraseIdx d.toNat).length < ls.length
          rw [List.length_eraseIdx]
          split <;> omega
    · rintro σ H Q Q' m ⟨v, e, z, f⟩
      refine ⟨v, e, z, fun p hp => ?_⟩
      obtain ⟨d1, d2, a1, a2, a3, a4, b, eb, q⟩ := f p hp
      exact ⟨d1, d2, a1, a2, a3, a4, b, eb, m _ _ q⟩
end
end CA
set_option Elab.async false
set_option linter.all false
set_option maxRecDepth 100000
set_option maxHeartbeats 1000000
namespace CA
open PySem PySem.Spec PyProof.Rows L2 TL
/-! ### drawn -/
theorem digs_of {ys : List V} (pm : ys.Perm (rgV 0 10)) : ∃ ns : List Int, ys = ns.map V.int ∧ ns.length = 10 ∧ ∀ z ∈ ns, 0 ≤ z ∧ z ≤ 9 := by
  have hm : ∀ y ∈ ys, ∃ z : Int, y = .int z ∧ 0 ≤ z ∧ z ≤ 9 := fun y hy => by
    have h := pm.mem_iff.mp hy
    unfold rgV at h
    obtain ⟨i, hi, e⟩ := List.mem_map.mp h
    have hi2 : i < 10 := List.mem_range.mp hi
    exact ⟨_, e.symm, by omega, by omega⟩
  obtain ⟨ns, rfl⟩ := all_int (ys := ys) fun i y hy => (hm y (List.mem_of_getElem? hy)).elim fun z h => ⟨z, h.1⟩
  refine ⟨ns, rfl, ?_, fun z hz => ?_⟩
  · have := pm.length_eq
    rw [List.length_map, rgV_length] at this
    exact this
  · obtain ⟨z', e, h⟩ := hm (.int z) (List.mem_map.mpr ⟨z, hz, rfl⟩)
    cases e
    exact h
theorem cut_take {ns : List Int} {k : Int} (h1 : 1 ≤ k) (h8 : k ≤ 8) (hl : ns.length = 10) : cutV (ns.map V.int) none (some k) = (ns.take k.toNat).map V.int := by
  have e : HT.sIx 10 10 (some k) = k.toNat := by
    show (if k < 0 then _ else min k.toNat 10) = _
    rw [if_neg (by omega)]
    omega
  unfold cutV
  rw [List.length_map, hl, e, List.map_take] <;> rfl
theorem pick7 {d : Int} (h0 : 0 ≤ d) (h : d < 7) : ∃ k : Int, atI [V.int 1, V.int 2, V.int 2, V.int 3, V.int 3, V.int 4, V.int 8] d = some (.int k) ∧ 1 ≤ k ∧ k ≤ 8 := by
  have : d = 0 ∨ d = 1 ∨ d = 2 ∨ d = 3 ∨ d = 4 ∨ d = 5 ∨ d = 6 := by omega
  rcases this with rfl | rfl | rfl | rfl | rfl | rfl | rfl
  · exact ⟨1, rfl, by omega, by omega⟩
  · exact ⟨2, rfl, by omega, by omega⟩
  · exact ⟨2, rfl, by omega, by omega⟩
  · exact ⟨3, rfl, by omega, by omega⟩
  · exact ⟨3, rfl, by omega, by omega⟩
  · exact ⟨4, rfl, by omega, by omega⟩
  · exact ⟨8, rfl, by omega, by omega⟩
def isWd (z : Str) : Prop := z = "A" ∨ z = "AB" ∨ z = "AAB" ∨ z = "BCA"
theorem pick4 {d : Int} (h0 : 0 ≤ d) (h : d < 4) : ∃ z : Str, atI [V.str "A", V.str "AB", V.str "AAB", V.str "BCA"] d = some (.str z) ∧ isWd z := by
  have : d = 0 ∨ d = 1 ∨ d = 2 ∨ d = 3 := by omega
  rcases this with rfl | rfl | rfl | rfl
  · exact ⟨_, rfl, .inl rfl⟩
  · exact ⟨_, rfl, .inr (.inl rfl)⟩
  · exact ⟨_, rfl, .inr (.inr (.inl rfl))⟩
  · exact ⟨_, rfl, .inr (.inr (.inr rfl))⟩
theorem wd_len {z : Str} (h : isWd z) : 1 ≤ z.length ∧ z.length ≤ 3 := by
  rcases h with rfl | rfl | rfl | rfl <;> decide +kernel
theorem atI_cps {xs : List Nat} {i : Int} (h0 : 0 ≤ i) (h : i < (xs.length : Nat)) : atI xs i = xs[i.toNat]? := by
  unfold atI ixN
  rw [if_pos h0, if_pos h] <;> rfl
theorem wd_at {z : Str} (h : isWd z) {d : Int} (h0 : 0 ≤ d) (hd : d < (z.length : Nat)) : ∃ c, atI z.cps.toList d = some c ∧ isKind ⟨#[c]⟩ := by
  rcases h with rfl | rfl | rfl | rfl
  · have e : ("A" : Str) = ⟨#[65]⟩ := by decide +kernel
    rw [e] at hd ⊢
    have : d = 0 := by
      have : d < 1 := hd
      omega
    subst this
    exact ⟨65, rfl, .inl (by decide +kernel)⟩
  · have e : ("AB" : Str) = ⟨#[65, 66]⟩ := by decide +kernel
    rw [e] at hd ⊢
    have : d = 0 ∨ d = 1 := by
      have : d < 2 := hd
      omega
    rcases this with rfl | rfl
    · exact ⟨65, rfl, .inl (by decide +kernel)⟩
    · exact ⟨66, rfl, .inr (.inl (by decide +kernel))⟩
  · have e : ("AAB" : Str) = ⟨#[65, 65, 66]⟩ := by decide +kernel
    rw [e] at hd ⊢
    have : d = 0 ∨ d = 1 ∨ d = 2 := by
      have : d < 3 := hd
      omega
    rcases this with rfl | rfl | rfl
    · exact ⟨65, rfl, .inl (by decide +kernel)⟩
    · exact ⟨65, rfl, .inl (by decide +kernel)⟩
    · exact ⟨66, rfl, .inr (.inl (by decide +kernel))⟩
  · have e : ("BCA" : Str) = ⟨#[66, 67, 65]⟩ := by decide +kernel
    rw [e] at hd ⊢
    have : d = 0 ∨ d = 1 ∨ d = 2 := by
      have : d < 3 := hd
      omega
    rcases this with rfl | rfl | rfl
    · exact ⟨66, rfl, .inr (.inl (by decide +kernel))⟩
    · exact ⟨67, rfl, .inr (.inr (by decide +kernel))⟩
    · exact ⟨65, rfl, .inl (by decide +kernel)⟩
theorem pen_ne {H H1 : Hp} {p L : Addr} {n : Nat} (h : PenAt H p n) (s : H L = none) : L ≠ p := fun e => by
  subst e
  obtain ⟨_, _, _, e, _⟩ := h
  rw [s] at e; cases e
theorem Lay.off {H H' : Hp} {p : Addr} {n : Nat} {es : En (At Str)} (h : Lay aV H es) (hp : PenAt H p n) (o : Off p H H') : Lay aV H' es := fun q hq => o.pen hp (h q hq)
theorem at_ints {ns : List Int} {d : Int} (h0 : 0 ≤ d) (h : d < ((ns.map V.int).length : Nat)) : ∃ z, z ∈ ns ∧ atI (ns.map V.int) d = some (.int z) := by
  have hi : d.toNat < ns.length := by
    rw [List.length_map] at h
    omega
  refine ⟨ns[d.toNat], List.getElem_mem hi, ?_⟩
  rw [atI_nn h0 h, List.getElem?_map, List.getElem?_eq_getElem hi] <;> rfl
theorem at_refs {α : Type} {es : En α} {d : Int} (h0 : 0 ≤ d) (h : d < ((refs es).length : Nat)) : ∃ q, q ∈ es ∧ atI (refs es) d = some (.ref q.1) := by
  have hi : d.toNat < es.length := by
    rw [refs_len] at h
    omega
  refine ⟨es[d.toNat], List.getElem_mem hi, ?_⟩
  unfold refs at h ⊢
  rw [atI_nn h0 h, List.getElem?_map, List.getElem?_eq_getElem hi] <;> rfl
def sp_drawn : Sp := fun vs H Q _ => ∃ (p : Addr) (n : Nat), vs = [.ref p, .int 4] ∧ PenAt H p n ∧ n + 40 < 100000 ∧
  ∀ (f : Addr) (es : En (At Str)) H', Off p H H' → H f = none → H' f = some (.lst (refs es)) → Lay aV H' es → (∀ q ∈ es, OkA q.2) → 1 ≤ es.length → es.length ≤ 4 → PenAt H' p (n + 40) → Q (.ref f) H'
section
variable {P : Program} {w : World} {K : PySem.W.Frag} {mg : Str → Option Value} {base : Heap}

theorem sc__law_drawn : FnScope ["_law_pen_here", "_law_most", "_law_count", "_law_some", "_law_names_here", "_law_words", "_law_found", "_law_turn", "_law_word"] ["_law_pen_here", "_law_most"] (defScope s__law_drawn) := ⟨rfl, rfl, rfl, by decide +kernel, rfl, by decide +kernel, by decide +kernel⟩
theorem ok__law_drawn (T : Txt K mg) : Ok P w K mg base 3 "_law_drawn" ["_law_pen_here", "_law_most"] sp_drawn := by
  have S := sc__law_drawn
  have OD : Ok P w K mg base 1 "_law_draw" ["_law_pen_here", "_law_many"] sp_draw := ok__law_draw T
  have OM : Ok P w K mg base 2 "_law_mixed" ["_law_pen_here", "_law_things"] sp_mixed := ok__law_mixed T
  refine mkOk T.d__law_drawn S (fun _ _ _ _ _ _ us hl => match us, hl with | [_, _], _ => rfl) (fun vs H Q E h => ?_) (fun cdv A outer s H vs Q E hr h => ?_)
  · obtain ⟨p, n, rfl, _⟩ := h
    rfl
  · obtain ⟨p, n, rfl, hp, hn, q⟩ := h
    have hu64 := (un64 hr)
    refine ⟨_, (pss_cons (ps_par (i := 2) (j := 3) (by rfl) S.nd rfl rfl (by decide) rfl rfl (pa_cons (pe_op op_add pe_int (pcl OD (hr.mono (by decide)) (pa_cons (pv 0) (pa_cons (pv 1) pa_nil)))) (pa_cons (pcl OM (hr.mono (by decide)) (pa_cons (pv 0) (pa_cons (pe_listRg rfl (by rfl) T.f_list (prg_1 (by rfl) T.f_range pe_int)) pa_nil))) pa_nil)) (by rfl)) (pss_cons (ps_set (i := 4) S.nd rfl (.inl rfl) (pe_slice sl_list (pv 3) po_none (po_some (pe_ix ix_list (pe_lst (pa_cons pe_int (pa_cons pe_int (pa_cons pe_int (pa_cons pe_int (pa_cons pe_int (pa_cons pe_int (pa_cons pe_int pa_nil)))))))) (pcl OD (hr.mono (by decide)) (pa_cons (pv 0) (pa_cons pe_int pa_nil))) (fun _ _ => rfl))))) (pss_cons (ps_set (i := 5) S.nd rfl (.inl rfl) (pe_ix ix_list (pe_lst (pa_cons pe_str (pa_cons pe_str (pa_cons pe_str (pa_cons pe_str pa_nil))))) (pcl OD (hr.mono (by decide)) (pa_cons (pv 0) (pa_cons pe_int pa_nil))) (fun _ _ => rfl))) (pss_cons (ps_set (i := 6) S.nd rfl (.inl rfl) (pe_lst pa_nil)) (pss_cons (ps_for PassesOwn.never rfl (pi_range1 (by rfl) T.f_range (pa_cons (pv 2) pa_nil)) (pg_name (i := 7) S.nd rfl (Or.inl rfl)) (pss_one (ps_if (PW.pt (pw_and (pt_cmpR (op_neD hu64) (pv 6) (pe_lst pa_nil) (nomark _)) (pw_and1 (pt_cmpR op_eq (pcl OD (hr.mono (by decide)) (pa_cons (pv 0) (pa_cons pe_int pa_nil))) pe_int (nomark _))))) (pss_one (ps_expr (pe_bm PySem.F.plainAttrs_list PySem.F.slot_list_append PySem.F.type_list_append mt_append (pv 6) (pa_cons (pe_ix ix_list (pv 6) (pcl OD (hr.mono (by decide)) (pa_cons (pv 0) (pa_cons (pe_callB call_len_seq (by rfl) T.f_len (by decide +kernel) (pa_cons (pv 6) pa_nil)) pa_nil))) (fun _ _ => rfl)) pa_nil)))) (pss_cons (ps_set (i := 8) S.nd rfl (.inl rfl) (pe_ix ix_str (pv 5) (pcl OD (hr.mono (by decide)) (pa_cons (pv 0) (pa_cons (pe_callB call_len_str (by rfl) T.f_len (by decide +kernel) (pa_cons (pv 5) pa_nil)) pa_nil))) (fun _ _ => rfl))) (pss_one (ps_expr (pe_bm PySem.F.plainAttrs_list PySem.F.slot_list_append PySem.F.type_list_append mt_append (pv 6) (pa_cons (pe_tup (pa_cons (pv 8) (pa_cons (pe_ix ix_list (pv 4) (pcl OD (hr.mono (by decide)) (pa_cons (pv 0) (pa_cons (pe_callB call_len_seq (by rfl) T.f_len (by decide +kernel) (pa_cons (pv 4) pa_nil)) pa_nil))) (fun _ _ => rfl)) (pa_cons (pe_ix ix_list (pv 4) (pcl OD (hr.mono (by decide)) (pa_cons (pv 0) (pa_cons (pe_callB call_len_seq (by rfl) T.f_len (by decide +kernel) (pa_cons (pv 4) pa_nil)) pa_nil))) (fun _ _ => rfl)) pa_nil)))) pa_nil)))))))) (pss_one (ps_ret (pv 6)))))))), ?_⟩
    refine ⟨_, rfl, _, rfl, p, _, n, rfl, by decide, by decide, by omega, hp, fun d0 H1 d00 d0m of1 pen1 => ?_⟩
    refine ⟨_, _, rfl, rfl, _, rfl, _, rfl, RgOk.of_le (by decide) (by decide) (by decide) (by decide), fun R hR => ?_⟩
    have sR := same_upd (o := .lst (rgV 0 10)) hR
    refine ⟨p, R, rgV 0 10, _, rfl, upd_same, by rw [rgV_length]; decide, fun x hx => ?_, pen1.same sR, by omega, fun Y ys H2 of2 hY hY2 pm pen2 => ?_⟩
    · unfold rgV at hx
      obtain ⟨i, _, rfl⟩ := List.mem_map.mp hx
      exact .inl ⟨_, rfl⟩
    obtain ⟨ns0, rfl, hn10, hd0⟩ := digs_of pm
    have of12 : Off p H H2 := of1.trans ((off_same sR).trans of2)
    refine ⟨_, _, rfl, ?_⟩
    refine ⟨_, rfl, (show (7 : Nat) ≤ sizeLine by decide), fun Z hZ => ?_⟩
    have sZ := same_upd (o := .lst [.int 1, .int 2, .int 2, .int 3, .int 3, .int 4, .int 8]) hZ
    have hZp := pen_ne (H1 := H2) pen2 hZ
    refine ⟨_, rfl, p, _, _, rfl, by decide, by decide, ?_, pen2.same sZ, fun d7 H3 d70 d7m of3 pen3 => ?_⟩
    · omega
    obtain ⟨k7, ek7, k71, k78⟩ := pick7 d70 d7m
    refine ⟨Z, _, d7, V.int k7, rfl, rfl, SqL.of (of3 _ _ hZp upd_same), ek7, _, rfl, ?_⟩
    have hYp : Y ≠ p := pen_ne (H1 := H2) (pen1.same sR) hY
    refine ⟨Y, _, rfl, SqL.of (of3 _ _ hYp (sZ _ _ hY2)), fun Nm hNm => ?_⟩
    rw [cut_take k71 k78 hn10]
    have sNm := same_upd (o := .lst ((ns0.take k7.toNat).map V.int)) hNm
    have hNmp : Nm ≠ p := pen_ne (H1 := H2) pen3 hNm
    have hns : ∀ z ∈ ns0.take k7.toNat, 0 ≤ z ∧ z ≤ 9 := fun z hz => hd0 z (List.mem_of_mem_take hz)
    have hnl : (ns0.take k7.toNat).length = k7.toNat := by rw [List.length_take]; omega
    generalize hgn : ns0.take k7.toNat = ns at hns hnl sNm
    have of13 : Off p H H3 := of12.trans ((off_same sZ).trans of3)
    refine ⟨(show (4 : Nat) ≤ sizeLine by decide), fun W4 hW4 => ?_⟩
    have sW4 := same_upd (o := .lst [.str "A", .str "AB", .str "AAB", .str "BCA"]) hW4
    have pen3b := (pen3.same sNm).same sW4
    have hW4p := pen_ne (H1 := H2) (pen3.same sNm) hW4
    refine ⟨_, rfl, p, _, _, rfl, by decide, by decide, ?_, pen3b, fun d4 H4 d40 d4m of4 pen4 => ?_⟩
    · omega
    obtain ⟨wd, ewd, hw⟩ := pick4 d40 d4m
    refine ⟨W4, _, d4, V.str wd, rfl, rfl, SqL.of (of4 _ _ hW4p upd_same), ewd, ?_⟩
    refine ⟨by decide, fun F hF => ?_⟩
    have sF := same_upd (o := .lst []) hF
    have hFp : F ≠ p := pen_ne (H1 := H2) pen4 hF
    have of14 : Off p H H4 := of13.trans ((off_same sNm).trans ((off_same sW4).trans of4))
    have hNm4 : H4 Nm = some (.lst (ns.map V.int)) := of4 _ _ hNmp (sW4 _ _ upd_same)
    have hFN : F ≠ Nm := (fun e => by rw [e, hNm4] at hF; cases hF)
    have hF0 : H F = none := by
      cases e : H F with
      | none => rfl
      | some o => rw [of14 _ _ hFp e] at hF; cases hF
    refine ⟨_, rfl, _, rfl, by omega, by omega, ?_⟩
    refine for_range (fun i σ H5 => ∃ (es : En (At Str)) (tn wo : Option V), σ = [some (.ref p), some (.int 4), some (.int (1 + d0)), some (.ref Y), some (.ref Nm), some (.str wd), some (.ref F), tn, wo] ∧ H5 F = some (.lst (refs es)) ∧ Lay aV H5 es ∧ (∀ q ∈ es, OkA q.2) ∧ es.length = i ∧ Off p H H5 ∧ PenAt H5 p (n + 13 + 4 * i) ∧ H5 Nm = some (.lst (ns.map V.int)))
      ⟨[], none, none, rfl, upd_same, (fun q hq => absurd hq List.not_mem_nil), (fun q hq => absurd hq List.not_mem_nil), rfl, of14.trans (off_same sF), (pen4.same sF).mono (by omega), sF _ _ hNm4⟩ ?_ ?_
    · rintro i σ H5 hi ⟨es, tn, wo, rfl, hF5, hl5, hok, hlen, of15, pen5, hNm5⟩
      have hi4 : i < 4 := by omega
      refine ⟨_, rfl, by decide, fun V1 hV1 => ?_⟩
      have sV := same_upd (o := .lst []) hV1
      have hlV := hl5.same sV
      refine ⟨.list ((es.map (·.2)).map keyD), .list [], .lst (SqL.of (sV _ _ hF5)) (dp_keys hlV), .lst (SqL.of upd_same) .nil, sh_keys_l (fun a ha => ?_), sh_nil, !decide (es.length = 0), congrArg V.bl (by rw [eqv_nil, List.length_map, List.length_map]), ?_⟩
      · obtain ⟨q, hq, rfl⟩ := List.mem_map.mp ha
        exact (hok q hq).1
      have ofV := of15.trans (off_same sV)
      have penV := pen5.same sV
      have hFV := sV _ _ hF5
      have hNmV := sV _ _ hNm5
      by_cases h0 : es.length = 0
      · rw [decide_eq_true h0]
        refine iteF (iteF ?_)
        refine ⟨_, rfl, _, rfl, _, rfl, _, rfl, by have := (wd_len hw).2; rw [sizeLine_eq]; omega, p, _, _, rfl, by have := (wd_len hw).1; omega, by have := (wd_len hw).2; omega, ?_, penV, fun d1 H3 d10 d1m of3 pen3 => ?_⟩
        · omega
        obtain ⟨c, hc, kc⟩ := wd_at hw d10 d1m
        have hF3 := of3 _ _ hFp hFV
        have hNm3 := of3 _ _ hNmp hNmV
        have hl3 := hlV.off penV of3
        refine ⟨_, _, c, rfl, rfl, by have := (wd_len hw).2; rw [sizeLine_eq]; omega, hc, ?_⟩
        refine ⟨_, rfl, .inl ⟨rfl, _, SqL.of hF3⟩, _, rfl, _, rfl, _, rfl, _, rfl, _, _, rfl, .inl (SqL.of hNm3), p, _, _, rfl, by rw [List.length_map]; omega, by rw [List.length_map]; omega, ?_, pen3, fun d2 H4 d20 d2m of4 pen4 => ?_⟩
        · omega
        obtain ⟨z1, hz1, ez1⟩ := at_ints d20 d2m
        have hF4 := of4 _ _ hFp hF3
        have hNm4 := of4 _ _ hNmp hNm3
        have hl4 := hl3.off pen3 of4
        refine ⟨_, _, _, V.int z1, rfl, rfl, SqL.of hNm4, ez1, _, rfl, _, rfl, _, rfl, _, _, rfl, .inl (SqL.of hNm4), p, _, _, rfl, by rw [List.length_map]; omega, by rw [List.length_map]; omega, ?_, pen4, fun d3 H5 d30 d3m of5 pen5 => ?_⟩
        · omega
        obtain ⟨z2, hz2, ez2⟩ := at_ints d30 d3m
        have hF5 := of5 _ _ hFp hF4
        have hNm5 := of5 _ _ hNmp hNm4
        have hl5 := hl4.off pen4 of5
        refine ⟨_, _, _, V.int z2, rfl, rfl, SqL.of hNm5, ez2, (show (3 : Nat) ≤ sizeLine by decide), fun t ht => ?_⟩
        have st := same_upd (o := .tup [.str ⟨#[c]⟩, .int z1, .int z2]) ht
        refine ⟨F, refs es, .ref t, rfl, rfl, st _ _ hF5, by rw [refs_len, sizeLine_eq]; omega, ?_⟩
        have ofA : Off p H (upd H5 t (.tup [.str ⟨#[c]⟩, .int z1, .int z2])) := ofV.trans (of3.trans (of4.trans (of5.trans (off_same st))))
        refine ⟨es ++ [(t, (⟨#[c]⟩, z1, z2))], _, _, rfl, ?_, ?_, ?_, ?_, ?_, ?_, ?_⟩
        · rw [upd_same]
          show _ = some (HO.lst (refs (es ++ [_])))
          unfold refs
          rw [List.map_append] <;> rfl
        · intro q hq
          have hne : ∀ b xs, (upd H5 t (.tup [.str ⟨#[c]⟩, .int z1, .int z2])) b = some (HO.tup xs) → b ≠ F := fun b xs e => ne_of e (st _ _ hF5) (by intro z; cases z)
          rcases List.mem_append.mp hq with hq | hq
          · have e := st _ _ (hl5 q hq)
            rw [upd_ne (hne _ _ e)]
            exact e
          · rw [List.mem_singleton.mp hq]
            have e : (upd H5 t (.tup [.str ⟨#[c]⟩, .int z1, .int z2])) t = some (.tup (aV (⟨#[c]⟩, z1, z2))) := upd_same
            rw [upd_ne (hne _ _ e)]
            exact e
        · intro q hq
          rcases List.mem_append.mp hq with hq | hq
          · exact hok q hq
          · rw [List.mem_singleton.mp hq]
            exact ⟨kc, (hns z1 hz1).1, (hns z1 hz1).2, (hns z2 hz2).1, (hns z2 hz2).2⟩
        · rw [List.length_append, List.length_singleton, hlen]
        · intro b o hb e
          rw [upd_ne (ne_of_none e hF0)]
          exact ofA b o hb e
        · obtain ⟨a', b', c', e, r⟩ := pen5.same st
          refine PenAt.mono ⟨a', b', c', ?_, r⟩ (by omega)
          rw [upd_ne hFp.symm]
          exact e
        · rw [upd_ne hFN.symm]
          exact st _ _ hNm5
      · rw [decide_eq_false h0]
        refine iteT ?_
        refine ⟨_, rfl, p, _, _, rfl, by decide, by decide, ?_, penV, fun d6 H6 d60 d6m of6 pen6 => ?_⟩
        · omega
        have hF6 := of6 _ _ hFp hFV
        have hNm6 := of6 _ _ hNmp hNmV
        have hl6 := hlV.off penV of6
        have of16 := ofV.trans of6
        refine ⟨rfl, decide (V.int d6 = V.int 0), rfl, ?_⟩
        by_cases h6 : V.int d6 = V.int 0
        · rw [decide_eq_true h6]
          refine iteT ?_
          refine ⟨_, rfl, .inl ⟨rfl, _, SqL.of hF6⟩, _, rfl, _, rfl, _, rfl, _, _, rfl, .inl (SqL.of hF6), p, _, _, rfl, by rw [refs_len]; omega, by rw [refs_len]; omega, ?_, pen6, fun d8 H7 d80 d8m of7 pen7 => ?_⟩
          · omega
          obtain ⟨qq, hq, eq⟩ := at_refs d80 d8m
          have hF7 := of7 _ _ hFp hF6
          have hNm7 := of7 _ _ hNmp hNm6
          have hl7 := hl6.off pen6 of7
          refine ⟨_, _, _, _, rfl, rfl, SqL.of hF7, eq, F, refs es, _, rfl, rfl, hF7, by rw [refs_len, sizeLine_eq]; omega, ?_⟩
          refine ⟨es ++ [qq], _, _, rfl, ?_, ?_, ?_, ?_, ?_, ?_, ?_⟩
          · rw [upd_same]
            show _ = some (HO.lst (refs (es ++ [_])))
            unfold refs
            rw [List.map_append] <;> rfl
          · intro r hr
            have e : H7 r.1 = some (.tup (aV r.2)) := by
              rcases List.mem_append.mp hr with hr | hr
              · exact hl7 r hr
              · rw [List.mem_singleton.mp hr]
                exact hl7 qq hq
            rw [upd_ne (ne_of e hF7 (by intro z; cases z))]
            exact e
          · intro r hr
            rcases List.mem_append.mp hr with hr | hr
            · exact hok r hr
            · rw [List.mem_singleton.mp hr]
              exact hok qq hq
          · rw [List.length_append, List.length_singleton, hlen]
          · intro b o hb e
            rw [upd_ne (ne_of_none e hF0)]
            exact (of16.trans of7) b o hb e
          · obtain ⟨a', b', c', e, r⟩ := pen7
            refine PenAt.mono ⟨a', b', c', ?_, r⟩ (by omega)
            rw [upd_ne hFp.symm]
            exact e
          · rw [upd_ne hFN.symm]
            exact hNm7
        · rw [decide_eq_false h6]
          refine iteF ?_
          refine ⟨_, rfl, _, rfl, _, rfl, _, rfl, by have := (wd_len hw).2; rw [sizeLine_eq]; omega, p, _, _, rfl, by have := (wd_len hw).1; omega, by have := (wd_len hw).2; omega, ?_, pen6, fun d1 H3 d10 d1m of3 pen3 => ?_⟩
          · omega
          obtain ⟨c, hc, kc⟩ := wd_at hw d10 d1m
          have hF3 := of3 _ _ hFp hF6
          have hNm3 := of3 _ _ hNmp hNm6
          have hl3 := hl6.off pen6 of3
          refine ⟨_, _, c, rfl, rfl, by have := (wd_len hw).2; rw [sizeLine_eq]; omega, hc, ?_⟩
          refine ⟨_, rfl, .inl ⟨rfl, _, SqL.of hF3⟩, _, rfl, _, rfl, _, rfl, _, rfl, _, _, rfl, .inl (SqL.of hNm3), p, _, _, rfl, by rw [List.length_map]; omega, by rw [List.length_map]; omega, ?_, pen3, fun d2 H4 d20 d2m of4 pen4 => ?_⟩
          · omega
          obtain ⟨z1, hz1, ez1⟩ := at_ints d20 d2m
          have hF4 := of4 _ _ hFp hF3
          have hNm4 := of4 _ _ hNmp hNm3
          have hl4 := hl3.off pen3 of4
          refine ⟨_, _, _, V.int z1, rfl, rfl, SqL.of hNm4, ez1, _, rfl, _, rfl, _, rfl, _, _, rfl, .inl (SqL.of hNm4), p, _, _, rfl, by rw [List.length_map]; omega, by rw [List.length_map]; omega, ?_, pen4, fun d3 H5 d30 d3m of5 pen5 => ?_⟩
          · omega
          obtain ⟨z2, hz2, ez2⟩ := at_ints d30 d3m
          have hF5 := of5 _ _ hFp hF4
          have hNm5 := of5 _ _ hNmp hNm4
          have hl5 := hl4.off pen4 of5
          refine ⟨_, _, _, V.int z2, rfl, rfl, SqL.of hNm5, ez2, (show (3 : Nat) ≤ sizeLine by decide), fun t ht => ?_⟩
          have st := same_upd (o := .tup [.str ⟨#[c]⟩, .int z1, .int z2]) ht
          refine ⟨F, refs es, .ref t, rfl, rfl, st _ _ hF5, by rw [refs_len, sizeLine_eq]; omega, ?_⟩
          have ofA : Off p H (upd H5 t (.tup [.str ⟨#[c]⟩, .int z1, .int z2])) := of16.trans (of3.trans (of4.trans (of5.trans (off_same st))))
          refine ⟨es ++ [(t, (⟨#[c]⟩, z1, z2))], _, _, rfl, ?_, ?_, ?_, ?_, ?_, ?_, ?_⟩
          · rw [upd_same]
            show _ = some (HO.lst (refs (es ++ [_])))
            unfold refs
            rw [List.map_append] <;> rfl
          · intro q hq
            have hne : ∀ b xs, (upd H5 t (.tup [.str ⟨#[c]⟩, .int z1, .int z2])) b = some (HO.tup xs) → b ≠ F := fun b xs e => ne_of e (st _ _ hF5) (by intro z; cases z)
            rcases List.mem_append.mp hq with hq | hq
            · have e := st _ _ (hl5 q hq)
              rw [upd_ne (hne _ _ e)]
              exact e
            · rw [List.mem_singleton.mp hq]
              have e : (upd H5 t (.tup [.str ⟨#[c]⟩, .int z1, .int z2])) t = some (.tup (aV (⟨#[c]⟩, z1, z2))) := upd_same
              rw [upd_ne (hne _ _ e)]
              exact e
          · intro q hq
            rcases List.mem_append.mp hq with hq | hq
            · exact hok q hq
            · rw [List.mem_singleton.mp hq]
              exact ⟨kc, (hns z1 hz1).1, (hns z1 hz1).2, (hns z2 hz2).1, (hns z2 hz2).2⟩
          · rw [List.length_append, List.length_singleton, hlen]
          · intro b o hb e
            rw [upd_ne (ne_of_none e hF0)]
            exact ofA b o hb e
          · obtain ⟨a', b', c', e, r⟩ := pen5.same st
            refine PenAt.mono ⟨a', b', c', ?_, r⟩ (by omega)
            rw [upd_ne hFp.symm]
            exact e
          · rw [upd_ne hFN.symm]
            exact st _ _ hNm5
    · rintro σ H5 ⟨es, tn, wo, rfl, hF5, hl5, hok, hlen, of15, pen5, hNm5⟩
      exact ⟨_, rfl, q F es H5 of15 hF0 hF5 hl5 hok (by omega) (by omega) (pen5.mono (by omega))⟩
end
end CA
set_option Elab.async false
set_option linter.all false
set_option maxRecDepth 100000
set_option maxHeartbeats 1000000
namespace CA
open PySem PySem.Spec PyProof.Rows L2 TL
/-! ### renamed, near, text -/
theorem en_ex {H : Hp} : ∀ {ys : List V}, (∀ y ∈ ys, ∃ b, OkA b ∧ ∃ t, y = .ref t ∧ H t = some (.tup (aV b))) → ∃ es : En (At Str), ys = refs es ∧ Lay aV H es ∧ ∀ q ∈ es, OkA q.2
  | [], _ => ⟨[], rfl, (fun p hp => absurd hp List.not_mem_nil), (fun p hp => absurd hp List.not_mem_nil)⟩
  | y :: ys, h => by
    obtain ⟨b, ob, t, ey, ht⟩ := h y List.mem_cons_self
    obtain ⟨es, e1, e2, e3⟩ := en_ex (H := H) (ys := ys) fun z hz => h z (List.mem_cons_of_mem _ hz)
    refine ⟨(t, b) :: es, by rw [ey, e1]; rfl, fun p hp => ?_, fun p hp => ?_⟩
    · rcases List.mem_cons.mp hp with z | hp
      · rw [z]; exact ht
      · exact e2 p hp
    · rcases List.mem_cons.mp hp with z | hp
      · rw [z]; exact ob
      · exact e3 p hp
theorem first_at : ∀ {ns : List Int} {z : Int}, z ∈ ns → ∃ j : Nat, j < ns.length ∧ ns[j]? = some z ∧ ∀ m z', m < j → ns[m]? = some z' → z' ≠ z
  | x :: ns, z, h => by
    by_cases e : x = z
    · exact ⟨0, by simp, by simp [e], fun m z' hm => absurd hm (Nat.not_lt_zero m)⟩
    · obtain ⟨j, h0, h1, h2⟩ := first_at ((List.mem_cons.mp h).resolve_left fun q => e q.symm)
      refine ⟨j + 1, by rw [List.length_cons]; omega, h1, fun m z' hm hz => ?_⟩
      cases m with
      | zero =>
        have : x = z' := by simpa using hz
        rw [← this]
        exact e
      | succ m => exact h2 m z' (by omega) hz
theorem index_ex {ns : List Int} {z : Int} (hz : z ∈ ns) : ∃ j : Nat, j < ns.length ∧ (ns.map V.int).all flatV = true ∧ (ns.map V.int)[j]? = some (.int z) ∧ eqV (.int z) (.int z) = true ∧ ∀ (m : Nat) (z' : V), m < j → (ns.map V.int)[m]? = some z' → eqV z' (.int z) = false := by
  obtain ⟨j, h0, h1, h2⟩ := first_at hz
  refine ⟨j, h0, ?_, ?_, ?_, fun m z' hm h => ?_⟩
  · rw [List.all_eq_true]
    intro x hx
    obtain ⟨y, _, rfl⟩ := List.mem_map.mp hx
    rfl
  · rw [List.getElem?_map, h1] <;> rfl
  · exact beq_self_eq_true z
  · rw [List.getElem?_map] at h
    cases e : ns[m]? with
    | none => rw [e] at h; cases h
    | some y =>
      rw [e] at h
      obtain rfl : V.int y = z' := Option.some.inj h
      exact beq_eq_false_iff_ne.mpr (h2 m y hm e)
theorem map_erase {α β : Type} (f : α → β) (l : List α) (k : Nat) : (l.map f).eraseIdx k = (l.eraseIdx k).map f := by
  rw [List.eraseIdx_eq_take_drop_succ, List.eraseIdx_eq_take_drop_succ, List.map_append, List.map_take, List.map_drop]
theorem set_lay {H : Hp} {F t : Addr} {es : En (At Str)} {a : At Str} {j : Nat} {xs : List V} {o : HO} (hF : H F = some (.lst xs)) (hl : Lay aV H es) (ht : H t = some (.tup (aV a))) : Lay aV (upd H F o) (es.set j (t, a)) := by
  intro q hq
  have e : H q.1 = some (.tup (aV q.2)) := by
    rcases List.mem_or_eq_of_mem_set hq with h | h
    · exact hl q h
    · rw [h]; exact ht
  rw [upd_ne (ne_of e hF (by intro z; cases z))]
  exact e
theorem set_ok {es : En (At Str)} {t : Addr} {a : At Str} {j : Nat} (hok : ∀ q ∈ es, OkA q.2) (ha : OkA a) : ∀ q ∈ es.set j (t, a), OkA q.2 := by
  intro q hq
  rcases List.mem_or_eq_of_mem_set hq with h | h
  · exact hok q h
  · rw [h]; exact ha
theorem refs_set {α : Type} (es : En α) (j : Nat) (q : Addr × α) : (refs es).set j (.ref q.1) = refs (es.set j q) := by
  unfold refs
  rw [List.map_set]
theorem off_new {H H' : Hp} {p F : Addr} {o : HO} (of : Off p H H') (hF : H F = none) : Off p H (upd H' F o) := fun b u hb e => by
  rw [upd_ne (ne_of_none e hF)]
  exact of b u hb e
theorem pen_new {H : Hp} {p F : Addr} {n : Nat} {o : HO} (h : PenAt H p n) (hF : F ≠ p) : PenAt (upd H F o) p n := by
  obtain ⟨a, b, c, e, r⟩ := h
  exact ⟨a, b, c, by rw [upd_ne hF.symm]; exact e, r⟩
theorem off_none {H H' : Hp} {p F : Addr} (of : Off p H H') (hp : F ≠ p) (h : H' F = none) : H F = none := by
  cases e : H F with
  | none => rfl
  | some o => rw [of _ _ hp e] at h; cases h
theorem ix_nn {n : Nat} {i : Int} (h0 : 0 ≤ i) (h : i < (n : Int)) : ixN n i = some i.toNat := by
  unfold ixN
  rw [if_pos h0, if_pos h]
theorem bca : isWd "BCA" := .inr (.inr (.inr rfl))
def NearMid (H : Hp) (p : Addr) (n : Nat) (σ : L2.St) (H' : Hp) : Prop := ∃ (F : Addr) (es : En (At Str)), σ[2]? = some (some (.ref F)) ∧ H F = none ∧ H' F = some (.lst (refs es)) ∧ Lay aV H' es ∧ (∀ q ∈ es, OkA q.2) ∧ 1 ≤ es.length ∧ es.length ≤ 4 ∧ Off p H H' ∧ PenAt H' p (n + 80)
def sp_renamed : Sp := fun vs H Q _ => ∃ (p l : Addr) (es : En (At Str)) (n : Nat), vs = [.ref p, .ref l] ∧ H l = some (.lst (refs es)) ∧ Lay aV H es ∧ (∀ q ∈ es, OkA q.2) ∧ es.length ≤ 4 ∧ PenAt H p n ∧ n + 20 < 100000 ∧
  ∀ (f : Addr) (es' : En (At Str)) H', Off p H H' → H f = none → H' f = some (.lst (refs es')) → Lay aV H' es' → (∀ q ∈ es', OkA q.2) → es'.length = es.length → PenAt H' p (n + 20) → Q (.ref f) H'
def sp_near : Sp := fun vs H Q _ => ∃ (p l : Addr) (es : En (At Str)) (n : Nat), vs = [.ref p, .ref l] ∧ H l = some (.lst (refs es)) ∧ Lay aV H es ∧ (∀ q ∈ es, OkA q.2) ∧ 1 ≤ es.length ∧ es.length ≤ 4 ∧ PenAt H p n ∧ n + 80 < 100000 ∧
  ∀ (f : Addr) (es' : En (At Str)) H', Off p H H' → H f = none → H' f = some (.lst (refs es')) → Lay aV H' es' → (∀ q ∈ es', OkA q.2) → 1 ≤ es'.length → es'.length ≤ 4 → PenAt H' p (n + 80) → Q (.ref f) H'
def sp_ltext : Sp := fun vs H Q _ => ∃ (l : Addr) (es : En (At Str)), vs = [.ref l] ∧ H l = some (.lst (refs es)) ∧ Lay aV H es ∧ (∀ q ∈ es, OkA q.2) ∧ es.length ≤ 4 ∧ ∀ H', Same H H' → Q (.str (qText (es.map (·.2)))) H'
theorem wd3 {a : At Str} (h : OkA a) : a.1.length + (dgS a.2.1).length ≤ 2 ∧ (a.1 ++ dgS a.2.1).length + (dgS a.2.2).length ≤ 3 := by
  obtain ⟨h1, h2, h3, h4, h5⟩ := h
  obtain ⟨c, ec, _, _⟩ := kind_at h1
  have lk : a.1.length = 1 := by rw [ec] <;> rfl
  have l1 : (dgS a.2.1).length = 1 := by rw [dgS_at ⟨h2, h3⟩] <;> rfl
  have l2 : (dgS a.2.2).length = 1 := by rw [dgS_at ⟨h4, h5⟩] <;> rfl
  rw [Str.length_append]
  omega
section
variable {P : Program} {w : World} {K : PySem.W.Frag} {mg : Str → Option Value} {base : Heap}

theorem sc__law_renamed : FnScope ["_law_pen_here", "_law_atoms", "_law_some", "_law_names_here", "_law_found", "_law_kind", "_law_left", "_law_right_here"] ["_law_pen_here", "_law_atoms"] (defScope s__law_renamed) := ⟨rfl, rfl, rfl, by decide +kernel, rfl, by decide +kernel, by decide +kernel⟩
theorem ok__law_renamed (T : Txt K mg) : Ok P w K mg base 3 "_law_renamed" ["_law_pen_here", "_law_atoms"] sp_renamed := by
  have S := sc__law_renamed
  have OM : Ok P w K mg base 2 "_law_mixed" ["_law_pen_here", "_law_things"] sp_mixed := ok__law_mixed T
  have ON : Ok P w K mg base 1 "_law_names" ["_law_atoms"] sp_law_names := ok__law_names T
  refine mkOk T.d__law_renamed S (fun _ _ _ _ _ _ us hl => match us, hl with | [_, _], _ => rfl) (fun vs H Q E h => ?_) (fun cdv A outer s H vs Q E hr h => ?_)
  · obtain ⟨p, l, es, n, rfl, _⟩ := h
    rfl
  · obtain ⟨p, l, es, n, rfl, hl, hlay, hok, h4, hp, hn, q⟩ := h
    have hlp : l ≠ p := fun e => by
      subst e
      obtain ⟨_, _, _, e', _⟩ := hp
      rw [hl] at e'
      cases es <;> simp [refs] at e'
    refine ⟨_, (pss_cons (ps_asg (pe_tup (pa_cons (pcl OM (hr.mono (by decide)) (pa_cons (pv 0) (pa_cons (pe_listRg rfl (by rfl) T.f_list (prg_1 (by rfl) T.f_range pe_int)) pa_nil))) (pa_cons (pcl ON (hr.mono (by decide)) (pa_cons (pv 1) pa_nil)) pa_nil))) (pg_tup rfl (pgs_cons (pg_name (i := 2) S.nd rfl (Or.inr rfl)) (pgs_cons (pg_name (i := 3) S.nd rfl (Or.inr rfl)) pgs_nil)))) (pss_cons (ps_setLc (i := 4) (own := [("_law_kind", 5), ("_law_left", 6), ("_law_right_here", 7)]) (te := (tTup (tCons (tVar 5) (tCons (tOp (rIxL K) (tVar 2) (tBM K "list" (rIndex K) (tVar 3) (tCons (tVar 6) tNil))) (tCons (tOp (rIxL K) (tVar 2) (tBM K "list" (rIndex K) (tVar 3) (tCons (tVar 7) tNil))) tNil))))) (g := gTup K 3 (gCons (gName 5) (gCons (gName 6) (gCons (gName 7) gNil)))) rfl S.nd rfl rfl (sw_true rfl rfl rfl (by decide +kernel)) (pi_sd (pv 1)) (blkOk_by (N := ["_law_pen_here", "_law_atoms", "_law_some", "_law_names_here", "_law_found", "_law_kind", "_law_left", "_law_right_here"]) (sc := defScope s__law_renamed) (by decide +kernel)) (fun _ _ _ _ _ => (pg_tup rfl (pgs_cons (pg_name (i := 5) S.nd rfl (Or.inl rfl)) (pgs_cons (pg_name (i := 6) S.nd rfl (Or.inl rfl)) (pgs_cons (pg_name (i := 7) S.nd rfl (Or.inl rfl)) pgs_nil))))) (fun _ _ _ _ _ => pts_nil) (fun _ _ _ _ _ => (pe_tup (pa_cons (pv 5) (pa_cons (pe_ix ix_list (pv 2) (pe_bm PySem.F.plainAttrs_list PySem.F.slot_list_index PySem.F.type_list_index mt_index (pv 3) (pa_cons (pv 6) pa_nil)) (fun _ _ => rfl)) (pa_cons (pe_ix ix_list (pv 2) (pe_bm PySem.F.plainAttrs_list PySem.F.slot_list_index PySem.F.type_list_index mt_index (pv 3) (pa_cons (pv 7) pa_nil)) (fun _ _ => rfl)) pa_nil)))))) (pss_one (ps_ret (pcl OM (hr.mono (by decide)) (pa_cons (pv 0) (pa_cons (pv 4) pa_nil))))))), ?_⟩
    refine ⟨_, rfl, _, rfl, RgOk.of_le (by decide) (by decide) (by decide) (by decide), fun R hR => ?_⟩
    have sR := same_upd (o := .lst (rgV 0 10)) hR
    refine ⟨p, R, rgV 0 10, n, rfl, upd_same, by rw [rgV_length]; decide, fun x hx => ?_, hp.same sR, by omega, fun Y ys H2 of2 hY hY2 pm pen2 => ?_⟩
    · unfold rgV at hx
      obtain ⟨i, _, rfl⟩ := List.mem_map.mp hx
      exact .inl ⟨_, rfl⟩
    obtain ⟨ns0, rfl, hn10, hd0⟩ := digs_of pm
    have of12 : Off p H H2 := (off_same sR).trans of2
    have hYp : Y ≠ p := pen_ne (H1 := H2) (hp.same sR) hY
    have hl2 := of12 _ _ hlp hl
    have hlay2 := hlay.off hp of12
    refine ⟨_, rfl, l, es, rfl, hl2, hlay2, h4, fun Nm ns H3 s3 hNm isv hNm3 => ?_⟩
    have hnl := vars_len isv (by rw [List.length_map]; exact h4)
    refine ⟨(show (2 : Nat) ≤ sizeLine by decide), fun U hU => ?_⟩
    have sU := same_upd (o := .tup [.ref Y, .ref Nm]) hU
    refine ⟨_, _, rfl, SqT.of upd_same, rfl, _, _, rfl, _, _, rfl, rfl, ?_⟩
    have sA := s3.trans sU
    have hY4 := sA _ _ hY2
    have hNm4 := sU _ _ hNm3
    have hl4 := sA _ _ hl2
    have hlay4 := hlay2.same sA
    refine ⟨_, rfl, false, l, rfl, ⟨_, sd_of (t := false) hl4⟩, fun D hD => ?_⟩
    refine lc_mapS (te := (tTup (tCons (tVar 5) (tCons (tOp (rIxL K) (tVar 2) (tBM K "list" (rIndex K) (tVar 3) (tCons (tVar 6) tNil))) (tCons (tOp (rIxL K) (tVar 2) (tBM K "list" (rIndex K) (tVar 3) (tCons (tVar 7) tNil))) tNil))))) (tsd_walk (K := K) (t := false) (a := l) (xs := refs es)) (fun i y H => ∃ b, OkA b ∧ ∃ t, y = .ref t ∧ H t = some (.tup (aV b))) hD (fun H5 s5 => sd_of (t := false) (s5 _ _ hl4)) (fun i y H H' acc hDl of ⟨b, ob, t, ey, ht⟩ => ⟨b, ob, t, ey, of.tup hDl ht⟩) (by rw [refs_len, sizeLine_eq]; omega) (fun i x H5 H5' hi s5 hy Q' k' => ?_) fun H5 ys s5 hDl hlen hR => ?_
    · obtain ⟨rfl, hx⟩ := hy
      obtain ⟨qq, hq, rfl⟩ := refs_at hx
      have hm := List.mem_of_getElem? hq
      obtain ⟨c1, c2, c3, c4, c5⟩ := hok qq hm
      have m1 : qq.2.2.1 ∈ ns := (isv.mem _).2 ⟨qq.2, List.mem_map.mpr ⟨qq, hm, rfl⟩, .inl rfl⟩
      have m2 : qq.2.2.2 ∈ ns := (isv.mem _).2 ⟨qq.2, List.mem_map.mpr ⟨qq, hm, rfl⟩, .inr rfl⟩
      have hN5 := s5 _ _ hNm4
      obtain ⟨j1, hj1, f1, g1, e1, n1⟩ := index_ex m1
      obtain ⟨j2, hj2, f2, g2, e2, n2⟩ := index_ex m2
      have hY5 := s5 _ _ hY4
      have ten : ∀ j : Nat, j < ns.length → ((j : Nat) : Int) < ((ns0.map V.int).length : Nat) := fun j hj => by rw [List.length_map]; omega
      refine ⟨_, _, rfl, SqT.of (s5 _ _ (hlay4 qq hm)), rfl, _, _, rfl, _, _, rfl, _, _, rfl, rfl, rfl, ?_⟩
      refine ⟨_, rfl, _, rfl, _, rfl, .inl ⟨rfl, _, SqL.of hN5⟩, _, rfl, Nm, _, _, j1, _, rfl, rfl, SqL.of hN5, rfl, f1, g1, e1, n1, ?_⟩
      obtain ⟨z1, hz1, ez1⟩ := at_ints (ns := ns0) (d := (j1 : Nat)) (by omega) (ten j1 hj1)
      refine ⟨_, _, _, V.int z1, rfl, rfl, SqL.of hY5, ez1, _, rfl, _, rfl, .inl ⟨rfl, _, SqL.of hN5⟩, _, rfl, Nm, _, _, j2, _, rfl, rfl, SqL.of hN5, rfl, f2, g2, e2, n2, ?_⟩
      obtain ⟨z2, hz2, ez2⟩ := at_ints (ns := ns0) (d := (j2 : Nat)) (by omega) (ten j2 hj2)
      refine ⟨_, _, _, V.int z2, rfl, rfl, SqL.of hY5, ez2, (show (3 : Nat) ≤ sizeLine by decide), fun t ht => ?_⟩
      exact k' _ _ (same_upd ht) ⟨(qq.2.1, z1, z2), ⟨c1, (hd0 z1 hz1).1, (hd0 z1 hz1).2, (hd0 z2 hz2).1, (hd0 z2 hz2).2⟩, t, rfl, upd_same⟩
    · obtain ⟨es1, rfl, hlay5, hok5⟩ := en_ex (H := H5) (ys := ys) fun y hy => by
        obtain ⟨i, hi, e⟩ := List.getElem_of_mem hy
        exact hR i y (by rw [← e]; exact List.getElem?_eq_getElem hi)
      have el : es1.length = es.length := by rw [← refs_len es1, hlen, refs_len]
      have sB := sA.trans s5
      have pen5 := pen2.same sB
      refine ⟨_, rfl, _, rfl, p, D, refs es1, _, rfl, hDl, by rw [refs_len]; omega, fun x hx => ?_, pen5, by omega, fun f ys H6 of6 hf hf6 pm6 pen6 => ?_⟩
      · obtain ⟨qq, hq, rfl⟩ := List.mem_map.mp hx
        exact .inr ⟨qq.1, qq.2, rfl, hlay5 qq hq, (hok5 qq hq).1⟩
      · have of25 : Off p H H5 := of12.trans (off_same sB)
        obtain ⟨es6, rfl, hlay6, hok6⟩ := en_ex (H := H6) (ys := ys) fun y hy => by
          have := pm6.mem_iff.mp hy
          obtain ⟨qq, hq, rfl⟩ := List.mem_map.mp this
          exact ⟨qq.2, hok5 qq hq, qq.1, rfl, of6.pen pen5 (hlay5 qq hq)⟩
        have hfp := pen_ne (H1 := H6) pen5 hf
        refine q f es6 H6 (of25.trans of6) (off_none of25 hfp hf) hf6 hlay6 hok6 ?_ (pen6.mono (by omega))
        have := pm6.length_eq
        rw [refs_len, refs_len] at this
        omega
theorem sc__law_text : FnScope ["_law_atoms", "_law_kind", "_law_left", "_law_right_here"] ["_law_atoms"] (defScope s__law_text) := ⟨rfl, rfl, rfl, by decide +kernel, rfl, by decide +kernel, by decide +kernel⟩
theorem ok__law_text (T : Txt K mg) : Ok P w K mg base 1 "_law_text" ["_law_atoms"] sp_ltext := by
  have S := sc__law_text
  refine mkOk T.d__law_text S (fun _ _ _ _ _ _ us hl => match us, hl with | [_], _ => rfl) (fun vs H Q E h => ?_) (fun cdv A outer s H vs Q E hr h => ?_)
  · obtain ⟨l, es, rfl, _⟩ := h
    rfl
  · obtain ⟨l, es, rfl, hl, hlay, hok, h4, k⟩ := h
    refine ⟨_, (pss_one (ps_ret (pe_join pe_str (pe_lc (g := gTup K 3 (gCons (gName 1) (gCons (gName 2) (gCons (gName 3) gNil)))) (own := [("_law_kind", 1), ("_law_left", 2), ("_law_right_here", 3)]) rfl S.nd (pi_sd (pv 0)) (blkOk_by (N := ["_law_atoms", "_law_kind", "_law_left", "_law_right_here"]) (sc := defScope s__law_text) (by decide +kernel)) (fun _ _ _ _ _ => (pg_tup rfl (pgs_cons (pg_name (i := 1) S.nd rfl (Or.inl rfl)) (pgs_cons (pg_name (i := 2) S.nd rfl (Or.inl rfl)) (pgs_cons (pg_name (i := 3) S.nd rfl (Or.inl rfl)) pgs_nil))))) (fun _ _ _ _ _ => pts_nil) (fun _ _ _ _ _ => (pe_op op_add_str (pe_op op_add_str (pv 1) (pe_callTy call_str_int (by rfl) T.f_str (by decide +kernel) (pa_cons (pv 2) pa_nil))) (pe_callTy call_str_int (by rfl) T.f_str (by decide +kernel) (pa_cons (pv 3) pa_nil)))))))), ?_⟩
    refine ⟨⟨_, rfl⟩, _, rfl, false, l, rfl, ⟨_, sd_of (t := false) hl⟩, fun D hD => ?_⟩
    refine lc_mapS (tsd_walk (K := K) (t := false) (a := l) (xs := refs es)) (fun i y H => ((es.map (·.2)).map fun a => V.str (wordA a))[i]? = some y) hD (fun H2 s2 => sd_of (t := false) (s2 _ _ hl)) (fun i y H H' acc _ _ e => e) (by rw [refs_len, sizeLine_eq]; omega) (fun i x H2 H2' hi s2 hy Q' k' => ?_) fun H2 ys s2 hDl hlen hR => ?_
    · obtain ⟨rfl, hx⟩ := hy
      obtain ⟨qq, hq, rfl⟩ := refs_at hx
      have hm := List.mem_of_getElem? hq
      have ok := hok qq hm
      obtain ⟨c1, c2, c3, c4, c5⟩ := hok qq hm
      obtain ⟨b1, b2⟩ := wd3 ok
      refine ⟨_, _, rfl, SqT.of (s2 _ _ (hlay qq hm)), rfl, _, _, rfl, _, _, rfl, _, _, rfl, rfl, rfl, ?_⟩
      refine ⟨_, rfl, _, rfl, _, rfl, dg_log ⟨c2, c3⟩, _, _, rfl, rfl, by rw [sizeLine_eq]; exact Nat.le_trans b1 (by decide), _, rfl, _, rfl, dg_log ⟨c4, c5⟩, _, _, rfl, rfl, by rw [sizeLine_eq]; exact Nat.le_trans b2 (by decide), ?_⟩
      refine k' _ _ (Same.refl _) ?_
      rw [List.getElem?_map, List.getElem?_map, hq] <;> rfl
    · have eys : ys = ((es.map (·.2)).map wordA).map V.str := by
        have e : ((es.map (·.2)).map fun a => V.str (wordA a)) = ((es.map (·.2)).map wordA).map V.str := by rw [List.map_map (f := wordA)] <;> rfl
        rw [← e]
        exact ext_at (by rw [hlen, refs_len, List.length_map, List.length_map]) hR
      refine ⟨_, D, (es.map (·.2)).map wordA, rfl, rfl, .inl (SqL.of (by rw [← eys]; exact hDl)), ?_, ?_⟩
      rotate_left
      · exact k _ s2
      have h := sum_le (f := fun x : Str => x.length) (m := 3) (xs := (es.map (·.2)).map wordA) fun x hx => by
        obtain ⟨a, ha, rfl⟩ := List.mem_map.mp hx
        obtain ⟨qq, hq, rfl⟩ := List.mem_map.mp ha
        rw [word_len (hok qq hq)]
        exact Nat.le_refl _
      rw [List.length_map, List.length_map] at h ⊢
      rw [show (" " : Str).length = 1 by decide +kernel]
      omega
theorem sc__law_near : FnScope ["_law_pen_here", "_law_atoms", "_law_found", "_law_way", "_law_at", "_law_by", "_law_kind", "_law_left", "_law_right_here", "_law_names_here"] ["_law_pen_here", "_law_atoms"] (defScope s__law_near) := ⟨rfl, rfl, rfl, by decide +kernel, rfl, by decide +kernel, by decide +kernel⟩
theorem ok__law_near (T : Txt K mg) : Ok P w K mg base 4 "_law_near" ["_law_pen_here", "_law_atoms"] sp_near := by
  have S := sc__law_near
  have OD : Ok P w K mg base 1 "_law_draw" ["_law_pen_here", "_law_many"] sp_draw := ok__law_draw T
  have ODr : Ok P w K mg base 3 "_law_drawn" ["_law_pen_here", "_law_most"] sp_drawn := ok__law_drawn T
  have OR : Ok P w K mg base 3 "_law_renamed" ["_law_pen_here", "_law_atoms"] sp_renamed := ok__law_renamed T
  have ON : Ok P w K mg base 1 "_law_names" ["_law_atoms"] sp_law_names := ok__law_names T
  refine mkOk T.d__law_near S (fun _ _ _ _ _ _ us hl => match us, hl with | [_, _], _ => rfl) (fun vs H Q E h => ?_) (fun cdv A outer s H vs Q E hr h => ?_)
  · obtain ⟨p, l, es, n, rfl, _⟩ := h
    rfl
  · obtain ⟨p, l, es, n, rfl, hl, hlay, hok, h1, h4, hp, hn, q⟩ := h
    refine ⟨_, (pss_cons (ps_par (i := 2) (j := 3) (by rfl) S.nd rfl rfl (by decide) rfl rfl (pa_cons (pcl OR (hr.mono (by decide)) (pa_cons (pv 0) (pa_cons (pv 1) pa_nil))) (pa_cons (pcl OD (hr.mono (by decide)) (pa_cons (pv 0) (pa_cons pe_int pa_nil))) pa_nil)) (by rfl)) (pss_cons (ps_par (i := 4) (j := 5) (by rfl) S.nd rfl rfl (by decide) rfl rfl (pa_cons (pcl OD (hr.mono (by decide)) (pa_cons (pv 0) (pa_cons (pe_callB call_len_seq (by rfl) T.f_len (by decide +kernel) (pa_cons (pv 2) pa_nil)) pa_nil))) (pa_cons (pcl OD (hr.mono (by decide)) (pa_cons (pv 0) (pa_cons (pe_callB call_len_seq (by rfl) T.f_len (by decide +kernel) (pa_cons (pv 2) pa_nil)) pa_nil))) pa_nil)) (by rfl)) (pss_cons (ps_asg (pe_ix ix_list (pv 2) (pv 4) (fun _ _ => rfl)) (pg_tup rfl (pgs_cons (pg_name (i := 6) S.nd rfl (Or.inl rfl)) (pgs_cons (pg_name (i := 7) S.nd rfl (Or.inl rfl)) (pgs_cons (pg_name (i := 8) S.nd rfl (Or.inl rfl)) pgs_nil))))) (pss_cons (ps_set (i := 9) S.nd rfl (.inl rfl) (pcl ON (hr.mono (by decide)) (pa_cons (pv 2) pa_nil))) (C8.pss_cut (ps_if (pt_cmpR op_eq (pv 3) pe_int (nomark _)) (pss_one (ps_asg (pe_tup (pa_cons (pv 6) (pa_cons (pe_ix ix_list (pv 9) (pcl OD (hr.mono (by decide)) (pa_cons (pv 0) (pa_cons (pe_callB call_len_seq (by rfl) T.f_len (by decide +kernel) (pa_cons (pv 9) pa_nil)) pa_nil))) (fun _ _ => rfl)) (pa_cons (pv 8) pa_nil)))) (pg_sub (pv 2) (pv 4) set_list))) (pss_one (ps_if (pt_cmpR op_eq (pv 3) pe_int (nomark _)) (pss_one (ps_asg (pe_tup (pa_cons (pv 6) (pa_cons (pv 7) (pa_cons (pe_ix ix_list (pv 9) (pcl OD (hr.mono (by decide)) (pa_cons (pv 0) (pa_cons (pe_callB call_len_seq (by rfl) T.f_len (by decide +kernel) (pa_cons (pv 9) pa_nil)) pa_nil))) (fun _ _ => rfl)) pa_nil)))) (pg_sub (pv 2) (pv 4) set_list))) (pss_one (ps_if (pt_cmpR op_eq (pv 3) pe_int (nomark _)) (pss_one (ps_asg (pe_ix ix_list (pv 2) (pv 5) (fun _ _ => rfl)) (pg_sub (pv 2) (pv 4) set_list))) (pss_one (ps_if (pt_cmpR op_eq (pv 3) pe_int (nomark _)) (pss_one (ps_asg (pe_tup (pa_cons (pe_ix ix_str pe_str (pcl OD (hr.mono (by decide)) (pa_cons (pv 0) (pa_cons pe_int pa_nil))) (fun _ _ => rfl)) (pa_cons (pv 7) (pa_cons (pv 8) pa_nil)))) (pg_sub (pv 2) (pv 4) set_list))) (pss_one (ps_if (pt_cmpR op_eq (pv 3) pe_int (nomark _)) (pss_one (ps_asg (pe_tup (pa_cons (pv 6) (pa_cons (pv 8) (pa_cons (pv 7) pa_nil)))) (pg_sub (pv 2) (pv 4) set_list))) (pss_one (ps_if (PW.pt (pw_and (pt_cmpR op_eq (pv 3) pe_int (nomark _)) (pw_and1 (pt_cmpR op_gt (pe_callB call_len_seq (by rfl) T.f_len (by decide +kernel) (pa_cons (pv 2) pa_nil)) pe_int (nomark _))))) (pss_one (ps_expr (pe_bm PySem.F.plainAttrs_list PySem.F.slot_list_pop PySem.F.type_list_pop mt_popAt (pv 2) (pa_cons (pv 4) pa_nil)))) (pss_one (ps_if (pt_cmpR op_eq (pv 3) pe_int (nomark _)) (pss_one (ps_set (i := 2) S.nd rfl (.inl rfl) (pcl ODr (hr.mono (by decide)) (pa_cons (pv 0) (pa_cons pe_int pa_nil))))) pss_nil))))))))))))) (pss_one (ps_ret (pv 2)))))))), ?_⟩
    refine ⟨_, rfl, _, rfl, p, l, es, n, rfl, hl, hlay, hok, h4, hp, by omega, fun F es1 H1 of1 hF0 hF1 hl1 hok1 el pen1 => ?_⟩
    have hFp : F ≠ p := pen_ne (H1 := H1) hp hF0
    refine ⟨_, rfl, p, _, _, rfl, by decide, by decide, ?_, pen1, fun way H2 wy0 wy9 of2 pen2 => ?_⟩
    · omega
    refine ⟨_, _, rfl, ?_⟩
    have hF2 := of2 _ _ hFp hF1
    have hl2 := hl1.off pen1 of2
    refine ⟨_, rfl, _, rfl, _, _, rfl, .inl (SqL.of hF2), p, _, _, rfl, by rw [refs_len]; omega, by rw [refs_len]; omega, ?_, pen2, fun at1 H3 a0 am of3 pen3 => ?_⟩
    · omega
    have hF3 := of3 _ _ hFp hF2
    have hl3 := hl2.off pen2 of3
    refine ⟨_, rfl, _, rfl, _, _, rfl, .inl (SqL.of hF3), p, _, _, rfl, by rw [refs_len]; omega, by rw [refs_len]; omega, ?_, pen3, fun by1 H4 b0 bm of4 pen4 => ?_⟩
    · omega
    have hF4 := of4 _ _ hFp hF3
    have hl4 := hl3.off pen3 of4
    have of14 : Off p H H4 := of1.trans (of2.trans (of3.trans of4))
    refine ⟨_, _, rfl, ?_⟩
    obtain ⟨qa, hqa, eqa⟩ := at_refs (es := es1) a0 am
    have oka := hok1 qa hqa
    refine ⟨_, rfl, _, rfl, _, _, _, _, rfl, rfl, SqL.of hF4, eqa, ?_⟩
    refine ⟨_, _, rfl, SqT.of (hl4 qa hqa), rfl, _, _, rfl, _, _, rfl, _, _, rfl, rfl, ?_⟩
    refine ⟨_, rfl, F, es1, rfl, hF4, hl4, by omega, fun Nm ns H5 s5 hNm isv hNm5 => ?_⟩
    have hnl := vars_len isv (by rw [List.length_map]; omega)
    have hns : ∀ z ∈ ns, 0 ≤ z ∧ z ≤ 9 := fun z hz => by
      obtain ⟨a, ha, e⟩ := (isv.mem z).1 hz
      obtain ⟨qq, hq, rfl⟩ := List.mem_map.mp ha
      obtain ⟨_, c2, c3, c4, c5⟩ := hok1 qq hq
      rcases e with rfl | rfl
      · exact ⟨c2, c3⟩
      · exact ⟨c4, c5⟩
    have hnl1 : 1 ≤ ns.length := by
      have := (isv.mem qa.2.2.1).2 ⟨qa.2, List.mem_map.mpr ⟨qa, hqa, rfl⟩, .inl rfl⟩
      exact List.length_pos_of_mem this
    have hNmp : Nm ≠ p := pen_ne (H1 := H5) pen4 hNm
    have hF5 := s5 _ _ hF4
    have hl5 := hl4.same s5
    have of15 : Off p H H5 := of14.trans (off_same s5)
    have pen5 := pen4.same s5
    have eal : at1 < (es1.length : Int) := by rw [refs_len] at am; exact am
    refine ⟨NearMid H p n, ?_, ?_⟩
    · refine ⟨_, rfl, rfl, decide (V.int way = V.int 0), rfl, ?_⟩
      by_cases w0 : V.int way = V.int 0
      · rw [decide_eq_true w0]
        refine iteT ⟨_, rfl, _, rfl, ?_⟩
        refine ⟨_, rfl, _, rfl, _, _, rfl, .inl (SqL.of hNm5), p, _, _, rfl, by rw [List.length_map]; omega, by rw [List.length_map]; omega, ?_, pen5, fun dn H6 dn0 dnm of6 pen6 => ?_⟩
        · omega
        obtain ⟨z1, hz1, ez1⟩ := at_ints dn0 dnm
        have hF6 := of6 _ _ hFp hF5
        have hNm6 := of6 _ _ hNmp hNm5
        have hl6 := hl5.off pen5 of6
        have of16 := of15.trans of6
        refine ⟨_, _, _, V.int z1, rfl, rfl, SqL.of hNm6, ez1, _, rfl, (show (3 : Nat) ≤ sizeLine by decide), fun t ht => ?_⟩
        have st := same_upd (o := .tup [.str qa.2.1, .int z1, .int qa.2.2.2]) ht
        have hFt := st _ _ hF6
        refine ⟨_, rfl, _, rfl, F, refs es1, at1, at1.toNat, rfl, rfl, hFt, ix_nn a0 (by rw [refs_len]; omega), ?_⟩
        rw [show (refs es1).set at1.toNat (.ref t) = _ from refs_set es1 at1.toNat (t, (qa.2.1, z1, qa.2.2.2))]
        refine ⟨F, es1.set at1.toNat (t, (qa.2.1, z1, qa.2.2.2)), rfl, hF0, upd_same, set_lay hFt (hl6.same st) upd_same, set_ok hok1 ⟨oka.1, (hns z1 hz1).1, (hns z1 hz1).2, oka.2.2.2⟩, by rw [List.length_set]; omega, by rw [List.length_set]; omega, off_new (of16.trans (off_same st)) hF0, pen_new ((pen6.same st).mono (by omega)) hFp⟩
      rw [decide_eq_false w0]
      refine iteF ?_
      refine ⟨_, rfl, rfl, decide (V.int way = V.int 1), rfl, ?_⟩
      by_cases w1 : V.int way = V.int 1
      · rw [decide_eq_true w1]
        refine iteT ⟨_, rfl, _, rfl, _, rfl, ?_⟩
        refine ⟨_, rfl, _, rfl, _, _, rfl, .inl (SqL.of hNm5), p, _, _, rfl, by rw [List.length_map]; omega, by rw [List.length_map]; omega, ?_, pen5, fun dn H6 dn0 dnm of6 pen6 => ?_⟩
        · omega
        obtain ⟨z1, hz1, ez1⟩ := at_ints dn0 dnm
        have hF6 := of6 _ _ hFp hF5
        have hNm6 := of6 _ _ hNmp hNm5
        have hl6 := hl5.off pen5 of6
        have of16 := of15.trans of6
        refine ⟨_, _, _, V.int z1, rfl, rfl, SqL.of hNm6, ez1, (show (3 : Nat) ≤ sizeLine by decide), fun t ht => ?_⟩
        have st := same_upd (o := .tup [.str qa.2.1, .int qa.2.2.1, .int z1]) ht
        have hFt := st _ _ hF6
        refine ⟨_, rfl, _, rfl, F, refs es1, at1, at1.toNat, rfl, rfl, hFt, ix_nn a0 (by rw [refs_len]; omega), ?_⟩
        rw [show (refs es1).set at1.toNat (.ref t) = _ from refs_set es1 at1.toNat (t, (qa.2.1, qa.2.2.1, z1))]
        refine ⟨F, es1.set at1.toNat (t, (qa.2.1, qa.2.2.1, z1)), rfl, hF0, upd_same, set_lay hFt (hl6.same st) upd_same, set_ok hok1 ⟨oka.1, oka.2.1, oka.2.2.1, hns z1 hz1⟩, by rw [List.length_set]; omega, by rw [List.length_set]; omega, off_new (of16.trans (off_same st)) hF0, pen_new ((pen6.same st).mono (by omega)) hFp⟩
      rw [decide_eq_false w1]
      refine iteF ?_
      refine ⟨_, rfl, rfl, decide (V.int way = V.int 2), rfl, ?_⟩
      by_cases w2 : V.int way = V.int 2
      · rw [decide_eq_true w2]
        refine iteT ?_
        obtain ⟨qb, hqb, eqb⟩ := at_refs (es := es1) b0 bm
        refine ⟨_, rfl, _, rfl, _, _, _, _, rfl, rfl, SqL.of hF5, eqb, ?_⟩
        refine ⟨_, rfl, _, rfl, F, refs es1, at1, at1.toNat, rfl, rfl, hF5, ix_nn a0 (by rw [refs_len]; omega), ?_⟩
        rw [show (refs es1).set at1.toNat (.ref qb.1) = _ from refs_set es1 at1.toNat qb]
        exact ⟨F, es1.set at1.toNat qb, rfl, hF0, upd_same, set_lay (t := qb.1) (a := qb.2) hF5 hl5 (hl5 qb hqb), set_ok (t := qb.1) (a := qb.2) hok1 (hok1 qb hqb), by rw [List.length_set]; omega, by rw [List.length_set]; omega, off_new of15 hF0, pen_new (pen5.mono (by omega)) hFp⟩
      rw [decide_eq_false w2]
      refine iteF ?_
      refine ⟨_, rfl, rfl, decide (V.int way = V.int 3), rfl, ?_⟩
      by_cases w3 : V.int way = V.int 3
      · rw [decide_eq_true w3]
        refine iteT ⟨_, rfl, p, _, _, rfl, by decide, by decide, ?_, pen5, fun dk H6 dk0 dkm of6 pen6 => ?_⟩
        · omega
        have hF6 := of6 _ _ hFp hF5
        have hl6 := hl5.off pen5 of6
        have of16 := of15.trans of6
        obtain ⟨c, hc, kc⟩ := wd_at bca dk0 (show dk < (("BCA" : Str).length : Nat) by rw [show ("BCA" : Str).length = 3 by decide +kernel]; exact dkm)
        refine ⟨_, _, c, rfl, rfl, (show ("BCA" : Str).length ≤ sizeLine by rw [show ("BCA" : Str).length = 3 by decide +kernel]; decide), hc, _, rfl, _, rfl, (show (3 : Nat) ≤ sizeLine by decide), fun t ht => ?_⟩
        have st := same_upd (o := .tup [.str ⟨#[c]⟩, .int qa.2.2.1, .int qa.2.2.2]) ht
        have hFt := st _ _ hF6
        refine ⟨_, rfl, _, rfl, F, refs es1, at1, at1.toNat, rfl, rfl, hFt, ix_nn a0 (by rw [refs_len]; omega), ?_⟩
        rw [show (refs es1).set at1.toNat (.ref t) = _ from refs_set es1 at1.toNat (t, (⟨#[c]⟩, qa.2.2.1, qa.2.2.2))]
        refine ⟨F, es1.set at1.toNat (t, (⟨#[c]⟩, qa.2.2.1, qa.2.2.2)), rfl, hF0, upd_same, set_lay hFt (hl6.same st) upd_same, set_ok hok1 ⟨kc, oka.2⟩, by rw [List.length_set]; omega, by rw [List.length_set]; omega, off_new (of16.trans (off_same st)) hF0, pen_new ((pen6.same st).mono (by omega)) hFp⟩
      rw [decide_eq_false w3]
      refine iteF ?_
      refine ⟨_, rfl, rfl, decide (V.int way = V.int 4), rfl, ?_⟩
      by_cases w4 : V.int way = V.int 4
      · rw [decide_eq_true w4]
        refine iteT ⟨_, rfl, _, rfl, _, rfl, (show (3 : Nat) ≤ sizeLine by decide), fun t ht => ?_⟩
        have st := same_upd (o := .tup [.str qa.2.1, .int qa.2.2.2, .int qa.2.2.1]) ht
        have hFt := st _ _ hF5
        refine ⟨_, rfl, _, rfl, F, refs es1, at1, at1.toNat, rfl, rfl, hFt, ix_nn a0 (by rw [refs_len]; omega), ?_⟩
        rw [show (refs es1).set at1.toNat (.ref t) = _ from refs_set es1 at1.toNat (t, (qa.2.1, qa.2.2.2, qa.2.2.1))]
        refine ⟨F, es1.set at1.toNat (t, (qa.2.1, qa.2.2.2, qa.2.2.1)), rfl, hF0, upd_same, set_lay hFt (hl5.same st) upd_same, set_ok hok1 ⟨oka.1, oka.2.2.2.1, oka.2.2.2.2, oka.2.1, oka.2.2.1⟩, by rw [List.length_set]; omega, by rw [List.length_set]; omega, off_new (of15.trans (off_same st)) hF0, pen_new ((pen5.same st).mono (by omega)) hFp⟩
      rw [decide_eq_false w4]
      refine iteF ?_
      have rest : NearMid H p n [some (.ref p), some (.ref l), some (.ref F), some (.int way), some (.int at1), some (.int by1), some (.str qa.2.1), some (.int qa.2.2.1), some (.int qa.2.2.2), some (.ref Nm)] H5 := ⟨F, es1, rfl, hF0, hF5, hl5, hok1, by omega, by omega, of15, pen5.mono (by omega)⟩
      have six : ∀ D : Ends, D.nx = NearMid H p n → (tIfS (tTest (tOp rEq (tVar 3) (tC (.int 6)))) (tAsg (tCall sp_drawn [] E0 (tCons (tVar 0) (tCons (tC (.int 4)) tNil))) (gName 2)) tNext) D [some (.ref p), some (.ref l), some (.ref F), some (.int way), some (.int at1), some (.int by1), some (.str qa.2.1), some (.int qa.2.2.1), some (.int qa.2.2.2), some (.ref Nm)] H5 := fun D eD => by
        refine ⟨_, rfl, rfl, decide (V.int way = V.int 6), rfl, ?_⟩
        by_cases w6 : V.int way = V.int 6
        · rw [decide_eq_true w6]
          refine iteT ⟨_, rfl, p, _, rfl, pen5, by omega, fun f es6 H6 of6 hf hf6 hl6 hok6 g1 g4 pen6 => ?_⟩
          have hfp : f ≠ p := pen_ne (H1 := H6) pen5 hf
          show D.nx _ _
          rw [eD]
          exact ⟨f, es6, rfl, off_none of15 hfp hf, hf6, hl6, hok6, g1, g4, of15.trans of6, pen6.mono (by omega)⟩
        · rw [decide_eq_false w6]
          refine iteF ?_
          show D.nx _ _
          rw [eD]
          exact rest
      refine ⟨_, rfl, rfl, decide (V.int way = V.int 5), rfl, ?_⟩
      by_cases w5 : V.int way = V.int 5
      · rw [decide_eq_true w5]
        refine iteT ⟨_, rfl, _, _, rfl, .inl (SqL.of hF5), _, _, rfl, rfl, ?_⟩
        by_cases hg : (1 : Int) < ((refs es1).length : Nat)
        · refine ⟨true, congrArg V.bl (decide_eq_true hg), iteT ?_⟩
          have hk : at1.toNat < es1.length := by omega
          refine ⟨_, rfl, .inl ⟨rfl, _, SqL.of hF5⟩, _, rfl, F, refs es1, at1, at1.toNat, _, rfl, rfl, hF5, by omega, by rw [refs_len] at am; omega, seqIx a0 am, List.getElem?_eq_getElem (by rw [refs_len]; exact hk), ?_⟩
          have er : (refs es1).eraseIdx at1.toNat = refs (es1.eraseIdx at1.toNat) := by
            unfold refs
            rw [map_erase]
          rw [er]
          refine ⟨F, es1.eraseIdx at1.toNat, rfl, hF0, upd_same, fun r hr => ?_, fun r hr => hok1 r (List.mem_of_mem_eraseIdx hr), ?_, ?_, off_new of15 hF0, pen_new (pen5.mono (by omega)) hFp⟩
          · have e := hl5 r (List.mem_of_mem_eraseIdx hr)
            rw [upd_ne (ne_of e hF5 (by intro z; cases z))]
            exact e
          · rw [refs_len] at hg
            rw [List.length_eraseIdx, if_pos hk]
            omega
          · rw [List.length_eraseIdx, if_pos hk]
            omega
        · refine ⟨false, congrArg V.bl (decide_eq_false hg), iteF (six _ ?_)⟩
          rfl
      · rw [decide_eq_false w5]
        refine iteF (iteF (six _ ?_))
        rfl
    · rintro σ H6 ⟨f, es6, e2, hf, hf6, hl6, hok6, g1, g4, of6, pen6⟩
      exact ⟨_, e2, q f es6 H6 of6 hf hf6 hl6 hok6 g1 g4 pen6⟩
end
end CA
set_option Elab.async false
set_option linter.all false
set_option maxRecDepth 100000
set_option maxHeartbeats 1000000
namespace CA
open PySem PySem.Spec PyProof.Rows L2 TL
/-! ### a comprehension that draws -/
theorem lc_mapP {J : It} {n : Nat} {G : Hp → Prop} {Y : Nat → Hp → V → Hp → Prop} (w : Walk J n G Y) {g : TG} {te : TE} {vs : List Nat} {σ : L2.St} {H1 : Hp} {D : Addr} {Qd : Hp → Prop} (I : Nat → List V → Hp → Prop)
    (h0 : I 0 [] (upd H1 D (.lst []))) (hG : ∀ i ys H, I i ys H → G H) (hl : ∀ i ys H, I i ys H → ys.length ≤ i) (hn : n ≤ sizeLine)
    (hs : ∀ i x H H' ys, i < n → I i ys H → Y i H x H' → ∀ Q' : VK, (∀ y H4, H4 D = some (.lst ys) → I (i + 1) (ys ++ [y]) (upd H4 D (.lst (ys ++ [y]))) → Q' y H4) → g x (wipe σ vs) H' fun σ2 H2 => wipe σ2 vs = wipe σ vs ∧ te σ2 H2 Q')
    (hd : ∀ H ys, I n ys H → Qd H) :
    ∃ W : Nat → Nat → Hp → Prop, (∃ m, W 0 m (upd H1 D (.lst []))) ∧ ∀ i m H, W i m H →
      (J.stop i H ∧ Qd H) ∨ (J.go i H ∧ ∃ Nx : Hp → Prop, (∀ H', Nx H' → ∃ m', m' < m ∧ W (i + 1) m' H') ∧ ∀ x H', J.yld i H x H' → g x (wipe σ vs) H' fun σ2 H2 => wipe σ2 vs = wipe σ vs ∧ tYes σ2 H2 fun b H3 =>
        if b = true then te σ2 H3 fun y H4 => ∃ acc, H4 D = some (.lst acc) ∧ acc.length < sizeLine ∧ Nx (upd H4 D (.lst (acc ++ [y]))) else Nx H3) := by
  refine lc_it (tt := tYes) w (fun i H => ∃ ys, I i ys H) ⟨[], h0⟩ (fun i H _ ⟨ys, h⟩ => hG i ys H h) (fun i x H H' hi h hy => ?_) fun H ⟨ys, h⟩ => hd H ys h
  obtain ⟨ys, h⟩ := h
  exact hs i x H H' ys hi h hy _ fun y H4 e4 n4 => ⟨ys, e4, by have := hl i ys H h; omega, _, n4⟩
/-- what may be made of drawn atoms so far -/
def AtI (H0 : Hp) (p D : Addr) (n : Nat) (i : Nat) (ys : List V) (H : Hp) : Prop := ys.length = i ∧ (∀ y ∈ ys, ∃ b, OkA b ∧ ∃ t, y = .ref t ∧ H t = some (.tup (aV b))) ∧ H D = some (.lst ys) ∧ Off p H0 H ∧ PenAt H p (n + 3 * i)
theorem AtI.zero {H0 : Hp} {p D : Addr} {n : Nat} (hD : H0 D = none) (hp : PenAt H0 p n) : AtI H0 p D n 0 [] (upd H0 D (.lst [])) :=
  ⟨rfl, (fun y hy => absurd hy List.not_mem_nil), upd_same, off_same (same_upd hD), (hp.same (same_upd hD)).mono (by omega)⟩
theorem AtI.next {H0 H H' : Hp} {p D t : Addr} {n i : Nat} {ys : List V} {b : At Str} (h : AtI H0 p D n i ys H) (hD : H0 D = none) (hDp : D ≠ p) (of : Off p H H') (pen : PenAt H' p (n + 3 * i + 3)) (ok : OkA b) (ht : H' t = some (.tup (aV b))) :
    H' D = some (.lst ys) ∧ AtI H0 p D n (i + 1) (ys ++ [.ref t]) (upd H' D (.lst (ys ++ [.ref t]))) := by
  obtain ⟨h1, h2, h3, h4, h5⟩ := h
  have e := of _ _ hDp h3
  refine ⟨e, by rw [List.length_append, List.length_singleton, h1], fun y hy => ?_, upd_same, off_new (h4.trans of) hD, pen_new (pen.mono (by omega)) hDp⟩
  rcases List.mem_append.mp hy with hy | hy
  · obtain ⟨b', ok', t', e', ht'⟩ := h2 y hy
    have := of.pen h5 ht'
    exact ⟨b', ok', t', e', by rw [upd_ne (ne_of this e (by intro z; cases z))]; exact this⟩
  · rw [List.mem_singleton.mp hy]
    exact ⟨b, ok, t, rfl, by rw [upd_ne (ne_of ht e (by intro z; cases z))]; exact ht⟩
/-! ### lines with drawn numbers -/
def rStrI : List V → Hp → VK → Prop := fun xs H Q => ∃ i : Int, xs = [.int i] ∧ i.natAbs.log2 < 1920 ∧ Q (.str (toString i)) H
def teL (K : PySem.W.Frag) (pen kind left right : Nat) (m : Int) : TE :=
  tM1 (fun x xs H Q => ∃ a p, ∃ ys : List Str, x = .str a ∧ xs = [.ref p] ∧ (SqL K H p (ys.map V.str) ∨ SqT K H p (ys.map V.str)) ∧ (ys.map (·.length)).sum + ys.length * a.length ≤ 16777216 ∧ Q (.str (Txt.join a ys)) H) (tC (.str " "))
    (tLst (tCons (tVar kind) (tCons (tCB rStrI (tCons (tVar left) tNil)) (tCons (tCB rStrI (tCons (tVar right) tNil)) (tCons (tCB rStrI (tCons (tOp (rI0 fun i j => .int (i + j)) (tC (.int 1)) (tCall sp_draw [] E0 (tCons (tVar pen) (tCons (tC (.int m)) tNil)))) tNil)) tNil)))))
theorem teL_ok {K : PySem.W.Frag} {σ : L2.St} {H : Hp} {p : Addr} {n : Nat} {k : Str} {l r : Int} {pen kind left right : Nat} {m : Int} {Q : VK} (e0 : σ[pen]? = some (some (.ref p))) (e1 : σ[kind]? = some (some (.str k))) (e2 : σ[left]? = some (some (.int l))) (e3 : σ[right]? = some (some (.int r)))
    (hk : isKind k) (hl : Dig l) (hr : Dig r) (m1 : 1 ≤ m) (m9 : m ≤ 9) (hn : n < 100000) (hp : PenAt H p n)
    (q : ∀ (o : Int) H', 1 ≤ o → o ≤ m → Off p H H' → PenAt H' p (n + 1) → Q (.str (lineR (k, l, r, o))) H') : teL K pen kind left right m σ H Q := by
  refine ⟨⟨_, rfl⟩, _, e1, _, e2, _, rfl, dg_log hl, _, e3, _, rfl, dg_log hr, _, e0, p, m, n, rfl, m1, by omega, hn, hp, fun d H' d0 dm of pen' => ?_⟩
  have ho : Dig (1 + d) := ⟨by omega, by omega⟩
  have ok : OkR9 (k, l, r, 1 + d) := ⟨hk, hl, hr, by show 1 ≤ 1 + d; omega, by show 1 + d ≤ 9; omega⟩
  refine ⟨_, _, rfl, rfl, _, rfl, dg_log ho, (show (4 : Nat) ≤ sizeLine by decide), fun L hL => ?_⟩
  refine ⟨_, L, [k, dgS l, dgS r, dgS (1 + d)], rfl, rfl, .inl (SqL.of upd_same), ?_, ?_⟩
  · obtain ⟨c, ec, _, _⟩ := kind_at hk
    have lk : k.length = 1 := by rw [ec] <;> rfl
    have ld : ∀ d, Dig d → (dgS d).length = 1 := fun d hd => by rw [dgS_at hd] <;> rfl
    rw [show (" " : Str).length = 1 by decide +kernel]
    simp [lk, ld _ hl, ld _ hr, ld _ ho]
  · have s := same_upd (o := .lst [.str k, .str (dgS l), .str (dgS r), .str (dgS (1 + d))]) hL
    exact q (1 + d) _ (by omega) (by omega) (of.trans (off_same s)) (pen'.same s)
def lnV (rs : List (Rw Str)) : List V := rs.map fun r => V.str (lineR r)
def LinI (H0 : Hp) (p D : Addr) (n : Nat) (m : Int) (ks : En (At Str)) (i : Nat) (ys : List V) (H : Hp) : Prop := ∃ rs : List (Rw Str), ys = lnV rs ∧ rs.length = i ∧ rs.map key = (ks.map (·.2)).take i ∧ (∀ r ∈ rs, OkR9 r ∧ oft r ≤ m) ∧ H D = some (.lst ys) ∧ Off p H0 H ∧ PenAt H p (n + i)
theorem LinI.zero {H0 : Hp} {p D : Addr} {n : Nat} {m : Int} {ks : En (At Str)} (hD : H0 D = none) (hp : PenAt H0 p n) : LinI H0 p D n m ks 0 [] (upd H0 D (.lst [])) :=
  ⟨[], rfl, rfl, rfl, (fun y hy => absurd hy List.not_mem_nil), upd_same, off_same (same_upd hD), hp.same (same_upd hD)⟩
theorem LinI.len {H0 H : Hp} {p D : Addr} {n i : Nat} {m : Int} {ks : En (At Str)} {ys : List V} (h : LinI H0 p D n m ks i ys H) : ys.length ≤ i := by
  obtain ⟨rs, rfl, h1, _⟩ := h
  unfold lnV
  rw [List.length_map, h1]
  exact Nat.le_refl _
theorem LinI.next {H0 H H' : Hp} {p D : Addr} {n i : Nat} {m o : Int} {ks : En (At Str)} {ys : List V} {q : Addr × At Str} (h : LinI H0 p D n m ks i ys H) (hD : H0 D = none) (hDp : D ≠ p) (hq : ks[i]? = some q) (ok : OkA q.2) (o1 : 1 ≤ o) (om : o ≤ m) (m9 : m ≤ 9)
    (of : Off p H H') (pen : PenAt H' p (n + i + 1)) : H' D = some (.lst ys) ∧ LinI H0 p D n m ks (i + 1) (ys ++ [.str (lineR (q.2.1, q.2.2.1, q.2.2.2, o))]) (upd H' D (.lst (ys ++ [.str (lineR (q.2.1, q.2.2.1, q.2.2.2, o))]))) := by
  obtain ⟨rs, rfl, h1, h2, h3, h4, h5, h6⟩ := h
  refine ⟨of _ _ hDp h4, rs ++ [(q.2.1, q.2.2.1, q.2.2.2, o)], ?_, ?_, ?_, fun r hr => ?_, upd_same, off_new (h5.trans of) hD, pen_new (pen.mono (by omega)) hDp⟩
  · unfold lnV
    rw [List.map_append] <;> rfl
  · rw [List.length_append, List.length_singleton, h1]
  · rw [List.map_append, h2, List.take_add_one, List.getElem?_map, hq] <;> rfl
  · rcases List.mem_append.mp hr with hr | hr
    · exact h3 r hr
    · rw [List.mem_singleton.mp hr]
      exact ⟨⟨ok.1, ⟨ok.2.1, ok.2.2.1⟩, ⟨ok.2.2.2.1, ok.2.2.2.2⟩, o1, (show o ≤ 9 by omega)⟩, om⟩
/-- lines with their ends -/
def leV (rs : List (Rw Str)) : List V := rs.map fun r => V.str (lineR r ++ "\n")
theorem leV_str (rs : List (Rw Str)) : leV rs = (rs.map fun r => lineR r ++ "\n").map V.str := by
  unfold leV
  rw [List.map_map] <;> rfl
theorem lnV_len (rs : List (Rw Str)) : (lnV rs).length = rs.length := List.length_map _
theorem leV_len (rs : List (Rw Str)) : (leV rs).length = rs.length := List.length_map _
theorem lnV_at {rs : List (Rw Str)} {i : Nat} {x : V} (h : (lnV rs)[i]? = some x) : ∃ r, r ∈ rs ∧ x = .str (lineR r) ∧ (leV rs)[i]? = some (.str (lineR r ++ "\n")) := by
  unfold lnV at h
  unfold leV
  rw [List.getElem?_map] at h ⊢
  cases e : rs[i]? with
  | none => rw [e] at h; cases h
  | some r =>
    rw [e] at h
    exact ⟨r, List.mem_of_getElem? e, (Option.some.inj h).symm, rfl⟩
theorem le_sum {rs : List (Rw Str)} (ok : ∀ r ∈ rs, OkR9 r) (h12 : rs.length ≤ 12) : ((rs.map fun r => lineR r ++ "\n").map (·.length)).sum + (rs.map fun r => lineR r ++ "\n").length * ("" : Str).length ≤ 16777216 := by
  have h := sum_le (f := fun x : Str => x.length) (m := 8) (xs := rs.map fun r => lineR r ++ "\n") fun x hx => by
    obtain ⟨p, hp, rfl⟩ := List.mem_map.mp hx
    rw [line_nl (ok p hp)]
    exact Nat.le_refl _
  rw [List.length_map] at h ⊢
  rw [show ("" : Str).length = 0 by decide +kernel]
  omega
theorem le_cat {r : Rw Str} (h : OkR9 r) : (lineR r).length + ("\n" : Str).length ≤ sizeLine := by
  rw [lineR_len h, show ("\n" : Str).length = 1 by decide +kernel, sizeLine_eq]
  omega
def sp_ltable (K : PySem.W.Frag) : Sp := fun vs H Q _ => ∃ (p : Addr) (n : Nat), vs = [.ref p] ∧ PenAt H p n ∧ n + 30 < 100000 ∧ ∀ (t : Addr) (rs : En (Rw Str)) H', Off p H H' → H t = none → TAt K H' t rs → PenAt H' p (n + 30) → Q (.ref t) H'
section
variable {P : Program} {w : World} {K : PySem.W.Frag} {mg : Str → Option Value} {base : Heap}

theorem sc__law_table : FnScope ["_law_pen_here", "_law_some", "_law_keys", "_law_lines", "_law_turn", "_law_kind", "_law_left", "_law_right_here", "_law_line"] ["_law_pen_here"] (defScope s__law_table) := ⟨rfl, rfl, rfl, by decide +kernel, rfl, by decide +kernel, by decide +kernel⟩
theorem ok__law_table (T : Txt K mg) : Ok P w K mg base 9 "_law_table" ["_law_pen_here"] (sp_ltable K) := by
  have S := sc__law_table
  have OD : Ok P w K mg base 1 "_law_draw" ["_law_pen_here", "_law_many"] sp_draw := ok__law_draw T
  have FT : FnR P w K mg base CX0 8 (wr K "Table" "classmethod" "read") (sp_readT K) := (ok_Table_read T).fnr
  refine mkOk T.d__law_table S (fun _ _ _ _ _ _ us hl => match us, hl with | [_], _ => rfl) (fun vs H Q E h => ?_) (fun cdv A outer s H vs Q E hr h => ?_)
  · obtain ⟨p, n, rfl, _⟩ := h
    rfl
  · obtain ⟨p, n, rfl, hp, hn, q⟩ := h
    have hu64 := (un64 hr)
    have hu16 := hu16_of hr
    refine ⟨_, (pss_cons (ps_setLc (i := 1) (own := [("_law_turn", 4)]) rfl S.nd rfl rfl (sw_true rfl rfl rfl (by decide +kernel)) (pi_range1 (by rfl) T.f_range (pa_cons (pcl OD (hr.mono (by decide)) (pa_cons (pv 0) (pa_cons pe_int pa_nil))) pa_nil)) (blkOk_by (N := ["_law_pen_here", "_law_some", "_law_keys", "_law_lines", "_law_turn", "_law_kind", "_law_left", "_law_right_here", "_law_line"]) (sc := defScope s__law_table) (by decide +kernel)) (fun _ _ _ _ _ => (pg_name (i := 4) S.nd rfl (Or.inl rfl))) (fun _ _ _ _ _ => pts_nil) (fun _ _ _ _ _ => (pe_tup (pa_cons (pe_ix ix_str pe_str (pcl OD (hr.mono (by decide)) (pa_cons (pv 0) (pa_cons pe_int pa_nil))) (fun _ _ => rfl)) (pa_cons (pcl OD (hr.mono (by decide)) (pa_cons (pv 0) (pa_cons pe_int pa_nil))) (pa_cons (pcl OD (hr.mono (by decide)) (pa_cons (pv 0) (pa_cons pe_int pa_nil))) pa_nil)))))) (pss_cons (ps_set (i := 2) S.nd rfl (.inl rfl) (pe_callB (cr_sortedM rfl hu16) (by rfl) T.f_sorted (by decide +kernel) (pa_cons (pe_callTy (cr_setM rfl hu64) (by rfl) T.f_set (by decide +kernel) (pa_cons (pv 1) pa_nil)) pa_nil))) (pss_cons (ps_setLc (i := 3) (own := [("_law_kind", 5), ("_law_left", 6), ("_law_right_here", 7)]) (te := teL K 0 5 6 7 9) (g := gTup K 3 (gCons (gName 5) (gCons (gName 6) (gCons (gName 7) gNil)))) rfl S.nd rfl rfl (sw_true rfl rfl rfl (by decide +kernel)) (pi_sd (pv 2)) (blkOk_by (N := ["_law_pen_here", "_law_some", "_law_keys", "_law_lines", "_law_turn", "_law_kind", "_law_left", "_law_right_here", "_law_line"]) (sc := defScope s__law_table) (by decide +kernel)) (fun _ _ _ _ _ => (pg_tup rfl (pgs_cons (pg_name (i := 5) S.nd rfl (Or.inl rfl)) (pgs_cons (pg_name (i := 6) S.nd rfl (Or.inl rfl)) (pgs_cons (pg_name (i := 7) S.nd rfl (Or.inl rfl)) pgs_nil))))) (fun _ _ _ _ _ => pts_nil) (fun _ _ _ _ _ => (pe_join pe_str (pe_lst (pa_cons (pv 5) (pa_cons (pe_callTy call_str_int (by rfl) T.f_str (by decide +kernel) (pa_cons (pv 6) pa_nil)) (pa_cons (pe_callTy call_str_int (by rfl) T.f_str (by decide +kernel) (pa_cons (pv 7) pa_nil)) (pa_cons (pe_callTy call_str_int (by rfl) T.f_str (by decide +kernel) (pa_cons (pe_op op_add pe_int (pcl OD (hr.mono (by decide)) (pa_cons (pv 0) (pa_cons pe_int pa_nil)))) pa_nil)) pa_nil)))))))) (pss_one (ps_ret (ClX.pe_cmeth (pe_glob (by rfl) T.g_Table (show RelV (.ref (ad K "Table")) _ from rfl)) T.rr_Table T.rm_Table FT (hr.mono (by decide)) pass0 (pa_cons (pe_join pe_str (pe_lc (own := [("_law_line", 8)]) rfl S.nd (pi_sd (pv 3)) (blkOk_by (N := ["_law_pen_here", "_law_some", "_law_keys", "_law_lines", "_law_turn", "_law_kind", "_law_left", "_law_right_here", "_law_line"]) (sc := defScope s__law_table) (by decide +kernel)) (fun _ _ _ _ _ => (pg_name (i := 8) S.nd rfl (Or.inl rfl))) (fun _ _ _ _ _ => pts_nil) (fun _ _ _ _ _ => (pe_op op_add_str (pv 8) pe_str)))) pa_nil))))))), ?_⟩
    refine ⟨_, rfl, p, _, n, rfl, by decide, by decide, by omega, hp, fun cn H1 c0 cm of1 pen1 => ?_⟩
    refine ⟨_, rfl, by omega, by omega, fun D hD => ?_⟩
    have hDp : D ≠ p := pen_ne (H1 := H) pen1 hD
    refine lc_mapP (walk_range (lo := 0) (n := cn.toNat)) (AtI H1 p D (n + 1)) (AtI.zero hD pen1) (fun _ _ _ _ => trivial) (fun i ys H5 h5 => by rw [h5.1]; exact Nat.le_refl _) (by rw [sizeLine_eq]; omega) (fun i x H5 H5' ys hi h5 hy Q' k' => ?_) fun H5 ys h5 => ?_
    · obtain ⟨rfl, rfl⟩ := hy
      have pen5 : PenAt H5' p (n + 1 + 3 * i) := h5.2.2.2.2
      have hi7 : i < 7 := by omega
      refine ⟨rfl, _, rfl, p, _, _, rfl, by decide, by decide, ?_, pen5, fun d1 H6 d10 d1m of6 pen6 => ?_⟩
      · omega
      have aab : isWd "AAB" := .inr (.inr (.inl rfl))
      obtain ⟨c, hc, kc⟩ := wd_at aab d10 (show d1 < (("AAB" : Str).length : Nat) by rw [show ("AAB" : Str).length = 3 by decide +kernel]; exact d1m)
      refine ⟨_, _, c, rfl, rfl, (show ("AAB" : Str).length ≤ sizeLine by rw [show ("AAB" : Str).length = 3 by decide +kernel]; decide), hc, ?_⟩
      refine ⟨_, rfl, p, _, _, rfl, by decide, by decide, ?_, pen6, fun d2 H7 d20 d2m of7 pen7 => ?_⟩
      · omega
      refine ⟨_, rfl, p, _, _, rfl, by decide, by decide, ?_, pen7, fun d3 H8 d30 d3m of8 pen8 => ?_⟩
      · omega
      refine ⟨(show (3 : Nat) ≤ sizeLine by decide), fun t ht => ?_⟩
      have st := same_upd (o := .tup [.str ⟨#[c]⟩, .int d2, .int d3]) ht
      have nx := h5.next (b := (⟨#[c]⟩, d2, d3)) hD hDp ((of6.trans (of7.trans of8)).trans (off_same st)) (pen8.same st) ⟨kc, d20, (show d2 ≤ 9 by omega), d30, (show d3 ≤ 9 by omega)⟩ upd_same
      exact k' _ _ nx.1 nx.2
    obtain ⟨hl5, hy5, hD5, of5, pen5⟩ := h5
    obtain ⟨es, rfl, hlay, hok⟩ := en_ex hy5
    have hcn : es.length ≤ 6 := by rw [refs_len] at hl5; omega
    refine ⟨_, rfl, false, D, entK es, rfl, .inr ⟨rfl, SqL.of (by rw [entK_refs]; exact hD5)⟩, fun r hr => ?_, by unfold entK; rw [List.length_map]; omega, fun g L hg hsub hall nd => ?_⟩
    · obtain ⟨z, hz, rfl⟩ := List.mem_map.mp hr
      exact SqT.of (hlay z hz)
    have sg := same_upd (o := SetMO P w g L) hg
    obtain ⟨al, ne⟩ := al_keys hsub
    refine ⟨g, L, rfl, upd_same, fun r hr => ?_, al, ne, fun L' kl pm pw hkl0 => ?_⟩
    · obtain ⟨z, hz, rfl⟩ := List.mem_map.mp (hsub r hr)
      exact SqT.of (sg _ _ (hlay z hz))
    obtain ⟨ks, ek, kin, knd, kmem, kasc⟩ := keys_of (fun r hr => ok99_of (hok r hr)) hsub hall nd pm pw
    rw [ek]
    have sk := sg.trans (same_upd (o := .lst (refs ks)) hkl0)
    have hkl : (upd (upd H5 g (SetMO P w g L)) kl (.lst (refs ks))) kl = some (.lst (refs ks)) := upd_same
    have pk := pen5.same sk
    have hklp : kl ≠ p := pen_ne (H1 := H) (pen5.same sg) hkl0
    have hlk : Lay aV (upd (upd H5 g (SetMO P w g L)) kl (.lst (refs ks))) ks := fun r hr => sk _ _ (hlay r (kin r hr))
    have hokk : ∀ r ∈ ks, OkA r.2 := fun r hr => hok r (kin r hr)
    have kl6 : ks.length ≤ 6 := by
      have h1 := nodup_leA knd (ns := es.map (·.2)) fun x hx => (kmem x).1 hx
      rw [List.length_map, List.length_map] at h1
      omega
    have ofk := (of1.trans of5).trans (off_same sk)
    refine ⟨_, rfl, false, kl, rfl, ⟨_, sd_of (t := false) hkl⟩, fun D2 hD2 => ?_⟩
    have hD2p : D2 ≠ p := pen_ne (H1 := H) pk hD2
    refine lc_mapP (te := teL K 0 5 6 7 9) (tsd_walk (K := K) (t := false) (a := kl) (xs := refs ks)) (LinI (upd (upd H5 g (SetMO P w g L)) kl (.lst (refs ks))) p D2 (n + 1 + 3 * cn.toNat) 9 ks) (LinI.zero hD2 pk) (fun i ys H5 h5 => sd_of (t := false) ?_) (fun i ys H5 h5 => h5.len) (by rw [refs_len, sizeLine_eq]; omega) (fun i x H5 H5' ys hi h5 hy Q' k' => ?_) fun H5 ys h5 => ?_
    · obtain ⟨_, _, _, _, _, _, of5, _⟩ := h5
      exact of5 _ _ hklp hkl
    · obtain ⟨rfl, hx⟩ := hy
      obtain ⟨qq, hq, rfl⟩ := refs_at hx
      have hm := List.mem_of_getElem? hq
      have okq := hokk qq hm
      have hi4 : i < ks.length := by rw [refs_len] at hi; exact hi
      have of5 : Off p (upd (upd H5 g (SetMO P w g L)) kl (.lst (refs ks))) H5' := by obtain ⟨_, _, _, _, _, _, of5, _⟩ := h5; exact of5
      have pen5 : PenAt H5' p (n + 1 + 3 * cn.toNat + i) := by obtain ⟨_, _, _, _, _, _, _, pen5⟩ := h5; exact pen5
      refine ⟨_, _, rfl, SqT.of (of5.pen pk (hlk qq hm)), rfl, _, _, rfl, _, _, rfl, _, _, rfl, rfl, rfl, ?_⟩
      refine teL_ok (p := p) (n := n + 1 + 3 * cn.toNat + i) rfl rfl rfl rfl okq.1 ⟨okq.2.1, okq.2.2.1⟩ ⟨okq.2.2.2.1, okq.2.2.2.2⟩ (by decide) (by decide) (by omega) pen5 fun o H6 o1 om of6 pen6 => ?_
      have nx := h5.next hD2 hD2p hq okq o1 om (by decide) of6 pen6
      exact k' _ _ nx.1 nx.2
    obtain ⟨rs, rfl, rl, rk, rok, hD3, of5, pen5⟩ := h5
    rw [refs_len] at rl rk pen5
    rw [List.take_of_length_le (by rw [List.length_map]; exact Nat.le_refl _)] at rk
    have ofe := ofk.trans of5
    refine ⟨rfl, ⟨_, rfl⟩, _, rfl, false, D2, rfl, ⟨_, sd_of (t := false) hD3⟩, fun D4 hD4 => ?_⟩
    refine lc_mapS (tsd_walk (K := K) (t := false) (a := D2) (xs := lnV rs)) (fun i y H => (leV rs)[i]? = some y) hD4 (fun H6 s6 => sd_of (t := false) (s6 _ _ hD3)) (fun i y H H' acc _ _ e => e) (by rw [lnV_len, sizeLine_eq]; omega) (fun i x H6 H6' hi s6 hy Q' k' => ?_) fun H6 ys s6 hDl hlen hR => ?_
    · obtain ⟨rfl, hx⟩ := hy
      obtain ⟨r, hr, rfl, e⟩ := lnV_at hx
      exact ⟨rfl, _, rfl, _, _, rfl, rfl, le_cat (rok r hr).1, k' _ _ (Same.refl _) e⟩
    · have eys : ys = (rs.map fun r => lineR r ++ "\n").map V.str := by
        rw [← leV_str]
        exact ext_at (by rw [hlen, lnV_len, leV_len]) hR
      refine ⟨_, D4, rs.map fun r => lineR r ++ "\n", rfl, rfl, .inl (SqL.of (by rw [← eys]; exact hDl)), le_sum (fun r hr => (rok r hr).1) (by omega), ?_⟩
      refine ⟨rs, rfl, fun r hr => (rok r hr).1, by rw [rk]; exact knd, (List.pairwise_map (f := key) (R := fun a b => numA a < numA b)).mp (by rw [rk]; exact kasc), by omega, fun t es7 H7 s7 ht hT em => ?_⟩
      have htp : t ≠ p := pen_ne (H1 := H) (pen5.same s6) ht
      exact q t es7 H7 (ofe.trans (off_same (s6.trans s7))) (off_none (ofe.trans (off_same s6)) htp ht) hT (((pen5.same s6).same s7).mono (by omega))
end
end CA
set_option Elab.async false
set_option linter.all false
set_option maxRecDepth 100000
set_option maxHeartbeats 1000000
namespace CA
open PySem PySem.Spec PyProof.Rows L2 TL
/-! ### alike_right, apart_right -/
theorem ne_kind {H : Hp} {p q : Addr} {n : Nat} {o : HO} (h : PenAt H p n) (e : H q = some o) (hne : ∀ xs, o ≠ .lst xs) : q ≠ p := fun z => by
  subst z
  obtain ⟨_, _, _, e', _⟩ := h
  rw [e] at e'
  exact hne _ (Option.some.inj e')
theorem QAt.off {K : PySem.W.Frag} {H H' : Hp} {p q : Addr} {n : Nat} {es : En (At Str)} (h : QAt K H q es) (hp : PenAt H p n) (o : Off p H H') : QAt K H' q es := by
  obtain ⟨⟨dx, kp, h1, h2⟩, h3, h4, h5, h6⟩ := h
  exact ⟨⟨dx, kp, o _ _ (ne_kind hp h1 fun _ z => by cases z) h1, o.pen hp h2⟩, h3.off hp o, h4, h5, h6⟩
def sp_alike_right (K : PySem.W.Frag) : Sp := fun vs H Q _ => ∃ (p a b : Addr) (es fs : En (At Str)) (n : Nat), vs = [.ref p, .ref a, .ref b] ∧ QAt K H a es ∧ QAt K H b fs ∧ (∀ rs : List (Rw Str), cnt (es.map (·.2)) rs = cnt (fs.map (·.2)) rs) ∧ PenAt H p n ∧ n + 140 < 100000 ∧
  ∀ H', Off p H H' → PenAt H' p (n + 140) → Q (.bl true) H'
def sp_apart_right (K : PySem.W.Frag) : Sp := fun vs H Q _ => ∃ (a b t : Addr) (es fs : En (At Str)) (rs : En (Rw Str)), vs = [.ref a, .ref b, .ref t] ∧ QAt K H a es ∧ QAt K H b fs ∧ TAt K H t rs ∧ NoRen (es.map (·.2)) (fs.map (·.2)) ∧ Told (es.map (·.2)) (fs.map (·.2)) (rs.map (·.2)) ∧
  ∀ H', Same H H' → Q (.bl true) H'
section
variable {P : Program} {w : World} {K : PySem.W.Frag} {mg : Str → Option Value} {base : Heap}

theorem sc__law_alike_right : FnScope ["_law_pen_here", "_law_one", "_law_other", "_law_turn", "_law_made", "_law_atoms", "_law_lines", "_law_kind", "_law_left", "_law_right_here", "_law_line"] ["_law_pen_here", "_law_one", "_law_other"] (defScope s__law_alike_right) := ⟨rfl, rfl, rfl, by decide +kernel, rfl, by decide +kernel, by decide +kernel⟩
theorem ok__law_alike_right (T : Txt K mg) : Ok P w K mg base 10 "_law_alike_right" ["_law_pen_here", "_law_one", "_law_other"] (sp_alike_right K) := by
  have S := sc__law_alike_right
  have OD : Ok P w K mg base 1 "_law_draw" ["_law_pen_here", "_law_many"] sp_draw := ok__law_draw T
  have OT : Ok P w K mg base 9 "_law_table" ["_law_pen_here"] (sp_ltable K) := ok__law_table T
  have FT : FnR P w K mg base CX0 8 (wr K "Table" "classmethod" "read") (sp_readT K) := (ok_Table_read T).fnr
  have FC : FnR P w K mg base CX0 4 (me K "Question" "__call__") (sp_call K) := (ok_Question_call T).fnr
  have OA : OkM P w K mg base 1 (wr K "Question" "property" "atoms") ["self"] (sp_kept K "Question") := ok_Question_atoms T
  refine mkOk T.d__law_alike_right S (fun _ _ _ _ _ _ us hl => match us, hl with | [_, _, _], _ => rfl) (fun vs H Q E h => ?_) (fun cdv A outer s H vs Q E hr h => ?_)
  · obtain ⟨p, a, b, es, fs, n, rfl, _⟩ := h
    rfl
  · obtain ⟨p, a, b, es, fs, n, rfl, hA, hB, same, hp, hn, q⟩ := h
    have hu64 := (un64 hr)
    have hu16 := hu16_of hr
    refine ⟨_, (pss_cons (ps_for PassesOwn.never rfl (pi_range1 (by rfl) T.f_range (pa_cons pe_int pa_nil)) (pg_name (i := 3) S.nd rfl (Or.inl rfl)) (pss_cons (ps_set (i := 4) S.nd rfl (.inl rfl) (pcl OT hr (pa_cons (pv 0) pa_nil))) (pss_one (ps_if (pt_cmpR op_ne (StX.pe_callO (pv 1) T.c_call FC (hr.mono (by decide)) pass0 (pa_cons (pv 4) pa_nil)) (StX.pe_callO (pv 2) T.c_call FC (hr.mono (by decide)) pass0 (pa_cons (pv 4) pa_nil)) (nomark _)) (pss_one (ps_ret pe_bl)) pss_nil)))) (pss_cons (ps_set (i := 5) S.nd rfl (.inl rfl) (pe_callB (cr_sortedM rfl hu16) (by rfl) T.f_sorted (by decide +kernel) (pa_cons (pe_callTy (cr_setM rfl hu64) (by rfl) T.f_set (by decide +kernel) (pa_cons (pe_op op_catT (ppr (pv 1) T.ic_Question.cl T.p_Question_atoms OA (hr.mono (by decide))) (ppr (pv 2) T.ic_Question.cl T.p_Question_atoms OA (hr.mono (by decide)))) pa_nil)) pa_nil))) (pss_cons (ps_setLc (i := 6) (own := [("_law_kind", 7), ("_law_left", 8), ("_law_right_here", 9)]) (te := teL K 0 7 8 9 4) (g := gTup K 3 (gCons (gName 7) (gCons (gName 8) (gCons (gName 9) gNil)))) rfl S.nd rfl rfl (sw_true rfl rfl rfl (by decide +kernel)) (pi_sd (pv 5)) (blkOk_by (N := ["_law_pen_here", "_law_one", "_law_other", "_law_turn", "_law_made", "_law_atoms", "_law_lines", "_law_kind", "_law_left", "_law_right_here", "_law_line"]) (sc := defScope s__law_alike_right) (by decide +kernel)) (fun _ _ _ _ _ => (pg_tup rfl (pgs_cons (pg_name (i := 7) S.nd rfl (Or.inl rfl)) (pgs_cons (pg_name (i := 8) S.nd rfl (Or.inl rfl)) (pgs_cons (pg_name (i := 9) S.nd rfl (Or.inl rfl)) pgs_nil))))) (fun _ _ _ _ _ => pts_nil) (fun _ _ _ _ _ => (pe_join pe_str (pe_lst (pa_cons (pv 7) (pa_cons (pe_callTy call_str_int (by rfl) T.f_str (by decide +kernel) (pa_cons (pv 8) pa_nil)) (pa_cons (pe_callTy call_str_int (by rfl) T.f_str (by decide +kernel) (pa_cons (pv 9) pa_nil)) (pa_cons (pe_callTy call_str_int (by rfl) T.f_str (by decide +kernel) (pa_cons (pe_op op_add pe_int (pcl OD (hr.mono (by decide)) (pa_cons (pv 0) (pa_cons pe_int pa_nil)))) pa_nil)) pa_nil)))))))) (pss_cons (ps_set (i := 4) S.nd rfl (.inl rfl) (ClX.pe_cmeth (pe_glob (by rfl) T.g_Table (show RelV (.ref (ad K "Table")) _ from rfl)) T.rr_Table T.rm_Table FT (hr.mono (by decide)) pass0 (pa_cons (pe_join pe_str (pe_lc (own := [("_law_line", 10)]) rfl S.nd (pi_sd (pv 6)) (blkOk_by (N := ["_law_pen_here", "_law_one", "_law_other", "_law_turn", "_law_made", "_law_atoms", "_law_lines", "_law_kind", "_law_left", "_law_right_here", "_law_line"]) (sc := defScope s__law_alike_right) (by decide +kernel)) (fun _ _ _ _ _ => (pg_name (i := 10) S.nd rfl (Or.inl rfl))) (fun _ _ _ _ _ => pts_nil) (fun _ _ _ _ _ => (pe_op op_add_str (pv 10) pe_str)))) pa_nil))) (pss_one (ps_ret (pe_cmpR op_eq (StX.pe_callO (pv 1) T.c_call FC (hr.mono (by decide)) pass0 (pa_cons (pv 4) pa_nil)) (StX.pe_callO (pv 2) T.c_call FC (hr.mono (by decide)) pass0 (pa_cons (pv 4) pa_nil)) (nomark _)))))))), ?_⟩
    refine ⟨_, rfl, by decide, by decide, ?_⟩
    refine for_range (fun i σ H1 => ∃ v3 v4 : Option V, σ = [some (.ref p), some (.ref a), some (.ref b), v3, v4, none, none, none, none, none, none] ∧ Off p H H1 ∧ QAt K H1 a es ∧ QAt K H1 b fs ∧ PenAt H1 p (n + 30 * i)) ⟨none, none, rfl, (fun _ _ _ e => e), hA, hB, hp⟩ ?_ ?_
    · rintro i σ H1 hi ⟨v3, v4, rfl, of1, hA1, hB1, pen1⟩
      have hi4 : i < 4 := hi
      refine ⟨_, rfl, p, _, rfl, pen1, by omega, fun t rs H2 of2 ht hT pen2 => ?_⟩
      have hA2 := hA1.off pen1 of2
      have hB2 := hB1.off pen1 of2
      obtain ⟨dx, kp, hq, _⟩ := hA2.ins
      obtain ⟨dy, kq, hq2, _⟩ := hB2.ins
      refine ⟨_, rfl, a, rfl, _, rfl, .inr ⟨dx, _, hq⟩, a, t, es, rs, rfl, hA2, hT, fun H3 s3 => ?_⟩
      refine ⟨_, rfl, b, rfl, _, rfl, .inr ⟨dy, _, s3 _ _ hq2⟩, b, t, fs, rs, rfl, hB2.same s3, hT.same s3, fun H4 s4 => ⟨rfl, ?_⟩⟩
      refine ⟨false, congrArg V.bl (by rw [same]; simp), iteF ?_⟩
      have s34 := s3.trans s4
      exact ⟨_, _, rfl, (of1.trans of2).trans (off_same s34), hA2.same s34, hB2.same s34, (pen2.same s34).mono (by omega)⟩
    rintro σ H1 ⟨v3, v4, rfl, of1, hA1, hB1, pen1⟩
    obtain ⟨⟨dx, kp, hq, hk⟩, hl, hok, h1, h4⟩ := id hA1
    obtain ⟨⟨dy, kq, hq2, hk2⟩, hl2, hok2, g1, g4⟩ := id hB1
    refine ⟨_, rfl, a, dx, _, rfl, hq, a, dx, kp, rfl, hq, ?_⟩
    refine ⟨_, rfl, b, dy, _, rfl, hq2, b, dy, kq, rfl, hq2, ?_⟩
    refine ⟨kp, kq, refs es, refs fs, rfl, rfl, SqT.of hk, SqT.of hk2, (fun e => by have h0 := refs_len es; rw [e, List.length_nil] at h0; omega), by rw [refs_len, refs_len, sizeLine_eq]; omega, (fun e => by have h0 := refs_len fs; rw [e, List.length_nil] at h0; omega), fun _ u hu => ?_⟩
    have su := same_upd (o := .tup (refs es ++ refs fs)) hu
    have hU : (upd H1 u (.tup (refs es ++ refs fs))) u = some (.tup (refs (es ++ fs))) := by rw [refs_append]; exact upd_same
    have hlay : Lay aV (upd H1 u (.tup (refs es ++ refs fs))) (es ++ fs) := fun z hz => by
      rcases List.mem_append.mp hz with hz | hz
      · exact su _ _ (hl z hz)
      · exact su _ _ (hl2 z hz)
    have hokE : ∀ z ∈ es ++ fs, OkA z.2 := fun z hz => by
      rcases List.mem_append.mp hz with hz | hz
      · exact hok z hz
      · exact hok2 z hz
    generalize hgE : es ++ fs = gs at hU hlay hokE
    have gl : gs.length ≤ 8 := by rw [← hgE, List.length_append]; omega
    refine ⟨true, u, entK gs, rfl, .inl ⟨rfl, SqT.of (by rw [entK_refs]; exact hU)⟩, fun r hr => ?_, by unfold entK; rw [List.length_map]; omega, fun g L hg hsub hall nd => ?_⟩
    · obtain ⟨z, hz, rfl⟩ := List.mem_map.mp hr
      exact SqT.of (hlay z hz)
    have sg := same_upd (o := SetMO P w g L) hg
    obtain ⟨al, ne⟩ := al_keys hsub
    refine ⟨g, L, rfl, upd_same, fun r hr => ?_, al, ne, fun L' kl pm pw hkl0 => ?_⟩
    · obtain ⟨z, hz, rfl⟩ := List.mem_map.mp (hsub r hr)
      exact SqT.of (sg _ _ (hlay z hz))
    obtain ⟨ks, ek, kin, knd, kmem, kasc⟩ := keys_of (fun r hr => ok99_of (hokE r hr)) hsub hall nd pm pw
    rw [ek]
    have sk0 := sg.trans (same_upd (o := .lst (refs ks)) hkl0)
    have sk := su.trans sk0
    have pen1g := (pen1.same su).same sg
    have hklp : kl ≠ p := pen_ne (H1 := H) pen1g hkl0
    have hkl : (upd (upd (upd H1 u (.tup (refs es ++ refs fs))) g (SetMO P w g L)) kl (.lst (refs ks))) kl = some (.lst (refs ks)) := upd_same
    have pk := pen1.same sk
    have hlk : Lay aV (upd (upd (upd H1 u (.tup (refs es ++ refs fs))) g (SetMO P w g L)) kl (.lst (refs ks))) ks := fun r hr => sk0 _ _ (hlay r (kin r hr))
    have hokk : ∀ r ∈ ks, OkA r.2 := fun r hr => hokE r (kin r hr)
    have kl6 : ks.length ≤ 8 := by
      have h1 := nodup_leA knd (ns := gs.map (·.2)) fun x hx => (kmem x).1 hx
      rw [List.length_map, List.length_map] at h1
      omega
    have ofk := of1.trans (off_same sk)
    have hA2 := hA1.same sk
    have hB2 := hB1.same sk
    refine ⟨_, rfl, false, kl, rfl, ⟨_, sd_of (t := false) hkl⟩, fun D2 hD2 => ?_⟩
    have hD2p : D2 ≠ p := pen_ne (H1 := H) pk hD2
    refine lc_mapP (te := teL K 0 7 8 9 4) (tsd_walk (K := K) (t := false) (a := kl) (xs := refs ks)) (LinI (upd (upd (upd H1 u (.tup (refs es ++ refs fs))) g (SetMO P w g L)) kl (.lst (refs ks))) p D2 (n + 30 * 4) 4 ks) (LinI.zero hD2 pk) (fun i ys H5 h5 => sd_of (t := false) ?_) (fun i ys H5 h5 => h5.len) (by rw [refs_len, sizeLine_eq]; omega) (fun i x H5 H5' ys hi h5 hy Q' k' => ?_) fun H5 ys h5 => ?_
    · obtain ⟨_, _, _, _, _, _, of5, _⟩ := h5
      exact of5 _ _ hklp hkl
    · obtain ⟨rfl, hx⟩ := hy
      obtain ⟨qq, hq, rfl⟩ := refs_at hx
      have hm := List.mem_of_getElem? hq
      have okq := hokk qq hm
      have hi4 : i < ks.length := by rw [refs_len] at hi; exact hi
      have of5 : Off p (upd (upd (upd H1 u (.tup (refs es ++ refs fs))) g (SetMO P w g L)) kl (.lst (refs ks))) H5' := by obtain ⟨_, _, _, _, _, _, of5, _⟩ := h5; exact of5
      have pen5 : PenAt H5' p (n + 30 * 4 + i) := by obtain ⟨_, _, _, _, _, _, _, pen5⟩ := h5; exact pen5
      refine ⟨_, _, rfl, SqT.of (of5.pen pk (hlk qq hm)), rfl, _, _, rfl, _, _, rfl, _, _, rfl, rfl, rfl, ?_⟩
      refine teL_ok (p := p) (n := n + 30 * 4 + i) rfl rfl rfl rfl okq.1 ⟨okq.2.1, okq.2.2.1⟩ ⟨okq.2.2.2.1, okq.2.2.2.2⟩ (by decide) (by decide) (by omega) pen5 fun o H6 o1 om of6 pen6 => ?_
      have nx := h5.next hD2 hD2p hq okq o1 om (by decide) of6 pen6
      exact k' _ _ nx.1 nx.2
    obtain ⟨rs, rfl, rl, rk, rok, hD3, of5, pen5⟩ := h5
    rw [refs_len] at rl rk pen5
    rw [List.take_of_length_le (by rw [List.length_map]; exact Nat.le_refl _)] at rk
    have ofe := ofk.trans of5
    have hA5 := hA2.off pk of5
    have hB5 := hB2.off pk of5
    refine ⟨rfl, ⟨_, rfl⟩, _, rfl, false, D2, rfl, ⟨_, sd_of (t := false) hD3⟩, fun D4 hD4 => ?_⟩
    refine lc_mapS (tsd_walk (K := K) (t := false) (a := D2) (xs := lnV rs)) (fun i y H => (leV rs)[i]? = some y) hD4 (fun H6 s6 => sd_of (t := false) (s6 _ _ hD3)) (fun i y H H' acc _ _ e => e) (by rw [lnV_len, sizeLine_eq]; omega) (fun i x H6 H6' hi s6 hy Q' k' => ?_) fun H6 ys s6 hDl hlen hR => ?_
    · obtain ⟨rfl, hx⟩ := hy
      obtain ⟨r, hr, rfl, e⟩ := lnV_at hx
      exact ⟨rfl, _, rfl, _, _, rfl, rfl, le_cat (rok r hr).1, k' _ _ (Same.refl _) e⟩
    · have eys : ys = (rs.map fun r => lineR r ++ "\n").map V.str := by
        rw [← leV_str]
        exact ext_at (by rw [hlen, lnV_len, leV_len]) hR
      refine ⟨_, D4, rs.map fun r => lineR r ++ "\n", rfl, rfl, .inl (SqL.of (by rw [← eys]; exact hDl)), le_sum (fun r hr => (rok r hr).1) (by omega), ?_⟩
      refine ⟨rs, rfl, fun r hr => (rok r hr).1, by rw [rk]; exact knd, (List.pairwise_map (f := key) (R := fun a b => numA a < numA b)).mp (by rw [rk]; exact kasc), by omega, fun t es7 H7 s7 ht hT em => ?_⟩
      have s67 := s6.trans s7
      have hA7 := hA5.same s67
      have hB7 := hB5.same s67
      obtain ⟨dx7, kp7, hq7, _⟩ := hA7.ins
      obtain ⟨dy7, kq7, hq27, _⟩ := hB7.ins
      refine ⟨_, rfl, a, rfl, _, rfl, .inr ⟨dx7, _, hq7⟩, a, t, es, es7, rfl, hA7, hT, fun H8 s8 => ?_⟩
      refine ⟨_, rfl, b, rfl, _, rfl, .inr ⟨dy7, _, s8 _ _ hq27⟩, b, t, fs, es7, rfl, hB7.same s8, hT.same s8, fun H9 s9 => ⟨rfl, ?_⟩⟩
      have s89 := s67.trans (s8.trans s9)
      have e : decide (V.int (cnt (es.map (·.2)) (es7.map (·.2))) = V.int (cnt (fs.map (·.2)) (es7.map (·.2)))) = true := by
        rw [same]; simp
      show Q (V.bl (decide (V.int (cnt (es.map (·.2)) (es7.map (·.2))) = V.int (cnt (fs.map (·.2)) (es7.map (·.2)))))) _
      rw [e]
      exact q H9 (ofe.trans (off_same s89)) ((pen5.same s89).mono (by omega))
theorem sc__law_apart_right : FnScope ["_law_one", "_law_other", "_law_made", "_law_q", "_law_row"] ["_law_one", "_law_other", "_law_made"] (defScope s__law_apart_right) := ⟨rfl, rfl, rfl, by decide +kernel, rfl, by decide +kernel, by decide +kernel⟩
theorem ok__law_apart_right (T : Txt K mg) : Ok P w K mg base 9 "_law_apart_right" ["_law_one", "_law_other", "_law_made"] (sp_apart_right K) := by
  have S := sc__law_apart_right
  have FC : FnR P w K mg base CX0 4 (me K "Question" "__call__") (sp_call K) := (ok_Question_call T).fnr
  have OA : OkM P w K mg base 1 (wr K "Question" "property" "atoms") ["self"] (sp_kept K "Question") := ok_Question_atoms T
  have OV : OkM P w K mg base 2 (wr K "Question" "property" "variables") ["self"] (sp_vars K) := ok_Question_variables T
  have ORw : OkM P w K mg base 1 (wr K "Table" "property" "rows") ["self"] (sp_kept K "Table") := ok_Table_rows T
  have OG : OkG P w K mg base 5 "renamings" ["one", "other"] (spg_renamings K) := ok_renamings T
  have OS : Ok P w K mg base 5 "shows_alike" ["one", "other", "thing"] (sp_shows K) := ok_shows_alike T
  refine mkOk T.d__law_apart_right S (fun _ _ _ _ _ _ us hl => match us, hl with | [_, _, _], _ => rfl) (fun vs H Q E h => ?_) (fun cdv A outer s H vs Q E hr h => ?_)
  · obtain ⟨a, b, t, es, fs, rs, rfl, _⟩ := h
    rfl
  · obtain ⟨a, b, t, es, fs, rs, rfl, hA, hB, hT, hno, told, k⟩ := h
    have hu64 := (un64 hr)
    have hu65 := hu65 hr
    obtain ⟨⟨dx, kp, hq, hk⟩, hl, hok, h1, h4⟩ := id hA
    obtain ⟨⟨dy, kq, hq2, hk2⟩, hl2, hok2, g1, g4⟩ := id hB
    refine ⟨_, (C8.pss_cut (ps_set (i := 3) S.nd rfl (.inr rfl) (pe_ifExp (pt_cmpR op_gt (pe_callB call_len_seq (by rfl) T.f_len (by decide +kernel) (pa_cons (ppr (pv 1) T.ic_Question.cl T.p_Question_variables OV (hr.mono (by decide))) pa_nil)) (pe_callB call_len_seq (by rfl) T.f_len (by decide +kernel) (pa_cons (ppr (pv 0) T.ic_Question.cl T.p_Question_variables OV (hr.mono (by decide))) pa_nil)) (nomark _)) (pv 1) (pv 0))) (pss_cons (ps_if (PW.pt (pw_or (pt_cmpR (op_neD hu64) (pe_lc (own := [("_law_row", 4)]) (tt := (tOr (tTest (tOp (rNotInT K) (tSl (rSlA K) (tVar 4) tNoPart (tPart (tC (.int 3)))) (tProp (ad K "Question") (sp_kept K "Question") [] E0 (tVar 3)))) (tTest (tOp (rI0 fun i j => .bl (decide (j < i))) (tOp (rIxT K) (tVar 4) (tC (.int 3))) (tC (.int 4)))))) rfl S.nd (pi_sd (ppr (pv 2) T.ic_Table.cl T.p_Table_rows ORw (hr.mono (by decide)))) (blkOk_by (N := ["_law_one", "_law_other", "_law_made", "_law_q", "_law_row"]) (sc := defScope s__law_apart_right) (by decide +kernel)) (fun _ _ _ _ _ => (pg_name (i := 4) S.nd rfl (Or.inl rfl))) (fun _ _ _ _ _ => (pts_one (PW.pt (pw_or (pt_cmpR (op_notInT hu65) (pe_slice sl_tupA (pv 4) po_none (po_some pe_int)) (ppr (pv 3) T.ic_Question.cl T.p_Question_atoms OA (hr.mono (by decide))) (by rfl)) (pw_or1 (pt_cmpR op_gt (pe_ix ix_tup (pv 4) pe_int (fun _ _ => rfl)) pe_int (nomark _))))))) (fun _ _ _ _ _ => pe_int)) (pe_lst pa_nil) (nomark _)) (pw_or1 (pt_cmpR (op_neD hu64) (plg OG (hr.mono (by decide)) (pa_cons (pv 0) (pa_cons (pv 1) pa_nil)) T.f_list) (pe_lst pa_nil) (nomark _))))) (pss_one (ps_ret pe_bl)) pss_nil) (pss_one (ps_ret (pe_and (pe_cmpR op_ne (StX.pe_callO (pv 0) T.c_call FC (hr.mono (by decide)) pass0 (pa_cons (pv 2) pa_nil)) (StX.pe_callO (pv 1) T.c_call FC (hr.mono (by decide)) pass0 (pa_cons (pv 2) pa_nil)) (nomark _)) (pe_one (pcl OS (hr.mono (by decide)) (pa_cons (pv 1) (pa_cons (pv 0) (pa_cons (pe_tup (pa_cons pe_str (pa_cons (pv 2) pa_nil))) pa_nil)))))))))), ?_⟩
    refine ⟨fun σ' H2 => ∃ (q : Addr) (gs : En (At Str)), σ' = [some (.ref a), some (.ref b), some (.ref t), some (.ref q), none] ∧ Same H H2 ∧ QAt K H2 q gs ∧ (∀ x, inQ (es.map (·.2)) (fs.map (·.2)) x → x ∈ gs.map (·.2)), ?_, ?_⟩
    · refine ⟨_, rfl, b, dy, _, rfl, hq2, b, fs, rfl, hB, fun pb nb H1 s1 hpb hnb htb => ?_⟩
      refine ⟨_, _, rfl, .inr (SqT.of htb), ?_⟩
      refine ⟨_, rfl, a, dx, _, rfl, s1 _ _ hq, a, es, rfl, hA.same s1, fun pa na H2 s2 hpa hna hta => ?_⟩
      have s12 := s1.trans s2
      refine ⟨_, _, rfl, .inr (SqT.of hta), _, _, rfl, rfl, decide (na.length < nb.length), congrArg V.bl (by rw [List.length_map, List.length_map]; exact decide_eq_decide.mpr (by omega)), ?_⟩
      refine ite2 (fun hlt => ?_) (fun hlt => ?_)
      · have hlt : na.length < nb.length := of_decide_eq_true hlt
        refine ⟨_, rfl, ⟨b, fs, rfl, s12, hB.same s12, fun x hx => ?_⟩⟩
        have := hx na nb hna hnb
        rw [if_pos hlt] at this
        exact this
      · have hlt : ¬ na.length < nb.length := of_decide_eq_false (by simpa using hlt)
        refine ⟨_, rfl, ⟨a, es, rfl, s12, hA.same s12, fun x hx => ?_⟩⟩
        have := hx na nb hna hnb
        rw [if_neg hlt] at this
        exact this
    · rintro σ' H2 ⟨q, gs, rfl, s2, hG, hin⟩
      have hT2 := hT.same s2
      have hA2 := hA.same s2
      have hB2 := hB.same s2
      obtain ⟨⟨dt, kt, ht, hkt⟩, hlt, hokt, ndt, h12⟩ := id hT2
      refine ⟨_, rfl, t, dt, _, rfl, ht, t, dt, kt, rfl, ht, true, kt, rfl, ⟨_, sd_of (t := true) hkt⟩, fun D hD => ?_⟩
      refine lc_mapT (tt := tOr (tTest (tOp (rNotInT K) (tSl (rSlA K) (tVar 4) tNoPart (tPart (tC (.int 3)))) (tProp (ad K "Question") (sp_kept K "Question") [] E0 (tVar 3)))) (tTest (tOp (rI0 fun i j => .bl (decide (j < i))) (tOp (rIxT K) (tVar 4) (tC (.int 3))) (tC (.int 4))))) (tsd_walk (K := K) (t := true) (a := kt) (xs := refs rs)) (fun i ys H => ys = []) hD (fun H3 s3 => sd_of (t := true) (s3 _ _ hkt)) (fun i ys H H' acc _ _ e => e) (by rw [refs_len, sizeLine_eq]; omega) rfl (fun i x H3 H3' ys hi _ s3 hDl eys hy Q' Qn hQ hQn => ?_) fun H3 ys s3 hDl _ eys => ?_
      · obtain ⟨rfl, hx⟩ := hy
        obtain ⟨qq, hq0, rfl⟩ := refs_at hx
        have hm := List.mem_of_getElem? hq0
        obtain ⟨in1, of1⟩ := told.q qq.2 (List.mem_map.mpr ⟨qq, hm, rfl⟩)
        have hr3 := s3 _ _ (hlt qq hm)
        have okr := hokt qq hm
        refine ⟨rfl, _, rfl, _, rfl, _, _, rfl, SqT.of hr3, (fun q => absurd q (show ¬ (HT.sIx 4 0 none = 0 ∧ HT.sIx 4 4 (some 3) = 4) by decide +kernel)), fun _ z hz => ?_⟩
        have sz := same_upd (o := .tup (cutV (rV qq.2) none (some 3))) hz
        have hG3 := (hG.same s3).same sz
        obtain ⟨⟨dz, kr, hq3, hk3⟩, hl3, hok3, _, _⟩ := hG3
        have kin : key qq.2 ∈ gs.map (·.2) := hin _ in1
        refine ⟨_, rfl, q, dz, _, rfl, hq3, q, dz, kr, rfl, hq3, ?_⟩
        refine ⟨keyD (key qq.2), (gs.map (·.2)).map keyD, dp_key upd_same, .tup (SqT.of hk3) (dp_keys hl3), sh_key okr.1, sh_keys_t (fun x hx => ?_), !true, congrArg V.bl ?_, iteF ?_⟩
        · obtain ⟨y, hy, rfl⟩ := List.mem_map.mp hx
          exact (hok3 y hy).1
        · congr 1
          rw [List.any_eq_true]
          exact ⟨keyD (key qq.2), List.mem_map.mpr ⟨_, kin, rfl⟩, by rw [eqv_keyD]; exact decide_eq_true rfl⟩
        refine ⟨_, rfl, _, _, _, V.int (oft qq.2), rfl, rfl, SqT.of (sz _ _ hr3), rfl, _, _, rfl, rfl, false, congrArg V.bl (decide_eq_false (by omega)), iteF ?_⟩
        exact hQn _ sz eys
      subst eys
      have hDl3 : H3 D = some (.lst []) := hDl
      refine ⟨Nat.zero_le _, fun Z hZ => ?_⟩
      have sZ := same_upd (o := .lst []) hZ
      refine ⟨.list [], .list [], .lst (SqL.of (sZ _ _ hDl3)) .nil, .lst (SqL.of upd_same) .nil, sh_nil, sh_nil, false, congrArg V.bl (by rw [eqv_nil] <;> rfl), iteF ?_⟩
      have s4 := s3.trans sZ
      have hA4 := hA2.same s4
      have hB4 := hB2.same s4
      refine ⟨_, rfl, _, rfl, a, b, es, fs, rfl, hA4, hB4, fun ts H5 s5 hlay hren => fun L hL => ?_⟩
      have ets : ts = [] := by
        obtain ⟨ns, hns⟩ := vars_ex (es.map (·.2))
        cases ts with
        | nil => rfl
        | cons z ts =>
          have := ((hren ns hns).mem z.2).1 List.mem_cons_self
          exact absurd ⟨z.2, this⟩ (hno ns hns)
      subst ets
      have sL := same_upd (o := .lst (refs ([] : En (List Int)))) hL
      refine ⟨Nat.zero_le _, fun Y hY => ?_⟩
      have sY := same_upd (o := .lst []) hY
      refine ⟨.list [], .list [], .lst (SqL.of (sY _ _ upd_same)) .nil, .lst (SqL.of upd_same) .nil, sh_nil, sh_nil, false, congrArg V.bl (by rw [eqv_nil] <;> rfl), iteF ?_⟩
      have s6 := s5.trans (sL.trans sY)
      have s46 := s4.trans s6
      have hA6 := hA4.same s6
      have hB6 := hB4.same s6
      have hT6 := hT2.same s46
      obtain ⟨dx6, kp6, hq6, _⟩ := hA6.ins
      obtain ⟨dy6, kq6, hq26, _⟩ := hB6.ins
      refine ⟨_, rfl, a, rfl, _, rfl, .inr ⟨dx6, _, hq6⟩, a, t, es, rs, rfl, hA6, hT6, fun H7 s7 => ?_⟩
      refine ⟨_, rfl, b, rfl, _, rfl, .inr ⟨dy6, _, s7 _ _ hq26⟩, b, t, fs, rs, rfl, hB6.same s7, hT6.same s7, fun H8 s8 => ⟨rfl, ?_⟩⟩
      have hne : ¬ V.int (cnt (es.map (·.2)) (rs.map (·.2))) = V.int (cnt (fs.map (·.2)) (rs.map (·.2))) := fun e => by injection e with e; exact told.ne e
      have s78 := s7.trans s8
      refine ⟨true, congrArg V.bl (by rw [decide_eq_false hne] <;> rfl), iteT ?_⟩
      refine ⟨_, rfl, _, rfl, _, rfl, (show (2 : Nat) ≤ sizeLine by decide), fun pr hpr => ?_⟩
      have spr := same_upd (o := .tup [.str "apart", .ref t]) hpr
      refine ⟨b, a, pr, t, fs, es, rfl, (hB6.same s78).same spr, (hA6.same s78).same spr, .inr ⟨rs, upd_same, (hT6.same s78).same spr, fun e => told.ne e.symm⟩, fun H9 s9 => ?_⟩
      exact k H9 (s2.trans (s46.trans (s78.trans (spr.trans s9))))
end
end CA
set_option Elab.async false
set_option linter.all false
set_option maxRecDepth 100000
set_option maxHeartbeats 1000000
namespace CA
open PySem PySem.Spec PyProof.Rows L2 TL
/-! ### right, the law -/
theorem eqvAll_ints : ∀ x : List Int, PyData.eqvAll (x.map .int) (x.map .int) = true
  | [] => by simp [PyData.eqvAll]
  | i :: x => by
    rw [List.map_cons, PyData.eqvAll, eqvAll_ints x]
    simp [PyData.eqv]
theorem eqv_ints (x : List Int) : PyData.eqv (.tuple (x.map .int)) (.tuple (x.map .int)) = true := by
  rw [PyData.eqv, eqvAll_ints]
theorem canAll_ints : ∀ x : List Int, PyData.canLayAll0 (x.map .int) = true
  | [] => by simp [PyData.canLayAll0]
  | i :: x => by
    rw [List.map_cons, PyData.canLayAll0, canAll_ints x]
    simp [PyData.canLay0]
theorem depthAll_ints : ∀ x : List Int, PyData.depthAll (x.map .int) = 0
  | [] => by simp [PyData.depthAll]
  | i :: x => by
    rw [List.map_cons, PyData.depthAll, depthAll_ints x]
    simp [PyData.depth]
theorem sh_intT (x : List Int) : SeqAt.shaped (.tuple (x.map .int)) = true := by
  unfold SeqAt.shaped
  rw [Bool.and_eq_true, decide_eq_true_eq, PyData.canLay0, PyData.depth, depthAll_ints]
  exact ⟨canAll_ints x, by decide⟩
def sp_right (K : PySem.W.Frag) : Sp := fun vs H Q _ => ∃ (p a b : Addr) (es fs : En (At Str)) (n : Nat), vs = [.ref p, .ref a, .ref b] ∧ QAt K H a es ∧ QAt K H b fs ∧ PenAt H p n ∧ n + 140 < 100000 ∧ ∀ H', Off p H H' → PenAt H' p (n + 140) → Q (.bl true) H'
def sp_law (K : PySem.W.Frag) : Sp := fun vs H Q _ => ∃ (s : Addr) (ns : List Int), vs = [.ref s] ∧ SqL K H s (ns.map V.int) ∧ ∀ H', Q (.bl true) H'
section
variable {P : Program} {w : World} {K : PySem.W.Frag} {mg : Str → Option Value} {base : Heap}

theorem sc__law_right : FnScope ["_law_pen_here", "_law_one", "_law_other", "_law_word", "_law_told"] ["_law_pen_here", "_law_one", "_law_other"] (defScope s__law_right) := ⟨rfl, rfl, rfl, by decide +kernel, rfl, by decide +kernel, by decide +kernel⟩
theorem ok__law_right (T : Txt K mg) : Ok P w K mg base 11 "_law_right" ["_law_pen_here", "_law_one", "_law_other"] (sp_right K) := by
  have S := sc__law_right
  have OAl : Ok P w K mg base 9 "alike" ["one", "other"] (sp_alike K) := ok_alike T
  have OS : Ok P w K mg base 5 "shows_alike" ["one", "other", "thing"] (sp_shows K) := ok_shows_alike T
  have OAp : Ok P w K mg base 9 "_law_apart_right" ["_law_one", "_law_other", "_law_made"] (sp_apart_right K) := ok__law_apart_right T
  have OAr : Ok P w K mg base 10 "_law_alike_right" ["_law_pen_here", "_law_one", "_law_other"] (sp_alike_right K) := ok__law_alike_right T
  have OG : OkG P w K mg base 5 "renamings" ["one", "other"] (spg_renamings K) := ok_renamings T
  refine mkOk T.d__law_right S (fun _ _ _ _ _ _ us hl => match us, hl with | [_, _, _], _ => rfl) (fun vs H Q E h => ?_) (fun cdv A outer s H vs Q E hr h => ?_)
  · obtain ⟨p, a, b, es, fs, n, rfl, _⟩ := h
    rfl
  · obtain ⟨p, a, b, es, fs, n, rfl, hA, hB, hp, hn, q⟩ := h
    have hu64 := (un64 hr)
    obtain ⟨va, hva⟩ := vars_ex (es.map (·.2))
    obtain ⟨vb, hvb⟩ := vars_ex (fs.map (·.2))
    refine ⟨_, (pss_cons (ps_asg (pcl OAl (hr.mono (by decide)) (pa_cons (pv 1) (pa_cons (pv 2) pa_nil))) (pg_tup rfl (pgs_cons (pg_name (i := 3) S.nd rfl (Or.inl rfl)) (pgs_cons (pg_name (i := 4) S.nd rfl (Or.inl rfl)) pgs_nil)))) (pss_cons (ps_if (PW.pt (pw_or (pt_not (pt_val (pcl OS (hr.mono (by decide)) (pa_cons (pv 1) (pa_cons (pv 2) (pa_cons (pe_tup (pa_cons (pv 3) (pa_cons (pv 4) pa_nil))) pa_nil)))))) (pw_or1 (pt_cmpR op_ne (pe_ix ix_tup (pcl OAl (hr.mono (by decide)) (pa_cons (pv 2) (pa_cons (pv 1) pa_nil))) pe_int (fun _ _ => rfl)) (pv 3) (nomark _))))) (pss_one (ps_ret pe_bl)) pss_nil) (pss_cons (ps_if (pt_cmpR op_eq (pv 3) pe_str (nomark _)) (pss_one (ps_ret (pcl OAp (hr.mono (by decide)) (pa_cons (pv 1) (pa_cons (pv 2) (pa_cons (pv 4) pa_nil)))))) pss_nil) (pss_one (ps_ret (pe_and (pe_cmpR op_eq (pv 3) pe_str (nomark _)) (pe_and (pe_cmpR (op_eqD hu64) (pe_ix ix_list (plg OG (hr.mono (by decide)) (pa_cons (pv 1) (pa_cons (pv 2) pa_nil)) T.f_list) pe_int (fun _ _ => rfl)) (pv 4) (nomark _)) (pe_one (pcl OAr (hr.mono (by decide)) (pa_cons (pv 0) (pa_cons (pv 1) (pa_cons (pv 2) pa_nil)))))))))))), ?_⟩
    refine ⟨_, rfl, _, rfl, a, b, es, fs, rfl, hA, hB, fun r t ts x H1 s1 hr0 hr1 ht hren hx => ?_, fun r t rs H1 s1 hr0 hr1 hT hno told => ?_⟩
    · have hA1 := hA.same s1
      have hB1 := hB.same s1
      have xin : x ∈ ts := List.mem_of_getElem? hx
      obtain ⟨cx, nx⟩ := ((hren va hva).mem x).1 xin
      refine ⟨_, _, rfl, SqT.of hr1, rfl, _, _, rfl, _, _, rfl, rfl, ?_⟩
      refine ⟨_, rfl, _, rfl, _, rfl, _, rfl, (show (2 : Nat) ≤ sizeLine by decide), fun z hz => ?_⟩
      have sz := same_upd (o := .tup [.str "alike", .ref t]) hz
      refine ⟨a, b, z, t, es, fs, rfl, hA1.same sz, hB1.same sz, .inl ⟨x, upd_same, sz _ _ ht, fun vs hvs => ((hren vs hvs).mem x).1 xin⟩, fun H2 s2 => ⟨true, rfl, iteF ?_⟩⟩
      have s12 := sz.trans s2
      have hA2 := hA1.same s12
      have hB2 := hB1.same s12
      refine ⟨_, rfl, _, rfl, b, a, fs, es, rfl, hB2, hA2, fun r2 t2 ts2 x2 H3 s3 hr20 hr21 ht2 hren2 hx2 => ?_, fun r2 t2 rs2 H3 s3 hr20 hr21 hT2 hno2 told2 => ?_⟩
      · refine ⟨_, _, _, V.str "alike", rfl, rfl, SqT.of hr21, rfl, _, rfl, rfl, false, rfl, iteF ?_⟩
        refine ⟨_, rfl, rfl, false, congrArg V.bl (by decide +kernel), iteF ?_⟩
        have s13 := s12.trans s3
        refine ⟨_, rfl, rfl, true, congrArg V.bl (by decide +kernel), iteT ?_⟩
        refine ⟨_, rfl, _, rfl, a, b, es, fs, rfl, hA1.same s13, hB1.same s13, fun us H4 s4 hlay hrenu => fun L hL => ?_⟩
        have eus : us.map (·.2) = ts := (hrenu va hva).one (hren va hva)
        cases us with
        | nil =>
          rw [← eus] at hx
          cases hx
        | cons u us =>
          have eu : u.2 = x := by
            rw [← eus] at hx
            exact Option.some.inj hx
          have sL := same_upd (o := .lst (refs (u :: us))) hL
          have s14 := s13.trans (s4.trans sL)
          refine ⟨_, _, _, V.ref u.1, rfl, rfl, SqL.of upd_same, atI_nat (j := 0) (show (refs (u :: us))[0]? = some (V.ref u.1) from rfl), _, rfl, ?_⟩
          refine ⟨.tuple (u.2.map .int), .tuple (x.map .int), .tup (SqT.of (sL _ _ (hlay u List.mem_cons_self))) (dp_ints u.2), .tup (SqT.of (s14 _ _ ht)) (dp_ints x), sh_intT _, sh_intT _, true, congrArg V.bl (by rw [eu]; exact eqv_ints x), iteT ?_⟩
          refine ⟨_, rfl, _, rfl, _, rfl, p, a, b, es, fs, n, rfl, hA1.same s14, hB1.same s14, fun rs => ren_cnt hva cx nx rs, hp.same (s1.trans s14), hn, fun H5 of5 pen5 => ?_⟩
          exact q H5 ((off_same (s1.trans s14)).trans of5) pen5
      · exact absurd (ren_sym hva hvb cx nx) (hno2 vb hvb)
    · have hA1 := hA.same s1
      have hB1 := hB.same s1
      refine ⟨_, _, rfl, SqT.of hr1, rfl, _, _, rfl, _, _, rfl, rfl, ?_⟩
      refine ⟨_, rfl, _, rfl, _, rfl, _, rfl, (show (2 : Nat) ≤ sizeLine by decide), fun z hz => ?_⟩
      have sz := same_upd (o := .tup [.str "apart", .ref t]) hz
      refine ⟨a, b, z, t, es, fs, rfl, hA1.same sz, hB1.same sz, .inr ⟨rs, upd_same, hT.same sz, told.ne⟩, fun H2 s2 => ⟨true, rfl, iteF ?_⟩⟩
      have s12 := sz.trans s2
      have hA2 := hA1.same s12
      have hB2 := hB1.same s12
      refine ⟨_, rfl, _, rfl, b, a, fs, es, rfl, hB2, hA2, fun r2 t2 ts2 x2 H3 s3 hr20 hr21 ht2 hren2 hx2 => ?_, fun r2 t2 rs2 H3 s3 hr20 hr21 hT2 hno2 told2 => ?_⟩
      · obtain ⟨cx, nx⟩ := ((hren2 vb hvb).mem x2).1 (List.mem_of_getElem? hx2)
        exact absurd (ren_sym hvb hva cx nx) (hno va hva)
      · refine ⟨_, _, _, V.str "apart", rfl, rfl, SqT.of hr21, rfl, _, rfl, rfl, false, rfl, iteF ?_⟩
        refine ⟨_, rfl, rfl, true, congrArg V.bl (by decide +kernel), iteT ?_⟩
        have s13 := s12.trans s3
        refine ⟨_, rfl, _, rfl, _, rfl, a, b, t, es, fs, rs, rfl, hA1.same s13, hB1.same s13, hT.same s13, hno, told, fun H4 s4 => ?_⟩
        have s14 := s1.trans (s13.trans s4)
        exact q H4 (off_same s14) ((hp.same s14).mono (by omega))
theorem sc_law : FnScope ["_law_script", "_law_k", "_law_pen_here", "_law_lap", "_law_atoms", "_law_one", "_law_other"] ["_law_script"] (defScope s_law) := ⟨rfl, rfl, rfl, by decide +kernel, rfl, by decide +kernel, by decide +kernel⟩
theorem ok_law {fd : FuncData} (F : L2.Fun K "law" "law" s_law (ad K "law") fd) (T : Txt K mg) : FnOk P w K mg base CX0 12 (ad K "law") fd ["_law_script"] (sp_law K) := by
  have S := sc_law
  have OC : Ok P w K mg base 1 "_law_cell_at" ["_law_script", "_law_k"] (sp_cell_at K) := ok__law_cell_at T
  have OP : Ok P w K mg base 1 "_law_pen" ["_law_cell"] sp_pen := ok__law_pen T
  have ODr : Ok P w K mg base 3 "_law_drawn" ["_law_pen_here", "_law_most"] sp_drawn := ok__law_drawn T
  have OTx : Ok P w K mg base 1 "_law_text" ["_law_atoms"] sp_ltext := ok__law_text T
  have ON : Ok P w K mg base 4 "_law_near" ["_law_pen_here", "_law_atoms"] sp_near := ok__law_near T
  have OR : Ok P w K mg base 11 "_law_right" ["_law_pen_here", "_law_one", "_law_other"] (sp_right K) := ok__law_right T
  have FQ : FnR P w K mg base CX0 7 (wr K "Question" "classmethod" "read") (sp_readQ K) := (ok_Question_read T).fnr
  refine F.ok S (fun vs H Q E h => ?_) (fun cdv A outer s H vs Q E hr h => ?_)
  · obtain ⟨a, ns, rfl, _⟩ := h
    rfl
  · obtain ⟨a, ns, rfl, ha, q⟩ := h
    refine ⟨_, (pss_cons (ps_for PassesOwn.never rfl (pi_range1 (by rfl) T.f_range (pa_cons (pe_callB (call_max2 rfl) (by rfl) T.f_max (by decide +kernel) (pa_cons pe_int (pa_cons (pe_callB (call_min2 rfl) (by rfl) T.f_min (by decide +kernel) (pa_cons (pe_callB call_len_seq (by rfl) T.f_len (by decide +kernel) (pa_cons (pv 0) pa_nil)) (pa_cons pe_int pa_nil))) pa_nil))) pa_nil)) (pg_name (i := 1) S.nd rfl (Or.inl rfl)) (pss_cons (ps_set (i := 2) S.nd rfl (.inl rfl) (pcl OP (hr.mono (by decide)) (pa_cons (pcl OC (hr.mono (by decide)) (pa_cons (pv 0) (pa_cons (pv 1) pa_nil))) pa_nil))) (pss_one (ps_for PassesOwn.never rfl (pi_range1 (by rfl) T.f_range (pa_cons pe_int pa_nil)) (pg_name (i := 3) S.nd rfl (Or.inl rfl)) (pss_cons (ps_set (i := 4) S.nd rfl (.inl rfl) (pcl ODr (hr.mono (by decide)) (pa_cons (pv 2) (pa_cons pe_int pa_nil)))) (pss_cons (ps_set (i := 5) S.nd rfl (.inl rfl) (ClX.pe_cmeth (pe_glob (by rfl) T.g_Question (show RelV (.ref (ad K "Question")) _ from rfl)) T.rr_Question T.rm_Question FQ (hr.mono (by decide)) pass0 (pa_cons (pcl OTx (hr.mono (by decide)) (pa_cons (pv 4) pa_nil)) pa_nil))) (pss_cons (ps_set (i := 6) S.nd rfl (.inl rfl) (ClX.pe_cmeth (pe_glob (by rfl) T.g_Question (show RelV (.ref (ad K "Question")) _ from rfl)) T.rr_Question T.rm_Question FQ (hr.mono (by decide)) pass0 (pa_cons (pcl OTx (hr.mono (by decide)) (pa_cons (pcl ON (hr.mono (by decide)) (pa_cons (pv 2) (pa_cons (pv 4) pa_nil))) pa_nil)) pa_nil))) (pss_one (ps_if (pt_not (pt_val (pcl OR hr (pa_cons (pv 2) (pa_cons (pv 5) (pa_cons (pv 6) pa_nil)))))) (pss_one (ps_ret pe_bl)) pss_nil))))))))) (pss_one (ps_ret pe_bl))), ?_⟩
    refine ⟨_, rfl, _, _, rfl, .inl ha, _, _, rfl, _, _, rfl, ?_⟩
    generalize hc : (if (if (3 : Int) < ((ns.map V.int).length : Nat) then (3 : Int) else ((ns.map V.int).length : Nat)) > 1 then (if (3 : Int) < ((ns.map V.int).length : Nat) then (3 : Int) else ((ns.map V.int).length : Nat)) else (1 : Int)) = c
    have c3 : c ≤ 3 := by
      rw [← hc]
      split <;> split <;> omega
    have c1 : 1 ≤ c := by
      rw [← hc]
      split <;> split <;> omega
    refine ⟨_, rfl, by omega, by omega, ?_⟩
    refine for_range (fun i σ H1 => ∃ v1 v2 v3 v4 v5 v6 : Option V, σ = [some (.ref a), v1, v2, v3, v4, v5, v6] ∧ Same H H1) ⟨none, none, none, none, none, none, rfl, Same.refl _⟩ ?_ ?_
    · rintro i σ H1 hi ⟨v1, v2, v3, v4, v5, v6, rfl, s1⟩
      refine ⟨_, rfl, _, rfl, a, ns, _, rfl, sqL_same ha s1, by omega, fun z H2 s2 => ?_⟩
      refine ⟨z, rfl, fun p H3 s3 hp0 pen3 => ?_⟩
      have s13 := s1.trans (s2.trans s3)
      have hp : H p = none := (s1.trans s2).free hp0
      refine ⟨_, rfl, by decide, by decide, ?_⟩
      refine for_range (fun j σ H4 => ∃ w3 w4 w5 w6 : Option V, σ = [some (.ref a), some (.int (0 + i)), some (.ref p), w3, w4, w5, w6] ∧ Same H H4 ∧ PenAt H4 p (300 * j)) ⟨v3, v4, v5, v6, rfl, s13, pen3⟩ ?_ ?_
      · rintro j σ H4 hj ⟨w3, w4, w5, w6, rfl, s4, pen4⟩
        have hj3 : j < 3 := hj
        refine ⟨_, rfl, p, _, rfl, pen4, by omega, fun f es H5 of5 hf hf5 hl5 hok h1 h4 pen5 => ?_⟩
        refine ⟨rfl, _, rfl, f, es, rfl, hf5, hl5, hok, h4, fun H6 s6 => ?_⟩
        have hoka : ∀ x ∈ es.map (·.2), OkA x := fun x hx => by
          obtain ⟨z, hz, rfl⟩ := List.mem_map.mp hx
          exact hok z hz
        refine ⟨es.map (·.2), rfl, hoka, by rw [List.length_map]; exact h1, by rw [List.length_map]; exact h4, fun qa ea H7 s7 hqa hQa ema => ?_⟩
        have s57 := s6.trans s7
        have pen7 := pen5.same s57
        refine ⟨rfl, _, rfl, _, rfl, p, f, es, _, rfl, s57 _ _ hf5, hl5.same s57, hok, h1, h4, pen7, by omega, fun f2 es2 H8 of8 hf2 hf8 hl8 hok8 g1 g4 pen8 => ?_⟩
        refine ⟨f2, es2, rfl, hf8, hl8, hok8, g4, fun H9 s9 => ?_⟩
        have hoka2 : ∀ x ∈ es2.map (·.2), OkA x := fun x hx => by
          obtain ⟨z, hz, rfl⟩ := List.mem_map.mp hx
          exact hok8 z hz
        refine ⟨es2.map (·.2), rfl, hoka2, by rw [List.length_map]; exact g1, by rw [List.length_map]; exact g4, fun qb eb H10 s10 hqb hQb emb => ?_⟩
        have s910 := s9.trans s10
        have pen10 := pen8.same s910
        have hQa10 := (hQa.off pen7 of8).same s910
        refine ⟨_, rfl, _, rfl, _, rfl, p, qa, qb, ea, eb, _, rfl, hQa10, hQb, pen10, by omega, fun H11 of11 pen11 => ⟨true, rfl, iteF ?_⟩⟩
        refine ⟨_, _, _, _, rfl, ?_, pen11.mono (by omega)⟩
        have of411 : Off p H4 H11 := of5.trans ((off_same s57).trans (of8.trans ((off_same s910).trans of11)))
        exact fun x o e => of411 x o (ne_of_none e hp) (s4 _ _ e)
      · rintro σ H4 ⟨w3, w4, w5, w6, rfl, s4, pen4⟩
        exact ⟨_, _, _, _, _, _, rfl, s4⟩
    · rintro σ H1 ⟨v1, v2, v3, v4, v5, v6, rfl, s1⟩
      exact q _
end
end CA
set_option Elab.async false
set_option linter.all false
set_option maxRecDepth 100000
set_option maxHeartbeats 0
namespace CA
open PySem PySem.Spec PyProof.Rows L2
/-! ### the head -/
abbrev RW : PySem.W.OpenLaw := PySem.Challenge.rw_countalike_k45_whole_alike_questions_cou
def gd (x : Str) (st : Stmt) : He5.DefA := ⟨fun K => He.ga K x, x, x, defArgs st, defBody st, defScope st, [], []⟩
def icB (K : PySem.W.Frag) (C : Addr) : Bool := He.eqO (PySem.W.findIn K (.ref C) "__class__") (some (some (.builtin "object.__class__"))) && (He.eqO (PySem.W.specialIn K (.builtin "object.__class__") "__get__") (some (some (.builtin "getset_descriptor.__get__"))) &&
  (decide (PySem.W.takesIn K (.builtin "object.__class__") = some true) && (decide (PySem.W.mroIn K C (.type "object") = some true) && decide (PySem.W.kitOne K (.ref C) (.ref C) = some true))))
theorem ic_ok {K : PySem.W.Frag} {C : Addr} (c : Cls K C) (h : icB K C = true) : C8.InsC K C := by
  obtain ⟨h1, h⟩ := He.ba h
  obtain ⟨h2, h⟩ := He.ba h
  obtain ⟨h3, h⟩ := He.ba h
  obtain ⟨h4, h5⟩ := He.ba h
  exact ⟨c, He.eqO_ok h1, He.eqO_ok h2, of_decide_eq_true h3, of_decide_eq_true h4, of_decide_eq_true h5⟩
def crB (K : PySem.W.Frag) (C : Addr) : Bool := PySem.W.readsIn K C (.type "type") && He.eqO (PySem.W.specialIn K (.ref C) "__getattribute__") (some (some (.builtin "type.__getattribute__")))
theorem cr_ok {K : PySem.W.Frag} {C : Addr} (h : crB K C = true) : ClX.CRead K C (.type "type") := ⟨(He.ba h).1, He.eqO_ok (He.ba h).2⟩
def cmB (K : PySem.W.Frag) (C : Addr) (m : Str) : Bool := He5.wrapB K C "classmethod" "classmethod.__get__" m && PySem.W.fnIn K (He5.wf K C "classmethod" m)
theorem cm_ok {K : PySem.W.Frag} {C : Addr} {m : Str} (h : cmB K C m = true) : ClX.CMet K C (.type "type") m (He.ma K C m) (He5.wf K C "classmethod" m) := He5.cmet_of (He.ba h).1 (He.ba h).2
def poB (K : PySem.W.Frag) (C : Addr) (f : Str) : Bool := He.eqO (PySem.W.findIn K (.ref C) f) (some (some (.ref (He.ma K C f)))) && (He.eqO (PySem.W.specialIn K (.ref (He.ma K C f)) "__get__") (some (some (.builtin "property.__get__"))) &&
  (decide (PySem.W.takesIn K (.ref (He.ma K C f)) = some true) && (match PySem.W.recIn K (He.ma K C f) "property" with
    | some (.ref _ :: _) => true
    | _ => false)))
theorem po_ok {K : PySem.W.Frag} {C : Addr} {f : Str} (h : poB K C f = true) : PropOf K C f (He.ma K C f) (He5.wf K C "property" f) := by
  obtain ⟨h1, h⟩ := He.ba h
  obtain ⟨h2, h⟩ := He.ba h
  obtain ⟨h3, h4⟩ := He.ba h
  refine ⟨He.eqO_ok h1, He.eqO_ok h2, of_decide_eq_true h3, ?_⟩
  unfold He5.wf
  split at h4
  · rename_i g r e
    exact ⟨r, by rw [e]⟩
  · cases h4
def coB (K : PySem.W.Frag) (C : Addr) : Bool := He.eqO (PySem.W.findIn K (.ref C) "__call__") (some (some (.ref (He.ma K C "__call__")))) && (PySem.W.isFn K (.ref (He.ma K C "__call__")) && PySem.W.fnIn K (He.ma K C "__call__"))
theorem co_ok {K : PySem.W.Frag} {C : Addr} (h : coB K C = true) : StX.CallO K C (He.ma K C "__call__") := by
  obtain ⟨h1, h⟩ := He.ba h
  exact ⟨He.eqO_ok h1, (He.ba h).1, (He.ba h).2⟩
theorem def_of {K : PySem.W.Frag} {mg : Str → Option Value} {x : Str} {st : Stmt} (h : ∃ fd, FunD K x x (defArgs st) (defBody st) (defScope st) [] [] (ad K x) fd) (g : mg x = some (.ref (ad K x))) : DefIs K mg x st :=
  ⟨h.elim fun fd F => ⟨fd, He5.fun_of F⟩, g⟩
def fnL0 : List He5.DefA := [gd "is_integer" s_is_integer, gd "is_between" s_is_between, gd "is_kind" s_is_kind, gd "is_key" s_is_key, gd "is_row" s_is_row, gd "are_rows" s_are_rows, gd "word_number" s_word_number, gd "row_of_line" s_row_of_line, gd "need_table" s_need_table, gd "is_atom" s_is_atom, gd "are_atoms" s_are_atoms, gd "atom_of_word" s_atom_of_word, gd "variables_of" s_variables_of, gd "extended" s_extended, gd "raw_ways" s_raw_ways, gd "raw_count" s_raw_count, gd "need_question" s_need_question, gd "orders" s_orders, gd "sending" s_sending, gd "raw_coverings" s_raw_coverings, gd "is_listed" s_is_listed, gd "same" s_same, gd "raw_renamings" s_raw_renamings, gd "numbers" s_numbers, gd "telling" s_telling, gd "alike" s_alike, gd "shows_alike" s_shows_alike, gd "_law_cell_at" s__law_cell_at, gd "_law_pen" s__law_pen, gd "_law_draw" s__law_draw]
def fnL1 : List He5.DefA := [gd "_law_mixed" s__law_mixed, gd "_law_drawn" s__law_drawn, gd "_law_names" s__law_names, gd "_law_renamed" s__law_renamed, gd "_law_near" s__law_near, gd "_law_text" s__law_text, gd "_law_table" s__law_table, gd "_law_alike_right" s__law_alike_right, gd "_law_apart_right" s__law_apart_right, gd "_law_right" s__law_right, gd "renamings" s_renamings, gd "law" s_law, ⟨fun K => me K "Table" "__init__", "__init__", "Table.__init__", defArgs s_Table_init, defBody s_Table_init, defScope s_Table_init, [], []⟩, ⟨fun K => wr K "Table" "classmethod" "read", "read", "Table.read", defArgs s_Table_read, defBody s_Table_read, defScope s_Table_read, [], []⟩, ⟨fun K => me K "Question" "__init__", "__init__", "Question.__init__", defArgs s_Question_init, defBody s_Question_init, defScope s_Question_init, [], []⟩, ⟨fun K => wr K "Question" "classmethod" "read", "read", "Question.read", defArgs s_Question_read, defBody s_Question_read, defScope s_Question_read, [], []⟩, ⟨fun K => wr K "Table" "property" "rows", "rows", "Table.rows", defArgs s_Table_rows, defBody s_Table_rows, defScope s_Table_rows, [], []⟩, ⟨fun K => wr K "Question" "property" "atoms", "atoms", "Question.atoms", defArgs s_Question_atoms, defBody s_Question_atoms, defScope s_Question_atoms, [], []⟩, ⟨fun K => wr K "Question" "property" "variables", "variables", "Question.variables", defArgs s_Question_variables, defBody s_Question_variables, defScope s_Question_variables, [], []⟩, ⟨fun K => me K "Table" "text", "text", "Table.text", defArgs s_Table_text, defBody s_Table_text, defScope s_Table_text, [], []⟩, ⟨fun K => me K "Question" "__call__", "__call__", "Question.__call__", defArgs s_Question_call, defBody s_Question_call, defScope s_Question_call, [], []⟩]
def fnL : List He5.DefA := fnL0 ++ fnL1
def faL0 : List He.Fa := [.free "isinstance", .free "int", .free "bool", .free "str", .free "len", .free "tuple", .free "all", .free "sorted", .free "set", .free "dict", .free "sum", .free "range", .free "zip", .free "list", .free "max", .free "min", .int "MOST_VALUE" 99, .int "MOST_OFTEN" 10000, .int "MOST_ROWS" 12, .int "MOST_ATOMS" 4, .int "MOST_VARIABLE" 9, .int "MOST_TOLD" 4, .str "DIGITS" "0123456789", .str "ALIKE" "alike", .str "APART" "apart", .glo "KINDS", .glo "is_integer", .glo "is_between", .glo "is_kind", .glo "is_key"]
def faL1 : List He.Fa := [.glo "is_row", .glo "are_rows", .glo "word_number", .glo "row_of_line", .glo "need_table", .glo "is_atom", .glo "are_atoms", .glo "atom_of_word", .glo "variables_of", .glo "extended", .glo "raw_ways", .glo "raw_count", .glo "need_question", .glo "orders", .glo "sending", .glo "raw_coverings", .glo "is_listed", .glo "same", .glo "raw_renamings", .glo "numbers", .glo "telling", .glo "alike", .glo "shows_alike", .glo "_law_cell_at", .glo "_law_pen", .glo "_law_draw", .glo "_law_mixed", .glo "_law_drawn", .glo "_law_names", .glo "_law_renamed"]
def faL2 : List He.Fa := [.glo "_law_near", .glo "_law_text", .glo "_law_table", .glo "_law_alike_right", .glo "_law_apart_right", .glo "_law_right", .glo "renamings", .glo "law", .glo "Table", .mkr "Table", .cls "Table", .noat "Table" "kept", .glo "Question", .mkr "Question", .cls "Question", .noat "Question" "kept", .meth "Table" "text"]
def faL : List He.Fa := faL0 ++ faL1 ++ faL2
def xBs (K : PySem.W.Frag) : List Bool := [He.tupB K "KINDS" [.str "A", .str "B", .str "C"], icB K (ad K "Table"), crB K (ad K "Table"), cmB K (ad K "Table") "read", icB K (ad K "Question"), crB K (ad K "Question"), cmB K (ad K "Question") "read", poB K (ad K "Table") "rows", poB K (ad K "Question") "atoms", poB K (ad K "Question") "variables", coB K (ad K "Question")]
def xB (K : PySem.W.Frag) : Bool := (xBs K).all id
def obsX (K : PySem.W.Frag) : He.AlD := ((He5.obsA faL fnL K).1 && xB K, (He5.obsA faL fnL K).2)
def SaysX (K : PySem.W.Frag) : Prop := He5.SaysA faL fnL K ∧ xB K = true
theorem saysX_of {K : PySem.W.Frag} (h : obsX K = He5.valA fnL) : SaysX K := by
  have h1 : ((He5.obsA faL fnL K).1 && xB K) = true := congrArg (fun z : He.AlD => z.1) h
  have h2 : (obsX K).2 = (He5.valA fnL).2 := by rw [h]
  obtain ⟨h3, h4⟩ := He.ba h1
  exact ⟨Prod.ext h3 h2, h4⟩
def obsXG (n : Nat) (g : Addr → Option Obj) : He.AlD := obsX (He.frG g (He5.asA g n))
abbrev R : PySem.W.OpenRow := PySem.W.OpenLaw.row RW
def hkX (n : Nat) : PySem.W.Hook where
  α := He.AlD
  obs := fun s => obsXG n s.heap.get?
  val := fun _ => He5.valA fnL
  says := fun _ h => ∃ K : PySem.W.Frag, K.In h ∧ SaysX K
  of := fun _ _ e => ⟨_, He.frG_in, saysX_of e⟩
  keeps := fun _ _ _ ⟨K, hK, c⟩ k => ⟨K, PySem.W.Frag.In.keeps hK k, c⟩
abbrev hk : PySem.W.Hook := hkX 6
def ob (s : PySem.W.SharedT) : He.AlD := obsXG 6 (HandSHeadRun.getT s)
theorem ob_eq (s : PySem.W.SharedT) : ob s = hk.obs s.abs := by
  have e : HandSHeadRun.getT s = s.abs.heap.get? := funext (HandSHeadRun.getT_eq s)
  unfold ob
  rw [e] <;> rfl
def names1 : List Str := ["_wall", "CountError", "NoRows", "NoKey", "NoText", "NoTable", "NoAtoms", "NoQuestion", "TooMuch", "KINDS", "MOST_VALUE", "MOST_OFTEN", "MOST_ROWS", "SMALL", "DIGITS", "is_integer", "is_between", "is_kind", "is_key", "is_row", "are_rows", "word_number", "row_of_line", "shifted", "greatest", "added", "paired", "table_of", "Table", "need_table"]
def names2 : List Str := ["MOST_ATOMS", "MOST_VARIABLE", "is_atom", "are_atoms", "atom_of_word", "variables_of", "extended", "raw_ways", "raw_count", "question_of", "Question", "need_question", "orders", "sending", "raw_coverings", "is_listed", "same", "ALIKE", "APART", "MOST_TOLD", "raw_renamings", "renamings", "numbers", "telling", "alike", "shows_alike"]
def names3 : List Str := ["_law_cell_at", "_law_pen", "_law_draw", "_law_mixed", "_law_drawn", "_law_names", "_law_renamed", "_law_near", "_law_text", "_law_table", "_law_alike_right", "_law_apart_right", "_law_right"]
theorem run (w : World) : HandSHeadRun.RunEq R (PySem.W.view R.prog [75]) hk ob 5200 (names1 ++ names2 ++ names3) w := by
  intro os
  kernel_rfl
section
variable {K : PySem.W.Frag} {h : Heap} {mg : Str → Option Value}
theorem txt_of (X : K.In h) (G : h.Ns mainGlobals mg) (c : SaysX K) : Txt K mg := by
  obtain ⟨c, cx⟩ := c
  have xf : ∀ (i : Nat) {b : Bool}, (xBs K)[i]? = some b → b = true := fun i b e => List.all_eq_true.mp cx b (List.mem_of_getElem? e)
  exact {
    f_isinstance := He.free_ok X G (c.fact 0 (f := .free "isinstance") rfl)
    f_int := He.free_ok X G (c.fact 1 (f := .free "int") rfl)
    f_bool := He.free_ok X G (c.fact 2 (f := .free "bool") rfl)
    f_str := He.free_ok X G (c.fact 3 (f := .free "str") rfl)
    f_len := He.free_ok X G (c.fact 4 (f := .free "len") rfl)
    f_tuple := He.free_ok X G (c.fact 5 (f := .free "tuple") rfl)
    f_all := He.free_ok X G (c.fact 6 (f := .free "all") rfl)
    f_sorted := He.free_ok X G (c.fact 7 (f := .free "sorted") rfl)
    f_set := He.free_ok X G (c.fact 8 (f := .free "set") rfl)
    f_dict := He.free_ok X G (c.fact 9 (f := .free "dict") rfl)
    f_sum := He.free_ok X G (c.fact 10 (f := .free "sum") rfl)
    f_range := He.free_ok X G (c.fact 11 (f := .free "range") rfl)
    f_zip := He.free_ok X G (c.fact 12 (f := .free "zip") rfl)
    f_list := He.free_ok X G (c.fact 13 (f := .free "list") rfl)
    f_max := He.free_ok X G (c.fact 14 (f := .free "max") rfl)
    f_min := He.free_ok X G (c.fact 15 (f := .free "min") rfl)
    n_MOST_VALUE := He.int_ok X G (c.fact 16 (f := .int "MOST_VALUE" 99) rfl)
    n_MOST_OFTEN := He.int_ok X G (c.fact 17 (f := .int "MOST_OFTEN" 10000) rfl)
    n_MOST_ROWS := He.int_ok X G (c.fact 18 (f := .int "MOST_ROWS" 12) rfl)
    n_MOST_ATOMS := He.int_ok X G (c.fact 19 (f := .int "MOST_ATOMS" 4) rfl)
    n_MOST_VARIABLE := He.int_ok X G (c.fact 20 (f := .int "MOST_VARIABLE" 9) rfl)
    n_MOST_TOLD := He.int_ok X G (c.fact 21 (f := .int "MOST_TOLD" 4) rfl)
    n_DIGITS := He.str_ok X G (c.fact 22 (f := .str "DIGITS" "0123456789") rfl)
    n_ALIKE := He.str_ok X G (c.fact 23 (f := .str "ALIKE" "alike") rfl)
    n_APART := He.str_ok X G (c.fact 24 (f := .str "APART" "apart") rfl)
    n_KINDS := He.glo_ok X G (c.fact 25 (f := .glo "KINDS") rfl)
    k_KINDS := He.tupB_ok (xf 0 rfl)
    d_is_integer := def_of (c.def_ 0 (d := gd "is_integer" s_is_integer) rfl) (He.glo_ok X G (c.fact 26 (f := .glo "is_integer") rfl))
    d_is_between := def_of (c.def_ 1 (d := gd "is_between" s_is_between) rfl) (He.glo_ok X G (c.fact 27 (f := .glo "is_between") rfl))
    d_is_kind := def_of (c.def_ 2 (d := gd "is_kind" s_is_kind) rfl) (He.glo_ok X G (c.fact 28 (f := .glo "is_kind") rfl))
    d_is_key := def_of (c.def_ 3 (d := gd "is_key" s_is_key) rfl) (He.glo_ok X G (c.fact 29 (f := .glo "is_key") rfl))
    d_is_row := def_of (c.def_ 4 (d := gd "is_row" s_is_row) rfl) (He.glo_ok X G (c.fact 30 (f := .glo "is_row") rfl))
    d_are_rows := def_of (c.def_ 5 (d := gd "are_rows" s_are_rows) rfl) (He.glo_ok X G (c.fact 31 (f := .glo "are_rows") rfl))
    d_word_number := def_of (c.def_ 6 (d := gd "word_number" s_word_number) rfl) (He.glo_ok X G (c.fact 32 (f := .glo "word_number") rfl))
    d_row_of_line := def_of (c.def_ 7 (d := gd "row_of_line" s_row_of_line) rfl) (He.glo_ok X G (c.fact 33 (f := .glo "row_of_line") rfl))
    d_need_table := def_of (c.def_ 8 (d := gd "need_table" s_need_table) rfl) (He.glo_ok X G (c.fact 34 (f := .glo "need_table") rfl))
    d_is_atom := def_of (c.def_ 9 (d := gd "is_atom" s_is_atom) rfl) (He.glo_ok X G (c.fact 35 (f := .glo "is_atom") rfl))
    d_are_atoms := def_of (c.def_ 10 (d := gd "are_atoms" s_are_atoms) rfl) (He.glo_ok X G (c.fact 36 (f := .glo "are_atoms") rfl))
    d_atom_of_word := def_of (c.def_ 11 (d := gd "atom_of_word" s_atom_of_word) rfl) (He.glo_ok X G (c.fact 37 (f := .glo "atom_of_word") rfl))
    d_variables_of := def_of (c.def_ 12 (d := gd "variables_of" s_variables_of) rfl) (He.glo_ok X G (c.fact 38 (f := .glo "variables_of") rfl))
    d_extended := def_of (c.def_ 13 (d := gd "extended" s_extended) rfl) (He.glo_ok X G (c.fact 39 (f := .glo "extended") rfl))
    d_raw_ways := def_of (c.def_ 14 (d := gd "raw_ways" s_raw_ways) rfl) (He.glo_ok X G (c.fact 40 (f := .glo "raw_ways") rfl))
    d_raw_count := def_of (c.def_ 15 (d := gd "raw_count" s_raw_count) rfl) (He.glo_ok X G (c.fact 41 (f := .glo "raw_count") rfl))
    d_need_question := def_of (c.def_ 16 (d := gd "need_question" s_need_question) rfl) (He.glo_ok X G (c.fact 42 (f := .glo "need_question") rfl))
    d_orders := def_of (c.def_ 17 (d := gd "orders" s_orders) rfl) (He.glo_ok X G (c.fact 43 (f := .glo "orders") rfl))
    d_sending := def_of (c.def_ 18 (d := gd "sending" s_sending) rfl) (He.glo_ok X G (c.fact 44 (f := .glo "sending") rfl))
    d_raw_coverings := def_of (c.def_ 19 (d := gd "raw_coverings" s_raw_coverings) rfl) (He.glo_ok X G (c.fact 45 (f := .glo "raw_coverings") rfl))
    d_is_listed := def_of (c.def_ 20 (d := gd "is_listed" s_is_listed) rfl) (He.glo_ok X G (c.fact 46 (f := .glo "is_listed") rfl))
    d_same := def_of (c.def_ 21 (d := gd "same" s_same) rfl) (He.glo_ok X G (c.fact 47 (f := .glo "same") rfl))
    d_raw_renamings := def_of (c.def_ 22 (d := gd "raw_renamings" s_raw_renamings) rfl) (He.glo_ok X G (c.fact 48 (f := .glo "raw_renamings") rfl))
    d_numbers := def_of (c.def_ 23 (d := gd "numbers" s_numbers) rfl) (He.glo_ok X G (c.fact 49 (f := .glo "numbers") rfl))
    d_telling := def_of (c.def_ 24 (d := gd "telling" s_telling) rfl) (He.glo_ok X G (c.fact 50 (f := .glo "telling") rfl))
    d_alike := def_of (c.def_ 25 (d := gd "alike" s_alike) rfl) (He.glo_ok X G (c.fact 51 (f := .glo "alike") rfl))
    d_shows_alike := def_of (c.def_ 26 (d := gd "shows_alike" s_shows_alike) rfl) (He.glo_ok X G (c.fact 52 (f := .glo "shows_alike") rfl))
    d__law_cell_at := def_of (c.def_ 27 (d := gd "_law_cell_at" s__law_cell_at) rfl) (He.glo_ok X G (c.fact 53 (f := .glo "_law_cell_at") rfl))
    d__law_pen := def_of (c.def_ 28 (d := gd "_law_pen" s__law_pen) rfl) (He.glo_ok X G (c.fact 54 (f := .glo "_law_pen") rfl))
    d__law_draw := def_of (c.def_ 29 (d := gd "_law_draw" s__law_draw) rfl) (He.glo_ok X G (c.fact 55 (f := .glo "_law_draw") rfl))
    d__law_mixed := def_of (c.def_ 30 (d := gd "_law_mixed" s__law_mixed) rfl) (He.glo_ok X G (c.fact 56 (f := .glo "_law_mixed") rfl))
    d__law_drawn := def_of (c.def_ 31 (d := gd "_law_drawn" s__law_drawn) rfl) (He.glo_ok X G (c.fact 57 (f := .glo "_law_drawn") rfl))
    d__law_names := def_of (c.def_ 32 (d := gd "_law_names" s__law_names) rfl) (He.glo_ok X G (c.fact 58 (f := .glo "_law_names") rfl))
    d__law_renamed := def_of (c.def_ 33 (d := gd "_law_renamed" s__law_renamed) rfl) (He.glo_ok X G (c.fact 59 (f := .glo "_law_renamed") rfl))
    d__law_near := def_of (c.def_ 34 (d := gd "_law_near" s__law_near) rfl) (He.glo_ok X G (c.fact 60 (f := .glo "_law_near") rfl))
    d__law_text := def_of (c.def_ 35 (d := gd "_law_text" s__law_text) rfl) (He.glo_ok X G (c.fact 61 (f := .glo "_law_text") rfl))
    d__law_table := def_of (c.def_ 36 (d := gd "_law_table" s__law_table) rfl) (He.glo_ok X G (c.fact 62 (f := .glo "_law_table") rfl))
    d__law_alike_right := def_of (c.def_ 37 (d := gd "_law_alike_right" s__law_alike_right) rfl) (He.glo_ok X G (c.fact 63 (f := .glo "_law_alike_right") rfl))
    d__law_apart_right := def_of (c.def_ 38 (d := gd "_law_apart_right" s__law_apart_right) rfl) (He.glo_ok X G (c.fact 64 (f := .glo "_law_apart_right") rfl))
    d__law_right := def_of (c.def_ 39 (d := gd "_law_right" s__law_right) rfl) (He.glo_ok X G (c.fact 65 (f := .glo "_law_right") rfl))
    d_renamings := def_of (c.def_ 40 (d := gd "renamings" s_renamings) rfl) (He.glo_ok X G (c.fact 66 (f := .glo "renamings") rfl))
    d_law := def_of (c.def_ 41 (d := gd "law" s_law) rfl) (He.glo_ok X G (c.fact 67 (f := .glo "law") rfl))
    g_Table := He.glo_ok X G (c.fact 68 (f := .glo "Table") rfl)
    mk_Table := He.mkr_ok (c.fact 69 (f := .mkr "Table") rfl)
    ic_Table := ic_ok (He.cls_ok (c.fact 70 (f := .cls "Table") rfl)) (xf 1 rfl)
    no_Table := He.noat_ok (c.fact 71 (f := .noat "Table" "kept") rfl)
    i_Table := c.def_ 42 (d := ⟨fun K => me K "Table" "__init__", "__init__", "Table.__init__", defArgs s_Table_init, defBody s_Table_init, defScope s_Table_init, [], []⟩) rfl
    r_Table := c.def_ 43 (d := ⟨fun K => wr K "Table" "classmethod" "read", "read", "Table.read", defArgs s_Table_read, defBody s_Table_read, defScope s_Table_read, [], []⟩) rfl
    rr_Table := cr_ok (xf 2 rfl)
    rm_Table := cm_ok (xf 3 rfl)
    g_Question := He.glo_ok X G (c.fact 72 (f := .glo "Question") rfl)
    mk_Question := He.mkr_ok (c.fact 73 (f := .mkr "Question") rfl)
    ic_Question := ic_ok (He.cls_ok (c.fact 74 (f := .cls "Question") rfl)) (xf 4 rfl)
    no_Question := He.noat_ok (c.fact 75 (f := .noat "Question" "kept") rfl)
    i_Question := c.def_ 44 (d := ⟨fun K => me K "Question" "__init__", "__init__", "Question.__init__", defArgs s_Question_init, defBody s_Question_init, defScope s_Question_init, [], []⟩) rfl
    r_Question := c.def_ 45 (d := ⟨fun K => wr K "Question" "classmethod" "read", "read", "Question.read", defArgs s_Question_read, defBody s_Question_read, defScope s_Question_read, [], []⟩) rfl
    rr_Question := cr_ok (xf 5 rfl)
    rm_Question := cm_ok (xf 6 rfl)
    p_Table_rows := po_ok (xf 7 rfl)
    q_Table_rows := c.def_ 46 (d := ⟨fun K => wr K "Table" "property" "rows", "rows", "Table.rows", defArgs s_Table_rows, defBody s_Table_rows, defScope s_Table_rows, [], []⟩) rfl
    p_Question_atoms := po_ok (xf 8 rfl)
    q_Question_atoms := c.def_ 47 (d := ⟨fun K => wr K "Question" "property" "atoms", "atoms", "Question.atoms", defArgs s_Question_atoms, defBody s_Question_atoms, defScope s_Question_atoms, [], []⟩) rfl
    p_Question_variables := po_ok (xf 9 rfl)
    q_Question_variables := c.def_ 48 (d := ⟨fun K => wr K "Question" "property" "variables", "variables", "Question.variables", defArgs s_Question_variables, defBody s_Question_variables, defScope s_Question_variables, [], []⟩) rfl
    m_text := He.meth_ok (c.fact 76 (f := .meth "Table" "text") rfl)
    i_text := c.def_ 49 (d := ⟨fun K => me K "Table" "text", "text", "Table.text", defArgs s_Table_text, defBody s_Table_text, defScope s_Table_text, [], []⟩) rfl
    c_call := co_ok (xf 10 rfl)
    i_call := c.def_ 50 (d := ⟨fun K => me K "Question" "__call__", "__call__", "Question.__call__", defArgs s_Question_call, defBody s_Question_call, defScope s_Question_call, [], []⟩) rfl
  }
end
end CA
open PySem PySem.W PySem.Calls PyProof.Rows
theorem PySem.Challenge.cw_countalike_k45_whole_alike_questions_cou_holds : PySem.Challenge.rw_countalike_k45_whole_alike_questions_cou.Holds := by
  w_on; o_law
  refine HandSHeadRun.head_any (r := OpenLaw.row PySem.Challenge.rw_countalike_k45_whole_alike_questions_cou) (q := view (OpenLaw.row PySem.Challenge.rw_countalike_k45_whole_alike_questions_cou).prog [75]) (H := CA.hk) (ob := CA.ob) (M := 5200) (loose := CA.names1 ++ CA.names2 ++ CA.names3) (d := HandSHeadRun.topDef (OpenLaw.row PySem.Challenge.rw_countalike_k45_whole_alike_questions_cou).prog 75) (kwd := []) CA.ob_eq
    (by kernel_rfl) (fun s => by kernel_rfl) CA.run (by kernel_rfl) (by kernel_rfl) (by kernel_rfl) (by rfl) (by first | assumption | decide +kernel) (by decide +kernel) ⟨rfl, rfl, rfl, rfl, rfl, by decide +kernel⟩ ?hw ?hc
  case hw => w_witness2
  case hc =>
    refine L2.walk_ofE (l := PySem.Challenge.rw_countalike_k45_whole_alike_questions_cou) (n := 63) (k := 12) (x := "_law_script") (CX := L2.CX0) rfl (by decide) (by kernel_rfl) ⟨rfl, by decide, by decide⟩ ?F (fun _ _ _ _ z => z)
    intro w mg fa h Y G hmg0
    obtain ⟨K, KX, c⟩ := Y
    have T : CA.Txt K mg := CA.txt_of KX G c
    have hmg : mg ("law" : PySem.Str) = some (.ref fa) := by
      have e : (HandSHeadRun.topDef (OpenLaw.row PySem.Challenge.rw_countalike_k45_whole_alike_questions_cou).prog 75).name = ("law" : PySem.Str) := by kernel_rfl
      rw [← e]
      exact hmg0
    have e := hmg.symm.trans T.d_law.2
    cases e
    obtain ⟨fd, F⟩ := c.1.def_ 41 (d := CA.gd "law" CA.s_law) rfl
    have b := L2.FunD.bindsA (ps := ["_law_script"]) F fun _ _ _ _ _ _ us hl => match us, hl with | [_], _ => rfl
    exact ⟨K, fd, CA.sp_law K, KX, fun s v => b s [v] rfl, fun H a ns hl _ hS => ⟨a, ns, rfl, hS, fun _ => rfl⟩, fun base _ _ => CA.ok_law (He5.fun_of F) T⟩
