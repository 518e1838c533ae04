import PyProof.Rows.All
import Wide.All
import OpenK.AllK
import Wide.FinOn
import HandS.ForMost
import HandS.TupAny
import HandS.TupLe
import HandS.TupMul
import HandS.Flow
import HandS.RevRange
import HandS.Wide
import HandS.Set
import HandS.More
import HandS.Conv
import HandS.Style
import HandS.Strs
import HandS.TupSets
import KE.KeyNested
import KE.KDictKeyed
import HandS.SetFor
import KE.DataEq
import KE.DataFind
import KE.DataCmp
import KE.DataMinMax
import KE.DataAny
import KE.DataIsa
import KE.SortData
import KE.KDictCopyH
import KE.KDictWalk
import KE.KDictItemsList
import KE.DatumIndex
import Wide.Seal
import HandS.Words
import HandS.BoundList
import KE.DatumMoreOrd
import PySem.Challenge.RW_roadwalked_k29_bells_in_fog_and_courses
set_option Elab.async false
set_option linter.all false
set_option autoImplicit false
set_option maxRecDepth 100000
/-! Tuples made, told as objects (so that it is known that they have no dict). -/
namespace RW
open PySem PySem.Spec PyProof.Rows L2
section
variable {X : Cx} {pins : List (Addr × Obj)} {σ : L2.St} {H : Hp} {s : Shared}
/-- a tuple told with its object -/
def FT (ob : Obj) (xs : List V) : HO := .frz ob (.tup xs)
theorem FT_ok {P : Program} {w : World} {H : Hp} {h : Heap} {a : Addr} {us : List Value} {xs : List V} (e : h.get? a = some { cls := .type "tuple", data := .seq us.toArray }) (r : Vals xs us) (hz : xs.length ≤ sizeLine) :
    ObjOk P w H h a (FT { cls := .type "tuple", data := .seq us.toArray } xs) := ⟨e, hz, us, r, _, e, rfl, _, rfl⟩
/-- what a new tuple asks -/
abbrev NewT (H : Hp) (Q : VK) (xs : List V) : Prop := ∀ p ob, H p = none → ob.dict = none → Q (.ref p) (upd H p (FT ob xs))
theorem lay_tup {h' : Heap} {t' : Nat} {us : List Value} {xs : List V} {Q : VK} (I : Inv X pins σ H s) (e : h' = s.heap.push { cls := .type "tuple", data := .seq us.toArray }) (r : Vals xs us) (hz : xs.length ≤ sizeLine) (q : NewT H Q xs) : EP X pins σ Q (.ref s.heap.objs.size) { s with heap := h', toks := t' } := by
  subst e
  exact ⟨.ref s.heap.objs.size, _, I.laid (t' := t') (fun b o e => Heap.get?_push_of_some _ e) (Nat.le_refl _) (FT_ok (Heap.get?_push_size _ rfl) r hz), rfl, q _ _ (I.hok.fresh (Nat.le_refl _)) rfl⟩
def tTupF (t : TA) : TE := fun σ H Q => t σ H fun xs H1 => xs.length ≤ sizeLine ∧ NewT H1 Q xs
theorem pe_tupF {es : List Expr} {t : TA} {x1 : Nat} {pos : Pos} (h : PA X es t) : PE X (.Tuple es x1 pos) (tTupF t) := by
  refine ⟨fun pins s σ H Q I hq => ?_⟩
  refine wpAny_Tuple_spliced (thn (h.run pos pins s σ H _ I hq) fun us s1 ⟨xs, H1, I1, r, z, q⟩ => ⟨by rw [← r.length]; exact z, ?_⟩)
  exact lay_tup (s := s1) I1 (t' := s1.toks) rfl r z q
def rCatF (K : PySem.W.Frag) : R2 := fun x y H Q => ∃ a b xs ys, x = .ref a ∧ y = .ref b ∧ SqT K H a xs ∧ SqT K H b ys ∧ xs.length + ys.length ≤ sizeLine ∧
  (xs = [] → Q (.ref b) H) ∧ (xs ≠ [] → ys = [] → Q (.ref a) H) ∧ (xs ≠ [] → ys ≠ [] → NewT H Q (xs ++ ys))
theorem op_catF : OpR X (binaryOp .Add) (rCatF X.K) := by
  intro pins s σ H x y v u Q I rx ry h
  obtain ⟨a, b, xs, ys, rfl, rfl, ha, hb, hz, q0, q1, q2⟩ := h
  cases rx
  cases ry
  obtain ⟨its, r1, p1, _⟩ := I.tuple ha
  obtain ⟨its2, r2, p2, _⟩ := I.tuple hb
  by_cases hx : xs = []
  · subst hx
    cases r1
    exact cat_tup0 p1 p2 ⟨.ref b, H, I, rfl, q0 rfl⟩
  · refine HT.cat_tup p1 p2 (fun z => hx (r1.nil_iff.mp z)) (fun z => ⟨.ref a, H, I, rfl, q1 hx (r2.nil_iff.mp z)⟩) (fun z => ?_) (by rw [← r1.length, ← r2.length]; exact hz)
    exact lay_tup (s := s) I (t' := s.toks) rfl (r1.append r2) (by rw [List.length_append]; exact hz) (q2 hx fun w => z (r2.nil_iff.mpr w))
def rSlF (K : PySem.W.Frag) : V → Option Int → Option Int → Hp → VK → Prop := fun x lo hi H Q => ∃ a xs, x = .ref a ∧ SqT K H a xs ∧
  (HT.sIx xs.length 0 lo = 0 ∧ HT.sIx xs.length xs.length hi = xs.length → Q (.ref a) H) ∧ (¬ (HT.sIx xs.length 0 lo = 0 ∧ HT.sIx xs.length xs.length hi = xs.length) → NewT H Q (cutV xs lo hi))
theorem sl_tupF : SlR X (rSlF X.K) := by
  intro pins s σ H x v vl vu lo hi sl Q I rx hs pl pu h
  obtain ⟨a, xs, rfl, hx, q1, q2⟩ := h
  cases rx
  obtain ⟨its, r, ht, hz⟩ := I.tuple hx
  have hlen : its.toArray.size = xs.length := by rw [List.size_toArray]; exact r.length.symm
  refine ⟨"tuple", _, PyProof.Rows.slot_tuple_getitem.lookup, ht.typeIs, ?_⟩
  by_cases hw : HT.sIx xs.length 0 lo = 0 ∧ HT.sIx xs.length xs.length hi = xs.length
  · exact getItem_tuple_whole ht hs pl pu (by rw [hlen]; exact hw) ⟨.ref a, H, I, rfl, q1 hw⟩
  · refine HT.getItem_tuple_cut ht hs pl pu (by rw [hlen]; exact hw) ?_ (by rw [hlen]; exact hz)
    rw [hlen]
    exact lay_tup (s := s) I (t' := s.toks) rfl ((r.drop (HT.sIx xs.length 0 lo)).take (HT.sIx xs.length xs.length hi - HT.sIx xs.length 0 lo)) (Nat.le_trans (cutV_length xs lo hi) hz) (q2 hw)
theorem call_tupF : CallR X (.type "tuple") (fun xs H Q => ∃ p ys, xs = [.ref p] ∧ ((SqL X.K H p ys ∧ NewT H Q ys) ∨ (SqT X.K H p ys ∧ Q (.ref p) H))) := by
  intro pins s σ H xs us Q I r h
  obtain ⟨p, ys, rfl, h⟩ := h
  obtain ⟨u, rfl, rx⟩ := vals1 r
  cases rx
  rcases h with ⟨hq, q⟩ | ⟨hq, q⟩
  · obtain ⟨its, r', pl, hz⟩ := I.list hq
    have hlen := r'.length
    refine call_tuple_list pl.isList (fun h' kp => ?_) (by simp only [List.size_toArray] <;> omega)
    have I1 : Inv X pins σ H { s with heap := h' } := I.kept (t' := s.toks) kp
    exact lay_tup (s := { s with heap := h' }) I1 (t' := s.toks) rfl r' hz q
  · obtain ⟨its, r', pl, hz⟩ := I.tuple hq
    exact call_tuple_same pl ⟨.ref p, H, I, rfl, q⟩
end
end RW
/-! Set tables up to 2048 slots: each slot is met. -/
namespace RW
open PySem L2
/-- the masks of the tables that come -/
def Mk (m : Nat) : Prop := m = 7 ∨ m = 31 ∨ m = 127 ∨ m = 511 ∨ m = 2047
/-- one round of i -> 5 i + 1: the slots met as bits, and where it ends -/
def orb (m : Nat) : Nat → Nat → Nat → Nat × Nat
  | 0, i, acc => (i, acc)
  | f + 1, i, acc => orb m f ((i * 5 + 1) % (m + 1)) (acc ||| (1 <<< i))
theorem lcgI_step (m : Nat) : ∀ k i, lcgI m ((i * 5 + 1) % (m + 1)) k = lcgI m i (k + 1)
  | 0, _ => rfl
  | k + 1, i => by
    simp only [lcgI] at *
    rw [lcgI_step m k i]
    rfl
theorem orb_fst (m : Nat) : ∀ f i acc, (orb m f i acc).1 = lcgI m i f
  | 0, _, _ => rfl
  | f + 1, i, acc => (orb_fst m f _ _).trans (lcgI_step m f i)
theorem orb_bit (m j : Nat) : ∀ f i acc, (orb m f i acc).2.testBit j = true → acc.testBit j = true ∨ ∃ b, b < f ∧ lcgI m i b = j
  | 0, _, _, h => .inl h
  | f + 1, i, acc, h => by
    rcases orb_bit m j f _ _ h with g | ⟨b, hb, e⟩
    · rw [Nat.testBit_or, Bool.or_eq_true] at g
      rcases g with g | g
      · exact .inl g
      · rw [Nat.one_shiftLeft, Nat.testBit_two_pow, decide_eq_true_eq] at g
        exact .inr ⟨0, Nat.succ_pos _, g⟩
    · exact .inr ⟨b + 1, Nat.succ_lt_succ hb, by rw [← lcgI_step]; exact e⟩
theorem orb_all {m : Nat} (hm : Mk m) : orb m (m + 1) 0 0 = (0, 2 ^ (m + 1) - 1) := by
  rcases hm with e | e | e | e | e <;> subst e <;> decide +kernel

theorem lcgI_add (m i a : Nat) : ∀ k, lcgI m (lcgI m i a) k = lcgI m i (a + k)
  | 0 => rfl
  | k + 1 => by
    have e := lcgI_add m i a k
    show (lcgI m (lcgI m i a) k * 5 + 1) % (m + 1) = (lcgI m i (a + k) * 5 + 1) % (m + 1)
    rw [e]
theorem lc_zero {m : Nat} (hm : Mk m) : lcgI m 0 (m + 1) = 0 := by rw [← orb_fst m (m + 1) 0 0, orb_all hm]
theorem lc_all {m j : Nat} (hm : Mk m) (hj : j ≤ m) : ∃ b, b ≤ m ∧ lcgI m 0 b = j := by
  have h := orb_bit m j (m + 1) 0 0
  rw [orb_all hm] at h
  rcases h (by rw [Nat.testBit_two_pow_sub_one]; exact decide_eq_true (by omega)) with g | ⟨b, hb, e⟩
  · rw [Nat.zero_testBit] at g; cases g
  · exact ⟨b, by omega, e⟩
theorem lc_turn {m : Nat} (hm : Mk m) (k : Nat) : lcgI m 0 (m + 1 + k) = lcgI m 0 k := by
  rw [← lcgI_add, lc_zero hm]
/-- from anywhere to anywhere within a round -/
theorem lc_from {m i j : Nat} (hm : Mk m) (hi : i ≤ m) (hj : j ≤ m) : ∃ k, k ≤ m ∧ lcgI m i k = j := by
  obtain ⟨a, ha, rfl⟩ := lc_all hm hi
  obtain ⟨b, hb, rfl⟩ := lc_all hm hj
  by_cases c : a ≤ b
  · exact ⟨b - a, by omega, by rw [lcgI_add]; congr 1; omega⟩
  · refine ⟨m + 1 + b - a, by omega, ?_⟩
    rw [lcgI_add, show a + (m + 1 + b - a) = m + 1 + b by omega, lc_turn hm]
/-- a run begins at each slot -/
theorem run_at {m j : Nat} (hm : Mk m) (h : Int) (hj : j ≤ m) : ∃ n, n ≤ m + 12 ∧ runI m (SetTable.bits h) n = j := by
  obtain ⟨k, hk, e⟩ := lc_from hm (runI_le m (SetTable.bits h) 12) hj
  exact ⟨12 + k, by omega, (runI_tail (bits_lt h) k).trans e⟩
theorem way_bd (m : Nat) (h : Int) (k : Nat) : way m h k ≤ m := by
  have b0 : SetTable.bits h % (m + 1) ≤ m := Nat.le_of_lt_succ (Nat.mod_lt _ (Nat.succ_pos _))
  have b1 := runEnd_bd b0
  have b2 : (runAt m (SetTable.bits h % (m + 1)) (SetTable.bits h)).j + (runAt m (SetTable.bits h % (m + 1)) (SetTable.bits h)).more ≤ m := by
    simp only [runAt]; omega
  exact Nat.le_trans (Nat.le_add_right _ _) (nth_in k _ b2)
theorem way_met {m j : Nat} (hm : Mk m) (h : Int) (hj : j ≤ m) : ∃ k, k < 10 * SetTable.turns m ∧ way m h k = j := by
  obtain ⟨n, hn, rfl⟩ := run_at hm h hj
  obtain ⟨k, hk, e⟩ := run_nth m (SetTable.bits h) n
  exact ⟨k, by simp only [SetTable.turns]; omega, by show SetTable.Probe.j _ = _; rw [e]; rfl⟩
/-- the first of the way that isn't among few -/
theorem way_free {m : Nat} (hm : Mk m) (h : Int) {pl : List Nat} (hl : pl.length ≤ m) : ∃ K, K < 10 * SetTable.turns m ∧ way m h K ∉ pl ∧ ∀ k, k < K → way m h k ∈ pl := by
  obtain ⟨j, hj, hn⟩ := st_missing pl (m + 1) (by omega)
  obtain ⟨k, hk, e⟩ := way_met hm h (Nat.le_of_lt_succ hj)
  obtain ⟨K, l1, l2, l3⟩ := st_least (p := fun q => way m h q ∉ pl) k (by rw [e]; exact hn)
  exact ⟨K, Nat.lt_of_le_of_lt l1 hk, l2, fun q hq => Classical.not_not.mp (l3 q hq)⟩
/-- the same, as the laying anew seeks it -/
theorem lay_free {m j : Nat} (hm : Mk m) (ow : Array (Option Nat)) (h : Int) (hj : j ≤ m) (hf : oAt ow j = none) :
    ∃ K, SetTable.layClean.free m ow (SetTable.turns m) (SetTable.bits h % (m + 1)) (SetTable.bits h) = some (way m h K) ∧ oAt ow (way m h K) = none ∧ ∀ k, k < K → oAt ow (way m h k) ≠ none := by
  obtain ⟨n, hn, e⟩ := run_at hm h hj
  have ew : way m h (off m (SetTable.bits h % (m + 1)) (SetTable.bits h) n) = j := by
    show SetTable.Probe.j _ = j
    rw [nth_off, itL_run, ← e]
    rfl
  obtain ⟨K, l1, l2, l3⟩ := st_least (p := fun q => oAt ow (way m h q) = none) _ (show oAt ow (way m h (off m (SetTable.bits h % (m + 1)) (SetTable.bits h) n)) = none by rw [ew]; exact hf)
  refine ⟨K, free_spec m ow _ n _ _ K (by simp only [SetTable.turns]; omega) l1 (fun q hq => ?_) (Option.isNone_iff_eq_none.mpr l2), l2, l3⟩
  have := l3 q hq
  exact Bool.eq_false_iff.mpr fun z => this (Option.isNone_iff_eq_none.mp z)
/-- who lies where, laid one by one -/
theorem own_more {m : Nat} (hm : Mk m) {ds : List Int} {ow : Array (Option Nat)} (W : Own m ds ow) (hl : ds.length ≤ m) (h : Int) :
    ∃ j, SetTable.layClean.free m ow (SetTable.turns m) (SetTable.bits h % (m + 1)) (SetTable.bits h) = some j ∧ Own m (ds ++ [h]) (ow.setIfInBounds j (some ds.length)) := by
  obtain ⟨ps, lp, hp⟩ := W.ps
  obtain ⟨j0, g0, g1⟩ := st_missing ps (m + 1) (by omega)
  have g2 : oAt ow j0 = none := Classical.not_not.mp fun z => g1 (hp j0 (Nat.le_of_lt_succ g0) z)
  obtain ⟨K, k1, k2, k3⟩ := lay_free hm ow h (Nat.le_of_lt_succ g0) g2
  obtain ⟨j, ej⟩ : ∃ j, j = way m h K := ⟨_, rfl⟩
  have hjm : j ≤ m := by rw [ej]; exact way_bd m h K
  have self := oAt_set_self (owner := ow) (some ds.length) (j := j) (by rw [W.sz]; omega)
  have keep : ∀ {i : Nat}, oAt ow i ≠ none → oAt (ow.setIfInBounds j (some ds.length)) i ≠ none := fun {i} hi => by
    by_cases c : i = j
    · subst c; rw [self]; simp
    · rw [oAt_set_ne _ c]; exact hi
  rw [← ej] at k1 k2
  refine ⟨j, k1, ?_, fun i k hi e => ?_, fun k hk => ?_, j :: ps, ?_, fun i hi e => ?_⟩
  · rw [Array.size_setIfInBounds, W.sz]
  · by_cases c : i = j
    · subst c
      rw [self] at e
      cases e
      exact ⟨h, K, by simp, ej.symm, fun q hq => keep (k3 q hq)⟩
    · rw [oAt_set_ne _ c] at e
      obtain ⟨h', K', a1, a2, a3⟩ := W.at_ i k hi e
      exact ⟨h', K', by rw [List.getElem?_append_left (List.getElem?_eq_some_iff.mp a1).1, a1], a2, fun q hq => keep (a3 q hq)⟩
  · rcases Nat.lt_or_ge k ds.length with c | c
    · obtain ⟨i, hi, e⟩ := W.all k c
      exact ⟨i, hi, by rw [oAt_set_ne _ (fun z => by rw [z, k2] at e; cases e), e]⟩
    · have : k = ds.length := by simp at hk; omega
      exact ⟨j, hjm, by rw [self, this]⟩
  · simp [lp]
  · by_cases c : i = j
    · subst c; exact List.mem_cons_self
    · rw [oAt_set_ne _ c] at e
      exact List.mem_cons_of_mem _ (hp i hi e)
theorem own_fold {m : Nat} (hm : Mk m) : ∀ (r ds : List Int) (ow : Array (Option Nat)), Own m ds ow → ds.length + r.length ≤ m →
    ∃ ow', r.foldl (stepF m) (some (ow, ds.length)) = some (ow', (ds ++ r).length) ∧ Own m (ds ++ r) ow'
  | [], ds, ow, W, _ => ⟨ow, by simp, by simpa using W⟩
  | h :: r, ds, ow, W, hl => by
    simp only [List.length_cons] at hl
    obtain ⟨j, e, W1⟩ := own_more hm W (by omega) h
    obtain ⟨ow', f, W2⟩ := own_fold hm r (ds ++ [h]) _ W1 (by simp; omega)
    simp only [List.append_assoc, List.singleton_append] at f W2
    refine ⟨ow', ?_, W2⟩
    rw [List.foldl_cons, stepF_some e, ← f]
    simp
theorem lay_all {m : Nat} (hm : Mk m) {hs : Array Int} (hn : hs.size ≤ m) : ∃ ow, SetTable.layClean m hs = some ow ∧ Own m hs.toList ow := by
  obtain ⟨ow, f, W⟩ := own_fold hm hs.toList [] _ (Own.init m) (by simpa using hn)
  refine ⟨ow, ?_, by simpa using W⟩
  rw [layClean_eq, show (some (Array.replicate (m + 1) (none : Option Nat), 0)) = some (Array.replicate (m + 1) none, ([] : List Int).length) from rfl, f]
  rfl
end RW
/-! Set tables of keyed tuples: one put in, all laid anew. -/
namespace RW
open PySem L2
/-- a row of the table: its slot, the element, the element as a key -/
abbrev Row := Nat × Addr × NestedKey
def rhash (w : World) (r : Row) : Int := r.2.2.hash w
def rent (w : World) (r : Row) : Int × Value := (rhash w r, .ref r.2.1)
structure Tb (w : World) (m : Nat) (R : List Row) : Prop where
  mok : Mk m
  ris : Ris (R.map (·.1))
  bd : ∀ r ∈ R, r.1 ≤ m
  met : ∀ r ∈ R, ∃ k, way m (rhash w r) k = r.1 ∧ ∀ q, q < k → way m (rhash w r) q ∈ R.map (·.1)
section
variable {w : World} {m : Nat} {R : List Row}
/-- put in at a free slot of its way -/
theorem Tb.put (T : Tb w m R) {pl : Array Nat} (hp : pl.toList = R.map (·.1)) {b : Addr} {k : NestedKey} {K : Nat} (h0 : way m (k.hash w) K ∉ R.map (·.1)) (h1 : ∀ q, q < K → way m (k.hash w) q ∈ R.map (·.1)) :
    Tb w m (R.take (SetTable.below pl (way m (k.hash w) K)) ++ (way m (k.hash w) K, b, k) :: R.drop (SetTable.below pl (way m (k.hash w) K))) := by
  generalize hj : way m (k.hash w) K = j at *
  generalize hi : SetTable.below pl j = i
  have up : ∀ {x : Nat}, x ∈ R.map (·.1) → x ∈ (R.take i ++ (j, b, k) :: R.drop i).map (·.1) := fun {x} hx => by
    obtain ⟨r, hr, rfl⟩ := List.mem_map.mp hx
    exact List.mem_map_of_mem (mem_ins.2 (.inr hr))
  refine ⟨T.mok, ?_, fun r hr => ?_, fun r hr => ?_⟩
  · have e : (R.take i ++ (j, b, k) :: R.drop i).map (·.1) = (SetTable.insertAt pl i j).toList := by
      rw [SetTable.toList_insertAt, hp, List.map_append, List.map_cons, List.map_take, List.map_drop]
    rw [e, ← hi]
    refine ris_insert (by rw [hp]; exact T.ris) fun z => h0 ?_
    rw [← hp]
    exact List.mem_of_getElem? (by rw [Array.getElem?_toList]; exact z)
  · rcases mem_ins.1 hr with rfl | hr
    · show j ≤ m
      rw [← hj]
      exact way_bd _ _ _
    · exact T.bd r hr
  · rcases mem_ins.1 hr with rfl | hr
    · exact ⟨K, hj, fun q hq => up (h1 q hq)⟩
    · obtain ⟨c, e, z⟩ := T.met r hr
      exact ⟨c, e, fun q hq => up (z q hq)⟩
theorem range_each {α : Type} (l : List α) : (List.range l.length).filterMap (fun i => l[i]?) = l := by
  have e : (List.range l.length).map (fun i => l[i]?) = l.map some := by
    apply List.ext_getElem
    · simp
    · intro i h1 h2
      simp at h1
      simp [List.getElem?_eq_getElem h1]
  have f : ∀ ys : List (Option α), ys.filterMap id = ys.filterMap id := fun _ => rfl
  calc (List.range l.length).filterMap (fun i => l[i]?) = ((List.range l.length).map (fun i => l[i]?)).filterMap id := by rw [List.filterMap_map]; rfl
    _ = (l.map some).filterMap id := by rw [e]
    _ = l := by rw [List.filterMap_map]; simp
/-- where one lies, in the new table -/
def reRow (R : List Row) (p : Nat × Nat) : Option Row := (R[p.2]?).map fun r => (p.1, r.2)
theorem live_facts {ow : Array (Option Nat)} {hs : List Int} (W : Own m hs ow) : Ris ((liveOf m ow).map (·.1)) ∧ (∀ p ∈ liveOf m ow, p.1 ≤ m ∧ p.2 < hs.length) ∧ ((liveOf m ow).map (·.2)).Perm (List.range hs.length) := by
  have r := ris_live (fun j => ow.getD j none) (List.range (m + 1)) List.pairwise_lt_range
  have r1 : Ris ((liveOf m ow).map (·.1)) := r.1
  have inn : ∀ p ∈ liveOf m ow, p.1 ≤ m ∧ p.2 < hs.length := fun p hp => by
    obtain ⟨a, b⟩ := (mem_live (j := p.1) (k := p.2) W.sz).1 hp
    obtain ⟨h, K, c, _⟩ := W.at_ _ _ a b
    exact ⟨a, (List.getElem?_eq_some_iff.mp c).1⟩
  have allk : ∀ k, k < hs.length → k ∈ (liveOf m ow).map (·.2) := fun k hk => by
    obtain ⟨j, a, b⟩ := W.all k hk
    exact List.mem_map.mpr ⟨(j, k), (mem_live W.sz).2 ⟨a, b⟩, rfl⟩
  obtain ⟨ps, lp, hp⟩ := W.ps
  have nd1 : ((liveOf m ow).map (·.1)).Nodup := List.Pairwise.imp (fun h => Nat.ne_of_lt h) r1
  have up := nat_nodup_len ((liveOf m ow).map (·.1)) ps nd1 fun x hx => by
    obtain ⟨p, hq, rfl⟩ := List.mem_map.mp hx
    obtain ⟨a, b⟩ := (mem_live (j := p.1) (k := p.2) W.sz).1 hq
    exact hp _ a (by rw [b]; exact Option.some_ne_none _)
  have lo := nat_nodup_len (List.range hs.length) ((liveOf m ow).map (·.2)) List.nodup_range fun k hk => allk k (List.mem_range.mp hk)
  simp only [List.length_map, List.length_range] at up lo
  exact ⟨r1, inn, perm_range _ _ (by rw [List.length_map]; omega) allk⟩
theorem reRow_all {ls : List (Nat × Nat)} (h : ∀ p ∈ ls, p.2 < R.length) : ∃ R2 : List Row, ls.filterMap (reRow R) = R2 ∧ R2.map (·.1) = ls.map (·.1) ∧ R2.map (·.2) = (ls.map (·.2)).filterMap (fun i => (R.map (·.2))[i]?) ∧
    ∀ r, r ∈ R2 ↔ ∃ p ∈ ls, ∃ r', R[p.2]? = some r' ∧ r = (p.1, r'.2) := by
  induction ls with
  | nil => exact ⟨[], rfl, rfl, rfl, fun r => by simp⟩
  | cons p ls ih =>
    obtain ⟨R2, e1, e2, e3, e4⟩ := ih fun q hq => h q (List.mem_cons_of_mem _ hq)
    have hp := h p List.mem_cons_self
    have g : R[p.2]? = some R[p.2] := List.getElem?_eq_getElem hp
    refine ⟨(p.1, R[p.2].2) :: R2, ?_, ?_, ?_, fun r => ?_⟩
    · rw [List.filterMap_cons_some (b := (p.1, R[p.2].2)) (by simp [reRow, g]), e1]
    · simp [e2]
    · rw [List.map_cons, List.map_cons, e3, List.filterMap_cons_some (b := R[p.2].2) (by simp [g])]
    · rw [List.mem_cons, e4]
      constructor
      · rintro (rfl | ⟨q, hq, z⟩)
        · exact ⟨p, List.mem_cons_self, _, g, rfl⟩
        · exact ⟨q, List.mem_cons_of_mem _ hq, z⟩
      · rintro ⟨q, hq, r', z1, z2⟩
        rcases List.mem_cons.mp hq with rfl | hq
        · rw [g] at z1; cases z1; exact .inl z2
        · exact .inr ⟨q, hq, r', z1, z2⟩
/-- all laid anew -/
theorem relay_rows (t : SetTable) {es : Array (Int × Value)} (he : es.toList = R.map (rent w)) {wanted M : Nat} (hw : SetTable.sizeAbove wanted - 1 = M) (hM : Mk M) (hn : R.length ≤ M) :
    ∃ t' order R2, t.relaid (es.map (·.1)) wanted = some (t', order) ∧ (order.filterMap (es[·]?)).toList = R2.map (rent w) ∧ t'.place.toList = R2.map (·.1) ∧ (R2.map (·.2)).Perm (R.map (·.2)) ∧ Tb w M R2 ∧ t'.mask = M ∧ t'.led = t.led ∧ t'.dummies = #[] := by
  have hs : (es.map (·.1)).toList = R.map (rhash w) := by rw [Array.toList_map, he, List.map_map]; rfl
  have hz : (es.map (·.1)).size = R.length := by rw [← Array.length_toList, hs, List.length_map]
  obtain ⟨ow, e, W⟩ := lay_all hM (hs := es.map (·.1)) (by rw [hz]; exact hn)
  rw [hs] at W
  obtain ⟨r1, inn, pm⟩ := live_facts W
  rw [List.length_map] at inn pm
  obtain ⟨R2, _, e2, e3, e4⟩ := reRow_all (R := R) (ls := liveOf M ow) fun p hp => (inn p hp).2
  refine ⟨tabOf t M ow, ((liveOf M ow).map (·.2)).toArray, R2, by rw [relaid_eq, hw, e]; rfl, ?_, ?_, ?_, ⟨hM, by rw [e2]; exact r1, fun r hr => ?_, fun r hr => ?_⟩, rfl, rfl, rfl⟩
  · have : R2.map (rent w) = (R2.map (·.2)).map fun q => (q.2.hash w, Value.ref q.1) := by rw [List.map_map]; rfl
    rw [this, e3, Array.toList_filterMap, List.map_filterMap]
    congr 1
    funext i
    rw [← Array.getElem?_toList, he, List.getElem?_map, List.getElem?_map]
    cases R[i]? <;> rfl
  · rw [e2]; rfl
  · rw [e3]
    have q := pm.filterMap (fun i => (R.map (·.2))[i]?)
    rw [show List.range R.length = List.range (R.map (·.2)).length by rw [List.length_map], range_each] at q
    exact q
  · obtain ⟨p, hp, r', _, rfl⟩ := (e4 r).1 hr
    exact (inn p hp).1
  · obtain ⟨p, hp, r', g, rfl⟩ := (e4 r).1 hr
    obtain ⟨a, b⟩ := (mem_live (j := p.1) (k := p.2) W.sz).1 hp
    obtain ⟨h, K, c1, c2, c3⟩ := W.at_ _ _ a b
    rw [List.getElem?_map, g] at c1
    cases c1
    refine ⟨K, c2, fun q hq => ?_⟩
    rw [e2]
    cases z : oAt ow (way M (rhash w r') q) with
    | none => exact absurd z (c3 q hq)
    | some k2 => exact List.mem_map.mpr ⟨(way M (rhash w r') q, k2), (mem_live W.sz).2 ⟨way_bd _ _ _, z⟩, rfl⟩
end
theorem above_308 : SetTable.sizeAbove (SetTable.grown 77) = 512 := by decide +kernel
theorem above_1228 : SetTable.sizeAbove (SetTable.grown 307) = 2048 := by decide +kernel
/-- how large the next table is -/
theorem next_size {m n : Nat} (hm : Mk m) (h1 : n * 5 < m * 3) (h2 : (n + 1) * 5 ≥ m * 3) (h3 : n + 1 ≤ 1228) : ∃ M, SetTable.sizeAbove (SetTable.grown (n + 1)) - 1 = M ∧ Mk M ∧ SetTable.sizeAbove (SetTable.grown (n + 1)) ≤ 2048 ∧ (n + 1) * 5 < M * 3 := by
  rcases hm with rfl | rfl | rfl | rfl | rfl
  · obtain rfl : n = 4 := by omega
    exact ⟨31, by rw [size_20], .inr (.inl rfl), by rw [size_20]; decide, by omega⟩
  · obtain rfl : n = 18 := by omega
    exact ⟨127, by rw [size_76], .inr (.inr (.inl rfl)), by rw [size_76]; decide, by omega⟩
  · obtain rfl : n = 76 := by omega
    exact ⟨511, by rw [above_308], .inr (.inr (.inr (.inl rfl))), by rw [above_308]; decide, by omega⟩
  · obtain rfl : n = 306 := by omega
    exact ⟨2047, by rw [above_1228], .inr (.inr (.inr (.inr rfl))), by rw [above_1228]; exact Nat.le_refl _, by omega⟩
  · omega
end RW
/-! Sets of keyed tuples: the search, the adding. -/
namespace RW
open PySem L2
section
variable {P : Program} {w : World}
/-- v's class is none of a class statement -/
def NoCls (P : Program) (w : World) (n : Nat) (s : Shared) (v : Value) : Prop := ∀ (A : Around) (E : Value → Shared → Prop) (Q : Bool → Shared → Prop), Q false s → wpAny (model P w) A (ofAClassStatement n v) Q E s
theorem NoCls.tup {n : Nat} {s : Shared} {a : Addr} {o : Obj} {vs : Array Value} {m : Nat} (ho : s.heap.get? a = some o) (hc : o.cls = .type "tuple") (hd : o.data = .seq vs m) (hv : ∀ v ∈ vs.toList, NoCls P w n s v) : NoCls P w (n + 1) s (.ref a) := fun A E Q q => by
  have ty : s.TypeIs (.ref a) "tuple" := ⟨o, ho, hc⟩
  unfold ofAClassStatement
  refine wpAny_bind (wpAny_typeOf ty ?_)
  dsimp only
  simp only [show (("tuple" : String) == "tuple") = true from rfl, if_true, Bool.not_true, Bool.false_eq_true, if_false]
  try refine wpAny_bind (wpAny_pure ?_)
  try simp only [Bool.not_true, Bool.false_eq_true, if_false]
  show wpAny _ _ (seqItems? (.ref a) >>= _) _ _ s
  refine wpAny_bind (wpAny_seqItems ho hd (wpAny_bind ?_))
  show wpAny _ _ (forIn vs _ _) _ _ s
  rw [← Array.forIn_toList]
  refine wpAny_forIn_list _ (fun l r z => r.1 = none ∧ z = s ∧ ∀ v ∈ l, NoCls P w n s v) _ (fun v l r z y => ?_) (fun r z y => ?_) _ _ ⟨rfl, rfl, hv⟩
  · obtain ⟨y1, rfl, y2⟩ := y
    refine wpAny_bind (y2 v List.mem_cons_self _ _ _ ?_)
    simp only [Bool.false_eq_true, if_false]
    exact wpAny_pure ⟨rfl, rfl, fun u hu => y2 u (List.mem_cons_of_mem _ hu)⟩
  · obtain ⟨y1, rfl, -⟩ := y
    obtain ⟨r1, r2⟩ := r
    cases y1
    exact wpAny_pure q
mutual
theorem noCls : ∀ (k : NestedKey) (v : Value) (n : Nat) (s : Shared), NestedIs s.heap k v → k.depth ≤ n → NoCls P w n s v
  | .none, _, n, s, x, _ => by cases x; intro A E Q q; cases n <;> exact wpAny_pure q
  | .num _, _, n, s, x, _ => by cases x <;> (intro A E Q q; cases n <;> exact wpAny_pure q)
  | .text _, _, n, s, x, _ => by cases x; intro A E Q q; cases n <;> exact wpAny_pure q
  | .tup ks, _, 0, s, x, hn => by simp only [NestedKey.depth] at hn; omega
  | .tup ks, _, n + 1, s, x, hn => by
    cases x with
    | tup g1 g2 g3 g4 => exact .tup g1 g2 g3 (noClss ks _ n s g4 (by simp only [NestedKey.depth] at hn; omega))
theorem noClss : ∀ (ks : List NestedKey) (vs : List Value) (n : Nat) (s : Shared), NestedAll s.heap ks vs → NestedKey.depthAll ks ≤ n → ∀ v ∈ vs, NoCls P w n s v
  | [], _, n, s, x, _, v, hv => by cases x; cases hv
  | k :: ks, _, n, s, x, hn, v, hv => by
    cases x with
    | cons x1 x2 =>
      simp only [NestedKey.depthAll] at hn
      rcases List.mem_cons.mp hv with rfl | hv
      · exact noCls k _ n s x1 (by omega)
      · exact noClss ks _ n s x2 (by omega) v hv
end
/-- whether its hash goes by value is told, this way or that -/
def ByV (P : Program) (w : World) (n : Nat) (s : Shared) (v : Value) : Prop := ∀ (A : Around) (E : Value → Shared → Prop) (Q : Bool → Shared → Prop), (∀ b, Q b s) → wpAny (model P w) A (hashByValue n v) Q E s
theorem ByV.tup {n : Nat} {s : Shared} {a : Addr} {o : Obj} {vs : Array Value} {m : Nat} (ho : s.heap.get? a = some o) (hc : o.cls = .type "tuple") (hd : o.data = .seq vs m) (hv : ∀ v ∈ vs.toList, ByV P w n s v) : ByV P w (n + 1) s (.ref a) := fun A E Q q => by
  have ty : s.TypeIs (.ref a) "tuple" := ⟨o, ho, hc⟩
  unfold hashByValue
  refine wpAny_bind (wpAny_specialOf ty F.slot_tuple_hash.lookup ?_)
  show wpAny _ _ (seqItems? (.ref a) >>= _) _ _ s
  refine wpAny_bind (wpAny_seqItems ho hd (wpAny_bind ?_))
  show wpAny _ _ (forIn vs _ _) _ _ s
  rw [← Array.forIn_toList]
  refine wpAny_forIn_list _ (fun l r z => r.1 = none ∧ z = s ∧ ∀ v ∈ l, ByV P w n s v) _ (fun v l r z y => ?_) (fun r z y => ?_) _ _ ⟨rfl, rfl, hv⟩
  · obtain ⟨y1, rfl, y2⟩ := y
    refine wpAny_bind (y2 v List.mem_cons_self _ _ _ fun b => ?_)
    cases b
    · simp only [Bool.not_false, if_true]
      exact wpAny_pure (wpAny_pure (q false))
    · simp only [Bool.not_true, Bool.false_eq_true, if_false]
      exact wpAny_pure ⟨rfl, rfl, fun u hu => y2 u (List.mem_cons_of_mem _ hu)⟩
  · obtain ⟨y1, rfl, -⟩ := y
    obtain ⟨r1, r2⟩ := r
    cases y1
    exact wpAny_pure (q true)
mutual
theorem byV : ∀ (k : NestedKey) (v : Value) (n : Nat) (s : Shared), NestedIs s.heap k v → k.depth ≤ n → ByV P w n s v
  | .none, _, n, s, x, _ => by cases x; intro A E Q q; cases n <;> exact wpAny_pure (q _)
  | .num _, _, n, s, x, _ => by cases x <;> (intro A E Q q; cases n <;> exact wpAny_pure (q _))
  | .text _, _, n, s, x, _ => by cases x; intro A E Q q; cases n <;> exact wpAny_pure (q _)
  | .tup ks, _, 0, s, x, hn => by simp only [NestedKey.depth] at hn; omega
  | .tup ks, _, n + 1, s, x, hn => by
    cases x with
    | tup g1 g2 g3 g4 => exact .tup g1 g2 g3 (byVs ks _ n s g4 (by simp only [NestedKey.depth] at hn; omega))
theorem byVs : ∀ (ks : List NestedKey) (vs : List Value) (n : Nat) (s : Shared), NestedAll s.heap ks vs → NestedKey.depthAll ks ≤ n → ∀ v ∈ vs, ByV P w n s v
  | [], _, n, s, x, _, v, hv => by cases x; cases hv
  | k :: ks, _, n, s, x, hn, v, hv => by
    cases x with
    | cons x1 x2 =>
      simp only [NestedKey.depthAll] at hn
      rcases List.mem_cons.mp hv with rfl | hv
      · exact byV k _ n s x1 (by omega)
      · exact byVs ks _ n s x2 (by omega) v hv
end
variable {A : Around} {E : Value → Shared → Prop} {s : Shared}
/-- a keyed tuple -/
abbrev KT (h : Heap) (k : NestedKey) (a : Addr) : Prop := NestedIs h k (.ref a) ∧ k.depth ≤ 8
/-- a search among keyed tuples shows nothing of the table -/
theorem unseen {k : NestedKey} {b : Addr} {Q : Bool → Shared → Prop} (hk : KT s.heap k b) {ys : List Value} (hy : ∀ y ∈ ys, ∃ k' c, y = Value.ref c ∧ KT s.heap k' c) (q : Q false s) : wpAny (model P w) A (searchCouldBeSeen (.ref b) ys) Q E s := by
  have qt : ∀ {k c}, KT s.heap k c → QuietAt P w 8 s (.ref c) := fun h => quiet_key _ _ _ _ h.1 h.2
  have ct : ∀ {k c}, KT s.heap k c → NoCls P w 8 s (.ref c) := fun h => noCls _ _ _ _ h.1 h.2
  unfold searchCouldBeSeen
  refine wpAny_bind (wpAny_forIn_list _ (fun l r z => r.1 = none ∧ z = s ∧ ∀ y ∈ l, ∃ k' c, y = Value.ref c ∧ KT s.heap k' c) _ (fun v l r z y => ?_) (fun r z y => ?_) _ _ ⟨rfl, rfl, hy⟩)
  · obtain ⟨y1, rfl, y2⟩ := y
    obtain ⟨k', c, rfl, hc⟩ := y2 v List.mem_cons_self
    have rest := fun u (hu : u ∈ l) => y2 u (List.mem_cons_of_mem _ hu)
    dsimp only
    by_cases same : (b == c || (carriedByValue (.ref b) && carriedByValue (.ref c))) = true
    · exact wp_if_pos same (wpAny_pure ⟨rfl, rfl, rest⟩)
    · refine wp_if_neg same (wpAny_bind (qt hk _ _ _ ?_))
      simp only [Bool.not_true, Bool.false_eq_true, if_false]
      refine wpAny_bind (qt hc _ _ _ ?_)
      simp only [Bool.not_true, Bool.false_eq_true, if_false]
      refine wpAny_bind (ct hk _ _ _ ?_)
      simp only [Bool.false_eq_true, if_false]
      refine wpAny_bind (ct hc _ _ _ ?_)
      simp only [Bool.false_eq_true, if_false]
      exact wpAny_pure ⟨rfl, rfl, rest⟩
  · obtain ⟨y1, rfl, -⟩ := y
    obtain ⟨r1, r2⟩ := r
    cases y1
    exact wpAny_pure q
end
end RW
/-! Sets of keyed tuples: the search, the adding (2). -/
namespace RW
open PySem L2
/-- the set object o over the rows R -/
structure ST (w : World) (o : Obj) (es : Array (Int × Value)) (ep : Nat) (t : SetTable) (R : List Row) : Prop where
  ex : o.ExactSet
  da : o.data = .set es ep t
  en : es.toList = R.map (rent w)
  pl : t.place.toList = R.map (·.1)
  dm : t.dummies = #[]
  led : w.params.followText "set-order" = true ∨ t.led = true
  room : R.length * 5 < t.mask * 3
  tab : Tb w t.mask R
  nd : (R.map (·.2.2)).Nodup
  few : R.length ≤ 1228
section
variable {P : Program} {w : World} {o : Obj} {es : Array (Int × Value)} {ep : Nat} {t : SetTable} {R : List Row}
theorem ST.size (S : ST w o es ep t R) : es.size = R.length := by rw [← Array.length_toList, S.en, List.length_map]
theorem ST.psize (S : ST w o es ep t R) : t.place.size = R.length := by rw [← Array.length_toList, S.pl, List.length_map]
theorem ST.fits (S : ST w o es ep t R) : t.fits es.size = true := by
  have := S.room
  simp only [SetTable.fits, SetTable.fill, S.psize, S.size, S.dm, Bool.and_eq_true, beq_iff_eq, decide_eq_true_eq]
  exact ⟨trivial, by show R.length + 0 ≤ _; omega⟩
theorem ST.entry (S : ST w o es ep t R) {i : Nat} {r : Row} (h : R[i]? = some r) : es[i]? = some (rhash w r, .ref r.2.1) := by
  rw [← Array.getElem?_toList, S.en, List.getElem?_map, h]; rfl
theorem ST.odd (S : ST w o es ep t R) : ¬ t.gaveWay = true := by
  have : t.mask % 2 = 1 := by rcases S.tab.mok with e | e | e | e | e <;> rw [e]
  simp [SetTable.gaveWay, this]
theorem ST.rows (S : ST w o es ep t R) : Ris t.place.toList := by rw [S.pl]; exact S.tab.ris
/-- the way's states -/
abbrev wst (m : Nat) (h : Int) (k : Nat) : SetTable.Probe := nth m (runAt m (SetTable.bits h % (m + 1)) (SetTable.bits h)) k
theorem wst_dummy (m : Nat) (h : Int) : ∀ k, (wst m h k).dummy = none := by
  have go : ∀ (n : Nat) (p : SetTable.Probe), p.dummy = none → (nth m p n).dummy = none := fun n => by
    induction n with
    | zero => exact fun p h => h
    | succ n ih => exact fun p h => ih _ (by unfold adv; split <;> exact h)
  exact fun k => go k _ rfl
theorem wst_on (m : Nat) (h : Int) (c q : Nat) : nth m (wst m h c) q = wst m h (c + q) := (nth_add m c _ q).symm
variable {A : Around} {E : Value → Shared → Prop} {s : Shared} {a x : Addr} {k : NestedKey}
/-- what stands in the set is in the heap too -/
abbrev Held (h : Heap) (R : List Row) : Prop := ∀ r ∈ R, KT h r.2.2 r.2.1
/-- the search, from the c-th step of the way on -/
theorem seek (S : ST w o es ep t R) (ho : s.heap.get? a = some o) (hR : Held s.heap R) (hx : KT s.heap k x) (hu : A.units + 8 < cLine) {K : Nat} (hK : K < 10 * SetTable.turns t.mask)
    (k0 : way t.mask (k.hash w) K ∉ R.map (·.1)) (k1 : ∀ q, q < K → way t.mask (k.hash w) q ∈ R.map (·.1)) {Q : SetFound → Shared → Prop}
    (hin : k ∈ R.map (·.2.2) → Q (.there none) s) (hout : k ∉ R.map (·.2.2) → Q (.free (way t.mask (k.hash w) K) false) s) :
    ∀ (f c : Nat) (st : Option SetTable.Probe), st.getD (t.probeStart (k.hash w)) = wst t.mask (k.hash w) c → c ≤ K → K - c < f →
      (∀ r ∈ R, r.2.2 = k → ∃ c', c ≤ c' ∧ c' < K ∧ r.1 = way t.mask (k.hash w) c') → wpAny (model P w) A (setSearchFrom a (.ref x) (k.hash w) true f st) Q E s
  | 0, _, _, _, _, z, _ => absurd z (Nat.not_lt_zero _)
  | f + 1, c, st, est, hc, hf, ahead => by
    generalize hh : k.hash w = h at *
    rw [setSearchFrom_succ]
    refine wpAny_bind (wpAny_setState_of ho S.da S.fits ?_)
    dsimp only
    refine wp_if_neg S.odd ?_
    try refine wpAny_bind (wpAny_pure ?_)
    have spec := go_spec t S.rows S.dm (fun i => (es[i]?.map (·.1)).getD 0) h (10 * SetTable.turns t.mask) (K - c) (wst t.mask h c) (wst_dummy _ _ _) (by omega)
      (fun q hq => by rw [wst_on, S.pl]; exact k1 (c + q) (by omega)) (by rw [wst_on, S.pl, show c + (K - c) = K by omega]; exact k0)
    have slotR : ∀ {i : Nat} {j : Nat}, t.place.toList[i]? = some j → ∃ r, R[i]? = some r ∧ r.1 = j := fun {i j} e => by
      rw [S.pl, List.getElem?_map, Option.map_eq_some_iff] at e
      exact e
    have slotI : ∀ {r : Row}, r ∈ R → ∃ i : Nat, R[i]? = some r ∧ t.place.toList[i]? = some r.1 := fun {r} hr => by
      obtain ⟨i, hi, e⟩ := List.getElem_of_mem hr
      have e1 : R[i]? = some r := by rw [List.getElem?_eq_getElem hi, e]
      exact ⟨i, e1, by rw [S.pl, List.getElem?_map, e1]; rfl⟩
    have hashR : ∀ {i : Nat} {r : Row}, R[i]? = some r → (es[i]?.map (·.1)).getD 0 = rhash w r := fun e => by rw [S.entry e]; rfl
    rcases spec with ⟨q, i, hq, hi, eh, nob, met⟩ | ⟨nob, met⟩
    · -- a candidate
      rw [wst_on] at hi
      rw [wst_on, wst_on] at met
      have met' : t.probe (fun i => (es[i]?.map (·.1)).getD 0) h (st.getD (t.probeStart h)) = some (.candidate (wst t.mask h (c + q)).j i (wst t.mask h (c + (q + 1)))) := by rw [est]; exact met
      rw [met']
      dsimp only
      obtain ⟨r, er, es1⟩ := slotR hi
      have mr : r ∈ R := List.mem_of_getElem? er
      have rest : wpAny (model P w) A (searchRest a (.ref x) h true f es t (wst t.mask h (c + q)).j i (wst t.mask h (c + (q + 1)))) Q E s := by
        unfold searchRest
        rw [S.entry er]
        dsimp only
        refine wpAny_bind (wpAny_holding ((nestedKind P w).eqBool hu (hR r mr) hx ?_))
        refine wpAny_bind (wpAny_setState_of ho S.da S.fits ?_)
        dsimp only
        by_cases eq : r.2.2 = k
        · exact wp_if_pos (by simp [eq]) (wpAny_pure (hin (List.mem_map.mpr ⟨r, mr, eq⟩)))
        · refine wp_if_neg (by simp [eq]) ?_
          try refine wpAny_bind (wpAny_pure ?_)
          rw [sameMem]
          dsimp only
          have live := slot_live S.rows hi
          simp only [if_true, live, S.entry er]
          refine wpAny_bind (wpAny_isSame_ref_self (wpAny_bind (wpAny_pure ?_)))
          simp only [if_true]
          refine wp_if_neg (by simp [eq]) ?_
          have go : wpAny (model P w) A (setSearchFrom a (.ref x) (k.hash w) true f (some (wst t.mask h (c + (q + 1))))) Q E s := by
            refine seek S ho hR hx hu hK (by rw [hh]; exact k0) (by rw [hh]; exact k1) hin (by rw [hh]; exact hout) f (c + (q + 1)) _ (by rw [hh]; rfl) (by omega) (by omega) fun r0 m0 e0 => ?_
            rw [hh]
            obtain ⟨c', a1, a2, a3⟩ := ahead r0 m0 e0
            refine ⟨c', ?_, a2, a3⟩
            obtain ⟨i0, b1, b2⟩ := slotI m0
            rcases Nat.lt_trichotomy c' (c + q) with z | z | z
            · refine absurd ?_ (nob (c' - c) i0 (by omega) (by rw [wst_on, show c + (c' - c) = c' by omega, b2, a3]))
              rw [hashR b1, ← hh, ← e0]
              rfl
            · subst z
              rw [a3] at b2
              have l0 := slot_live S.rows b2
              rw [live] at l0
              cases l0
              rw [er] at b1
              cases b1
              exact absurd e0 eq
            · omega
          rw [hh] at go
          exact go
      by_cases hl : t.led = true
      · refine wp_if_neg (by simp [hl]) ?_
        try refine wpAny_bind (wpAny_pure ?_)
        exact rest
      · refine wp_if_pos (by simp [hl]) (wpAny_bind (unseen hx (fun y hy => ?_) ?_))
        · obtain ⟨e, he, rfl⟩ := List.mem_map.mp hy
          have he1 : e ∈ es.toList := by
            have : e ∈ es ∧ e.1 = h := by simpa using he
            simpa using this.1
          rw [S.en] at he1
          obtain ⟨r2, m2, rfl⟩ := List.mem_map.mp he1
          exact ⟨r2.2.2, r2.2.1, rfl, hR r2 m2⟩
        · refine wp_if_neg (by decide) ?_
          try refine wpAny_bind (wpAny_pure ?_)
          exact rest
    · -- the empty slot
      rw [wst_on, show c + (K - c) = K by omega] at met
      have met' : t.probe (fun i => (es[i]?.map (·.1)).getD 0) h (st.getD (t.probeStart h)) = some (.empty (wst t.mask h K).j none) := by rw [est]; exact met
      rw [met']
      dsimp only
      refine wpAny_pure (hout fun hm => ?_)
      obtain ⟨r0, m0, e0⟩ := List.mem_map.mp hm
      obtain ⟨c', a1, a2, a3⟩ := ahead r0 m0 e0
      obtain ⟨i0, b1, b2⟩ := slotI m0
      refine nob (c' - c) i0 (by omega) (by rw [wst_on, show c + (c' - c) = c' by omega, b2, a3]) ?_
      rw [hashR b1, ← hh, ← e0]
      rfl
theorem seek0 (S : ST w o es ep t R) (ho : s.heap.get? a = some o) (hR : Held s.heap R) (hx : KT s.heap k x) (hu : A.units + 8 < cLine) {Q : SetFound → Shared → Prop}
    (hin : k ∈ R.map (·.2.2) → Q (.there none) s)
    (hout : ∀ K, k ∉ R.map (·.2.2) → way t.mask (k.hash w) K ∉ R.map (·.1) → (∀ q, q < K → way t.mask (k.hash w) q ∈ R.map (·.1)) → Q (.free (way t.mask (k.hash w) K) false) s) :
    wpAny (model P w) A (setSearch a (.ref x) (k.hash w) true) Q E s := by
  have room := S.room
  obtain ⟨K, z1, z2, z3⟩ := way_free S.tab.mok (k.hash w) (pl := R.map (·.1)) (by rw [List.length_map]; omega)
  have few : 10 * SetTable.turns t.mask < 100000 := by
    simp only [SetTable.turns]
    rcases S.tab.mok with e | e | e | e | e <;> omega
  unfold setSearch
  refine seek S ho hR hx hu z1 z2 z3 hin (fun n => hout K n z2 z3) 100000 0 none rfl (Nat.zero_le _) (by omega) fun r hr er => ?_
  obtain ⟨c, e1, e2⟩ := S.tab.met r hr
  rw [rhash, er] at e1 e2
  refine ⟨c, Nat.zero_le _, ?_, e1.symm⟩
  rcases Nat.lt_trichotomy c K with y | y | y
  · exact y
  · subst y
    exact absurd (List.mem_map.mpr ⟨r, hr, e1.symm⟩) z2
  · exact absurd (e2 K y) z2
end
end RW
/-! Sets of keyed tuples: the adding (3). -/
namespace RW
open PySem L2
section
variable {P : Program} {w : World} {o : Obj} {es : Array (Int × Value)} {ep : Nat} {t : SetTable} {R : List Row}
variable {A : Around} {E : Value → Shared → Prop} {s : Shared} {a x : Addr} {k : NestedKey}
theorem few_sz {n : Nat} (h : n ≤ 1228) : n ≤ sizeLine := by rw [sizeLine_eq]; omega
/-- the table laid anew, larger -/
theorem relay_do {es1 : Array (Int × Value)} {t1 : SetTable} (ho : s.heap.get? a = some o) (ex : o.ExactSet) (da : o.data = .set es1 ep t1) (en : es1.toList = R.map (rent w)) (pl : t1.place.toList = R.map (·.1)) (dm : t1.dummies = #[])
    (led : w.params.followText "set-order" = true ∨ t1.led = true) (nd : (R.map (·.2.2)).Nodup) (few : R.length ≤ 1228) (hl : R.length ≤ t1.mask) {wanted M : Nat} (hw : SetTable.sizeAbove wanted - 1 = M) (hM : Mk M) (hz : SetTable.sizeAbove wanted ≤ 2048) (hn : R.length * 5 < M * 3)
    {Q : Unit → Shared → Prop} (q : ∀ h' o' es' ep' t' R', Heap.SameBut a s.heap h' → h'.get? a = some o' → ST w o' es' ep' t' R' → (R'.map (·.2)).Perm (R.map (·.2)) → Q () { s with heap := h' }) :
    wpAny (model P w) A (setRelay a wanted) Q E s := by
  have z1 : es1.size = R.length := by rw [← Array.length_toList, en, List.length_map]
  have z2 : t1.place.size = R.length := by rw [← Array.length_toList, pl, List.length_map]
  have fit1 : t1.fits es1.size = true := by
    simp only [SetTable.fits, SetTable.fill, z1, z2, dm, Bool.and_eq_true, beq_iff_eq, decide_eq_true_eq]
    exact ⟨trivial, by show R.length + 0 ≤ _; omega⟩
  obtain ⟨t', order, R2, e1, e2, e3, e4, e5, e6, e7, e8⟩ := relay_rows t1 en hw hM (by omega)
  have l2 : R2.length = R.length := by simpa using e4.length_eq
  have z3 : (order.filterMap (es1[·]?)).size = R.length := by rw [← Array.length_toList, e2, List.length_map, l2]
  rw [setRelay_eq]
  refine wpAny_bind (wpAny_setState_of ho da fit1 ?_)
  dsimp only
  refine wp_if_neg (by rw [sizeLine_eq]; omega) ?_
  try refine wpAny_bind (wpAny_pure ?_)
  rw [e1]
  dsimp only
  refine wpAny_bind (wp_if_neg (by rw [z3, z1]; simp) ?_)
  try refine wpAny_bind (wpAny_pure ?_)
  refine wpAny_pure ?_
  dsimp only
  refine wpAny_storeSet_of ho da (q _ _ _ (ep + 1) t' R2 (Heap.SameBut.update ..) (store_at ho da) ⟨ex, rfl, e2, e3, e8, by rw [e7]; exact led, by rw [l2, e6]; exact hn, by rw [e6]; exact e5, ?_, by omega⟩ e4) (by rw [z3]; exact few_sz few)
  have p2 := e4.map (·.2)
  rw [List.map_map, List.map_map] at p2
  exact p2.nodup_iff.mpr nd
/-- one is added -/
theorem add_do (S : ST w o es ep t R) (ho : s.heap.get? a = some o) (hR : Held s.heap R) (hx : KT s.heap k x) (hu : A.units + 8 < cLine) (few : R.length + 1 ≤ 1228) {Q : Bool → Shared → Prop}
    (q : ∀ b h' o' es' ep' t' R', Heap.SameBut a s.heap h' → h'.get? a = some o' → ST w o' es' ep' t' R' → (k ∈ R.map (·.2.2) → R'.map (·.2) = R.map (·.2)) → (k ∉ R.map (·.2.2) → (R'.map (·.2)).Perm ((x, k) :: R.map (·.2))) → Q b { s with heap := h' }) :
    wpAny (model P w) A (setAddHashed a (.ref x) (k.hash w)) Q E s := by
  have room := S.room
  have sz := S.size
  unfold setAddHashed
  refine wpAny_holding ?_
  rw [show (100000 : Nat) = 99999 + 1 from rfl, setAddHashedIn_succ]
  refine wpAny_bind (wpAny_setState_of ho S.da S.fits ?_)
  dsimp only
  refine wp_if_neg (by simp [byScan, Value.scannable]) ?_
  try refine wpAny_bind (wpAny_pure ?_)
  refine wpAny_bind (seek0 S ho hR hx hu (fun hm => ?_) fun K hm z0 z1 => ?_)
  · exact wpAny_pure (q false s.heap o es ep t R (Heap.SameBut.refl a s.heap) ho S (fun _ => rfl) fun z => absurd hm z)
  · dsimp only
    refine wpAny_bind (wpAny_setState_of ho S.da S.fits ?_)
    dsimp only
    have T := S.tab.put S.pl (b := x) z0 z1
    have pp := put_place t (way t.mask (k.hash w) K)
    have pd := put_dm S.dm (way t.mask (k.hash w) K)
    generalize hj : way t.mask (k.hash w) K = j at *
    have f1 : (t.put j).1.mask = t.mask := rfl
    have f2 : (t.put j).1.led = t.led := rfl
    have f3 : (t.put j).2 = SetTable.below t.place j := rfl
    generalize ht : t.put j = tp at *
    obtain ⟨t1, i⟩ := tp
    dsimp only at *
    subst f3
    generalize hi : SetTable.below t.place j = i at *
    have pm : (R.take i ++ (j, x, k) :: R.drop i).Perm ((j, x, k) :: R) := put_perm R i _
    have en1 : (SetTable.insertAt es i (k.hash w, Value.ref x)).toList = (R.take i ++ (j, x, k) :: R.drop i).map (rent w) := by
      rw [SetTable.toList_insertAt, S.en, List.map_append, List.map_cons, List.map_take, List.map_drop]
      rfl
    have pl1 : t1.place.toList = (R.take i ++ (j, x, k) :: R.drop i).map (·.1) := by
      rw [pp, S.pl, List.map_append, List.map_cons, List.map_take, List.map_drop]
    have nd1 : ((R.take i ++ (j, x, k) :: R.drop i).map (·.2.2)).Nodup := (pm.map (·.2.2)).nodup_iff.mpr (by rw [List.map_cons]; exact List.nodup_cons.mpr ⟨hm, S.nd⟩)
    have pm2 : ((R.take i ++ (j, x, k) :: R.drop i).map (·.2)).Perm ((x, k) :: R.map (·.2)) := pm.map (·.2)
    have l1 : (R.take i ++ (j, x, k) :: R.drop i).length = R.length + 1 := pm.length_eq
    generalize SetTable.insertAt es i (k.hash w, Value.ref x) = es1 at en1
    generalize R.take i ++ (j, x, k) :: R.drop i = R1 at *
    have z3 : es1.size = R.length + 1 := by rw [← Array.length_toList, en1, List.length_map, l1]
    have z4 : t1.place.size = R.length + 1 := by rw [← Array.length_toList, pl1, List.length_map, l1]
    -- behind the question how its hash goes
    have go : ∀ t2 : SetTable, t2.mask = t.mask → t2.led = t.led → t2.place = t1.place → t2.dummies = t1.dummies → wpAny (model P w) A (storeSet a es1 t2 >>= fun _ => (if (!false && t2.tooFull) = true then (setRelay a (SetTable.grown (es.size + 1)) >>= fun _ => pure true) else pure true)) Q E s := by
      intro t2 g1 g2 g3 g4
      refine wpAny_bind (wpAny_storeSet_of ho S.da ?_ (by rw [z3]; exact few_sz few))
      have sb : Heap.SameBut a s.heap (s.heap.update a (Obj.putSet es1 t2)) := Heap.SameBut.update ..
      have ho1 := store_at (es' := es1) (t' := t2) ho S.da
      generalize s.heap.update a (Obj.putSet es1 t2) = h1 at sb ho1 ⊢
      have ld : w.params.followText "set-order" = true ∨ t2.led = true := by rw [g2]; exact S.led
      have fill : t2.fill = R.length + 1 := by simp only [SetTable.fill, g3, g4, pd, z4]; rfl
      by_cases full : t2.tooFull = true
      · have full' : (R.length + 1) * 5 ≥ t.mask * 3 := by
          have := full
          simp only [SetTable.tooFull, decide_eq_true_eq, fill, g1] at this
          exact this
        obtain ⟨M, m1, m2, m3, m4⟩ := next_size S.tab.mok room full' few
        refine wp_if_pos (by simp [full]) (wpAny_bind ?_)
        rw [sz]
        refine relay_do (s := { s with heap := h1 }) ho1 ⟨S.ex.1, S.ex.2.1, S.ex.2.2⟩ rfl en1 (by rw [g3]; exact pl1) (by rw [g4]; exact pd) ld nd1 (by omega) (by rw [g1]; omega) m1 m2 m3 (by rw [l1]; exact m4) fun h2 o2 es2 ep2 t3 R2 b1 b2 b3 b4 => ?_
        exact wpAny_pure (q true h2 o2 es2 ep2 t3 R2 (sb.trans b1) b2 b3 (fun z => absurd z hm) fun _ => b4.trans pm2)
      · refine wp_if_neg (by simp [full]) ?_
        have part : ¬ (R.length + 1) * 5 ≥ t.mask * 3 := fun z => full (by simp only [SetTable.tooFull, decide_eq_true_eq, fill, g1]; exact z)
        exact wpAny_pure (q true h1 _ es1 (ep + 1) t2 R1 sb ho1 ⟨⟨S.ex.1, S.ex.2.1, S.ex.2.2⟩, rfl, en1, by rw [g3]; exact pl1, by rw [g4]; exact pd, ld, by rw [l1, g1]; omega, by rw [g1]; exact T, nd1, by omega⟩ (fun z => absurd z hm) fun _ => pm2)
    by_cases hp : t1.plain = true
    · first
        | refine wpAny_bind (wp_if_pos hp (byV _ _ _ _ hx.1 hx.2 _ _ _ fun b => ?_))
        | refine wp_if_pos hp (wpAny_bind (byV _ _ _ _ hx.1 hx.2 _ _ _ fun b => ?_))
      cases b <;> simp only [if_true, Bool.false_eq_true, if_false]
      · exact go { t1 with plain := false } f1 f2 rfl rfl
      · exact go t1 f1 f2 rfl rfl
    · first
        | refine wpAny_bind (wp_if_neg hp (wpAny_pure ?_))
        | refine wp_if_neg hp (wpAny_bind (wpAny_pure ?_))
      try simp only [if_true]
      exact go t1 f1 f2 rfl rfl
end
end RW
/-! Sets of ints and texts: the adding. -/
namespace RW
open PySem L2
def kent (P : Program) (w : World) (p : Value × Key) : Int × Value := ((mixKind P w).hash p.2, p.1)
structure SK (P : Program) (w : World) (o : Obj) (es : Array (Int × Value)) (ep : Nat) (t : SetTable) (L : List (Value × Key)) : Prop where
  ex : o.ExactSet
  da : o.data = .set es ep t
  pm : es.toList.Perm (L.map (kent P w))
  is : ∀ p ∈ L, (mixKind P w).is p.2 p.1 = true
  nd : (L.map (·.2)).Nodup
  fits : t.fits es.size = true
  ris : Ris t.place.toList
  led : w.params.followText "set-order" = true ∨ t.led = true
  few : L.length ≤ 1228
section
variable {P : Program} {w : World} {o : Obj} {es : Array (Int × Value)} {ep : Nat} {t : SetTable} {L : List (Value × Key)}
variable {A : Around} {E : Value → Shared → Prop} {s : Shared} {a : Addr} {x : Value} {k : Key}
theorem mix_scan (h : (mixKind P w).is k x = true) : x.scannable = true := by
  rcases keyIs_shape h with ⟨i, t, rfl, rfl⟩ | ⟨y, t, rfl, rfl⟩ <;> rfl
theorem SK.size (S : SK P w o es ep t L) : es.size = L.length := by rw [← Array.length_toList, S.pm.length_eq, List.length_map]
theorem SK.elems (S : SK P w o es ep t L) : ElemsOf (mixKind P w) es.toList := fun e he => by
  obtain ⟨p, hp, rfl⟩ := List.mem_map.mp (S.pm.mem_iff.mp he)
  exact ⟨⟨p.2, S.is p hp, rfl⟩, mix_scan (S.is p hp)⟩
theorem SK.bound (S : SK P w o es ep t L) : es.size < scanBound := by
  have := S.few
  rw [S.size]
  show _ < 4096
  omega
/-- what has been laid is stored, and laid anew where it grows -/
theorem leaf_tail {g : Bool → Sem Unit} (hg : ∀ (b : Bool) (z : Shared) (Q : Unit → Shared → Prop), Q () z → wpAny (model P w) A (g b) Q E z) {es0 : Array (Int × Value)} {t0 : SetTable} {ep0 : Nat} (ho : s.heap.get? a = some o) (ex : o.ExactSet) (da : o.data = .set es0 ep0 t0)
    {es1 : Array (Int × Value)} {t1 : SetTable} {L1 : List (Value × Key)} (mk : ∀ o1 es2 ep2 t2, o1.ExactSet → o1.data = .set es2 ep2 t2 → es2.toList.Perm (L1.map (kent P w)) → t2.fits es2.size = true → Ris t2.place.toList → (w.params.followText "set-order" = true ∨ t2.led = true) → SK P w o1 es2 ep2 t2 L1)
    (pm : es1.toList.Perm (L1.map (kent P w))) (fit1 : t1.fits es1.size = true) (ri : Ris t1.place.toList) (ld : w.params.followText "set-order" = true ∨ t1.led = true) (few : L1.length ≤ 1228) {d : Bool} {Q : Option Bool → Shared → Prop}
    (q : ∀ h' o' es' ep' t', Heap.SameBut a s.heap h' → h'.get? a = some o' → SK P w o' es' ep' t' L1 → Q (some true) { s with heap := h' }) :
    wpAny (model P w) A (storeSet a es1 t1 >>= fun _ => if (!d && t1.tooFull) = true then (g (relayAll t1 es1 (SetTable.grown es1.size)).2.2 >>= fun _ => storeSet a (relayAll t1 es1 (SetTable.grown es1.size)).1 (relayAll t1 es1 (SetTable.grown es1.size)).2.1 >>= fun _ => pure (some true)) else pure (some true)) Q E s := by
  have z1 : es1.size = L1.length := by rw [← Array.length_toList, pm.length_eq, List.length_map]
  refine wpAny_bind (wpAny_storeSet_of ho da ?_ (by rw [z1]; exact few_sz few))
  have h1 := store_at (es' := es1) (t' := t1) ho da
  have sb1 := Heap.SameBut.update s.heap a (Obj.putSet es1 t1)
  split
  · have r1 := relayAll_perm t1 es1 (SetTable.grown es1.size)
    have r2 := relayAll_fits t1 es1 (SetTable.grown es1.size)
    have r3 := relayAll_ris t1 es1 (SetTable.grown es1.size)
    have r4 := relayAll_led t1 es1 (SetTable.grown es1.size)
    generalize relayAll t1 es1 (SetTable.grown es1.size) = Z at *
    obtain ⟨es2, t2, gv⟩ := Z
    dsimp only at *
    have pm2 := r1.trans pm
    have z2 : es2.size = L1.length := by rw [← Array.length_toList, pm2.length_eq, List.length_map]
    refine wpAny_bind (hg _ _ _ (wpAny_bind (wpAny_storeSet_of h1 rfl (wpAny_pure ?_) (by rw [z2]; exact few_sz few))))
    exact q _ _ es2 _ t2 (sb1.trans (Heap.SameBut.update _ a _)) (store_at h1 rfl) (mk _ _ _ _ ⟨ex.1, ex.2.1, ex.2.2⟩ rfl pm2 r2 r3 (ld.imp id fun y => by rw [r4]; exact y))
  · exact wpAny_pure (q _ _ es1 _ t1 sb1 h1 (mk _ _ _ _ ⟨ex.1, ex.2.1, ex.2.2⟩ rfl pm fit1 ri ld))
theorem add_leaf (S : SK P w o es ep t L) (ho : s.heap.get? a = some o) (hx : (mixKind P w).is k x = true) (few : L.length + 1 ≤ 1228) {Q : Bool → Shared → Prop}
    (q : ∀ b h' o' es' ep' t' L', Heap.SameBut a s.heap h' → h'.get? a = some o' → SK P w o' es' ep' t' L' → (k ∈ L.map (·.2) → L' = L) → (k ∉ L.map (·.2) → L' = L ++ [(x, k)]) → Q b { s with heap := h' }) :
    wpAny (model P w) A (setAddHashed a x ((mixKind P w).hash k)) Q E s := by
  have hsc := mix_scan hx
  have has : ∀ e ∈ es.toList, (mixKind P w).is k e.2 = true → k ∈ L.map (·.2) := fun e he z => by
    obtain ⟨p, hp, rfl⟩ := List.mem_map.mp (S.pm.mem_iff.mp he)
    exact List.mem_map.mpr ⟨p, hp, (mixKind P w).inj _ _ _ (S.is p hp) z⟩
  unfold setAddHashed setAddHashedIn
  refine wpAny_holding (wpAny_bind (wpAny_setState_of ho S.da S.fits ?_))
  dsimp only
  rw [byScan_of hsc S.bound S.elems]
  simp only [↓reduceIte]
  unfold setAddByScan
  refine wpAny_bind (wpAny_bind (wpAny_rule (wpAny_bind (wpAny_setScan_of hx ho S.da S.fits S.elems ?_))))
  cases hf : List.findIdx? (fun e => (mixKind P w).is k e.2) es.toList with
  | some j =>
    dsimp only
    obtain ⟨hj, pj, _⟩ := List.findIdx?_eq_some_iff_getElem.mp hf
    have hin := has _ (List.getElem_mem hj) pj
    exact wpAny_pure (wpAny_pure (q false s.heap o es ep t L (Heap.SameBut.refl a s.heap) ho S (fun _ => rfl) fun z => absurd hin z))
  | none =>
    dsimp only
    have hout : k ∉ L.map (·.2) := fun z => by
      obtain ⟨p, hp, e⟩ := List.mem_map.mp z
      have c := List.findIdx?_eq_none_iff.mp hf _ (S.pm.mem_iff.mpr (List.mem_map_of_mem hp))
      have y := S.is p hp
      rw [e] at y
      rw [show (kent P w p).2 = p.1 from rfl, y] at c
      cases c
    have r1 := layNew_perm t es ((mixKind P w).hash k) x
    have r2 := layNew_fits t es ((mixKind P w).hash k) x
    have r3 := layNew_ris t es ((mixKind P w).hash k) x S.ris
    have r4 := layNew_led t es ((mixKind P w).hash k) x
    generalize layNew t es ((mixKind P w).hash k) x = Z at *
    obtain ⟨es1, t1, wd, gv⟩ := Z
    dsimp only at *
    rw [Array.toList_push] at r1
    have pm1 : es1.toList.Perm ((L ++ [(x, k)]).map (kent P w)) := by
      refine r1.trans ?_
      rw [List.map_append]
      exact S.pm.append_right _
    have l1 : (L ++ [(x, k)]).length ≤ 1228 := by simpa using few
    have mk : ∀ o1 es2 ep2 t2, o1.ExactSet → o1.data = .set es2 ep2 t2 → es2.toList.Perm ((L ++ [(x, k)]).map (kent P w)) → t2.fits es2.size = true → Ris t2.place.toList → (w.params.followText "set-order" = true ∨ t2.led = true) → SK P w o1 es2 ep2 t2 (L ++ [(x, k)]) := fun o1 es2 ep2 t2 a1 a2 a3 a4 a5 a6 =>
      ⟨a1, a2, a3, fun p hp => by
        rcases List.mem_append.mp hp with hp | hp
        · exact S.is p hp
        · obtain rfl := List.mem_singleton.mp hp
          exact hx, by
        rw [List.map_append]
        exact List.nodup_append.mpr ⟨S.nd, by simp, fun u hu v hv e => by
          rw [List.map_singleton, List.mem_singleton] at hv
          subst e; subst hv
          exact hout hu⟩, a4, a5, a6, l1⟩
    have ld : w.params.followText "set-order" = true ∨ t1.led = true := S.led.imp id fun y => by rw [r4]; exact y
    have fin : ∀ h' o' es' ep' t', Heap.SameBut a s.heap h' → h'.get? a = some o' → SK P w o' es' ep' t' (L ++ [(x, k)]) → Q true { s with heap := h' } := fun h' o' es' ep' t' a1 a2 a3 => q true h' o' es' ep' t' _ a1 a2 a3 (fun z => absurd z hout) fun _ => rfl
    have hgv : ∀ (b : Bool) {z : Shared} {Q' : Unit → Shared → Prop}, Q' () z → wpAny (model P w) A (match b with | true => rule "set.scan.the-table-gave-way" | false => pure ()) Q' E z := fun b z Q' y => by
      cases b <;> first | exact wpAny_pure y | exact wpAny_rule y
    refine wpAny_bind (hgv _ ?_)
    split
    · refine wpAny_bind ?_
      rw [hashByValue_scannable 8 hsc]
      refine wpAny_pure ?_
      refine leaf_tail (fun b z Q' y => by cases b <;> first | exact wpAny_pure y | exact wpAny_rule y) ho S.ex S.da mk pm1 ?_ ?_ ?_ l1 fun h' o' es' ep' t' a1 a2 a3 => wpAny_pure (fin h' o' es' ep' t' a1 a2 a3)
      · split <;> first | exact r2 | exact SetTable.fits_plain_off r2
      · split <;> exact r3
      · split <;> exact ld
    · refine wpAny_bind (wpAny_pure ?_)
      simp only [↓reduceIte]
      exact leaf_tail (fun b z Q' y => by cases b <;> first | exact wpAny_pure y | exact wpAny_rule y) ho S.ex S.da mk pm1 r2 r3 ld l1 fun h' o' es' ep' t' a1 a2 a3 => wpAny_pure (fin h' o' es' ep' t' a1 a2 a3)
end
end RW
/-! set(list): item by item. -/
namespace RW
open PySem PySem.Spec PyProof.Rows L2
/-- the set as it is made -/
abbrev set0 (w : World) : Obj := { cls := .type "set", dict := none, data := .set #[] 0 (.fresh 0 0 (!w.params.followText "set-order")) }
theorem led0 (w : World) : w.params.followText "set-order" = true ∨ (SetTable.fresh 0 0 (!w.params.followText "set-order")).led = true := by
  show _ ∨ (!w.params.followText "set-order") = true
  cases w.params.followText "set-order" <;> simp
section
variable {P : Program} {w : World}
/-- what adding the items does, one by one: J i of the set object when i are in -/
def Adds (P : Program) (w : World) (h0 : Heap) (S : Addr) (A : Around) (items : Array Value) (J : Nat → Obj → Prop) : Prop :=
  ∀ (i : Nat) (v : Value) (z : Shared) (o : Obj) (E : Value → Shared → Prop) (Q : Bool → Shared → Prop), items[i]? = some v → z.heap.get? S = some o → J i o → (∀ b u, h0.get? b = some u → z.heap.get? b = some u) →
    (∀ b h' o' tk, z.toks ≤ tk → Heap.SameBut S z.heap h' → h'.get? S = some o' → J (i + 1) o' → Q b { z with heap := h', toks := tk }) → wpAny (model P w) A (setAdd S v) Q E z
theorem upd_loop {A : Around} {I : Addr} {fp wr : List Addr} {G : Array GenState → Array GenState → Prop} {n : Nat} {Pv : Nat → Value → Prop} {St : Nat → Shared → Prop} {Fn : Result → Shared → Prop} (W : WalksS P w A.in1 I fp wr G n Pv St) {S : Addr} (nf : S ∉ fp)
    {items : Array Value} {J : Nat → Obj → Prop} (hn : n = items.size) (hv : ∀ i v, Pv i v → items[i]? = some v) {h0 : Heap} (hS : h0.get? S = none) (hw : ∀ b ∈ wr, h0.get? b = none) (ad : Adds P w h0 S A.in1 items J) :
    ∀ (k i : Nat) (z : Shared) (o : Obj), n - i = k → i ≤ n → St i z → (∀ b u, h0.get? b = some u → z.heap.get? b = some u) → z.heap.get? S = some o → J i o →
      (∀ z' o', Moved (S :: wr) G z z' → z'.heap.get? S = some o' → J n o' → (∀ b u, h0.get? b = some u → z'.heap.get? b = some u) → Fn (.ok (.ret .none)) z') →
      codeAny (model P w) A (.builtin "set.update.loop" ⟨[.ref S, .ref I], []⟩) Fn z := by
  have nw : S ∉ wr := fun h => nf (W.sub _ h)
  have more : ∀ b ∈ wr, b ∈ S :: wr := fun b hb => List.mem_cons_of_mem _ hb
  have stay : ∀ {y y' : Shared}, Moved wr G y y' → (∀ b u, h0.get? b = some u → y.heap.get? b = some u) → ∀ b u, h0.get? b = some u → y'.heap.get? b = some u := fun mv kp b u e =>
    mv.heap b u (fun hb => by rw [hw b hb] at e; cases e) (kp b u e)
  intro k
  induction k with
  | zero =>
    intro i z o ek le st kp ho jo fin
    obtain rfl : i = n := by omega
    refine codeAny_builtin F.entry_set_update_loop ?_
    rw [Around.under_plainId F.plain_set_update_loop _]
    show wpAny _ A.in1 (pyNext (.ref I) >>= _) _ _ z
    refine wpAny_bind (W.done z _ _ st fun z' mv => ?_)
    show wpAny _ A.in1 (ret Value.none) _ _ z'
    exact wpAny_pure (fin z' o (mv.mono more) (mv.heap S o nw ho) jo (stay mv kp))
  | succ k ih =>
    intro i z o ek le st kp ho jo fin
    have lt : i < n := by omega
    refine codeAny_builtin F.entry_set_update_loop ?_
    rw [Around.under_plainId F.plain_set_update_loop _]
    show wpAny _ A.in1 (pyNext (.ref I) >>= _) _ _ z
    refine wpAny_bind (W.item i z _ _ lt st fun v z' pv st' mv => ?_)
    have kp' := stay mv kp
    show wpAny _ A.in1 (holding [v] (setAdd S v) >>= _) _ _ z'
    refine wpAny_bind (wpAny_holding (ad i v z' o _ _ (hv i v pv) (mv.heap S o nw ho) jo kp' fun b h' o' tk tl sb ho' jo' => ?_))
    have kp2 : ∀ b u, h0.get? b = some u → h'.get? b = some u := fun b u e => (sb.2 b (fun y => by rw [y, hS] at e; cases e)).trans (kp' b u e)
    have st2 : St (i + 1) { z' with heap := h', toks := tk } := W.frame _ z' _ _ st' tl fun b hb u e => (sb.2 b (fun y => nf (y ▸ hb))).trans e
    refine wpAny_pure ⟨plainId_quiet F.plain_set_update_loop _, ih (i + 1) _ o' (by omega) lt st2 kp2 ho' jo' fun z2 o2 mv2 ho2 jo2 kp3 => ?_⟩
    refine fin z2 o2 (Moved.trans W.gtrans ?_ mv2) ho2 jo2 kp3
    refine ⟨fun b u hb e => ?_, mv.gens, mv.drawn, mv.os, Nat.le_trans mv.toks tl⟩
    exact (sb.2 b (fun y => hb (y ▸ List.mem_cons_self))).trans (mv.heap b u (fun y => hb (more b y)) e)
set_option maxHeartbeats 4000000 in
/-- set(xs), xs a list -/
theorem call_set {A : Around} {E : Value → Shared → Prop} {s : Shared} {l : Addr} {items : Array Value} {J : Nat → Obj → Prop} {Q : Value → Shared → Prop} (hh : A.handled = none) (hl : s.heap.IsList l items) (j0 : J 0 (set0 w))
    (ad : ∀ A' : Around, A'.units ≤ A.units + 20 → Adds P w s.heap s.heap.objs.size A' items J)
    (q : ∀ h' o' tk, h'.get? s.heap.objs.size = some o' → J items.size o' → (∀ b u, s.heap.get? b = some u → h'.get? b = some u) → Q (.ref s.heap.objs.size) { s with heap := h', toks := tk }) :
    wpAny (model P w) A (call (.type "set") [.ref l]) Q E s := by
  obtain ⟨mc, mt, mro⟩ := F.called_set.mro
  have y1 := F.called_set.made
  have y2 := F.called_set.sub
  refine wpAny_call (codeAny_of_tree ?_)
  show wpAny _ _ (callAny (.type "set") _) _ _ _
  refine wpAny_pure ⟨Code.quiet_builtin _ (by decide +kernel), codeAny_builtin F.entry_type_call ?_⟩
  rw [Around.under_plain (weight_type_call_type "set" [.ref l] []) rfl]
  have y3 := F.called_set.notType
  have y4 := F.called_set.canCreate
  have y5 := F.typeCall_set_1 (.ref l)
  repeat (any_goals (first | assumption | wp_step))
  refine codeAny_mono (code_set_led1 (.ref l) (E := E) (Q₁ := fun v z => v = .ref s.heap.objs.size ∧ z = { s with heap := s.heap.push (set0 w) }) ⟨rfl, rfl⟩) fun r z hr => ?_
  cases r with
  | error e => exact hr
  | ok fl =>
    cases fl with
    | ret v =>
      obtain ⟨rfl, rfl⟩ := hr
      have g0 : (s.heap.push (set0 w)).get? s.heap.objs.size = some (set0 w) := Heap.get?_push_size _ rfl
      have g1 : Shared.TypeIs { s with heap := s.heap.push (set0 w) } (.ref s.heap.objs.size) "set" := ⟨_, g0, rfl⟩
      have y6 := F.called_set.init.lookup
      have y7 := F.called_set.init.bind (.ref s.heap.objs.size)
      repeat (any_goals (first | assumption | wp_step))
      refine codeAny_mono (codeAny_call_builtin (R := wants (fun r z => r = .none ∧ ∃ h' tk o', z = { s with heap := h', toks := tk } ∧ h'.get? s.heap.objs.size = some o' ∧ J items.size o' ∧ (∀ b u, s.heap.get? b = some u → h'.get? b = some u)) E) F.called_set.init.plain F.entry_set_init (check_set_init_1 g1 ?_)) fun r2 z2 hr2 => ?_
      · obtain ⟨⟨lc, ld, la, ls⟩, lo, e1, nl, e2⟩ := hl
        simp only at e1 e2
        subst e1 e2
        have lo1 : (s.heap.push (set0 w)).get? l = some { cls := .type "list", dict := ld, data := .seq items nl, slots := ls } := Heap.get?_push_of_some _ lo
        have y8 := F.sub_list_set
        have y9 := F.sub_list_frozenset
        have y10 : (Value.type "list" == Value.type "dict") = false := by decide
        have l1 : (s.heap.push (set0 w)).IsList l items := ⟨_, lo1, rfl, nl, rfl⟩
        unfold Builtin.«set.__init__» noKeywords Builtin.Frozenset.updateFrom
        generalize ePI : pyIter = PI
        wp_walk
        subst ePI
        refine wpAny_pyIter_list l1 ?_
        refine wpAny_bind (wpAny_runValue ?_)
        have ll : l < s.heap.objs.size := Heap.lt_size lo
        have zz : (s.heap.push (set0 w)).objs.size = s.heap.objs.size + 1 := Heap.size_push ..
        have nn : ∀ b, s.heap.objs.size ≤ b → s.heap.get? b = none := fun b hb => by
          cases y : s.heap.get? b with
          | none => rfl
          | some u => exact absurd (Heap.lt_size y) (Nat.not_lt.mpr hb)
        refine upd_loop (n := items.size) (items := items) (J := J) ((Walks.list (by simp [hh]) _ l (by rw [zz]; exact Nat.ne_of_lt (Nat.lt_succ_of_lt ll)) items).toS) (by rw [zz]; simp only [List.mem_cons, List.not_mem_nil, or_false, not_or]; exact ⟨Nat.ne_of_lt (Nat.lt_succ_self _), Nat.ne_of_gt ll⟩) rfl (fun i v hv => hv) (h0 := s.heap) (nn _ (Nat.le_refl _)) (fun b hb => nn b (by rw [List.mem_singleton.mp hb, zz]; exact Nat.le_succ _)) (ad _ ?_) (items.size - 0) 0 _ (set0 w) rfl (Nat.zero_le _) ⟨⟨_, Heap.get?_push_size _ rfl, rfl, rfl⟩, l1.push _⟩ (fun b u e => Heap.get?_push_of_some _ (Heap.get?_push_of_some _ e)) (Heap.get?_push_of_some _ g0) j0 ?_
        · simp only [Around.in1_units]; omega
        · intro z' o' mv ho' jo' kp
          obtain ⟨h', g2, d2, tk, os2⟩ := z'
          obtain rfl : g2 = s.gens := mv.gens
          obtain rfl : d2 = s.drawn := mv.drawn
          obtain rfl : os2 = s.os := mv.os
          show wpAny _ _ _ _ _ _
          refine wpAny_pure ?_
          show wpAny _ _ (ret Value.none) _ _ _
          exact wpAny_pure ⟨rfl, h', tk, o', rfl, ho', jo', kp⟩
      · cases r2 with
        | error e => exact hr2
        | ok f2 =>
          cases f2 with
          | ret r =>
            obtain ⟨rfl, h', tk, o', rfl, a1, a2, a3⟩ := hr2
            repeat (any_goals (first | assumption | wp_step))
            exact q _ _ _ a1 a2 a3
          | _ => exact hr2.elim
    | _ => exact hr.elim
end
end RW
namespace RW
open PySem PySem.Spec PyProof.Rows L2

/-- a tracked object told exactly -/
def DO (a : Addr) (o : Obj) : HO := .ext fun h => h.get? a = some o
theorem DO_ok {P : Program} {w : World} {H : Hp} {h : Heap} {a : Addr} {o : Obj} (e : h.get? a = some o) : ObjOk P w H h a (DO a o) :=
  ⟨e, ⟨o, e⟩, fun _ _ q k => k o q⟩

/-- an entry's hash, as a key by data -/
def nkey : PyData → Option NestedKey
  | .none => some .none
  | .bool b => some (.num (if b then 1 else 0))
  | .int i => some (.num i)
  | .str x => some (.text x)
  | .tuple xs => (nkeys xs).map .tup
  | .list _ => none
  | .dict _ => none
where nkeys : List PyData → Option (List NestedKey)
  | [] => some []
  | x :: r => match nkey x, nkeys r with
    | some k, some ks => some (k :: ks)
    | _, _ => none

/-- keys that one dict may hold together: all by value, or all tuples -/
def isTupD : PyData → Bool
  | .tuple _ => true
  | _ => false

/-- keys that go by value: ints, texts -/
def isLeafD : PyData → Bool
  | .int _ => true
  | .str _ => true
  | _ => false
/-- the raw side of a dict: the object o at a, its entries es, as the pairs kvs -/
structure DFact (w : World) (a : Addr) (o : Obj) (es : Array DictEntry) (kvs : List (PyData × PyData)) : Prop where
  ex : o.ExactDict
  da : ∃ ep, o.data = .dict es ep
  sm : (a == sysModules) = false
  sz : es.size ≤ sizeLine
  hs : ∀ (i : Nat) (e : DictEntry), es[i]? = some e → ∃ p k, kvs[i]? = some p ∧ nkey p.1 = some k ∧ k.depth ≤ 8 ∧ e.hash = k.hash w
  nd : (kvs.map fun p => nkey p.1).Nodup
  kd : (∀ p ∈ kvs, isTupD p.1 = true) ∨ ∀ p ∈ kvs, isLeafD p.1 = true

/-- a tuple that has no dict -/
def TupN (K : PySem.W.Frag) (H : Hp) (a : Addr) : Prop := (∃ ob xs, H a = some (.frz ob (.tup xs)) ∧ ob.dict = none) ∨ ∃ o, K.lookup a = some o ∧ o.dict = none
def SqF (K : PySem.W.Frag) (H : Hp) (a : Addr) (xs : List V) : Prop := SqT K H a xs ∧ TupN K H a
/-- a list that is read: one that stands (and may be leant on), one of the module's -/
def KL (K : PySem.W.Frag) (a : Addr) (xs : List V) : Prop := ∃ (o : Obj) (its : Array Value) (n : Nat), K.lookup a = some o ∧ o.cls = .type "list" ∧ o.dict = none ∧ o.data = .seq its n ∧ its.size ≤ sizeLine ∧ Vals xs its.toList
def LsA (K : PySem.W.Frag) (H : Hp) (W : Addr → Prop) (a : Addr) (xs : List V) : Prop := (Rd H a (.lst xs) ∧ ¬ W a) ∨ KL K a xs
theorem LsA.sql {K : PySem.W.Frag} {H : Hp} {W : Addr → Prop} {a : Addr} {xs : List V} (h : LsA K H W a xs) : SqL K H a xs := h.elim (fun z => .inl z.1) .inr
mutual
/-- the value v stands for the datum d, and nothing that lies in W is leant on -/
inductive Rp (K : PySem.W.Frag) (w : World) (H : Hp) (W : Addr → Prop) : V → PyData → Prop
  | non : Rp K w H W .non .none
  | bl (b : Bool) : Rp K w H W (.bl b) (.bool b)
  | int (i : Int) : Rp K w H W (.int i) (.int i)
  | str (x : Str) : Rp K w H W (.str x) (.str x)
  | tup {a : Addr} {xs : List V} {ds : List PyData} : SqF K H a xs → Rps K w H W xs ds → Rp K w H W (.ref a) (.tuple ds)
  | lst {a : Addr} {xs : List V} {ds : List PyData} : LsA K H W a xs → Rps K w H W xs ds → Rp K w H W (.ref a) (.list ds)
  | dic {a : Addr} {o : Obj} {es : Array DictEntry} {ks vs : List V} {kvs : List (PyData × PyData)} : H a = some (DO a o) → ¬ W a → DFact w a o es kvs →
      Vals ks (es.toList.map (·.key)) → Vals vs (es.toList.map (·.val)) →
      Rps K w H W ks (kvs.map Prod.fst) → Rps K w H W vs (kvs.map Prod.snd) → Rp K w H W (.ref a) (.dict kvs)
inductive Rps (K : PySem.W.Frag) (w : World) (H : Hp) (W : Addr → Prop) : List V → List PyData → Prop
  | nil : Rps K w H W [] []
  | cons {v : V} {vs : List V} {d : PyData} {ds : List PyData} : Rp K w H W v d → Rps K w H W vs ds → Rps K w H W (v :: vs) (d :: ds)
end
section
variable {K : PySem.W.Frag} {w : World} {H H' : Hp} {W W' : Addr → Prop}
/-- kept where what may be leant on is kept -/
def Kept (W : Addr → Prop) (H H' : Hp) : Prop := ∀ b o, ¬ W b → H b = some o → H' b = some o
/-- tuples never change -/
def KeptT (H H' : Hp) : Prop := ∀ b o, (∃ xs, o = HO.tup xs) ∨ (∃ ob xs, o = HO.frz ob (.tup xs)) → H b = some o → H' b = some o
theorem KeptT.seq {a : Addr} {xs : List V} (k : KeptT H H') (h : SqT K H a xs) : SqT K H' a xs := by
  rcases h with (h | ⟨o, h⟩) | h
  · exact .inl (.inl (k _ _ (.inl ⟨_, rfl⟩) h))
  · exact .inl (.inr ⟨o, k _ _ (.inr ⟨_, _, rfl⟩) h⟩)
  · exact .inr h
theorem LsA.mono {a : Addr} {xs : List V} (k : Kept W H H') (c : ∀ a, W' a → ¬ W a → H a = none) (h : LsA K H W a xs) : LsA K H' W' a xs := by
  rcases h with ⟨h | ⟨ob, h⟩, n⟩ | h
  · exact .inl ⟨.inl (k _ _ n h), fun q => by have := c _ q n; rw [h] at this; cases this⟩
  · exact .inl ⟨.inr ⟨ob, k _ _ n h⟩, fun q => by have := c _ q n; rw [h] at this; cases this⟩
  · exact .inr h
theorem KeptT.seqF {a : Addr} {xs : List V} (k : KeptT H H') (h : SqF K H a xs) : SqF K H' a xs := by
  refine ⟨k.seq h.1, ?_⟩
  rcases h.2 with ⟨ob, ys, h1, h2⟩ | h1
  · exact .inl ⟨ob, ys, k _ _ (.inr ⟨_, _, rfl⟩) h1, h2⟩
  · exact .inr h1
theorem SqF.new {p : Addr} {ob : Obj} {xs : List V} (h : ob.dict = none) : SqF K (L2.upd H p (FT ob xs)) p xs := ⟨.inl (.inr ⟨ob, upd_same⟩), .inl ⟨ob, xs, upd_same, h⟩⟩
mutual
theorem Rp.mono (k : Kept W H H') (t : KeptT H H') (c : ∀ a, W' a → ¬ W a → H a = none) : ∀ (d : PyData) (v : V), Rp K w H W v d → Rp K w H' W' v d
  | .none, _, h => by cases h; exact .non
  | .bool _, _, h => by cases h; exact .bl _
  | .int _, _, h => by cases h; exact .int _
  | .str _, _, h => by cases h; exact .str _
  | .tuple ds, _, h => by
    cases h with
    | tup h1 h2 => exact .tup (t.seqF h1) (Rps.mono k t c ds _ h2)
  | .list ds, _, h => by
    cases h with
    | lst h1 h3 => exact .lst (h1.mono k c) (Rps.mono k t c ds _ h3)
  | .dict kvs, _, h => by
    cases h with
    | dic h1 h2 h3 h4 h5 h6 h7 =>
      exact .dic (k _ _ h2 h1) (fun q => by have := c _ q h2; rw [h1] at this; cases this) h3 h4 h5 (Rps.monoK k t c kvs _ h6) (Rps.monoV k t c kvs _ h7)
theorem Rps.mono (k : Kept W H H') (t : KeptT H H') (c : ∀ a, W' a → ¬ W a → H a = none) : ∀ (ds : List PyData) (vs : List V), Rps K w H W vs ds → Rps K w H' W' vs ds
  | [], _, h => by cases h; exact .nil
  | d :: ds, _, h => by
    cases h with
    | cons h1 h2 => exact .cons (Rp.mono k t c d _ h1) (Rps.mono k t c ds _ h2)
theorem Rps.monoK (k : Kept W H H') (t : KeptT H H') (c : ∀ a, W' a → ¬ W a → H a = none) : ∀ (kvs : List (PyData × PyData)) (vs : List V), Rps K w H W vs (kvs.map Prod.fst) → Rps K w H' W' vs (kvs.map Prod.fst)
  | [], _, h => by cases h; exact .nil
  | (d, _) :: ds, _, h => by
    cases h with
    | cons h1 h2 => exact .cons (Rp.mono k t c d _ h1) (Rps.monoK k t c ds _ h2)
theorem Rps.monoV (k : Kept W H H') (t : KeptT H H') (c : ∀ a, W' a → ¬ W a → H a = none) : ∀ (kvs : List (PyData × PyData)) (vs : List V), Rps K w H W vs (kvs.map Prod.snd) → Rps K w H' W' vs (kvs.map Prod.snd)
  | [], _, h => by cases h; exact .nil
  | (_, d) :: ds, _, h => by
    cases h with
    | cons h1 h2 => exact .cons (Rp.mono k t c d _ h1) (Rps.monoV k t c ds _ h2)
end
end
end RW
namespace RW
open PySem PySem.Spec PyProof.Rows L2
section
variable {X : Cx} {pins : List (Addr × Obj)} {σ : L2.St} {H : Hp} {s : Shared} {W : Addr → Prop}
theorem do_get (I : Inv X pins σ H s) {a : Addr} {o : Obj} (h : H a = some (DO a o)) : s.heap.get? a = some o := (I.hok a _ h).1
theorem lst_get (I : Inv X pins σ H s) {a : Addr} {xs : List V} (h : H a = some (.lst xs)) : xs.length ≤ sizeLine ∧ ∃ (its : List Value) (n : Nat), Vals xs its ∧ s.heap.get? a = some { cls := .type "list", data := .seq its.toArray n } := I.hok a _ h
mutual
theorem Rp.reads (I : Inv X pins σ H s) : ∀ (d : PyData) (v : V) (u : Value), Rp X.K X.w H W v d → RelV v u → ∃ as, Reads s.heap u d as
  | .none, _, _, h, r => by cases h; cases r; exact ⟨_, .none⟩
  | .bool b, _, _, h, r => by cases h; cases r; exact ⟨_, .bool b⟩
  | .int i, _, _, h, r => by cases h; obtain ⟨t, rfl⟩ := r; exact ⟨_, .int i t⟩
  | .str x, _, _, h, r => by cases h; obtain ⟨t, rfl⟩ := r; exact ⟨_, .str x t⟩
  | .tuple ds, _, _, h, r => by
    cases h with
    | tup h1 h2 =>
      cases r
      obtain ⟨its, rv, ⟨o, ho, hc, n, hd⟩, _⟩ := I.tuple h1.1
      obtain ⟨as, hr⟩ := Rps.reads I ds _ its h2 rv
      exact ⟨_, .tuple ho hc hd hr⟩
  | .list ds, _, _, h, r => by
    cases h with
    | lst h1 h3 =>
      cases r
      obtain ⟨its, rv, ⟨o, n, ho, hc, _, hd⟩, _⟩ := I.list h1.sql
      obtain ⟨as, hr⟩ := Rps.reads I ds _ its h3 rv
      exact ⟨_, .list ho hc hd hr⟩
  | .dict kvs, _, _, h, r => by
    cases h with
    | dic h1 h2 h3 h4 h5 h6 h7 =>
      cases r
      have ho := do_get I h1
      obtain ⟨ep, hd⟩ := h3.da
      obtain ⟨as, ra⟩ := Rps.readsK I kvs _ _ h6 h4
      obtain ⟨bs, rb⟩ := Rps.readsV I kvs _ _ h7 h5
      exact ⟨_, .dict ho h3.ex.1 hd ra rb⟩
theorem Rps.reads (I : Inv X pins σ H s) : ∀ (ds : List PyData) (vs : List V) (us : List Value), Rps X.K X.w H W vs ds → Vals vs us → ∃ as, ReadsAll s.heap us ds as
  | [], _, _, h, r => by cases h; cases r; exact ⟨_, .nil⟩
  | d :: ds, _, _, h, r => by
    cases h with
    | cons h1 h2 =>
      cases r with
      | cons r1 r2 =>
        obtain ⟨as, q1⟩ := Rp.reads I d _ _ h1 r1
        obtain ⟨bs, q2⟩ := Rps.reads I ds _ _ h2 r2
        exact ⟨_, .cons q1 q2⟩
theorem Rps.readsK (I : Inv X pins σ H s) : ∀ (kvs : List (PyData × PyData)) (vs : List V) (us : List Value), Rps X.K X.w H W vs (kvs.map Prod.fst) → Vals vs us → ∃ as, ReadsAll s.heap us (kvs.map (·.1)) as
  | [], _, _, h, r => by cases h; cases r; exact ⟨_, .nil⟩
  | (d, _) :: ds, _, _, h, r => by
    cases h with
    | cons h1 h2 =>
      cases r with
      | cons r1 r2 =>
        obtain ⟨as, q1⟩ := Rp.reads I d _ _ h1 r1
        obtain ⟨bs, q2⟩ := Rps.readsK I ds _ _ h2 r2
        exact ⟨_, .cons q1 q2⟩
theorem Rps.readsV (I : Inv X pins σ H s) : ∀ (kvs : List (PyData × PyData)) (vs : List V) (us : List Value), Rps X.K X.w H W vs (kvs.map Prod.snd) → Vals vs us → ∃ as, ReadsAll s.heap us (kvs.map (·.2)) as
  | [], _, _, h, r => by cases h; cases r; exact ⟨_, .nil⟩
  | (_, d) :: ds, _, _, h, r => by
    cases h with
    | cons h1 h2 =>
      cases r with
      | cons r1 r2 =>
        obtain ⟨as, q1⟩ := Rp.reads I d _ _ h1 r1
        obtain ⟨bs, q2⟩ := Rps.readsV I ds _ _ h2 r2
        exact ⟨_, .cons q1 q2⟩
end
end

/-! ### the world's object w: {"draws": .., "at": n} -/
/-- none: there is none (yet); some (a, l, dr): it stands at a, its list of draws at l -/
abbrev Om := Option (Addr × Addr × List Int)
def drOf : Om → List Int
  | none => []
  | some p => p.2.2
def kAt : Str := "at"
def kDr : Str := "draws"
def WOk (K : PySem.W.Frag) (ω : Om) (n : Nat) (H : Hp) : Prop :=
  match ω with
  | none => True
  | some (a, l, dr) => H a = some (.dK [(Sum.inr kDr, .ref l), (Sum.inr kAt, .int (n : Int))]) ∧ SqL K H l (dr.map V.int) ∧ dr.length ≤ 100000
/-- what was tracked is kept, but for the world's object -/
def Ext (ω : Om) (H H' : Hp) : Prop := ∀ b o, H b = some o → (∀ p, ω = some p → b ≠ p.1) → H' b = some o
/-- the world's object is among what may not be leant on -/
def OmIn (K : PySem.W.Frag) (ω : Om) (W : Addr → Prop) : Prop := ∀ p, ω = some p → W p.1 ∧ (W p.2.1 ∨ KL K p.2.1 (p.2.2.map V.int))
theorem Ext.refl (ω : Om) (H : Hp) : Ext ω H H := fun _ _ h _ => h
theorem Ext.trans {ω : Om} {H H1 H2 : Hp} (a : Ext ω H H1) (b : Ext ω H1 H2) : Ext ω H H2 := fun c o h n => b c o (a c o h n) n
theorem SqL.step {K : PySem.W.Frag} {H H' : Hp} {l : Addr} {xs : List V} (h : SqL K H l xs) (e : ∀ o, (o = .lst xs ∨ ∃ ob, o = .frz ob (.lst xs)) → H l = some o → H' l = some o) : SqL K H' l xs := by
  rcases h with (h | ⟨ob, h⟩) | h
  · exact .inl (.inl (e _ (.inl rfl) h))
  · exact .inl (.inr ⟨ob, e _ (.inr ⟨ob, rfl⟩) h⟩)
  · exact .inr h
theorem Ext.kept {K : PySem.W.Frag} {ω : Om} {W : Addr → Prop} {H H' : Hp} (e : Ext ω H H') (i : OmIn K ω W) : Kept W H H' := fun b o hb ho => e b o ho fun p hp q => hb (q ▸ (i p hp).1)
theorem Ext.keptT {K : PySem.W.Frag} {ω : Om} {n : Nat} {H H' : Hp} (e : Ext ω H H') (k : WOk K ω n H) : KeptT H H' := fun b o ho hb => e b o hb fun p hp q => by
  subst hp
  obtain ⟨a, l, dr⟩ := p
  obtain ⟨k1, _, _⟩ := k
  rw [q, k1] at hb
  rcases ho with ⟨xs, rfl⟩ | ⟨ob, xs, rfl⟩ <;> cases hb
theorem Ext.upd {ω : Om} {H : Hp} {p : Addr} {o : HO} (h : H p = none) : Ext ω H (upd H p o) := fun b u hb _ => by rw [upd_ne (ne_of_none hb h)]; exact hb
theorem WOk.upd {K : PySem.W.Frag} {ω : Om} {n : Nat} {H : Hp} {p : Addr} {o : HO} (k : WOk K ω n H) (h : H p = none) : WOk K ω n (upd H p o) := by
  cases ω with
  | none => trivial
  | some q =>
    obtain ⟨a, l, dr⟩ := q
    obtain ⟨k1, k2, k3⟩ := k
    exact ⟨by rw [upd_ne (ne_of_none k1 h)]; exact k1, SqL.step k2 fun o _ e => by rw [upd_ne (ne_of_none e h)]; exact e, k3⟩

/-! ### the values by slot -/
/-- a slot: nothing known; a datum; a list or a dict that is this slot's own; one that is lent; the world's object -/
inductive Sl where
  | no | pu (d : PyData) | ow (d : PyData) | bo (d : PyData) | wr
abbrev Sls := List Sl
/-- what stands at a of one's own: a list, a dict -/
inductive Ct (K : PySem.W.Frag) (w : World) (H : Hp) (W : Addr → Prop) (a : Addr) : PyData → Prop
  | lst {xs : List V} {ds : List PyData} : H a = some (.lst xs) → Rps K w H W xs ds → Ct K w H W a (.list ds)
  | dic {o : Obj} {es : Array DictEntry} {ks vs : List V} {kvs : List (PyData × PyData)} : H a = some (DO a o) → DFact w a o es kvs →
      Vals ks (es.toList.map (·.key)) → Vals vs (es.toList.map (·.val)) → Rps K w H W ks (kvs.map Prod.fst) → Rps K w H W vs (kvs.map Prod.snd) → Ct K w H W a (.dict kvs)
section
variable {K : PySem.W.Frag} {w : World} {H H' : Hp} {W W' : Addr → Prop} {a : Addr} {d : PyData}
theorem Ct.rp (c : Ct K w H W a d) (n : ¬ W a) : Rp K w H W (.ref a) d := by
  cases c with
  | lst h1 h2 => exact .lst (.inl ⟨.inl h1, n⟩) h2
  | dic h1 h2 h3 h4 h5 h6 => exact .dic h1 n h2 h3 h4 h5 h6
theorem Ct.mono (k : Kept W H H') (t : KeptT H H') (c : ∀ a, W' a → ¬ W a → H a = none) (ka : ∀ o, H a = some o → H' a = some o) (h : Ct K w H W a d) : Ct K w H' W' a d := by
  cases h with
  | lst h1 h2 => exact .lst (ka _ h1) (Rps.mono k t c _ _ h2)
  | dic h1 h2 h3 h4 h5 h6 => exact .dic (ka _ h1) h2 h3 h4 (Rps.monoK k t c _ _ h5) (Rps.monoV k t c _ _ h6)
theorem Ct.nodk (h : Ct K w H W a d) : ∀ kvs, H a ≠ some (.dK kvs) := by
  cases h with
  | lst h1 _ => intro kvs e; rw [h1] at e; cases e
  | dic h1 _ _ _ _ _ => intro kvs e; rw [h1] at e; cases e
end
end RW
/-! The small language: data operations, terms, the evaluator. -/
namespace RW
open PySem PySem.Spec

/-! ### operations on data -/
def dmax : Nat := 60
/-- no dict within, not too deep -/
def okD (d : PyData) : Bool := d.plain && decide (d.depth ≤ dmax)
def okDs (ds : List PyData) : Bool := PyData.plainAll ds && decide (PyData.depthAll ds ≤ dmax)
def fit (n : Nat) : Bool := decide (n ≤ sizeLine)

inductive Ty where
  | int | bool | str | tup | lst | dict
  deriving DecidableEq
inductive U1 where
  | len | abs | int | neg | sum | any | all | tup | lst | sorted | dict | lenset | sortedset | min | max | items | isN | notN
  | isa (t : Ty)
  deriving DecidableEq
inductive U2 where
  | add | sub | mul | fdiv | mod | pow | band
  | eq | ne | lt | le | gt | ge | isin | notin
  | ix | lindex | tindex | lcount | tcount | get | min | max
  deriving DecidableEq

def keyEq (k : PyData) (p : PyData × PyData) : Bool := decide (nkey p.1 = nkey k)
def dgetD (kvs : List (PyData × PyData)) (k : PyData) : Option PyData := (kvs.find? (keyEq k)).map Prod.snd
def dputD (kvs : List (PyData × PyData)) (k v : PyData) : List (PyData × PyData) :=
  if kvs.any (keyEq k) then kvs.map fun p => if keyEq k p then (p.1, v) else p else kvs ++ [(k, v)]
/-- k may be asked of the dict -/
def keyOk (kvs : List (PyData × PyData)) (k : PyData) : Bool :=
  (match nkey k with | some n => decide (n.depth ≤ 8) | none => false) && (if isTupD k then kvs.all fun p => isTupD p.1 else isLeafD k && kvs.all fun p => isLeafD p.1)
def mergeD (kvs : List (PyData × PyData)) : List PyData → Option (List (PyData × PyData))
  | [] => some kvs
  | .tuple [k, v] :: r => if keyOk kvs k then mergeD (dputD kvs k v) r else none
  | _ :: _ => none
def itemsOf (d : PyData) : Option (List PyData) :=
  match d with
  | .list xs => some xs
  | .tuple xs => some xs
  | .dict kvs => some (kvs.map Prod.fst)
  | _ => none
def allAlike (ds : List PyData) : Bool := ds.all fun x => ds.all fun y => PySem.W.alike x y
def tupNE : PyData → Bool
  | .tuple (_ :: _) => true
  | _ => false
def notTN : PyData → Bool
  | .tuple _ => false
  | .none => false
  | _ => true
def sortable (ds : List PyData) : Bool := ds.all tupNE || ds.all notTN
def sortD (ds : List PyData) : List PyData := ds.mergeSort (PySem.W.dataLe false id)
/-- the different ones, each once (in the order of their first coming) -/
def onceD : List PyData → List PyData → List PyData
  | acc, [] => acc
  | acc, x :: r => if acc.any (fun y => decide (nkey y = nkey x)) then onceD acc r else onceD (acc ++ [x]) r
def setOk (ds : List PyData) : Bool := (ds.all fun x => isTupD x && (match nkey x with | some n => decide (n.depth ≤ 8) | none => false)) || ds.all isLeafD

def lenD : PyData → Option PyData
  | .str x => if fit x.length then some (.int x.length) else none
  | .list xs => some (.int xs.length)
  | .tuple xs => some (.int xs.length)
  | .dict kvs => some (.int kvs.length)
  | _ => none
def absD : PyData → Option PyData
  | .int i => some (.int (if i < 0 then -i else i))
  | _ => none
def intD : PyData → Option PyData
  | .int i => some (.int i)
  | .bool b => some (.int (if b then 1 else 0))
  | _ => none
def negD : PyData → Option PyData
  | .int i => some (.int (-i))
  | _ => none
def intsOf : List PyData → Option (List Int)
  | [] => some []
  | .int i :: r => (intsOf r).map (i :: ·)
  | _ :: _ => none
def boolsOf : List PyData → Option (List Bool)
  | [] => some []
  | .bool b :: r => (boolsOf r).map (b :: ·)
  | _ :: _ => none
def sumD : PyData → Option PyData
  | .list xs => (intsOf xs).map fun ns => .int ns.sum
  | _ => none
def anyD : PyData → Option PyData
  | .list xs => (boolsOf xs).map fun bs => .bool (bs.any id)
  | _ => none
def allD : PyData → Option PyData
  | .list xs => (boolsOf xs).map fun bs => .bool (bs.all id)
  | _ => none
def tupD : PyData → Option PyData
  | .list xs => some (.tuple xs)
  | .tuple xs => some (.tuple xs)
  | _ => none
def lstD : PyData → Option PyData
  | .list xs => some (.list xs)
  | .tuple xs => some (.list xs)
  | .dict kvs => some (.list (kvs.map Prod.fst))
  | _ => none
def srtD (d : PyData) : Option PyData :=
  match itemsOf d with
  | some xs => if allAlike xs && sortable xs && okDs xs && fit xs.length then some (.list (sortD xs)) else none
  | none => none
/-- how many items a dict may have that is copied -/
def byVal (kvs : List (PyData × PyData)) : Bool := kvs.all fun p => isLeafD p.1
def dicD : PyData → Option PyData
  | .list xs => if fit xs.length then (mergeD [] xs).map .dict else none
  | .dict kvs => if byVal kvs && fit kvs.length then some (.dict kvs) else none
  | _ => none
def seqOf : PyData → Option (List PyData)
  | .list xs => some xs
  | .tuple xs => some xs
  | _ => none
def setMax : Nat := 1200
def lenSetD (d : PyData) : Option PyData :=
  match d with
  | .list xs => if setOk xs && decide (xs.length ≤ setMax) then some (.int (onceD [] xs).length) else none
  | _ => none
def srtSetD (d : PyData) : Option PyData :=
  match d with
  | .list xs => if setOk xs && decide (xs.length ≤ setMax) && allAlike xs && sortable xs && okDs xs then some (.list (sortD (onceD [] xs))) else none
  | _ => none
def minOf (d : PyData) : Option PyData :=
  match d with
  | .list (x :: xs) => if allAlike (x :: xs) && (x :: xs).all (fun y => !y matches .none) && okDs (x :: xs) then some (PySem.W.minD x xs) else none
  | _ => none
def maxOf (d : PyData) : Option PyData :=
  match d with
  | .list (x :: xs) => if allAlike (x :: xs) && (x :: xs).all (fun y => !y matches .none) && okDs (x :: xs) then some (PySem.W.maxD x xs) else none
  | _ => none
def isaD : Ty → PyData → Bool
  | .int, d => d.isInt
  | .bool, d => d.isBool
  | .str, d => d.isStr
  | .tup, d => d.isTuple
  | .lst, d => d.isList
  | .dict, d => d.isDict
def isNone : PyData → Bool
  | .none => true
  | _ => false
def u1 : U1 → PyData → Option PyData
  | .len, d => lenD d
  | .abs, d => absD d
  | .int, d => intD d
  | .neg, d => negD d
  | .sum, d => sumD d
  | .any, d => anyD d
  | .all, d => allD d
  | .tup, d => tupD d
  | .lst, d => lstD d
  | .sorted, d => srtD d
  | .dict, d => dicD d
  | .lenset, d => lenSetD d
  | .sortedset, d => srtSetD d
  | .min, d => minOf d
  | .max, d => maxOf d
  | .items, _ => none
  | .isN, d => some (.bool (isNone d))
  | .notN, d => some (.bool (!isNone d))
  | .isa t, d => some (.bool (isaD t d))

def addD : PyData → PyData → Option PyData
  | .int a, .int b => some (.int (a + b))
  | .str a, .str b => if fit (a.length + b.length) then some (.str (a ++ b)) else none
  | .list a, .list b => if fit (a.length + b.length) then some (.list (a ++ b)) else none
  | .tuple a, .tuple b => if fit (a.length + b.length) then some (.tuple (a ++ b)) else none
  | _, _ => none
def subD : PyData → PyData → Option PyData
  | .int a, .int b => some (.int (a - b))
  | .bool a, .bool b => some (.int ((if a then 1 else 0) - (if b then 1 else 0)))
  | _, _ => none
def small64 (a : Int) : Bool := decide (-(2 ^ 64) < a) && decide (a < 2 ^ 64)
def mulD : PyData → PyData → Option PyData
  | .int a, .int b => if small64 a || small64 b then some (.int (a * b)) else none
  | _, _ => none
def divOk (b : Int) : Bool := decide (b ≠ 0) && decide (b.natAbs < 1073741824)
def fdivD : PyData → PyData → Option PyData
  | .int a, .int b => if divOk b then some (.int (a.fdiv b)) else none
  | _, _ => none
def modD : PyData → PyData → Option PyData
  | .int a, .int b => if divOk b then some (.int (a.fmod b)) else none
  | _, _ => none
def powD : PyData → PyData → Option PyData
  | .int a, .int b => if decide (0 ≤ b) && decide (b ≤ 1000000) && decide (a.natAbs < 2 ^ 64) then some (.int (a ^ b.toNat)) else none
  | _, _ => none
def bandD : PyData → PyData → Option PyData
  | .int a, .int b => some (.int (Builtin.bitAnd a b))
  | _, _ => none
def eqD (a b : PyData) : Option PyData := if okD a && okD b then some (.bool (PyData.eqv a b)) else none
def neD (a b : PyData) : Option PyData := if okD a && okD b then some (.bool (!PyData.eqv a b)) else none
def cmpOk (a b : PyData) : Bool := PySem.W.alike a b && !isNone a && okD a && okD b
def ltD (a b : PyData) : Option PyData := if cmpOk a b then some (.bool (PySem.W.dataLt a b)) else none
def leD (a b : PyData) : Option PyData := if cmpOk a b then some (.bool (!PySem.W.dataLt b a)) else none
def gtD (a b : PyData) : Option PyData := if cmpOk a b then some (.bool (PySem.W.dataLt b a)) else none
def geD (a b : PyData) : Option PyData := if cmpOk a b then some (.bool (!PySem.W.dataLt a b)) else none
def inB (x c : PyData) : Option Bool :=
  match c with
  | .list xs => if okD x && okDs xs then some (xs.any fun y => PyData.eqv y x) else none
  | .tuple xs => if okD x && okDs xs then some (xs.any fun y => PyData.eqv y x) else none
  | .dict kvs => if keyOk kvs x then some (kvs.any (keyEq x)) else none
  | _ => none
def ixAt (n : Nat) (i : Int) : Option Nat := if 0 ≤ i then (if i < n then some i.toNat else none) else if -(n : Int) ≤ i then some (i + n).toNat else none
def ixD : PyData → PyData → Option PyData
  | .list xs, .int i => (ixAt xs.length i).bind fun j => xs[j]?
  | .tuple xs, .int i => (ixAt xs.length i).bind fun j => xs[j]?
  | .dict kvs, k => if keyOk kvs k then dgetD kvs k else none
  | .str x, .int i => if fit x.length then (ixAt x.length i).bind fun j => x.cps.toList[j]?.map fun c => .str ⟨#[c]⟩ else none
  | _, _ => none
def indexIn (xs : List PyData) (x : PyData) : Option PyData :=
  if okDs xs && okD x && fit xs.length then (dataPlace xs x).map fun (j : Nat) => .int (j : Int) else none
where dataPlace (xs : List PyData) (d : PyData) : Option Nat := xs.findIdx? fun y => PyData.eqv y d
def countIn (xs : List PyData) (x : PyData) : Option PyData :=
  if okDs xs && okD x then some (.int (xs.countP fun y => PyData.eqv y x)) else none
def u2 : U2 → PyData → PyData → Option PyData
  | .add, a, b => addD a b
  | .sub, a, b => subD a b
  | .mul, a, b => mulD a b
  | .fdiv, a, b => fdivD a b
  | .mod, a, b => modD a b
  | .pow, a, b => powD a b
  | .band, a, b => bandD a b
  | .eq, a, b => eqD a b
  | .ne, a, b => neD a b
  | .lt, a, b => ltD a b
  | .le, a, b => leD a b
  | .gt, a, b => gtD a b
  | .ge, a, b => geD a b
  | .isin, a, b => (inB a b).map .bool
  | .notin, a, b => (inB a b).map fun c => .bool !c
  | .ix, a, b => ixD a b
  | .lindex, .list xs, x => indexIn xs x
  | .tindex, .tuple xs, x => indexIn xs x
  | .lcount, .list xs, x => countIn xs x
  | .tcount, .tuple xs, x => countIn xs x
  | .get, .dict kvs, k => if keyOk kvs k then some ((dgetD kvs k).getD .none) else none
  | .min, .int a, .int b => some (.int (if b < a then b else a))
  | .max, .int a, .int b => some (.int (if b > a then b else a))
  | _, _, _ => none
/-- where a slice begins, ends -/
def sAt (n d : Nat) : Option Int → Nat
  | none => d
  | some i => if i < 0 then (i + n).toNat else min i.toNat n
def cutL {α : Type} (xs : List α) (lo hi : Option Int) : List α := (xs.drop (sAt xs.length 0 lo)).take (sAt xs.length xs.length hi - sAt xs.length 0 lo)
def sliceD (d : PyData) (lo hi : Option Int) : Option PyData :=
  match d with
  | .list xs => some (.list (cutL xs lo hi))
  | .tuple xs => some (.tuple (cutL xs lo hi))
  | _ => none
def revD : PyData → Option PyData
  | .list xs => some (.list xs.reverse)
  | .tuple xs => some (.tuple xs.reverse)
  | _ => none

/-! ### terms -/
inductive Tg where
  | nm (i : Nat)
  | tp (ts : List Tg)
mutual
inductive Ex where
  | v (i : Nat) | b (i : Nat) | w (i : Nat)
  | c (d : PyData)
  | g (j : Nat)
  | o1 (op : U1) (a : Ex)
  | o2 (op : U2) (a b : Ex)
  | get2 (a k e : Ex)
  | an (a b : Ex) | or (a b : Ex) | nt (a : Ex)
  | ite (c a b : Ex)
  | tup (es : List Ex) | lst (es : List Ex)
  | dic (es : List Ex)
  | sl (a : Ex) (lo hi : Option Ex)
  | rev (a : Ex)
  | call (f : Nat) (es : List Ex)
  | lrg (a b : Ex)
  | cp (own : List Nat) (t : Tg) (s : Sr) (q : Option Ex) (e : Ex)
  | cp2 (own own2 : List Nat) (t : Tg) (s : Sr) (q : Option Ex) (t2 : Tg) (s2 : Sr) (q2 : Option Ex) (e : Ex)
inductive Sr where
  | ex (e : Ex)
  | rg1 (a : Ex) | rg2 (a b : Ex)
  | zip (a b : Ex) | items (a : Ex) | enum (a : Ex)
end
inductive Ss where
  | asg (own : Bool) (t : Tg) (e : Ex)
  | par (ts : List (Nat × Bool)) (es : List Ex)
  | setix (i : Nat) (k e : Ex)
  | aug (i : Nat) (op : U2) (e : Ex)
  | augix (i : Nat) (k : Ex) (op : U2) (e : Ex)
  | app (i : Nat) (e : Ex) | ext (i : Nat) (e : Ex) | ins (i : Nat) (k e : Ex) | upd (i : Nat) (e : Ex)
  | ret (e : Ex) | retN
  | ife (c : Ex) (a b : List Ss)
  | for (t : Tg) (s : Sr) (b : List Ss)
  | whl (c : Ex) (b : List Ss)
  | brk
  | fz (i : Nat)

/-! ### the evaluator -/
/-- a step: it may turn the number of draws; none: not served -/
abbrev M (α : Type) := Nat → Option (α × Nat)
def ret {α : Type} (a : α) : M α := fun n => some (a, n)
def bnd {α β : Type} (m : M α) (f : α → M β) : M β := fun n => match m n with
  | some p => f p.1 p.2
  | none => none
def lift {α : Type} (o : Option α) : M α := fun n => o.map fun a => (a, n)
/-- the calls -/
abbrev Orc := Nat → List PyData → M PyData
/-- slots -/
def slGet (ρ : Sls) (i : Nat) : Option PyData := match ρ[i]? with
  | some (.pu d) => some d
  | _ => none
def slAny (ρ : Sls) (i : Nat) : Option PyData := match ρ[i]? with
  | some (.pu d) => some d
  | some (.ow d) => some d
  | some (.bo d) => some d
  | _ => none
def slW (ρ : Sls) (i : Nat) : Option PyData := match ρ[i]? with
  | some .wr => some .none
  | _ => none
def slOw (ρ : Sls) (i : Nat) : Option PyData := match ρ[i]? with
  | some (.ow d) => some d
  | _ => none
def wipeS (ρ : Sls) : List Nat → Sls
  | [] => ρ
  | v :: vs => (wipeS ρ vs).set v .no
mutual
def asgT : Tg → PyData → Sls → Option Sls
  | .nm i, d, ρ => if i < ρ.length then some (ρ.set i (.pu d)) else none
  | .tp ts, .tuple ds, ρ => asgTs ts ds ρ
  | .tp _, _, _ => none
def asgTs : List Tg → List PyData → Sls → Option Sls
  | [], [], ρ => some ρ
  | t :: ts, d :: ds, ρ => (asgT t d ρ).bind (asgTs ts ds)
  | _, _, _ => none
end
def compM (f : PyData → M (List PyData)) : List PyData → M (List PyData)
  | [] => ret []
  | x :: xs => bnd (f x) fun ys => bnd (compM f xs) fun zs => ret (ys ++ zs)
def fitL (xs : List PyData) : Option PyData := if fit xs.length then some (.list xs) else none
def boolM : PyData → M Bool
  | .bool b => ret b
  | _ => fun _ => none
def rgOk (a b : Int) : Bool := decide (-(2 ^ 62) ≤ a) && decide (a < 2 ^ 62) && decide (-(2 ^ 62) ≤ b) && decide (b < 2 ^ 62)
def rngD (a b : Int) : List PyData := (List.range (b - a).toNat).map fun (k : Nat) => .int (a + (k : Int))
def zipD : List PyData → List PyData → List PyData
  | x :: xs, y :: ys => .tuple [x, y] :: zipD xs ys
  | _, _ => []
def rangeD : PyData → PyData → Option (List PyData)
  | .int a, .int b => if rgOk a b then some (rngD a b) else none
  | _, _ => none
def zippedD : PyData → PyData → Option (List PyData)
  | .list a, .list b => some (zipD a b)
  | .tuple a, .tuple b => some (zipD a b)
  | _, _ => none
def itemsD : PyData → Option (List PyData)
  | .dict kvs => some (kvs.map fun p => .tuple [p.1, p.2])
  | _ => none
def pairUp : List PyData → Option (List PyData)
  | [] => some []
  | k :: v :: r => (pairUp r).map (.tuple [k, v] :: ·)
  | [_] => none
def intO : Option PyData → Option (Option Int)
  | none => some none
  | some (.int i) => some (some i)
  | some _ => none
mutual
def evE (C : Orc) : Ex → Sls → M PyData
  | .v i, ρ => lift (slGet ρ i)
  | .b i, ρ => lift (slAny ρ i)
  | .w i, ρ => lift (slW ρ i)
  | .c d, _ => ret d
  | .g j, _ => C j []
  | .o1 op a, ρ => bnd (evE C a ρ) fun x => lift (u1 op x)
  | .o2 op a b, ρ => bnd (evE C a ρ) fun x => bnd (evE C b ρ) fun y => lift (u2 op x y)
  | .get2 a k e, ρ => bnd (evE C a ρ) fun x => bnd (evE C k ρ) fun y => bnd (evE C e ρ) fun z => lift (match x with
      | .dict kvs => if keyOk kvs y then some ((dgetD kvs y).getD z) else none
      | _ => none)
  | .an a b, ρ => bnd (evE C a ρ) fun x => bnd (boolM x) fun p => if p then bnd (evE C b ρ) (fun y => bnd (boolM y) fun q => ret (.bool q)) else ret (.bool false)
  | .or a b, ρ => bnd (evE C a ρ) fun x => bnd (boolM x) fun p => if p then ret (.bool true) else bnd (evE C b ρ) (fun y => bnd (boolM y) fun q => ret (.bool q))
  | .nt a, ρ => bnd (evE C a ρ) fun x => bnd (boolM x) fun p => ret (.bool !p)
  | .ite c a b, ρ => bnd (evE C c ρ) fun x => bnd (boolM x) fun p => if p then evE C a ρ else evE C b ρ
  | .tup es, ρ => bnd (evEs C es ρ) fun xs => ret (.tuple xs)
  | .lst es, ρ => bnd (evEs C es ρ) fun xs => ret (.list xs)
  | .dic es, ρ => bnd (evEs C es ρ) fun xs => lift ((pairUp xs).bind fun ps => if decide (ps.length ≤ 15) then (mergeD [] ps).map .dict else none)
  | .sl a lo hi, ρ => bnd (evE C a ρ) fun x => bnd (evO C lo ρ) fun l => bnd (evO C hi ρ) fun h => lift ((intO l).bind fun l => (intO h).bind fun h => sliceD x l h)
  | .rev a, ρ => bnd (evE C a ρ) fun x => lift (revD x)
  | .call f es, ρ => bnd (evEs C es ρ) fun xs => C f xs
  | .lrg a b, ρ => bnd (evE C a ρ) fun x => bnd (evE C b ρ) fun y => lift ((rangeD x y).bind fitL)
  | .cp own t s q e, ρ => bnd (evS C s ρ) fun xs => bnd (compM (fun x => bnd (lift (asgT t x (wipeS ρ own))) fun ρ' => bnd (evQ C q ρ') fun p => if p then bnd (evE C e ρ') fun y => ret [y] else ret []) xs) fun ys => lift (fitL ys)
  | .cp2 own own2 t s q t2 s2 q2 e, ρ => bnd (evS C s ρ) fun xs => bnd (compM (fun x => bnd (lift (asgT t x (wipeS ρ own))) fun ρ' => bnd (evQ C q ρ') fun p =>
      if p then bnd (evS C s2 ρ') fun xs2 => compM (fun x2 => bnd (lift (asgT t2 x2 (wipeS ρ' own2))) fun ρ2 => bnd (evQ C q2 ρ2) fun p2 => if p2 then bnd (evE C e ρ2) fun y => ret [y] else ret []) xs2 else ret []) xs) fun ys => lift (fitL ys)
def evEs (C : Orc) : List Ex → Sls → M (List PyData)
  | [], _ => ret []
  | e :: es, ρ => bnd (evE C e ρ) fun x => bnd (evEs C es ρ) fun xs => ret (x :: xs)
def evO (C : Orc) : Option Ex → Sls → M (Option PyData)
  | none, _ => ret none
  | some e, ρ => bnd (evE C e ρ) fun x => ret (some x)
def evQ (C : Orc) : Option Ex → Sls → M Bool
  | none, _ => ret true
  | some e, ρ => bnd (evE C e ρ) boolM
def evS (C : Orc) : Sr → Sls → M (List PyData)
  | .ex e, ρ => bnd (evE C e ρ) fun x => lift (itemsOf x)
  | .rg1 a, ρ => bnd (evE C a ρ) fun x => lift (rangeD (.int 0) x)
  | .rg2 a b, ρ => bnd (evE C a ρ) fun x => bnd (evE C b ρ) fun y => lift (rangeD x y)
  | .zip a b, ρ => bnd (evE C a ρ) fun x => bnd (evE C b ρ) fun y => lift (zippedD x y)
  | .items a, ρ => bnd (evE C a ρ) fun x => lift (itemsD x)
  | .enum _, _ => fun _ => none
end
/-- how a block ends -/
inductive Out where
  | nx (ρ : Sls) | rt (d : PyData) | bk (ρ : Sls)
def loopM (f : PyData → Sls → M Out) : List PyData → Sls → M Out
  | [], ρ => ret (.nx ρ)
  | x :: xs, ρ => bnd (f x ρ) fun o => match o with
    | .nx ρ' => loopM f xs ρ'
    | .bk ρ' => ret (.nx ρ')
    | .rt d => ret (.rt d)
def whileM (c : Sls → M Bool) (b : Sls → M Out) : Nat → Sls → M Out
  | 0, _ => fun _ => none
  | k + 1, ρ => bnd (c ρ) fun p => if p then bnd (b ρ) (fun o => match o with
    | .nx ρ' => whileM c b k ρ'
    | .bk ρ' => ret (.nx ρ')
    | .rt d => ret (.rt d)) else ret (.nx ρ)
def whileFuel : Nat := 100000
def mutD : PyData → Bool
  | .list _ => true
  | .dict _ => true
  | _ => false
/-- a slot stored: one's own, if it is to be and is a list or a dict -/
def stor (own : Bool) (d : PyData) : Sl := if own && mutD d then .ow d else .pu d
def parS : List (Nat × Bool) → List PyData → Sls → Option Sls
  | [], [], ρ => some ρ
  | (i, o) :: ts, d :: ds, ρ => if i < ρ.length then (parS ts ds (ρ.set i (stor o d))) else none
  | _, _, _ => none
def setIx : PyData → PyData → PyData → Option PyData
  | .dict kvs, k, v => if keyOk kvs k && decide (kvs.length < sizeLine) then some (.dict (dputD kvs k v)) else none
  | .list xs, .int i, v => (ixAt xs.length i).map fun j => .list (xs.set j v)
  | _, _, _ => none
def freeze (ρ : Sls) (i : Nat) : Option Sls := match ρ[i]? with
  | some (.ow d) => some (ρ.set i (.pu d))
  | some (.pu _) => some ρ
  | _ => none
mutual
def evT (C : Orc) : Ss → Sls → M Out
  | .asg own (.nm i) e, ρ => bnd (evE C e ρ) fun d => if i < ρ.length then ret (.nx (ρ.set i (stor own d))) else fun _ => none
  | .asg _ t e, ρ => bnd (evE C e ρ) fun d => bnd (lift (asgT t d ρ)) fun ρ' => ret (.nx ρ')
  | .par ts es, ρ => bnd (evEs C es ρ) fun ds => bnd (lift (parS ts ds ρ)) fun ρ' => ret (.nx ρ')
  | .setix i k e, ρ => bnd (evE C e ρ) fun v => bnd (lift (slOw ρ i)) fun _ => bnd (evE C k ρ) fun x => bnd (lift (slOw ρ i)) fun d => bnd (lift (setIx d x v)) fun d' => ret (.nx (ρ.set i (.ow d')))
  | .aug i op e, ρ => bnd (lift (slGet ρ i)) fun x => bnd (evE C e ρ) fun y => bnd (lift (u2 op x y)) fun z => ret (.nx (ρ.set i (.pu z)))
  | .augix i k op e, ρ => bnd (lift (slOw ρ i)) fun d => bnd (evE C k ρ) fun x => bnd (lift (ixD d x)) fun old => bnd (evE C e ρ) fun y => bnd (lift (u2 op old y)) fun z => bnd (lift (setIx d x z)) fun d' => ret (.nx (ρ.set i (.ow d')))
  | .app i e, ρ => bnd (lift (slOw ρ i)) fun d => bnd (evE C e ρ) fun x => match d with
    | .list xs => if decide (xs.length < sizeLine) then ret (.nx (ρ.set i (.ow (.list (xs ++ [x]))))) else fun _ => none
    | _ => fun _ => none
  | .ext i e, ρ => bnd (lift (slOw ρ i)) fun d => bnd (evE C e ρ) fun x => match d, x with
    | .list xs, .list ys => if fit (xs.length + ys.length) then ret (.nx (ρ.set i (.ow (.list (xs ++ ys))))) else fun _ => none
    | _, _ => fun _ => none
  | .ins i k e, ρ => bnd (lift (slOw ρ i)) fun d => bnd (evE C k ρ) fun p => bnd (evE C e ρ) fun x => match d, p with
    | .list xs, .int j => if decide (0 ≤ j) && decide (j ≤ xs.length) && decide (xs.length < sizeLine) then ret (.nx (ρ.set i (.ow (.list (xs.take j.toNat ++ x :: xs.drop j.toNat))))) else fun _ => none
    | _, _ => fun _ => none
  | .upd i e, ρ => bnd (lift (slOw ρ i)) fun d => bnd (evE C e ρ) fun x => match d, x with
    | .dict kvs, .dict more => if byVal kvs && byVal more && fit (kvs.length + more.length) then ret (.nx (ρ.set i (.ow (.dict (more.foldl (fun acc p => dputD acc p.1 p.2) kvs))))) else fun _ => none
    | _, _ => fun _ => none
  | .ret e, ρ => bnd (evE C e ρ) fun d => ret (.rt d)
  | .retN, _ => ret (.rt .none)
  | .ife c a b, ρ => bnd (evE C c ρ) fun x => bnd (boolM x) fun p => if p then evTs C a ρ else evTs C b ρ
  | .for t s b, ρ => bnd (evS C s ρ) fun xs => loopM (fun x ρ' => bnd (lift (asgT t x ρ')) fun ρ2 => evTs C b ρ2) xs ρ
  | .whl c b, ρ => whileM (fun ρ' => bnd (evE C c ρ') boolM) (fun ρ' => evTs C b ρ') whileFuel ρ
  | .brk, ρ => ret (.bk ρ)
  | .fz i, ρ => bnd (lift (freeze ρ i)) fun ρ' => ret (.nx ρ')
def evTs (C : Orc) : List Ss → Sls → M Out
  | [], ρ => ret (.nx ρ)
  | t :: ts, ρ => bnd (evT C t ρ) fun o => match o with
    | .nx ρ' => evTs C ts ρ'
    | .rt d => ret (.rt d)
    | .bk ρ' => ret (.bk ρ')
end
/-- how a parameter comes: a datum, lent, the world's object -/
inductive Pm where
  | p | b | w
  deriving DecidableEq
structure Fn where
  ps : List Pm
  n : Nat
  body : List Ss
def slOf : Pm → PyData → Sl
  | .p, d => .pu d
  | .b, d => .bo d
  | .w, _ => .wr
def enter (f : Fn) (ds : List PyData) : Option Sls := if f.ps.length = ds.length then some ((f.ps.zip ds).map (fun q => slOf q.1 q.2) ++ List.replicate (f.n - ds.length) .no) else none
def run (prim : Nat → Option (List PyData → M PyData)) (T : Nat → Option Fn) : Nat → Orc
  | 0, _, _ => fun _ => none
  | k + 1, f, ds => match prim f with
    | some g => g ds
    | none => match T f with
      | some F => bnd (lift (enter F ds)) fun ρ => bnd (evTs (run prim T k) F.body ρ) fun o => match o with
        | .rt d => ret d
        | .nx _ => ret .none
        | .bk _ => fun _ => none
      | none => fun _ => none
end RW
/-! Rules by values, over data. -/
namespace RW
open PySem PySem.Spec PyProof.Rows L2
section
variable {K : PySem.W.Frag} {w : World} {H H' : Hp} {W : Addr → Prop}
/-- what may not be leant on is tracked -/
def Wt (H : Hp) (W : Addr → Prop) : Prop := ∀ a, W a → H a ≠ none
/-- a value to be looked at: it stands for d, or is one's own list or dict -/
def RB (K : PySem.W.Frag) (w : World) (H : Hp) (W : Addr → Prop) (v : V) (d : PyData) : Prop := Rp K w H W v d ∨ ∃ a, v = .ref a ∧ W a ∧ Ct K w H W a d
/-- .. now -/
abbrev Rn (K : PySem.W.Frag) (w : World) (H : Hp) (v : V) (d : PyData) : Prop := Rp K w H (fun _ => False) v d
theorem kept_refl : Kept W H H := fun _ _ _ h => h
theorem keptT_refl : KeptT H H := fun _ _ _ h => h
theorem Rp.now {v : V} {d : PyData} (h : Rp K w H W v d) : Rn K w H v d := Rp.mono kept_refl keptT_refl (fun _ q _ => q.elim) _ _ h
theorem Rps.now {vs : List V} {ds : List PyData} (h : Rps K w H W vs ds) : Rps K w H (fun _ => False) vs ds := Rps.mono kept_refl keptT_refl (fun _ q _ => q.elim) _ _ h
theorem RB.now {v : V} {d : PyData} (h : RB K w H W v d) : Rn K w H v d := by
  rcases h with h | ⟨a, rfl, _, h⟩
  · exact h.now
  · exact (Ct.mono kept_refl keptT_refl (fun _ q _ => q.elim) (fun _ q => q) h).rp fun q => q
theorem RB.int {v : V} {i : Int} (h : RB K w H W v (.int i)) : v = .int i := by have := h.now; cases this; rfl
theorem RB.bl {v : V} {b : Bool} (h : RB K w H W v (.bool b)) : v = .bl b := by have := h.now; cases this; rfl
theorem RB.str {v : V} {x : Str} (h : RB K w H W v (.str x)) : v = .str x := by have := h.now; cases this; rfl
theorem RB.non {v : V} (h : RB K w H W v .none) : v = .non := by have := h.now; cases this; rfl
theorem RB.tup {v : V} {ds : List PyData} (h : RB K w H W v (.tuple ds)) : ∃ a xs, v = .ref a ∧ SqF K H a xs ∧ Rps K w H W xs ds := by
  rcases h with h | ⟨a, rfl, _, h⟩
  · cases h with
    | tup h1 h2 => exact ⟨_, _, rfl, h1, h2⟩
  · cases h
theorem RB.lst {v : V} {ds : List PyData} (h : RB K w H W v (.list ds)) : ∃ a xs, v = .ref a ∧ SqL K H a xs ∧ Rps K w H W xs ds := by
  rcases h with h | ⟨a, rfl, _, h⟩
  · cases h with
    | lst h1 h3 => exact ⟨_, _, rfl, h1.sql, h3⟩
  · cases h with
    | lst h1 h2 => exact ⟨_, _, rfl, .inl (.inl h1), h2⟩
theorem RB.dic {v : V} {kvs : List (PyData × PyData)} (h : RB K w H W v (.dict kvs)) : ∃ a o es ks vs, v = .ref a ∧ H a = some (DO a o) ∧ DFact w a o es kvs ∧ Vals ks (es.toList.map (·.key)) ∧ Vals vs (es.toList.map (·.val)) ∧ Rps K w H W ks (kvs.map Prod.fst) ∧ Rps K w H W vs (kvs.map Prod.snd) := by
  rcases h with h | ⟨a, rfl, _, h⟩
  · cases h with
    | dic h1 h2 h3 h4 h5 h6 h7 => exact ⟨_, _, _, _, _, rfl, h1, h3, h4, h5, h6, h7⟩
  · cases h with
    | dic h1 h3 h4 h5 h6 h7 => exact ⟨_, _, _, _, _, rfl, h1, h3, h4, h5, h6, h7⟩
theorem Rps.length : ∀ {vs : List V} {ds : List PyData}, Rps K w H W vs ds → vs.length = ds.length
  | _, [], h => by cases h; rfl
  | _, d :: ds, h => by
    cases h with
    | cons h1 h2 => simp [Rps.length h2]
theorem Rps.get : ∀ {vs : List V} {ds : List PyData} {i : Nat} {d : PyData}, Rps K w H W vs ds → ds[i]? = some d → ∃ v, vs[i]? = some v ∧ Rp K w H W v d
  | _, [], _, _, h, e => by simp at e
  | _, d :: ds, 0, _, h, e => by
    cases h with
    | cons h1 h2 => simp at e; subst e; exact ⟨_, rfl, h1⟩
  | _, d :: ds, i + 1, _, h, e => by
    cases h with
    | cons h1 h2 => obtain ⟨v, a, b⟩ := Rps.get (i := i) h2 (by simpa using e); exact ⟨v, by simpa using a, b⟩
theorem Rps.append : ∀ {vs us : List V} {ds es : List PyData}, Rps K w H W vs ds → Rps K w H W us es → Rps K w H W (vs ++ us) (ds ++ es)
  | _, _, [], _, h, g => by cases h; exact g
  | _, _, d :: ds, _, h, g => by
    cases h with
    | cons h1 h2 => exact .cons h1 (Rps.append h2 g)
theorem Rps.take : ∀ {vs : List V} {ds : List PyData} (n : Nat), Rps K w H W vs ds → Rps K w H W (vs.take n) (ds.take n)
  | _, _, 0, _ => by simp; exact .nil
  | _, [], n + 1, h => by cases h; exact .nil
  | _, d :: ds, n + 1, h => by
    cases h with
    | cons h1 h2 => exact .cons h1 (Rps.take n h2)
theorem Rps.drop : ∀ {vs : List V} {ds : List PyData} (n : Nat), Rps K w H W vs ds → Rps K w H W (vs.drop n) (ds.drop n)
  | _, _, 0, h => by simpa using h
  | _, [], n + 1, h => by cases h; exact .nil
  | _, d :: ds, n + 1, h => by
    cases h with
    | cons h1 h2 => exact Rps.drop n h2
theorem Rps.reverse : ∀ {vs : List V} {ds : List PyData}, Rps K w H W vs ds → Rps K w H W vs.reverse ds.reverse
  | _, [], h => by cases h; exact .nil
  | _, d :: ds, h => by
    cases h with
    | cons h1 h2 => rw [List.reverse_cons, List.reverse_cons]; exact Rps.append (Rps.reverse h2) (.cons h1 .nil)
theorem Rps.set : ∀ {vs : List V} {ds : List PyData} {v : V} {d : PyData} (i : Nat), Rp K w H W v d → Rps K w H W vs ds → Rps K w H W (vs.set i v) (ds.set i d)
  | _, [], _, _, _, _, h => by cases h; exact .nil
  | _, d :: ds, _, _, 0, r, h => by
    cases h with
    | cons h1 h2 => exact .cons r h2
  | _, d :: ds, _, _, i + 1, r, h => by
    cases h with
    | cons h1 h2 => exact .cons h1 (Rps.set i r h2)
theorem Rps.ints : ∀ {vs : List V} {ds : List PyData} {ns : List Int}, Rps K w H W vs ds → intsOf ds = some ns → vs = ns.map V.int ∧ ds = ns.map PyData.int
  | _, [], _, h, e => by cases h; cases e; exact ⟨rfl, rfl⟩
  | _, .int i :: ds, ns, h, e => by
    cases h with
    | cons h1 h2 =>
      cases h1
      simp only [intsOf, Option.map_eq_some_iff] at e
      obtain ⟨m, e, rfl⟩ := e
      obtain ⟨a, b⟩ := Rps.ints h2 e
      exact ⟨by rw [a]; rfl, by rw [b]; rfl⟩
  | _, .none :: ds, _, _, e => by cases e
  | _, .bool _ :: ds, _, _, e => by cases e
  | _, .str _ :: ds, _, _, e => by cases e
  | _, .list _ :: ds, _, _, e => by cases e
  | _, .tuple _ :: ds, _, _, e => by cases e
  | _, .dict _ :: ds, _, _, e => by cases e
theorem Rps.bools : ∀ {vs : List V} {ds : List PyData} {ns : List Bool}, Rps K w H W vs ds → boolsOf ds = some ns → vs = ns.map V.bl ∧ ds = ns.map PyData.bool
  | _, [], _, h, e => by cases h; cases e; exact ⟨rfl, rfl⟩
  | _, .bool i :: ds, ns, h, e => by
    cases h with
    | cons h1 h2 =>
      cases h1
      simp only [boolsOf, Option.map_eq_some_iff] at e
      obtain ⟨m, e, rfl⟩ := e
      obtain ⟨a, b⟩ := Rps.bools h2 e
      exact ⟨by rw [a]; rfl, by rw [b]; rfl⟩
  | _, .none :: ds, _, _, e => by cases e
  | _, .int _ :: ds, _, _, e => by cases e
  | _, .str _ :: ds, _, _, e => by cases e
  | _, .list _ :: ds, _, _, e => by cases e
  | _, .tuple _ :: ds, _, _, e => by cases e
  | _, .dict _ :: ds, _, _, e => by cases e
/-- how a value is told behind a step: what it stands for; where it is new, that it is new -/
def Pst (fr : Bool) (K : PySem.W.Frag) (w : World) (W : Addr → Prop) (H0 H' : Hp) (z : V) (d : PyData) : Prop :=
  Rp K w H' W z d ∧ (fr = true → mutD d = true → ∃ p, z = .ref p ∧ H0 p = none ∧ Ct K w H' (fun b => W b ∨ b = p) p d)
theorem Pst.imm {fr : Bool} {z : V} {d : PyData} (h : Rp K w H' W z d) (n : mutD d = false) : Pst fr K w W H H' z d := ⟨h, fun _ m => by rw [n] at m; cases m⟩
theorem Pst.old {z : V} {d : PyData} (h : Rp K w H' W z d) : Pst false K w W H H' z d := ⟨h, fun q => by cases q⟩
theorem same_upd {p : Addr} {o : HO} (h : H p = none) : Same H (L2.upd H p o) := fun b u e => by rw [upd_ne (ne_of_none e h)]; exact e
theorem Same.kept (h : Same H H') : Kept W H H' := fun b o _ e => h b o e
theorem Same.keptT (h : Same H H') : KeptT H H' := fun b o _ e => h b o e
theorem Pst.newL {fr : Bool} {p : Addr} {xs : List V} {ds : List PyData} (t : Wt H W) (h : H p = none) (r : Rps K w H W xs ds) : Pst fr K w W H (L2.upd H p (.lst xs)) (.ref p) (.list ds) :=
  ⟨.lst (.inl ⟨.inl upd_same, fun q => t p q h⟩) (Rps.mono (RW.Same.kept (same_upd h)) (RW.Same.keptT (same_upd h)) (fun _ q n => absurd q n) _ _ r),
   fun _ _ => ⟨p, rfl, h, .lst upd_same (Rps.mono (RW.Same.kept (same_upd h)) (RW.Same.keptT (same_upd h)) (fun a q n => by rcases q with q | rfl; exact absurd q n; exact h) _ _ r)⟩⟩
theorem Pst.newT {fr : Bool} {p : Addr} {ob : Obj} {xs : List V} {ds : List PyData} (h : H p = none) (ho : ob.dict = none) (r : Rps K w H W xs ds) : Pst fr K w W H (L2.upd H p (FT ob xs)) (.ref p) (.tuple ds) :=
  .imm (.tup (.new ho) (Rps.mono (RW.Same.kept (same_upd h)) (RW.Same.keptT (same_upd h)) (fun _ q n => absurd q n) _ _ r)) rfl
theorem Pst.newD {fr : Bool} {p : Addr} {o : Obj} {es : Array DictEntry} {ks vs : List V} {kvs : List (PyData × PyData)} (t : Wt H W) (h : H p = none) (f : DFact w p o es kvs) (v1 : Vals ks (es.toList.map (·.key))) (v2 : Vals vs (es.toList.map (·.val)))
    (r1 : Rps K w H W ks (kvs.map Prod.fst)) (r2 : Rps K w H W vs (kvs.map Prod.snd)) : Pst fr K w W H (L2.upd H p (DO p o)) (.ref p) (.dict kvs) :=
  ⟨.dic upd_same (fun q => t p q h) f v1 v2 (Rps.monoK (RW.Same.kept (same_upd h)) (RW.Same.keptT (same_upd h)) (fun _ q n => absurd q n) _ _ r1) (Rps.monoV (RW.Same.kept (same_upd h)) (RW.Same.keptT (same_upd h)) (fun _ q n => absurd q n) _ _ r2),
   fun _ _ => ⟨p, rfl, h, .dic upd_same f v1 v2 (Rps.monoK (RW.Same.kept (same_upd h)) (RW.Same.keptT (same_upd h)) (fun a q n => by rcases q with q | rfl; exact absurd q n; exact h) _ _ r1) (Rps.monoV (RW.Same.kept (same_upd h)) (RW.Same.keptT (same_upd h)) (fun a q n => by rcases q with q | rfl; exact absurd q n; exact h) _ _ r2)⟩⟩
end
/-- the wish of one value, two values -/
def r1 (fr : Bool) (K : PySem.W.Frag) (w : World) (g : PyData → Option PyData) : V → Hp → VK → Prop := fun x H Q =>
  ∃ W dx d, Wt H W ∧ RB K w H W x dx ∧ g dx = some d ∧ ∀ z H', Same H H' → Pst fr K w W H H' z d → Q z H'
def r2 (fr : Bool) (K : PySem.W.Frag) (w : World) (g : PyData → PyData → Option PyData) : R2 := fun x y H Q =>
  ∃ W dx dy d, Wt H W ∧ RB K w H W x dx ∧ RB K w H W y dy ∧ g dx dy = some d ∧ ∀ z H', Same H H' → Pst fr K w W H H' z d → Q z H'
def c1 (r : V → Hp → VK → Prop) : List V → Hp → VK → Prop := fun xs H Q => ∃ x, xs = [x] ∧ r x H Q
def c2 (r : R2) : List V → Hp → VK → Prop := fun xs H Q => ∃ x y, xs = [x, y] ∧ r x y H Q
end RW
/-! Operators, comparisons, calls of built-ins: their wishes over data. -/
namespace RW
open PySem PySem.Spec PyProof.Rows L2
section
variable {X : Cx}
theorem same_refl {H : Hp} : Same H H := fun _ _ h => h
/-- from a rule by values: the wish is mended -/
theorem OpR.weak {f : Value → Value → Sem Value} {r r' : R2} (h : OpR X f r) (i : ∀ x y H Q, r' x y H Q → r x y H Q) : OpR X f r' := fun pins s σ H x y v u Q I rx ry q => h pins s σ H x y v u Q I rx ry (i _ _ _ _ q)
theorem CallR.weak {f : Value} {r r' : List V → Hp → VK → Prop} (h : CallR X f r) (i : ∀ xs H Q, r' xs H Q → r xs H Q) : CallR X f r' := fun pins s σ H xs us Q I rx q => h pins s σ H xs us Q I rx (i _ _ _ q)
theorem fits {n : Nat} (h : fit n = true) : n ≤ sizeLine := of_decide_eq_true h
/-- an int comes out -/
theorem Pst.int {fr : Bool} {K : PySem.W.Frag} {w : World} {W : Addr → Prop} {H : Hp} (i : Int) : Pst fr K w W H H (.int i) (.int i) := .imm (.int i) rfl
theorem Pst.bl {fr : Bool} {K : PySem.W.Frag} {w : World} {W : Addr → Prop} {H : Hp} (b : Bool) : Pst fr K w W H H (.bl b) (.bool b) := .imm (.bl b) rfl
theorem Pst.st {fr : Bool} {K : PySem.W.Frag} {w : World} {W : Addr → Prop} {H : Hp} (x : Str) : Pst fr K w W H H (.str x) (.str x) := .imm (.str x) rfl
theorem Pst.non {fr : Bool} {K : PySem.W.Frag} {w : World} {W : Addr → Prop} {H : Hp} : Pst fr K w W H H .non .none := .imm .non rfl

/-- list + list, however they lie -/
theorem op_catL : OpR X (binaryOp .Add) (fun x y H Q => ∃ l b xs zs, x = .ref l ∧ y = .ref b ∧ SqL X.K H l xs ∧ SqL X.K H b zs ∧ xs.length + zs.length ≤ sizeLine ∧ ∀ p, H p = none → Q (.ref p) (upd H p (.lst (xs ++ zs)))) := by
  intro pins s σ H x y v u Q I rx ry h
  obtain ⟨l, b, xs, zs, rfl, rfl, hH, hB, hz, q⟩ := h
  cases rx
  cases ry
  obtain ⟨its, r, ⟨⟨c1, e1, d1, s1⟩, n, ho, hc, hdn, hd⟩, _⟩ := I.list hH
  obtain ⟨its2, r2, ⟨⟨c2, e2, d2, s2⟩, n2, ho2, hc2, hdn2, hd2⟩, _⟩ := I.list hB
  simp only at hc hd hdn hc2 hd2 hdn2
  subst hc hd hdn hc2 hd2 hdn2
  have ea : its.toArray ++ its2.toArray = (its ++ its2).toArray := by simp
  refine concat_meets ⟨_, ho, rfl⟩ ⟨_, ho2, rfl⟩ noFill_list_add seq_list_add PySem.F.slot_list_add PySem.F.entry_list_add (PySem.F.args_list_add_2 _ _) (PyProof.Rows.list_addW l b its.toArray its2.toArray n n2 none none s1 s2 (by rw [List.size_toArray, List.size_toArray, ← r.length, ← r2.length]; exact hz)) ⟨ho, ho2, ?_⟩
  rw [ea]
  exact ⟨.ref _, _, I.lnew (t' := s.toks) (r.append r2) (by rw [List.length_append]; omega), rfl, q _ I.fresh⟩

theorem d_add : OpR X (binaryOp .Add) (r2 true X.K X.w addD) := by
  intro pins s σ H x y v u Q I rx ry ⟨W, dx, dy, d, t, bx, by_, e, q⟩
  cases dx <;> cases dy <;> first | (cases e; done) | skip
  case int.int a b =>
    cases e
    obtain rfl := bx.int
    obtain rfl := by_.int
    exact op_add pins s σ H _ _ v u Q I rx ry ⟨a, b, rfl, rfl, q _ _ same_refl (.int _)⟩
  case str.str a b =>
    simp only [addD] at e
    split at e
    · rename_i h
      cases e
      obtain rfl := bx.str
      obtain rfl := by_.str
      exact op_add_str pins s σ H _ _ v u Q I rx ry ⟨a, b, rfl, rfl, fits h, q _ _ same_refl (.st _)⟩
    · cases e
  case list.list a b =>
    simp only [addD] at e
    split at e
    · rename_i h
      cases e
      obtain ⟨p, xs, rfl, h1, h2⟩ := bx.lst
      obtain ⟨p', ys, rfl, h3, h4⟩ := by_.lst
      exact op_catL pins s σ H _ _ v u Q I rx ry ⟨p, p', xs, ys, rfl, rfl, h1, h3, by rw [h2.length, h4.length]; exact fits h, fun l hl => q _ _ (same_upd hl) (.newL t hl (h2.append h4))⟩
    · cases e
  case tuple.tuple a b =>
    simp only [addD] at e
    split at e
    · rename_i h
      cases e
      obtain ⟨p, xs, rfl, h1, h2⟩ := bx.tup
      obtain ⟨p', ys, rfl, h3, h4⟩ := by_.tup
      refine op_catF pins s σ H _ _ v u Q I rx ry ⟨p, p', xs, ys, rfl, rfl, h1.1, h3.1, by rw [h2.length, h4.length]; exact fits h, fun e0 => ?_, fun _ e0 => ?_, fun _ _ l ob hl ho => q _ _ (same_upd hl) (.newT hl ho (h2.append h4))⟩
      · subst e0
        cases h2
        exact q _ _ same_refl (.imm (.tup h3 h4) rfl)
      · subst e0
        cases h4
        rw [List.append_nil] at q
        exact q _ _ same_refl (.imm (.tup h1 h2) rfl)
    · cases e
theorem d_mul : OpR X (binaryOp .Mult) (r2 true X.K X.w mulD) := by
  intro pins s σ H x y v u Q I rx ry ⟨W, dx, dy, d, t, bx, by_, e, q⟩
  cases dx <;> cases dy <;> first | (cases e; done) | skip
  case int.int a b =>
    simp only [mulD] at e
    split at e
    · rename_i h
      cases e
      obtain rfl := bx.int
      obtain rfl := by_.int
      refine op_mul pins s σ H _ _ v u Q I rx ry ⟨a, b, rfl, rfl, ?_, q _ _ same_refl (.int _)⟩
      simp only [small64, Bool.or_eq_true, Bool.and_eq_true, decide_eq_true_eq] at h
      exact h
    · cases e
theorem d_fdiv : OpR X (binaryOp .FloorDiv) (r2 true X.K X.w fdivD) := by
  intro pins s σ H x y v u Q I rx ry ⟨W, dx, dy, d, t, bx, by_, e, q⟩
  cases dx <;> cases dy <;> first | (cases e; done) | skip
  case int.int a b =>
    simp only [fdivD] at e
    split at e
    · rename_i h
      cases e
      obtain rfl := bx.int
      obtain rfl := by_.int
      refine op_fdivN pins s σ H _ _ v u Q I rx ry ⟨a, b, rfl, rfl, ?_, q _ _ same_refl (.int _)⟩
      simp only [divOk, Bool.and_eq_true, decide_eq_true_eq] at h
      exact h
    · cases e
theorem d_mod : OpR X (binaryOp .Mod) (r2 true X.K X.w modD) := by
  intro pins s σ H x y v u Q I rx ry ⟨W, dx, dy, d, t, bx, by_, e, q⟩
  cases dx <;> cases dy <;> first | (cases e; done) | skip
  case int.int a b =>
    simp only [modD] at e
    split at e
    · rename_i h
      cases e
      obtain rfl := bx.int
      obtain rfl := by_.int
      refine op_modN pins s σ H _ _ v u Q I rx ry ⟨a, b, rfl, rfl, ?_, q _ _ same_refl (.int _)⟩
      simp only [divOk, Bool.and_eq_true, decide_eq_true_eq] at h
      exact h.1
    · cases e
theorem d_pow : OpR X (binaryOp .Pow) (r2 true X.K X.w powD) := by
  intro pins s σ H x y v u Q I rx ry ⟨W, dx, dy, d, t, bx, by_, e, q⟩
  cases dx <;> cases dy <;> first | (cases e; done) | skip
  case int.int a b =>
    simp only [powD] at e
    split at e
    · rename_i h
      cases e
      obtain rfl := bx.int
      obtain rfl := by_.int
      refine op_pow pins s σ H _ _ v u Q I rx ry ⟨a, b, rfl, rfl, ?_, q _ _ same_refl (.int _)⟩
      simp only [Bool.and_eq_true, decide_eq_true_eq] at h
      exact ⟨h.1.1, h.1.2, h.2⟩
    · cases e
theorem d_band : OpR X (binaryOp .BitAnd) (r2 true X.K X.w bandD) := by
  intro pins s σ H x y v u Q I rx ry ⟨W, dx, dy, d, t, bx, by_, e, q⟩
  cases dx <;> cases dy <;> first | (cases e; done) | skip
  case int.int a b =>
    cases e
    obtain rfl := bx.int
    obtain rfl := by_.int
    exact op_and pins s σ H _ _ v u Q I rx ry ⟨a, b, rfl, rfl, q _ _ same_refl (.int _)⟩

/-! ### comparisons -/
theorem hu65 {A : Around} {k : Nat} (r : Room k A) : A.units + 200 < cLine := by have := r.un; omega
theorem okD_of {d : PyData} (h : okD d = true) : d.plain = true ∧ d.depth ≤ 60 := by
  simp only [okD, Bool.and_eq_true] at h
  exact ⟨h.1, of_decide_eq_true h.2⟩
theorem okDs_of {d : List PyData} (h : okDs d = true) : PyData.plainAll d = true ∧ PyData.depthAll d ≤ 60 := by
  simp only [okDs, Bool.and_eq_true] at h
  exact ⟨h.1, of_decide_eq_true h.2⟩
theorem d_eq (hu : X.A.units + 200 < cLine) : OpR X (compareOp .Eq) (r2 true X.K X.w eqD) := by
  intro pins s σ H x y v u Q I rx ry ⟨W, dx, dy, d, t, bx, by_, e, q⟩
  simp only [eqD] at e
  split at e
  · rename_i h
    cases e
    simp only [Bool.and_eq_true] at h
    obtain ⟨as, ra⟩ := Rp.reads I _ _ _ bx.now rx
    obtain ⟨bs, rb⟩ := Rp.reads I _ _ _ by_.now ry
    have h1 := okD_of h.1
    have h2 := okD_of h.2
    exact SeqAt.eq_plain ra rb h1.1 h2.1 (by omega) ⟨.bl _, H, I, rfl, q _ _ same_refl (.bl _)⟩
  · cases e
theorem d_ne (hu : X.A.units + 200 < cLine) : OpR X (compareOp .NotEq) (r2 true X.K X.w neD) := by
  intro pins s σ H x y v u Q I rx ry ⟨W, dx, dy, d, t, bx, by_, e, q⟩
  simp only [neD] at e
  split at e
  · rename_i h
    cases e
    simp only [Bool.and_eq_true] at h
    obtain ⟨as, ra⟩ := Rp.reads I _ _ _ bx.now rx
    obtain ⟨bs, rb⟩ := Rp.reads I _ _ _ by_.now ry
    have h1 := okD_of h.1
    have h2 := okD_of h.2
    exact SeqAt.ne_plain ra rb h1.1 h2.1 (by omega) ⟨.bl _, H, I, rfl, q _ _ same_refl (.bl _)⟩
  · cases e
theorem notNone_of {d : PyData} (h : (!isNone d) = true) : d ≠ .none := by rintro rfl; cases h
theorem cmp_of {a b : PyData} (h : cmpOk a b = true) : PySem.W.alike a b = true ∧ a ≠ .none ∧ a.depth ≤ 60 := by
  simp only [cmpOk, Bool.and_eq_true] at h
  exact ⟨h.1.1.1, notNone_of h.1.1.2, (okD_of h.1.2).2⟩
theorem d_lt (hu : X.A.units + 200 < cLine) : OpR X (compareOp .Lt) (r2 true X.K X.w ltD) := by
  intro pins s σ H x y v u Q I rx ry ⟨W, dx, dy, d, t, bx, by_, e, q⟩
  simp only [ltD] at e
  split at e
  · rename_i h
    cases e
    obtain ⟨as, ra⟩ := Rp.reads I _ _ _ bx.now rx
    obtain ⟨bs, rb⟩ := Rp.reads I _ _ _ by_.now ry
    obtain ⟨h1, h2, h3⟩ := cmp_of h
    exact PySem.W.lt_data ra rb h1 h2 (by omega) ⟨.bl _, H, I, rfl, q _ _ same_refl (.bl _)⟩
  · cases e
theorem d_le (hu : X.A.units + 200 < cLine) : OpR X (compareOp .LtE) (r2 true X.K X.w leD) := by
  intro pins s σ H x y v u Q I rx ry ⟨W, dx, dy, d, t, bx, by_, e, q⟩
  simp only [leD] at e
  split at e
  · rename_i h
    cases e
    obtain ⟨as, ra⟩ := Rp.reads I _ _ _ bx.now rx
    obtain ⟨bs, rb⟩ := Rp.reads I _ _ _ by_.now ry
    obtain ⟨h1, h2, h3⟩ := cmp_of h
    exact PySem.W.le_data ra rb h1 h2 (by omega) ⟨.bl _, H, I, rfl, q _ _ same_refl (.bl _)⟩
  · cases e
theorem d_gt (hu : X.A.units + 200 < cLine) : OpR X (compareOp .Gt) (r2 true X.K X.w gtD) := by
  intro pins s σ H x y v u Q I rx ry ⟨W, dx, dy, d, t, bx, by_, e, q⟩
  simp only [gtD] at e
  split at e
  · rename_i h
    cases e
    obtain ⟨as, ra⟩ := Rp.reads I _ _ _ bx.now rx
    obtain ⟨bs, rb⟩ := Rp.reads I _ _ _ by_.now ry
    obtain ⟨h1, h2, h3⟩ := cmp_of h
    exact PySem.W.gt_data ra rb h1 h2 (by omega) ⟨.bl _, H, I, rfl, q _ _ same_refl (.bl _)⟩
  · cases e
theorem d_ge (hu : X.A.units + 200 < cLine) : OpR X (compareOp .GtE) (r2 true X.K X.w geD) := by
  intro pins s σ H x y v u Q I rx ry ⟨W, dx, dy, d, t, bx, by_, e, q⟩
  simp only [geD] at e
  split at e
  · rename_i h
    cases e
    obtain ⟨as, ra⟩ := Rp.reads I _ _ _ bx.now rx
    obtain ⟨bs, rb⟩ := Rp.reads I _ _ _ by_.now ry
    obtain ⟨h1, h2, h3⟩ := cmp_of h
    exact PySem.W.ge_data ra rb h1 h2 (by omega) ⟨.bl _, H, I, rfl, q _ _ same_refl (.bl _)⟩
  · cases e
/-! ### calls -/
theorem d_abs : CallR X (.builtin "abs") (c1 (r1 true X.K X.w absD)) := by
  rintro pins s σ H xs us Q I r ⟨x, rfl, W, dx, d, t, bx, e, q⟩
  cases dx <;> first | (cases e; done) | skip
  case int i =>
    cases e
    obtain rfl := bx.int
    exact call_abs pins s σ H _ us Q I r ⟨i, rfl, q _ _ same_refl (.int _)⟩
theorem d_int : CallR X (.type "int") (c1 (r1 true X.K X.w intD)) := by
  rintro pins s σ H xs us Q I r ⟨x, rfl, W, dx, d, t, bx, e, q⟩
  cases dx <;> first | (cases e; done) | skip
  case int i =>
    cases e
    obtain rfl := bx.int
    exact call_int1 pins s σ H _ us Q I r (.inl ⟨i, rfl, q _ _ same_refl (.int _)⟩)
  case bool b =>
    cases e
    obtain rfl := bx.bl
    exact call_int1 pins s σ H _ us Q I r (.inr ⟨b, rfl, q _ _ same_refl (.int _)⟩)
theorem d_sum (hc : X.calm = true) : CallR X (.builtin "sum") (c1 (r1 true X.K X.w sumD)) := by
  rintro pins s σ H xs us Q I r ⟨x, rfl, W, dx, d, t, bx, e, q⟩
  cases dx <;> first | (cases e; done) | skip
  case list ds =>
    simp only [sumD, Option.map_eq_some_iff] at e
    obtain ⟨ns, e, rfl⟩ := e
    obtain ⟨a, xs, rfl, h1, h2⟩ := bx.lst
    obtain ⟨rfl, _⟩ := h2.ints e
    exact cr_sum hc pins s σ H _ us Q I r ⟨a, ns, rfl, h1, q _ _ same_refl (.int _)⟩
theorem d_any (hc : X.calm = true) : CallR X (.builtin "any") (c1 (r1 true X.K X.w anyD)) := by
  rintro pins s σ H xs us Q I r ⟨x, rfl, W, dx, d, t, bx, e, q⟩
  cases dx <;> first | (cases e; done) | skip
  case list ds =>
    simp only [anyD, Option.map_eq_some_iff] at e
    obtain ⟨ns, e, rfl⟩ := e
    obtain ⟨a, xs, rfl, h1, h2⟩ := bx.lst
    obtain ⟨rfl, _⟩ := h2.bools e
    exact cr_any hc pins s σ H _ us Q I r ⟨a, ns, rfl, h1, q _ _ same_refl (.bl _)⟩
theorem d_all (hc : X.calm = true) : CallR X (.builtin "all") (c1 (r1 true X.K X.w allD)) := by
  rintro pins s σ H xs us Q I r ⟨x, rfl, W, dx, d, t, bx, e, q⟩
  cases dx <;> first | (cases e; done) | skip
  case list ds =>
    simp only [allD, Option.map_eq_some_iff] at e
    obtain ⟨ns, e, rfl⟩ := e
    obtain ⟨a, xs, rfl, h1, h2⟩ := bx.lst
    obtain ⟨rfl, _⟩ := h2.bools e
    exact cr_all hc pins s σ H _ us Q I r ⟨a, ns, rfl, h1, q _ _ same_refl (.bl _)⟩
theorem d_tup : CallR X (.type "tuple") (c1 (r1 true X.K X.w tupD)) := by
  rintro pins s σ H xs us Q I r ⟨x, rfl, W, dx, d, t, bx, e, q⟩
  cases dx <;> first | (cases e; done) | skip
  case list ds =>
    cases e
    obtain ⟨a, xs, rfl, h1, h2⟩ := bx.lst
    exact call_tupF pins s σ H _ us Q I r ⟨a, xs, rfl, .inl ⟨h1, fun l ob hl ho => q _ _ (same_upd hl) (.newT hl ho h2)⟩⟩
  case tuple ds =>
    cases e
    obtain ⟨a, xs, rfl, h1, h2⟩ := bx.tup
    exact call_tupF pins s σ H _ us Q I r ⟨a, xs, rfl, .inr ⟨h1.1, q _ _ same_refl (.imm (.tup h1 h2) rfl)⟩⟩
theorem d_min2 (hc : X.calm = true) : CallR X (.builtin "min") (c2 (r2 true X.K X.w (u2 .min))) := by
  rintro pins s σ H xs us Q I r ⟨x, y, rfl, W, dx, dy, d, t, bx, by_, e, q⟩
  cases dx <;> cases dy <;> first | (cases e; done) | skip
  case int.int a b =>
    cases e
    obtain rfl := bx.int
    obtain rfl := by_.int
    exact call_min2 hc pins s σ H _ us Q I r ⟨a, b, rfl, q _ _ same_refl (.int _)⟩
theorem d_max2 (hc : X.calm = true) : CallR X (.builtin "max") (c2 (r2 true X.K X.w (u2 .max))) := by
  rintro pins s σ H xs us Q I r ⟨x, y, rfl, W, dx, dy, d, t, bx, by_, e, q⟩
  cases dx <;> cases dy <;> first | (cases e; done) | skip
  case int.int a b =>
    cases e
    obtain rfl := bx.int
    obtain rfl := by_.int
    exact call_max2 hc pins s σ H _ us Q I r ⟨a, b, rfl, q _ _ same_refl (.int _)⟩
theorem d_isa {ty : Ty} {T : String} (hT : (match ty with | .int => "int" | .bool => "bool" | .str => "str" | .tup => "tuple" | .lst => "list" | .dict => "dict") = T) : CallR X (.builtin "isinstance") (fun xs H Q => ∃ x, xs = [x, .ty T] ∧ r1 true X.K X.w (u1 (.isa ty)) x H Q) := by
  intro pins s σ H xs us Q I r ⟨x, e1, W, dx, d, t, bx, e, q⟩
  subst e1
  obtain ⟨u, u', rfl, ru, ru'⟩ := Vals.two r
  cases ru'
  obtain ⟨as, ra⟩ := Rp.reads I _ _ _ bx.now ru
  subst hT
  cases e
  cases ty
  · exact PySem.W.isinstance_int_data ra fun tk _ => ⟨.bl _, H, I.tok tk, rfl, q _ _ same_refl (.bl _)⟩
  · exact PySem.W.isinstance_bool_data ra fun tk _ => ⟨.bl _, H, I.tok tk, rfl, q _ _ same_refl (.bl _)⟩
  · exact PySem.W.isinstance_str_data ra fun tk _ => ⟨.bl _, H, I.tok tk, rfl, q _ _ same_refl (.bl _)⟩
  · exact PySem.W.isinstance_tuple_data ra fun tk _ => ⟨.bl _, H, I.tok tk, rfl, q _ _ same_refl (.bl _)⟩
  · exact PySem.W.isinstance_list_data ra fun tk _ => ⟨.bl _, H, I.tok tk, rfl, q _ _ same_refl (.bl _)⟩
  · exact PySem.W.isinstance_dict_data ra fun tk _ => ⟨.bl _, H, I.tok tk, rfl, q _ _ same_refl (.bl _)⟩
end
end RW
/-! Dicts over data. -/
namespace RW
open PySem PySem.Spec PyProof.Rows L2
section
variable {X : Cx} {pins : List (Addr × Obj)} {σ : L2.St} {H : Hp} {s : Shared} {W : Addr → Prop}
/-- a datum that is a key stands as such a key in the heap -/
theorem nested_of (I : Inv X pins σ H s) : ∀ (d : PyData) (v : V) (u : Value) (n : NestedKey), Rp X.K X.w H W v d → RelV v u → nkey d = some n → NestedIs s.heap n u
  | .none, _, _, _, h, r, e => by cases h; cases r; cases e; exact .none
  | .bool b, _, _, _, h, r, e => by cases h; cases r; cases e; exact .bool rfl
  | .int i, _, _, _, h, r, e => by cases h; obtain ⟨t, rfl⟩ := r; cases e; exact .int _ _
  | .str x, _, _, _, h, r, e => by cases h; obtain ⟨t, rfl⟩ := r; cases e; exact .text _ _
  | .tuple ds, _, _, n, h, r, e => by
    cases h with
    | tup h1 h2 =>
      cases r
      obtain ⟨its, rv, ⟨o, ho, hc, m, hd⟩, _⟩ := I.tuple h1.1
      simp only [nkey, Option.map_eq_some_iff] at e
      obtain ⟨ns, e, rfl⟩ := e
      exact .tup ho hc hd (go ds _ its ns h2 rv e)
  | .list _, _, _, _, _, _, e => by cases e
  | .dict _, _, _, _, _, _, e => by cases e
where go : ∀ (ds : List PyData) (vs : List V) (us : List Value) (ns : List NestedKey), Rps X.K X.w H W vs ds → Vals vs us → nkey.nkeys ds = some ns → NestedAll s.heap ns us
  | [], _, _, _, h, r, e => by cases h; cases r; cases e; exact .nil
  | d :: ds, _, _, ns, h, r, e => by
    cases h with
    | cons h1 h2 =>
      cases r with
      | cons r1 r2 =>
        simp only [nkey.nkeys] at e
        split at e
        · rename_i k ks e1 e2
          cases e
          exact .cons (nested_of I d _ _ _ h1 r1 e1) (go ds _ _ _ h2 r2 e2)
        · cases e
def leafOf : PyData → Option Key
  | .int i => some (.inl i)
  | .str x => some (.inr x)
  | _ => none
def keyN : Key → NestedKey
  | .inl i => .num i
  | .inr x => .text x
theorem keyN_inj : ∀ {a b : Key}, keyN a = keyN b → a = b
  | .inl _, .inl _, e => by cases e; rfl
  | .inr _, .inr _, e => by cases e; rfl
  | .inl _, .inr _, e => by cases e
  | .inr _, .inl _, e => by cases e
def keyD : Key → PyData
  | .inl i => .int i
  | .inr x => .str x
theorem leaf_of {K : PySem.W.Frag} {w : World} {d : PyData} {v : V} {u : Value} (h : Rp K w H W v d) (r : RelV v u) (hn : isLeafD d = true) : ∃ l : Key, d = keyD l ∧ nkey d = some (keyN l) ∧ keyIs l u = true := by
  cases h with
  | int i => obtain ⟨t, rfl⟩ := r; exact ⟨.inl i, rfl, rfl, keyIs_int i t⟩
  | str x => obtain ⟨t, rfl⟩ := r; exact ⟨.inr x, rfl, rfl, keyIs_str x t⟩
  | _ => cases hn
theorem keyN_hash (w : World) (l : Key) : (keyN l).hash w = keyH w l := by cases l <;> rfl
theorem keyN_depth (l : Key) : (keyN l).depth ≤ 8 := by cases l <;> (simp [keyN, NestedKey.depth])
theorem leaf_rp {K : PySem.W.Frag} {w : World} {l : Key} {u : Value} (h : keyIs l u = true) : ∃ v, RelV v u ∧ Rp K w H W v (keyD l) := by
  rcases keyIs_shape h with ⟨i, t, rfl, rfl⟩ | ⟨x, t, rfl, rfl⟩
  · exact ⟨.int i, ⟨t, rfl⟩, .int i⟩
  · exact ⟨.str x, ⟨t, rfl⟩, .str x⟩
/-- entry by entry -/
def EntR (K : PySem.W.Frag) (w : World) (H : Hp) (W : Addr → Prop) (e : DictEntry) (p : PyData × PyData) : Prop :=
  ∃ kz vz n, RelV kz e.key ∧ Rp K w H W kz p.1 ∧ RelV vz e.val ∧ Rp K w H W vz p.2 ∧ nkey p.1 = some n ∧ n.depth ≤ 8 ∧ e.hash = n.hash w
open PySem.W (EachIs)
theorem each_of {K : PySem.W.Frag} {w : World} : ∀ (es : List DictEntry) (kvs : List (PyData × PyData)) (ks vs : List V), Vals ks (es.map (·.key)) → Vals vs (es.map (·.val)) → Rps K w H W ks (kvs.map Prod.fst) → Rps K w H W vs (kvs.map Prod.snd) →
    (∀ (i : Nat) (e : DictEntry), es[i]? = some e → ∃ p k, kvs[i]? = some p ∧ nkey p.1 = some k ∧ k.depth ≤ 8 ∧ e.hash = k.hash w) → EachIs (EntR K w H W) es kvs
  | [], [], _, _, _, _, _, _, _ => .nil
  | [], p :: kvs, _, _, h1, _, h3, _, _ => by cases h1; cases h3
  | e :: es, [], _, _, h1, _, h3, _, _ => by cases h3; cases h1
  | e :: es, p :: kvs, _, _, h1, h2, h3, h4, h5 => by
    cases h1 with
    | cons a1 b1 =>
      cases h2 with
      | cons a2 b2 =>
        cases h3 with
        | cons a3 b3 =>
          cases h4 with
          | cons a4 b4 =>
            obtain ⟨q, k, e1, e2, e3, e4⟩ := h5 0 e rfl
            cases e1
            exact .cons ⟨_, _, k, a1, a3, a2, a4, e2, e3, e4⟩ (each_of es kvs _ _ b1 b2 b3 b4 fun i e h => by simpa using h5 (i + 1) e (by simpa using h))
theorem EntR.mono {K : PySem.W.Frag} {w : World} {H' : Hp} {W' : Addr → Prop} (k : Kept W H H') (t : KeptT H H') (c : ∀ a, W' a → ¬ W a → H a = none) {e : DictEntry} {p : PyData × PyData} (h : EntR K w H W e p) : EntR K w H' W' e p := by
  obtain ⟨kz, vz, n, a, b, c1, d, r⟩ := h
  exact ⟨kz, vz, n, a, Rp.mono k t c _ _ b, c1, Rp.mono k t c _ _ d, r⟩
/-- back -/
theorem of_each {K : PySem.W.Frag} {w : World} : ∀ {es : List DictEntry} {kvs : List (PyData × PyData)}, EachIs (EntR K w H W) es kvs →
    ∃ ks vs, Vals ks (es.map (·.key)) ∧ Vals vs (es.map (·.val)) ∧ Rps K w H W ks (kvs.map Prod.fst) ∧ Rps K w H W vs (kvs.map Prod.snd) ∧
      (∀ (i : Nat) (e : DictEntry), es[i]? = some e → ∃ p k, kvs[i]? = some p ∧ nkey p.1 = some k ∧ k.depth ≤ 8 ∧ e.hash = k.hash w)
  | [], [], .nil => ⟨[], [], .nil, .nil, .nil, .nil, fun i e h => by simp at h⟩
  | e :: es, p :: kvs, .cons ⟨kz, vz, n, a, b, c, d, e1, e2, e3⟩ t => by
    obtain ⟨ks, vs, h1, h2, h3, h4, h5⟩ := of_each t
    refine ⟨kz :: ks, vz :: vs, .cons a h1, .cons c h2, .cons b h3, .cons d h4, fun i e' h => ?_⟩
    cases i with
    | zero => cases h; exact ⟨p, n, rfl, e1, e2, e3⟩
    | succ i => simpa using h5 i e' (by simpa using h)
/-- a dict's object and its entries -/
structure DAt (K : PySem.W.Frag) (w : World) (H : Hp) (W : Addr → Prop) (a : Addr) (o : Obj) (es : Array DictEntry) (kvs : List (PyData × PyData)) : Prop where
  f : DFact w a o es kvs
  e : EachIs (EntR K w H W) es.toList kvs
theorem RB.dat {K : PySem.W.Frag} {w : World} {v : V} {kvs : List (PyData × PyData)} (h : RB K w H W v (.dict kvs)) : ∃ a o es, v = .ref a ∧ H a = some (DO a o) ∧ DAt K w H W a o es kvs := by
  obtain ⟨a, o, es, ks, vs, rfl, h1, h2, h3, h4, h5, h6⟩ := h.dic
  refine ⟨a, o, es, rfl, h1, h2, each_of _ _ _ _ h3 h4 h5 h6 fun i e q => h2.hs i e ?_⟩
  rw [← Array.getElem?_toList]
  exact q
theorem DAt.ct {K : PySem.W.Frag} {w : World} {a : Addr} {o : Obj} {es : Array DictEntry} {kvs : List (PyData × PyData)} (d : DAt K w H W a o es kvs) (h : H a = some (DO a o)) : Ct K w H W a (.dict kvs) := by
  obtain ⟨ks, vs, h1, h2, h3, h4, h5⟩ := of_each d.e
  exact .dic h d.f h1 h2 h3 h4
theorem EachIs.length {α β : Type} {R : α → β → Prop} : ∀ {as : List α} {bs : List β}, EachIs R as bs → as.length = bs.length
  | _, _, .nil => rfl
  | _, _, .cons _ t => by simp [EachIs.length t]
theorem EachIs.get {α β : Type} {R : α → β → Prop} : ∀ {as : List α} {bs : List β} {i : Nat} {b : β}, EachIs R as bs → bs[i]? = some b → ∃ a, as[i]? = some a ∧ R a b
  | _, _, i, b, .nil, e => by simp at e
  | _, _, 0, b, .cons r t, e => by simp at e; subst e; exact ⟨_, rfl, r⟩
  | _, _, i + 1, b, .cons r t, e => by
    obtain ⟨a, h1, h2⟩ := EachIs.get (i := i) t (by simpa using e)
    exact ⟨a, by simpa using h1, h2⟩
theorem DAt.len {K : PySem.W.Frag} {w : World} {a : Addr} {o : Obj} {es : Array DictEntry} {kvs : List (PyData × PyData)} (d : DAt K w H W a o es kvs) : es.size = kvs.length := by
  rw [← EachIs.length d.e, Array.length_toList]
theorem DAt.sz {K : PySem.W.Frag} {w : World} {a : Addr} {o : Obj} {es : Array DictEntry} {kvs : List (PyData × PyData)} (d : DAt K w H W a o es kvs) : kvs.length ≤ sizeLine := by
  rw [← d.len]; exact d.f.sz
theorem DAt.raw {K : PySem.W.Frag} {w : World} {a : Addr} {o : Obj} {es : Array DictEntry} {kvs : List (PyData × PyData)} (d : DAt K w H W a o es kvs) {h : Heap} (ho : h.get? a = some o) : ∃ ep, h.DictRaw a es ep :=
  let ⟨ep, e⟩ := d.f.da
  ⟨ep, o, ho, d.f.ex, e⟩
theorem DAt.nil {K : PySem.W.Frag} {w : World} {a : Addr} (hs : (a == sysModules) = false) : DAt K w H W a { cls := .type "dict", data := .dict #[] } #[] [] :=
  ⟨⟨⟨rfl, rfl, rfl⟩, ⟨0, rfl⟩, hs, by show 0 ≤ sizeLine; exact Nat.zero_le _, fun i e h => by simp at h, List.nodup_nil, .inl fun p h => by cases h⟩, .nil⟩

/-! the raw dict, keys by value -/
def LR (K : PySem.W.Frag) (w : World) (H : Hp) (W : Addr → Prop) (q : Key × Value) (p : PyData × PyData) : Prop := p.1 = keyD q.1 ∧ nkey p.1 = some (keyN q.1) ∧ ∃ vz, RelV vz q.2 ∧ Rp K w H W vz p.2
theorem leafPairs {K : PySem.W.Frag} {P : Program} {w : World} : ∀ {es : List DictEntry} {kvs : List (PyData × PyData)}, EachIs (EntR K w H W) es kvs → (∀ p ∈ kvs, isLeafD p.1 = true) →
    ∃ ls : List (Key × Value), Pairs (mixKind P w) es ls ∧ EachIs (LR K w H W) ls kvs ∧ (∀ e ∈ es, ∃ k, (mixKind P w).is k e.key = true ∧ e.hash = (mixKind P w).hash k)
  | _, _, .nil, _ => ⟨[], .nil, .nil, fun e h => by cases h⟩
  | _, _, .cons (a := e) (b := p) ⟨kz, vz, n, a, b, c, d, e1, e2, e3⟩ t, hk => by
    obtain ⟨ls, h1, h2, h3⟩ := leafPairs (P := P) t fun q hq => hk q (List.mem_cons_of_mem _ hq)
    obtain ⟨l, g1, g2, g3⟩ := leaf_of b a (hk p List.mem_cons_self)
    refine ⟨(l, e.val) :: ls, .cons g3 rfl h1, .cons ⟨g1, g2, vz, c, d⟩ h2, fun e' he => ?_⟩
    rcases List.mem_cons.mp he with rfl | he
    · rw [e1] at g2
      cases g2
      exact ⟨l, g3, by rw [e3, keyN_hash]; rfl⟩
    · exact h3 e' he
theorem nodup_leaf {R : (Key × Value) → (PyData × PyData) → Prop} (hR : ∀ q p, R q p → nkey p.1 = some (keyN q.1)) : ∀ {ls : List (Key × Value)} {kvs : List (PyData × PyData)}, EachIs R ls kvs → (kvs.map fun p => nkey p.1) = ls.map fun q => some (keyN q.1)
  | _, _, .nil => rfl
  | _, _, .cons (a := q) (b := p) (as := ls) (bs := kvs) r t => by rw [List.map_cons, List.map_cons, nodup_leaf hR t, hR _ _ r]
theorem nodup_map_of {α β : Type} {f : α → β} : ∀ {l : List α}, (l.map f).Nodup → l.Nodup
  | [], _ => List.nodup_nil
  | a :: l, h => by
    rw [List.map_cons, List.nodup_cons] at h
    exact List.nodup_cons.mpr ⟨fun m => h.1 (List.mem_map_of_mem m), nodup_map_of h.2⟩
theorem nodup_map_inj {α β : Type} {f : α → β} (hf : ∀ a b, f a = f b → a = b) : ∀ {l : List α}, l.Nodup → (l.map f).Nodup
  | [], _ => List.nodup_nil
  | a :: l, h => by
    rw [List.nodup_cons] at h
    rw [List.map_cons, List.nodup_cons]
    refine ⟨fun m => ?_, nodup_map_inj hf h.2⟩
    obtain ⟨b, hb, e⟩ := List.mem_map.mp m
    exact h.1 (hf _ _ e ▸ hb)
theorem LR.nk {K : PySem.W.Frag} {w : World} (q : Key × Value) (p : PyData × PyData) (r : LR K w H W q p) : nkey p.1 = some (keyN q.1) := r.2.1
theorem DAt.leaf {K : PySem.W.Frag} {P : Program} {w : World} {a : Addr} {o : Obj} {es : Array DictEntry} {kvs : List (PyData × PyData)} (d : DAt K w H W a o es kvs) (hk : ∀ p ∈ kvs, isLeafD p.1 = true) {h : Heap} (ho : h.get? a = some o) :
    ∃ ls : List (Key × Value), h.DictOf (mixKind P w) a ls ∧ EachIs (LR K w H W) ls kvs := by
  obtain ⟨ls, h1, h2, h3⟩ := leafPairs (P := P) d.e hk
  obtain ⟨ep, e⟩ := d.f.da
  refine ⟨ls, ⟨o, es, ep, ho, d.f.ex, e, fun e he => h3 e (by simpa using he), h1, ?_⟩, h2⟩
  have nd := d.f.nd
  rw [nodup_leaf LR.nk h2] at nd
  exact nodup_map_of (f := fun l => some (keyN l)) (by rw [List.map_map]; exact nd)

/-! .. and keys that are tuples -/
theorem tupPairs (I : Inv X pins σ H s) : ∀ {es : List DictEntry} {kvs : List (PyData × PyData)}, EachIs (EntR X.K X.w H W) es kvs → (∀ p ∈ kvs, isTupD p.1 = true) →
    ∃ xs : List (NestedKey × Addr × Value), es = xs.map (entryOfKey (nestedKind X.prog X.w)) ∧ (∀ x ∈ xs, (nestedKind X.prog X.w).is s.heap x.1 x.2.1) ∧
      EachIs (fun (q : NestedKey × Addr × Value) (p : PyData × PyData) => nkey p.1 = some q.1 ∧ Rp X.K X.w H W (.ref q.2.1) p.1 ∧ ∃ vz, RelV vz q.2.2 ∧ Rp X.K X.w H W vz p.2) xs kvs
  | _, _, .nil, _ => ⟨[], rfl, (fun x h => by cases h), .nil⟩
  | _, _, .cons (a := e) (b := p) ⟨kz, vz, n, a, b, c, d, e1, e2, e3⟩ t, hk => by
    obtain ⟨xs, h1, h2, h3⟩ := tupPairs I t fun q hq => hk q (List.mem_cons_of_mem _ hq)
    have ht := hk p List.mem_cons_self
    have nn := nested_of I _ _ _ _ b a e1
    cases hp : p.1 with
    | tuple ds =>
      rw [hp] at b
      cases b with
      | tup g1 g2 =>
        rename_i ad xs'
        have ek : e.key = .ref ad := a
        refine ⟨(n, ad, e.val) :: xs, ?_, fun x hx => ?_, .cons ⟨e1, by rw [hp]; exact .tup g1 g2, vz, c, d⟩ h3⟩
        · rw [List.map_cons, ← h1]
          congr 1
          show e = ⟨n.hash X.w, .ref ad, e.val⟩
          rw [← e3, ← ek]
        · rcases List.mem_cons.mp hx with rfl | hx
          · rw [ek] at nn
            exact ⟨nn, e2⟩
          · exact h2 x hx
    | _ => rw [hp] at ht; cases ht
end
end RW
/-! Dicts asked, stored, made. -/
namespace RW
open PySem PySem.Spec PyProof.Rows L2
open PySem.W (EachIs)
theorem find_each {α β : Type} {R : α → β → Prop} {f : α → Bool} {g : β → Bool} (hfg : ∀ a b, R a b → f a = g b) : ∀ {as : List α} {bs : List β}, EachIs R as bs →
    (∀ b, bs.find? g = some b → ∃ a, as.find? f = some a ∧ R a b) ∧ (bs.find? g = none → as.find? f = none)
  | _, _, .nil => ⟨fun b h => (by cases h), fun _ => rfl⟩
  | _, _, .cons (a := a) (b := b) (as := as) (bs := bs) r t => by
    obtain ⟨i1, i2⟩ := find_each hfg t
    rw [List.find?_cons, List.find?_cons, hfg a b r]
    cases g b with
    | true => exact ⟨fun c h => by cases h; exact ⟨a, rfl, r⟩, fun h => by cases h⟩
    | false => exact ⟨i1, i2⟩
theorem keyOk_of {kvs : List (PyData × PyData)} {k : PyData} (h : keyOk kvs k = true) : ∃ n, nkey k = some n ∧ n.depth ≤ 8 ∧ ((isTupD k = true ∧ ∀ p ∈ kvs, isTupD p.1 = true) ∨ (isLeafD k = true ∧ ∀ p ∈ kvs, isLeafD p.1 = true)) := by
  simp only [keyOk, Bool.and_eq_true] at h
  obtain ⟨h1, h2⟩ := h
  cases hn : nkey k with
  | none => rw [hn] at h1; cases h1
  | some n =>
    rw [hn] at h1
    refine ⟨n, rfl, of_decide_eq_true h1, ?_⟩
    cases ht : isTupD k with
    | true => rw [ht] at h2; exact .inl ⟨rfl, by simpa using h2⟩
    | false =>
      rw [ht] at h2
      simp only [Bool.false_eq_true, if_false, Bool.and_eq_true, List.all_eq_true] at h2
      exact .inr h2
theorem dgetD_isSome (kvs : List (PyData × PyData)) (k : PyData) : (dgetD kvs k).isSome = kvs.any (keyEq k) := by
  unfold dgetD
  induction kvs with
  | nil => rfl
  | cons p kvs ih =>
    rw [List.find?_cons, List.any_cons]
    cases keyEq k p with
    | true => rfl
    | false => simpa using ih
section
variable {X : Cx} {pins : List (Addr × Obj)} {σ : L2.St} {H : Hp} {s : Shared} {W : Addr → Prop}
def TR (K : PySem.W.Frag) (w : World) (H : Hp) (W : Addr → Prop) (q : NestedKey × Addr × Value) (p : PyData × PyData) : Prop :=
  nkey p.1 = some q.1 ∧ Rp K w H W (.ref q.2.1) p.1 ∧ ∃ vz, RelV vz q.2.2 ∧ Rp K w H W vz p.2
theorem DAt.tup (I : Inv X pins σ H s) {a : Addr} {o : Obj} {es : Array DictEntry} {kvs : List (PyData × PyData)} (d : DAt X.K X.w H W a o es kvs) (hk : ∀ p ∈ kvs, isTupD p.1 = true) (ho : s.heap.get? a = some o) :
    ∃ xs : List (NestedKey × Addr × Value), s.heap.DictOfH (nestedKind X.prog X.w) a xs ∧ EachIs (TR X.K X.w H W) xs kvs := by
  obtain ⟨xs, h1, h2, h3⟩ := tupPairs I d.e hk
  obtain ⟨ep, e⟩ := d.f.da
  refine ⟨xs, ⟨o, es, ep, ho, d.f.ex, e, h1, h2, ?_⟩, h3⟩
  have go : ∀ {xs : List (NestedKey × Addr × Value)} {kvs : List (PyData × PyData)}, EachIs (TR X.K X.w H W) xs kvs → (kvs.map fun p => nkey p.1) = xs.map fun q => some q.1 := by
    intro xs kvs t
    induction t with
    | nil => rfl
    | cons r t ih => rw [List.map_cons, List.map_cons, ih, r.1]
  have nd := d.f.nd
  rw [go h3] at nd
  exact nodup_map_of (f := some) (by rw [List.map_map]; exact nd)
/-- a dict and a key that may be asked of it: both sides -/
inductive Ask (X : Cx) (s : Shared) (H : Hp) (W : Addr → Prop) (a : Addr) (kvs : List (PyData × PyData)) (k : PyData) (u : Value) : Prop
  | leaf (ls : List (Key × Value)) (l : Key) (hd : s.heap.DictOf (mixKind X.prog X.w) a ls) (hu : keyIs l u = true) (he : EachIs (LR X.K X.w H W) ls kvs) (hn : nkey k = some (keyN l)) (hk : k = keyD l) (ha : ∀ p ∈ kvs, isLeafD p.1 = true)
  | tup (xs : List (NestedKey × Addr × Value)) (n : NestedKey) (b : Addr) (hu : u = .ref b) (hd : s.heap.DictOfH (nestedKind X.prog X.w) a xs) (hb : (nestedKind X.prog X.w).is s.heap n b) (he : EachIs (TR X.K X.w H W) xs kvs) (hn : nkey k = some n) (hk : isTupD k = true) (ha : ∀ p ∈ kvs, isTupD p.1 = true)
theorem ask (I : Inv X pins σ H s) {x y : V} {kvs : List (PyData × PyData)} {k : PyData} {u : Value} (bx : RB X.K X.w H W x (.dict kvs)) (by_ : RB X.K X.w H W y k) (ru : RelV y u) (ok : keyOk kvs k = true) :
    ∃ a o es, x = .ref a ∧ H a = some (DO a o) ∧ DAt X.K X.w H W a o es kvs ∧ s.heap.get? a = some o ∧ Ask X s H W a kvs k u := by
  obtain ⟨a, o, es, rfl, h1, d⟩ := bx.dat
  have ho := do_get I h1
  refine ⟨a, o, es, rfl, h1, d, ho, ?_⟩
  obtain ⟨n, hn, hd, ⟨ht, hk⟩ | ⟨ht, hk⟩⟩ := keyOk_of ok
  · obtain ⟨xs, g1, g2⟩ := d.tup I hk ho
    cases k with
    | tuple ds =>
      obtain ⟨b, ys, rfl, q1, q2⟩ := by_.tup
      cases ru
      exact .tup xs n b rfl g1 ⟨nested_of I _ _ _ _ by_.now rfl hn, hd⟩ g2 hn ht hk
    | _ => cases ht
  · obtain ⟨ls, g1, g2⟩ := d.leaf (P := X.prog) hk ho
    obtain ⟨l, e1, e2, e3⟩ := leaf_of by_.now ru ht
    exact .leaf ls l g1 e3 g2 e2 e1 hk
theorem leafGet {K : PySem.W.Frag} {w : World} {ls : List (Key × Value)} {kvs : List (PyData × PyData)} {l : Key} {k : PyData} (he : EachIs (LR K w H W) ls kvs) (hn : nkey k = some (keyN l)) :
    (∀ d, dgetD kvs k = some d → ∃ v vz, valueAt ls l = some v ∧ RelV vz v ∧ Rp K w H W vz d) ∧ (dgetD kvs k = none → valueAt ls l = none) := by
  obtain ⟨i1, i2⟩ := find_each (f := fun q : Key × Value => decide (q.1 = l)) (g := keyEq k) (fun q p r => by
    unfold keyEq
    rw [r.2.1, hn]
    by_cases e : q.1 = l
    · rw [e]; simp
    · rw [decide_eq_false e, decide_eq_false fun z => e (keyN_inj (Option.some.inj z))]) he
  refine ⟨fun d h => ?_, fun h => ?_⟩
  · unfold dgetD at h
    cases hf : kvs.find? (keyEq k) with
    | none => rw [hf] at h; cases h
    | some p =>
      rw [hf] at h
      cases h
      obtain ⟨q, g1, _, _, vz, g2, g3⟩ := i1 p hf
      exact ⟨q.2, vz, by unfold valueAt; rw [g1]; rfl, g2, g3⟩
  · unfold dgetD at h
    cases hf : kvs.find? (keyEq k) with
    | none => unfold valueAt; rw [i2 hf]; rfl
    | some p => rw [hf] at h; cases h
theorem tupGet {K : PySem.W.Frag} {w : World} {xs : List (NestedKey × Addr × Value)} {kvs : List (PyData × PyData)} {n : NestedKey} {k : PyData} (he : EachIs (TR K w H W) xs kvs) (hn : nkey k = some n) :
    (∀ d, dgetD kvs k = some d → ∃ p vz, atKey xs n = some p ∧ RelV vz p.2 ∧ Rp K w H W vz d) ∧ (dgetD kvs k = none → atKey xs n = none) := by
  obtain ⟨i1, i2⟩ := find_each (f := fun q : NestedKey × Addr × Value => decide (q.1 = n)) (g := keyEq k) (fun q p r => by
    unfold keyEq
    rw [r.1, hn]
    by_cases e : q.1 = n
    · rw [e]; simp
    · rw [decide_eq_false e, decide_eq_false fun z => e (Option.some.inj z)]) he
  refine ⟨fun d h => ?_, fun h => ?_⟩
  · unfold dgetD at h
    cases hf : kvs.find? (keyEq k) with
    | none => rw [hf] at h; cases h
    | some p =>
      rw [hf] at h
      cases h
      obtain ⟨q, g1, _, _, vz, g2, g3⟩ := i1 p hf
      exact ⟨q.2, vz, by unfold atKey; rw [g1]; rfl, g2, g3⟩
  · unfold dgetD at h
    cases hf : kvs.find? (keyEq k) with
    | none => unfold atKey; rw [i2 hf]; rfl
    | some p => rw [hf] at h; cases h
theorem room_nested {A : Around} (hu : A.units + 200 < cLine) : (nestedKind X.prog X.w).room A.in1 := by
  show A.in1.units + 8 < cLine
  rw [Around.in1_units]
  omega
def ixDict : PyData → PyData → Option PyData
  | .dict kvs, k => if keyOk kvs k then dgetD kvs k else none
  | _, _ => none
theorem ix_dict (hu : X.A.units + 200 < cLine) : IxR X (r2 false X.K X.w ixDict) := by
  intro value slice pins s σ H x y v u Q I rx ry ⟨W, dx, dy, d, t, bx, by_, e, q⟩ hs
  cases dx <;> first | (cases e; done) | skip
  case dict kvs =>
    simp only [ixDict] at e
    split at e
    · rename_i ok
      obtain ⟨a, o, es, rfl, h1, dd, ho, A⟩ := ask I bx by_ ry ok
      cases rx
      cases A with
      | leaf ls l hd hu he hn hk ha =>
        obtain ⟨w', vz, g1, g2, g3⟩ := (leafGet he hn).1 d e
        exact tail_any hd.mapOf.typeIs slot_dict_getitem.lookup (wpAny_getItem_of hu hd.mapOf g1 ⟨vz, H, I.tok _, g2, q _ _ same_refl (.old g3)⟩) hs
      | tup xs n b hb hd hi he hn hk ha =>
        subst hb
        obtain ⟨p, vz, g1, g2, g3⟩ := (tupGet he hn).1 d e
        exact tail_any hd.typeIs slot_dict_getitem.lookup (wpAny_getItem_heap (room_nested hu) hi hd g1 ⟨vz, H, I.tok _, g2, q _ _ same_refl (.old g3)⟩) hs
    · cases e
def inDict (x c : PyData) : Option Bool :=
  match c with
  | .dict kvs => if keyOk kvs x then some (kvs.any (keyEq x)) else none
  | _ => none
theorem in_dict (hu : X.A.units + 200 < cLine) : OpR X (compareOp .In) (r2 true X.K X.w fun x c => (inDict x c).map .bool) := by
  intro pins s σ H x y v u Q I rx ry ⟨W, dx, dy, d, t, bx, by_, e, q⟩
  cases dy <;> first | (cases e; done) | skip
  case dict kvs =>
    simp only [inDict] at e
    split at e
    · rename_i ok
      cases e
      obtain ⟨a, o, es, rfl, h1, dd, ho, A⟩ := ask I by_ bx rx ok
      cases ry
      rw [← dgetD_isSome] at q
      cases A with
      | leaf ls l hd hu he hn hk ha =>
        refine wpAny_in_of hu dd.f.sm hd.mapOf ⟨.bl _, H, I.tok _, rfl, ?_⟩
        cases hg : dgetD kvs dx with
        | none => rw [(leafGet he hn).2 hg]; rw [hg] at q; exact q _ _ same_refl (.bl _)
        | some d' =>
          obtain ⟨_, _, g, _⟩ := (leafGet he hn).1 d' hg
          rw [g]; rw [hg] at q; exact q _ _ same_refl (.bl _)
      | tup xs n b hb hd hi he hn hk ha =>
        subst hb
        refine wpAny_in_heap (room_nested hu) hi dd.f.sm hd ⟨.bl _, H, I.tok _, rfl, ?_⟩
        cases hg : dgetD kvs dx with
        | none => rw [(tupGet he hn).2 hg]; rw [hg] at q; exact q _ _ same_refl (.bl _)
        | some d' =>
          obtain ⟨_, _, g, _⟩ := (tupGet he hn).1 d' hg
          rw [g]; rw [hg] at q; exact q _ _ same_refl (.bl _)
    · cases e
theorem notin_dict (hu : X.A.units + 200 < cLine) : OpR X (compareOp .NotIn) (r2 true X.K X.w fun x c => (inDict x c).map fun b => .bool !b) := by
  intro pins s σ H x y v u Q I rx ry ⟨W, dx, dy, d, t, bx, by_, e, q⟩
  cases dy <;> first | (cases e; done) | skip
  case dict kvs =>
    simp only [inDict] at e
    split at e
    · rename_i ok
      cases e
      obtain ⟨a, o, es, rfl, h1, dd, ho, A⟩ := ask I by_ bx rx ok
      cases ry
      rw [← dgetD_isSome] at q
      cases A with
      | leaf ls l hd hu he hn hk ha =>
        refine wpAny_notIn_of hu dd.f.sm hd.mapOf ⟨.bl _, H, I.tok _, rfl, ?_⟩
        cases hg : dgetD kvs dx with
        | none => rw [(leafGet he hn).2 hg]; rw [hg] at q; exact q _ _ same_refl (.bl _)
        | some d' =>
          obtain ⟨_, _, g, _⟩ := (leafGet he hn).1 d' hg
          rw [g]; rw [hg] at q; exact q _ _ same_refl (.bl _)
      | tup xs n b hb hd hi he hn hk ha =>
        subst hb
        refine wpAny_notIn_heap (room_nested hu) hi dd.f.sm hd ⟨.bl _, H, I.tok _, rfl, ?_⟩
        cases hg : dgetD kvs dx with
        | none => rw [(tupGet he hn).2 hg]; rw [hg] at q; exact q _ _ same_refl (.bl _)
        | some d' =>
          obtain ⟨_, _, g, _⟩ := (tupGet he hn).1 d' hg
          rw [g]; rw [hg] at q; exact q _ _ same_refl (.bl _)
    · cases e
/-- d.get(k) -/
def r3 (fr : Bool) (K : PySem.W.Frag) (w : World) (g : PyData → PyData → PyData → Option PyData) : V → V → V → Hp → VK → Prop := fun x y z H Q =>
  ∃ W dx dy dz d, Wt H W ∧ RB K w H W x dx ∧ RB K w H W y dy ∧ Rp K w H W z dz ∧ g dx dy dz = some d ∧ ∀ v H', Same H H' → Pst fr K w W H H' v d → Q v H'
def getD3 (x y z : PyData) : Option PyData := match x with
  | .dict kvs => if keyOk kvs y then some ((dgetD kvs y).getD z) else none
  | _ => none
theorem mt_get1 (hu : X.A.units + 200 < cLine) : MtR X "dict.get" (fun x xs H Q => ∃ y, xs = [y] ∧ r2 false X.K X.w (fun x y => getD3 x y .none) x y H Q) := by
  rintro pins s σ H x xs v us Q I rx r ⟨y, rfl, W, dx, dy, d, t, bx, by_, e, q⟩
  obtain ⟨u, rfl, ry⟩ := Vals.one r
  cases dx <;> first | (cases e; done) | skip
  case dict kvs =>
    simp only [getD3] at e
    split at e
    · rename_i ok
      cases e
      obtain ⟨a, o, es, rfl, h1, dd, ho, A⟩ := ask I bx by_ ry ok
      cases rx
      cases A with
      | leaf ls l hd hu he hn hk ha =>
        refine call_meetsIn PySem.F.slot_dict_get hd.mapOf.typeIs PySem.F.entry_dict_get (PySem.F.args_dict_get_2 _ _) (meets_dict_get (mixKind X.prog X.w) a hu dd.f.sm) ⟨_, hd.mapOf, ?_⟩
        cases hg : dgetD kvs dy with
        | none => rw [(leafGet he hn).2 hg]; rw [hg] at q; exact ⟨.non, H, I.tok _, rfl, q _ _ same_refl (.old .non)⟩
        | some d' =>
          obtain ⟨_, vz, g, g2, g3⟩ := (leafGet he hn).1 d' hg
          rw [g]; rw [hg] at q; exact ⟨vz, H, I.tok _, g2, q _ _ same_refl (.old g3)⟩
      | tup xs n b hb hd hi he hn hk ha =>
        subst hb
        refine call_meetsIn PySem.F.slot_dict_get hd.typeIs PySem.F.entry_dict_get (PySem.F.args_dict_get_2 _ _) (meetsH_dict_get (nestedKind X.prog X.w) a b dd.f.sm) ⟨room_nested hu, _, _, hi, hd, ?_⟩
        cases hg : dgetD kvs dy with
        | none => rw [(tupGet he hn).2 hg]; rw [hg] at q; exact ⟨.non, H, I.tok _, rfl, q _ _ same_refl (.old .non)⟩
        | some d' =>
          obtain ⟨_, vz, g, g2, g3⟩ := (tupGet he hn).1 d' hg
          rw [g]; rw [hg] at q; exact ⟨vz, H, I.tok _, g2, q _ _ same_refl (.old g3)⟩
    · cases e
theorem mt_get2 (hu : X.A.units + 200 < cLine) : MtR X "dict.get" (fun x xs H Q => ∃ y z, xs = [y, z] ∧ r3 false X.K X.w getD3 x y z H Q) := by
  rintro pins s σ H x xs v us Q I rx r ⟨y, z, rfl, W, dx, dy, dz, d, t, bx, by_, bz, e, q⟩
  obtain ⟨u, u', rfl, ry, rz⟩ := Vals.two r
  cases dx <;> first | (cases e; done) | skip
  case dict kvs =>
    simp only [getD3] at e
    split at e
    · rename_i ok
      cases e
      obtain ⟨a, o, es, rfl, h1, dd, ho, A⟩ := ask I bx by_ ry ok
      cases rx
      cases A with
      | leaf ls l hd hu he hn hk ha =>
        refine call_meetsIn PySem.F.slot_dict_get hd.mapOf.typeIs PySem.F.entry_dict_get (PySem.F.args_dict_get_3 _ _ _) (meets_dict_get_default (mixKind X.prog X.w) a hu dd.f.sm u') ⟨_, hd.mapOf, ?_⟩
        cases hg : dgetD kvs dy with
        | none => rw [(leafGet he hn).2 hg]; rw [hg] at q; exact ⟨z, H, I.tok _, rz, q _ _ same_refl (.old bz)⟩
        | some d' =>
          obtain ⟨_, vz, g, g2, g3⟩ := (leafGet he hn).1 d' hg
          rw [g]; rw [hg] at q; exact ⟨vz, H, I.tok _, g2, q _ _ same_refl (.old g3)⟩
      | tup xs n b hb hd hi he hn hk ha =>
        subst hb
        refine call_meetsIn PySem.F.slot_dict_get hd.typeIs PySem.F.entry_dict_get (PySem.F.args_dict_get_3 _ _ _) (meetsH_dict_get_default (nestedKind X.prog X.w) a b dd.f.sm u') ⟨room_nested hu, _, _, hi, hd, ?_⟩
        cases hg : dgetD kvs dy with
        | none => rw [(tupGet he hn).2 hg]; rw [hg] at q; exact ⟨z, H, I.tok _, rz, q _ _ same_refl (.old bz)⟩
        | some d' =>
          obtain ⟨_, vz, g, g2, g3⟩ := (tupGet he hn).1 d' hg
          rw [g]; rw [hg] at q; exact ⟨vz, H, I.tok _, g2, q _ _ same_refl (.old g3)⟩
    · cases e
end
end RW
/-! Dicts stored and made; len, list(x), sorted(x). -/
namespace RW
open PySem PySem.Spec PyProof.Rows L2
open PySem.W (EachIs)
theorem any_each {α β : Type} {R : α → β → Prop} {f : α → Bool} {g : β → Bool} (hfg : ∀ a b, R a b → f a = g b) : ∀ {as : List α} {bs : List β}, EachIs R as bs → as.any f = bs.any g
  | _, _, .nil => rfl
  | _, _, .cons r t => by rw [List.any_cons, List.any_cons, hfg _ _ r, any_each hfg t]
theorem map_each {α β α' β' : Type} {R : α → β → Prop} {R' : α' → β' → Prop} {f : α → α'} {g : β → β'} (h : ∀ a b, R a b → R' (f a) (g b)) : ∀ {as : List α} {bs : List β}, EachIs R as bs → EachIs R' (as.map f) (bs.map g)
  | _, _, .nil => .nil
  | _, _, .cons r t => .cons (h _ _ r) (map_each h t)
theorem app_each {α β : Type} {R : α → β → Prop} : ∀ {as as' : List α} {bs bs' : List β}, EachIs R as bs → EachIs R as' bs' → EachIs R (as ++ as') (bs ++ bs')
  | _, _, _, _, .nil, h => h
  | _, _, _, _, .cons r t, h => .cons r (app_each t h)
section
variable {X : Cx} {pins : List (Addr × Obj)} {σ : L2.St} {H : Hp} {s : Shared} {W : Addr → Prop} {K : PySem.W.Frag} {w : World} {P : Program}
theorem ofPairs {es : List DictEntry} {ls : List (Key × Value)} {kvs : List (PyData × PyData)} (hp : Pairs (mixKind P w) es ls) (he : EachIs (LR K w H W) ls kvs) (hk : ∀ e ∈ es, ∃ k, (mixKind P w).is k e.key = true ∧ e.hash = (mixKind P w).hash k) : EachIs (EntR K w H W) es kvs := by
  induction hp generalizing kvs with
  | nil => cases he; exact .nil
  | cons h1 h2 t ih =>
    rename_i e kv es ls
    cases he with
    | cons r t' =>
      rename_i p kvs
      obtain ⟨g1, g2, vz, g3, g4⟩ := r
      obtain ⟨kz, q1, q2⟩ := leaf_rp (K := K) (w := w) (H := H) (W := W) (l := kv.1) (u := e.key) h1
      obtain ⟨k', q3, q4⟩ := hk e List.mem_cons_self
      have ek : k' = kv.1 := (mixKind P w).inj _ _ _ q3 h1
      subst ek
      refine .cons ⟨kz, vz, keyN kv.1, q1, by rw [g1]; exact q2, by rw [h2]; exact g3, g4, g2, keyN_depth _, by rw [q4, keyN_hash]; rfl⟩ (ih t' fun e' he' => hk e' (List.mem_cons_of_mem _ he'))
theorem ofTups {xs : List (NestedKey × Addr × Value)} {kvs : List (PyData × PyData)} (he : EachIs (TR K w H W) xs kvs) (hd : ∀ x ∈ xs, x.1.depth ≤ 8) : EachIs (EntR K w H W) (xs.map (entryOfKey (nestedKind P w))) kvs := by
  induction he with
  | nil => exact .nil
  | cons r t ih =>
    rename_i q p xs kvs
    obtain ⟨g1, g2, vz, g3, g4⟩ := r
    exact .cons ⟨.ref q.2.1, vz, q.1, rfl, g2, g3, g4, g1, hd q List.mem_cons_self, rfl⟩ (ih fun x hx => hd x (List.mem_cons_of_mem _ hx))
theorem hs_of {es : Array DictEntry} {kvs : List (PyData × PyData)} (h : EachIs (EntR K w H W) es.toList kvs) : ∀ (i : Nat) (e : DictEntry), es[i]? = some e → ∃ p k, kvs[i]? = some p ∧ nkey p.1 = some k ∧ k.depth ≤ 8 ∧ e.hash = k.hash w := by
  obtain ⟨_, _, _, _, _, _, h5⟩ := of_each h
  intro i e q
  exact h5 i e (by rw [Array.getElem?_toList]; exact q)
theorem keyD_leaf (l : Key) : isLeafD (keyD l) = true := by cases l <;> rfl
/-- a dict told by keys of that kind: a datum -/
theorem DAt.ofL {h' : Heap} {a : Addr} {ls : List (Key × Value)} {kvs : List (PyData × PyData)} (hd : h'.DictOf (mixKind P w) a ls) (he : EachIs (LR K w H W) ls kvs) (hs : (a == sysModules) = false) (hz : kvs.length ≤ sizeLine) :
    ∃ o es, h'.get? a = some o ∧ DAt K w H W a o es kvs := by
  obtain ⟨o, es, ep, g1, g2, g3, g4, g5, g6⟩ := hd
  have hE := ofPairs g5 he fun e he => g4 e (by simpa using he)
  have hl : es.size = kvs.length := by rw [← Array.length_toList, EachIs.length hE]
  refine ⟨o, es, g1, ⟨⟨g2, ⟨ep, g3⟩, hs, by omega, hs_of hE, ?_, ?_⟩, hE⟩⟩
  · rw [nodup_leaf LR.nk he]
    have := nodup_map_inj (f := fun l => some (keyN l)) (fun a b e => keyN_inj (Option.some.inj e)) g6
    rw [List.map_map] at this
    exact this
  · right
    intro p hp
    have go : ∀ {ls : List (Key × Value)} {kvs : List (PyData × PyData)}, EachIs (LR K w H W) ls kvs → ∀ p ∈ kvs, isLeafD p.1 = true := by
      intro ls kvs t
      induction t with
      | nil => intro p hp; cases hp
      | cons r t ih =>
        intro p hp
        rcases List.mem_cons.mp hp with rfl | hp
        · rw [r.1]
          exact keyD_leaf _
        · exact ih p hp
    exact go he p hp
theorem DAt.ofT {h' : Heap} {a : Addr} {xs : List (NestedKey × Addr × Value)} {kvs : List (PyData × PyData)} (hd : h'.DictOfH (nestedKind P w) a xs) (he : EachIs (TR K w H W) xs kvs) (hs : (a == sysModules) = false) (hz : kvs.length ≤ sizeLine) :
    ∃ o es, h'.get? a = some o ∧ DAt K w H W a o es kvs := by
  obtain ⟨o, es, ep, g1, g2, g3, g4, g5, g6⟩ := hd
  have hE : EachIs (EntR K w H W) es.toList kvs := by rw [g4]; exact ofTups he fun x hx => (g5 x hx).2
  have hl : es.size = kvs.length := by rw [← Array.length_toList, EachIs.length hE]
  have go : ∀ {xs : List (NestedKey × Addr × Value)} {kvs : List (PyData × PyData)}, EachIs (TR K w H W) xs kvs → (kvs.map fun p => nkey p.1) = xs.map (fun q => some q.1) ∧ ∀ p ∈ kvs, isTupD p.1 = true := by
    intro xs kvs t
    induction t with
    | nil => exact ⟨rfl, fun p hp => by cases hp⟩
    | cons r t ih =>
      rename_i q p _ _
      refine ⟨by rw [List.map_cons, List.map_cons, ih.1, r.1], fun p' hp => ?_⟩
      rcases List.mem_cons.mp hp with rfl | hp
      · obtain ⟨r1, r2, _⟩ := r
        cases hh : p'.1 with
        | tuple ds => rfl
        | list ds => rw [hh] at r1; cases r1
        | dict ds => rw [hh] at r1; cases r1
        | none => rw [hh] at r2; cases r2
        | bool b => rw [hh] at r2; cases r2
        | int i => rw [hh] at r2; cases r2
        | str x => rw [hh] at r2; cases r2
      · exact ih.2 p' hp
  refine ⟨o, es, g1, ⟨⟨g2, ⟨ep, g3⟩, hs, by omega, hs_of hE, ?_, .inl (go he).2⟩, hE⟩⟩
  rw [(go he).1]
  have := nodup_map_inj (f := some) (fun a b e => Option.some.inj e) g6
  rw [List.map_map] at this
  exact this
theorem DAt.mono {H' : Hp} {W' : Addr → Prop} (k : Kept W H H') (t : KeptT H H') (c : ∀ a, W' a → ¬ W a → H a = none) {a : Addr} {o : Obj} {es : Array DictEntry} {kvs : List (PyData × PyData)} (d : DAt K w H W a o es kvs) : DAt K w H' W' a o es kvs :=
  ⟨d.f, d.e.mono fun _ _ r => EntR.mono k t c r⟩
/-- the pairs behind a store -/
theorem put_leaf {ls : List (Key × Value)} {kvs : List (PyData × PyData)} {l : Key} {k d : PyData} {v : Value} {vz : V} (he : EachIs (LR K w H W) ls kvs) (hn : nkey k = some (keyN l)) (hk : k = keyD l) (rv : RelV vz v) (rd : Rp K w H W vz d) : EachIs (LR K w H W) (stored ls l v) (dputD kvs k d) := by
  have hkey : ∀ q p, LR K w H W q p → decide (q.1 = l) = keyEq k p := fun q p r => by
    unfold keyEq
    rw [r.2.1, hn]
    by_cases e : q.1 = l
    · rw [e]; simp
    · rw [decide_eq_false e, decide_eq_false fun z => e (keyN_inj (Option.some.inj z))]
  unfold stored dputD
  rw [any_each hkey he]
  split
  · refine map_each (fun q p r => ?_) he
    have := hkey q p r
    by_cases e : q.1 = l
    · rw [decide_eq_true e] at this
      rw [if_pos e, ← this, if_pos rfl]
      exact ⟨r.1, r.2.1, vz, rv, rd⟩
    · rw [decide_eq_false e] at this
      rw [if_neg e, ← this, if_neg Bool.false_ne_true]
      exact r
  · exact app_each he (.cons ⟨hk, by rw [hn], vz, rv, rd⟩ .nil)
theorem put_tup {xs : List (NestedKey × Addr × Value)} {kvs : List (PyData × PyData)} {n : NestedKey} {k d : PyData} {b : Addr} {v : Value} {vz : V} (he : EachIs (TR K w H W) xs kvs) (hn : nkey k = some n) (rk : Rp K w H W (.ref b) k) (rv : RelV vz v) (rd : Rp K w H W vz d) : EachIs (TR K w H W) (storedH xs n b v) (dputD kvs k d) := by
  have hkey : ∀ q p, TR K w H W q p → decide (q.1 = n) = keyEq k p := fun q p r => by
    unfold keyEq
    rw [r.1, hn]
    by_cases e : q.1 = n
    · rw [e]; simp
    · rw [decide_eq_false e, decide_eq_false fun z => e (Option.some.inj z)]
  have ha : (atKey xs n).isSome = xs.any fun q => decide (q.1 = n) := by
    unfold atKey
    clear he
    induction xs with
    | nil => rfl
    | cons x xs ih =>
      rw [List.find?_cons, List.any_cons]
      cases decide (x.1 = n) with
      | true => rfl
      | false => simpa using ih
  unfold storedH dputD
  rw [ha, any_each hkey he]
  split
  · refine map_each (fun q p r => ?_) he
    have := hkey q p r
    unfold putAt
    by_cases e : q.1 = n
    · rw [decide_eq_true e] at this
      rw [if_pos e, ← this, if_pos rfl]
      exact ⟨r.1, r.2.1, vz, rv, rd⟩
    · rw [decide_eq_false e] at this
      rw [if_neg e, ← this, if_neg Bool.false_ne_true]
      exact r
  · exact app_each he (.cons ⟨hn, rk, vz, rv, rd⟩ .nil)
theorem dputD_length (kvs : List (PyData × PyData)) (k d : PyData) : (dputD kvs k d).length ≤ kvs.length + 1 := by
  unfold dputD
  split <;> simp
theorem Ct.ref {a : Addr} {kvs : List (PyData × PyData)} (c : Ct K w H W a (.dict kvs)) : ∃ o es, H a = some (DO a o) ∧ DAt K w H W a o es kvs := by
  cases c with
  | dic h1 h2 h3 h4 h5 h6 => exact ⟨_, _, h1, h2, each_of _ _ _ _ h3 h4 h5 h6 fun i e q => h2.hs i e (by rw [← Array.getElem?_toList]; exact q)⟩
theorem key_rp {y : V} {k : PyData} {kvs : List (PyData × PyData)} (h : RB K w H W y k) (ok : keyOk kvs k = true) : Rp K w H W y k := by
  rcases h with h | ⟨a, rfl, _, h⟩
  · exact h
  · obtain ⟨n, hn, _⟩ := keyOk_of ok
    cases h with
    | lst _ _ => cases hn
    | dic _ _ _ _ _ _ => cases hn
theorem kept_own {a : Addr} {o : HO} (h : W a) : Kept W H (upd H a o) := fun b u nb e => by rw [upd_ne (fun z => nb (by rw [z]; exact h))]; exact e
theorem keptT_own {a : Addr} {o : HO} (h : ∀ xs, H a ≠ some (.tup xs)) (h' : ∀ ob u, H a ≠ some (.frz ob u)) : KeptT H (upd H a o) := fun b u hu e => by
  rw [upd_ne]
  · exact e
  · rintro rfl
    rcases hu with ⟨xs, rfl⟩ | ⟨ob, xs, rfl⟩
    · exact h _ e
    · exact h' _ _ e
/-- but at a -/
def SameBut1 (a : Addr) (H H' : Hp) : Prop := ∀ b, b ≠ a → H' b = H b
theorem same1_upd {a : Addr} {o : HO} : SameBut1 a H (upd H a o) := fun b n => upd_ne n
def setDict : PyData → PyData → PyData → Option PyData
  | .dict kvs, k, v => if keyOk kvs k && decide (kvs.length < sizeLine) then some (.dict (dputD kvs k v)) else none
  | _, _, _ => none
def tSet (K : PySem.W.Frag) (w : World) (g : PyData → PyData → PyData → Option PyData) : TSet := fun o i z H Q =>
  ∃ W a d k v d', o = .ref a ∧ W a ∧ Ct K w H W a d ∧ RB K w H W i k ∧ Rp K w H W z v ∧ g d k v = some d' ∧ ∀ H', SameBut1 a H H' → Ct K w H' W a d' → Q H'
theorem set_dict (hu : X.A.units + 200 < cLine) : PSet X (tSet X.K X.w setDict) := by
  rintro pins s σ H o i v ov iv u Q I ro ri rv ⟨W, a, d, k, v', d', rfl, hW, hc, bi, bv, e, q⟩
  cases ro
  cases d <;> first | (cases e; done) | skip
  case dict kvs =>
    simp only [setDict] at e
    split at e
    · rename_i ok
      cases e
      simp only [Bool.and_eq_true, decide_eq_true_eq] at ok
      have kr := key_rp bi ok.1
      obtain ⟨o, es, e1, dd⟩ := hc.ref
      obtain ⟨a', o', es', ea, h1, d1, ho, A⟩ := ask I (.inr ⟨a, rfl, hW, hc⟩) bi ri ok.1
      cases ea
      have hz := dputD_length kvs k v'
      have fin : ∀ (h' : Heap) (t : Nat) (o2 : Obj) (es2 : Array DictEntry), h'.get? a = some o2 → DAt X.K X.w H W a o2 es2 (dputD kvs k v') → Heap.SameBut a s.heap h' → ∃ H', Inv X pins σ H' { s with heap := h', toks := t } ∧ Q H' := by
        intro h' t o2 es2 g1 g2 hs
        refine ⟨upd H a (DO a o2), I.write (x := a) (e := a) (by rw [e1]; exact True.intro) (.inl rfl) (fun b q hb z => (hs.2 b hb).trans z) ⟨o2, g1⟩ (DO_ok g1), q _ same1_upd ?_⟩
        exact (g2.mono (kept_own hW) (keptT_own (fun xs z => by rw [e1] at z; cases z) fun ob u z => by rw [e1] at z; cases z) fun _ z n => absurd z n).ct upd_same
      cases A with
      | leaf ls l hd hl he hn hk ha =>
        have hlen : ls.length ≤ sizeLine := by rw [EachIs.length he]; omega
        refine wpAny_setItem_pairs (hsz := hlen) hl hd fun h' hd' hs => ?_
        obtain ⟨o2, es2, g1, g2⟩ := DAt.ofL hd' (put_leaf he hn hk rv bv) dd.f.sm (by omega)
        exact fin h' _ o2 es2 g1 g2 hs
      | tup xs n b hb hd hi he hn hk ha =>
        subst hb
        have hlen : xs.length ≤ sizeLine := by rw [EachIs.length he]; omega
        have kr' : Rp X.K X.w H W (.ref b) k := by
          cases i <;> first | (cases ri; done) | skip
          case ref c => cases ri; exact kr
          all_goals (obtain ⟨t, z⟩ := ri; cases z)
        refine wpAny_setItem_heap (hsz := hlen) (room_nested hu) hi hd fun h' hd' hs => ?_
        obtain ⟨o2, es2, g1, g2⟩ := DAt.ofT hd' (put_tup he hn kr' rv bv) dd.f.sm (by omega)
        exact fin h' _ o2 es2 g1 g2 hs
    · cases e
def setList : PyData → PyData → PyData → Option PyData
  | .list xs, .int i, v => (ixAt xs.length i).map fun j => .list (xs.set j v)
  | _, _, _ => none
theorem ixAt_ixN {n j : Nat} {i : Int} (h : ixAt n i = some j) : ixN n i = some j := by
  unfold ixAt at h
  unfold ixN
  split at h
  · rename_i h0
    split at h
    · rename_i h1
      cases h
      simp only [h0, if_true]
      simp
      omega
    · cases h
  · rename_i h0
    split at h
    · cases h
      simp only [h0, if_false]
      simp
      omega
    · cases h
theorem set_list' : PSet X (tSet X.K X.w setList) := by
  rintro pins s σ H o i v ov iv u Q I ro ri rv ⟨W, a, d, k, v', d', rfl, hW, hc, bi, bv, e, q⟩
  cases d <;> cases k <;> first | (cases e; done) | skip
  case list.int xs n =>
    simp only [setList, Option.map_eq_some_iff] at e
    obtain ⟨j, hj, rfl⟩ := e
    obtain rfl := bi.int
    cases hc with
    | lst h1 h2 =>
      refine set_list pins s σ H _ _ v ov iv u Q I ro ri rv ⟨a, _, n, j, rfl, rfl, h1, by rw [h2.length]; exact ixAt_ixN hj, q _ same1_upd ?_⟩
      refine .lst upd_same (Rps.mono (kept_own hW) (keptT_own (fun xs z => by rw [h1] at z; cases z) fun ob u z => by rw [h1] at z; cases z) (fun _ z n => absurd z n) _ _ (Rps.set j bv h2))
end
end RW
/-! len, list(x), sorted(x), dict(x). -/
namespace RW
open PySem PySem.Spec PyProof.Rows L2
open PySem.W (EachIs)
section
variable {X : Cx} {pins : List (Addr × Obj)} {σ : L2.St} {H : Hp} {s : Shared} {W : Addr → Prop} {K : PySem.W.Frag} {w : World} {P : Program}
theorem DAt.typeIs {a : Addr} {o : Obj} {es : Array DictEntry} {kvs : List (PyData × PyData)} (d : DAt K w H W a o es kvs) (ho : s.heap.get? a = some o) : s.TypeIs (.ref a) "dict" := ⟨o, ho, d.f.ex.1⟩
theorem d_len : CallR X (.builtin "len") (c1 (r1 true X.K X.w lenD)) := by
  rintro pins s σ H xs us Q I r ⟨x, rfl, W, dx, d, t, bx, e, q⟩
  cases dx <;> first | (cases e; done) | skip
  case str x' =>
    simp only [lenD] at e
    split at e
    · rename_i h
      cases e
      obtain rfl := bx.str
      exact call_len_str pins s σ H _ us Q I r ⟨x', rfl, fits h, q _ _ same_refl (.int _)⟩
    · cases e
  case list ds =>
    cases e
    obtain ⟨a, xs, rfl, h1, h2⟩ := bx.lst
    exact call_len_seq pins s σ H _ us Q I r ⟨a, xs, rfl, .inl h1, by rw [h2.length]; exact q _ _ same_refl (.int _)⟩
  case tuple ds =>
    cases e
    obtain ⟨a, xs, rfl, h1, h2⟩ := bx.tup
    exact call_len_seq pins s σ H _ us Q I r ⟨a, xs, rfl, .inr h1.1, by rw [h2.length]; exact q _ _ same_refl (.int _)⟩
  case dict kvs =>
    cases e
    obtain ⟨a, o, es, rfl, h1, dd⟩ := bx.dat
    obtain ⟨u, rfl, ru⟩ := Vals.one r
    cases ru
    have ho := do_get I h1
    obtain ⟨ep, hr⟩ := dd.raw ho
    have hz := dd.sz
    rw [sizeLine_eq] at hz
    refine call_len_slot (dd.typeIs ho) PySem.F.slot_dict_len (fun Q' h' => call_len_raw dd.f.sm hr h') (n := (es.size : Int)) (by omega) (by rw [dd.len]; omega) ?_
    exact ⟨.int (kvs.length : Nat), H, I.tok _, ⟨_, by rw [dd.len]⟩, q _ _ same_refl (.int _)⟩
/-- a list laid -/
theorem lay_list {h' : Heap} {t' : Nat} {a : Addr} {c : Nat} {vs : List Value} {xs : List V} {Q : VK} (I : Inv X pins σ H s) (k : ∀ b o, s.heap.get? b = some o → h'.get? b = some o) (ha : s.heap.objs.size ≤ a)
    (e : h'.get? a = some { cls := .type "list", data := .seq vs.toArray c }) (r : Vals xs vs) (hz : xs.length ≤ sizeLine) (q : ∀ p, H p = none → Q (.ref p) (upd H p (.lst xs))) : EP X pins σ Q (.ref a) { s with heap := h', toks := t' } :=
  ⟨.ref a, _, I.laid (t' := t') k ha (show ObjOk X.prog X.w _ h' _ (.lst xs) from ⟨hz, vs, c, r, e⟩), rfl, q _ (I.hok.fresh ha)⟩
/-- the keys of a dict, one by one -/
theorem DAt.keys {a : Addr} {o : Obj} {es : Array DictEntry} {kvs : List (PyData × PyData)} (d : DAt K w H W a o es kvs) : ∃ ks, Vals ks (es.toList.map (·.key)) ∧ Rps K w H W ks (kvs.map Prod.fst) := by
  obtain ⟨ks, vs, h1, h2, h3, h4, h5⟩ := of_each d.e
  exact ⟨ks, h1, h3⟩
theorem keys_all {es : Array DictEntry} {acc : List Value} (hl : acc.length = es.size) (h : ∀ (i : Nat) (v : Value), acc[i]? = some v → ∃ hi : i < es.size, v = es[i].key) : acc = es.toList.map (·.key) := by
  apply List.ext_getElem?
  intro i
  by_cases hi : i < es.size
  · obtain ⟨hj, e⟩ := h i acc[i] (List.getElem?_eq_getElem (by omega))
    rw [List.getElem?_eq_getElem (by omega), e, List.getElem?_map, Array.getElem?_toList, Array.getElem?_eq_getElem hi]
    rfl
  · rw [List.getElem?_eq_none (by omega), List.getElem?_eq_none (by simp; omega)]
theorem d_lst (hc : X.calm = true) : CallR X (.type "list") (c1 (r1 true X.K X.w lstD)) := by
  rintro pins s σ H xs us Q I r ⟨x, rfl, W, dx, d, t, bx, e, q⟩
  cases dx <;> first | (cases e; done) | skip
  case list ds =>
    cases e
    obtain ⟨a, xs, rfl, h1, h2⟩ := bx.lst
    exact call_list_of pins s σ H _ us Q I r ⟨a, xs, rfl, .inl h1, fun l hl => q _ _ (same_upd hl) (.newL t hl h2)⟩
  case tuple ds =>
    cases e
    obtain ⟨a, xs, rfl, h1, h2⟩ := bx.tup
    exact call_list_of pins s σ H _ us Q I r ⟨a, xs, rfl, .inr h1.1, fun l hl => q _ _ (same_upd hl) (.newL t hl h2)⟩
  case dict kvs =>
    cases e
    obtain ⟨a, o, es, rfl, h1, dd⟩ := bx.dat
    obtain ⟨u, rfl, ru⟩ := Vals.one r
    cases ru
    have ho := do_get I h1
    obtain ⟨ep, hr⟩ := dd.raw ho
    obtain ⟨ks, g1, g2⟩ := dd.keys
    refine PySem.W.kdl_call (KdlSrc.rawDict dd.f.sm) (I.ok.hd hc) hr dd.f.sz fun h' tk acc' c' hk hs hacc => ?_
    have e := keys_all (acc := acc'.toList) (by rw [Array.length_toList, hacc.1]) fun i v hv => hacc.2 i v (by rw [← Array.getElem?_toList]; exact hv)
    refine lay_list I hk (Nat.le_refl _) (vs := acc'.toList) (by rw [Array.toArray_toList]; exact hs) (by rw [e]; exact g1) ?_ fun p hp => q _ _ (same_upd hp) (.newL t hp g2)
    rw [g2.length, List.length_map]
    exact dd.sz

/-! sorted -/
theorem allAlike_of {ds : List PyData} (h : allAlike ds = true) : PySem.W.AllAlike ds := fun d hd d' hd' => by
  simp only [allAlike, List.all_eq_true] at h
  exact h d hd d' hd'
theorem sortable_of {ds : List PyData} (h : sortable ds = true) : PySem.W.Sortable ds := by
  simp only [sortable, Bool.or_eq_true, List.all_eq_true] at h
  rcases h with h | h
  · refine .inl fun d hd => ?_
    have := h d hd
    cases d with
    | tuple xs =>
      cases xs with
      | nil => cases this
      | cons x r => exact ⟨x, r, rfl⟩
    | _ => cases this
  · refine .inr fun d hd => ?_
    have := h d hd
    cases d <;> first | (cases this; done) | exact ⟨by simp, by simp⟩
/-- values that stand for data -/
theorem each_reads (I : Inv X pins σ H s) : ∀ {ds : List PyData} {xs : List V} {vs : List Value}, Rps X.K X.w H W xs ds → Vals xs vs →
    EachIs (fun v d => ∃ z, RelV z v ∧ Rp X.K X.w H W z d) vs ds ∧ EachIs (fun v d => ∃ as, Reads s.heap v d as) vs ds
  | [], _, _, h, r => by cases h; cases r; exact ⟨.nil, .nil⟩
  | d :: ds, _, _, h, r => by
    cases h with
    | cons h1 h2 =>
      cases r with
      | cons r1 r2 =>
        obtain ⟨a, b⟩ := each_reads I h2 r2
        exact ⟨.cons ⟨_, r1, h1⟩ a, .cons (Rp.reads I _ _ _ h1 r1) b⟩
theorem each_back {vs : List Value} {ds : List PyData} (h : EachIs (fun v d => ∃ z, RelV z v ∧ Rp K w H W z d) vs ds) : ∃ xs, Vals xs vs ∧ Rps K w H W xs ds := by
  induction h with
  | nil => exact ⟨[], .nil, .nil⟩
  | cons r t ih =>
    obtain ⟨xs, h1, h2⟩ := ih
    obtain ⟨z, g1, g2⟩ := r
    exact ⟨z :: xs, .cons g1 h1, .cons g2 h2⟩
theorem depth_mem : ∀ {ds : List PyData} {d : PyData}, d ∈ ds → d.depth ≤ PyData.depthAll ds
  | [], _, h => by cases h
  | x :: ds, d, h => by
    simp only [PyData.depthAll]
    rcases List.mem_cons.mp h with rfl | h
    · omega
    · have := depth_mem h; omega
theorem sort_cond {ds : List PyData} (h : (allAlike ds && sortable ds && okDs ds && fit ds.length) = true) : PySem.W.AllAlike ds ∧ PySem.W.Sortable ds ∧ PyData.depthAll ds ≤ 60 ∧ ds.length ≤ sizeLine := by
  simp only [Bool.and_eq_true] at h
  exact ⟨allAlike_of h.1.1.1, sortable_of h.1.1.2, (okDs_of h.1.2).2, fits h.2⟩
theorem sorted_lst (hu : X.A.units + 200 < cLine) {ds : List PyData} {a : Addr} {its : List Value} {xs : List V} {Q : VK} (I : Inv X pins σ H s) (hl : s.heap.IsList a its.toArray) (rp : Rps X.K X.w H W xs ds) (rv : Vals xs its)
    (hc : PySem.W.AllAlike ds ∧ PySem.W.Sortable ds ∧ PyData.depthAll ds ≤ 60 ∧ ds.length ≤ sizeLine) (q : ∀ xs' p, H p = none → Rps X.K X.w H W xs' (sortD ds) → Q (.ref p) (upd H p (.lst xs'))) :
    wpAny (model X.prog X.w) X.A (call (.builtin "sorted") [.ref a]) (EP X pins σ Q) X.xe s := by
  obtain ⟨c1, c2, c3, c4⟩ := hc
  obtain ⟨e1, e2⟩ := each_reads I rp rv
  refine PySem.W.sorted_data (enc := id) hl e1 e2 (by rw [List.map_id]; exact c1) (by rw [List.map_id]; exact c2) c4 (fun b hb => ?_) fun out ho eo => ?_
  · have := depth_mem hb
    show X.A.units + 2 + b.depth < cLine
    omega
  · obtain ⟨xs', g1, g2⟩ := each_back eo
    obtain ⟨c, he⟩ := PyProof.Rows.sortedAll_at s.heap its out.toArray
    refine lay_list I (t' := s.toks) (fun _ _ => PyProof.Rows.sortedAll_old) (Nat.le_succ _) he g1 ?_ fun p hp => q xs' p hp g2
    rw [g1.length, ho]
    exact c4
theorem sort_tail (hu : X.A.units + 200 < cLine) {ds : List PyData} {vs : List Value} {xs : List V} {Q : VK} {E : Value → Shared → Prop} {R : PySem.Fin → Shared → Prop} (I : Inv X pins σ H s) (rp : Rps X.K X.w H W xs ds) (rv : Vals xs vs)
    (hc : PySem.W.AllAlike ds ∧ PySem.W.Sortable ds ∧ PyData.depthAll ds ≤ 60 ∧ ds.length ≤ sizeLine) (q : ∀ xs' p, H p = none → Rps X.K X.w H W xs' (sortD ds) → Q (.ref p) (upd H p (.lst xs')))
    (h : ∀ l s', EP X pins σ Q l s' → R (.done (.ret l)) s') : wpAny (model X.prog X.w) X.A.in1 (newList vs >>= fun l => holding [l] (call (.builtin "list.sort") [l] []) >>= fun _ => PySem.ret l) R E s := by
  obtain ⟨c1, c2, c3, c4⟩ := hc
  have hl : vs.length = ds.length := by rw [← rv.length, rp.length]
  refine wpAny_bind (wpAny_newList ?_ (by rw [hl]; exact c4))
  have hoL : (s.heap.push (seqObj "list" vs.toArray 0)).get? s.heap.objs.size = some (seqObj "list" vs.toArray 0) := Heap.get?_push_size _ rfl
  obtain ⟨e1, e2⟩ := each_reads I rp rv
  have kp : ∀ b o, s.heap.get? b = some o → (PySem.W.sortingHeap (s.heap.push (seqObj "list" vs.toArray 0)) s.heap.objs.size vs).get? b = some o := fun b o e =>
    PySem.W.sortingHeap_old (Nat.ne_of_lt (Heap.lt_size e)) (Heap.get?_push_of_some _ e)
  have er : EachIs (fun v d => ∃ as, Reads (PySem.W.sortingHeap (s.heap.push (seqObj "list" vs.toArray 0)) s.heap.objs.size vs) v (id d) as) vs ds := e2.mono fun _ _ ⟨as, r⟩ => ⟨as, PyProof.Rows.Reads.keeps kp r⟩
  show wpAny _ _ _ _ _ { s with heap := s.heap.push (seqObj "list" vs.toArray 0) }
  refine wpAny_bind (wpAny_holding (wpAny_call_entry PyProof.Rows.slot_list_sort ⟨_, hoL, rfl⟩ PyProof.Rows.entry_list_sort (PySem.W.list_sort_vals (κ := PySem.W.dataKind (PySem.W.sortingHeap (s.heap.push (seqObj "list" vs.toArray 0)) s.heap.objs.size vs) (ds.map id)) hoL
    (PySem.W.SortsAt.data (s := { s with heap := PySem.W.sortingHeap (s.heap.push (seqObj "list" vs.toArray 0)) s.heap.objs.size vs }) (PySem.W.each_map (R := fun v d => ∃ as, Reads (PySem.W.sortingHeap (s.heap.push (seqObj "list" vs.toArray 0)) s.heap.objs.size vs) v d as) id er) (by rw [List.map_id]; exact c1) (by rw [List.map_id]; exact c2) (fun d hd => ?_)) (by rw [hl]; exact c4) ⟨.none, rfl, ?_⟩) (PyProof.Rows.args_list_sort _)))
  · rw [List.map_id] at hd
    have := depth_mem hd
    simp only [Around.in1_units]
    omega
  · obtain ⟨xs', g1, g2⟩ := each_back (PySem.W.sortVals_data (enc := id) false e1 er (by rw [List.map_id]; exact c1))
    obtain ⟨c, he⟩ := PyProof.Rows.sortedHeap_at (vs := vs) (out := (PySem.W.sortVals (PySem.W.dataKind (PySem.W.sortingHeap (s.heap.push (seqObj "list" vs.toArray 0)) s.heap.objs.size vs) (ds.map id)) false vs vs).toArray) hoL
    refine wpAny_pure (h _ _ (lay_list (s := s) I (t' := s.toks) (fun b o e => ?_) (Nat.le_refl _) he g1 ?_ fun p hp => q xs' p hp g2))
    · have hb : b < s.heap.objs.size := Heap.lt_size e
      rw [PyProof.Rows.sortedHeap_old (Nat.ne_of_lt hb) (by rw [size_push']; exact Nat.lt_succ_of_lt hb)]
      exact Heap.get?_push_of_some _ e
    · rw [g2.length]
      show (ds.mergeSort _).length ≤ _
      rw [List.length_mergeSort]
      exact c4
theorem sorted_via (hu : X.A.units + 200 < cLine) {ds : List PyData} {v : Value} {vs : List Value} {xs : List V} {Q : VK} (I : Inv X pins σ H s) (rp : Rps X.K X.w H W xs ds) (rv : Vals xs vs)
    (hc : PySem.W.AllAlike ds ∧ PySem.W.Sortable ds ∧ PyData.depthAll ds ≤ 60 ∧ ds.length ≤ sizeLine) (q : ∀ xs' p, H p = none → Rps X.K X.w H W xs' (sortD ds) → Q (.ref p) (upd H p (.lst xs')))
    (hcol : ∀ (R : List Value → Shared → Prop) (E : Value → Shared → Prop), (∀ h' tk, (∀ b o, s.heap.get? b = some o → h'.get? b = some o) → R vs { s with heap := h', toks := tk }) → wpAny (model X.prog X.w) X.A.in1 (collect v) R E s) :
    wpAny (model X.prog X.w) X.A (call (.builtin "sorted") [v]) (EP X pins σ Q) X.xe s := by
  refine Calls.call_function_entry PyProof.Rows.kind_sorted PyProof.Rows.plain_sorted PyProof.Rows.entry_sorted (PyProof.Rows.args_sorted1 _) ?_
  unfold Builtin.«sorted»
  refine wpAny_bind (m := checkCount "sorted" 1 1 _) (wpAny_pure ?_)
  refine wpAny_bind (hcol _ _ fun h' tk hk => ?_)
  exact sort_tail hu (I.kept (t' := tk) hk) rp rv hc q fun l s' h => ⟨_, rfl, h⟩
theorem d_sorted (hc : X.calm = true) (hu : X.A.units + 200 < cLine) : CallR X (.builtin "sorted") (c1 (r1 true X.K X.w srtD)) := by
  rintro pins s σ H xs us Q I r ⟨x, rfl, W, dx, d, t, bx, e, q⟩
  obtain ⟨u, rfl, ru⟩ := Vals.one r
  cases dx <;> first | (cases e; done) | skip
  case list ds =>
    simp only [srtD, itemsOf] at e
    split at e
    · rename_i h
      cases e
      obtain ⟨a, xs, rfl, h1, h2⟩ := bx.lst
      cases ru
      obtain ⟨its, r', ⟨o, n, ho, hcl, _, hda⟩, hz⟩ := I.list h1
      have hlen := r'.length
      exact sorted_via hu I h2 r' (sort_cond h) (fun xs' p hp g => q _ _ (same_upd hp) (.newL t hp g)) fun R E k =>
        wpAny_collect_seq a (.inl rfl) ho hcl hda (fun h' hk => k h' s.toks hk) (by rw [List.size_toArray]; omega)
    · cases e
  case tuple ds =>
    simp only [srtD, itemsOf] at e
    split at e
    · rename_i h
      cases e
      obtain ⟨a, xs, rfl, h1, h2⟩ := bx.tup
      cases ru
      obtain ⟨its, r', ⟨o, ho, hc', n, hd⟩, hz⟩ := I.tuple h1.1
      have hlen := r'.length
      exact sorted_via hu I h2 r' (sort_cond h) (fun xs' p hp g => q _ _ (same_upd hp) (.newL t hp g)) fun R E k =>
        wpAny_collect_seq a (.inr rfl) ho hc' hd (fun h' hk => k h' s.toks hk) (by rw [List.size_toArray]; omega)
    · cases e
  case dict kvs =>
    simp only [srtD, itemsOf] at e
    split at e
    · rename_i h
      cases e
      obtain ⟨a, o, es, rfl, h1, dd⟩ := bx.dat
      cases ru
      have ho := do_get I h1
      obtain ⟨ep, hr⟩ := dd.raw ho
      obtain ⟨ks, g1, g2⟩ := dd.keys
      refine sorted_via hu I g2 g1 (sort_cond h) (fun xs' p hp g => q _ _ (same_upd hp) (.newL t hp g)) fun R E k => ?_
      refine PySem.W.kdu_collect (A := X.A.in1) (KdlSrc.rawDict dd.f.sm) (I.ok.hd hc) hr dd.f.sz fun h' tk acc hk hacc => ?_
      have ek := keys_all (acc := acc.toList) (by rw [Array.length_toList, hacc.1]) fun i v hv => hacc.2 i v (by rw [← Array.getElem?_toList]; exact hv)
      rw [ek]
      exact k h' tk hk
    · cases e

/-! dict(x) -/
theorem Inv.nosys (I : Inv X pins σ H s) : (s.heap.objs.size == sysModules) = false := beq_eq_false_iff_ne.mpr (Ne.symm (Nat.ne_of_lt I.big))
theorem lay_dict {h' : Heap} {t' : Nat} {a : Addr} {o : Obj} {es : Array DictEntry} {kvs : List (PyData × PyData)} {Q : VK} (I : Inv X pins σ H s) (t : Wt H W) (k : ∀ b o, s.heap.get? b = some o → h'.get? b = some o) (ha : s.heap.objs.size ≤ a)
    (e : h'.get? a = some o) (d : DAt X.K X.w H W a o es kvs) (q : ∀ p H', Same H H' → Pst true X.K X.w W H H' (.ref p) (.dict kvs) → Q (.ref p) H') : EP X pins σ Q (.ref a) { s with heap := h', toks := t' } := by
  have hn := I.hok.fresh ha
  obtain ⟨ks, vs, h1, h2, h3, h4, h5⟩ := of_each d.e
  exact ⟨.ref a, upd H a (DO a o), I.laid (t' := t') k ha (DO_ok e), rfl, q _ _ (same_upd hn) (.newD t hn d.f h1 h2 h3 h4)⟩
/-- an item that is a pair -/
def PR (K : PySem.W.Frag) (w : World) (H : Hp) (W : Addr → Prop) (pr : Value × Value) (d : PyData) : Prop := ∃ kz vz k v, d = .tuple [k, v] ∧ RelV kz pr.1 ∧ Rp K w H W kz k ∧ RelV vz pr.2 ∧ Rp K w H W vz v
def isPair : PyData → Bool
  | .tuple [_, _] => true
  | _ => false
theorem pairs_up (I : Inv X pins σ H s) : ∀ {ds : List PyData} {xs : List V} {its : List Value}, Rps X.K X.w H W xs ds → Vals xs its → (∀ d ∈ ds, isPair d = true) →
    ∃ prs : List (Value × Value), EachIs (PR X.K X.w H W) prs ds ∧ EachIs (fun (it : Value) (pr : Value × Value) => ∃ b, it = .ref b ∧ IsTup s.heap b #[pr.1, pr.2]) its prs
  | [], _, _, h, r, _ => by cases h; cases r; exact ⟨[], .nil, .nil⟩
  | d :: ds, _, _, h, r, hp => by
    cases h with
    | cons h1 h2 =>
      cases r with
      | cons r1 r2 =>
        obtain ⟨prs, g1, g2⟩ := pairs_up I h2 r2 fun d hd => hp d (List.mem_cons_of_mem _ hd)
        have hd := hp d List.mem_cons_self
        match d, hd, h1 with
        | .tuple [k, v], _, h1 =>
          cases h1 with
          | tup s1 s2 =>
            cases r1
            obtain ⟨its', rv, tp, _⟩ := I.tuple s1.1
            cases s2 with
            | cons k1 s2 =>
              cases s2 with
              | cons v1 s2 =>
                cases s2
                obtain ⟨u1, u2, rfl, q1, q2⟩ := Vals.two rv
                exact ⟨(u1, u2) :: prs, .cons ⟨_, _, k, v, rfl, q1, k1, q2, v1⟩ g1, .cons ⟨_, rfl, tp⟩ g2⟩
theorem mergeD_pairs : ∀ {ds : List PyData} {kvs out : List (PyData × PyData)}, mergeD kvs ds = some out → ∀ d ∈ ds, isPair d = true
  | [], _, _, _, d, h => by cases h
  | .tuple [k, v] :: ds, kvs, out, e, d, h => by
    simp only [mergeD] at e
    split at e
    · rcases List.mem_cons.mp h with rfl | h
      · rfl
      · exact mergeD_pairs e d h
    · cases e
  | .none :: _, _, _, e, _, _ => by cases e
  | .bool _ :: _, _, _, e, _, _ => by cases e
  | .int _ :: _, _, _, e, _, _ => by cases e
  | .str _ :: _, _, _, e, _, _ => by cases e
  | .list _ :: _, _, _, e, _, _ => by cases e
  | .dict _ :: _, _, _, e, _, _ => by cases e
  | .tuple [] :: _, _, _, e, _, _ => by cases e
  | .tuple [_] :: _, _, _, e, _, _ => by cases e
  | .tuple (_ :: _ :: _ :: _) :: _, _, _, e, _, _ => by cases e
theorem mergeD_length : ∀ {ds : List PyData} {kvs out : List (PyData × PyData)}, mergeD kvs ds = some out → out.length ≤ kvs.length + ds.length
  | [], _, _, e => by cases e; simp
  | .tuple [k, v] :: ds, kvs, out, e => by
    simp only [mergeD] at e
    split at e
    · have := mergeD_length e
      have := dputD_length kvs k v
      simp only [List.length_cons]
      omega
    · cases e
  | .none :: _, _, _, e => by cases e
  | .bool _ :: _, _, _, e => by cases e
  | .int _ :: _, _, _, e => by cases e
  | .str _ :: _, _, _, e => by cases e
  | .list _ :: _, _, _, e => by cases e
  | .dict _ :: _, _, _, e => by cases e
  | .tuple [] :: _, _, _, e => by cases e
  | .tuple [_] :: _, _, _, e => by cases e
  | .tuple (_ :: _ :: _ :: _) :: _, _, _, e => by cases e
theorem dputD_mem {kvs : List (PyData × PyData)} {k v : PyData} {P : PyData → Prop} (h : ∀ p ∈ kvs, P p.1) (hk : P k) : ∀ p ∈ dputD kvs k v, P p.1 := by
  intro p hp
  unfold dputD at hp
  split at hp
  · obtain ⟨q, hq, rfl⟩ := List.mem_map.mp hp
    split
    · exact h q hq
    · exact h q hq
  · rcases List.mem_append.mp hp with hp | hp
    · exact h p hp
    · rcases List.mem_singleton.mp hp with rfl
      exact hk
theorem dputD_ne {kvs : List (PyData × PyData)} {k v : PyData} : dputD kvs k v ≠ [] := by
  unfold dputD
  split
  · rename_i h
    cases kvs with
    | nil => cases h
    | cons p kvs => simp
  · simp
/-- the pairs merged: keys by value -/
theorem mergeL : ∀ {ds : List PyData} {prs : List (Value × Value)} {kvs out : List (PyData × PyData)} {ls : List (Key × Value)}, EachIs (PR K w H W) prs ds → mergeD kvs ds = some out → EachIs (LR K w H W) ls kvs → (∀ p ∈ kvs, isLeafD p.1 = true) → (kvs = [] → ∀ k v, ds.head? = some (.tuple [k, v]) → isLeafD k = true) →
    ∃ lps : List (Key × Value), EachIs (fun (lp : Key × Value) (pr : Value × Value) => keyIs lp.1 pr.1 = true ∧ lp.2 = pr.2) lps prs ∧ EachIs (LR K w H W) (merged ls lps) out
  | [], _, _, _, _, .nil, e, he, _, _ => by cases e; exact ⟨[], .nil, he⟩
  | _ :: ds, pr :: prs, kvs, out, ls, .cons ⟨kz, vz, k, v, ed, rk, pk, rv, pv⟩ t, e, he, hl, h0 => by
    subst ed
    simp only [mergeD] at e
    split at e
    · rename_i ok
      have hk : isLeafD k = true := by
        obtain ⟨n, _, _, ⟨ht, hk⟩ | ⟨ht, _⟩⟩ := keyOk_of ok
        · cases kvs with
          | nil => exact h0 rfl k v rfl
          | cons p kvs =>
            have h1 := hk p List.mem_cons_self
            have h2 := hl p List.mem_cons_self
            cases hh : p.1 <;> rw [hh] at h1 h2 <;> first | (cases h1; done) | (cases h2; done)
        · exact ht
      obtain ⟨l, e1, e2, e3⟩ := leaf_of pk rk hk
      obtain ⟨lps, g1, g2⟩ := mergeL t e (put_leaf (l := l) (v := pr.2) he e2 e1 rv pv) (dputD_mem (P := fun d => isLeafD d = true) hl hk) fun z => absurd z dputD_ne
      exact ⟨(l, pr.2) :: lps, .cons ⟨e3, rfl⟩ g1, g2⟩
    · cases e
/-- .. keys that are tuples -/
theorem mergeT (I : Inv X pins σ H s) : ∀ {ds : List PyData} {prs : List (Value × Value)} {kvs out : List (PyData × PyData)} {xs : List (NestedKey × Addr × Value)}, EachIs (PR X.K X.w H W) prs ds → mergeD kvs ds = some out → EachIs (TR X.K X.w H W) xs kvs → (∀ p ∈ kvs, isTupD p.1 = true) → (kvs = [] → ∀ k v, ds.head? = some (.tuple [k, v]) → isTupD k = true) →
    ∃ tps : List (NestedKey × Addr × Value), EachIs (fun (tp : NestedKey × Addr × Value) (pr : Value × Value) => pr.1 = .ref tp.2.1 ∧ tp.2.2 = pr.2 ∧ NestedIs s.heap tp.1 (.ref tp.2.1) ∧ tp.1.depth ≤ 8) tps prs ∧ EachIs (TR X.K X.w H W) (storedAllH xs tps) out
  | [], _, _, _, _, .nil, e, he, _, _ => by cases e; exact ⟨[], .nil, he⟩
  | _ :: ds, pr :: prs, kvs, out, xs, .cons ⟨kz, vz, k, v, ed, rk, pk, rv, pv⟩ t, e, he, hl, h0 => by
    subst ed
    simp only [mergeD] at e
    split at e
    · rename_i ok
      obtain ⟨n, hn, hd, hcase⟩ := keyOk_of ok
      have hk : isTupD k = true := by
        rcases hcase with ⟨ht, _⟩ | ⟨ht, hk⟩
        · exact ht
        · cases kvs with
          | nil => exact h0 rfl k v rfl
          | cons p kvs =>
            have h1 := hk p List.mem_cons_self
            have h2 := hl p List.mem_cons_self
            cases hh : p.1 <;> rw [hh] at h1 h2 <;> first | (cases h1; done) | (cases h2; done)
      obtain ⟨b, eb, eb'⟩ : ∃ b, kz = .ref b ∧ pr.1 = .ref b := by
        cases k with
        | tuple ds =>
          cases pk with
          | tup _ _ => exact ⟨_, rfl, rk⟩
        | _ => cases hk
      subst eb
      obtain ⟨tps, g1, g2⟩ := mergeT I t e (put_tup (n := n) (b := b) (v := pr.2) he hn pk rv pv) (dputD_mem (P := fun d => isTupD d = true) hl hk) fun z => absurd z dputD_ne
      refine ⟨(n, b, pr.2) :: tps, .cons ⟨eb', rfl, ?_, hd⟩ g1, g2⟩
      have := nested_of I _ _ _ _ pk rk hn
      rw [eb'] at this
      exact this
    · cases e
theorem d_dict (hc : X.calm = true) (hu : X.A.units + 200 < cLine) : CallR X (.type "dict") (c1 (r1 true X.K X.w dicD)) := by
  rintro pins s σ H xs us Q I r ⟨x, rfl, W, dx, d, t, bx, e, q⟩
  obtain ⟨u, rfl, ru⟩ := Vals.one r
  cases dx <;> first | (cases e; done) | skip
  case dict kvs =>
    simp only [dicD] at e
    split at e
    · rename_i h
      cases e
      simp only [Bool.and_eq_true] at h
      obtain ⟨a, o, es, rfl, h1, dd⟩ := bx.dat
      cases ru
      have ho := do_get I h1
      obtain ⟨ls, g1, g2⟩ := dd.leaf (P := X.prog) (by simpa [byVal] using h.1) ho
      refine kt_call_dict dd.f.sm g1 (by rw [EachIs.length g2]; exact fits h.2) fun h' hd' hs => ?_
      obtain ⟨o2, es2, q1, q2⟩ := DAt.ofL hd' g2 (Inv.nosys I) (fits h.2)
      exact lay_dict (s := s) I (t' := s.toks) t (fun b o e => (hs.2 b (Nat.ne_of_lt (Heap.lt_size e))).trans (Heap.get?_push_of_some _ e)) (Nat.le_refl _) q1 q2 fun p H' sm ps => q _ _ sm ps
    · cases e
  case list ds =>
    simp only [dicD] at e
    split at e
    · rename_i h
      simp only [Option.map_eq_some_iff] at e
      obtain ⟨kvs, e, rfl⟩ := e
      obtain ⟨a, xs, rfl, h1, h2⟩ := bx.lst
      cases ru
      obtain ⟨its, rv, ⟨o0, n, ho, hcl0, hdn0, hda0⟩, hz⟩ := I.list h1
      obtain ⟨prs, p1, p2⟩ := pairs_up I h2 rv (mergeD_pairs e)
      have hz2 := fits h
      have hl1 := EachIs.length p1
      have hl2 := EachIs.length p2
      have hlo : kvs.length ≤ sizeLine := by have := mergeD_length e; simp at this; omega
      have hcl : (∀ k v, ds.head? = some (.tuple [k, v]) → isLeafD k = true) ∨ (∀ k v, ds.head? = some (.tuple [k, v]) → isTupD k = true) := by
        match ds, e with
        | [], _ => exact .inl fun k v z => by cases z
        | .tuple [k, v] :: ds, e =>
          simp only [mergeD] at e
          split at e
          · rename_i ok
            obtain ⟨_, _, _, ⟨ht, _⟩ | ⟨ht, _⟩⟩ := keyOk_of ok
            · exact .inr fun k v z => by cases z; exact ht
            · exact .inl fun k v z => by cases z; exact ht
          · cases e
      rcases hcl with hcl | hcl
      · obtain ⟨lps, g1, g2⟩ := mergeL p1 e (ls := []) .nil (fun p hp => by cases hp) fun _ => hcl
        have hl3 := EachIs.length g1
        refine L2.call_dict_pairs (items := its.toArray) (I.ok.hd hc) ho hcl0 hdn0 hda0 (prs := lps) (by rw [List.size_toArray]; omega) (by omega) (fun j p hj => ?_) fun h' tk hd' hk => ?_
        · obtain ⟨pr, hpr⟩ : ∃ pr, prs[j]? = some pr := ⟨prs[j]'(by have := (List.getElem?_eq_some_iff.mp hj).1; omega), List.getElem?_eq_getElem _⟩
          obtain ⟨it, w1, b, rfl, w2⟩ := EachIs.get p2 hpr
          obtain ⟨p', w3, w4, w5⟩ := EachIs.get g1 hpr
          rw [hj] at w3
          cases w3
          exact ⟨b, pr.1, by simpa using w1, by rw [w5]; exact w2, w4⟩
        · obtain ⟨o2, es2, q1, q2⟩ := DAt.ofL hd' g2 (Inv.nosys I) hlo
          exact lay_dict (s := s) I (t' := tk) t hk (Nat.le_refl _) q1 q2 fun p H' sm ps => q _ _ sm ps
      · obtain ⟨tps, g1, g2⟩ := mergeT I p1 e (xs := []) .nil (fun p hp => by cases hp) fun _ => hcl
        have hl3 := EachIs.length g1
        refine PySem.call_dict_pairsH (knd := nestedKind X.prog X.w) (ps := tps) (PairArg.list (prog := X.prog) (w := X.w) a its.toArray (fun j => match its[j]? with | some (.ref b) => b | _ => 0) prs) (I.ok.hd hc) ?_ ⟨⟨o0, n, ho, hcl0, hdn0, hda0⟩, by rw [List.size_toArray]; omega, fun j k v hj => ?_⟩ ⟨by omega, fun j k v hj => ?_⟩ (fun h' hk x hx => ?_) (by omega) fun h' tk hd' hk => ?_
        · show X.A.in1.in1.units + 8 < cLine
          simp only [Around.in1_units]
          omega
        · obtain ⟨it, w1, b, rfl, w2⟩ := EachIs.get p2 hj
          have ea : (match its[j]? with | some (.ref b) => b | _ => 0) = b := by rw [w1]
          show its.toArray[j]? = some (.ref (match its[j]? with | some (.ref b) => b | _ => 0)) ∧ PairAt s.heap (match its[j]? with | some (.ref b) => b | _ => 0) k v
          rw [ea]
          exact ⟨by simpa using w1, .inl w2⟩
        · obtain ⟨p', w3, w4, w5, w6⟩ := EachIs.get g1 (show prs[j]? = some (k, v) from hj)
          refine ⟨p'.1, p'.2.1, ?_, w4⟩
          rw [w3]
          congr 1
          have w5' : p'.2.2 = v := w5
          show p' = (p'.1, p'.2.1, v)
          rw [← w5']
        · have : ∀ {tps : List (NestedKey × Addr × Value)} {prs : List (Value × Value)}, EachIs (fun (tp : NestedKey × Addr × Value) (pr : Value × Value) => pr.1 = .ref tp.2.1 ∧ tp.2.2 = pr.2 ∧ NestedIs s.heap tp.1 (.ref tp.2.1) ∧ tp.1.depth ≤ 8) tps prs → ∀ x ∈ tps, NestedIs s.heap x.1 (.ref x.2.1) ∧ x.1.depth ≤ 8 := by
            intro tps prs t
            induction t with
            | nil => intro x hx; cases hx
            | cons r t ih =>
              intro x hx
              rcases List.mem_cons.mp hx with rfl | hx
              · exact r.2.2
              · exact ih x hx
          obtain ⟨w1, w2⟩ := this g1 x hx
          exact ⟨NestedIs.at (fun b o vs n hb _ => hk b o (Nat.ne_of_lt (Heap.lt_size hb)) (by simp) hb) _ _ w1, w2⟩
        · obtain ⟨o2, es2, q1, q2⟩ := DAt.ofT hd' g2 (Inv.nosys I) hlo
          exact lay_dict (s := s) I (t' := tk) t (fun b o e => hk b o (by simp) e) (Nat.le_refl _) q1 q2 fun p H' sm ps => q _ _ sm ps
    · cases e
end
end RW
/-! Subscripts, slices, in, index, count, the rest. -/
namespace RW
open PySem PySem.Spec PyProof.Rows L2
open PySem.W (EachIs)
section
variable {X : Cx} {pins : List (Addr × Obj)} {σ : L2.St} {H : Hp} {s : Shared} {W : Addr → Prop} {K : PySem.W.Frag} {w : World} {P : Program}
theorem ixAt_atI {α : Type} {xs : List α} {i : Int} {j : Nat} {v : α} (h : ixAt xs.length i = some j) (e : xs[j]? = some v) : atI xs i = some v := by
  unfold atI
  rw [ixAt_ixN h]
  exact e
theorem d_ix (hu : X.A.units + 200 < cLine) : IxR X (r2 false X.K X.w ixD) := by
  rintro value slice pins s σ H x y v u Q I rx ry ⟨W, dx, dy, d, t, bx, by_, e, q⟩ hs
  cases dx <;> first | (cases e; done) | skip
  case dict kvs => exact ix_dict hu value slice pins s σ H x y v u Q I rx ry ⟨W, .dict kvs, dy, d, t, bx, by_, e, q⟩ hs
  case list xs =>
    cases dy <;> first | (cases e; done) | skip
    case int i =>
      simp only [ixD, Option.bind_eq_some_iff] at e
      obtain ⟨j, e1, e2⟩ := e
      obtain ⟨a, vs, rfl, h1, h2⟩ := bx.lst
      obtain rfl := by_.int
      obtain ⟨z, g1, g2⟩ := h2.get e2
      exact ix_list value slice pins s σ H _ _ v u Q I rx ry ⟨a, vs, i, z, rfl, rfl, h1, ixAt_atI (by rw [h2.length]; exact e1) g1, q _ _ same_refl (.old g2)⟩ hs
  case tuple xs =>
    cases dy <;> first | (cases e; done) | skip
    case int i =>
      simp only [ixD, Option.bind_eq_some_iff] at e
      obtain ⟨j, e1, e2⟩ := e
      obtain ⟨a, vs, rfl, h1, h2⟩ := bx.tup
      obtain rfl := by_.int
      obtain ⟨z, g1, g2⟩ := h2.get e2
      exact ix_tup value slice pins s σ H _ _ v u Q I rx ry ⟨a, vs, i, z, rfl, rfl, h1.1, ixAt_atI (by rw [h2.length]; exact e1) g1, q _ _ same_refl (.old g2)⟩ hs
  case str x' =>
    cases dy <;> first | (cases e; done) | skip
    case int i =>
      simp only [ixD] at e
      split at e
      · rename_i hf
        simp only [Option.bind_eq_some_iff, Option.map_eq_some_iff] at e
        obtain ⟨j, e1, c, e2, rfl⟩ := e
        obtain rfl := bx.str
        obtain rfl := by_.int
        exact ix_str value slice pins s σ H _ _ v u Q I rx ry ⟨x', i, c, rfl, rfl, fits hf, ixAt_atI (by rw [show x'.cps.toList.length = x'.length by simp [Str.length]]; exact e1) e2, q _ _ same_refl (.old (.str _))⟩ hs
      · cases e
/-- a slice: what it gives -/
def rSl (K : PySem.W.Frag) (w : World) : V → Option Int → Option Int → Hp → VK → Prop := fun x lo hi H Q =>
  ∃ W dx d, Wt H W ∧ RB K w H W x dx ∧ sliceD dx lo hi = some d ∧ ∀ z H', Same H H' → Pst true K w W H H' z d → Q z H'
theorem cut_rps {xs : List V} {ds : List PyData} (h : Rps K w H W xs ds) (lo hi : Option Int) : Rps K w H W (cutV xs lo hi) (cutL ds lo hi) := by
  have e : ∀ (n d : Nat) (o : Option Int), HT.sIx n d o = sAt n d o := fun n d o => by cases o <;> rfl
  unfold cutV cutL
  rw [h.length, e, e]
  exact Rps.take _ (Rps.drop _ h)
theorem d_slice : SlR X (rSl X.K X.w) := by
  rintro pins s σ H x v vl vu lo hi sl Q I rx hs pl pu ⟨W, dx, d, t, bx, e, q⟩
  cases dx <;> first | (cases e; done) | skip
  case list ds =>
    cases e
    obtain ⟨a, xs, rfl, h1, h2⟩ := bx.lst
    exact sl_list pins s σ H _ v vl vu lo hi sl Q I rx hs pl pu ⟨a, xs, rfl, h1, fun p hp => q _ _ (same_upd hp) (.newL t hp (cut_rps h2 lo hi))⟩
  case tuple ds =>
    cases e
    obtain ⟨a, xs, rfl, h1, h2⟩ := bx.tup
    refine sl_tupF pins s σ H _ v vl vu lo hi sl Q I rx hs pl pu ⟨a, xs, rfl, h1.1, fun hw => q _ _ same_refl (.imm (.tup h1 ?_) rfl), fun _ p ob hp ho => q _ _ (same_upd hp) (.newT hp ho (cut_rps h2 lo hi))⟩
    have := cut_rps h2 lo hi
    unfold cutV at this
    rw [hw.1, hw.2] at this
    simpa using this
theorem d_in (hu : X.A.units + 200 < cLine) : OpR X (compareOp .In) (r2 true X.K X.w (u2 .isin)) := by
  intro pins s σ H x y v u Q I rx ry ⟨W, dx, dy, d, t, bx, by_, e, q⟩
  cases dy <;> first | (cases e; done) | skip
  case dict kvs => exact in_dict hu pins s σ H x y v u Q I rx ry ⟨W, dx, .dict kvs, d, t, bx, by_, e, q⟩
  case list ds =>
    simp only [u2, inB] at e
    split at e
    · rename_i h
      cases e
      simp only [Bool.and_eq_true] at h
      obtain ⟨as, ra⟩ := Rp.reads I _ _ _ bx.now rx
      obtain ⟨bs, rb⟩ := Rp.reads I _ _ _ by_.now ry
      have h1 := okD_of h.1
      have h2 := okDs_of h.2
      exact SeqAt.in_list_data rb ra h2.1 h1.1 (by omega) ⟨.bl _, H, I, rfl, q _ _ same_refl (.bl _)⟩
    · cases e
  case tuple ds =>
    simp only [u2, inB] at e
    split at e
    · rename_i h
      cases e
      simp only [Bool.and_eq_true] at h
      obtain ⟨as, ra⟩ := Rp.reads I _ _ _ bx.now rx
      obtain ⟨bs, rb⟩ := Rp.reads I _ _ _ by_.now ry
      have h1 := okD_of h.1
      have h2 := okDs_of h.2
      exact SeqAt.in_tuple_data rb ra h2.1 h1.1 (by omega) ⟨.bl _, H, I, rfl, q _ _ same_refl (.bl _)⟩
    · cases e
theorem d_notin (hu : X.A.units + 200 < cLine) : OpR X (compareOp .NotIn) (r2 true X.K X.w (u2 .notin)) := by
  intro pins s σ H x y v u Q I rx ry ⟨W, dx, dy, d, t, bx, by_, e, q⟩
  cases dy <;> first | (cases e; done) | skip
  case dict kvs => exact notin_dict hu pins s σ H x y v u Q I rx ry ⟨W, dx, .dict kvs, d, t, bx, by_, e, q⟩
  case list ds =>
    simp only [u2, inB] at e
    split at e
    · rename_i h
      cases e
      simp only [Bool.and_eq_true] at h
      obtain ⟨as, ra⟩ := Rp.reads I _ _ _ bx.now rx
      obtain ⟨bs, rb⟩ := Rp.reads I _ _ _ by_.now ry
      have h1 := okD_of h.1
      have h2 := okDs_of h.2
      exact SeqAt.notIn_list_data rb ra h2.1 h1.1 (by omega) ⟨.bl _, H, I, rfl, q _ _ same_refl (.bl _)⟩
    · cases e
  case tuple ds =>
    simp only [u2, inB] at e
    split at e
    · rename_i h
      cases e
      simp only [Bool.and_eq_true] at h
      obtain ⟨as, ra⟩ := Rp.reads I _ _ _ bx.now rx
      obtain ⟨bs, rb⟩ := Rp.reads I _ _ _ by_.now ry
      have h1 := okD_of h.1
      have h2 := okDs_of h.2
      exact SeqAt.notIn_tuple_data rb ra h2.1 h1.1 (by omega) ⟨.bl _, H, I, rfl, q _ _ same_refl (.bl _)⟩
    · cases e
theorem d_sub : OpR X (binaryOp .Sub) (r2 true X.K X.w subD) := by
  intro pins s σ H x y v u Q I rx ry ⟨W, dx, dy, d, t, bx, by_, e, q⟩
  cases dx <;> cases dy <;> first | (cases e; done) | skip
  case int.int a b =>
    cases e
    obtain rfl := bx.int
    obtain rfl := by_.int
    exact op_sub pins s σ H _ _ v u Q I rx ry ⟨a, b, rfl, rfl, q _ _ same_refl (.int _)⟩
  case bool.bool a b =>
    cases e
    obtain rfl := bx.bl
    obtain rfl := by_.bl
    cases rx
    cases ry
    exact PyProof.Rows.sub_bool ⟨.int _, H, I.tok _, ⟨_, rfl⟩, q _ _ same_refl (.int _)⟩
theorem d_neg : UnR X (unaryOp .USub) (r1 true X.K X.w negD) := by
  intro pins s σ H x v Q I rx ⟨W, dx, d, t, bx, e, q⟩
  cases dx <;> first | (cases e; done) | skip
  case int i =>
    cases e
    obtain rfl := bx.int
    exact un_neg pins s σ H _ v Q I rx ⟨i, rfl, q _ _ same_refl (.int _)⟩
theorem isNone_of {x : V} {dx : PyData} (h : RB K w H W x dx) : decide (x = .non) = isNone dx := by
  have := h.now
  cases this <;> first | rfl | simp [isNone]
theorem d_isN : OpR X (compareOp .Is) (fun x y H Q => y = .non ∧ r1 true X.K X.w (u1 .isN) x H Q) := by
  rintro pins s σ H x y v u Q I rx ry ⟨rfl, W, dx, d, t, bx, e, q⟩
  cases e
  refine op_isN pins s σ H _ _ v u Q I rx ry ⟨rfl, ?_⟩
  rw [isNone_of bx]
  exact q _ _ same_refl (.bl _)
theorem d_notN : OpR X (compareOp .IsNot) (fun x y H Q => y = .non ∧ r1 true X.K X.w (u1 .notN) x H Q) := by
  rintro pins s σ H x y v u Q I rx ry ⟨rfl, W, dx, d, t, bx, e, q⟩
  cases e
  refine op_notN pins s σ H _ _ v u Q I rx ry ⟨rfl, ?_⟩
  rw [isNone_of bx]
  exact q _ _ same_refl (.bl _)
/-! methods -/
theorem place_of {ds : List PyData} {d : PyData} {j : Nat} (h : indexIn.dataPlace ds d = some j) : ∃ hj : j < ds.length, PyData.eqv ds[j] d = true ∧ ∀ (m : Nat) (hm : m < ds.length), m < j → PyData.eqv ds[m] d = false := by
  unfold indexIn.dataPlace at h
  obtain ⟨h1, h2, h3⟩ := List.findIdx?_eq_some_iff_getElem.mp h
  exact ⟨h1, h2, fun m hm hmj => by simpa using h3 m hmj⟩
theorem indexIn_of {xs : List PyData} {x d : PyData} (e : indexIn xs x = some d) : okDs xs = true ∧ okD x = true ∧ xs.length ≤ sizeLine ∧ ∃ j, d = .int (j : Nat) ∧ indexIn.dataPlace xs x = some j := by
  unfold indexIn at e
  split at e
  · rename_i h
    simp only [Bool.and_eq_true] at h
    simp only [Option.map_eq_some_iff] at e
    obtain ⟨j, e, rfl⟩ := e
    exact ⟨h.1.1, h.1.2, fits h.2, j, rfl, e⟩
  · cases e
theorem map_readOf {h : Heap} {its : List Value} {ds : List PyData} {as : List Addr} (h4 : ReadsAll h its ds as) (hp : PyData.plainAll ds = true) : its.map (SeqAt.readOf h) = ds := SeqAt.readsAll_map_plain ds its as hp h4
theorem d_lindex (hu : X.A.units + 200 < cLine) : MtR X "list.index" (fun x xs H Q => ∃ y, xs = [y] ∧ r2 true X.K X.w (u2 .lindex) x y H Q) := by
  rintro pins s σ H x xs v us Q I rx r ⟨y, rfl, W, dx, dy, d, t, bx, by_, e, q⟩
  obtain ⟨u, rfl, ry⟩ := Vals.one r
  cases dx <;> first | (cases e; done) | skip
  case list ds =>
    simp only [u2] at e
    obtain ⟨o1, o2, o3, j, rfl, hj⟩ := indexIn_of e
    obtain ⟨j1, j2, j3⟩ := place_of hj
    obtain ⟨a, vs, rfl, h1, h2⟩ := bx.lst
    cases rx
    obtain ⟨its, rv, ⟨⟨cls, dd, data, sls⟩, n, ho, hc, hdn, hd⟩, hz⟩ := I.list h1
    simp only at hc hd hdn
    subst hc hd hdn
    obtain ⟨as, ra⟩ := Rps.reads I _ _ _ h2 rv
    obtain ⟨bs, rb⟩ := Rp.reads I _ _ _ by_.now ry
    have p1 := okDs_of o1
    have p2 := okD_of o2
    have hm := map_readOf ra p1.1
    have hl : its.length = ds.length := by rw [← hm, List.length_map]
    have hsl := sizeLine_eq
    have at_ : ∀ (m : Nat) (hmm : m < its.toArray.size) (hd : m < ds.length), SeqAt.readOf s.heap its.toArray[m] = ds[m] := by
      intro m hmm hd
      have e1 : ds[m]? = (its.map (SeqAt.readOf s.heap))[m]? := by rw [hm]
      rw [List.getElem?_map, List.getElem?_eq_getElem hd, List.getElem?_eq_getElem (by omega)] at e1
      simpa using (Option.some.inj e1).symm
    refine call_meets PySem.F.slot_list_index ⟨_, ho, rfl⟩ PySem.F.entry_list_index (PySem.F.args_list_index_2 _ _)
      (SeqAt.list_indexAt a its.toArray n none sls u (fun u => PyData.eqv (SeqAt.readOf s.heap u) dy) j (by rw [List.size_toArray]; omega) (by omega) ?_ ?_) ⟨ho, SeqAt.items_plain (vs := its.toArray) ra rb p1.1 p2.1 (by omega), ?_⟩
    · have hj' : j < its.toArray.size := by rw [List.size_toArray]; omega
      show PyData.eqv (SeqAt.readOf s.heap its.toArray[j]) dy = true
      rw [at_ j hj' j1]
      exact j2
    · intro m hmm hmj
      show PyData.eqv (SeqAt.readOf s.heap its.toArray[m]) dy = false
      rw [List.size_toArray] at hmm
      rw [at_ m (by rw [List.size_toArray]; omega) (by omega)]
      exact j3 m _ hmj
    · exact ⟨.int (j : Nat), H, I.tok _, ⟨_, rfl⟩, q _ _ same_refl (.int _)⟩
theorem d_tindex (hu : X.A.units + 200 < cLine) : MtR X "tuple.index" (fun x xs H Q => ∃ y, xs = [y] ∧ r2 true X.K X.w (u2 .tindex) x y H Q) := by
  rintro pins s σ H x xs v us Q I rx r ⟨y, rfl, W, dx, dy, d, t, bx, by_, e, q⟩
  obtain ⟨u, rfl, ry⟩ := Vals.one r
  cases dx <;> first | (cases e; done) | skip
  case tuple ds =>
    simp only [u2] at e
    obtain ⟨o1, o2, o3, j, rfl, hj⟩ := indexIn_of e
    obtain ⟨j1, j2, j3⟩ := place_of hj
    obtain ⟨a, vs, rfl, h1, h2⟩ := bx.tup
    cases rx
    obtain ⟨its, rv, ⟨⟨cls, dd, data, sls⟩, ho, hc, n, hd⟩, hz⟩ := I.tuple h1.1
    simp only at hc hd
    subst hc hd
    obtain ⟨as, ra⟩ := Rps.reads I _ _ _ h2 rv
    obtain ⟨bs, rb⟩ := Rp.reads I _ _ _ by_.now ry
    have p1 := okDs_of o1
    have p2 := okD_of o2
    have hm := map_readOf ra p1.1
    have hl : its.length = ds.length := by rw [← hm, List.length_map]
    have at_ : ∀ (m : Nat) (hmm : m < its.toArray.size) (hd : m < ds.length), SeqAt.readOf s.heap its.toArray[m] = ds[m] := by
      intro m hmm hd
      have e1 : ds[m]? = (its.map (SeqAt.readOf s.heap))[m]? := by rw [hm]
      rw [List.getElem?_map, List.getElem?_eq_getElem hd, List.getElem?_eq_getElem (by omega)] at e1
      simpa using (Option.some.inj e1).symm
    refine call_meets PySem.F.slot_tuple_index ⟨_, ho, rfl⟩ PySem.F.entry_tuple_index (PySem.F.args_tuple_index_2 _ _)
      (TI.tuple_indexAt a its.toArray n dd sls u (fun u => PyData.eqv (SeqAt.readOf s.heap u) dy) j (by rw [List.size_toArray]; omega) ?_ ?_) ⟨ho, SeqAt.items_plain (vs := its.toArray) ra rb p1.1 p2.1 (by omega), ?_⟩
    · have hj' : j < its.toArray.size := by rw [List.size_toArray]; omega
      show PyData.eqv (SeqAt.readOf s.heap its.toArray[j]) dy = true
      rw [at_ j hj' j1]
      exact j2
    · intro m hmm hmj
      show PyData.eqv (SeqAt.readOf s.heap its.toArray[m]) dy = false
      rw [List.size_toArray] at hmm
      rw [at_ m (by rw [List.size_toArray]; omega) (by omega)]
      exact j3 m _ hmj
    · exact ⟨.int (j : Nat), H, I.tok _, ⟨_, rfl⟩, q _ _ same_refl (.int _)⟩
theorem countIn_of {xs : List PyData} {x d : PyData} (e : countIn xs x = some d) : okDs xs = true ∧ okD x = true ∧ d = .int ((xs.countP fun y => PyData.eqv y x : Nat) : Int) := by
  unfold countIn at e
  split at e
  · rename_i h
    simp only [Bool.and_eq_true] at h
    cases e
    exact ⟨h.1, h.2, rfl⟩
  · cases e
theorem d_lcount (hu : X.A.units + 200 < cLine) : MtR X "list.count" (fun x xs H Q => ∃ y, xs = [y] ∧ r2 true X.K X.w (u2 .lcount) x y H Q) := by
  rintro pins s σ H x xs v us Q I rx r ⟨y, rfl, W, dx, dy, d, t, bx, by_, e, q⟩
  obtain ⟨u, rfl, ry⟩ := Vals.one r
  cases dx <;> first | (cases e; done) | skip
  case list ds =>
    simp only [u2] at e
    obtain ⟨o1, o2, rfl⟩ := countIn_of e
    obtain ⟨a, vs, rfl, h1, h2⟩ := bx.lst
    cases rx
    obtain ⟨its, rv, pl, hz⟩ := I.list h1
    obtain ⟨as, ra⟩ := Rps.reads I _ _ _ h2 rv
    obtain ⟨bs, rb⟩ := Rp.reads I _ _ _ by_.now ry
    have p1 := okDs_of o1
    have p2 := okD_of o2
    exact SeqAt.count_list_data (vs := its.toArray) pl.isList ra rb p1.1 p2.1 (by omega) ⟨.int _, H, I.tok _, ⟨_, rfl⟩, q _ _ same_refl (.int _)⟩
theorem d_tcount (hu : X.A.units + 200 < cLine) : MtR X "tuple.count" (fun x xs H Q => ∃ y, xs = [y] ∧ r2 true X.K X.w (u2 .tcount) x y H Q) := by
  rintro pins s σ H x xs v us Q I rx r ⟨y, rfl, W, dx, dy, d, t, bx, by_, e, q⟩
  obtain ⟨u, rfl, ry⟩ := Vals.one r
  cases dx <;> first | (cases e; done) | skip
  case tuple ds =>
    simp only [u2] at e
    obtain ⟨o1, o2, rfl⟩ := countIn_of e
    obtain ⟨a, vs, rfl, h1, h2⟩ := bx.tup
    cases rx
    obtain ⟨its, rv, ht, hz⟩ := I.tuple h1.1
    obtain ⟨as, ra⟩ := Rps.reads I _ _ _ h2 rv
    obtain ⟨bs, rb⟩ := Rp.reads I _ _ _ by_.now ry
    have p1 := okDs_of o1
    have p2 := okD_of o2
    exact SeqAt.count_tuple_data (vs := its.toArray) ht ra rb p1.1 p2.1 (by omega) ⟨.int _, H, I.tok _, ⟨_, rfl⟩, q _ _ same_refl (.int _)⟩
end
end RW
/-! The environment, the readings. -/
namespace RW
open PySem PySem.Spec PyProof.Rows L2
/-- the slots σ stand for the environment ρ -/
structure EnvOk (K : PySem.W.Frag) (w : World) (H : Hp) (W : Addr → Prop) (ω : Om) (σ : L2.St) (ρ : Sls) : Prop where
  pu : ∀ (i : Nat) (d : PyData), ρ[i]? = some (.pu d) → ∃ v, σ[i]? = some (some v) ∧ Rp K w H W v d
  ow : ∀ (i : Nat) (d : PyData), ρ[i]? = some (.ow d) → ∃ a, σ[i]? = some (some (V.ref a)) ∧ W a ∧ Ct K w H W a d
  bo : ∀ (i : Nat) (d : PyData), ρ[i]? = some (.bo d) → ∃ v, σ[i]? = some (some v) ∧ RB K w H W v d
  wr : ∀ (i : Nat), ρ[i]? = some .wr → ∃ p, ω = some p ∧ σ[i]? = some (some (V.ref p.1))
  len : σ.length = ρ.length
section
variable {K : PySem.W.Frag} {w : World} {H H' H0 : Hp} {W W' : Addr → Prop} {ω : Om} {σ : L2.St} {ρ : Sls} {n n' : Nat}
theorem RB.mono {v : V} {d : PyData} (k : Kept W H H') (t : KeptT H H') (c : ∀ a, W' a → ¬ W a → H a = none) (i : ∀ a, W a → W' a) (ka : ∀ a o, W a → (∀ kvs, H a ≠ some (.dK kvs)) → H a = some o → H' a = some o) (h : RB K w H W v d) : RB K w H' W' v d := by
  rcases h with h | ⟨a, e, h2, h3⟩
  · exact .inl (Rp.mono k t c _ _ h)
  · exact .inr ⟨a, e, i a h2, h3.mono k t c fun o q => ka a o h2 h3.nodk q⟩
theorem EnvOk.mono (e : EnvOk K w H W ω σ ρ) (k : Kept W H H') (t : KeptT H H') (c : ∀ a, W' a → ¬ W a → H a = none) (i : ∀ a, W a → W' a) (ka : ∀ a o, W a → (∀ kvs, H a ≠ some (.dK kvs)) → H a = some o → H' a = some o) : EnvOk K w H' W' ω σ ρ where
  pu := fun j d h => let ⟨v, h1, h2⟩ := e.pu j d h; ⟨v, h1, Rp.mono k t c _ _ h2⟩
  ow := fun j d h => let ⟨a, h1, h2, h3⟩ := e.ow j d h; ⟨a, h1, i a h2, h3.mono k t c fun o q => ka a o h2 h3.nodk q⟩
  bo := fun j d h => let ⟨v, h1, h2⟩ := e.bo j d h; ⟨v, h1, h2.mono k t c i ka⟩
  wr := e.wr
  len := e.len
theorem WOk.dk {a : Addr} {l : Addr} {dr : List Int} (k : WOk K (some (a, l, dr)) n H) : H a = some (.dK [(Sum.inr kDr, .ref l), (Sum.inr kAt, .int (n : Int))]) := k.1
theorem Ext.owned (x : Ext ω H H') (k : WOk K ω n H) : ∀ a o, (∀ kvs, H a ≠ some (.dK kvs)) → H a = some o → H' a = some o := fun a o hn h => x a o h fun p hp q => by
  subst hp
  obtain ⟨a', l, dr⟩ := p
  have q' : a = a' := q
  exact hn _ (by rw [q']; exact k.1)
theorem EnvOk.ext (e : EnvOk K w H W ω σ ρ) (x : Ext ω H H') (i : OmIn K ω W) (k : WOk K ω n H) : EnvOk K w H' W ω σ ρ :=
  e.mono (x.kept i) (x.keptT k) (fun _ h n => absurd h n) (fun _ h => h) fun a o _ hn h => x.owned k a o hn h
theorem RB.ext {v : V} {d : PyData} (e : RB K w H W v d) (x : Ext ω H H') (i : OmIn K ω W) (k : WOk K ω n H) : RB K w H' W v d :=
  e.mono (x.kept i) (x.keptT k) (fun _ h n => absurd h n) (fun _ h => h) fun a o _ hn h => x.owned k a o hn h
theorem Rp.ext {v : V} {d : PyData} (e : Rp K w H W v d) (x : Ext ω H H') (i : OmIn K ω W) (k : WOk K ω n H) : Rp K w H' W v d := Rp.mono (x.kept i) (x.keptT k) (fun _ h n => absurd h n) _ _ e
theorem Rps.ext {v : List V} {d : List PyData} (e : Rps K w H W v d) (x : Ext ω H H') (i : OmIn K ω W) (k : WOk K ω n H) : Rps K w H' W v d := Rps.mono (x.kept i) (x.keptT k) (fun _ h n => absurd h n) _ _ e
theorem Ext.none (x : Ext ω H H') (k : WOk K ω n' H') {a : Addr} (h : H' a = none) : H a = none := by
  cases e : H a with
  | none => rfl
  | some o =>
    exfalso
    by_cases hp : ∃ p, ω = some p ∧ a = p.1
    · obtain ⟨p, e1, e2⟩ := hp
      subst e1
      obtain ⟨a', l, dr⟩ := p
      have e2' : a = a' := e2
      have := k.1
      rw [← e2', h] at this
      cases this
    · have := x a o e fun p h1 h2 => hp ⟨p, h1, h2⟩
      rw [h] at this
      cases this
theorem Wt.ext (t : Wt H W) (x : Ext ω H H') (k : WOk K ω n' H') : Wt H' W := fun a h q => t a h (x.none k q)
theorem Same.ext (s : Same H H') : Ext ω H H' := fun b o h _ => s b o h
theorem WOk.same (k : WOk K ω n H) (s : Same H H') : WOk K ω n H' := by
  cases ω with
  | none => trivial
  | some q =>
    obtain ⟨a, l, dr⟩ := q
    obtain ⟨k1, k2, k3⟩ := k
    exact ⟨s _ _ k1, SqL.step k2 fun o _ e => s _ _ e, k3⟩
/-- the state of a walk -/
structure Stt (K : PySem.W.Frag) (w : World) (ω : Om) (W : Addr → Prop) (n : Nat) (ρ : Sls) (σ : L2.St) (H : Hp) : Prop where
  wt : Wt H W
  om : OmIn K ω W
  wk : WOk K ω n H
  ev : EnvOk K w H W ω σ ρ
theorem Stt.ext (s : Stt K w ω W n ρ σ H) (x : Ext ω H H') (k : WOk K ω n' H') : Stt K w ω W n' ρ σ H' := ⟨s.wt.ext x k, s.om, k, s.ev.ext x s.om s.wk⟩
/-- how a value comes: new; a datum; to be looked at -/
inductive Md where
  | fr | pu | bo
  deriving DecidableEq
def Post (m : Md) (K : PySem.W.Frag) (w : World) (W : Addr → Prop) (H0 H' : Hp) (v : V) (d : PyData) : Prop :=
  match m with
  | .fr => Pst true K w W H0 H' v d
  | .pu => Pst false K w W H0 H' v d
  | .bo => RB K w H' W v d
theorem Pst.post {v : V} {d : PyData} (m : Md) (h : Pst true K w W H H' v d) : Post m K w W H H' v d := by
  cases m with
  | fr => exact h
  | pu => exact .old h.1
  | bo => exact .inl h.1
theorem Post.rb {m : Md} {v : V} {d : PyData} (h : Post m K w W H H' v d) : RB K w H' W v d := by
  cases m with
  | fr => exact .inl h.1
  | pu => exact .inl h.1
  | bo => exact h
theorem Pst.base {fr : Bool} {v : V} {d : PyData} (x : Ext ω H0 H) (k : WOk K ω n H) (h : Pst fr K w W H H' v d) : Pst fr K w W H0 H' v d :=
  ⟨h.1, fun a b => let ⟨p, e, q, c⟩ := h.2 a b; ⟨p, e, x.none k q, c⟩⟩
theorem Post.base {m : Md} {v : V} {d : PyData} (x : Ext ω H0 H) (k : WOk K ω n H) (h : Post m K w W H H' v d) : Post m K w W H0 H' v d := by
  cases m with
  | fr => exact Pst.base x k h
  | pu => exact Pst.base x k h
  | bo => exact h
theorem Post.imm {m : Md} {v : V} {d : PyData} (h : Rp K w H' W v d) (e : mutD d = false) : Post m K w W H H' v d := by
  cases m with
  | fr => exact Pst.imm h e
  | pu => exact Pst.imm h e
  | bo => exact .inl h
/-- what is to be shown of the value and the heap -/
def Cn (m : Md) (K : PySem.W.Frag) (w : World) (ω : Om) (W : Addr → Prop) (n' : Nat) (H : Hp) (d : PyData) (Q : VK) : Prop := ∀ v H', Ext ω H H' → WOk K ω n' H' → Post m K w W H H' v d → Q v H'
def CnL (K : PySem.W.Frag) (w : World) (ω : Om) (W : Addr → Prop) (n' : Nat) (H : Hp) (P : Hp → List V → Prop) (Q : List V → Hp → Prop) : Prop := ∀ vs H', Ext ω H H' → WOk K ω n' H' → P H' vs → Q vs H'
abbrev CC := List Int → Orc
def tE (K : PySem.W.Frag) (w : World) (C : CC) (m : Md) (f : Orc → Sls → M PyData) : TE := fun σ H Q => ∃ ω W ρ n d n', Stt K w ω W n ρ σ H ∧ f (C (drOf ω)) ρ n = some (d, n') ∧ Cn m K w ω W n' H d Q
def tT (K : PySem.W.Frag) (w : World) (C : CC) (f : Orc → Sls → M Bool) : TT := fun σ H Q => ∃ ω W ρ n b n', Stt K w ω W n ρ σ H ∧ f (C (drOf ω)) ρ n = some (b, n') ∧ ∀ H', Ext ω H H' → WOk K ω n' H' → Q b H'
/-- arguments: how each comes -/
inductive ArgOk (K : PySem.W.Frag) (w : World) (H : Hp) (W : Addr → Prop) (ω : Om) : Pm → V → PyData → Prop
  | p {v : V} {d : PyData} : Rp K w H W v d → ArgOk K w H W ω .p v d
  | b {v : V} {d : PyData} : RB K w H W v d → ArgOk K w H W ω .b v d
  | w {d : PyData} {p : Addr × Addr × List Int} : ω = some p → ArgOk K w H W ω .w (.ref p.1) d
inductive ArgsOk (K : PySem.W.Frag) (w : World) (H : Hp) (W : Addr → Prop) (ω : Om) : List Pm → List V → List PyData → Prop
  | nil : ArgsOk K w H W ω [] [] []
  | cons {p : Pm} {ps : List Pm} {v : V} {vs : List V} {d : PyData} {ds : List PyData} : ArgOk K w H W ω p v d → ArgsOk K w H W ω ps vs ds → ArgsOk K w H W ω (p :: ps) (v :: vs) (d :: ds)
theorem ArgOk.ext {p : Pm} {v : V} {d : PyData} (h : ArgOk K w H W ω p v d) (x : Ext ω H H') (i : OmIn K ω W) (k : WOk K ω n H) : ArgOk K w H' W ω p v d := by
  cases h with
  | p h => exact .p (h.ext x i k)
  | b h => exact .b (h.ext x i k)
  | w h => exact .w h
theorem ArgsOk.ext {ps : List Pm} {vs : List V} {ds : List PyData} (h : ArgsOk K w H W ω ps vs ds) (x : Ext ω H H') (i : OmIn K ω W) (k : WOk K ω n H) : ArgsOk K w H' W ω ps vs ds := by
  induction h with
  | nil => exact .nil
  | cons a b ih => exact .cons (a.ext x i k) ih
theorem ArgsOk.rps {vs : List V} {ds : List PyData} {ps : List Pm} (h : ArgsOk K w H W ω ps vs ds) (hp : ∀ p ∈ ps, p = .p) : Rps K w H W vs ds := by
  induction h with
  | nil => exact .nil
  | cons a b ih =>
    have := hp _ List.mem_cons_self
    subst this
    cases a with
    | p a => exact .cons a (ih fun q hq => hp q (List.mem_cons_of_mem _ hq))
def tA (K : PySem.W.Frag) (w : World) (C : CC) (ps : List Pm) (f : Orc → Sls → M (List PyData)) : TA := fun σ H Q => ∃ ω W ρ n ds n', Stt K w ω W n ρ σ H ∧ f (C (drOf ω)) ρ n = some (ds, n') ∧ ∀ vs H', Ext ω H H' → WOk K ω n' H' → ArgsOk K w H' W ω ps vs ds → Q vs H'
/-- what a function promises -/
def spD (K : PySem.W.Frag) (w : World) (C : CC) (ps : List Pm) (j : Nat) : Sp := fun vs H Q _ => ∃ ω W n ds d n', Wt H W ∧ OmIn K ω W ∧ WOk K ω n H ∧ ArgsOk K w H W ω ps vs ds ∧ C (drOf ω) j ds n = some (d, n') ∧ ∀ v H', Ext ω H H' → WOk K ω n' H' → Rp K w H' W v d → Q v H'
end
/-! readings joined -/
theorem bnd_some {α β : Type} {m : M α} {f : α → M β} {n : Nat} {r : β × Nat} (h : bnd m f n = some r) : ∃ a n1, m n = some (a, n1) ∧ f a n1 = some r := by
  unfold bnd at h
  split at h
  · rename_i p e
    exact ⟨p.1, p.2, e, h⟩
  · cases h
theorem ret_some {α : Type} {a : α} {n : Nat} {r : α × Nat} (h : ret a n = some r) : r = (a, n) := by cases h; rfl
theorem lift_some {α : Type} {o : Option α} {n : Nat} {r : α × Nat} (h : lift o n = some r) : ∃ a, o = some a ∧ r = (a, n) := by
  unfold lift at h
  simp only [Option.map_eq_some_iff] at h
  obtain ⟨a, h1, h2⟩ := h
  exact ⟨a, h1, h2.symm⟩
section
variable {X : Cx} {C : CC} {m : Md} {e a b c : Expr} {pos : Pos}
/-- a weaker wish -/
theorem PE.weak {t t' : TE} (h : PE X e t) (i : ∀ σ H Q, t' σ H Q → t σ H Q) : PE X e t' := ⟨fun pins s σ H Q I q => h.run pins s σ H Q I (i _ _ _ q)⟩
theorem PT.weak {t t' : TT} (h : PT X e t) (i : ∀ σ H Q, t' σ H Q → t σ H Q) : PT X e t' := ⟨fun pins s σ H Q I q => h.run pins s σ H Q I (i _ _ _ q)⟩
theorem PA.weak {es : List Expr} {t t' : TA} (h : PA X es t) (i : ∀ σ H Q, t' σ H Q → t σ H Q) : PA X es t' := ⟨fun pos pins s σ H Q I q => h.run pos pins s σ H Q I (i _ _ _ q)⟩
theorem PI.weak {tg it : Expr} {t t' : TI} (h : PI X tg it t) (i : ∀ σ H Q, t' σ H Q → t σ H Q) : PI X tg it t' := ⟨fun pins s σ H Q I q => h.run pins s σ H Q I (i _ _ _ q)⟩
variable {K : PySem.W.Frag} {w : World}
/-- one operand -/
theorem tE_un {g : PyData → Option PyData} {fa : Orc → Sls → M PyData} {fr : Bool} (hm2 : fr = true ∨ m = .pu ∨ m = .bo) : ∀ σ H Q, tE K w C m (fun O ρ => bnd (fa O ρ) fun x => lift (g x)) σ H Q → tE K w C .bo fa σ H fun x H1 => r1 fr K w g x H1 Q := by
  rintro σ H Q ⟨ω, W, ρ, n, d, n', st, ev, k⟩
  obtain ⟨x, n1, e1, e2⟩ := bnd_some ev
  obtain ⟨d', e3, e4⟩ := lift_some e2
  cases e4
  refine ⟨ω, W, ρ, n, x, n', st, e1, fun v H' x1 k1 p1 => ⟨W, x, d, st.wt.ext x1 k1, p1, e3, fun z H2 sm ps => k _ _ (x1.trans (Same.ext sm)) (k1.same sm) ?_⟩⟩
  cases fr with
  | true => exact Pst.post m (Pst.base x1 k1 ps)
  | false =>
    rcases hm2 with h | h | h
    · cases h
    · subst h; exact Pst.base x1 k1 ps
    · subst h; exact .inl ps.1
theorem tE_bin {g : PyData → PyData → Option PyData} {fa fb : Orc → Sls → M PyData} {fr : Bool} (hm2 : fr = true ∨ m = .pu ∨ m = .bo) : ∀ σ H Q, tE K w C m (fun O ρ => bnd (fa O ρ) fun x => bnd (fb O ρ) fun y => lift (g x y)) σ H Q → tOp (r2 fr K w g) (tE K w C .bo fa) (tE K w C .bo fb) σ H Q := by
  rintro σ H Q ⟨ω, W, ρ, n, d, n', st, ev, k⟩
  obtain ⟨x, n1, e1, e2⟩ := bnd_some ev
  obtain ⟨y, n2, e2, e3⟩ := bnd_some e2
  obtain ⟨d', e5, e4⟩ := lift_some e3
  cases e4
  refine ⟨ω, W, ρ, n, x, n1, st, e1, fun v H1 x1 k1 p1 => ⟨ω, W, ρ, n1, y, n', st.ext x1 k1, e2, fun u H2 x2 k2 p2 => ⟨W, x, y, d, (st.wt.ext x1 k1).ext x2 k2, (Post.rb p1).ext x2 st.om k1, p2, e5, fun z H3 sm ps => k _ _ ((x1.trans x2).trans (Same.ext sm)) (k2.same sm) ?_⟩⟩⟩
  cases fr with
  | true => exact Pst.post m (Pst.base (x1.trans x2) k2 ps)
  | false =>
    rcases hm2 with h | h | h
    · cases h
    · subst h; exact Pst.base (x1.trans x2) k2 ps
    · subst h; exact .inl ps.1
end
end RW
/-! Soundness, term by term. -/
namespace RW
open PySem PySem.Spec PyProof.Rows L2
abbrev sE (X : Cx) (C : CC) (m : Md) (i : Ex) : TE := tE X.K X.w C m fun O => evE O i
abbrev sA (X : Cx) (C : CC) (ps : List Pm) (is : List Ex) : TA := tA X.K X.w C ps fun O => evEs O is
section
variable {X : Cx} {C : CC} {m : Md} {e a b c : Expr} {i ia ib ic : Ex} {pos p p2 : Pos}
theorem bnd_mk {α β : Type} {m : M α} {f : α → M β} {n n1 : Nat} {a : α} (h : m n = some (a, n1)) : bnd m f n = f a n1 := by unfold bnd; rw [h]
/-! the equations of the evaluator -/
theorem q_o1 {op : U1} : (fun O => evE O (.o1 op ia)) = fun O ρ => bnd (evE O ia ρ) fun x => lift (u1 op x) := by funext O ρ; rw [evE]
theorem q_o2 {op : U2} : (fun O => evE O (.o2 op ia ib)) = fun O ρ => bnd (evE O ia ρ) fun x => bnd (evE O ib ρ) fun y => lift (u2 op x y) := by funext O ρ; rw [evE]
theorem slGet_some {ρ : Sls} {i : Nat} {d : PyData} (h : slGet ρ i = some d) : ρ[i]? = some (.pu d) := by
  unfold slGet at h
  split at h
  · rename_i d' e; cases h; exact e
  · cases h
theorem slOw_some {ρ : Sls} {i : Nat} {d : PyData} (h : slOw ρ i = some d) : ρ[i]? = some (.ow d) := by
  unfold slOw at h
  split at h
  · rename_i d' e; cases h; exact e
  · cases h
theorem slW_some {ρ : Sls} {i : Nat} {d : PyData} (h : slW ρ i = some d) : ρ[i]? = some .wr := by
  unfold slW at h
  split at h
  · rename_i e; exact e
  · cases h
theorem ev_any {K : PySem.W.Frag} {w : World} {H : Hp} {W : Addr → Prop} {ω : Om} {σ : L2.St} {ρ : Sls} (ev : EnvOk K w H W ω σ ρ) {i : Nat} {d : PyData} (h : slAny ρ i = some d) : ∃ v, σ[i]? = some (some v) ∧ RB K w H W v d := by
  unfold slAny at h
  split at h
  · rename_i d' e; cases h; obtain ⟨v, h1, h2⟩ := ev.pu _ _ e; exact ⟨v, h1, .inl h2⟩
  · rename_i d' e; cases h; obtain ⟨a, h1, h2, h3⟩ := ev.ow _ _ e; exact ⟨_, h1, .inr ⟨a, rfl, h2, h3⟩⟩
  · rename_i d' e; cases h; exact ev.bo _ _ e
  · cases h
/-! names, constants -/
theorem s_v {j : Nat} {x : Str} (hm : m ≠ .fr) (h : PE X (.Name x pos) (tVar j)) : PE X (.Name x pos) (sE X C m (.v j)) := PE.weak h fun σ H Q ⟨ω, W, ρ, n, d, n', st, ev, k⟩ => by
  simp only [evE] at ev
  obtain ⟨d', e1, e2⟩ := lift_some ev
  cases e2
  obtain ⟨v, h1, h2⟩ := st.ev.pu _ _ (slGet_some e1)
  refine ⟨v, h1, k v H (Ext.refl _ _) st.wk ?_⟩
  cases m with
  | fr => exact absurd rfl hm
  | pu => exact .old h2
  | bo => exact .inl h2
theorem s_b {j : Nat} {x : Str} (h : PE X (.Name x pos) (tVar j)) : PE X (.Name x pos) (sE X C .bo (.b j)) := PE.weak h fun σ H Q ⟨ω, W, ρ, n, d, n', st, ev, k⟩ => by
  simp only [evE] at ev
  obtain ⟨d', e1, e2⟩ := lift_some ev
  cases e2
  obtain ⟨v, h1, h2⟩ := ev_any st.ev e1
  exact ⟨v, h1, k v H (Ext.refl _ _) st.wk h2⟩
def constD : Const → Option PyData
  | .int i => some (.int i)
  | .bool b => some (.bool b)
  | .none => some .none
  | .str x => some (.str x)
  | _ => none
theorem s_c {k : Nat} {d : PyData} {c : Const} (h : constD c = some d) : PE X (.Constant c k pos) (sE X C m (.c d)) := by
  have go : ∀ {v : V}, PE X (.Constant c k pos) (tC v) → (∀ H W, Rp X.K X.w H W v d) → mutD d = false → PE X (.Constant c k pos) (sE X C m (.c d)) := fun {v} h hr hm => PE.weak h fun σ H Q ⟨ω, W, ρ, n, d', n', st, ev, q⟩ => by
    simp only [evE] at ev
    cases ret_some ev
    exact q v H (Ext.refl _ _) st.wk (Post.imm (hr H W) hm)
  cases c with
  | int i => cases h; exact go pe_int (fun _ _ => .int i) rfl
  | bool b => cases h; exact go pe_bl (fun _ _ => .bl b) rfl
  | none => cases h; exact go pe_non (fun _ _ => .non) rfl
  | str x => cases h; exact go pe_str (fun _ _ => .str x) rfl
  | _ => cases h
theorem s_g {j : Nat} {x : Str} {d : PyData} {v : V} {u : Value} (hm : m ≠ .fr) (hg : Gl X x) (hu : X.mg x = some u) (r : RelV v u) (hC : ∀ dr n r, C dr j [] n = some r → r = (d, n)) (hr : ∀ H W, Rp X.K X.w H W v d) (hd : (x == ("__debug__" : Str)) = false) :
    PE X (.Name x pos) (sE X C m (.g j)) := PE.weak (pe_glob hg hu r hd) fun σ H Q ⟨ω, W, ρ, n, d', n', st, ev, q⟩ => by
  simp only [evE] at ev
  cases hC _ _ _ ev
  refine q v H (Ext.refl _ _) st.wk ?_
  cases m with
  | fr => exact absurd rfl hm
  | pu => exact .old (hr H W)
  | bo => exact .inl (hr H W)
/-! operators -/
def noStar : Expr → Bool
  | .Starred _ _ => false
  | _ => true
theorem star_of (h : noStar e = true) (es : List Expr) (env : Env) : starEach (e :: es) env = (false, eval e env) :: starEach es env := by
  cases e <;> first | rfl | cases h
theorem star_any {es : List Expr} {env : Env} (h : es.all noStar = true) : (backTo pos (starEach es env)).any (·.1) = false := by
  induction es with
  | nil => rfl
  | cons e es ih =>
    rw [List.all_cons, Bool.and_eq_true] at h
    rw [star_of h.1]
    show (false || (backTo pos (starEach es env)).any (·.1)) = false
    rw [ih h.2]
    rfl
def noSet : Expr → Bool
  | .Set _ _ _ => false
  | _ => true
theorem nobeh {op : CmpOp} (h : noSet b = true) : behindInMarks op b = false := by
  cases b <;> first | rfl | cases h
def noSlice : Expr → Bool
  | .Slice _ _ _ _ => false
  | _ => true
theorem plainIx (h : noSlice b = true) : PlainIx b := by
  intro o i
  cases b <;> first | rfl | cases h
theorem s_bin {op : U2} {o : Operator} (ho : OpR X (binaryOp o) (r2 true X.K X.w (u2 op))) (ha : PE X a (sE X C .bo ia)) (hb : PE X b (sE X C .bo ib)) : PE X (.BinOp a o b pos) (sE X C m (.o2 op ia ib)) :=
  PE.weak (pe_op ho ha hb) fun σ H Q h => by
    unfold sE at h
    rw [q_o2] at h
    exact tE_bin (.inl rfl) σ H Q h
theorem s_cmp {op : U2} {o : CmpOp} (ho : OpR X (compareOp o) (r2 true X.K X.w (u2 op))) (ha : PE X a (sE X C .bo ia)) (hb : PE X b (sE X C .bo ib)) (hs : noSet b = true) : PE X (.Compare a [o] [b] pos) (sE X C m (.o2 op ia ib)) :=
  PE.weak (pe_cmpR ho ha hb (nobeh hs)) fun σ H Q h => by
    unfold sE at h
    rw [q_o2] at h
    exact tE_bin (.inl rfl) σ H Q h
theorem s_ix (hu : X.A.units + 200 < cLine) (hm : m ≠ .fr) (ha : PE X a (sE X C .bo ia)) (hb : PE X b (sE X C .bo ib)) (hs : noSlice b = true) : PE X (.Subscript a b pos) (sE X C m (.o2 .ix ia ib)) :=
  PE.weak (pe_ix (d_ix hu) ha hb (plainIx hs)) fun σ H Q h => by
    unfold sE at h
    rw [q_o2] at h
    refine tE_bin (fr := false) (.inr ?_) σ H Q h
    cases m with
    | fr => exact absurd rfl hm
    | pu => exact .inl rfl
    | bo => exact .inr rfl
theorem s_isN {k : Nat} {op : U1} {o : CmpOp} (ho : OpR X (compareOp o) (fun x y H Q => y = .non ∧ r1 true X.K X.w (u1 op) x H Q)) (ha : PE X a (sE X C .bo ia)) : PE X (.Compare a [o] [.Constant .none k p] pos) (sE X C m (.o1 op ia)) :=
  PE.weak (pe_cmpR ho ha (pe_non (X := X) (j := k) (pos := p)) (nobeh rfl)) fun σ H Q h => by
    unfold sE at h
    rw [q_o1] at h
    have := tE_un (fr := true) (.inl rfl) σ H Q h
    obtain ⟨ω, W, ρ, n, d, n', st, ev, q⟩ := this
    exact ⟨ω, W, ρ, n, d, n', st, ev, fun v H' x1 k1 p1 => ⟨rfl, q v H' x1 k1 p1⟩⟩
theorem s_neg (ha : PE X a (sE X C .bo ia)) : PE X (.UnaryOp .USub a pos) (sE X C m (.o1 .neg ia)) :=
  PE.weak (pe_un d_neg ha) fun σ H Q h => by
    unfold sE at h
    rw [q_o1] at h
    exact tE_un (fr := true) (.inl rfl) σ H Q h
/-- a built-in of one argument -/
theorem s_call1 {op : U1} {id : String} {f : Str} (hc : CallR X (.builtin id) (c1 (r1 true X.K X.w (u1 op)))) (hg : Gl X f) (hm : X.mg f = none) (hv : bootBuiltins f = some (.builtin id)) (ha : PE X a (sE X C .bo ia)) (ns : noStar a = true) (hn : f ≠ "__name__") (hdb : (f == ("__debug__" : Str)) = false) :
    PE X (.Call (.Name f p) [a] [] pos) (sE X C m (.o1 op ia)) :=
  PE.weak (pe_callB hc hg hm hv (pa_cons ha pa_nil (star_of ns _ _)) hn hdb (star_of ns _ _) rfl) fun σ H Q h => by
    unfold sE at h
    rw [q_o1] at h
    have := tE_un (fr := true) (.inl rfl) σ H Q h
    obtain ⟨ω, W, ρ, n, d, n', st, ev, q⟩ := this
    exact ⟨ω, W, ρ, n, d, n', st, ev, fun v H' x1 k1 p1 => ⟨v, rfl, q v H' x1 k1 p1⟩⟩
theorem s_callT {op : U1} {T : String} {f : Str} (hc : CallR X (.type T) (c1 (r1 true X.K X.w (u1 op)))) (hg : Gl X f) (hm : X.mg f = none) (hv : bootBuiltins f = some (.type T)) (ha : PE X a (sE X C .bo ia)) (ns : noStar a = true) (hn : f ≠ "__name__") (hdb : (f == ("__debug__" : Str)) = false) :
    PE X (.Call (.Name f p) [a] [] pos) (sE X C m (.o1 op ia)) :=
  PE.weak (pe_callTy hc hg hm hv (pa_cons ha pa_nil (star_of ns _ _)) hn hdb (star_of ns _ _) rfl) fun σ H Q h => by
    unfold sE at h
    rw [q_o1] at h
    have := tE_un (fr := true) (.inl rfl) σ H Q h
    obtain ⟨ω, W, ρ, n, d, n', st, ev, q⟩ := this
    exact ⟨ω, W, ρ, n, d, n', st, ev, fun v H' x1 k1 p1 => ⟨v, rfl, q v H' x1 k1 p1⟩⟩
theorem s_call2 {op : U2} {id : String} {f : Str} (hc : CallR X (.builtin id) (c2 (r2 true X.K X.w (u2 op)))) (hg : Gl X f) (hm : X.mg f = none) (hv : bootBuiltins f = some (.builtin id)) (ha : PE X a (sE X C .bo ia)) (hb : PE X b (sE X C .bo ib)) (na : noStar a = true) (nb : noStar b = true) (hn : f ≠ "__name__") (hdb : (f == ("__debug__" : Str)) = false) :
    PE X (.Call (.Name f p) [a, b] [] pos) (sE X C m (.o2 op ia ib)) :=
  PE.weak (pe_callB hc hg hm hv (pa_cons ha (pa_cons hb pa_nil (star_of nb _ _)) (star_of na _ _)) hn hdb (star_of na _ _) (star_any (by simp [nb]))) fun σ H Q h => by
    unfold sE at h
    rw [q_o2] at h
    have := tE_bin (fr := true) (.inl rfl) σ H Q h
    obtain ⟨ω, W, ρ, n, d, n', st, ev, q⟩ := this
    refine ⟨ω, W, ρ, n, d, n', st, ev, fun v H' x1 k1 p1 => ?_⟩
    obtain ⟨ω', W', ρ', m', d', m'', st', ev', q'⟩ := q v H' x1 k1 p1
    exact ⟨ω', W', ρ', m', d', m'', st', ev', fun u H'' x2 k2 p2 => ⟨v, u, rfl, q' u H'' x2 k2 p2⟩⟩
theorem s_isa {ty : Ty} {T : String} {f g : Str} (hT : (match ty with | .int => "int" | .bool => "bool" | .str => "str" | .tup => "tuple" | .lst => "list" | .dict => "dict") = T) (hg : Gl X f) (hm : X.mg f = none) (hv : bootBuiltins f = some (.builtin "isinstance")) (hg2 : Gl X g) (hm2 : X.mg g = none) (hv2 : bootBuiltins g = some (.type T))
    (ha : PE X a (sE X C .bo ia)) (na : noStar a = true) (hn : f ≠ "__name__") (hdb : (f == ("__debug__" : Str)) = false) (hn2 : g ≠ "__name__") (hdb2 : (g == ("__debug__" : Str)) = false) : PE X (.Call (.Name f p) [a, .Name g p2] [] pos) (sE X C m (.o1 (.isa ty) ia)) :=
  PE.weak (pe_callB (d_isa hT) hg hm hv (pa_cons ha (pa_cons (pe_bltn (v := .ty T) hg2 hm2 hv2 rfl hn2 hdb2) pa_nil rfl) (star_of na _ _)) hn hdb (star_of na _ _) rfl) fun σ H Q h => by
    unfold sE at h
    rw [q_o1] at h
    have := tE_un (fr := true) (.inl rfl) σ H Q h
    obtain ⟨ω, W, ρ, n, d, n', st, ev, q⟩ := this
    exact ⟨ω, W, ρ, n, d, n', st, ev, fun v H' x1 k1 p1 => ⟨v, rfl, q v H' x1 k1 p1⟩⟩
/-! and, or, not, if -/
theorem boolM_some {x : PyData} {n : Nat} {r : Bool × Nat} (h : boolM x n = some r) : ∃ b, x = .bool b ∧ r = (b, n) := by
  cases x <;> first | (cases h; done) | exact ⟨_, rfl, (ret_some h)⟩
theorem s_and (ha : PE X a (sE X C .bo ia)) {rest : List Expr} (hb : PE X (.BoolOp .And (b :: rest) pos) (sE X C .bo ib)) : PE X (.BoolOp .And (a :: b :: rest) pos) (sE X C m (.an ia ib)) :=
  PE.weak (pe_and ha hb) fun σ H Q ⟨ω, W, ρ, n, d, n', st, ev, k⟩ => by
    simp only [evE] at ev
    obtain ⟨x, n1, e1, e2⟩ := bnd_some ev
    obtain ⟨q, n2, e2, e3⟩ := bnd_some e2
    obtain ⟨q', rfl, e4⟩ := boolM_some e2
    cases e4
    refine ⟨ω, W, ρ, n, _, _, st, e1, fun v H1 x1 k1 p1 => ⟨q, RB.bl p1, ?_⟩⟩
    cases q with
    | true =>
      simp only [if_true, Bool.false_eq_true, if_false] at e3
      obtain ⟨y, n3, e5, e6⟩ := bnd_some e3
      obtain ⟨z, n4, e6, e7⟩ := bnd_some e6
      obtain ⟨z', rfl, e8⟩ := boolM_some e6
      cases e8
      cases ret_some e7
      exact ⟨ω, W, ρ, _, _, _, st.ext x1 k1, e5, fun u H2 x2 k2 p2 => k u H2 (x1.trans x2) k2 (by rw [RB.bl p2]; exact Post.imm (.bl _) rfl)⟩
    | false =>
      simp only [if_true, Bool.false_eq_true, if_false] at e3
      cases ret_some e3
      exact k _ H1 x1 k1 (Post.imm (.bl _) rfl)
theorem s_or (ha : PE X a (sE X C .bo ia)) {rest : List Expr} (hb : PE X (.BoolOp .Or (b :: rest) pos) (sE X C .bo ib)) : PE X (.BoolOp .Or (a :: b :: rest) pos) (sE X C m (.or ia ib)) :=
  PE.weak (pe_or ha hb) fun σ H Q ⟨ω, W, ρ, n, d, n', st, ev, k⟩ => by
    simp only [evE] at ev
    obtain ⟨x, n1, e1, e2⟩ := bnd_some ev
    obtain ⟨q, n2, e2, e3⟩ := bnd_some e2
    obtain ⟨q', rfl, e4⟩ := boolM_some e2
    cases e4
    refine ⟨ω, W, ρ, n, _, _, st, e1, fun v H1 x1 k1 p1 => ⟨q, RB.bl p1, ?_⟩⟩
    cases q with
    | false =>
      simp only [if_true, Bool.false_eq_true, if_false] at e3
      obtain ⟨y, n3, e5, e6⟩ := bnd_some e3
      obtain ⟨z, n4, e6, e7⟩ := bnd_some e6
      obtain ⟨z', rfl, e8⟩ := boolM_some e6
      cases e8
      cases ret_some e7
      exact ⟨ω, W, ρ, _, _, _, st.ext x1 k1, e5, fun u H2 x2 k2 p2 => k u H2 (x1.trans x2) k2 (by rw [RB.bl p2]; exact Post.imm (.bl _) rfl)⟩
    | true =>
      simp only [if_true, Bool.false_eq_true, if_false] at e3
      cases ret_some e3
      exact k _ H1 x1 k1 (Post.imm (.bl _) rfl)
theorem s_not (ha : PE X a (sE X C .bo ia)) : PE X (.UnaryOp .Not a pos) (sE X C m (.nt ia)) :=
  PE.weak (pe_not ha) fun σ H Q ⟨ω, W, ρ, n, d, n', st, ev, k⟩ => by
    simp only [evE] at ev
    obtain ⟨x, n1, e1, e2⟩ := bnd_some ev
    obtain ⟨q, n2, e2, e3⟩ := bnd_some e2
    obtain ⟨q', rfl, e4⟩ := boolM_some e2
    cases e4
    cases ret_some e3
    exact ⟨ω, W, ρ, n, _, _, st, e1, fun v H1 x1 k1 p1 => ⟨q, RB.bl p1, k _ H1 x1 k1 (Post.imm (.bl _) rfl)⟩⟩
/-- tests -/
abbrev sT (X : Cx) (C : CC) (i : Ex) : TT := tT X.K X.w C fun O ρ => bnd (evE O i ρ) boolM
theorem s_ite (hc : PT X c (sT X C ic)) (ha : PE X a (sE X C m ia)) (hb : PE X b (sE X C m ib)) : PE X (.IfExp c a b pos) (sE X C m (.ite ic ia ib)) :=
  PE.weak (pe_ifExp hc ha hb) fun σ H Q ⟨ω, W, ρ, n, d, n', st, ev, k⟩ => by
    simp only [evE] at ev
    obtain ⟨x, n1, e1, e2⟩ := bnd_some ev
    obtain ⟨q, n2, e2, e3⟩ := bnd_some e2
    refine ⟨ω, W, ρ, n, q, n2, st, by show bnd _ _ n = _; rw [bnd_mk e1]; exact e2, fun H1 x1 k1 => ?_⟩
    cases q with
    | true => exact ⟨ω, W, ρ, _, _, _, st.ext x1 k1, e3, fun u H2 x2 k2 p2 => k u H2 (x1.trans x2) k2 (Post.base x1 k1 p2)⟩
    | false => exact ⟨ω, W, ρ, _, _, _, st.ext x1 k1, e3, fun u H2 x2 k2 p2 => k u H2 (x1.trans x2) k2 (Post.base x1 k1 p2)⟩
theorem tB_sT : ∀ σ H Q, sT X C i σ H Q → tB (sE X C .bo i) σ H Q := fun σ H Q ⟨ω, W, ρ, n, b, n', st, ev, k⟩ => by
  obtain ⟨x, n1, e1, e2⟩ := bnd_some ev
  obtain ⟨b', rfl, e3⟩ := boolM_some e2
  cases e3
  exact ⟨ω, W, ρ, n, _, _, st, e1, fun v H1 x1 k1 p1 => ⟨b, RB.bl p1, k H1 x1 k1⟩⟩
def plainTest : Expr → Bool
  | .Name _ _ => true
  | .Call _ _ _ _ => true
  | .Subscript _ _ _ => true
  | .Constant _ _ _ => true
  | _ => false
theorem s_tval (h : PE X e (sE X C .bo i)) (hp : plainTest e = true) : PT X e (sT X C i) := PT.weak (pt_val h (by cases e <;> first | (cases hp; done) | (intro _; rfl))) tB_sT
theorem s_tcmp {op : U2} {o : CmpOp} (ho : OpR X (compareOp o) (r2 true X.K X.w (u2 op))) (ha : PE X a (sE X C .bo ia)) (hb : PE X b (sE X C .bo ib)) (hs : noSet b = true) : PT X (.Compare a [o] [b] pos) (sT X C (.o2 op ia ib)) :=
  PT.weak (pt_cmpR ho ha hb (nobeh hs)) fun σ H Q h => by
    obtain ⟨ω, W, ρ, n, d, n', st, ev, q⟩ := tB_sT σ H Q h
    have h2 : tE X.K X.w C .bo (fun O ρ => bnd (evE O ia ρ) fun x => bnd (evE O ib ρ) fun y => lift (u2 op x y)) σ H fun x H1 => ∃ c, x = .bl c ∧ Q c H1 := by
      rw [← q_o2]
      exact ⟨ω, W, ρ, n, d, n', st, ev, q⟩
    exact tE_bin (fr := true) (.inl rfl) σ H _ h2
theorem s_tisN {k : Nat} {op : U1} {o : CmpOp} (ho : OpR X (compareOp o) (fun x y H Q => y = .non ∧ r1 true X.K X.w (u1 op) x H Q)) (ha : PE X a (sE X C .bo ia)) : PT X (.Compare a [o] [.Constant .none k p] pos) (sT X C (.o1 op ia)) :=
  PT.weak (pt_cmpR ho ha (pe_non (X := X) (j := k) (pos := p)) (nobeh rfl)) fun σ H Q h => by
    obtain ⟨ω, W, ρ, n, d, n', st, ev, q⟩ := tB_sT σ H Q h
    have h2 : tE X.K X.w C .bo (fun O ρ => bnd (evE O ia ρ) fun x => lift (u1 op x)) σ H fun x H1 => ∃ c, x = .bl c ∧ Q c H1 := by
      rw [← q_o1]
      exact ⟨ω, W, ρ, n, d, n', st, ev, q⟩
    obtain ⟨ω, W, ρ, n, d, n', st, ev, q⟩ := tE_un (fr := true) (.inl rfl) σ H _ h2
    exact ⟨ω, W, ρ, n, d, n', st, ev, fun v H' x1 k1 p1 => ⟨rfl, q v H' x1 k1 p1⟩⟩
theorem s_tnot (ha : PT X a (sT X C ia)) : PT X (.UnaryOp .Not a pos) (sT X C (.nt ia)) :=
  PT.weak (pt_not ha) fun σ H Q ⟨ω, W, ρ, n, b, n', st, ev, k⟩ => by
    obtain ⟨x, n1, e1, e2⟩ := bnd_some ev
    obtain ⟨b', rfl, e3⟩ := boolM_some e2
    cases e3
    rw [evE] at e1
    obtain ⟨x, n1, e5, e2⟩ := bnd_some e1
    obtain ⟨q, n2, e2, e3⟩ := bnd_some e2
    cases ret_some e3
    exact ⟨ω, W, ρ, n, q, n', st, by show bnd _ _ n = _; rw [bnd_mk e5]; exact e2, fun H1 x1 k1 => k H1 x1 k1⟩
theorem s_tand (ha : PT X a (sT X C ia)) {rest : List Expr} (hb : PW X (.BoolOp .And (b :: rest) pos) (sT X C ib)) : PW X (.BoolOp .And (a :: b :: rest) pos) (sT X C (.an ia ib)) :=
  ⟨fun wh pins s σ H Q I h => (pw_and ha hb).run wh pins s σ H Q I <| by
    obtain ⟨ω, W, ρ, n, b, n', st, ev, k⟩ := h
    obtain ⟨x, n1, e1, e2⟩ := bnd_some ev
    obtain ⟨b', rfl, e3⟩ := boolM_some e2
    cases e3
    rw [evE] at e1
    obtain ⟨x, n1, e1, e2⟩ := bnd_some e1
    obtain ⟨q, n2, e2, e3⟩ := bnd_some e2
    refine ⟨ω, W, ρ, n, q, n2, st, by show bnd _ _ n = _; rw [bnd_mk e1]; exact e2, fun H1 x1 k1 => ?_⟩
    cases q with
    | true =>
      simp only [if_true, Bool.false_eq_true, if_false] at e3
      obtain ⟨y, n3, e5, e6⟩ := bnd_some e3
      obtain ⟨z, n4, e6, e7⟩ := bnd_some e6
      cases ret_some e7
      exact ⟨ω, W, ρ, _, _, _, st.ext x1 k1, by show bnd _ _ _ = _; rw [bnd_mk e5]; exact e6, fun H2 x2 k2 => k H2 (x1.trans x2) k2⟩
    | false =>
      simp only [if_true, Bool.false_eq_true, if_false] at e3
      cases ret_some e3
      exact k H1 x1 k1⟩
theorem s_tor (ha : PT X a (sT X C ia)) {rest : List Expr} (hb : PW X (.BoolOp .Or (b :: rest) pos) (sT X C ib)) : PW X (.BoolOp .Or (a :: b :: rest) pos) (sT X C (.or ia ib)) :=
  ⟨fun wh pins s σ H Q I h => (pw_or ha hb).run wh pins s σ H Q I <| by
    obtain ⟨ω, W, ρ, n, b, n', st, ev, k⟩ := h
    obtain ⟨x, n1, e1, e2⟩ := bnd_some ev
    obtain ⟨b', rfl, e3⟩ := boolM_some e2
    cases e3
    rw [evE] at e1
    obtain ⟨x, n1, e1, e2⟩ := bnd_some e1
    obtain ⟨q, n2, e2, e3⟩ := bnd_some e2
    refine ⟨ω, W, ρ, n, q, n2, st, by show bnd _ _ n = _; rw [bnd_mk e1]; exact e2, fun H1 x1 k1 => ?_⟩
    cases q with
    | false =>
      simp only [if_true, Bool.false_eq_true, if_false] at e3
      obtain ⟨y, n3, e5, e6⟩ := bnd_some e3
      obtain ⟨z, n4, e6, e7⟩ := bnd_some e6
      cases ret_some e7
      exact ⟨ω, W, ρ, _, _, _, st.ext x1 k1, by show bnd _ _ _ = _; rw [bnd_mk e5]; exact e6, fun H2 x2 k2 => k H2 (x1.trans x2) k2⟩
    | true =>
      simp only [if_true, Bool.false_eq_true, if_false] at e3
      cases ret_some e3
      exact k H1 x1 k1⟩
/-! argument lists, displays, calls -/
def mdOf : Pm → Md
  | .p => .pu
  | .b => .bo
  | .w => .bo
theorem s_nil : PA X [] (sA X C [] []) := PA.weak pa_nil fun σ H Q ⟨ω, W, ρ, n, d, n', st, ev, k⟩ => by
  simp only [evEs] at ev
  cases ret_some ev
  exact k [] H (Ext.refl _ _) st.wk .nil
theorem s_cons {pm : Pm} {ps : List Pm} {is : List Ex} {es : List Expr} (hw : pm ≠ .w) (ha : PE X e (sE X C (mdOf pm) i)) (ns : noStar e = true) (hr : PA X es (sA X C ps is)) : PA X (e :: es) (sA X C (pm :: ps) (i :: is)) :=
  PA.weak (pa_cons ha hr (star_of ns _ _)) fun σ H Q ⟨ω, W, ρ, n, d, n', st, ev, k⟩ => by
    simp only [evEs] at ev
    obtain ⟨x, n1, e1, e2⟩ := bnd_some ev
    obtain ⟨xs, n2, e2, e3⟩ := bnd_some e2
    cases ret_some e3
    refine ⟨ω, W, ρ, n, x, n1, st, e1, fun v H1 x1 k1 p1 => ⟨ω, W, ρ, n1, xs, n', st.ext x1 k1, e2, fun vs H2 x2 k2 p2 => k (v :: vs) H2 (x1.trans x2) k2 (.cons ?_ p2)⟩⟩
    cases pm with
    | p => exact .p (Rp.ext p1.1 x2 st.om k1)
    | b => exact .b (RB.ext p1 x2 st.om k1)
    | w => exact absurd rfl hw
theorem s_consW {ps : List Pm} {is : List Ex} {es : List Expr} {j : Nat} {x : Str} (ha : PE X (.Name x pos) (tVar j)) (hr : PA X es (sA X C ps is)) : PA X (.Name x pos :: es) (sA X C (.w :: ps) (.w j :: is)) :=
  PA.weak (pa_cons ha hr rfl) fun σ H Q ⟨ω, W, ρ, n, d, n', st, ev, k⟩ => by
    simp only [evEs] at ev
    obtain ⟨x, n1, e1, e2⟩ := bnd_some ev
    obtain ⟨xs, n2, e2, e3⟩ := bnd_some e2
    cases ret_some e3
    rw [evE] at e1
    obtain ⟨d', e4, e5⟩ := lift_some e1
    cases e5
    obtain ⟨p, h1, h2⟩ := st.ev.wr _ (slW_some e4)
    exact ⟨_, h2, ω, W, ρ, n, xs, n', st, e2, fun vs H2 x2 k2 p2 => k (_ :: vs) H2 x2 k2 (.cons (.w h1) p2)⟩
/-- all data -/
theorem s_tup {is : List Ex} {es : List Expr} {k : Nat} (h : PA X es (sA X C (is.map fun _ => .p) is)) (hz : is.length ≤ sizeLine) : PE X (.Tuple es k pos) (sE X C m (.tup is)) :=
  PE.weak (pe_tupF h) fun σ H Q ⟨ω, W, ρ, n, d, n', st, ev, k⟩ => by
    simp only [evE] at ev
    obtain ⟨xs, n1, e1, e2⟩ := bnd_some ev
    cases ret_some e2
    refine ⟨ω, W, ρ, n, xs, n', st, e1, fun vs H1 x1 k1 p1 => ?_⟩
    have hl : vs.length ≤ sizeLine := by
      have : ∀ {ps : List Pm} {vs : List V} {ds : List PyData}, ArgsOk X.K X.w H1 W ω ps vs ds → vs.length = ps.length := by
        intro ps vs ds t
        induction t with
        | nil => rfl
        | cons _ _ ih => rw [List.length_cons, List.length_cons, ih]
      rw [this p1, List.length_map]
      exact hz
    refine ⟨hl, fun p ob hp ho => k _ _ (x1.trans (Same.ext (same_upd hp))) (k1.same (same_upd hp)) (Post.base x1 k1 (Pst.post m (.newT hp ho (p1.rps ?_))))⟩
    intro q hq
    obtain ⟨_, _, rfl⟩ := List.mem_map.mp hq
    rfl
theorem s_lst {is : List Ex} {es : List Expr} (h : PA X es (sA X C (is.map fun _ => .p) is)) (hz : is.length ≤ sizeLine) : PE X (.List es pos) (sE X C m (.lst is)) :=
  PE.weak (pe_lst h) fun σ H Q ⟨ω, W, ρ, n, d, n', st, ev, k⟩ => by
    simp only [evE] at ev
    obtain ⟨xs, n1, e1, e2⟩ := bnd_some ev
    cases ret_some e2
    refine ⟨ω, W, ρ, n, xs, n', st, e1, fun vs H1 x1 k1 p1 => ?_⟩
    have hl : vs.length ≤ sizeLine := by
      have : ∀ {ps : List Pm} {vs : List V} {ds : List PyData}, ArgsOk X.K X.w H1 W ω ps vs ds → vs.length = ps.length := by
        intro ps vs ds t
        induction t with
        | nil => rfl
        | cons _ _ ih => rw [List.length_cons, List.length_cons, ih]
      rw [this p1, List.length_map]
      exact hz
    refine ⟨hl, fun p hp => k _ _ (x1.trans (Same.ext (same_upd hp))) (k1.same (same_upd hp)) (Post.base x1 k1 (Pst.post m (.newL (st.wt.ext x1 k1) hp (p1.rps ?_))))⟩
    intro q hq
    obtain ⟨_, _, rfl⟩ := List.mem_map.mp hq
    rfl
theorem passes0 {E : XK} : Passes CX0 X E := fun _ _ _ _ _ _ _ h => h.elim
theorem tCall_of {ps : List Pm} {is : List Ex} {j : Nat} (hm : m ≠ .fr) : ∀ σ H Q, sE X C m (.call j is) σ H Q → tCall (spD X.K X.w C ps j) [] (fun _ _ _ => False) (sA X C ps is) σ H Q := fun σ H Q ⟨ω, W, ρ, n, d, n', st, ev, k⟩ => by
  simp only [evE] at ev
  obtain ⟨xs, n1, e1, e2⟩ := bnd_some ev
  refine ⟨ω, W, ρ, n, xs, n1, st, e1, fun vs H1 x1 k1 p1 => ?_⟩
  show spD X.K X.w C ps j (vs ++ []) H1 Q _
  rw [List.append_nil]
  refine ⟨ω, W, n1, xs, d, n', st.wt.ext x1 k1, st.om, k1, p1, e2, fun v H2 x2 k2 r => k v H2 (x1.trans x2) k2 ?_⟩
  cases m with
  | fr => exact absurd rfl hm
  | pu => exact .old r
  | bo => exact .inl r
theorem s_call {ps : List Pm} {is : List Ex} {es : List Expr} {k : Nat} {f : Addr} {fd : FuncData} {names : List Str} {j : Nat} {x : Str} (hm : m ≠ .fr) (F : FnOk X.prog X.w X.K X.mg X.base CX0 k f fd names (spD X.K X.w C ps j)) (hr : Room k X.A) (hg : Gl X x) (hmg : X.mg x = some (.ref f)) (hk : PySem.W.keepIn X.K (.ref f) = true) (hb : Binds X.K fd names [])
    (ha : PA X (e :: es) (sA X C ps is)) (hs : (e :: es).all noStar = true) (hdb : (x == ("__debug__" : Str)) = false) : PE X (.Call (.Name x p) (e :: es) [] pos) (sE X C m (.call j is)) := by
  rw [List.all_cons, Bool.and_eq_true] at hs
  exact PE.weak (pe_call F hr hg hmg hk hb .nil passes0 ha hdb (star_of hs.1 _ _) (star_any hs.2)) (tCall_of hm)
theorem s_call0 {k : Nat} {f : Addr} {fd : FuncData} {names : List Str} {j : Nat} {x : Str} (hm : m ≠ .fr) (F : FnOk X.prog X.w X.K X.mg X.base CX0 k f fd names (spD X.K X.w C [] j)) (hr : Room k X.A) (hg : Gl X x) (hmg : X.mg x = some (.ref f)) (hk : PySem.W.keepIn X.K (.ref f) = true) (hb : Binds X.K fd names [])
    (hdb : (x == ("__debug__" : Str)) = false) : PE X (.Call (.Name x p) [] [] pos) (sE X C m (.call j [])) :=
  PE.weak (pe_call0 (E := fun _ _ _ => False) F hr hg hmg hk hb .nil passes0 hdb) fun σ H Q ⟨ω, W, ρ, n, d, n', st, ev, k⟩ => by
    simp only [evE] at ev
    obtain ⟨xs, n1, e1, e2⟩ := bnd_some ev
    rw [evEs] at e1
    cases ret_some e1
    refine ⟨ω, W, n, [], d, n', st.wt, st.om, st.wk, .nil, e2, fun v H2 x2 k2 r => k v H2 x2 k2 ?_⟩
    cases m with
    | fr => exact absurd rfl hm
    | pu => exact .old r
    | bo => exact .inl r
end
end RW
/-! Sets over data. -/
namespace RW
open PySem PySem.Spec PyProof.Rows L2
open PySem.W (EachIs)
/-- each once, by a key -/
def once {α κ : Type} [DecidableEq κ] (f : α → κ) : List α → List α → List α
  | acc, [] => acc
  | acc, x :: r => if acc.any (fun y => decide (f y = f x)) then once f acc r else once f (acc ++ [x]) r
section
variable {α β κ κ' : Type} [DecidableEq κ] [DecidableEq κ'] {f : α → κ}
theorem onceD_eq : ∀ (l acc : List PyData), onceD acc l = once nkey acc l
  | [], _ => rfl
  | x :: r, acc => by
    simp only [onceD, once]
    rw [onceD_eq r, onceD_eq r]
theorem once_snoc (x : α) : ∀ (l acc : List α), once f acc (l ++ [x]) = if (once f acc l).any (fun y => decide (f y = f x)) then once f acc l else once f acc l ++ [x]
  | [], acc => by simp only [List.nil_append, once]; rfl
  | y :: l, acc => by
    simp only [List.cons_append, once]
    split
    · exact once_snoc x l acc
    · exact once_snoc x l _
theorem once_mem : ∀ (l acc : List α) (x : α), x ∈ once f acc l → x ∈ acc ∨ x ∈ l
  | [], _, _, h => .inl h
  | y :: l, acc, x, h => by
    simp only [once] at h
    split at h
    · exact (once_mem l acc x h).imp id (List.mem_cons_of_mem _)
    · rcases once_mem l _ x h with g | g
      · rcases List.mem_append.mp g with g | g
        · exact .inl g
        · exact .inr (by rw [List.mem_singleton.mp g]; exact List.mem_cons_self)
      · exact .inr (List.mem_cons_of_mem _ g)
theorem once_len : ∀ (l acc : List α), (once f acc l).length ≤ acc.length + l.length
  | [], _ => Nat.le_refl _
  | y :: l, acc => by
    simp only [once, List.length_cons]
    split
    · have := once_len l acc; omega
    · have := once_len l (acc ++ [y]); simp at this; omega
theorem once_map (g : β → α) (h : β → κ') : ∀ (l acc : List β), (∀ x ∈ acc ++ l, ∀ y ∈ acc ++ l, f (g x) = f (g y) ↔ h x = h y) → once f (acc.map g) (l.map g) = (once h acc l).map g
  | [], _, _ => rfl
  | x :: l, acc, e => by
    have c : (acc.map g).any (fun y => decide (f y = f (g x))) = acc.any (fun y => decide (h y = h x)) := by
      rw [List.any_map, Bool.eq_iff_iff, List.any_eq_true, List.any_eq_true]
      constructor
      · rintro ⟨y, hy, z⟩
        exact ⟨y, hy, decide_eq_true ((e y (by simp [hy]) x (by simp)).1 (of_decide_eq_true z))⟩
      · rintro ⟨y, hy, z⟩
        exact ⟨y, hy, decide_eq_true ((e y (by simp [hy]) x (by simp)).2 (of_decide_eq_true z))⟩
    simp only [List.map_cons, once]
    rw [c]
    have wide : ∀ {a}, a ∈ acc ++ l → a ∈ acc ++ x :: l := fun ha => by
      rcases List.mem_append.mp ha with ha | ha
      · exact List.mem_append_left _ ha
      · exact List.mem_append_right _ (List.mem_cons_of_mem _ ha)
    by_cases d : acc.any (fun y => decide (h y = h x)) = true
    · rw [if_pos d, if_pos d]
      exact once_map g h l acc fun a ha b hb => e a (wide ha) b (wide hb)
    · rw [if_neg d, if_neg d, show acc.map g ++ [g x] = (acc ++ [x]).map g by simp]
      exact once_map g h l _ fun a ha b hb => e a (by simpa using ha) b (by simpa using hb)
theorem take_more {l : List α} {i : Nat} {x : α} (h : l[i]? = some x) : l.take (i + 1) = l.take i ++ [x] := by rw [List.take_succ, h]; rfl
end
/-- the set object over the values vs -/
def SW (w : World) (o : Obj) (vs : List Value) : Prop :=
  ∃ es ep t, o.ExactSet ∧ o.data = .set es ep t ∧ (es.toList.map (·.2)).Perm vs ∧ t.fits es.size = true ∧ es.size < scanBound ∧ Ris t.place.toList ∧ (w.params.followText "set-order" = true ∨ t.led = true)
section
variable {P : Program} {w : World} {h0 : Heap} {S : Addr} {A : Around}
/-- keyed tuples go in -/
theorem adds_T {tps : List (Addr × NestedKey)} {items : Array Value} (hi : items.toList = tps.map fun p => Value.ref p.1) (hk : ∀ p ∈ tps, KT h0 p.2 p.1) (few : tps.length ≤ 1200) (hu : A.units + 8 < cLine) :
    Adds P w h0 S A items fun i o => ∃ es ep t R, ST w o es ep t R ∧ (R.map (·.2)).Perm (once Prod.snd [] (tps.take i)) := by
  rintro i v z o E Q hv ho ⟨es, ep, t, R, st, pm⟩ kp q
  have hv' : (tps.map fun p => Value.ref p.1)[i]? = some v := by rw [← hi, Array.getElem?_toList]; exact hv
  rw [List.getElem?_map, Option.map_eq_some_iff] at hv'
  obtain ⟨p, hp, rfl⟩ := hv'
  have kt : ∀ {r}, r ∈ tps → KT z.heap r.2 r.1 := fun hr => ⟨NestedIs.at (fun b ob vs n hb _ => kp b ob hb) _ _ (hk _ hr).1, (hk _ hr).2⟩
  have sub : ∀ {r : Row}, r ∈ R → r.2 ∈ tps := fun hr => by
    rcases once_mem _ _ _ (pm.mem_iff.mp (List.mem_map_of_mem hr)) with g | g
    · cases g
    · exact List.mem_of_mem_take g
  have hx := kt (List.mem_of_getElem? hp)
  have il : i < tps.length := (List.getElem?_eq_some_iff.mp hp).1
  have len : R.length ≤ i := by
    have a1 := pm.length_eq
    have a2 := once_len (f := Prod.snd) (tps.take i) []
    simp only [List.length_map, List.length_nil, List.length_take] at a1 a2
    omega
  have anyk : (once Prod.snd [] (tps.take i)).any (fun y => decide (y.2 = p.2)) = true ↔ p.2 ∈ R.map (·.2.2) := by
    rw [List.any_eq_true]
    constructor
    · rintro ⟨y, hy, e⟩
      obtain ⟨r, hr, rfl⟩ := List.mem_map.mp (pm.mem_iff.mpr hy)
      exact List.mem_map.mpr ⟨r, hr, of_decide_eq_true e⟩
    · intro hm
      obtain ⟨r, hr, e⟩ := List.mem_map.mp hm
      exact ⟨r.2, pm.mem_iff.mp (List.mem_map_of_mem hr), decide_eq_true e⟩
  unfold setAdd
  refine wpAny_holding (wpAny_bind ((nestedKind P w).pyHash hu hx ?_))
  refine add_do (s := { z with toks := z.toks + p.2.draws }) st ho (fun r hr => kt (sub hr)) hx hu (by omega) fun b h' o' es' ep' t' R' sb ho' st' c1 c2 => ?_
  refine q b h' o' _ (Nat.le_add_right _ _) sb ho' ⟨es', ep', t', R', st', ?_⟩
  rw [take_more hp, once_snoc]
  by_cases c : p.2 ∈ R.map (·.2.2)
  · rw [if_pos (anyk.2 c), c1 c]
    exact pm
  · rw [if_neg (fun y => c (anyk.1 y))]
    exact (c2 c).trans ((pm.cons p).trans (List.perm_append_singleton _ _).symm)
/-- ints and texts go in -/
theorem adds_L {lps : List (Value × Key)} {items : Array Value} (hi : items.toList = lps.map (·.1)) (hk : ∀ p ∈ lps, keyIs p.2 p.1 = true) (few : lps.length ≤ 1200) :
    Adds P w h0 S A items fun i o => ∃ es ep t, SK P w o es ep t (once Prod.snd [] (lps.take i)) := by
  rintro i v z o E Q hv ho ⟨es, ep, t, st⟩ kp q
  have hv' : (lps.map (·.1))[i]? = some v := by rw [← hi, Array.getElem?_toList]; exact hv
  rw [List.getElem?_map, Option.map_eq_some_iff] at hv'
  obtain ⟨p, hp, rfl⟩ := hv'
  have hx := hk _ (List.mem_of_getElem? hp)
  have il : i < lps.length := (List.getElem?_eq_some_iff.mp hp).1
  have len : (once Prod.snd [] (lps.take i)).length ≤ i := by
    have a2 := once_len (f := Prod.snd) (lps.take i) []
    simp only [List.length_nil, List.length_take] at a2
    omega
  have anyk : (once Prod.snd [] (lps.take i)).any (fun y => decide (y.2 = p.2)) = true ↔ p.2 ∈ (once Prod.snd [] (lps.take i)).map (·.2) := by
    rw [List.any_eq_true, List.mem_map]
    exact ⟨fun ⟨y, hy, e⟩ => ⟨y, hy, of_decide_eq_true e⟩, fun ⟨y, hy, e⟩ => ⟨y, hy, decide_eq_true e⟩⟩
  unfold setAdd
  refine wpAny_holding (wpAny_bind ((mixKind P w).pyHash hx ?_))
  refine add_leaf (s := { z with toks := z.toks + 1 }) st ho hx (by omega) fun b h' o' es' ep' t' L' sb ho' st' c1 c2 => ?_
  refine q b h' o' _ (Nat.le_add_right _ _) sb ho' ⟨es', ep', t', ?_⟩
  rw [take_more hp, once_snoc]
  by_cases c : p.2 ∈ (once Prod.snd [] (lps.take i)).map (·.2)
  · rw [if_pos (anyk.2 c), ← c1 c]
    exact st'
  · rw [if_neg (fun y => c (anyk.1 y)), ← c2 c]
    exact st'
theorem ST0 : ST w (set0 w) #[] 0 (.fresh 0 0 (!w.params.followText "set-order")) [] :=
  ⟨⟨rfl, rfl, rfl⟩, rfl, rfl, rfl, rfl, led0 w, by show 0 * 5 < 7 * 3; decide, ⟨.inl rfl, List.Pairwise.nil, (fun r hr => (by cases hr)), (fun r hr => (by cases hr))⟩, List.nodup_nil, Nat.zero_le _⟩
theorem SK0 : SK P w (set0 w) #[] 0 (.fresh 0 0 (!w.params.followText "set-order")) [] :=
  ⟨⟨rfl, rfl, rfl⟩, rfl, List.Perm.refl _, (fun p hp => (by cases hp)), List.nodup_nil, rfl, List.Pairwise.nil, led0 w, Nat.zero_le _⟩
theorem ST.sw {o : Obj} {es : Array (Int × Value)} {ep : Nat} {t : SetTable} {R : List Row} (S : ST w o es ep t R) {vs : List Value} (h : (R.map fun r => Value.ref r.2.1).Perm vs) : SW w o vs :=
  ⟨es, ep, t, S.ex, S.da, by rw [S.en, List.map_map]; exact h, S.fits, by have := S.few; rw [S.size]; show _ < 4096; omega, S.rows, S.led⟩
theorem SK.sw {o : Obj} {es : Array (Int × Value)} {ep : Nat} {t : SetTable} {L : List (Value × Key)} (S : SK P w o es ep t L) : SW w o (L.map (·.1)) :=
  ⟨es, ep, t, S.ex, S.da, by have := S.pm.map (·.2); rw [List.map_map] at this; exact this, S.fits, S.bound, S.ris, S.led⟩
end
end RW
/-! len(set(xs)), sorted(set(xs)). -/
namespace RW
open PySem PySem.Spec PyProof.Rows L2
open PySem.W (EachIs)
/-! ### two that are alike and of the same signs are one -/
mutual
theorem toks_one : ∀ (x y : PyData) (l m : List (Int ⊕ List Nat)), PySem.W.alike x y = true → PySem.W.keyToks x ++ l = PySem.W.keyToks y ++ m → x = y ∧ l = m
  | .none, .none, l, m, _, e => ⟨rfl, e⟩
  | .bool a, .bool b, l, m, _, e => by
    simp only [PySem.W.keyToks, List.singleton_append, List.cons.injEq, Sum.inl.injEq] at e
    refine ⟨?_, e.2⟩
    cases a <;> cases b <;> first | rfl | (exfalso; have := e.1; simp at this)
  | .int a, .int b, l, m, _, e => by
    simp only [PySem.W.keyToks, List.singleton_append, List.cons.injEq, Sum.inl.injEq] at e
    exact ⟨by rw [e.1], e.2⟩
  | .str a, .str b, l, m, _, e => by
    simp only [PySem.W.keyToks, List.singleton_append, List.cons.injEq, Sum.inr.injEq] at e
    exact ⟨by rw [PySem.W.str_of_cps e.1], e.2⟩
  | .list xs, .list ys, l, m, h, e => by
    simp only [PySem.W.alike] at h
    simp only [PySem.W.keyToks] at e
    obtain ⟨a, b⟩ := toks_ones xs ys l m h e
    exact ⟨by rw [a], b⟩
  | .tuple xs, .tuple ys, l, m, h, e => by
    simp only [PySem.W.alike] at h
    simp only [PySem.W.keyToks] at e
    obtain ⟨a, b⟩ := toks_ones xs ys l m h e
    exact ⟨by rw [a], b⟩
  | .none, .bool _, _, _, h, _ | .none, .int _, _, _, h, _ | .none, .str _, _, _, h, _ | .none, .list _, _, _, h, _ | .none, .tuple _, _, _, h, _ | .none, .dict _, _, _, h, _ => by simp [PySem.W.alike] at h
  | .bool _, .none, _, _, h, _ | .bool _, .int _, _, _, h, _ | .bool _, .str _, _, _, h, _ | .bool _, .list _, _, _, h, _ | .bool _, .tuple _, _, _, h, _ | .bool _, .dict _, _, _, h, _ => by simp [PySem.W.alike] at h
  | .int _, .none, _, _, h, _ | .int _, .bool _, _, _, h, _ | .int _, .str _, _, _, h, _ | .int _, .list _, _, _, h, _ | .int _, .tuple _, _, _, h, _ | .int _, .dict _, _, _, h, _ => by simp [PySem.W.alike] at h
  | .str _, .none, _, _, h, _ | .str _, .int _, _, _, h, _ | .str _, .bool _, _, _, h, _ | .str _, .list _, _, _, h, _ | .str _, .tuple _, _, _, h, _ | .str _, .dict _, _, _, h, _ => by simp [PySem.W.alike] at h
  | .list _, .none, _, _, h, _ | .list _, .int _, _, _, h, _ | .list _, .bool _, _, _, h, _ | .list _, .str _, _, _, h, _ | .list _, .tuple _, _, _, h, _ | .list _, .dict _, _, _, h, _ => by simp [PySem.W.alike] at h
  | .tuple _, .none, _, _, h, _ | .tuple _, .int _, _, _, h, _ | .tuple _, .bool _, _, _, h, _ | .tuple _, .str _, _, _, h, _ | .tuple _, .list _, _, _, h, _ | .tuple _, .dict _, _, _, h, _ => by simp [PySem.W.alike] at h
  | .dict _, y, _, _, h, _ => by cases y <;> simp [PySem.W.alike] at h
theorem toks_ones : ∀ (xs ys : List PyData) (l m : List (Int ⊕ List Nat)), PySem.W.alikeAll xs ys = true → PySem.W.keyToksAll xs ++ l = PySem.W.keyToksAll ys ++ m → xs = ys ∧ l = m
  | [], [], l, m, _, e => by
    simp only [PySem.W.keyToksAll, List.singleton_append, List.cons.injEq] at e
    exact ⟨rfl, e.2⟩
  | [], y :: ys, l, m, _, e => by
    simp only [PySem.W.keyToksAll, List.singleton_append, List.cons_append, List.cons.injEq, Sum.inl.injEq] at e
    exact absurd e.1 (by decide)
  | x :: xs, [], l, m, _, e => by
    simp only [PySem.W.keyToksAll, List.singleton_append, List.cons_append, List.cons.injEq, Sum.inl.injEq] at e
    exact absurd e.1 (by decide)
  | x :: xs, y :: ys, l, m, h, e => by
    obtain ⟨h1, h2⟩ := PySem.W.alike_all_cons h
    simp only [PySem.W.keyToksAll, List.cons_append, List.cons.injEq, List.append_assoc] at e
    obtain ⟨rfl, e2⟩ := toks_one x y _ _ h1 e.2
    obtain ⟨rfl, e3⟩ := toks_ones xs ys _ _ h2 e2
    exact ⟨rfl, e3⟩
end
/-- sorted, whatever the order before -/
theorem sortD_perm {ds ds' : List PyData} (h : allAlike ds = true) (p : ds'.Perm ds) : sortD ds' = sortD ds := by
  have h' := allAlike_of h
  have T := PySem.W.sortLe_total (listOrd itemOrd) false fun b : PyData => PySem.W.keyToks (id b)
  have pw := fun l => PySem.W.sort_pairwise T l
  have pm := (List.mergeSort_perm ds' (PySem.W.dataLe false id)).trans (p.trans (List.mergeSort_perm ds (PySem.W.dataLe false id)).symm)
  refine List.Perm.eq_of_pairwise (fun a b ha hb e1 e2 => ?_) (pw ds') (pw ds) pm
  have ma : a ∈ ds := p.mem_iff.mp ((List.mergeSort_perm _ _).mem_iff.mp ha)
  have mb : b ∈ ds := (List.mergeSort_perm _ _).mem_iff.mp hb
  have k1 : lexLt itemOrd (PySem.W.keyToks b) (PySem.W.keyToks a) = false := by
    have : (!lexLt itemOrd (PySem.W.keyToks b) (PySem.W.keyToks a)) = true := e1
    simpa using this
  have k2 : lexLt itemOrd (PySem.W.keyToks a) (PySem.W.keyToks b) = false := by
    have : (!lexLt itemOrd (PySem.W.keyToks a) (PySem.W.keyToks b)) = true := e2
    simpa using this
  have e := lex_total _ _ k2 k1
  exact (toks_one a b [] [] (h' a ma b mb) (by rw [e])).1
end RW
namespace RW
open PySem PySem.Spec PyProof.Rows L2
open PySem.W (EachIs)
/-- a list that is a map's image in another order -/
theorem perm_back {α β : Type} (f : α → β) : ∀ (l : List β) (m : List α), l.Perm (m.map f) → ∃ m' : List α, m'.Perm m ∧ l = m'.map f
  | [], m, h => by
    have : m = [] := List.length_eq_zero_iff.mp (by simpa using h.length_eq.symm)
    subst this
    exact ⟨[], .refl _, rfl⟩
  | x :: l, m, h => by
    obtain ⟨y, hy, rfl⟩ := List.mem_map.mp (h.mem_iff.mp List.mem_cons_self)
    obtain ⟨s, t, rfl⟩ := List.append_of_mem hy
    have pm : (s ++ y :: t).Perm (y :: (s ++ t)) := List.perm_middle
    have h2 : l.Perm ((s ++ t).map f) := List.Perm.cons_inv (h.trans (pm.map f))
    obtain ⟨m', p, e⟩ := perm_back f l (s ++ t) h2
    exact ⟨y :: m', (p.cons y).trans pm.symm, by rw [e]; rfl⟩
theorem each_zip {α β : Type} {R : α → β → Prop} : ∀ {l : List α} {m : List β}, EachIs R l m → ∀ z ∈ l.zip m, R z.1 z.2
  | _, _, .nil, _, h => by cases h
  | _, _, .cons a b, z, h => by
    rw [List.zip_cons_cons] at h
    rcases List.mem_cons.mp h with rfl | h
    · exact a
    · exact each_zip b z h
section
variable {X : Cx} {pins : List (Addr × Obj)} {σ : L2.St} {H : Hp} {s : Shared} {W : Addr → Prop}
/-- values and what they stand for -/
abbrev ZOk (K : PySem.W.Frag) (w : World) (H : Hp) (W : Addr → Prop) (zs : List (Value × PyData)) : Prop := ∀ z ∈ zs, ∃ x, RelV x z.1 ∧ Rp K w H W x z.2
theorem ZOk.back {K : PySem.W.Frag} {w : World} {zs : List (Value × PyData)} (h : ZOk K w H W zs) : ∃ xs, Vals xs (zs.map (·.1)) ∧ Rps K w H W xs (zs.map (·.2)) := by
  induction zs with
  | nil => exact ⟨[], .nil, .nil⟩
  | cons z zs ih =>
    obtain ⟨xs, a, b⟩ := ih fun y hy => h y (List.mem_cons_of_mem _ hy)
    obtain ⟨x, c, d⟩ := h z List.mem_cons_self
    exact ⟨x :: xs, .cons c a, .cons d b⟩
/-- set(xs) -/
def rSet (K : PySem.W.Frag) (w : World) : List V → Hp → VK → Prop := fun vs H Q => ∃ W x ds, vs = [x] ∧ Wt H W ∧ RB K w H W x (.list ds) ∧ setOk ds = true ∧ ds.length ≤ 1200 ∧
  ∀ a o zs, H a = none → ZOk K w H W zs → zs.map (·.2) = onceD [] ds → SW w o (zs.map (·.1)) → Q (.ref a) (L2.upd H a (DO a o))
def adrOf : Value → Addr
  | .ref b => b
  | _ => 0
theorem leafOf_keyD (l : Key) : leafOf (keyD l) = some l := by cases l <;> rfl
theorem cr_set (hc : X.calm = true) (hu : X.A.units + 200 < cLine) : CallR X (.type "set") (rSet X.K X.w) := by
  rintro pins s σ H vs us Q I r ⟨W, x, ds, rfl, t, bx, ok, few, q⟩
  obtain ⟨u, rfl, ru⟩ := Vals.one r
  obtain ⟨l, xs, rfl, h1, h2⟩ := bx.lst
  cases ru
  obtain ⟨its, rv, pl, hz⟩ := I.list h1
  have hlen : its.length = ds.length := by rw [← rv.length, h2.length]
  obtain ⟨e1, e2⟩ := each_reads I h2 rv
  have zok : ZOk X.K X.w H W (its.zip ds) := each_zip e1
  have zf : (its.zip ds).map (·.1) = its := List.map_fst_zip (by omega)
  have zd : (its.zip ds).map (·.2) = ds := List.map_snd_zip (by omega)
  have zl : (its.zip ds).length = ds.length := by rw [List.length_zip, hlen, Nat.min_self]
  generalize its.zip ds = zs at *
  -- where the made set is known
  have fin : ∀ h' o tk, h'.get? s.heap.objs.size = some o → SW X.w o ((once (fun z : Value × PyData => nkey z.2) [] zs).map (·.1)) → (∀ b u, s.heap.get? b = some u → h'.get? b = some u) → EP X pins σ Q (.ref s.heap.objs.size) { s with heap := h', toks := tk } := by
    intro h' o tk ho sw kp
    refine ⟨.ref s.heap.objs.size, _, I.laid (t' := tk) kp (Nat.le_refl _) (DO_ok ho), rfl, q _ o (once (fun z : Value × PyData => nkey z.2) [] zs) (I.hok.fresh (Nat.le_refl _)) (fun z hm => ?_) ?_ sw⟩
    · rcases once_mem _ _ _ hm with g | g
      · cases g
      · exact zok z g
    · rw [onceD_eq, ← zd]
      exact (once_map (f := nkey) (Prod.snd) (fun z : Value × PyData => nkey z.2) zs [] fun _ _ _ _ => Iff.rfl).symm
  simp only [setOk, Bool.or_eq_true, List.all_eq_true] at ok
  rcases ok with ok | ok
  · -- keyed tuples
    have key : ∀ z ∈ zs, ∃ b k, z.1 = .ref b ∧ nkey z.2 = some k ∧ KT s.heap k b := fun z hm => by
      have mz : z.2 ∈ ds := by rw [← zd]; exact List.mem_map_of_mem hm
      have o1 := ok _ mz
      rw [Bool.and_eq_true] at o1
      obtain ⟨x, g1, g2⟩ := zok z hm
      obtain ⟨d1, o2⟩ := o1
      cases hk : nkey z.2 with
      | none => rw [hk] at o2; cases o2
      | some k =>
        rw [hk] at o2
        have nk := nested_of I _ _ _ _ g2 g1 hk
        generalize hd : z.2 = d at *
        cases d <;> first | (cases d1; done) | skip
        cases g2
        cases hv : z.1 with
        | ref b => rw [hv] at nk; exact ⟨b, k, rfl, rfl, nk, of_decide_eq_true o2⟩
        | _ => rw [hv] at g1; cases g1
    let gT : Value × PyData → Addr × NestedKey := fun z => (adrOf z.1, (nkey z.2).getD .none)
    have it1 : its.toArray.toList = (zs.map gT).map fun p => Value.ref p.1 := by
      show its = _
      rw [← zf, List.map_map]
      refine List.map_congr_left fun z hm => ?_
      obtain ⟨b, k, e, _⟩ := key z hm
      show z.1 = Value.ref (adrOf z.1)
      rw [e]; rfl
    have it2 : ∀ p ∈ zs.map gT, KT s.heap p.2 p.1 := fun p hp => by
      obtain ⟨z, hm, rfl⟩ := List.mem_map.mp hp
      obtain ⟨b, k, e, f, g⟩ := key z hm
      show KT s.heap ((nkey z.2).getD .none) (adrOf z.1)
      rw [e, f]; exact g
    refine call_set (J := fun i o => ∃ es ep t R, ST X.w o es ep t R ∧ (R.map (·.2)).Perm (once Prod.snd [] ((zs.map gT).take i))) (I.ok.hd hc) pl.isList ⟨_, _, _, [], ST0, .refl _⟩ (fun A' hA => adds_T it1 it2 (by rw [List.length_map]; omega) (by omega)) fun h' o' tk ho' jo kp => ?_
    obtain ⟨es, ep, t', R, st, pm⟩ := jo
    refine fin h' o' tk ho' (st.sw ?_) kp
    rw [List.size_toArray, hlen, ← zl, ← List.length_map (f := gT), List.take_length] at pm
    have em := once_map (f := Prod.snd) gT (fun z : Value × PyData => nkey z.2) zs [] fun a ha b hb => by
      obtain ⟨_, k1, _, f1, _⟩ := key a ha
      obtain ⟨_, k2, _, f2, _⟩ := key b hb
      show (nkey a.2).getD .none = (nkey b.2).getD .none ↔ _
      rw [f1, f2]
      simp
    rw [List.map_nil] at em
    rw [em] at pm
    have p2 := pm.map fun p => Value.ref p.1
    rw [List.map_map, List.map_map] at p2
    refine p2.trans (List.Perm.of_eq (List.map_congr_left fun z hm => ?_))
    rcases once_mem _ _ _ hm with g | g
    · cases g
    · obtain ⟨b, k, e, _⟩ := key z g
      show Value.ref (adrOf z.1) = z.1
      rw [e]; rfl
  · -- ints, texts
    have key : ∀ z ∈ zs, ∃ l : Key, z.2 = keyD l ∧ nkey z.2 = some (keyN l) ∧ keyIs l z.1 = true := fun z hm => by
      obtain ⟨x, g1, g2⟩ := zok z hm
      exact leaf_of g2 g1 (ok _ (by rw [← zd]; exact List.mem_map_of_mem hm))
    let gL : Value × PyData → Value × Key := fun z => (z.1, (leafOf z.2).getD (.inl 0))
    have it1 : its.toArray.toList = (zs.map gL).map (·.1) := by
      show its = _
      rw [← zf, List.map_map]
      rfl
    have it2 : ∀ p ∈ zs.map gL, keyIs p.2 p.1 = true := fun p hp => by
      obtain ⟨z, hm, rfl⟩ := List.mem_map.mp hp
      obtain ⟨l, e, f, g⟩ := key z hm
      show keyIs ((leafOf z.2).getD (.inl 0)) z.1 = true
      rw [e, leafOf_keyD]; exact g
    refine call_set (J := fun i o => ∃ es ep t, SK X.prog X.w o es ep t (once Prod.snd [] ((zs.map gL).take i))) (I.ok.hd hc) pl.isList ⟨_, _, _, SK0⟩ (fun A' hA => adds_L it1 it2 (by rw [List.length_map]; omega)) fun h' o' tk ho' jo kp => ?_
    obtain ⟨es, ep, t', sk⟩ := jo
    refine fin h' o' tk ho' ?_ kp
    rw [List.size_toArray, hlen, ← zl, ← List.length_map (f := gL), List.take_length] at sk
    have em := once_map (f := Prod.snd) gL (fun z : Value × PyData => nkey z.2) zs [] fun a ha b hb => by
      obtain ⟨k1, e1, f1, _⟩ := key a ha
      obtain ⟨k2, e2, f2, _⟩ := key b hb
      show (leafOf a.2).getD (.inl 0) = (leafOf b.2).getD (.inl 0) ↔ _
      rw [f1, f2, e1, e2, leafOf_keyD, leafOf_keyD]
      exact ⟨fun z => by rw [show k1 = k2 from z], fun z => keyN_inj (Option.some.inj z)⟩
    rw [List.map_nil] at em
    rw [em] at sk
    have := sk.sw
    rw [List.map_map] at this
    exact this
end
end RW
namespace RW
open PySem PySem.Spec PyProof.Rows L2
open PySem.W (EachIs)
section
variable {X : Cx}
def rLenS (w : World) : List V → Hp → VK → Prop := fun vs H Q => ∃ a o ws, vs = [V.ref a] ∧ H a = some (DO a o) ∧ SW w o ws ∧ Q (.int ws.length) H
theorem cr_lenS : CallR X (.builtin "len") (rLenS X.w) := by
  rintro pins s σ H vs us Q I r ⟨a, o, ws, rfl, ha, ⟨es, ep, t, ex, da, pm, fit1, few, _, _⟩, q⟩
  obtain ⟨u, rfl, ru⟩ := Vals.one r
  cases ru
  have sz : es.size = ws.length := by have := pm.length_eq; rw [List.length_map, Array.length_toList] at this; exact this
  have few' : es.size < 4096 := few
  exact call_len_set (do_get I ha) ex da fit1 (by omega) ⟨.int (ws.length : Nat), H, I.tok _, ⟨_, by rw [sz]⟩, q⟩
def rSrtS (K : PySem.W.Frag) (w : World) : List V → Hp → VK → Prop := fun vs H Q => ∃ a o zs W, vs = [V.ref a] ∧ H a = some (DO a o) ∧ SW w o (zs.map (·.1)) ∧ ZOk K w H W zs ∧ (allAlike (zs.map (·.2)) && sortable (zs.map (·.2)) && okDs (zs.map (·.2)) && fit (zs.map (·.2)).length) = true ∧
  ∀ xs' p, H p = none → Rps K w H W xs' (sortD (zs.map (·.2))) → Q (.ref p) (L2.upd H p (.lst xs'))
theorem all_sub {α : Type} {f : α → Bool} {l m : List α} (h : l.all f = true) (s : ∀ x ∈ m, x ∈ l) : m.all f = true := by
  rw [List.all_eq_true] at h ⊢
  exact fun x hx => h x (s x hx)
theorem okDs_iff {ds : List PyData} : okDs ds = true ↔ (∀ d ∈ ds, d.plain = true) ∧ ∀ d ∈ ds, d.depth ≤ dmax := by
  unfold okDs
  rw [Bool.and_eq_true, decide_eq_true_eq]
  have a : ∀ ds : List PyData, PyData.plainAll ds = true ↔ ∀ d ∈ ds, d.plain = true := fun ds => by
    induction ds with
    | nil => simp [PyData.plainAll]
    | cons d ds ih => simp [PyData.plainAll, ih]
  have b : ∀ ds : List PyData, PyData.depthAll ds ≤ dmax ↔ ∀ d ∈ ds, d.depth ≤ dmax := fun ds => by
    induction ds with
    | nil => simp [PyData.depthAll]
    | cons d ds ih => simp [PyData.depthAll, ← ih]; omega
  rw [a, b]
theorem cond_sub {ds es : List PyData} (h : (allAlike ds && sortable ds && okDs ds && fit ds.length) = true) (s : ∀ x ∈ es, x ∈ ds) (l : es.length ≤ ds.length) : (allAlike es && sortable es && okDs es && fit es.length) = true := by
  simp only [Bool.and_eq_true] at h ⊢
  obtain ⟨⟨⟨a, b⟩, c⟩, d⟩ := h
  refine ⟨⟨⟨?_, ?_⟩, okDs_iff.2 ⟨fun x hx => (okDs_iff.1 c).1 x (s x hx), fun x hx => (okDs_iff.1 c).2 x (s x hx)⟩⟩, decide_eq_true (Nat.le_trans l (of_decide_eq_true d))⟩
  · simp only [allAlike, List.all_eq_true] at a ⊢
    exact fun x hx y hy => a x (s x hx) y (s y hy)
  · simp only [sortable, Bool.or_eq_true] at b ⊢
    exact b.imp (fun z => all_sub z s) fun z => all_sub z s
theorem cr_srtS (hc : X.calm = true) (hu : X.A.units + 200 < cLine) : CallR X (.builtin "sorted") (rSrtS X.K X.w) := by
  rintro pins s σ H vs us Q I r ⟨a, o, zs, W, rfl, ha, ⟨es, ep, t, ex, da, pm, fit1, few, ri, ld⟩, zok, cd, q⟩
  obtain ⟨u, rfl, ru⟩ := Vals.one r
  cases ru
  refine Calls.call_function_entry PyProof.Rows.kind_sorted PyProof.Rows.plain_sorted PyProof.Rows.entry_sorted (PyProof.Rows.args_sorted1 _) ?_
  unfold Builtin.«sorted»
  refine wpAny_bind (m := checkCount "sorted" 1 1 _) (wpAny_pure ?_)
  refine wpAny_bind (collect_set (A := X.A.in1) (I.ok.hd hc) ⟨o, do_get I ha, ex.1, da⟩ fit1 few ri ld fun s1 out kp hz g1 o1 pm2 => ?_)
  obtain ⟨zs', pz, rfl⟩ := perm_back (fun z : Value × PyData => z.1) out zs (pm2.trans pm)
  have zok' : ZOk X.K X.w H W zs' := fun z hm => zok z (pz.mem_iff.mp hm)
  obtain ⟨xs, b1, b2⟩ := zok'.back
  have pd := pz.map (·.2)
  have al : allAlike (zs.map (·.2)) = true := by simp only [Bool.and_eq_true] at cd; exact cd.1.1.1
  have cd' := cond_sub cd (es := zs'.map (·.2)) (fun x hx => pd.mem_iff.mp hx) (Nat.le_of_eq pd.length_eq)
  have I1 : Inv X pins σ H s1 := I.call' (ch := []) o1 (Un.kept kp) (I.hok.kept kp) (by rw [g1]; exact I.bare) fun _ z => nomatch z
  refine sort_tail hu I1 b2 b1 (sort_cond cd') (fun xs' p hp rr => ?_) fun l s' h => ⟨_, rfl, h⟩
  rw [sortD_perm al pd] at rr
  exact q xs' p hp rr
end
end RW
namespace RW
open PySem PySem.Spec PyProof.Rows L2
section
variable {X : Cx} {C : CC} {m : Md} {a : Expr} {ia : Ex} {p p2 q pos : Pos}
theorem once_sub {ds : List PyData} : (∀ x ∈ onceD [] ds, x ∈ ds) ∧ (onceD [] ds).length ≤ ds.length := by
  rw [onceD_eq]
  exact ⟨fun x hx => (once_mem _ _ _ hx).elim (fun z => by cases z) id, by have := once_len (f := nkey) ds []; simpa using this⟩
theorem s_lenset (hc : X.calm = true) (hu : X.A.units + 200 < cLine) (hg : Gl X "len") (hm : X.mg "len" = none) (hg2 : Gl X "set") (hm2 : X.mg "set" = none) (ha : PE X a (sE X C .bo ia)) (ns : noStar a = true) :
    PE X (.Call (.Name "len" p) [.Call (.Name "set" p2) [a] [] q] [] pos) (sE X C m (.o1 .lenset ia)) :=
  PE.weak (pe_callB cr_lenS hg hm PySem.boot_len (pa_cons (pe_callTy (cr_set hc hu) hg2 hm2 PyProof.Rows.boot_set (pa_cons ha pa_nil (star_of ns _ _)) (by decide) (by decide) (star_of ns _ _) rfl) pa_nil (star_of rfl _ _)) (by decide) (by decide) (star_of rfl _ _) rfl) fun σ H Q h => by
    unfold sE at h
    rw [q_o1] at h
    have := tE_un (fr := true) (.inl rfl) σ H Q h
    obtain ⟨ω, W, ρ, n, d, n', st, ev, k⟩ := this
    refine ⟨ω, W, ρ, n, d, n', st, ev, fun v H1 x1 k1 p1 => ?_⟩
    obtain ⟨W1, dx, d1, t1, b1, e1, k2⟩ := k v H1 x1 k1 p1
    cases dx <;> first | (cases e1; done) | skip
    case list ds =>
      simp only [u1, lenSetD] at e1
      split at e1
      · rename_i ok
        cases e1
        rw [Bool.and_eq_true, decide_eq_true_eq] at ok
        refine ⟨W1, v, ds, rfl, t1, b1, ok.1, ok.2, fun b o zs hb zok ez sw => ⟨b, o, _, rfl, upd_same, sw, ?_⟩⟩
        have el : (zs.map (·.1)).length = (onceD [] ds).length := by rw [← ez, List.length_map, List.length_map]
        rw [el]
        exact k2 _ _ (same_upd hb) ⟨.int _, fun _ z => by cases z⟩
      · cases e1
theorem s_srtset (hc : X.calm = true) (hu : X.A.units + 200 < cLine) (hg : Gl X "sorted") (hm : X.mg "sorted" = none) (hg2 : Gl X "set") (hm2 : X.mg "set" = none) (ha : PE X a (sE X C .bo ia)) (ns : noStar a = true) :
    PE X (.Call (.Name "sorted" p) [.Call (.Name "set" p2) [a] [] q] [] pos) (sE X C m (.o1 .sortedset ia)) :=
  PE.weak (pe_callB (cr_srtS hc hu) hg hm rfl (pa_cons (pe_callTy (cr_set hc hu) hg2 hm2 PyProof.Rows.boot_set (pa_cons ha pa_nil (star_of ns _ _)) (by decide) (by decide) (star_of ns _ _) rfl) pa_nil (star_of rfl _ _)) (by decide) (by decide) (star_of rfl _ _) rfl) fun σ H Q h => by
    unfold sE at h
    rw [q_o1] at h
    have := tE_un (fr := true) (.inl rfl) σ H Q h
    obtain ⟨ω, W, ρ, n, d, n', st, ev, k⟩ := this
    refine ⟨ω, W, ρ, n, d, n', st, ev, fun v H1 x1 k1 p1 => ?_⟩
    obtain ⟨W1, dx, d1, t1, b1, e1, k2⟩ := k v H1 x1 k1 p1
    cases dx <;> first | (cases e1; done) | skip
    case list ds =>
      simp only [u1, srtSetD] at e1
      split at e1
      · rename_i ok
        cases e1
        simp only [Bool.and_eq_true, decide_eq_true_eq] at ok
        obtain ⟨⟨⟨⟨o1, o2⟩, o3⟩, o4⟩, o5⟩ := ok
        have cd : (allAlike ds && sortable ds && okDs ds && fit ds.length) = true := by
          simp only [Bool.and_eq_true]
          exact ⟨⟨⟨o3, o4⟩, o5⟩, decide_eq_true (by rw [sizeLine_eq]; exact Nat.le_trans o2 (by decide))⟩
        refine ⟨W1, v, ds, rfl, t1, b1, o1, o2, fun b o zs hb zok ez sw => ⟨b, o, zs, W1, rfl, upd_same, sw, fun z hz => ?_, ?_, fun xs' p hp rr => ?_⟩⟩
        · obtain ⟨x, r1, r2⟩ := zok z hz
          exact ⟨x, r1, Rp.mono (RW.Same.kept (same_upd hb)) (RW.Same.keptT (same_upd hb)) (fun _ q n => absurd q n) _ _ r2⟩
        · have es : zs.map (·.2) = onceD [] ds := ez
          rw [es]
          exact cond_sub cd once_sub.1 once_sub.2
        · have es : zs.map (·.2) = onceD [] ds := ez
          rw [es] at rr
          have sm1 : Same H1 (L2.upd H1 b (DO b o)) := same_upd hb
          have hp1 : H1 p = none := by
            cases z : H1 p with
            | none => rfl
            | some y => rw [sm1 p y z] at hp; cases hp
          have t2 : Wt (L2.upd H1 b (DO b o)) W1 := fun c hc q => t1 c hc (by
            cases z : H1 c with
            | none => rfl
            | some y => rw [sm1 c y z] at q; cases q)
          have ps := Pst.newL (fr := true) t2 hp rr
          refine k2 _ _ (fun c y z => same_upd hp c y (sm1 c y z)) ⟨ps.1, fun f g => ?_⟩
          obtain ⟨p', e, z1, z2⟩ := ps.2 f g
          cases e
          exact ⟨p, rfl, hp1, z2⟩
      · cases e1
end
end RW
/-! Methods, slices, xs[::-1]. -/
namespace RW
open PySem PySem.Spec PyProof.Rows L2
section
variable {prog : Program} {w : World} {A : Around} {E : Value → Shared → Prop} {s : Shared}
theorem sliceApplied_rev {sl : Addr} {vl vu vs : Value} {n : Nat} {Q : Int × Int × Nat → Shared → Prop} (hs : s.heap.IsSliceOf sl vl vu vs) (pl : IsPart vl none) (pu : IsPart vu none) (ps : IsPart vs (some (-1)))
    (h : Q ((n : Int) - 1, -1, n) s) : wpAny (model prog w) A (Builtin.Slice.sliceApplied (.ref sl) (pure (n : Int))) Q E s := by
  obtain ⟨os, hos, hcs, hds⟩ := id hs
  cases ps with
  | int i t =>
  unfold Builtin.Slice.sliceApplied Builtin.Slice.sliceFields
  refine wpAny_bind (wpAny_bind (wpAny_field hos hds (x := vl) rfl (wpAny_bind (wpAny_field hos hds (x := vu) rfl (wpAny_bind (wpAny_field hos hds (x := .int (-1) t) rfl (wpAny_pure ?_)))))))
  refine wpAny_bind (PyProof.Rows.slicePart_int ?_)
  show wpAny _ _ (if ((-1 : Int) == 0) = true then _ else _) _ _ s
  rw [if_neg (by decide)]
  refine wpAny_bind (HT.slicePart_ pl (wpAny_bind (HT.slicePart_ pu (wpAny_bind (wpAny_pure ?_)))))
  show wpAny _ _ (match Builtin.Slice.sliceAdjust none none (-1) (n : Int) with | (lo, hi) => pure (lo, (-1 : Int), Builtin.Slice.slicePlaces lo hi (-1))) _ _ s
  have e : Builtin.Slice.sliceAdjust none none (-1) (n : Int) = ((n : Int) - 1, -1) := by
    unfold Builtin.Slice.sliceAdjust
    simp
  rw [e]
  have e2 : Builtin.Slice.slicePlaces ((n : Int) - 1) (-1) (-1) = n := by
    unfold Builtin.Slice.slicePlaces
    simp
    split <;> omega
  show wpAny _ _ (pure ((n : Int) - 1, (-1 : Int), Builtin.Slice.slicePlaces ((n : Int) - 1) (-1) (-1))) _ _ s
  rw [e2]
  exact wpAny_pure h
theorem pick_rev (xs : Array Value) : ((List.range xs.size).filterMap fun (m : Nat) => xs[(((xs.size : Int) - 1) + (m : Int) * (-1)).toNat]?).toArray = xs.toList.reverse.toArray := by
  rw [← PySem.W.krv_pick]
  unfold slicePick
  rw [PySem.W.krv_bounds]
  show _ = ((sliceRange ((xs.size : Int) - 1) (-1) (-1)).filterMap (xs[·]?)).toArray
  rw [PySem.W.krv_sliceRange, List.filterMap_map]
  congr 1
  have go : ∀ l : List Nat, (∀ m ∈ l, m < xs.size) → l.filterMap (fun (m : Nat) => xs[(((xs.size : Int) - 1) + (m : Int) * (-1)).toNat]?) = l.filterMap ((fun x => xs[x]?) ∘ fun k => xs.size - 1 - k) := by
    intro l
    induction l with
    | nil => intro _; rfl
    | cons m l ih =>
      intro h
      have h1 := h m List.mem_cons_self
      have e : (((xs.size : Int) - 1) + (m : Int) * (-1)).toNat = xs.size - 1 - m := by omega
      rw [List.filterMap_cons, List.filterMap_cons, ih fun k hk => h k (List.mem_cons_of_mem _ hk)]
      rw [e]
      rfl
  exact go _ fun m hm => List.mem_range.mp hm
theorem getItem_tuple_rev {t sl : Addr} {items : Array Value} {vl vu vs : Value} {Q : Value → Shared → Prop} (ht : IsTup s.heap t items) (hs : s.heap.IsSliceOf sl vl vu vs) (pl : IsPart vl none) (pu : IsPart vu none) (ps : IsPart vs (some (-1)))
    (h : Q (.ref s.heap.objs.size) { s with heap := s.heap.push { cls := .type "tuple", data := .seq items.toList.reverse.toArray } })
    (hsz : items.size ≤ sizeLine) : wpAny (model prog w) A (getItem (.ref t) (.ref sl)) Q E s := by
  have htake : sizeOk (.seq items.toList.reverse.toArray) := by
    show items.toList.reverse.toArray.size ≤ sizeLine
    rw [List.size_toArray, List.length_reverse, Array.length_toList]
    exact hsz
  obtain ⟨os, hos, hcs, hds⟩ := id hs
  have hTs : s.TypeIs (.ref sl) "slice" := ⟨os, hos, hcs⟩
  unfold getItem
  try with_reducible refine wpAny_holding ?_
  first | refine wpAny_bind (wpAny_pure ?_) | skip
  refine wpAny_bind (wpAny_sequenceKey ht.typeIs (by decide) ?_)
  refine wpAny_bind (wpAny_callSpecial?_slot (name := Str.ofString "__getitem__") ht.typeIs PyProof.Rows.slot_tuple_getitem
    (wpAny_call_entry PyProof.Rows.slot_tuple_getitem ht.typeIs entry_tuple_getitem ?_ (args_tuple_getitem _ _)))
  show wpAny _ _ (Builtin.Tuple.tupleItemsOf (.ref t) >>= _) _ _ s
  refine wpAny_bind (tupleItemsOf_ ht ?_)
  refine wpAny_bind (wpAny_typeOf hTs ?_)
  rw [if_pos (by decide)]
  refine wpAny_bind (sliceApplied_rev hs pl pu ps ?_)
  have hno : ¬ ((((items.size : Int) - 1) == 0 && (-1 : Int) == 1 && items.size == items.size) = true) := by
    rw [show ((-1 : Int) == 1) = false by decide]
    simp
  show wpAny _ _ (if (((items.size : Int) - 1) == 0 && (-1 : Int) == 1 && items.size == items.size) = true then _ else _) _ _ s
  rw [if_neg hno, pick_rev]
  first
    | exact wpAny_bind (m := Builtin.Tuple.tupleExact _) (wpAny_newObj_type (wpAny_pure ⟨_, rfl, wpAny_pure h⟩) htake)
    | exact wpAny_bind (m := Builtin.Tuple.tupleExact _) (wpAny_newObj_type (wpAny_bind (wpAny_pure (wpAny_pure ⟨_, rfl, wpAny_pure h⟩))) htake)
    | exact wpAny_bind (wpAny_bind (m := Builtin.Tuple.tupleExact _) (wpAny_newObj_type (wpAny_pure (wpAny_pure ⟨_, rfl, wpAny_pure h⟩)) htake))
    | exact wpAny_bind (wpAny_bind (m := Builtin.Tuple.tupleExact _) (wpAny_newObj_type (wpAny_pure ⟨_, rfl, wpAny_pure h⟩) htake))
end
section
variable {X : Cx} {C : CC} {m : Md} {e a b : Expr} {i ia ib ic : Ex} {pos p p2 : Pos}
/-- xs[::-1] of a list or a tuple -/
def tRev2 (K : PySem.W.Frag) (te : TE) : TE := fun σ H Q => te σ H fun x H1 => ∃ a xs, x = .ref a ∧ ((SqL K H1 a xs ∧ ∀ p, H1 p = none → Q (.ref p) (upd H1 p (.lst xs.reverse))) ∨ (SqT K H1 a xs ∧ NewT H1 Q xs.reverse))
theorem pe_rev {te : TE} {k : Nat} {p1 p2 p3 : Pos} (he : PE X e te) : PE X (.Subscript e (.Slice none none (some (.UnaryOp .USub (.Constant (.int 1) k p1) p2)) p3) pos) (tRev2 X.K te) := by
  refine ⟨fun pins s σ H Q I h => ?_⟩
  refine Subscript_ (thn (he.run pins s σ H _ I h) fun v s1 ⟨x, H1, I1, r1, q1⟩ => ?_)
  obtain ⟨a, xs, ex, hx⟩ := q1
  subst ex
  cases r1
  have hst : PO X (some (.UnaryOp .USub (.Constant (.int 1) k p1) p2)) (tPart (tUn (rU fun i => .int (-i)) (tC (.int 1)))) := po_some (pe_un un_neg pe_int)
  refine wpAny_Slice (thn (po_none.run pins s1 σ H1 (fun o H2 => o = none ∧ H2 = H1) I1 ⟨rfl, rfl⟩) fun vl s2 ⟨l, H2, I2, pl, el, e2⟩ => ?_)
  subst el e2
  refine thn (po_none.run pins s2 σ H2 (fun o H3 => o = none ∧ H3 = H2) I2 ⟨rfl, rfl⟩) fun vu s3 ⟨u, H3, I3, pu, eu, e3⟩ => ?_
  subst eu e3
  refine thn (hst.run pins s3 σ H3 (fun o H4 => o = some (-1) ∧ H4 = H3) I3 ⟨1, rfl, -1, rfl, rfl, rfl⟩) fun vs s4 ⟨o, H4, I4, ps, eo, e4⟩ => ?_
  subst eo e4
  have I5 : Inv X pins σ H4 { s4 with heap := s4.heap.push { cls := .type "slice", data := .fields #[vl, vu, vs] } } := I4.kept (t' := s4.toks) fun b ob q => Heap.get?_push_of_some _ q
  show wpAny (model X.prog X.w) X.A (subscriptTail e (.Slice none none (some (.UnaryOp .USub (.Constant (.int 1) k p1) p2)) p3) (.ref a) (.ref s4.heap.objs.size)) (EP X pins σ Q) X.xe { s4 with heap := s4.heap.push { cls := .type "slice", data := .fields #[vl, vu, vs] } }
  rcases hx with ⟨hx, q⟩ | ⟨hx, q⟩
  · obtain ⟨its, r, ht, hz⟩ := I5.list hx
    have hlen := r.length
    refine tail_any (ops := [.ref a, .ref s4.heap.objs.size]) ht.isList.typeIs (PySem.slot_list_getitem.lookup) ?_ (by with_unfolding_all rfl)
    refine wpAny_getItem_list_slice ht.isList (Heap.IsSliceOf.new _ vl vu vs) pl pu ps (by decide) ?_ (by rw [List.size_toArray]; omega)
    rw [PySem.W.krv_pick]
    refine ⟨.ref _, _, I5.laid (t' := s4.toks) (o := .lst xs.reverse) (fun b ob q => Heap.get?_push_of_some _ q) (Nat.le_refl _) ?_, rfl, q _ (I5.hok.fresh (Nat.le_refl _))⟩
    exact ⟨by rw [List.length_reverse]; exact hz, _, 0, r.reverse, Heap.get?_push_size _ rfl⟩
  · obtain ⟨its, r, ht, hz⟩ := I5.tuple hx
    have hlen := r.length
    refine tail_any (ops := [.ref a, .ref s4.heap.objs.size]) ht.typeIs (PyProof.Rows.slot_tuple_getitem.lookup) ?_ (by with_unfolding_all rfl)
    refine getItem_tuple_rev ht (Heap.IsSliceOf.new _ vl vu vs) pl pu ps ?_ (by rw [List.size_toArray]; omega)
    exact lay_tup (s := { s4 with heap := s4.heap.push { cls := .type "slice", data := .fields #[vl, vu, vs] } }) I5 (t' := s4.toks) rfl r.reverse (by rw [List.length_reverse]; exact hz) q
theorem s_rev {k : Nat} {p1 p2 p3 : Pos} (he : PE X e (sE X C .bo i)) : PE X (.Subscript e (.Slice none none (some (.UnaryOp .USub (.Constant (.int 1) k p1) p2)) p3) pos) (sE X C m (.rev i)) :=
  PE.weak (pe_rev he) fun σ H Q ⟨ω, W, ρ, n, d, n', st, ev, k⟩ => by
    simp only [evE] at ev
    obtain ⟨x, n1, e1, e2⟩ := bnd_some ev
    obtain ⟨d', e3, e4⟩ := lift_some e2
    cases e4
    refine ⟨ω, W, ρ, n, x, n', st, e1, fun v H1 x1 k1 p1 => ?_⟩
    cases x <;> first | (cases e3; done) | skip
    case list ds =>
      cases e3
      obtain ⟨a, xs, rfl, h1, h2⟩ := RB.lst p1
      exact ⟨a, xs, rfl, .inl ⟨h1, fun p hp => k _ _ (x1.trans (Same.ext (same_upd hp))) (k1.same (same_upd hp)) (Post.base x1 k1 (Pst.post m (.newL (st.wt.ext x1 k1) hp h2.reverse)))⟩⟩
    case tuple ds =>
      cases e3
      obtain ⟨a, xs, rfl, h1, h2⟩ := RB.tup p1
      exact ⟨a, xs, rfl, .inr ⟨h1.1, fun p ob hp ho => k _ _ (x1.trans (Same.ext (same_upd hp))) (k1.same (same_upd hp)) (Post.base x1 k1 (Pst.post m (.newT hp ho h2.reverse)))⟩⟩
/-! slices -/
abbrev sO (X : Cx) (C : CC) (o : Option Ex) : TO := fun σ H Q => ∃ ω W ρ n d n' z, Stt X.K X.w ω W n ρ σ H ∧ evO (C (drOf ω)) o ρ n = some (d, n') ∧ intO d = some z ∧ ∀ H', Ext ω H H' → WOk X.K ω n' H' → Q z H'
theorem s_onone : PO X none (sO X C none) := ⟨fun pins s σ H Q I ⟨ω, W, ρ, n, d, n', z, st, ev, ez, k⟩ => by
  simp only [evO] at ev
  cases ret_some ev
  cases ez
  exact po_none.run pins s σ H Q I (k H (Ext.refl _ _) st.wk)⟩
theorem s_osome (h : PE X e (sE X C .bo i)) : PO X (some e) (sO X C (some i)) := ⟨fun pins s σ H Q I ⟨ω, W, ρ, n, d, n', z, st, ev, ez, k⟩ => by
  simp only [evO] at ev
  obtain ⟨x, n1, e1, e2⟩ := bnd_some ev
  cases ret_some e2
  cases x <;> first | (cases ez; done) | skip
  case int j =>
    cases ez
    exact (po_some h).run pins s σ H Q I ⟨ω, W, ρ, n, _, _, st, e1, fun v H1 x1 k1 p1 => ⟨j, RB.int p1, k H1 x1 k1⟩⟩⟩
theorem s_slice {lo hi : Option Expr} {l h : Option Ex} (he : PE X e (sE X C .bo i)) (hl : PO X lo (sO X C l)) (hh : PO X hi (sO X C h)) : PE X (.Subscript e (.Slice lo hi none p2) pos) (sE X C m (.sl i l h)) :=
  PE.weak (pe_slice d_slice he hl hh) fun σ H Q ⟨ω, W, ρ, n, d, n', st, ev, k⟩ => by
    simp only [evE] at ev
    obtain ⟨x, n1, e1, ev⟩ := bnd_some ev
    obtain ⟨y, n2, e2, ev⟩ := bnd_some ev
    obtain ⟨z, n3, e3, ev⟩ := bnd_some ev
    obtain ⟨d', e4, e5⟩ := lift_some ev
    cases e5
    simp only [Option.bind_eq_some_iff] at e4
    obtain ⟨y', e6, z', e7, e8⟩ := e4
    exact ⟨ω, W, ρ, n, x, n1, st, e1, fun v H1 x1 k1 p1 => ⟨ω, W, ρ, n1, y, n2, y', st.ext x1 k1, e2, e6, fun H2 x2 k2 => ⟨ω, W, ρ, n2, z, _, z', (st.ext x1 k1).ext x2 k2, e3, e7, fun H3 x3 k3 =>
      ⟨W, x, _, ((st.wt.ext x1 k1).ext x2 k2).ext x3 k3, (RB.ext p1 x2 st.om k1).ext x3 st.om k2, e8, fun v' H4 sm ps => k v' H4 (((x1.trans x2).trans x3).trans (Same.ext sm)) (k3.same sm) (Pst.post m (Pst.base ((x1.trans x2).trans x3) k3 ps))⟩⟩⟩⟩
/-! methods -/
def TyI (X : Cx) (T : String) (x : V) (H : Hp) : Prop := ∀ pins σ s v, Inv X pins σ H s → RelV x v → s.TypeIs v T ∧ ∀ a, v = .ref a → ∃ ob, s.heap.get? a = some ob ∧ ob.dict = none
def tBMD (X : Cx) (T : String) (r : V → List V → Hp → VK → Prop) (to : TE) (t : TA) : TE := fun σ H Q => to σ H fun x H1 => TyI X T x H1 ∧ t σ H1 fun xs H2 => r x xs H2 Q
theorem noKw (cpos : Pos) : (backToKw cpos (keywordEach [] X.env)).all (fun x => x.1.isSome) = true := rfl
theorem star_all {es : List Expr} {env : Env} (h : es.all noStar = true) : (backTo pos (starEach es env)).all (fun x => !x.1) = true := by
  induction es with
  | nil => rfl
  | cons e es ih =>
    rw [List.all_cons, Bool.and_eq_true] at h
    rw [star_of h.1]
    show ((!false) && (backTo pos (starEach es env)).all (fun x => !x.1)) = true
    rw [ih h.2]
    rfl
theorem pe_bmD {o : Expr} {es : List Expr} {to : TE} {t : TA} {name : Str} {apos cpos : Pos} {T id : String} {r : V → List V → Hp → VK → Prop} (pa : PlainAttrs T) (slot : Slot T name id) (hty : typeOf (.builtin id) = pure (.type "method_descriptor")) (hm : MtR X id r) (ho : PE X o to) (ha : PA X (e :: es) t)
    (hbase : attributeBase o name X.env (eval o X.env) = eval o X.env) (hns : (e :: es).all noStar = true) (hlen : es.length < 20) (hline : (apos.endLine == cpos.line) = true) :
    PE X (.Call (.Attribute o name apos) (e :: es) [] cpos) (tBMD X T r to t) := by
  refine ⟨fun pins s σ H Q I h => ?_⟩
  have hns' : noStar e = true ∧ es.all noStar = true := by rwa [List.all_cons, Bool.and_eq_true] at hns
  have hfew : ((backTo cpos (starEach (e :: es) X.env)).all (fun x => !x.1) && (backToKw cpos (keywordEach [] X.env)).all (fun x => x.1.isSome)
      && decide ((e :: es).length + ([] : List Keyword).length + (if ([] : List Keyword).isEmpty then 0 else 1) < 30)) = true := by
    rw [star_all hns, noKw]
    simp only [List.length_cons, List.length_nil, List.isEmpty_nil, if_true, Bool.true_and, decide_eq_true_eq]
    omega
  refine wpAny_Call_method_late hbase hfew hline rfl (thn (ho.run pins s σ H _ I h) fun v s1 ⟨x, H1, I1, r1, ty, q1⟩ => ?_)
  obtain ⟨h1, h2⟩ := ty _ _ _ _ I1 r1
  refine ⟨T, id, pa, slot, hty, h1, h2, ?_⟩
  have hA := ha.run cpos pins s1 σ H1 _ I1 q1
  have hs := star_of hns'.1 es X.env
  rw [hs] at hA ⊢
  refine Calls.callWith_builtin (by show (false || (backTo cpos (starEach es X.env)).any (·.1)) = false; rw [star_any hns'.2] <;> rfl) (Calls.evalArgs_plain ?_)
  exact thn hA fun us s2 ⟨vs, H2, I2, r2, q2⟩ => hm pins s2 σ H2 x vs v us Q I2 r1 r2 q2
theorem ty_lst {x : V} {H : Hp} {W : Addr → Prop} {ds : List PyData} (h : RB X.K X.w H W x (.list ds)) : TyI X "list" x H := fun pins σ s v I r => by
  obtain ⟨a, xs, rfl, h1, _⟩ := h.lst
  cases r
  obtain ⟨its, _, ⟨o, n, ho, hc, hdn, _⟩, _⟩ := I.list h1
  exact ⟨⟨o, ho, hc⟩, fun b e => by cases e; exact ⟨o, ho, hdn⟩⟩
theorem ty_tup {x : V} {H : Hp} {W : Addr → Prop} {ds : List PyData} (h : RB X.K X.w H W x (.tuple ds)) : TyI X "tuple" x H := fun pins σ s v I r => by
  obtain ⟨a, xs, rfl, h1, _⟩ := h.tup
  cases r
  obtain ⟨its, _, ⟨o, ho, hc, _⟩, _⟩ := I.tuple h1.1
  refine ⟨⟨o, ho, hc⟩, fun b e => ?_⟩
  cases e
  rcases h1.2 with ⟨ob, ys, q1, q2⟩ | ⟨ob, q1, q2⟩
  · have : ObjOk X.prog X.w H s.heap a (.frz ob (.tup ys)) := I.hok a _ q1
    exact ⟨ob, this.1, q2⟩
  · exact ⟨ob, I.kIn _ _ q1, q2⟩
theorem ty_dic {x : V} {H : Hp} {W : Addr → Prop} {kvs : List (PyData × PyData)} (h : RB X.K X.w H W x (.dict kvs)) : TyI X "dict" x H := fun pins σ s v I r => by
  obtain ⟨a, o, es, rfl, h1, d⟩ := h.dat
  cases r
  have ho := do_get I h1
  exact ⟨d.typeIs ho, fun b e => by cases e; exact ⟨o, ho, d.f.ex.2.1⟩⟩
theorem base_name {x : Str} {name : Str} : attributeBase (.Name x p) name X.env (eval (.Name x p) X.env) = eval (.Name x p) X.env := rfl
/-- o.m(y), o a name, over data -/
theorem s_meth1 {op : U2} {o : Expr} {name : Str} {apos : Pos} {T id : String} {fr : Bool} (hmd : fr = true ∨ m = .pu ∨ m = .bo) (pa : PlainAttrs T) (slot : Slot T name id) (hty : typeOf (.builtin id) = pure (.type "method_descriptor")) (hm : MtR X id (fun x xs H Q => ∃ y, xs = [y] ∧ r2 fr X.K X.w (u2 op) x y H Q))
    (hT : ∀ {x : V} {H : Hp} {W : Addr → Prop} {d y z : PyData}, RB X.K X.w H W x d → u2 op d y = some z → TyI X T x H)
    (ho : PE X o (sE X C .bo ia)) (hb : PE X b (sE X C .bo ib)) (hns : noStar b = true) (hbase : attributeBase o name X.env (eval o X.env) = eval o X.env) (hline : (apos.endLine == pos.line) = true) : PE X (.Call (.Attribute o name apos) [b] [] pos) (sE X C m (.o2 op ia ib)) :=
  PE.weak (pe_bmD pa slot hty hm ho (pa_cons hb pa_nil (star_of hns _ _)) hbase (by simp [hns]) (by decide) hline) fun σ H Q h => by
    obtain ⟨ω, W, ρ, n, d, n', st, ev, k⟩ := h
    simp only [evE] at ev
    obtain ⟨x, n1, e1, ev⟩ := bnd_some ev
    obtain ⟨y, n2, e2, ev⟩ := bnd_some ev
    obtain ⟨d', e3, e4⟩ := lift_some ev
    cases e4
    refine ⟨ω, W, ρ, n, x, n1, st, e1, fun v H1 x1 k1 p1 => ⟨hT p1 e3, ω, W, ρ, n1, y, _, st.ext x1 k1, e2, fun u H2 x2 k2 p2 => ⟨u, rfl, W, x, y, _, (st.wt.ext x1 k1).ext x2 k2, (Post.rb p1).ext x2 st.om k1, p2, e3, fun z H3 sm ps => k _ _ ((x1.trans x2).trans (Same.ext sm)) (k2.same sm) ?_⟩⟩⟩
    cases fr with
    | true => exact Pst.post m (Pst.base (x1.trans x2) k2 ps)
    | false =>
      rcases hmd with h | h | h
      · cases h
      · subst h; exact Pst.base (x1.trans x2) k2 ps
      · subst h; exact .inl ps.1
theorem s_lindex (hu : X.A.units + 200 < cLine) {o : Expr} {apos : Pos} (ho : PE X o (sE X C .bo ia)) (hb : PE X b (sE X C .bo ib)) (hns : noStar b = true) (hbase : attributeBase o "index" X.env (eval o X.env) = eval o X.env) (hline : (apos.endLine == pos.line) = true) : PE X (.Call (.Attribute o "index" apos) [b] [] pos) (sE X C m (.o2 .lindex ia ib)) :=
  s_meth1 (.inl rfl) PySem.F.plainAttrs_list PySem.F.slot_list_index PySem.F.type_list_index (d_lindex hu) (fun {x H W d y z} h e => by cases d <;> first | (cases e; done) | exact ty_lst h) ho hb hns hbase hline
theorem s_tindex (hu : X.A.units + 200 < cLine) {o : Expr} {apos : Pos} (ho : PE X o (sE X C .bo ia)) (hb : PE X b (sE X C .bo ib)) (hns : noStar b = true) (hbase : attributeBase o "index" X.env (eval o X.env) = eval o X.env) (hline : (apos.endLine == pos.line) = true) : PE X (.Call (.Attribute o "index" apos) [b] [] pos) (sE X C m (.o2 .tindex ia ib)) :=
  s_meth1 (.inl rfl) PySem.F.plainAttrs_tuple PySem.F.slot_tuple_index PySem.F.type_tuple_index (d_tindex hu) (fun {x H W d y z} h e => by cases d <;> first | (cases e; done) | exact ty_tup h) ho hb hns hbase hline
theorem s_lcount (hu : X.A.units + 200 < cLine) {o : Expr} {apos : Pos} (ho : PE X o (sE X C .bo ia)) (hb : PE X b (sE X C .bo ib)) (hns : noStar b = true) (hbase : attributeBase o "count" X.env (eval o X.env) = eval o X.env) (hline : (apos.endLine == pos.line) = true) : PE X (.Call (.Attribute o "count" apos) [b] [] pos) (sE X C m (.o2 .lcount ia ib)) :=
  s_meth1 (.inl rfl) PySem.F.plainAttrs_list PySem.F.slot_list_count PySem.F.type_list_count (d_lcount hu) (fun {x H W d y z} h e => by cases d <;> first | (cases e; done) | exact ty_lst h) ho hb hns hbase hline
theorem s_tcount (hu : X.A.units + 200 < cLine) {o : Expr} {apos : Pos} (ho : PE X o (sE X C .bo ia)) (hb : PE X b (sE X C .bo ib)) (hns : noStar b = true) (hbase : attributeBase o "count" X.env (eval o X.env) = eval o X.env) (hline : (apos.endLine == pos.line) = true) : PE X (.Call (.Attribute o "count" apos) [b] [] pos) (sE X C m (.o2 .tcount ia ib)) :=
  s_meth1 (.inl rfl) PySem.F.plainAttrs_tuple PySem.F.slot_tuple_count PySem.F.type_tuple_count (d_tcount hu) (fun {x H W d y z} h e => by cases d <;> first | (cases e; done) | exact ty_tup h) ho hb hns hbase hline
theorem s_get1 (hu : X.A.units + 200 < cLine) {o : Expr} {apos : Pos} (hmd : m ≠ .fr) (ho : PE X o (sE X C .bo ia)) (hb : PE X b (sE X C .bo ib)) (hns : noStar b = true) (hbase : attributeBase o "get" X.env (eval o X.env) = eval o X.env) (hline : (apos.endLine == pos.line) = true) : PE X (.Call (.Attribute o "get" apos) [b] [] pos) (sE X C m (.o2 .get ia ib)) :=
  s_meth1 (fr := false) (.inr (by cases m with | fr => exact absurd rfl hmd | pu => exact .inl rfl | bo => exact .inr rfl)) PySem.F.plainAttrs_dict PySem.F.slot_dict_get PySem.F.type_dict_get
    (fun pins s σ H x xs v us Q I rx r ⟨y, e, W, dx, dy, d, t, bx, by_, ee, q⟩ => mt_get1 hu pins s σ H x xs v us Q I rx r ⟨y, e, W, dx, dy, d, t, bx, by_, by cases dx <;> first | (cases ee; done) | exact ee, q⟩)
    (fun {x H W d y z} h e => by cases d <;> first | (cases e; done) | exact ty_dic h) ho hb hns hbase hline
end
end RW
/-! Targets, what is walked, comprehensions. -/
namespace RW
open PySem PySem.Spec PyProof.Rows L2
open PySem.W (EachIs)
/-- an item: a value; a new pair -/
inductive Yl where
  | one (v : V) | two (a b : V)
def YlIs (K : PySem.W.Frag) (y : Yl) (x : V) (H : Hp) : Prop := match y with
  | .one v => x = v
  | .two a b => ∃ p, x = .ref p ∧ SqT K H p [a, b]
def YlD (K : PySem.W.Frag) (w : World) (H : Hp) (W : Addr → Prop) (y : Yl) (d : PyData) : Prop := match y with
  | .one v => Rp K w H W v d
  | .two a b => ∃ d1 d2, d = .tuple [d1, d2] ∧ Rp K w H W a d1 ∧ Rp K w H W b d2
def Yl.isOne : Yl → Bool
  | .one _ => true
  | .two _ _ => false
section
variable {K : PySem.W.Frag} {w : World} {H H' H1 : Hp} {W W' W1 : Addr → Prop} {ω : Om} {σ σ' : L2.St} {ρ : Sls} {n n' : Nat}
theorem YlD.mono {y : Yl} {d : PyData} (k : Kept W H H') (t : KeptT H H') (c : ∀ a, W' a → ¬ W a → H a = none) (h : YlD K w H W y d) : YlD K w H' W' y d := by
  cases y with
  | one v => exact Rp.mono k t c _ _ h
  | two a b => obtain ⟨d1, d2, e, h1, h2⟩ := h; exact ⟨d1, d2, e, Rp.mono k t c _ _ h1, Rp.mono k t c _ _ h2⟩
/-- J walks over the data xs -/
def Its (K : PySem.W.Frag) (w : World) (W1 : Addr → Prop) (H1 : Hp) (W : Addr → Prop) (two : Bool) (J : It) (xs : List PyData) : Prop :=
  ∃ ys : List Yl, EachIs (fun y d => (two = false → y.isOne = true) ∧ YlD K w H1 W y d) ys xs ∧ ∀ H2, Kept W1 H1 H2 → KeptT H1 H2 → ∀ i,
    (∀ y, ys[i]? = some y → J.go i H2 ∧ ∀ x H', J.yld i H2 x H' → Same H2 H' ∧ YlIs K y x H') ∧ (ys.length ≤ i → J.stop i H2)
def chg (m : Md) (ω : Om) (W : Addr → Prop) : Addr → Prop := match m with
  | .bo => fun a => ∃ p, ω = some p ∧ a = p.1
  | _ => W
abbrev tS (K : PySem.W.Frag) (w : World) (C : CC) (two : Bool) (m : Md) (f : Orc → Sls → M (List PyData)) : TI := fun σ H R => ∃ ω W ρ n xs n', Stt K w ω W n ρ σ H ∧ f (C (drOf ω)) ρ n = some (xs, n') ∧ ∀ J H1, Ext ω H H1 → WOk K ω n' H1 → Its K w (chg m ω W) H1 W two J xs → R J H1
/-! targets -/
mutual
def tgSlots : Tg → List Nat
  | .nm i => [i]
  | .tp ts => tgsSlots ts
def tgsSlots : List Tg → List Nat
  | [] => []
  | t :: ts => tgSlots t ++ tgsSlots ts
end
def SameOut (ts : List Nat) (σ σ' : L2.St) : Prop := σ'.length = σ.length ∧ ∀ i, i ∉ ts → σ'[i]? = σ[i]?
theorem wipe_get {σ : L2.St} : ∀ (vs : List Nat) (i : Nat), (L2.wipe σ vs)[i]? = if i ∈ vs ∧ i < σ.length then some none else σ[i]?
  | [], i => by simp [L2.wipe]
  | v :: vs, i => by
    unfold L2.wipe
    rw [List.getElem?_set, wipe_get vs i, wipe_length]
    by_cases e : v = i
    · subst e
      by_cases h : v < σ.length
      · simp [h]
      · simp [h]
    · have e' : ¬ i = v := fun z => e z.symm
      simp [e, e']
theorem wipe_same {vs : List Nat} {ts : List Nat} (h : SameOut ts σ σ') (hs : ∀ i ∈ ts, i ∈ vs) : L2.wipe σ' vs = L2.wipe σ vs := by
  apply List.ext_getElem?
  intro i
  rw [wipe_get, wipe_get, h.1]
  split
  · rfl
  · rename_i hn
    by_cases hi : i ∈ ts
    · have : ¬ i < σ.length := fun z => hn ⟨hs i hi, z⟩
      rw [List.getElem?_eq_none (by rw [h.1]; omega), List.getElem?_eq_none (by omega)]
    · exact h.2 i hi
theorem SameOut.trans {ts us : List Nat} {σ σ1 σ2 : L2.St} (a : SameOut ts σ σ1) (b : SameOut us σ1 σ2) : SameOut (ts ++ us) σ σ2 :=
  ⟨b.1.trans a.1, fun i hi => by rw [List.mem_append, not_or] at hi; rw [b.2 i hi.2, a.2 i hi.1]⟩
theorem EnvOk.put {i : Nat} {v : V} {d : PyData} (e : EnvOk K w H W ω σ ρ) (hi : i < ρ.length) (r : Rp K w H W v d) : EnvOk K w H W ω (σ.set i (some v)) (ρ.set i (.pu d)) := by
  have hi' : i < σ.length := by rw [e.len]; exact hi
  have go : ∀ (j : Nat) (s : Sl), (ρ.set i (.pu d))[j]? = some s → (j = i ∧ s = .pu d) ∨ (j ≠ i ∧ ρ[j]? = some s) := fun j s h => by
    rw [List.getElem?_set] at h
    by_cases z : i = j
    · subst z; simp [hi] at h; exact .inl ⟨rfl, h.symm⟩
    · simp [z] at h; exact .inr ⟨fun q => z q.symm, h⟩
  have up : ∀ (j : Nat), j ≠ i → (σ.set i (some v))[j]? = σ[j]? := fun j hj => by rw [List.getElem?_set]; simp [Ne.symm hj]
  refine ⟨fun j d' h => ?_, fun j d' h => ?_, fun j d' h => ?_, fun j h => ?_, by rw [List.length_set, List.length_set]; exact e.len⟩
  · rcases go j _ h with ⟨rfl, z⟩ | ⟨hj, z⟩
    · cases z; exact ⟨v, by simp [hi'], r⟩
    · rw [up j hj]; exact e.pu j d' z
  · rcases go j _ h with ⟨rfl, z⟩ | ⟨hj, z⟩
    · cases z
    · rw [up j hj]; exact e.ow j d' z
  · rcases go j _ h with ⟨rfl, z⟩ | ⟨hj, z⟩
    · cases z
    · rw [up j hj]; exact e.bo j d' z
  · rcases go j _ h with ⟨rfl, z⟩ | ⟨hj, z⟩
    · cases z
    · rw [up j hj]; exact e.wr j z
theorem wipeS_get {ρ : Sls} : ∀ (vs : List Nat) (i : Nat), (wipeS ρ vs)[i]? = if i ∈ vs ∧ i < ρ.length then some .no else ρ[i]?
  | [], i => by simp [wipeS]
  | v :: vs, i => by
    have hl : (wipeS ρ vs).length = ρ.length := by
      clear i
      induction vs with
      | nil => rfl
      | cons v vs ih => simp [wipeS, ih]
    unfold wipeS
    rw [List.getElem?_set, wipeS_get vs i, hl]
    by_cases e : v = i
    · subst e
      by_cases h : v < ρ.length
      · simp [h]
      · simp [h]
    · have e' : ¬ i = v := fun z => e z.symm
      simp [e, e']
theorem wipeS_length {ρ : Sls} (vs : List Nat) : (wipeS ρ vs).length = ρ.length := by
  induction vs with
  | nil => rfl
  | cons v vs ih => simp [wipeS, ih]
theorem EnvOk.wipe (e : EnvOk K w H W ω σ ρ) (vs : List Nat) : EnvOk K w H W ω (L2.wipe σ vs) (wipeS ρ vs) := by
  have go : ∀ (j : Nat) (s : Sl), s ≠ .no → (wipeS ρ vs)[j]? = some s → ρ[j]? = some s ∧ (L2.wipe σ vs)[j]? = σ[j]? := fun j s hs h => by
    rw [wipeS_get] at h
    rw [wipe_get, e.len]
    split at h
    · cases h; exact absurd rfl hs
    · rename_i hn; exact ⟨h, by rw [if_neg hn]⟩
  refine ⟨fun j d h => ?_, fun j d h => ?_, fun j d h => ?_, fun j h => ?_, by rw [wipe_length, wipeS_length, e.len]⟩
  · obtain ⟨h1, h2⟩ := go j _ (by simp) h; rw [h2]; exact e.pu j d h1
  · obtain ⟨h1, h2⟩ := go j _ (by simp) h; rw [h2]; exact e.ow j d h1
  · obtain ⟨h1, h2⟩ := go j _ (by simp) h; rw [h2]; exact e.bo j d h1
  · obtain ⟨h1, h2⟩ := go j _ (by simp) h; rw [h2]; exact e.wr j h1
/-- the slots behind a store, in this heap and in any other to which the stored values are taken -/
def Put (K : PySem.W.Frag) (w : World) (H : Hp) (W : Addr → Prop) (ω : Om) (σ : L2.St) (ρ : Sls) (σ' : L2.St) (ρ' : Sls) : Prop :=
  ∀ H2 W2, (∀ v d, Rp K w H W v d → Rp K w H2 W2 v d) → EnvOk K w H2 W2 ω σ ρ → EnvOk K w H2 W2 ω σ' ρ'
theorem Put.now {ρ' : Sls} (h : Put K w H W ω σ ρ σ' ρ') (e : EnvOk K w H W ω σ ρ) : EnvOk K w H W ω σ' ρ' := h H W (fun _ _ r => r) e
/-- a target's reading: values, then the slots -/
def gD (K : PySem.W.Frag) (w : World) (two : Bool) (t : Tg) : TG := fun v σ H Q => ∃ ω W ρ d ρ' y, EnvOk K w H W ω σ ρ ∧ (two = false → y.isOne = true) ∧ YlIs K y v H ∧ YlD K w H W y d ∧ asgT t d ρ = some ρ' ∧ ∀ σ', Put K w H W ω σ ρ σ' ρ' → SameOut (tgSlots t) σ σ' → Q σ' H
def gsD (K : PySem.W.Frag) (w : World) (ts : List Tg) : TGs := fun vs σ H Q => ∃ ω W ρ ds ρ', EnvOk K w H W ω σ ρ ∧ Rps K w H W vs ds ∧ asgTs ts ds ρ = some ρ' ∧ ∀ σ', Put K w H W ω σ ρ σ' ρ' → SameOut (tgsSlots ts) σ σ' → Q σ' H
end
section
variable {X : Cx} {C : CC} {m : Md} {e a b tg : Expr} {i ia ib ic : Ex} {pos p p2 : Pos} {two : Bool}
theorem PG.weak {t t' : TG} (h : PG X tg t) (i : ∀ v σ H Q, t' v σ H Q → t v σ H Q) : PG X tg t' := ⟨fun pins s σ H v u Q I r q => h.run pins s σ H v u Q I r (i _ _ _ _ q)⟩
theorem PGs.weak {ts : List Expr} {t t' : TGs} (h : PGs X ts t) (i : ∀ v σ H Q, t' v σ H Q → t v σ H Q) : PGs X ts t' := ⟨fun pins s σ H v u Q I r q => h.run pins s σ H v u Q I r (i _ _ _ _ q)⟩
theorem s_nm {j : Nat} {x : Str} (h : PG X (.Name x pos) (gName j)) : PG X (.Name x pos) (gD X.K X.w false (.nm j)) := PG.weak h fun v σ H Q ⟨ω, W, ρ, d, ρ', y, ev, h1, h2, h3, h4, k⟩ => by
  simp only [asgT] at h4
  split at h4
  · rename_i hi
    cases h4
    cases y with
    | two a b => cases h1 rfl
    | one v' =>
      cases h2
      exact k _ (fun H2 W2 tr e2 => e2.put hi (tr _ _ h3)) ⟨by rw [List.length_set], fun i hn => by rw [List.getElem?_set]; simp [tgSlots] at hn; simp [Ne.symm hn]⟩
  · cases h4
theorem s_gnil : PGs X [] (gsD X.K X.w []) := PGs.weak pgs_nil fun vs σ H Q ⟨ω, W, ρ, ds, ρ', ev, h1, h2, k⟩ => by
  cases ds with
  | nil => cases h1; simp only [asgTs] at h2; cases h2; exact ⟨rfl, k σ (fun _ _ _ e2 => e2) ⟨rfl, fun _ _ => rfl⟩⟩
  | cons d ds => simp only [asgTs] at h2; cases h2
theorem assignStar {t : Tg} {e : Expr} (hs : noStar e = true) (es : List Expr) (env : Env) : (assignEach (e :: es) env).map (·.2) = assign e env :: (assignEach es env).map (·.2) := by
  cases e <;> first | rfl | cases hs
theorem s_gcons {t : Tg} {ts : List Tg} {es : List Expr} (h1 : PG X e (gD X.K X.w false t)) (h2 : PGs X es (gsD X.K X.w ts)) (hs : noStar e = true) : PGs X (e :: es) (gsD X.K X.w (t :: ts)) :=
  PGs.weak (pgs_cons h1 h2 (assignStar (t := t) hs es X.env)) fun vs σ H Q ⟨ω, W, ρ, ds, ρ', ev, r, ha, k⟩ => by
    cases ds with
    | nil => simp only [asgTs] at ha; cases ha
    | cons d ds =>
      cases r with
      | cons r1 r2 =>
        simp only [asgTs, Option.bind_eq_some_iff] at ha
        obtain ⟨ρ1, ha, hb⟩ := ha
        refine ⟨_, _, rfl, ω, W, ρ, d, ρ1, .one _, ev, fun _ => rfl, rfl, r1, ha, fun σ1 e1 s1 => ⟨ω, W, ρ1, ds, ρ', e1.now ev, r2, hb, fun σ2 e2 s2 => k σ2 (fun H2 W2 tr e => e2 H2 W2 tr (e1 H2 W2 tr e)) ?_⟩⟩
        simp only [tgsSlots]
        exact s1.trans s2
theorem asgTs_len : ∀ {ts : List Tg} {ds : List PyData} {ρ ρ' : Sls}, asgTs ts ds ρ = some ρ' → ts.length = ds.length
  | [], [], _, _, _ => rfl
  | [], _ :: _, _, _, h => by simp only [asgTs] at h; cases h
  | _ :: _, [], _, _, h => by simp only [asgTs] at h; cases h
  | t :: ts, d :: ds, ρ, ρ', h => by
    simp only [asgTs, Option.bind_eq_some_iff] at h
    obtain ⟨ρ1, h1, h2⟩ := h
    rw [List.length_cons, List.length_cons, asgTs_len h2]
theorem assign_len {es : List Expr} {env : Env} (h : es.all noStar = true) : (assignEach es env).length = es.length := by
  induction es with
  | nil => rfl
  | cons e es ih =>
    rw [List.all_cons, Bool.and_eq_true] at h
    have : ∀ es, (assignEach (e :: es) env).length = (assignEach es env).length + 1 := by intro es; cases e <;> first | rfl | cases h.1
    rw [this, ih h.2, List.length_cons]
theorem assign_nostar {es : List Expr} {env : Env} (h : es.all noStar = true) : (assignEach es env).findIdx? (·.1) = none := by
  induction es with
  | nil => rfl
  | cons e es ih =>
    rw [List.all_cons, Bool.and_eq_true] at h
    have : ∀ es, ∃ f, assignEach (e :: es) env = (false, f) :: assignEach es env := by intro es; cases e <;> first | exact ⟨_, rfl⟩ | cases h.1
    obtain ⟨f, hf⟩ := this es
    rw [hf, List.findIdx?_cons]
    show (if false = true then some 0 else _) = none
    rw [if_neg Bool.false_ne_true, ih h.2]
    rfl
theorem s_tp {ts : List Tg} {es : List Expr} {k : Nat} (hc : X.calm = true) (h : PGs X es (gsD X.K X.w ts)) (hns : es.all noStar = true) (hl : es.length = ts.length) : PG X (.Tuple es k pos) (gD X.K X.w two (.tp ts)) :=
  PG.weak (pg_tup (n := es.length) hc h (assign_len hns) (assign_nostar hns)) fun v σ H Q ⟨ω, W, ρ, d, ρ', y, ev, h1, h2, h3, h4, q⟩ => by
    cases d with
    | tuple ds =>
      simp only [asgT] at h4
      have e := asgTs_len h4
      cases y with
      | one v' =>
        cases h2
        cases h3 with
        | tup g1 g2 => exact ⟨_, _, rfl, g1.1, by rw [g2.length]; omega, ω, W, ρ, ds, ρ', ev, g2, h4, fun σ' e' s' => q σ' e' (by simpa only [tgSlots] using s')⟩
      | two a b =>
        obtain ⟨p, rfl, g1⟩ := h2
        obtain ⟨d1, d2, g2, g3, g4⟩ := h3
        cases g2
        exact ⟨_, _, rfl, g1, by simpa [hl] using e.symm, ω, W, ρ, _, ρ', ev, .cons g3 (.cons g4 .nil), h4, fun σ' e' s' => q σ' e' (by simpa only [tgSlots] using s')⟩
    | _ => simp only [asgT] at h4; cases h4
end
end RW
/-! What is walked; comprehensions. -/
namespace RW
open PySem PySem.Spec PyProof.Rows L2
open PySem.W (EachIs)
section
variable {P : Program} {w : World} {K : PySem.W.Frag} {tg : Expr}
/-- the keys of the dict at a, whose object is o with the entries es -/
def Itd (a : Addr) (o : Obj) (es : Array DictEntry) : It :=
  ⟨fun i H => H a = some (DO a o) ∧ i < es.size, fun i H x H' => H' = H ∧ ∃ hi : i < es.size, RelV x es[i].key, fun i H => H a = some (DO a o) ∧ es.size ≤ i⟩
theorem rel_of (u : Value) (h : ∃ v, RelV v u) : True := trivial
theorem turn_dict {a it : Addr} {o : Obj} {es : Array DictEntry} {ep : Nat} (hx : o.ExactDict) (hd : o.data = .dict es ep) (hv : ∀ i (hi : i < es.size), ∃ x : V, RelV x es[i].key) : Turn P w K tg (Itd a o es) [it] it (fun i h => h.IsKeyIter it a i es.size ep) where
  mem := by simp
  obj := fun i h st b hb => by
    have e : b = it := by simpa using hb
    subst e
    obtain ⟨oi, e, c, dd⟩ := st
    exact ⟨oi, e, fun v z => by rw [dd] at z; cases z⟩
  keep := fun i h h' st k => st.at fun oi e => k it (by simp) oi e
  item := by
    intro X hP hw hK hc i pins s σ H E I hf st hg
    subst hP hw hK
    obtain ⟨ha, hi⟩ := hg
    obtain ⟨f0, f1, f2, f3, f4, f5⟩ := hf it (by simp)
    have ho := do_get I ha
    obtain ⟨x, hx'⟩ := hv i hi
    refine wpAny_pyNext_keys_item_raw st ⟨o, ho, hx, hd⟩ hi fun h' st' sb => ?_
    have I1 : Inv X pins σ H { s with heap := h' } := I.turned (t' := s.toks) (fun b ob hb e => (sb.2 b hb).trans e) f0 f1 f3 f4 f5
    obtain ⟨oi, e, c, dd⟩ := id st'
    exact ⟨es[i].key, rfl, go_of (s := { s with heap := h' }) e c dd (by decide) ⟨x, H, I1, hx', ⟨rfl, hi, hx'⟩, st', fun b hb => (hf b hb).1⟩⟩
  done := by
    intro X hP hw hK hc i pins s σ H E I hf st hg
    subst hP hw hK
    obtain ⟨ha, hi⟩ := hg
    obtain ⟨f0, f1, f2, f3, f4, f5⟩ := hf it (by simp)
    have ho := do_get I ha
    exact wpAny_pyNext_keys_end_raw (I.ok.hd hc) st ⟨o, ho, hx, hd⟩ hi fun h' eb => ⟨rfl, I.turned (t' := s.toks) (fun b o hb e => eb b o hb e) f0 f1 f3 f4 f5⟩
  self := fun A i s Q E st h => wpAny_pyIter_keyiter st h
end
section
variable {K : PySem.W.Frag} {w : World} {H H' H1 : Hp} {W W' W1 : Addr → Prop} {ω : Om}
theorem ones : ∀ {vs : List V} {ds : List PyData} {two : Bool}, Rps K w H W vs ds → EachIs (fun y d => (two = false → y.isOne = true) ∧ YlD K w H W y d) (vs.map Yl.one) ds
  | _, [], _, h => by cases h; exact .nil
  | _, d :: ds, _, h => by
    cases h with
    | cons h1 h2 => exact .cons ⟨fun _ => rfl, h1⟩ (ones h2)
theorem ones_get {vs : List V} {i : Nat} {y : Yl} (h : (vs.map Yl.one)[i]? = some y) : ∃ v, vs[i]? = some v ∧ y = .one v := by
  rw [List.getElem?_map] at h
  cases e : vs[i]? with
  | none => rw [e] at h; cases h
  | some v => rw [e] at h; cases h; exact ⟨v, rfl, rfl⟩
/-- the changeable ones are none of those that the walked one leans on -/
theorem its_list {a : Addr} {vs : List V} {ds : List PyData} {two : Bool} (h1 : LsA K H1 W1 a vs) (r : Rps K w H1 W vs ds) : Its K w W1 H1 W two (Itl K a) ds := by
  refine ⟨vs.map .one, ones r, fun H2 k t i => ⟨fun y hy => ?_, fun hi => ?_⟩⟩
  · obtain ⟨v, hv, rfl⟩ := ones_get hy
    have h2 : SqL K H2 a vs := (h1.mono k (fun _ q n => absurd q n)).sql
    refine ⟨⟨vs, v, h2, hv⟩, fun x H' q => ?_⟩
    obtain ⟨rfl, q⟩ := q
    have := q vs h2
    rw [hv] at this
    cases this
    exact ⟨same_refl, rfl⟩
  · exact ⟨vs, (h1.mono k (fun _ q n => absurd q n)).sql, by simpa using hi⟩
theorem its_tup {a : Addr} {vs : List V} {ds : List PyData} {two : Bool} (h1 : SqF K H1 a vs) (r : Rps K w H1 W vs ds) : Its K w W1 H1 W two (Itt K a) ds := by
  refine ⟨vs.map .one, ones r, fun H2 k t i => ⟨fun y hy => ?_, fun hi => ?_⟩⟩
  · obtain ⟨v, hv, rfl⟩ := ones_get hy
    have h2 : SqT K H2 a vs := (t.seqF h1).1
    refine ⟨⟨vs, v, h2, hv⟩, fun x H' q => ?_⟩
    obtain ⟨rfl, q⟩ := q
    have := q vs h2
    rw [hv] at this
    cases this
    exact ⟨same_refl, rfl⟩
  · exact ⟨vs, (t.seqF h1).1, by simpa using hi⟩
theorem relV_uniq {x y : V} {u : Value} (h : RelV x u) (g : RelV y u) : x = y := by
  cases x <;> cases y <;> first
    | rfl
    | (cases h; cases g; rfl)
    | (cases h; cases g; done)
    | (obtain ⟨t, rfl⟩ := h; obtain ⟨t', e⟩ := g; cases e; rfl)
    | (obtain ⟨t, rfl⟩ := h; cases g; done)
    | (cases h; obtain ⟨t, e⟩ := g; cases e; done)
    | (obtain ⟨t, rfl⟩ := h; obtain ⟨t', e⟩ := g; cases e; done)
theorem its_dict {a : Addr} {o : Obj} {es : Array DictEntry} {kvs : List (PyData × PyData)} {ks : List V} {two : Bool} (h1 : H1 a = some (DO a o)) (hn : ¬ W1 a) (g1 : Vals ks (es.toList.map (·.key))) (g2 : Rps K w H1 W ks (kvs.map Prod.fst)) : Its K w W1 H1 W two (Itd a o es) (kvs.map Prod.fst) := by
  have hl : ks.length = es.size := by rw [g1.length]; simp
  refine ⟨ks.map .one, ones g2, fun H2 k t i => ⟨fun y hy => ?_, fun hi => ?_⟩⟩
  · obtain ⟨v, hv, rfl⟩ := ones_get hy
    have hi : i < es.size := by have := (List.getElem?_eq_some_iff.mp hv).1; omega
    refine ⟨⟨k a _ hn h1, hi⟩, fun x H' q => ?_⟩
    obtain ⟨rfl, hi', q⟩ := q
    refine ⟨same_refl, ?_⟩
    obtain ⟨u, hu, ru⟩ := g1.get hv
    have eu : u = es[i].key := by
      rw [List.getElem?_map, Array.getElem?_toList, Array.getElem?_eq_getElem hi] at hu
      exact (Option.some.inj hu).symm
    rw [eu] at ru
    exact relV_uniq q ru
  · rw [List.length_map] at hi
    exact ⟨k a _ hn h1, by omega⟩
theorem its_range {lo : Int} {n : Nat} {hi : Int} {two : Bool} (hn : n = (hi - lo).toNat) : Its K w W1 H1 W two (Itr lo n) (rngD lo hi) := by
  subst hn
  refine ⟨((List.range (hi - lo).toNat).map fun (k : Nat) => V.int (lo + (k : Int))).map .one, ones ?_, fun H2 k t i => ⟨fun y hy => ?_, fun hi => ?_⟩⟩
  · unfold rngD
    generalize List.range (hi - lo).toNat = l
    induction l with
    | nil => exact .nil
    | cons a l ih => exact .cons (.int _) ih
  · obtain ⟨v, hv, rfl⟩ := ones_get hy
    rw [List.getElem?_map] at hv
    by_cases hlt : i < (hi - lo).toNat
    · rw [List.getElem?_range hlt] at hv
      cases hv
      refine ⟨hlt, fun x H' q => ?_⟩
      obtain ⟨rfl, rfl⟩ := q
      exact ⟨same_refl, rfl⟩
    · rw [List.getElem?_eq_none (by simpa using hlt)] at hv
      cases hv
  · rw [List.length_map, List.length_map, List.length_range] at hi
    exact hi
end
section
variable {X : Cx} {C : CC} {m : Md} {e a b tg : Expr} {i ia ib ic : Ex} {pos p p2 : Pos} {two : Bool}
abbrev sS (X : Cx) (C : CC) (two : Bool) (m : Md) (s : Sr) : TI := tS X.K X.w C two m fun O => evS O s
theorem not_chg {K : PySem.W.Frag} {w : World} {H : Hp} {ω : Om} {W : Addr → Prop} {n : Nat} {a : Addr} (k : WOk K ω n H) (h : ∀ kvs, H a ≠ some (.dK kvs)) : ¬ chg .bo ω W a := by
  rintro ⟨p, e, rfl⟩
  subst e
  obtain ⟨a, l, dr⟩ := p
  exact h _ k.1
theorem s_src (hm : m ≠ .fr) (he : PE X e (sE X C m i)) : PI X tg e (sS X C two m (.ex i)) := by
  refine ⟨fun pins s σ H R I ⟨ω, W, ρ, n, xs, n', st, ev, k⟩ => ?_⟩
  simp only [evS] at ev
  obtain ⟨x, n1, e1, ev⟩ := bnd_some ev
  obtain ⟨xs', e3, e4⟩ := lift_some ev
  cases e4
  refine thn (he.run pins s σ H (fun v H1 => ∃ _ : WOk X.K ω n' H1, Ext ω H H1 ∧ Post m X.K X.w W H H1 v x) I ⟨ω, W, ρ, n, x, n', st, e1, fun v H1 x1 k1 p1 => ⟨k1, x1, p1⟩⟩) fun u s1 ⟨v, H1, I1, r1, k1, x1, p1⟩ => ?_
  have wt1 := st.wt.ext x1 k1
  -- where the walked one stands, it is not among what may change
  have nchL : ∀ {H0 : Hp} {ds : List PyData}, Post m X.K X.w W H0 H1 v (.list ds) → ∃ a vs, v = .ref a ∧ LsA X.K H1 (chg m ω W) a vs ∧ Rps X.K X.w H1 W vs ds := fun {H0 ds} p1 => by
    cases m with
    | fr => exact absurd rfl hm
    | pu =>
      have q := p1.1
      cases q with
      | lst h r => exact ⟨_, _, rfl, h, r⟩
    | bo =>
      obtain ⟨a, vs, rfl, ha, r⟩ := RB.lst (Post.rb p1)
      refine ⟨a, vs, rfl, ?_, r⟩
      rcases ha with (ha | ⟨ob, ha⟩) | ha
      · exact .inl ⟨.inl ha, not_chg (w := X.w) k1 fun kvs z => by rw [ha] at z; cases z⟩
      · exact .inl ⟨.inr ⟨ob, ha⟩, not_chg (w := X.w) k1 fun kvs z => by rw [ha] at z; cases z⟩
      · exact .inr ha
  have nchD : ∀ {a : Addr} {o : Obj}, v = .ref a → H1 a = some (DO a o) → (m = .pu → ¬ W a) → ¬ chg m ω W a := fun {a o} hv ha hw => by
    cases m with
    | fr => exact absurd rfl hm
    | pu => exact hw rfl
    | bo => exact not_chg (w := X.w) k1 fun kvs z => by rw [ha] at z; cases z
  cases x <;> first | (cases e3; done) | skip
  case list ds =>
    cases e3
    obtain ⟨a, vs, rfl, h1, h2⟩ := nchL p1
    cases r1
    obtain ⟨its, rv, pl, hz⟩ := I1.list h1.sql
    refine wpAny_pyIter_list pl.isList ?_
    refine ⟨s1.heap.objs.size, [s1.heap.objs.size], _, _, H1, rfl, I1.kept (t' := s1.toks) fun b o e => Heap.get?_push_of_some _ e, turn_list a _, ⟨_, Heap.get?_push_size _ rfl, rfl, rfl⟩, fun b hb => ?_, k _ H1 x1 k1 (its_list h1 h2)⟩
    have e : b = s1.heap.objs.size := by simpa using hb
    subst e
    exact I1.fpOk (Nat.le_refl _) (I1.hok.fresh (Nat.le_refl _))
  case tuple ds =>
    cases e3
    obtain ⟨a, vs, rfl, h1, h2⟩ := RB.tup (Post.rb p1)
    cases r1
    obtain ⟨its, rv, pl, hz⟩ := I1.tuple h1.1
    refine wpAny_pyIter_tuple (show s1.heap.IsTuple a its.toArray from pl) ?_
    refine ⟨s1.heap.objs.size, [s1.heap.objs.size], _, _, H1, rfl, I1.kept (t' := s1.toks) fun b o e => Heap.get?_push_of_some _ e, turn_tuple a _, ⟨_, Heap.get?_push_size _ rfl, rfl, rfl⟩, fun b hb => ?_, k _ H1 x1 k1 (its_tup h1 h2)⟩
    have e : b = s1.heap.objs.size := by simpa using hb
    subst e
    exact I1.fpOk (Nat.le_refl _) (I1.hok.fresh (Nat.le_refl _))
  case dict kvs =>
    cases e3
    obtain ⟨a, o, es, rfl, h1, dd⟩ := RB.dat (Post.rb p1)
    cases r1
    have ho := do_get I1 h1
    obtain ⟨ep, hda⟩ := dd.f.da
    obtain ⟨ks, g1, g2⟩ := dd.keys
    refine wpAny_pyIter_dict_raw dd.f.sm (show s1.heap.DictRaw a es ep from ⟨o, ho, dd.f.ex, hda⟩) ?_
    refine ⟨s1.heap.objs.size, [s1.heap.objs.size], _, _, H1, rfl, I1.kept (t' := s1.toks) fun b o e => Heap.get?_push_of_some _ e, turn_dict dd.f.ex hda (fun j hj => ?_), ⟨_, Heap.get?_push_size _ rfl, rfl, rfl⟩, fun b hb => ?_, k _ H1 x1 k1 (its_dict h1 (nchD rfl h1 fun hpu => ?_) g1 g2)⟩
    · have hj' : j < ks.length := by rw [g1.length]; simpa using hj
      obtain ⟨u, hu, ru⟩ := g1.get (List.getElem?_eq_getElem hj')
      rw [List.getElem?_map, Array.getElem?_toList, Array.getElem?_eq_getElem hj] at hu
      cases hu
      exact ⟨_, ru⟩
    · have e : b = s1.heap.objs.size := by simpa using hb
      subst e
      exact I1.fpOk (Nat.le_refl _) (I1.hok.fresh (Nat.le_refl _))
    · subst hpu
      have := p1.1
      cases this with
      | dic _ q _ _ _ _ _ => exact q
theorem rgOk_of {a b : Int} (h : rgOk a b = true) : -(2 ^ 62) ≤ a ∧ a < 2 ^ 62 ∧ -(2 ^ 62) ≤ b ∧ b < 2 ^ 62 := by
  simp only [rgOk, Bool.and_eq_true, decide_eq_true_eq] at h
  exact ⟨h.1.1.1, h.1.1.2, h.1.2, h.2⟩
theorem s_rg1 (hg : Gl X "range") (hm : X.mg "range" = none) (ha : PE X a (sE X C .bo ia)) (na : noStar a = true) : PI X tg (.Call (.Name "range" p) [a] [] pos) (sS X C two m (.rg1 ia)) :=
  PI.weak (pi_range1 hg hm (pa_cons ha pa_nil (star_of na _ _)) (star_of na _ _)) fun σ H R ⟨ω, W, ρ, n, xs, n', st, ev, k⟩ => by
    simp only [evS] at ev
    obtain ⟨x, n1, e1, ev⟩ := bnd_some ev
    obtain ⟨xs', e3, e4⟩ := lift_some ev
    cases e4
    refine ⟨ω, W, ρ, n, x, n', st, e1, fun v H1 x1 k1 p1 => ?_⟩
    cases x <;> first | (cases e3; done) | skip
    case int j =>
      simp only [rangeD] at e3
      split at e3
      · rename_i ok
        cases e3
        obtain rfl := RB.int p1
        obtain ⟨_, _, h3, h4⟩ := rgOk_of ok
        exact ⟨j, rfl, h3, h4, k _ H1 x1 k1 (its_range (by simp))⟩
      · cases e3
theorem s_rg2 (hg : Gl X "range") (hm : X.mg "range" = none) (ha : PE X a (sE X C .bo ia)) (hb : PE X b (sE X C .bo ib)) (na : noStar a = true) (nb : noStar b = true) : PI X tg (.Call (.Name "range" p) [a, b] [] pos) (sS X C two m (.rg2 ia ib)) :=
  PI.weak (pi_range2 hg hm (pa_cons ha (pa_cons hb pa_nil (star_of nb _ _)) (star_of na _ _)) (by rw [star_of na, star_of nb]; rfl) (by rw [star_of nb]; rfl)) fun σ H R ⟨ω, W, ρ, n, xs, n', st, ev, k⟩ => by
    simp only [evS] at ev
    obtain ⟨x, n1, e1, ev⟩ := bnd_some ev
    obtain ⟨y, n2, e2, ev⟩ := bnd_some ev
    obtain ⟨xs', e3, e4⟩ := lift_some ev
    cases e4
    refine ⟨ω, W, ρ, n, x, n1, st, e1, fun v H1 x1 k1 p1 => ⟨ω, W, ρ, n1, y, n', st.ext x1 k1, e2, fun u H2 x2 k2 p2 => ?_⟩⟩
    have go : ∃ j l : Int, x = .int j ∧ y = .int l ∧ rgOk j l = true ∧ xs = rngD j l := by
      clear k
      cases x <;> cases y <;> first | (cases e3; done) | skip
      case int.int j l =>
        simp only [rangeD] at e3
        split at e3
        · rename_i ok
          cases e3
          exact ⟨_, _, rfl, rfl, ok, rfl⟩
        · cases e3
    obtain ⟨j, l, rfl, rfl, ok, rfl⟩ := go
    obtain rfl := RB.int p1
    obtain rfl := RB.int p2
    exact ⟨j, l, rfl, rgOk_of ok, k _ H2 (x1.trans x2) k2 (its_range rfl)⟩
end
end RW
/-! Comprehensions. -/
namespace RW
open PySem PySem.Spec PyProof.Rows L2
open PySem.W (EachIs)
/-- the one turn of a comprehension -/
def turnF (O : Orc) (ρ : Sls) (own : List Nat) (t : Tg) (q : Option Ex) (e : Ex) : PyData → M (List PyData) := fun x => bnd (lift (asgT t x (wipeS ρ own))) fun ρ' => bnd (evQ O q ρ') fun p => if p then bnd (evE O e ρ') fun y => ret [y] else ret []
def turn2F (O : Orc) (ρ : Sls) (own own2 : List Nat) (t : Tg) (q : Option Ex) (t2 : Tg) (s2 : Sr) (q2 : Option Ex) (e : Ex) : PyData → M (List PyData) := fun x => bnd (lift (asgT t x (wipeS ρ own))) fun ρ' => bnd (evQ O q ρ') fun p =>
  if p then bnd (evS O s2 ρ') fun xs2 => compM (turnF O ρ' own2 t2 q2 e) xs2 else ret []
theorem q_cp {O : Orc} {own : List Nat} {t : Tg} {s : Sr} {q : Option Ex} {e : Ex} {ρ : Sls} : evE O (.cp own t s q e) ρ = bnd (evS O s ρ) fun xs => bnd (compM (turnF O ρ own t q e) xs) fun ys => lift (fitL ys) := by rw [evE]; rfl
theorem q_cp2 {O : Orc} {own own2 : List Nat} {t t2 : Tg} {s s2 : Sr} {q q2 : Option Ex} {e : Ex} {ρ : Sls} : evE O (.cp2 own own2 t s q t2 s2 q2 e) ρ = bnd (evS O s ρ) fun xs => bnd (compM (turn2F O ρ own own2 t q t2 s2 q2 e) xs) fun ys => lift (fitL ys) := by rw [evE]; rfl
section
variable {K : PySem.W.Frag} {w : World} {H H' H1 : Hp} {W W' W1 : Addr → Prop} {ω : Om} {D : Addr} {acc : List V} {n n' : Nat}
theorem WOk.setD (k : WOk K ω n H) (hom : OmIn K ω W) (hw : ¬ W D) {o : HO} : WOk K ω n (L2.upd H D o) := by
  cases ω with
  | none => trivial
  | some q =>
    obtain ⟨a, l, dr⟩ := q
    obtain ⟨k1, k2, k3⟩ := k
    obtain ⟨o1, o2⟩ := hom _ rfl
    refine ⟨by rw [upd_ne (fun z => hw (by rw [← z]; exact o1))]; exact k1, ?_, k3⟩
    rcases o2 with o2 | o2
    · exact SqL.step k2 fun o _ e => by rw [upd_ne (fun z => hw (by rw [← z]; exact o2))]; exact e
    · exact .inr o2
theorem Ext.setD (x : Ext ω H1 H) (hD : H1 D = Option.none) {o : HO} : Ext ω H1 (L2.upd H D o) := fun b u h q => by rw [upd_ne (ne_of_none h hD)]; exact x b u h q
/-- what is leant on, with D -/
def withD (W : Addr → Prop) (D : Addr) : Addr → Prop := fun b => W b ∨ b = D
theorem OmIn.withD (h : OmIn K ω W) : OmIn K ω (withD W D) := fun p e => ⟨.inl (h p e).1, (h p e).2.imp .inl id⟩
/-- from the walk's begin to a turn -/
theorem grow {H1 H2 : Hp} (x : Ext ω H1 H2) (om : OmIn K ω W) (k1 : WOk K ω n H1) (hD : H1 D = none) : Kept W H1 H2 ∧ KeptT H1 H2 ∧ ∀ a, withD W D a → ¬ W a → H1 a = none :=
  ⟨x.kept om, x.keptT k1, fun a h q => by rcases h with h | rfl; exact absurd h q; exact hD⟩
theorem notW (wt : Wt H1 W) (hD : H1 D = none) : ¬ W D := fun q => wt D q hD
theorem stt_turn {ρ : Sls} {σ : L2.St} {H1 H2 : Hp} (st : Stt K w ω W n ρ σ H1) (x : Ext ω H1 H2) (k2 : WOk K ω n' H2) (hD : H1 D = none) (hd : H2 D ≠ none) : Stt K w ω (withD W D) n' ρ σ H2 := by
  obtain ⟨a, b, c⟩ := grow x st.om st.wk hD
  exact ⟨fun q h => by rcases h with h | rfl; exact st.wt.ext x k2 q h; exact hd, st.om.withD, k2, st.ev.mono a b c (fun _ => .inl) fun a o _ hn h => x.owned st.wk a o hn h⟩
theorem Stt.wipe {ρ : Sls} {σ : L2.St} (st : Stt K w ω W n ρ σ H) (vs : List Nat) : Stt K w ω W n (wipeS ρ vs) (L2.wipe σ vs) H := ⟨st.wt, st.om, st.wk, st.ev.wipe vs⟩
theorem keptT_lst (h : H D = some (.lst acc)) {o : HO} : KeptT H (L2.upd H D o) := keptT_own (fun xs z => by rw [h] at z; cases z) fun ob u z => by rw [h] at z; cases z
theorem EachIs.getA {α β : Type} {R : α → β → Prop} : ∀ {as : List α} {bs : List β} {i : Nat} {a : α}, EachIs R as bs → as[i]? = some a → ∃ b, bs[i]? = some b ∧ R a b
  | _, _, i, b, .nil, e => by simp at e
  | _, _, 0, b, .cons r t, e => by simp at e; subst e; exact ⟨_, rfl, r⟩
  | _, _, i + 1, b, .cons r t, e => by
    obtain ⟨a, h1, h2⟩ := EachIs.getA (i := i) t (by simpa using e)
    exact ⟨a, by simpa using h1, h2⟩
theorem compM_cons {f : PyData → M (List PyData)} {xs : List PyData} {i : Nat} {d : PyData} {n : Nat} {r : List PyData × Nat} (h : compM f (xs.drop i) n = some r) (hd : xs[i]? = some d) : ∃ ys n1 zs, f d n = some (ys, n1) ∧ compM f (xs.drop (i + 1)) n1 = some (zs, r.2) ∧ r.1 = ys ++ zs := by
  have hi := (List.getElem?_eq_some_iff.mp hd).1
  have e : xs.drop i = d :: xs.drop (i + 1) := by
    rw [List.drop_eq_getElem_cons hi]
    rw [(List.getElem?_eq_some_iff.mp hd).2]
  rw [e] at h
  simp only [compM] at h
  obtain ⟨ys, n1, h1, h⟩ := bnd_some h
  obtain ⟨zs, n2, h2, h⟩ := bnd_some h
  cases ret_some h
  exact ⟨ys, n1, zs, h1, h2, rfl⟩
theorem compM_end {f : PyData → M (List PyData)} {xs : List PyData} {i : Nat} {n : Nat} {r : List PyData × Nat} (h : compM f (xs.drop i) n = some r) (hi : xs.length ≤ i) : r = ([], n) := by
  rw [List.drop_eq_nil_of_le hi] at h
  simp only [compM] at h
  exact ret_some h
theorem fitL_some {xs : List PyData} {d : PyData} (h : fitL xs = some d) : d = .list xs ∧ xs.length ≤ sizeLine := by
  unfold fitL at h
  split at h
  · rename_i hf; cases h; exact ⟨rfl, fits hf⟩
  · cases h
end
section
variable {X : Cx} {C : CC} {m : Md} {elt tg iter : Expr} {ifs : List Expr} {pos p p2 : Pos} {two : Bool}
/-- the tests of a clause -/
abbrev sQ (X : Cx) (C : CC) (q : Option Ex) : TT := tT X.K X.w C fun O ρ => evQ O q ρ
theorem s_qnil : PTs X [] (sQ X C none) := ⟨fun pins s σ H Q I ⟨ω, W, ρ, n, b, n', st, ev, k⟩ => by
  simp only [evQ] at ev
  cases ret_some ev
  exact pts_nil.run pins s σ H Q I (k H (Ext.refl _ _) st.wk)⟩
theorem s_qone {c : Expr} {i : Ex} (h : PT X c (sT X C i)) : PTs X [c] (sQ X C (some i)) := ⟨fun pins s σ H Q I ⟨ω, W, ρ, n, b, n', st, ev, k⟩ => by
  simp only [evQ] at ev
  exact (pts_one h).run pins s σ H Q I ⟨ω, W, ρ, n, b, n', st, ev, k⟩⟩
/-- one clause: the reading of the rule -/
theorem lc_of {own : List Nat} {t : Tg} {s : Sr} {q : Option Ex} {e : Ex} (hso : ∀ i ∈ tgSlots t, i ∈ own) :
    ∀ σ H Q, sE X C m (.cp own t s q e) σ H Q → tLc (sS X C two .bo s) (gD X.K X.w two t) (sQ X C q) (sE X C .pu e) own σ H Q := by
  rintro σ H Q ⟨ω, W, ρ, n, d, n', st, ev, k⟩
  simp only [q_cp] at ev
  obtain ⟨xs, n1, e1, ev⟩ := bnd_some ev
  obtain ⟨ys, n2, e2, ev⟩ := bnd_some ev
  obtain ⟨d', e3, e4⟩ := lift_some ev
  cases e4
  obtain ⟨rfl, hfit⟩ := fitL_some e3
  refine ⟨ω, W, ρ, n, xs, n1, st, e1, fun J H1 x1 k1 its => ?_⟩
  intro D hD
  have st1 := st.ext x1 k1
  have hnD : ¬ W D := notW st1.wt hD
  obtain ⟨es, hes, hits⟩ := its
  have hlen := EachIs.length hes
  refine ⟨fun i mm Hx => mm = xs.length - i ∧ i ≤ xs.length ∧ ∃ nn acc ya rest, Ext ω H1 Hx ∧ Hx D = some (.lst acc) ∧ Rps X.K X.w Hx (withD W D) acc ya ∧ WOk X.K ω nn Hx ∧ compM (turnF (C (drOf ω)) ρ own t q e) (xs.drop i) nn = some (rest, n') ∧ ys = ya ++ rest,
    ⟨xs.length, by simp, Nat.zero_le _, n1, [], [], ys, (Ext.refl _ _).setD hD, upd_same, .nil, k1.setD st.om hnD, by simpa using e2, rfl⟩, ?_⟩
  rintro i mm Hx ⟨rfl, hi, nn, acc, ya, rest, xx, hacc, hrp, kk, ec, ey⟩
  have hkp : Kept (chg .bo ω W) H1 Hx := fun b o nb hb => xx b o hb fun p hp z => nb ⟨p, hp, z⟩
  have hkt : KeptT H1 Hx := xx.keptT (K := X.K) k1
  by_cases hlt : i < xs.length
  · right
    have hd : xs[i]? = some xs[i] := List.getElem?_eq_getElem hlt
    obtain ⟨y, hy, hone, hyd⟩ := EachIs.get hes hd
    obtain ⟨go, yl⟩ := (hits Hx hkp hkt i).1 y hy
    obtain ⟨yi, nn1, zs, f1, f2, f3⟩ := compM_cons ec hd
    have f3 : rest = yi ++ zs := f3
    refine ⟨go, fun Hn => ∃ nn acc ya rest, Ext ω H1 Hn ∧ Hn D = some (.lst acc) ∧ Rps X.K X.w Hn (withD W D) acc ya ∧ WOk X.K ω nn Hn ∧ compM (turnF (C (drOf ω)) ρ own t q e) (xs.drop (i + 1)) nn = some (rest, n') ∧ ys = ya ++ rest,
      fun Hn q => ⟨xs.length - (i + 1), by omega, rfl, hlt, q⟩, fun x Hy hyl => ?_⟩
    obtain ⟨sm, yis⟩ := yl x Hy hyl
    have xy : Ext ω H1 Hy := xx.trans (Same.ext sm)
    have ky : WOk X.K ω nn Hy := kk.same sm
    have hDy : Hy D = some (.lst acc) := sm _ _ hacc
    have sty := (stt_turn st1 xy ky hD (by rw [hDy]; simp)).wipe own
    obtain ⟨g1, g2, g3⟩ := grow xy st.om k1 hD
    unfold turnF at f1
    obtain ⟨ρ2, nn2, f4, f1⟩ := bnd_some f1
    obtain ⟨ρ2', f5, f6⟩ := lift_some f4
    cases f6
    obtain ⟨b, nn3, f7, f1⟩ := bnd_some f1
    refine ⟨ω, withD W D, wipeS ρ own, xs[i], ρ2, y, sty.ev, hone, yis, hyd.mono g1 g2 g3, f5, fun σ2 ev2 so => ⟨(wipe_same so hso).trans ?_, ?_⟩⟩
    · apply List.ext_getElem?
      intro j
      rw [wipe_get, wipe_get, wipe_length]
      split <;> simp_all [wipe_get]
    · have st2 : Stt X.K X.w ω (withD W D) nn ρ2 σ2 Hy := ⟨sty.wt, sty.om, ky, ev2.now sty.ev⟩
      refine ⟨ω, withD W D, ρ2, nn, b, nn3, st2, f7, fun H3 x3 k3 => ?_⟩
      have hD3 : H3 D = some (.lst acc) := x3 D _ hDy fun p hp z => by
        subst hp
        exact hnD (z ▸ (st.om _ rfl).1)
      have hrp3 : Rps X.K X.w H3 (withD W D) acc ya := Rps.ext (Rps.ext hrp (Same.ext sm) st.om.withD kk) x3 st.om.withD ky
      cases b with
      | true =>
        simp only [if_true] at f1 ⊢
        obtain ⟨dy, nn4, f8, f1⟩ := bnd_some f1
        cases ret_some f1
        refine ⟨ω, withD W D, ρ2, nn3, dy, _, st2.ext x3 k3, f8, fun yv H4 x4 k4 p4 => ?_⟩
        have hD4 : H4 D = some (.lst acc) := x4 D _ hD3 fun p hp z => by
          subst hp
          exact hnD (z ▸ (st.om _ rfl).1)
        have hrp4 := Rps.ext hrp3 x4 st.om.withD k3
        have hl4 := hrp4.length
        refine ⟨acc, hD4, ?_, _, acc ++ [yv], ya ++ [dy], zs, ((xy.trans x3).trans x4).setD hD, upd_same, ?_, k4.setD st.om hnD, f2, ?_⟩
        · have := congrArg List.length ey
          simp only [f3, List.length_append, List.length_cons, List.length_nil] at this
          omega
        · exact Rps.mono (kept_own (.inr rfl)) (keptT_lst hD4) (fun _ z n => absurd z n) _ _ (hrp4.append (.cons p4.1 .nil))
        · rw [ey, f3]; simp
      | false =>
        simp only [Bool.false_eq_true, if_false] at f1 ⊢
        cases ret_some f1
        exact ⟨_, acc, ya, zs, (xy.trans x3), hD3, hrp3, k3, f2, by rw [ey, f3]; rfl⟩
  · left
    have hi' : xs.length ≤ i := Nat.le_of_not_lt hlt
    have := compM_end ec hi'
    cases this
    rw [List.append_nil] at ey
    subst ey
    refine ⟨(hits Hx hkp hkt i).2 (by omega), k _ Hx (x1.trans xx) kk (Post.base x1 k1 (Pst.post m ⟨.lst (.inl ⟨.inl hacc, hnD⟩) ?_, fun _ _ => ⟨D, rfl, hD, .lst hacc hrp⟩⟩))⟩
    exact Rps.mono kept_refl keptT_refl (fun a z n => absurd (.inl z) n) _ _ hrp
/-- two clauses -/
theorem lc2_of {own own2 : List Nat} {t t2 : Tg} {s s2 : Sr} {q q2 : Option Ex} {e : Ex} {two2 : Bool} (hso : ∀ i ∈ tgSlots t, i ∈ own) (hso2 : ∀ i ∈ tgSlots t2, i ∈ own2) :
    ∀ σ H Q, sE X C m (.cp2 own own2 t s q t2 s2 q2 e) σ H Q → tLc2 (sS X C two .bo s) (gD X.K X.w two t) (sQ X C q) (sS X C two2 .pu s2) (gD X.K X.w two2 t2) (sQ X C q2) (sE X C .pu e) own own2 σ H Q := by
  rintro σ H Q ⟨ω, W, ρ, n, d, n', st, ev, k⟩
  simp only [q_cp2] at ev
  obtain ⟨xs, n1, e1, ev⟩ := bnd_some ev
  obtain ⟨ys, n2, e2, ev⟩ := bnd_some ev
  obtain ⟨d', e3, e4⟩ := lift_some ev
  cases e4
  obtain ⟨rfl, hfit⟩ := fitL_some e3
  refine ⟨ω, W, ρ, n, xs, n1, st, e1, fun J H1 x1 k1 its => ?_⟩
  intro D hD
  have st1 := st.ext x1 k1
  have hnD : ¬ W D := notW st1.wt hD
  obtain ⟨es, hes, hits⟩ := its
  have hlen := EachIs.length hes
  refine ⟨fun i mm Hx => mm = xs.length - i ∧ i ≤ xs.length ∧ ∃ nn acc ya rest, Ext ω H1 Hx ∧ Hx D = some (.lst acc) ∧ Rps X.K X.w Hx (withD W D) acc ya ∧ WOk X.K ω nn Hx ∧ compM (turn2F (C (drOf ω)) ρ own own2 t q t2 s2 q2 e) (xs.drop i) nn = some (rest, n') ∧ ys = ya ++ rest,
    ⟨xs.length, by simp, Nat.zero_le _, n1, [], [], ys, (Ext.refl _ _).setD hD, upd_same, .nil, k1.setD st.om hnD, by simpa using e2, rfl⟩, ?_⟩
  rintro i mm Hx ⟨rfl, hi, nn, acc, ya, rest, xx, hacc, hrp, kk, ec, ey⟩
  have hkp : Kept (chg .bo ω W) H1 Hx := fun b o nb hb => xx b o hb fun p hp z => nb ⟨p, hp, z⟩
  have hkt : KeptT H1 Hx := xx.keptT (K := X.K) k1
  by_cases hlt : i < xs.length
  · right
    have hd : xs[i]? = some xs[i] := List.getElem?_eq_getElem hlt
    obtain ⟨y, hy, hone, hyd⟩ := EachIs.get hes hd
    obtain ⟨go, yl⟩ := (hits Hx hkp hkt i).1 y hy
    obtain ⟨yi, nn1, zs, f1, f2, f3⟩ := compM_cons ec hd
    have f3 : rest = yi ++ zs := f3
    refine ⟨go, fun Hn => ∃ nn acc ya rest, Ext ω H1 Hn ∧ Hn D = some (.lst acc) ∧ Rps X.K X.w Hn (withD W D) acc ya ∧ WOk X.K ω nn Hn ∧ compM (turn2F (C (drOf ω)) ρ own own2 t q t2 s2 q2 e) (xs.drop (i + 1)) nn = some (rest, n') ∧ ys = ya ++ rest,
      fun Hn q => ⟨xs.length - (i + 1), by omega, rfl, hlt, q⟩, fun x Hy hyl => ?_⟩
    obtain ⟨sm, yis⟩ := yl x Hy hyl
    have xy : Ext ω H1 Hy := xx.trans (Same.ext sm)
    have ky : WOk X.K ω nn Hy := kk.same sm
    have hDy : Hy D = some (.lst acc) := sm _ _ hacc
    have sty := (stt_turn st1 xy ky hD (by rw [hDy]; simp)).wipe own
    obtain ⟨g1, g2, g3⟩ := grow xy st.om k1 hD
    unfold turn2F at f1
    obtain ⟨ρ2, nn2, f4, f1⟩ := bnd_some f1
    obtain ⟨ρ2', f5, f6⟩ := lift_some f4
    cases f6
    obtain ⟨b, nn3, f7, f1⟩ := bnd_some f1
    refine ⟨ω, withD W D, wipeS ρ own, xs[i], ρ2, y, sty.ev, hone, yis, hyd.mono g1 g2 g3, f5, fun σ2 ev2 so => ⟨(wipe_same so hso).trans ?_, ?_⟩⟩
    · apply List.ext_getElem?
      intro j
      rw [wipe_get, wipe_get, wipe_length]
      split <;> simp_all [wipe_get]
    · have st2 : Stt X.K X.w ω (withD W D) nn ρ2 σ2 Hy := ⟨sty.wt, sty.om, ky, ev2.now sty.ev⟩
      refine ⟨ω, withD W D, ρ2, nn, b, nn3, st2, f7, fun H3 x3 k3 => ?_⟩
      have neD : ∀ p, ω = some p → D ≠ p.1 := fun p hp z => by
        subst hp
        exact hnD (z ▸ (st.om _ rfl).1)
      have hD3 : H3 D = some (.lst acc) := x3 D _ hDy neD
      have hrp3 : Rps X.K X.w H3 (withD W D) acc ya := Rps.ext (Rps.ext hrp (Same.ext sm) st.om.withD kk) x3 st.om.withD ky
      cases b with
      | true =>
        simp only [if_true] at f1 ⊢
        obtain ⟨xs2, nn4, f8, f1⟩ := bnd_some f1
        refine ⟨ω, withD W D, ρ2, nn3, xs2, nn4, st2.ext x3 k3, f8, fun J1 H4 x4 k4 its1 => ?_⟩
        obtain ⟨es1, hes1, hits1⟩ := its1
        have hlen1 := EachIs.length hes1
        have hD4 : H4 D = some (.lst acc) := x4 D _ hD3 neD
        have hrp4 := Rps.ext hrp3 x4 st.om.withD k3
        refine ⟨fun j kk Hj => kk = xs2.length - j ∧ j ≤ xs2.length ∧ ∃ nj acc ya restj, Ext ω H1 Hj ∧ Kept (withD W D) H4 Hj ∧ KeptT H4 Hj ∧ Hj D = some (.lst acc) ∧ Rps X.K X.w Hj (withD W D) acc ya ∧ WOk X.K ω nj Hj ∧ compM (turnF (C (drOf ω)) ρ2 own2 t2 q2 e) (xs2.drop j) nj = some (restj, nn1) ∧ ys = ya ++ restj ++ zs,
          ⟨xs2.length, by simp, Nat.zero_le _, nn4, acc, ya, yi, (xy.trans x3).trans x4, kept_refl, keptT_refl, hD4, hrp4, k4, by simpa using f1, by rw [ey, f3, List.append_assoc]⟩, ?_⟩
        rintro j mj Hj ⟨rfl, hj, nj, accj, yaj, restj, xj, kpj, ktj, haccj, hrpj, kkj, ecj, eyj⟩
        by_cases hltj : j < xs2.length
        · right
          have hdj : xs2[j]? = some xs2[j] := List.getElem?_eq_getElem hltj
          obtain ⟨y1, hy1, hone1, hyd1⟩ := EachIs.get hes1 hdj
          obtain ⟨go1, yl1⟩ := (hits1 Hj kpj ktj j).1 y1 hy1
          obtain ⟨yij, nnj1, zsj, h1, h2, h3⟩ := compM_cons ecj hdj
          have h3 : restj = yij ++ zsj := h3
          refine ⟨go1, fun Hn => ∃ nj acc ya restj, Ext ω H1 Hn ∧ Kept (withD W D) H4 Hn ∧ KeptT H4 Hn ∧ Hn D = some (.lst acc) ∧ Rps X.K X.w Hn (withD W D) acc ya ∧ WOk X.K ω nj Hn ∧ compM (turnF (C (drOf ω)) ρ2 own2 t2 q2 e) (xs2.drop (j + 1)) nj = some (restj, nn1) ∧ ys = ya ++ restj ++ zs,
            fun Hn q => ⟨xs2.length - (j + 1), by omega, rfl, hltj, q⟩, fun x1' Hz hyl1 => ?_⟩
          obtain ⟨sm1, yis1⟩ := yl1 x1' Hz hyl1
          have xz : Ext ω H1 Hz := xj.trans (Same.ext sm1)
          have kz : WOk X.K ω nj Hz := kkj.same sm1
          have hDz : Hz D = some (.lst accj) := sm1 _ _ haccj
          have kpz : Kept (withD W D) H4 Hz := fun b o nb hb => sm1 _ _ (kpj b o nb hb)
          have ktz : KeptT H4 Hz := fun b o ho hb => sm1 _ _ (ktj b o ho hb)
          -- the outer slots, in this heap
          have e34 : Ext ω Hy H4 := x3.trans x4
          have kpy : Kept (withD W D) Hy Hz := fun b o nb hb => kpz b o nb (e34.kept st.om.withD b o nb hb)
          have kty : KeptT Hy Hz := fun b o ho hb => ktz b o ho ((e34.keptT (K := X.K) ky) b o ho hb)
          have stz : Stt X.K X.w ω (withD W D) nj ρ2 σ2 Hz := by
            have s0 := (stt_turn st1 xz kz hD (by rw [hDz]; simp)).wipe own
            exact ⟨s0.wt, s0.om, kz, ev2 Hz (withD W D) (fun v d r => Rp.mono kpy kty (fun _ z n => absurd z n) _ _ r) s0.ev⟩
          have stw := stz.wipe own2
          unfold turnF at h1
          obtain ⟨ρ3, nn5, h4, h1⟩ := bnd_some h1
          obtain ⟨ρ3', h5, h6⟩ := lift_some h4
          cases h6
          obtain ⟨b1, nn6, h7, h1⟩ := bnd_some h1
          refine ⟨ω, withD W D, wipeS ρ2 own2, xs2[j], ρ3, y1, stw.ev, hone1, yis1, hyd1.mono kpz ktz (fun _ z n => absurd z n), h5, fun σ3 ev3 so1 => ⟨(wipe_same so1 hso2).trans ?_, ?_⟩⟩
          · apply List.ext_getElem?
            intro j
            rw [wipe_get, wipe_get, wipe_length]
            split <;> simp_all [wipe_get]
          · have st3 : Stt X.K X.w ω (withD W D) nj ρ3 σ3 Hz := ⟨stw.wt, stw.om, kz, ev3.now stw.ev⟩
            refine ⟨ω, withD W D, ρ3, nj, b1, nn6, st3, h7, fun H6 x6 k6 => ?_⟩
            have hD6 : H6 D = some (.lst accj) := x6 D _ hDz neD
            have hrp6 : Rps X.K X.w H6 (withD W D) accj yaj := Rps.ext (Rps.ext hrpj (Same.ext sm1) st.om.withD kkj) x6 st.om.withD kz
            have kp6 : Kept (withD W D) H4 H6 := fun b o nb hb => x6.kept st.om.withD b o nb (kpz b o nb hb)
            have kt6 : KeptT H4 H6 := fun b o ho hb => (x6.keptT (K := X.K) kz) b o ho (ktz b o ho hb)
            cases b1 with
            | true =>
              simp only [if_true] at h1 ⊢
              obtain ⟨dy, nn7, h8, h1⟩ := bnd_some h1
              cases ret_some h1
              refine ⟨ω, withD W D, ρ3, nn6, dy, _, st3.ext x6 k6, h8, fun yv H7 x7 k7 p7 => ?_⟩
              have hD7 : H7 D = some (.lst accj) := x7 D _ hD6 neD
              have hrp7 := Rps.ext hrp6 x7 st.om.withD k6
              have hl7 := hrp7.length
              refine ⟨accj, hD7, ?_, _, accj ++ [yv], yaj ++ [dy], zsj, ((xz.trans x6).trans x7).setD hD, ?_, ?_, upd_same, ?_, k7.setD st.om hnD, h2, ?_⟩
              · have := congrArg List.length eyj
                simp only [h3, List.length_append, List.length_cons, List.length_nil] at this
                omega
              · intro b o nb hb
                rw [upd_ne (fun z => nb (.inr z))]
                exact x7.kept st.om.withD b o nb (kp6 b o nb hb)
              · intro b o ho hb
                exact keptT_lst hD7 b o ho ((x7.keptT (K := X.K) k6) b o ho (kt6 b o ho hb))
              · exact Rps.mono (kept_own (.inr rfl)) (keptT_lst hD7) (fun _ z n => absurd z n) _ _ (hrp7.append (.cons p7.1 .nil))
              · rw [eyj, h3]; simp
            | false =>
              simp only [Bool.false_eq_true, if_false] at h1 ⊢
              cases ret_some h1
              exact ⟨_, accj, yaj, zsj, xz.trans x6, kp6, kt6, hD6, hrp6, k6, h2, by rw [eyj, h3]; simp⟩
        · left
          have hj' : xs2.length ≤ j := Nat.le_of_not_lt hltj
          have := compM_end ecj hj'
          cases this
          exact ⟨(hits1 Hj kpj ktj j).2 (by omega), _, accj, yaj, zs, xj, haccj, hrpj, kkj, f2, by rw [eyj]; simp⟩
      | false =>
        simp only [Bool.false_eq_true, if_false] at f1 ⊢
        cases ret_some f1
        exact ⟨_, acc, ya, zs, (xy.trans x3), hD3, hrp3, k3, f2, by rw [ey, f3]; rfl⟩
  · left
    have hi' : xs.length ≤ i := Nat.le_of_not_lt hlt
    have := compM_end ec hi'
    cases this
    rw [List.append_nil] at ey
    subst ey
    refine ⟨(hits Hx hkp hkt i).2 (by omega), k _ Hx (x1.trans xx) kk (Post.base x1 k1 (Pst.post m ⟨.lst (.inl ⟨.inl hacc, hnD⟩) ?_, fun _ _ => ⟨D, rfl, hD, .lst hacc hrp⟩⟩))⟩
    exact Rps.mono kept_refl keptT_refl (fun a z n => absurd (.inl z) n) _ _ hrp
end
end RW
/-! Statements: the state through a body. -/
namespace RW
open PySem PySem.Spec PyProof.Rows L2
open PySem.W (EachIs)
/-- the state through a body that began at H0, where what may not be leant on was W0 -/
structure SI (K : PySem.W.Frag) (w : World) (ω : Om) (W0 : Addr → Prop) (H0 : Hp) (n : Nat) (ρ : Sls) (W : Addr → Prop) (σ : L2.St) (H : Hp) : Prop where
  st : Stt K w ω W n ρ σ H
  w0 : Wt H0 W0
  om0 : OmIn K ω W0
  wk0 : ∃ n0, WOk K ω n0 H0
  ex : Ext ω H0 H
  sub : ∀ a, W0 a → W a
  rest : ∀ a, W a → W0 a ∨ H0 a = none
  new : ∀ (i : Nat) (d : PyData), ρ[i]? = some (.ow d) → ∀ a, σ[i]? = some (some (V.ref a)) → H0 a = none
  dj : ∀ (i j : Nat) (d d' : PyData) (a : Addr), ρ[i]? = some (.ow d) → ρ[j]? = some (.ow d') → σ[i]? = some (some (V.ref a)) → σ[j]? = some (some (V.ref a)) → i = j
  bw : ∀ (i : Nat) (d : PyData), ρ[i]? = some (.bo d) → ∃ v, σ[i]? = some (some v) ∧ RB K w H0 W0 v d
/-- from one place of the walk to another -/
structure Rel (W : Addr → Prop) (H : Hp) (W' : Addr → Prop) (H' : Hp) : Prop where
  kp : Kept W H H'
  kt : KeptT H H'
  wn : ∀ a, W' a → W a ∨ H a = none
  tr : ∀ a, H a ≠ none → H' a ≠ none
section
variable {K : PySem.W.Frag} {w : World} {H H' H0 H1 H2 : Hp} {W W' W0 W1 W2 : Addr → Prop} {ω : Om} {σ σ' : L2.St} {ρ ρ' : Sls} {n n' : Nat}
theorem Rel.refl : Rel W H W H := ⟨kept_refl, keptT_refl, fun _ h => .inl h, fun _ h => h⟩
theorem Rel.trans (a : Rel W H W1 H1) (b : Rel W1 H1 W2 H2) : Rel W H W2 H2 := by
  refine ⟨fun c o nc hc => b.kp c o (fun z => ?_) (a.kp c o nc hc), fun c o ho hc => b.kt c o ho (a.kt c o ho hc), fun c h => ?_, fun c h => b.tr c (a.tr c h)⟩
  · rcases a.wn c z with h | h
    · exact nc h
    · rw [hc] at h; cases h
  · rcases b.wn c h with h | h
    · exact a.wn c h
    · right
      cases e : H c with
      | none => rfl
      | some o => exact absurd h (a.tr c (by rw [e]; simp))
theorem Rel.ext (x : Ext ω H H') (om : OmIn K ω W) (k : WOk K ω n H) (k' : WOk K ω n' H') : Rel W H W H' :=
  ⟨x.kept om, x.keptT k, fun _ h => .inl h, fun a h z => h (x.none k' z)⟩
/-- the heap has grown by an expression -/
theorem SI.grow (s : SI K w ω W0 H0 n ρ W σ H) (x : Ext ω H H') (k : WOk K ω n' H') : SI K w ω W0 H0 n' ρ W σ H' :=
  ⟨s.st.ext x k, s.w0, s.om0, s.wk0, s.ex.trans x, s.sub, s.rest, s.new, s.dj, s.bw⟩
theorem set_get {α : Type} {l : List α} {i j : Nat} {a b : α} (h : (l.set i a)[j]? = some b) (hi : i < l.length) : (j = i ∧ b = a) ∨ (j ≠ i ∧ l[j]? = some b) := by
  rw [List.getElem?_set] at h
  by_cases z : i = j
  · subst z; simp [hi] at h; exact .inl ⟨rfl, h.symm⟩
  · simp [z] at h; exact .inr ⟨fun q => z q.symm, h⟩
theorem set_ne {α : Type} {l : List α} {i j : Nat} {a : α} (h : j ≠ i) : (l.set i a)[j]? = l[j]? := by rw [List.getElem?_set]; simp [Ne.symm h]
/-- slots stored so that none becomes one's own -/
theorem SI.slots (s : SI K w ω W0 H0 n ρ W σ H) {ρ' : Sls} (ev : EnvOk K w H W ω σ' ρ') (h : ∀ (j : Nat) (x : Sl), ρ'[j]? = some x → (∃ d, x = .pu d) ∨ x = .no ∨ (ρ[j]? = some x ∧ σ'[j]? = σ[j]?)) : SI K w ω W0 H0 n ρ' W σ' H := by
  refine ⟨⟨s.st.wt, s.st.om, s.st.wk, ev⟩, s.w0, s.om0, s.wk0, s.ex, s.sub, s.rest, fun i d e a ha => ?_, fun i j d d' a e1 e2 h1 h2 => ?_, fun i d e => ?_⟩
  · rcases h i _ e with ⟨_, z⟩ | z | ⟨h1, h2⟩
    · cases z
    · cases z
    · exact s.new i d h1 a (by rw [← h2]; exact ha)
  · rcases h i _ e1 with ⟨_, z⟩ | z | ⟨g1, g2⟩
    · cases z
    · cases z
    · rcases h j _ e2 with ⟨_, z⟩ | z | ⟨g3, g4⟩
      · cases z
      · cases z
      · exact s.dj i j d d' a g1 g3 (by rw [← g2]; exact h1) (by rw [← g4]; exact h2)
  · rcases h i _ e with ⟨_, z⟩ | z | ⟨g1, g2⟩
    · cases z
    · cases z
    · rw [g2]; exact s.bw i d g1
theorem SI.pu {i : Nat} {v : V} {d : PyData} (s : SI K w ω W0 H0 n ρ W σ H) (hi : i < ρ.length) (r : Rp K w H W v d) : SI K w ω W0 H0 n (ρ.set i (.pu d)) W (σ.set i (some v)) H := by
  refine s.slots (s.st.ev.put hi r) fun j x h => ?_
  rcases set_get h hi with ⟨rfl, rfl⟩ | ⟨h1, h2⟩
  · exact .inl ⟨d, rfl⟩
  · exact .inr (.inr ⟨h2, set_ne h1⟩)
/-- a new object comes to be a slot's own -/
theorem SI.ow {i : Nat} {p : Addr} {d : PyData} (s : SI K w ω W0 H0 n ρ W σ H) (hi : i < ρ.length) (x : Ext ω H H') (k : WOk K ω n' H') (hp : H p = none) (c : Ct K w H' (withD W p) p d) :
    SI K w ω W0 H0 n' (ρ.set i (.ow d)) (withD W p) (σ.set i (some (.ref p))) H' := by
  have hp' : H' p ≠ none := by cases c with | lst h _ => rw [h]; simp | dic h _ _ _ _ _ => rw [h]; simp
  obtain ⟨g1, g2, g3⟩ := RW.grow x s.st.om s.st.wk hp
  have e1 := s.st.ev.mono g1 g2 g3 (fun _ => .inl) fun a o _ hn h => x.owned s.st.wk a o hn h
  have hi' : i < σ.length := by rw [s.st.ev.len]; exact hi
  have hp0 : H0 p = none := by
    cases e : H0 p with
    | none => rfl
    | some o =>
      by_cases z : ∃ q, ω = some q ∧ p = q.1
      · obtain ⟨q, e1, e2⟩ := z
        have := s.st.wt _ (s.st.om q e1).1
        rw [← e2] at this
        exact absurd hp this
      · have := s.ex p o e fun q h1 h2 => z ⟨q, h1, h2⟩
        rw [hp] at this; cases this
  -- an own one's address is not p
  have nep : ∀ (j : Nat) (d' : PyData), ρ[j]? = some (.ow d') → σ[j]? ≠ some (some (.ref p)) := fun j d' h z => by
    obtain ⟨a, h1, h2, h3⟩ := s.st.ev.ow j d' h
    rw [z] at h1
    cases h1
    exact s.st.wt _ h2 hp
  refine ⟨⟨fun a h => ?_, s.st.om.withD, k, ⟨fun j d' h => ?_, fun j d' h => ?_, fun j d' h => ?_, fun j h => ?_, by rw [List.length_set, List.length_set]; exact s.st.ev.len⟩⟩, s.w0, s.om0, s.wk0, s.ex.trans x, fun a h => .inl (s.sub a h), fun a h => ?_, fun j d' h a ha => ?_, fun j l d1 d2 a h1 h2 a1 a2 => ?_, fun j d' h => ?_⟩
  · rcases h with h | rfl
    · exact s.st.wt.ext x k a h
    · exact hp'
  · rcases set_get h hi with ⟨rfl, z⟩ | ⟨h1, h2⟩
    · cases z
    · rw [set_ne h1]; exact e1.pu j d' h2
  · rcases set_get h hi with ⟨rfl, z⟩ | ⟨h1, h2⟩
    · cases z; exact ⟨p, by simp [hi'], .inr rfl, c⟩
    · rw [set_ne h1]; exact e1.ow j d' h2
  · rcases set_get h hi with ⟨rfl, z⟩ | ⟨h1, h2⟩
    · cases z
    · rw [set_ne h1]; exact e1.bo j d' h2
  · rcases set_get h hi with ⟨rfl, z⟩ | ⟨h1, h2⟩
    · cases z
    · rw [set_ne h1]; exact e1.wr j h2
  · rcases h with h | rfl
    · exact s.rest a h
    · exact .inr hp0
  · rcases set_get h hi with ⟨rfl, z⟩ | ⟨h1, h2⟩
    · simp [hi'] at ha; subst ha; exact hp0
    · rw [set_ne h1] at ha; exact s.new j d' h2 a ha
  · rcases set_get h1 hi with ⟨rfl, z⟩ | ⟨q1, q2⟩
    · rcases set_get h2 hi with ⟨rfl, z⟩ | ⟨q3, q4⟩
      · rfl
      · simp [hi'] at a1; subst a1
        rw [set_ne q3] at a2
        exact absurd a2 (nep l d2 q4)
    · rw [set_ne q1] at a1
      rcases set_get h2 hi with ⟨rfl, z⟩ | ⟨q3, q4⟩
      · simp [hi'] at a2; subst a2
        exact absurd a1 (nep j d1 q2)
      · rw [set_ne q3] at a2
        exact s.dj j l d1 d2 a q2 q4 a1 a2
  · rcases set_get h hi with ⟨rfl, z⟩ | ⟨h1, h2⟩
    · cases z
    · rw [set_ne h1]; exact s.bw j d' h2
theorem Rel.ow {p : Addr} (x : Ext ω H H') (om : OmIn K ω W) (k : WOk K ω n H) (k' : WOk K ω n' H') (hp : H p = none) : Rel W H (withD W p) H' :=
  ⟨x.kept om, x.keptT k, fun a h => by rcases h with h | rfl; exact .inl h; exact .inr hp, fun a h z => h (x.none k' z)⟩
/-- one's own object changed -/
theorem SI.mut {i : Nat} {a : Addr} {d d' : PyData} (s : SI K w ω W0 H0 n ρ W σ H) (hi : ρ[i]? = some (.ow d)) (ha : σ[i]? = some (some (.ref a))) (hs : SameBut1 a H H') (c : Ct K w H' W a d') : SI K w ω W0 H0 n (ρ.set i (.ow d')) W σ H' ∧ Rel W H W H' := by
  obtain ⟨a', h1, hW, hc⟩ := s.st.ev.ow i d hi
  rw [ha] at h1
  cases h1
  have hil := (List.getElem?_eq_some_iff.mp hi).1
  have h0 := s.new i d hi a ha
  have hHa : H' a ≠ none := by cases c with | lst h _ => rw [h]; simp | dic h _ _ _ _ _ => rw [h]; simp
  have ne1 : ∀ p, ω = some p → a ≠ p.1 := fun p e z => by
    have := s.w0 _ (s.om0 p e).1
    rw [← z] at this
    exact this h0
  have kp : Kept W H H' := fun b o nb hb => by rw [hs b (fun z => nb (by rw [z]; exact hW))]; exact hb
  have kt : KeptT H H' := fun b o ho hb => by
    rw [hs b]
    · exact hb
    · rintro rfl
      rcases ho with ⟨xs, rfl⟩ | ⟨ob, xs, rfl⟩ <;> (cases hc with | lst h _ => rw [h] at hb; cases hb | dic h _ _ _ _ _ => rw [h] at hb; cases hb)
  have wk : WOk K ω n H' := by
    have := s.st.wk
    cases ω with
    | none => trivial
    | some q =>
      obtain ⟨b, l, dr⟩ := q
      obtain ⟨k1, k2, k3⟩ := this
      refine ⟨by rw [hs b (Ne.symm (ne1 _ rfl))]; exact k1, ?_, k3⟩
      rcases (s.om0 _ rfl).2 with o2 | o2
      · refine SqL.step k2 fun o _ e => ?_
        rw [hs l (fun z => s.w0 _ o2 (by rw [show ((b, l, dr) : Addr × Addr × List Int).2.1 = a from z]; exact h0))]
        exact e
      · exact .inr o2
  have ex : Ext ω H0 H' := fun b o hb nb => by
    rw [hs b]
    · exact s.ex b o hb nb
    · rintro rfl
      rw [h0] at hb; cases hb
  have wt : Wt H' W := fun b h => by
    by_cases z : b = a
    · rw [z]; exact hHa
    · rw [hs b z]; exact s.st.wt b h
  obtain ⟨n0, wk0⟩ := s.wk0
  refine ⟨⟨⟨wt, s.st.om, wk, ⟨fun j x h => ?_, fun j x h => ?_, fun j x h => ?_, fun j h => ?_, by rw [List.length_set]; exact s.st.ev.len⟩⟩, s.w0, s.om0, s.wk0, ex, s.sub, s.rest, fun j x h b hb => ?_, fun j l d1 d2 b q1 q2 b1 b2 => ?_, fun j x h => ?_⟩,
    ⟨kp, kt, fun _ h => .inl h, fun b h => by by_cases z : b = a; rw [z]; exact hHa; rw [hs b z]; exact h⟩⟩
  · rcases set_get h hil with ⟨rfl, z⟩ | ⟨q1, q2⟩
    · cases z
    · obtain ⟨v, g1, g2⟩ := s.st.ev.pu j x q2
      exact ⟨v, g1, Rp.mono kp kt (fun _ z n => absurd z n) _ _ g2⟩
  · rcases set_get h hil with ⟨rfl, z⟩ | ⟨q1, q2⟩
    · cases z; exact ⟨a, ha, hW, c⟩
    · obtain ⟨b, g1, g2, g3⟩ := s.st.ev.ow j x q2
      have hb : b ≠ a := by
        rintro rfl
        exact q1 (s.dj j i x d b q2 hi g1 ha)
      exact ⟨b, g1, g2, Ct.mono kp kt (fun _ z n => absurd z n) (fun o q => by rw [hs b hb]; exact q) g3⟩
  · rcases set_get h hil with ⟨rfl, z⟩ | ⟨q1, q2⟩
    · cases z
    · obtain ⟨v, g1, g2⟩ := s.bw j x q2
      refine ⟨v, g1, g2.mono (ex.kept s.om0) (ex.keptT wk0) (fun b hb nb => ?_) s.sub fun b o _ hn h => ex.owned wk0 b o hn h⟩
      rcases s.rest b hb with z | z
      · exact absurd z nb
      · exact z
  · rcases set_get h hil with ⟨rfl, z⟩ | ⟨q1, q2⟩
    · cases z
    · exact s.st.ev.wr j q2
  · rcases set_get h hil with ⟨rfl, z⟩ | ⟨q1, q2⟩
    · rw [ha] at hb; cases hb; exact h0
    · exact s.new j x q2 b hb
  · have f : ∀ (j : Nat) (x : PyData), (ρ.set i (.ow d'))[j]? = some (.ow x) → ∃ x', ρ[j]? = some (.ow x') := fun j x h => by
      rcases set_get h hil with ⟨rfl, _⟩ | ⟨_, q2⟩
      · exact ⟨d, hi⟩
      · exact ⟨x, q2⟩
    obtain ⟨_, f1⟩ := f j d1 q1
    obtain ⟨_, f2⟩ := f l d2 q2
    exact s.dj j l _ _ b f1 f2 b1 b2
  · rcases set_get h hil with ⟨rfl, z⟩ | ⟨q1, q2⟩
    · cases z
    · exact s.bw j x q2
/-- one's own becomes a datum -/
theorem SI.fz {i : Nat} {d : PyData} (s : SI K w ω W0 H0 n ρ W σ H) (hi : ρ[i]? = some (.ow d)) : ∃ W', SI K w ω W0 H0 n (ρ.set i (.pu d)) W' σ H ∧ Rel W H W' H := by
  obtain ⟨a, h1, hW, hc⟩ := s.st.ev.ow i d hi
  have hil := (List.getElem?_eq_some_iff.mp hi).1
  have h0 := s.new i d hi a h1
  have dn : ∀ b, (W b ∧ b ≠ a) → ¬ W b → H b = none := fun b h q => absurd h.1 q
  have ne : ∀ (j : Nat) (x : PyData), j ≠ i → ρ[j]? = some (.ow x) → σ[j]? ≠ some (some (.ref a)) := fun j x hj hx z => hj (s.dj j i x d a hx hi z h1)
  have w0a : ∀ b, W0 b → b ≠ a := fun b h z => s.w0 b h (by rw [z]; exact h0)
  obtain ⟨n0, wk0⟩ := s.wk0
  refine ⟨fun b => W b ∧ b ≠ a, ⟨⟨fun b h => s.st.wt b h.1, fun p e => ⟨⟨(s.st.om p e).1, w0a _ (s.om0 p e).1⟩, (s.om0 p e).2.imp (fun h => ⟨s.sub _ h, w0a _ h⟩) id⟩, s.st.wk, ⟨fun j x h => ?_, fun j x h => ?_, fun j x h => ?_, fun j h => ?_, by rw [List.length_set]; exact s.st.ev.len⟩⟩, s.w0, s.om0, s.wk0, s.ex, fun b h => ⟨s.sub b h, w0a b h⟩, fun b h => s.rest b h.1, fun j x h b hb => ?_, fun j l d1 d2 b q1 q2 b1 b2 => ?_, fun j x h => ?_⟩,
    ⟨kept_refl, keptT_refl, fun b h => .inl h.1, fun _ h => h⟩⟩
  · rcases set_get h hil with ⟨rfl, z⟩ | ⟨q1, q2⟩
    · cases z
      exact ⟨.ref a, h1, (Ct.mono kept_refl keptT_refl dn (fun _ q => q) hc).rp fun z => z.2 rfl⟩
    · obtain ⟨v, g1, g2⟩ := s.st.ev.pu j x q2
      exact ⟨v, g1, Rp.mono kept_refl keptT_refl dn _ _ g2⟩
  · rcases set_get h hil with ⟨rfl, z⟩ | ⟨q1, q2⟩
    · cases z
    · obtain ⟨b, g1, g2, g3⟩ := s.st.ev.ow j x q2
      exact ⟨b, g1, ⟨g2, fun z => ne j x q1 q2 (by rw [g1, z])⟩, Ct.mono kept_refl keptT_refl dn (fun _ q => q) g3⟩
  · rcases set_get h hil with ⟨rfl, z⟩ | ⟨q1, q2⟩
    · cases z
    · obtain ⟨v, g1, g2⟩ := s.bw j x q2
      refine ⟨v, g1, g2.mono (s.ex.kept s.om0) (s.ex.keptT wk0) (fun b hb nb => ?_) (fun b h => ⟨s.sub b h, w0a b h⟩) fun b o _ hn h => s.ex.owned wk0 b o hn h⟩
      rcases s.rest b hb.1 with z | z
      · exact absurd z nb
      · exact z
  · rcases set_get h hil with ⟨rfl, z⟩ | ⟨q1, q2⟩
    · cases z
    · exact s.st.ev.wr j q2
  · rcases set_get h hil with ⟨rfl, z⟩ | ⟨q1, q2⟩
    · cases z
    · exact s.new j x q2 b hb
  · rcases set_get q1 hil with ⟨rfl, z⟩ | ⟨g1, g2⟩
    · cases z
    · rcases set_get q2 hil with ⟨rfl, z⟩ | ⟨g3, g4⟩
      · cases z
      · exact s.dj j l d1 d2 b g2 g4 b1 b2
  · rcases set_get h hil with ⟨rfl, z⟩ | ⟨q1, q2⟩
    · cases z
    · exact s.bw j x q2
/-- what is to be shown behind a statement -/
def FinS (K : PySem.W.Frag) (w : World) (ω : Om) (W0 : Addr → Prop) (H0 : Hp) (n' : Nat) (W : Addr → Prop) (H : Hp) (o : Out) (D : Ends) : Prop :=
  match o with
  | .nx ρ' => ∀ W' σ' H', SI K w ω W0 H0 n' ρ' W' σ' H' → Rel W H W' H' → D.nx σ' H'
  | .bk ρ' => ∀ W' σ' H', SI K w ω W0 H0 n' ρ' W' σ' H' → Rel W H W' H' → D.bk σ' H'
  | .rt d => ∀ v H', Ext ω H0 H' → WOk K ω n' H' → Rp K w H' W0 v d → D.rt v H'
abbrev tSt (K : PySem.W.Frag) (w : World) (C : CC) (f : Orc → Sls → M Out) : TS := fun D σ H => ∃ ω W0 H0 n ρ W o n', SI K w ω W0 H0 n ρ W σ H ∧ f (C (drOf ω)) ρ n = some (o, n') ∧ FinS K w ω W0 H0 n' W H o D
theorem FinS.rel {o : Out} {D : Ends} (r : Rel W H W1 H1) (f : FinS K w ω W0 H0 n' W H o D) : FinS K w ω W0 H0 n' W1 H1 o D := by
  cases o with
  | nx ρ' => exact fun W' σ' H' s q => f W' σ' H' s (r.trans q)
  | bk ρ' => exact fun W' σ' H' s q => f W' σ' H' s (r.trans q)
  | rt d => exact f
end
end RW
/-! Statements: the rules. -/
namespace RW
open PySem PySem.Spec PyProof.Rows L2
open PySem.W (EachIs)
section
variable {X : Cx} {C : CC} {e a b c tg iter : Expr} {i ia ib ic : Ex} {pos p p2 : Pos} {st : Stmt} {sts : List Stmt}
abbrev sSt (X : Cx) (C : CC) (t : Ss) : TS := tSt X.K X.w C fun O => evT O t
abbrev sSts (X : Cx) (C : CC) (ts : List Ss) : TS := tSt X.K X.w C fun O => evTs O ts
theorem PS.weak {t t' : TS} (h : PS X st t) (i : ∀ D σ H, t' D σ H → t D σ H) : PS X st t' := ⟨fun pins s σ H D I q => h.run pins s σ H D I (i _ _ _ q)⟩
theorem PSs.weak {t t' : TS} (h : PSs X sts t) (i : ∀ D σ H, t' D σ H → t D σ H) : PSs X sts t' := ⟨fun pins s σ H D I q => h.run pins s σ H D I (i _ _ _ q)⟩
theorem s_snil : PSs X [] (sSts X C []) := PSs.weak pss_nil fun D σ H ⟨ω, W0, H0, n, ρ, W, o, n', s, ev, f⟩ => by
  simp only [evTs] at ev
  cases ret_some ev
  exact f W σ H s Rel.refl
theorem s_scons {t : Ss} {ts : List Ss} (h1 : PS X st (sSt X C t)) (h2 : PSs X sts (sSts X C ts)) : PSs X (st :: sts) (sSts X C (t :: ts)) :=
  PSs.weak (pss_cons h1 h2) fun D σ H ⟨ω, W0, H0, n, ρ, W, o, n', s, ev, f⟩ => by
    simp only [evTs] at ev
    obtain ⟨o1, n1, e1, e2⟩ := bnd_some ev
    refine ⟨ω, W0, H0, n, ρ, W, o1, n1, s, e1, ?_⟩
    cases o1 with
    | nx ρ1 => exact fun W' σ' H' s' r => ⟨ω, W0, H0, n1, ρ1, W', o, n', s', e2, FinS.rel r f⟩
    | rt d => cases ret_some e2; exact f
    | bk ρ1 => cases ret_some e2; exact f
theorem s_fz {j : Nat} {ts : List Ss} (h : PSs X sts (sSts X C ts)) : PSs X sts (sSts X C (.fz j :: ts)) :=
  PSs.weak h fun D σ H ⟨ω, W0, H0, n, ρ, W, o, n', s, ev, f⟩ => by
    simp only [evTs, evT] at ev
    obtain ⟨o1, n1, e1, e2⟩ := bnd_some ev
    obtain ⟨ρ1, n2, e1, e3⟩ := bnd_some e1
    obtain ⟨ρ2, e4, e5⟩ := lift_some e1
    cases e5
    cases ret_some e3
    unfold freeze at e4
    split at e4
    · rename_i d hd
      cases e4
      obtain ⟨W', s', r⟩ := s.fz hd
      exact ⟨ω, W0, H0, _, _, W', o, n', s', e2, FinS.rel r f⟩
    · cases e4
      exact ⟨ω, W0, H0, _, _, W, o, n', s, e2, f⟩
    · cases e4
theorem s_ret (h : PE X e (sE X C .pu i)) : PS X (.Return (some e) pos) (sSt X C (.ret i)) := PS.weak (ps_ret h) fun D σ H ⟨ω, W0, H0, n, ρ, W, o, n', s, ev, f⟩ => by
  simp only [evT] at ev
  obtain ⟨d, n1, e1, e2⟩ := bnd_some ev
  cases ret_some e2
  refine ⟨ω, W, ρ, n, d, _, s.st, e1, fun v H' x k p => f v H' (s.ex.trans x) k ?_⟩
  exact Rp.mono kept_refl keptT_refl (fun a h n => absurd (s.sub a h) n) _ _ p.1
theorem s_retN : PS X (.Return none pos) (sSt X C .retN) := PS.weak ps_retN fun D σ H ⟨ω, W0, H0, n, ρ, W, o, n', s, ev, f⟩ => by
  simp only [evT] at ev
  cases ret_some ev
  exact f .non H s.ex s.st.wk .non
theorem s_if {x y : List Stmt} {ta tb : List Ss} (hc : PT X c (sT X C ic)) (ha : PSs X x (sSts X C ta)) (hb : PSs X y (sSts X C tb)) : PS X (.If c x y pos) (sSt X C (.ife ic ta tb)) :=
  PS.weak (ps_if hc ha hb) fun D σ H ⟨ω, W0, H0, n, ρ, W, o, n', s, ev, f⟩ => by
    simp only [evT] at ev
    obtain ⟨x, n1, e1, e2⟩ := bnd_some ev
    obtain ⟨q, n2, e2, e3⟩ := bnd_some e2
    refine ⟨ω, W, ρ, n, q, n2, s.st, by show bnd _ _ n = _; rw [bnd_mk e1]; exact e2, fun H1 x1 k1 => ?_⟩
    have r := Rel.ext x1 s.st.om s.st.wk k1
    cases q with
    | true => exact ⟨ω, W0, H0, n2, ρ, W, o, n', s.grow x1 k1, e3, FinS.rel r f⟩
    | false => exact ⟨ω, W0, H0, n2, ρ, W, o, n', s.grow x1 k1, e3, FinS.rel r f⟩
def mdOw (own : Bool) : Md := if own then .fr else .pu
/-- what may not be leant on, behind a value that came -/
def chW (own : Bool) (d : PyData) (v : V) (W : Addr → Prop) : Addr → Prop := if (own && mutD d) = true then (match v with | .ref p => withD W p | _ => W) else W
/-- a value stored -/
theorem SI.stor {K : PySem.W.Frag} {w : World} {ω : Om} {W0 W : Addr → Prop} {H0 H H1 : Hp} {n n1 : Nat} {ρ : Sls} {σ : L2.St} {own : Bool} {j : Nat} {v : V} {d : PyData} (s : SI K w ω W0 H0 n ρ W σ H) (hj : j < ρ.length) (x : Ext ω H H1) (k : WOk K ω n1 H1) (p : Post (mdOw own) K w W H H1 v d) :
    SI K w ω W0 H0 n1 (ρ.set j (stor own d)) (chW own d v W) (σ.set j (some v)) H1 ∧ Rel W H (chW own d v W) H1 := by
  unfold RW.stor chW
  split
  · rename_i h
    rw [Bool.and_eq_true] at h
    have p' : Pst true K w W H H1 v d := by rw [h.1] at p; exact p
    obtain ⟨q, rfl, q1, q2⟩ := p'.2 rfl h.2
    exact ⟨s.ow hj x k q1 q2, Rel.ow x s.st.om s.st.wk k q1⟩
  · have r : Rp K w H1 W v d := by cases own <;> exact p.1
    exact ⟨(s.grow x k).pu hj r, Rel.ext x s.st.om s.st.wk k⟩
theorem s_asg {own : Bool} {j : Nat} (h : PS X st (tAsg (sE X C (mdOw own) i) (gName j))) : PS X st (sSt X C (.asg own (.nm j) i)) := PS.weak h fun D σ H ⟨ω, W0, H0, n, ρ, W, o, n', s, ev, f⟩ => by
  simp only [evT] at ev
  obtain ⟨d, n1, e1, e2⟩ := bnd_some ev
  split at e2
  · rename_i hj
    cases ret_some e2
    refine ⟨ω, W, ρ, n, d, _, s.st, e1, fun v H1 x1 k1 p1 => ?_⟩
    obtain ⟨s', r⟩ := s.stor hj x1 k1 p1
    exact f _ _ H1 s' r
  · cases e2
mutual
theorem asgT_get : ∀ (t : Tg) (d : PyData) (ρ ρ' : Sls), asgT t d ρ = some ρ' → ∀ j, (j ∈ tgSlots t → ∃ d', ρ'[j]? = some (.pu d')) ∧ (j ∉ tgSlots t → ρ'[j]? = ρ[j]?)
  | .nm i, d, ρ, ρ', h, j => by
    simp only [asgT] at h
    split at h
    · rename_i hi
      cases h
      simp only [tgSlots, List.mem_singleton]
      refine ⟨?_, fun e => set_ne e⟩
      rintro rfl
      exact ⟨d, by simp [hi]⟩
    · cases h
  | .tp ts, .tuple ds, ρ, ρ', h, j => by
    simp only [asgT] at h
    simpa only [tgSlots] using asgTs_get ts ds ρ ρ' h j
  | .tp _, .none, _, _, h, _ => by simp only [asgT] at h; cases h
  | .tp _, .bool _, _, _, h, _ => by simp only [asgT] at h; cases h
  | .tp _, .int _, _, _, h, _ => by simp only [asgT] at h; cases h
  | .tp _, .str _, _, _, h, _ => by simp only [asgT] at h; cases h
  | .tp _, .list _, _, _, h, _ => by simp only [asgT] at h; cases h
  | .tp _, .dict _, _, _, h, _ => by simp only [asgT] at h; cases h
theorem asgTs_get : ∀ (ts : List Tg) (ds : List PyData) (ρ ρ' : Sls), asgTs ts ds ρ = some ρ' → ∀ j, (j ∈ tgsSlots ts → ∃ d', ρ'[j]? = some (.pu d')) ∧ (j ∉ tgsSlots ts → ρ'[j]? = ρ[j]?)
  | [], [], ρ, ρ', h, j => by simp only [asgTs] at h; cases h; exact ⟨fun z => by simp [tgsSlots] at z, fun _ => rfl⟩
  | [], _ :: _, _, _, h, _ => by simp only [asgTs] at h; cases h
  | _ :: _, [], _, _, h, _ => by simp only [asgTs] at h; cases h
  | t :: ts, d :: ds, ρ, ρ', h, j => by
    simp only [asgTs, Option.bind_eq_some_iff] at h
    obtain ⟨ρ1, h1, h2⟩ := h
    obtain ⟨a1, a2⟩ := asgT_get t d ρ ρ1 h1 j
    obtain ⟨b1, b2⟩ := asgTs_get ts ds ρ1 ρ' h2 j
    simp only [tgsSlots, List.mem_append, not_or]
    refine ⟨fun z => ?_, fun z => by rw [b2 z.2, a2 z.1]⟩
    by_cases q : j ∈ tgsSlots ts
    · exact b1 q
    · rw [b2 q]
      exact a1 (z.resolve_right q)
end
theorem SI.asgT {K : PySem.W.Frag} {w : World} {ω : Om} {W0 W : Addr → Prop} {H0 H : Hp} {n : Nat} {ρ ρ' : Sls} {σ σ' : L2.St} {t : Tg} {d : PyData} (s : SI K w ω W0 H0 n ρ W σ H) (h : RW.asgT t d ρ = some ρ') (ev : EnvOk K w H W ω σ' ρ') (so : SameOut (tgSlots t) σ σ') : SI K w ω W0 H0 n ρ' W σ' H := by
  refine s.slots ev fun j x hx => ?_
  obtain ⟨a1, a2⟩ := asgT_get t d ρ ρ' h j
  by_cases q : j ∈ tgSlots t
  · obtain ⟨d', e⟩ := a1 q
    rw [hx] at e
    cases e
    exact .inl ⟨d', rfl⟩
  · exact .inr (.inr ⟨by rw [← a2 q]; exact hx, so.2 j q⟩)
theorem s_asgT {own : Bool} {ts : List Tg} (h : PS X st (tAsg (sE X C .pu i) (gD X.K X.w false (.tp ts)))) : PS X st (sSt X C (.asg own (.tp ts) i)) := PS.weak h fun D σ H ⟨ω, W0, H0, n, ρ, W, o, n', s, ev, f⟩ => by
  simp only [evT] at ev
  obtain ⟨d, n1, e1, e2⟩ := bnd_some ev
  obtain ⟨ρ1, n2, e2, e3⟩ := bnd_some e2
  obtain ⟨ρ2, e4, e5⟩ := lift_some e2
  cases e5
  cases ret_some e3
  refine ⟨ω, W, ρ, n, d, _, s.st, e1, fun v H1 x1 k1 p1 => ?_⟩
  have s1 := s.grow x1 k1
  refine ⟨ω, W, ρ, d, _, .one v, s1.st.ev, fun _ => rfl, rfl, p1.1, e4, fun σ' ev' so => ?_⟩
  exact f W σ' H1 (s1.asgT e4 (ev'.now s1.st.ev) so) (Rel.ext x1 s.st.om s.st.wk k1)
/-! x, y = .., .. -/
inductive Chain (K : PySem.W.Frag) (w : World) (ω : Om) : (Addr → Prop) → List Bool → Nat → Hp → List V → List PyData → Nat → Hp → Prop
  | nil {W : Addr → Prop} {n : Nat} {H : Hp} : WOk K ω n H → Chain K w ω W [] n H [] [] n H
  | cons {W : Addr → Prop} {own : Bool} {fs : List Bool} {n n1 n' : Nat} {H H1 H' : Hp} {v : V} {vs : List V} {d : PyData} {ds : List PyData} : Ext ω H H1 → WOk K ω n1 H1 → Post (mdOw own) K w W H H1 v d → Chain K w ω (chW own d v W) fs n1 H1 vs ds n' H' → Chain K w ω W (own :: fs) n H (v :: vs) (d :: ds) n' H'
theorem Chain.ext {K : PySem.W.Frag} {w : World} {ω : Om} {W : Addr → Prop} {fs : List Bool} {n n' : Nat} {H H' : Hp} {vs : List V} {ds : List PyData} (h : Chain K w ω W fs n H vs ds n' H') : Ext ω H H' := by
  induction h with
  | nil _ => exact Ext.refl _ _
  | cons a _ _ _ ih => exact a.trans ih
theorem Chain.wk {K : PySem.W.Frag} {w : World} {ω : Om} {W : Addr → Prop} {fs : List Bool} {n n' : Nat} {H H' : Hp} {vs : List V} {ds : List PyData} (h : Chain K w ω W fs n H vs ds n' H') : WOk K ω n' H' := by
  induction h with
  | nil k => exact k
  | cons _ _ _ _ ih => exact ih
theorem Chain.len {K : PySem.W.Frag} {w : World} {ω : Om} {W : Addr → Prop} {fs : List Bool} {n n' : Nat} {H H' : Hp} {vs : List V} {ds : List PyData} (h : Chain K w ω W fs n H vs ds n' H') : vs.length = fs.length := by
  induction h with
  | nil _ => rfl
  | cons _ _ _ _ ih => simp [ih]
abbrev sP (X : Cx) (C : CC) (fs : List Bool) (is : List Ex) : TA := fun σ H Q => ∃ ω W ρ n ds n', Stt X.K X.w ω W n ρ σ H ∧ evEs (C (drOf ω)) is ρ n = some (ds, n') ∧ ∀ vs H', Chain X.K X.w ω W fs n H vs ds n' H' → Q vs H'
theorem s_pnil : PA X [] (sP X C [] []) := PA.weak pa_nil fun σ H Q ⟨ω, W, ρ, n, d, n', st, ev, k⟩ => by
  simp only [evEs] at ev
  cases ret_some ev
  exact k [] H (.nil st.wk)
theorem Stt.ch {K : PySem.W.Frag} {w : World} {ω : Om} {W : Addr → Prop} {n n1 : Nat} {ρ : Sls} {σ : L2.St} {H H1 : Hp} {own : Bool} {v : V} {d : PyData} (st : Stt K w ω W n ρ σ H) (x : Ext ω H H1) (k : WOk K ω n1 H1) (p : Post (mdOw own) K w W H H1 v d) : Stt K w ω (chW own d v W) n1 ρ σ H1 := by
  unfold chW
  split
  · rename_i h
    rw [Bool.and_eq_true] at h
    have p' : Pst true K w W H H1 v d := by rw [h.1] at p; exact p
    obtain ⟨q, rfl, q1, q2⟩ := p'.2 rfl h.2
    exact stt_turn st x k q1 (by cases q2 with | lst g _ => rw [g]; simp | dic g _ _ _ _ _ => rw [g]; simp)
  · exact st.ext x k
theorem s_pcons {own : Bool} {fs : List Bool} {is : List Ex} {es : List Expr} (ha : PE X e (sE X C (mdOw own) i)) (ns : noStar e = true) (hr : PA X es (sP X C fs is)) : PA X (e :: es) (sP X C (own :: fs) (i :: is)) :=
  PA.weak (pa_cons ha hr (star_of ns _ _)) fun σ H Q ⟨ω, W, ρ, n, d, n', st, ev, k⟩ => by
    simp only [evEs] at ev
    obtain ⟨x, n1, e1, e2⟩ := bnd_some ev
    obtain ⟨xs, n2, e2, e3⟩ := bnd_some e2
    cases ret_some e3
    exact ⟨ω, W, ρ, n, x, n1, st, e1, fun v H1 x1 k1 p1 => ⟨ω, _, ρ, n1, xs, _, st.ch x1 k1 p1, e2, fun vs H2 c => k (v :: vs) H2 (.cons x1 k1 p1 c)⟩⟩
/-- slots, one by one -/
def setAll : List Nat → List V → L2.St → L2.St
  | i :: is, v :: vs, σ => setAll is vs (σ.set i (some v))
  | _, _, σ => σ
theorem SI.chain {K : PySem.W.Frag} {w : World} {ω : Om} {W0 : Addr → Prop} {H0 : Hp} {W : Addr → Prop} {fs : List Bool} {n n' : Nat} {H H' : Hp} {vs : List V} {ds : List PyData} (h : Chain K w ω W fs n H vs ds n' H') : ∀ {ts : List (Nat × Bool)} {ρ ρ' : Sls} {σ : L2.St},
    ts.map Prod.snd = fs → SI K w ω W0 H0 n ρ W σ H → parS ts ds ρ = some ρ' → ∃ W', SI K w ω W0 H0 n' ρ' W' (setAll (ts.map Prod.fst) vs σ) H' ∧ Rel W H W' H' := by
  induction h with
  | nil k =>
    intro ts ρ ρ' σ e s hp
    cases ts with
    | nil => simp only [parS] at hp; cases hp; exact ⟨_, s, Rel.refl⟩
    | cons t ts => cases e
  | cons x1 k1 p1 t ih =>
    intro ts ρ ρ' σ e s hp
    cases ts with
    | nil => cases e
    | cons t ts =>
      obtain ⟨i, o⟩ := t
      simp only [List.map_cons, List.cons.injEq] at e
      obtain ⟨rfl, e⟩ := e
      simp only [parS] at hp
      split at hp
      · rename_i hi
        obtain ⟨s1, r1⟩ := s.stor hi x1 k1 p1
        obtain ⟨W', s2, r2⟩ := ih e s1 hp
        exact ⟨W', s2, r1.trans r2⟩
      · cases hp
/-- two plain names, stored from the right -/
theorem s_par2 {i j : Nat} {o1 o2 : Bool} {ea eb : Ex} (h : PS X st (tPar i j (sP X C [o1, o2] [ea, eb]))) : PS X st (sSt X C (.par [(i, o1), (j, o2)] [ea, eb])) := PS.weak h fun D σ H ⟨ω, W0, H0, n, ρ, W, o, n', s, ev, f⟩ => by
  simp only [evT] at ev
  obtain ⟨ds, n1, e1, e2⟩ := bnd_some ev
  obtain ⟨ρ1, n2, e2, e3⟩ := bnd_some e2
  obtain ⟨ρ2, e4, e5⟩ := lift_some e2
  cases e5
  cases ret_some e3
  refine ⟨ω, W, ρ, n, ds, _, s.st, e1, fun vs H1 c => ?_⟩
  obtain ⟨W', s', r⟩ := SI.chain c (ts := [(i, o1), (j, o2)]) rfl s e4
  have hl := c.len
  match vs, hl with
  | [v, u], _ => exact ⟨v, u, rfl, f W' _ H1 s' r⟩
theorem s_par3 {i j l : Nat} {o1 o2 o3 : Bool} {ea eb ec : Ex} (h : PS X st (tPar3 i j l (sP X C [o1, o2, o3] [ea, eb, ec]))) : PS X st (sSt X C (.par [(i, o1), (j, o2), (l, o3)] [ea, eb, ec])) := PS.weak h fun D σ H ⟨ω, W0, H0, n, ρ, W, o, n', s, ev, f⟩ => by
  simp only [evT] at ev
  obtain ⟨ds, n1, e1, e2⟩ := bnd_some ev
  obtain ⟨ρ1, n2, e2, e3⟩ := bnd_some e2
  obtain ⟨ρ2, e4, e5⟩ := lift_some e2
  cases e5
  cases ret_some e3
  refine ⟨ω, W, ρ, n, ds, _, s.st, e1, fun vs H1 c => ?_⟩
  obtain ⟨W', s', r⟩ := SI.chain c (ts := [(i, o1), (j, o2), (l, o3)]) rfl s e4
  have hl := c.len
  match vs, hl with
  | [v, u, z], _ => exact ⟨v, u, z, rfl, f W' _ H1 s' r⟩
theorem gNames : ∀ (is : List Nat) (vs : List V) (σ : L2.St) (H : Hp) (Q : L2.St → Hp → Prop), vs.length = is.length → Q (setAll is vs σ) H → (is.foldr (fun i t => gCons (gName i) t) gNil) vs σ H Q
  | [], [], _, _, _, _, q => ⟨rfl, q⟩
  | i :: is, v :: vs, σ, H, Q, hl, q => ⟨v, vs, rfl, gNames is vs (σ.set i (some v)) H Q (by simpa using hl) q⟩
/-- the pair made, then taken apart -/
theorem s_parT {ts : List (Nat × Bool)} {is : List Ex} (hz : ts.length ≤ 1000) (h : PS X st (tAsg (tTupF (sP X C (ts.map Prod.snd) is)) (gTup X.K ts.length ((ts.map Prod.fst).foldr (fun i t => gCons (gName i) t) gNil)))) : PS X st (sSt X C (.par ts is)) := PS.weak h fun D σ H ⟨ω, W0, H0, n, ρ, W, o, n', s, ev, f⟩ => by
  simp only [evT] at ev
  obtain ⟨ds, n1, e1, e2⟩ := bnd_some ev
  obtain ⟨ρ1, n2, e2, e3⟩ := bnd_some e2
  obtain ⟨ρ2, e4, e5⟩ := lift_some e2
  cases e5
  cases ret_some e3
  refine ⟨ω, W, ρ, n, ds, _, s.st, e1, fun vs H1 c => ?_⟩
  have hl := c.len
  rw [List.length_map] at hl
  have hsl := sizeLine_eq
  refine ⟨by omega, fun p ob hp ho => ⟨p, vs, rfl, .inl (.inr ⟨ob, upd_same⟩), by omega, gNames _ _ _ _ _ (by rw [List.length_map]; exact hl) ?_⟩⟩
  obtain ⟨W', s', r⟩ := SI.chain c (ts := ts) rfl s e4
  have x2 : Ext ω H1 (L2.upd H1 p (FT ob vs)) := Same.ext (same_upd hp)
  have k2 := c.wk.same (same_upd (o := FT ob vs) hp)
  exact f W' _ _ (s'.grow x2 k2) (r.trans (Rel.ext x2 s'.st.om s'.st.wk k2))
/-! stores -/
theorem set_any (hu : X.A.units + 200 < cLine) : PSet X (tSet X.K X.w setIx) := by
  rintro pins s σ H o i v ov iv u Q I ro ri rv ⟨W, a, d, k, v', d', e0, hW, hc, bi, bv, e, q⟩
  cases d <;> first | (cases e; done) | skip
  case dict kvs => exact set_dict hu pins s σ H o i v ov iv u Q I ro ri rv ⟨W, a, .dict kvs, k, v', d', e0, hW, hc, bi, bv, e, q⟩
  case list xs =>
    cases k <;> first | (cases e; done) | skip
    case int j => exact set_list' pins s σ H o i v ov iv u Q I ro ri rv ⟨W, a, .list xs, .int j, v', d', e0, hW, hc, bi, bv, e, q⟩
theorem s_setix {j : Nat} {ik : Ex} (h : PS X st (tAsg (sE X C .pu i) (gSub (tVar j) (sE X C .bo ik) (tSet X.K X.w setIx)))) : PS X st (sSt X C (.setix j ik i)) := PS.weak h fun D σ H ⟨ω, W0, H0, n, ρ, W, o, n', s, ev, f⟩ => by
  simp only [evT] at ev
  obtain ⟨d, n1, e1, ev⟩ := bnd_some ev
  obtain ⟨z, n2, e2, ev⟩ := bnd_some ev
  obtain ⟨z', e3, e4⟩ := lift_some e2
  cases e4
  obtain ⟨kd, n3, e5, ev⟩ := bnd_some ev
  obtain ⟨y, n4, e6, ev⟩ := bnd_some ev
  obtain ⟨y', e7, e8⟩ := lift_some e6
  cases e8
  obtain ⟨d', n5, e9, ev⟩ := bnd_some ev
  obtain ⟨d2, e10, e11⟩ := lift_some e9
  cases e11
  cases ret_some ev
  have hi := slOw_some e7
  obtain ⟨a, ha, _, _⟩ := s.st.ev.ow j _ hi
  refine ⟨ω, W, ρ, n, d, n1, s.st, e1, fun v H1 x1 k1 p1 => ?_⟩
  have s1 := s.grow x1 k1
  refine ⟨_, ha, ω, W, ρ, n1, kd, _, s1.st, e5, fun u H2 x2 k2 p2 => ?_⟩
  have s2 := s1.grow x2 k2
  obtain ⟨a', ha', hW, hc⟩ := s2.st.ev.ow j _ hi
  rw [ha] at ha'
  cases ha'
  refine ⟨W, a, _, kd, d, _, rfl, hW, hc, p2, Rp.ext p1.1 x2 s.st.om k1, e10, fun H3 sb ct => ?_⟩
  obtain ⟨s3, r3⟩ := s2.mut hi ha sb ct
  exact f W σ H3 s3 (((Rel.ext x1 s.st.om s.st.wk k1).trans (Rel.ext x2 s.st.om k1 k2)).trans r3)
/-! append, extend -/
def rApp : V → List V → Hp → VK → Prop := fun x vs H Q => ∃ a xs y, x = .ref a ∧ vs = [y] ∧ H a = some (.lst xs) ∧ xs.length < sizeLine ∧ Q .non (L2.upd H a (.lst (xs ++ [y])))
theorem mt_app : MtR X "list.append" rApp := by
  rintro pins s σ H x vs v us Q I rx r ⟨a, xs, y, rfl, rfl, ha, hz, q⟩
  obtain ⟨u, rfl, ry⟩ := Vals.one r
  cases rx
  exact app_ok I ha hz ry fun s' I' => ⟨.non, _, I', rfl, q⟩
theorem list_extW (l : Addr) (items : Array Value) (n : Nat) (b : Addr) (items2 : Array Value) (n2 : Nat) (sl : Array (Option Value)) (hc0 : ¬(!items.isEmpty && Builtin.List.listTooLong (items.size + items2.size)) = true) (hc1 : items.size ≤ sizeLine) (hs2 : items.size + items2.size ≤ sizeLine + 1) :
    Meets (Builtin.«list.extend» ⟨[.ref l, .ref b], []⟩) (fun _ R s => s.heap.get? l = some { cls := .type "list", data := .seq items n } ∧ s.heap.get? b = some { cls := .type "list", data := .seq items2 n2, slots := sl } ∧ R (.ok (.ret Value.none)) { s with heap := s.heap.update l (Obj.mapSeq fun x => x ++ items2), toks := s.toks }) :=
  .of_wp fun prog w A R s h => by
    obtain ⟨hp, g, d, tk, os⟩ := s
    obtain ⟨hl, hb, h⟩ := h
    have hz' : (items ++ items2).size ≤ sizeLine + 1 := by rw [Array.size_append]; exact hs2
    have f1 := AutoSeq1.idx_int
    have f2 := AutoSeq1.sub_tuple_tuple
    have f3 := AutoSeq1.sub_list_list
    have f4 := AutoSeq1.sub_tuple_list
    have f5 := AutoSeq1.sub_list_tuple
    wp_walk using (wpAny_updateSeq hl rfl (hz := hc1) (_hz' := hz')), AutoSeq1.wpAny_loadPart' hl, AutoSeq1.wpAny_loadPart' hb
    exact ⟨_, rfl, h⟩
def rExt (K : PySem.W.Frag) : V → List V → Hp → VK → Prop := fun x vs H Q => ∃ a b xs ys, x = .ref a ∧ vs = [.ref b] ∧ H a = some (.lst xs) ∧ SqL K H b ys ∧ xs.length + ys.length ≤ sizeLine ∧ Q .non (L2.upd H a (.lst (xs ++ ys)))
theorem mt_ext : MtR X "list.extend" (rExt X.K) := by
  rintro pins s σ H x vs v us Q I rx r ⟨a, b, xs, ys, rfl, rfl, ha, hb, hz, q⟩
  obtain ⟨u, rfl, ry⟩ := Vals.one r
  cases rx
  cases ry
  obtain ⟨its, n, r, e, hl⟩ := I.lst ha
  obtain ⟨its2, r2, ⟨⟨c2, d2, da2, s2⟩, n2, e2, hc2, hdn2, hd2⟩, hl2⟩ := I.list hb
  simp only at hc2 hd2 hdn2
  subst hc2 hd2 hdn2
  have h1 := r.length
  have h2 := r2.length
  have hsz : its.toArray.size + its2.toArray.size ≤ sizeLine := by rw [List.size_toArray, List.size_toArray]; omega
  have hlong : ¬ (!its.toArray.isEmpty && Builtin.List.listTooLong (its.toArray.size + its2.toArray.size)) = true := by
    rw [notLongL hsz, Bool.and_false]
    exact Bool.false_ne_true
  refine call_meets PySem.F.slot_list_extend ⟨_, e, rfl⟩ PySem.F.entry_list_extend (PySem.F.args_list_extend_2 _ _) (list_extW _ its.toArray n b its2.toArray n2 s2 hlong (by rw [List.size_toArray]; omega) (by omega)) ⟨e, e2, ?_⟩
  refine ⟨.non, _, I.lset (its' := its ++ its2) ha e (by simp) (r.append r2) ?_, rfl, q⟩
  rw [List.length_append]
  omega
theorem s_app {j : Nat} (h : PS X st (tDrop (tBMD X "list" rApp (tVar j) (tCons (sE X C .pu i) tNil)))) : PS X st (sSt X C (.app j i)) := PS.weak h fun D σ H ⟨ω, W0, H0, n, ρ, W, o, n', s, ev, f⟩ => by
  simp only [evT] at ev
  obtain ⟨z, n2, e2, ev⟩ := bnd_some ev
  obtain ⟨z', e3, e4⟩ := lift_some e2
  cases e4
  obtain ⟨x, n1, e1, ev⟩ := bnd_some ev
  have hi := slOw_some e3
  obtain ⟨a, ha, hW, hc⟩ := s.st.ev.ow j _ hi
  cases z <;> first | (cases ev; done) | skip
  case list xs =>
    simp only at ev
    split at ev
    · rename_i hz
      cases ret_some ev
      refine ⟨_, ha, ty_lst (.inr ⟨a, rfl, hW, hc⟩), ω, W, ρ, n, x, _, s.st, e1, fun v H1 x1 k1 p1 => ?_⟩
      have s1 := s.grow x1 k1
      obtain ⟨a', ha', hW', hc'⟩ := s1.st.ev.ow j _ hi
      rw [ha] at ha'
      cases ha'
      cases hc' with
      | lst g1 g2 =>
        refine ⟨a, _, v, rfl, rfl, g1, by rw [g2.length]; exact of_decide_eq_true hz, ?_⟩
        obtain ⟨s3, r3⟩ := s1.mut hi ha same1_upd (.lst upd_same (Rps.mono (kept_own hW') (keptT_lst g1) (fun _ z n => absurd z n) _ _ (g2.append (.cons p1.1 .nil))))
        exact f W σ _ s3 ((Rel.ext x1 s.st.om s.st.wk k1).trans r3)
    · cases ev
theorem s_ext {j : Nat} (h : PS X st (tDrop (tBMD X "list" (rExt X.K) (tVar j) (tCons (sE X C .bo i) tNil)))) : PS X st (sSt X C (.ext j i)) := PS.weak h fun D σ H ⟨ω, W0, H0, n, ρ, W, o, n', s, ev, f⟩ => by
  simp only [evT] at ev
  obtain ⟨z, n2, e2, ev⟩ := bnd_some ev
  obtain ⟨z', e3, e4⟩ := lift_some e2
  cases e4
  obtain ⟨x, n1, e1, ev⟩ := bnd_some ev
  have hi := slOw_some e3
  obtain ⟨a, ha, hW, hc⟩ := s.st.ev.ow j _ hi
  cases z <;> cases x <;> first | (cases ev; done) | skip
  case list.list xs ys =>
    simp only at ev
    split at ev
    · rename_i hz
      cases ret_some ev
      refine ⟨_, ha, ty_lst (.inr ⟨a, rfl, hW, hc⟩), ω, W, ρ, n, .list ys, _, s.st, e1, fun v H1 x1 k1 p1 => ?_⟩
      have s1 := s.grow x1 k1
      obtain ⟨a', ha', hW', hc'⟩ := s1.st.ev.ow j _ hi
      rw [ha] at ha'
      cases ha'
      obtain ⟨b, vs, rfl, q1, q2⟩ := RB.lst p1
      cases hc' with
      | lst g1 g2 =>
        refine ⟨a, b, _, vs, rfl, rfl, g1, q1, by rw [g2.length, q2.length]; exact fits hz, ?_⟩
        obtain ⟨s3, r3⟩ := s1.mut hi ha same1_upd (.lst upd_same (Rps.mono (kept_own hW') (keptT_lst g1) (fun _ z n => absurd z n) _ _ (g2.append q2)))
        exact f W σ _ s3 ((Rel.ext x1 s.st.om s.st.wk k1).trans r3)
    · cases ev
/-! for -/
theorem s_for {t : Tg} {sr : Sr} {body : List Ss} {two : Bool} (h : PS X st (tFor (sS X C two .pu sr) (gD X.K X.w two t) (sSts X C body))) : PS X st (sSt X C (.for t sr body)) := PS.weak h fun D σ H ⟨ω, W0, H0, n, ρ, W, o, n', s, ev, f⟩ => by
  simp only [evT] at ev
  obtain ⟨xs, n1, e1, e2⟩ := bnd_some ev
  refine ⟨ω, W, ρ, n, xs, n1, s.st, e1, fun J H1 x1 k1 its => ?_⟩
  have s1 := s.grow x1 k1
  have r1 := Rel.ext x1 s.st.om s.st.wk k1
  obtain ⟨es, hes, hits⟩ := its
  have hlen := EachIs.length hes
  refine ⟨fun i mm σx Hx => mm = xs.length - i ∧ i ≤ xs.length ∧ ∃ nn ρx Wx, SI X.K X.w ω W0 H0 nn ρx Wx σx Hx ∧ Rel W H1 Wx Hx ∧ loopM (fun x ρ' => bnd (lift (asgT t x ρ')) fun ρ2 => evTs (C (drOf ω)) body ρ2) (xs.drop i) ρx nn = some (o, n'),
    ⟨xs.length, by simp, Nat.zero_le _, n1, ρ, W, s1, Rel.refl, by simpa using e2⟩, ?_⟩
  rintro i mm σx Hx ⟨rfl, hi, nn, ρx, Wx, sx, rx, el⟩
  by_cases hlt : i < xs.length
  · right
    have hd : xs[i]? = some xs[i] := List.getElem?_eq_getElem hlt
    obtain ⟨y, hy, hone, hyd⟩ := EachIs.get hes hd
    obtain ⟨go, yl⟩ := (hits Hx rx.kp rx.kt i).1 y hy
    have edrop : xs.drop i = xs[i] :: xs.drop (i + 1) := List.drop_eq_getElem_cons hlt
    rw [edrop] at el
    simp only [loopM] at el
    obtain ⟨o1, n2, f1, f2⟩ := bnd_some el
    obtain ⟨ρ2, n3, f3, f1⟩ := bnd_some f1
    obtain ⟨ρ2', f4, f5⟩ := lift_some f3
    cases f5
    refine ⟨go, fun σ' Hn => ∃ nn ρx Wx, SI X.K X.w ω W0 H0 nn ρx Wx σ' Hn ∧ Rel W H1 Wx Hn ∧ loopM (fun x ρ' => bnd (lift (asgT t x ρ')) fun ρ2 => evTs (C (drOf ω)) body ρ2) (xs.drop (i + 1)) ρx nn = some (o, n'),
      fun σ' Hn q => ⟨xs.length - (i + 1), by omega, rfl, hlt, q⟩, fun x Hy hyl => ?_⟩
    obtain ⟨sm, yis⟩ := yl x Hy hyl
    have ky : WOk X.K ω nn Hy := sx.st.wk.same sm
    have sy := sx.grow (Same.ext sm) ky
    have ry : Rel W H1 Wx Hy := rx.trans (Rel.ext (Same.ext sm) sx.st.om sx.st.wk ky)
    refine ⟨ω, Wx, ρx, xs[i], ρ2, y, sy.st.ev, hone, yis, hyd.mono ry.kp ry.kt (fun a h n => (ry.wn a h).resolve_left n), f4, fun σ' ev' so => ?_⟩
    have sz := sy.asgT f4 (ev'.now sy.st.ev) so
    refine ⟨ω, W0, H0, nn, ρ2, Wx, o1, n2, sz, f1, ?_⟩
    cases o1 with
    | nx ρ3 => exact fun W' σ3 H3 s3 r3 => ⟨n2, ρ3, W', s3, ry.trans r3, f2⟩
    | bk ρ3 =>
      cases ret_some f2
      exact fun W' σ3 H3 s3 r3 => f W' σ3 H3 s3 (r1.trans (ry.trans r3))
    | rt d =>
      cases ret_some f2
      exact f
  · left
    have hi' : xs.length ≤ i := Nat.le_of_not_lt hlt
    rw [List.drop_eq_nil_of_le hi'] at el
    simp only [loopM] at el
    cases ret_some el
    exact ⟨(hits Hx rx.kp rx.kt i).2 (by omega), f Wx σx Hx sx (r1.trans rx)⟩
theorem s_brk : PS X (.Break pos) (sSt X C .brk) := PS.weak ps_break fun D σ H ⟨ω, W0, H0, n, ρ, W, o, n', s, ev, f⟩ => by
  simp only [evT] at ev
  cases ret_some ev
  exact f W σ H s Rel.refl
end
end RW
/-! The checker: a text of Python against a text of the small language; what it says is sound. -/
namespace RW
open PySem PySem.Spec PyProof.Rows L2
/-- functions (name, parameters), constants of the module -/
structure GT where
  fn : Nat → Option (Str × List Pm)
  gl : Nat → Option Str
/-- the static side of a block -/
structure SC where
  N : List Str
  sc : Scope
  og : Option Scope
def SC.fn (S : SC) (x : Str) : Bool := match S.og with
  | none => true
  | some s => s.names.lookup x == some .cell
def SC.blk (S : SC) (scope : Scope) : SC := ⟨S.N, relS scope S.sc, some scope⟩
structure AtX (X : Cx) (S : SC) : Prop where
  n : X.N = S.N
  sc : X.env.scope = S.sc
  fn : ∀ x, S.fn x = true → X.fn x = true
theorem AtX.blk {X : Cx} {S : SC} (a : AtX X S) (s : Shared) (H : Hp) (scope : Scope) (C : Addr) (cl : List (Str × Addr)) (fp : List Addr) : AtX (X.blk s H scope (compEnvC scope cl C X.env) fp) (S.blk scope) :=
  ⟨a.n, by show relabel scope X.env = relS scope S.sc; rw [← a.sc]; rfl, fun x h => h⟩
def bltNames : List Str := ["len", "abs", "sum", "any", "all", "sorted", "min", "max", "isinstance", "int", "tuple", "list", "dict", "bool", "str", "range", "zip", "set", "enumerate"]
structure Gd (G : GT) (C : CC) (k : Nat) (X : Cx) : Prop where
  calm : X.calm = true
  nd : X.N.Nodup
  room : Room k X.A
  fn : ∀ j x ps, G.fn j = some (x, ps) → (x == ("__debug__" : Str)) = false ∧ ∃ f fd names, X.mg x = some (.ref f) ∧ PySem.W.keepIn X.K (.ref f) = true ∧ Binds X.K fd names [] ∧ FnOk X.prog X.w X.K X.mg X.base CX0 k f fd names (spD X.K X.w C ps j)
  gl : ∀ j x, G.gl j = some x → (x == ("__debug__" : Str)) = false ∧ ∃ d v u, X.mg x = some u ∧ RelV v u ∧ (∀ dr n r, C dr j [] n = some r → r = (d, n)) ∧ ∀ H W, Rp X.K X.w H W v d
  bl : ∀ x ∈ bltNames, X.mg x = none
theorem Gd.blk {G : GT} {C : CC} {k : Nat} {X : Cx} (g : Gd G C k X) (s : Shared) (H : Hp) (scope : Scope) (env : Env) (fp : List Addr) : Gd G C k (X.blk s H scope env fp) := ⟨g.calm, g.nd, g.room, g.fn, g.gl, g.bl⟩
theorem Gd.hu {G : GT} {C : CC} {k : Nat} {X : Cx} (g : Gd G C k X) : X.A.units + 200 < cLine := hu65 g.room
/-! names -/
def nmB (S : SC) (i : Nat) (x : Str) : Bool := decide (S.N[i]? = some x) && (match S.sc.names.lookup x with | some .local => true | some .cell => true | some .free => true | _ => false) && !(x == ("__debug__" : Str)) && !(x == ("__classdict__" : Str))
def locB (S : SC) (i : Nat) (x : Str) : Bool := decide (S.N[i]? = some x) && (match S.sc.names.lookup x with | some .local => true | some .cell => S.fn x | _ => false)
def glB (S : SC) (x : Str) : Bool := decide (S.sc.names.lookup x = some .globalImplicit)
section
variable {X : Cx} {S : SC} {G : GT} {C : CC} {k : Nat}
theorem nm_of (a : AtX X S) {i : Nat} {x : Str} {pos : Pos} (h : nmB S i x = true) : PE X (.Name x pos) (tVar i) := by
  simp only [nmB, Bool.and_eq_true, decide_eq_true_eq, Bool.not_eq_true'] at h
  refine pe_var (by rw [a.n]; exact h.1.1.1) ?_ h.1.2 h.2
  have q := h.1.1.2
  unfold Vis
  rw [a.sc]
  split at q <;> first | exact .inl (by assumption) | exact .inr (.inl (by assumption)) | exact .inr (.inr (by assumption)) | cases q
theorem loc_of (a : AtX X S) (nd : X.N.Nodup) {i : Nat} {x : Str} {pos : Pos} (h : locB S i x = true) : PG X (.Name x pos) (gName i) := by
  simp only [locB, Bool.and_eq_true, decide_eq_true_eq] at h
  have q := h.2
  split at q
  · rename_i e
    have e' : X.env.scope.names.lookup x = some .local := by rw [a.sc]; exact e
    exact pg_name nd (by rw [a.n]; exact h.1) (.inl e') (.inr e')
  · rename_i e
    have e' : X.env.scope.names.lookup x = some .cell := by rw [a.sc]; exact e
    exact pg_name nd (by rw [a.n]; exact h.1) (.inr e') (.inl (a.fn x q))
  · cases q
theorem gl_of (a : AtX X S) {x : Str} (h : glB S x = true) : Gl X x := by
  have := of_decide_eq_true h
  show X.env.scope.names.lookup x = some .globalImplicit
  rw [a.sc]
  exact this
end
/-! operators, built-ins -/
def opB : U2 → Operator → Bool
  | .add, .Add => true
  | .sub, .Sub => true
  | .mul, .Mult => true
  | .fdiv, .FloorDiv => true
  | .mod, .Mod => true
  | .pow, .Pow => true
  | .band, .BitAnd => true
  | _, _ => false
def opC : U2 → CmpOp → Bool
  | .eq, .Eq => true
  | .ne, .NotEq => true
  | .lt, .Lt => true
  | .le, .LtE => true
  | .gt, .Gt => true
  | .ge, .GtE => true
  | .isin, .In => true
  | .notin, .NotIn => true
  | _, _ => false
theorem opB_ok {X : Cx} {op : U2} {o : Operator} (h : opB op o = true) : OpR X (binaryOp o) (r2 true X.K X.w (u2 op)) := by
  cases op <;> cases o <;> first
    | (cases h; done)
    | exact d_add
    | exact d_sub
    | exact d_mul
    | exact d_fdiv
    | exact d_mod
    | exact d_pow
    | exact d_band
theorem opC_ok {X : Cx} (hu : X.A.units + 200 < cLine) {op : U2} {o : CmpOp} (h : opC op o = true) : OpR X (compareOp o) (r2 true X.K X.w (u2 op)) := by
  cases op <;> cases o <;> first
    | (cases h; done)
    | exact d_eq hu
    | exact d_ne hu
    | exact d_lt hu
    | exact d_le hu
    | exact d_gt hu
    | exact d_ge hu
    | exact d_in hu
    | exact d_notin hu
def bName : U1 → Option String
  | .len => some "len"
  | .abs => some "abs"
  | .sum => some "sum"
  | .any => some "any"
  | .all => some "all"
  | .sorted => some "sorted"
  | _ => none
def tName : U1 → Option String
  | .int => some "int"
  | .tup => some "tuple"
  | .lst => some "list"
  | .dict => some "dict"
  | _ => none
def sName : U1 → Option String
  | .lenset => some "len"
  | .sortedset => some "sorted"
  | _ => none
def setArg : Expr → Option (Str × Expr)
  | .Call (.Name g _) [y] [] _ => some (g, y)
  | _ => none
theorem setArg_of {x : Expr} {g : Str} {y : Expr} (h : setArg x = some (g, y)) : ∃ p q, x = .Call (.Name g p) [y] [] q := by
  unfold setArg at h
  split at h
  · cases h; exact ⟨_, _, rfl⟩
  · cases h
def iName : Ty → String
  | .int => "int"
  | .bool => "bool"
  | .str => "str"
  | .tup => "tuple"
  | .lst => "list"
  | .dict => "dict"
def mName : U2 → Option String
  | .min => some "min"
  | .max => some "max"
  | _ => none
/-- how the built-ins stand -/
structure BOk (f : String) (v : Value) : Prop where
  mem : Str.ofString f ∈ bltNames
  boot : bootBuiltins (Str.ofString f) = some v
  nn : Str.ofString f ≠ "__name__"
  nd : (Str.ofString f == ("__debug__" : Str)) = false
theorem b_ok {op : U1} {f : String} (h : bName op = some f) : BOk f (.builtin f) := by
  cases op <;> first | (cases h; done) | (cases h; exact ⟨by decide +kernel, by decide +kernel, by decide +kernel, by decide +kernel⟩)
theorem t_ok {op : U1} {f : String} (h : tName op = some f) : BOk f (.type f) := by
  cases op <;> first | (cases h; done) | (cases h; exact ⟨by decide +kernel, by decide +kernel, by decide +kernel, by decide +kernel⟩)
theorem i_ok (ty : Ty) : BOk (iName ty) (.type (iName ty)) := by
  cases ty <;> exact ⟨by decide +kernel, by decide +kernel, by decide +kernel, by decide +kernel⟩
theorem m_ok {op : U2} {f : String} (h : mName op = some f) : BOk f (.builtin f) := by
  cases op <;> first | (cases h; done) | (cases h; exact ⟨by decide +kernel, by decide +kernel, by decide +kernel, by decide +kernel⟩)
theorem isa_ok : BOk "isinstance" (.builtin "isinstance") := ⟨by decide +kernel, by decide +kernel, by decide +kernel, by decide +kernel⟩
theorem b_call {X : Cx} (hc : X.calm = true) (hu : X.A.units + 200 < cLine) {op : U1} {f : String} (h : bName op = some f) : CallR X (.builtin f) (c1 (r1 true X.K X.w (u1 op))) := by
  cases op <;> first
    | (cases h; done)
    | (cases h; exact d_len)
    | (cases h; exact d_abs)
    | (cases h; exact d_sum hc)
    | (cases h; exact d_any hc)
    | (cases h; exact d_all hc)
    | (cases h; exact d_sorted hc hu)
theorem t_call {X : Cx} (hc : X.calm = true) (hu : X.A.units + 200 < cLine) {op : U1} {f : String} (h : tName op = some f) : CallR X (.type f) (c1 (r1 true X.K X.w (u1 op))) := by
  cases op <;> first
    | (cases h; done)
    | (cases h; exact d_int)
    | (cases h; exact d_tup)
    | (cases h; exact d_lst hc)
    | (cases h; exact d_dict hc hu)
theorem m_call {X : Cx} (hc : X.calm = true) {op : U2} {f : String} (h : mName op = some f) : CallR X (.builtin f) (c2 (r2 true X.K X.w (u2 op))) := by
  cases op <;> first
    | (cases h; done)
    | (cases h; exact d_min2 hc)
    | (cases h; exact d_max2 hc)
/-! the checker -/
def mthB : U2 → Str → Bool
  | .lindex, x => x == Str.ofString "index"
  | .tindex, x => x == Str.ofString "index"
  | .lcount, x => x == Str.ofString "count"
  | .tcount, x => x == Str.ofString "count"
  | _, _ => false
def isName : Expr → Bool
  | .Name _ _ => true
  | _ => false
def ownP (S : SC) (own : List Nat) : List (Str × Nat) := own.map fun i => (S.N.getD i Str.empty, i)
theorem ownP_snd (S : SC) (own : List Nat) : (ownP S own).map (·.2) = own := by
  unfold ownP
  rw [List.map_map]
  induction own with
  | nil => rfl
  | cons i own ih => rw [List.map_cons, ih]; rfl
def srTwo : Sr → Bool
  | .zip _ _ => true
  | .items _ => true
  | .enum _ => true
  | _ => false
/-- targets -/
def mTg : Nat → SC → Expr → Tg → Bool
  | 0, _, _, _ => false
  | n + 1, S, e, t => match t with
    | .nm i => match e with
      | .Name x _ => locB S i x
      | _ => false
    | .tp ts => match e with
      | .Tuple es _ _ => es.all noStar && decide (es.length = ts.length) && (es.zip ts).all fun q => mTg n S q.1 q.2
      | _ => false
def tgOk (two : Bool) : Tg → Bool
  | .nm _ => !two
  | .tp _ => true
mutual
def mE (G : GT) : Nat → SC → Md → Expr → Ex → Bool
  | 0, _, _, _, _ => false
  | n + 1, S, m, e, i => match i with
    | .v j => match e with
      | .Name x _ => decide (m ≠ .fr) && nmB S j x
      | _ => false
    | .b j => match e with
      | .Name x _ => decide (m = .bo) && nmB S j x
      | _ => false
    | .w _ => false
    | .c d => match e with
      | .Constant c _ _ => match constD c, d with
        | some (.int a), .int b => a == b
        | some (.bool a), .bool b => a == b
        | some (.str a), .str b => a == b
        | some .none, .none => true
        | _, _ => false
      | _ => false
    | .g j => match e with
      | .Name x _ => decide (m ≠ .fr) && decide (G.gl j = some x) && glB S x
      | _ => false
    | .o1 op a => match e with
      | .UnaryOp .USub x _ => decide (op = .neg) && mE G n S .bo x a
      | .Compare x [.Is] [.Constant .none _ _] _ => decide (op = .isN) && mE G n S .bo x a
      | .Compare x [.IsNot] [.Constant .none _ _] _ => decide (op = .notN) && mE G n S .bo x a
      | .Call (.Name f _) [x] [] _ => (match bName op with | some s => f == Str.ofString s && glB S f && noStar x && mE G n S .bo x a | none => (match tName op with | some s => f == Str.ofString s && glB S f && noStar x && mE G n S .bo x a | none => (match sName op, setArg x with | some s, some (g, y) => f == Str.ofString s && g == Str.ofString "set" && glB S f && glB S g && noStar y && mE G n S .bo y a | _, _ => false)))
      | .Call (.Name f _) [x, .Name g _] [] _ => (match op with | .isa ty => f == Str.ofString "isinstance" && g == Str.ofString (iName ty) && glB S f && glB S g && noStar x && mE G n S .bo x a | _ => false)
      | _ => false
    | .o2 op a b => match e with
      | .BinOp x o y _ => opB op o && mE G n S .bo x a && mE G n S .bo y b
      | .Compare x [o] [y] _ => opC op o && noSet y && mE G n S .bo x a && mE G n S .bo y b
      | .Subscript x y _ => decide (op = .ix) && decide (m ≠ .fr) && noSlice y && mE G n S .bo x a && mE G n S .bo y b
      | .Call (.Name f _) [x, y] [] _ => (match mName op with | some s => f == Str.ofString s && glB S f && noStar x && noStar y && mE G n S .bo x a && mE G n S .bo y b | none => false)
      | .Call (.Attribute x nm apos) [y] [] cpos => mthB op nm && isName x && noStar y && (apos.endLine == cpos.line) && mE G n S .bo x a && mE G n S .bo y b
      | _ => false
    | .get2 _ _ _ => false
    | .an a b => match e with
      | .BoolOp .And [x, y] _ => mE G n S .bo x a && mE G n S .bo y b
      | .BoolOp .And (x :: y :: z :: r) p => mE G n S .bo x a && mE G n S .bo (.BoolOp .And (y :: z :: r) p) b
      | _ => false
    | .or a b => match e with
      | .BoolOp .Or [x, y] _ => mE G n S .bo x a && mE G n S .bo y b
      | .BoolOp .Or (x :: y :: z :: r) p => mE G n S .bo x a && mE G n S .bo (.BoolOp .Or (y :: z :: r) p) b
      | _ => false
    | .nt a => match e with
      | .UnaryOp .Not x _ => mE G n S .bo x a
      | _ => false
    | .ite c a b => match e with
      | .IfExp ce ae be _ => mT G n S ce c && mE G n S m ae a && mE G n S m be b
      | _ => false
    | .tup is => match e with
      | .Tuple es _ _ => decide (is.length ≤ 1000) && mA G n S (is.map fun _ => .p) es is
      | _ => false
    | .lst is => match e with
      | .List es _ => decide (is.length ≤ 1000) && mA G n S (is.map fun _ => .p) es is
      | _ => false
    | .dic _ => false
    | .sl a lo hi => match e with
      | .Subscript x (.Slice l h none _) _ => mE G n S .bo x a && mO G n S l lo && mO G n S h hi
      | _ => false
    | .rev a => match e with
      | .Subscript x (.Slice none none (some (.UnaryOp .USub (.Constant (.int j) _ _) _)) _) _ => (j == 1) && mE G n S .bo x a
      | _ => false
    | .call j is => match e with
      | .Call (.Name f _) es [] _ => (match G.fn j with | some (x, ps) => f == x && decide (m ≠ .fr) && glB S f && es.all noStar && mA G n S ps es is | none => false)
      | _ => false
    | .lrg _ _ => false
    | .cp own t s q el => match e with
      | .ListComp elt [⟨tg, iter, ifs, z⟩] scope _ => (z == 0) && blkC S.N S.sc scope (ownP S own) && (tgSlots t).all (fun i => own.contains i) && noSet iter && mSr G n S .bo iter s && mTg n (S.blk scope) tg t && tgOk (srTwo s) t && mQ G n (S.blk scope) ifs q && mE G n (S.blk scope) .pu elt el
      | _ => false
    | .cp2 own own2 t s q t2 s2 q2 el => match e with
      | .ListComp elt [⟨tg, iter, ifs, z⟩, ⟨tg2, iter2, ifs2, z2⟩] scope _ => (z == 0) && (z2 == 0) && blkC S.N S.sc scope (ownP S own) && (tgSlots t).all (fun i => own.contains i) && (tgSlots t2).all (fun i => own2.contains i) && own2.all (fun i => own.contains i) && noSet iter && noSet iter2 &&
          mSr G n S .bo iter s && mTg n (S.blk scope) tg t && tgOk (srTwo s) t && mQ G n (S.blk scope) ifs q && mSr G n (S.blk scope) .pu iter2 s2 && mTg n (S.blk scope) tg2 t2 && tgOk (srTwo s2) t2 && mQ G n (S.blk scope) ifs2 q2 && mE G n (S.blk scope) .pu elt el
      | _ => false
def mT (G : GT) : Nat → SC → Expr → Ex → Bool
  | 0, _, _, _ => false
  | n + 1, S, e, i => match e with
    | .UnaryOp .Not x _ => match i with
      | .nt a => mT G n S x a
      | _ => false
    | .BoolOp .And [x, y] _ => match i with
      | .an a b => mT G n S x a && mT G n S y b
      | _ => false
    | .BoolOp .And (x :: y :: z :: r) p => match i with
      | .an a b => mT G n S x a && mT G n S (.BoolOp .And (y :: z :: r) p) b
      | _ => false
    | .BoolOp .Or [x, y] _ => match i with
      | .or a b => mT G n S x a && mT G n S y b
      | _ => false
    | .BoolOp .Or (x :: y :: z :: r) p => match i with
      | .or a b => mT G n S x a && mT G n S (.BoolOp .Or (y :: z :: r) p) b
      | _ => false
    | .Compare x [.Is] [.Constant .none _ _] _ => match i with
      | .o1 .isN a => mE G n S .bo x a
      | _ => false
    | .Compare x [.IsNot] [.Constant .none _ _] _ => match i with
      | .o1 .notN a => mE G n S .bo x a
      | _ => false
    | .Compare x [o] [y] _ => match i with
      | .o2 op a b => opC op o && noSet y && mE G n S .bo x a && mE G n S .bo y b
      | _ => false
    | e => plainTest e && mE G n S .bo e i
def mA (G : GT) : Nat → SC → List Pm → List Expr → List Ex → Bool
  | 0, _, _, _, _ => false
  | n + 1, S, ps, es, is => match ps, es, is with
    | [], [], [] => true
    | pm :: ps, e :: es, i :: is => noStar e && (match pm with
      | .w => (match e, i with | .Name x _, .w j => nmB S j x | _, _ => false)
      | pm => mE G n S (mdOf pm) e i) && mA G n S ps es is
    | _, _, _ => false
def mO (G : GT) : Nat → SC → Option Expr → Option Ex → Bool
  | 0, _, _, _ => false
  | n + 1, S, e, i => match e, i with
    | none, none => true
    | some e, some i => mE G n S .bo e i
    | _, _ => false
def mQ (G : GT) : Nat → SC → List Expr → Option Ex → Bool
  | 0, _, _, _ => false
  | n + 1, S, es, i => match es, i with
    | [], none => true
    | [e], some i => mT G n S e i
    | _, _ => false
def mSr (G : GT) : Nat → SC → Md → Expr → Sr → Bool
  | 0, _, _, _, _ => false
  | n + 1, S, m, e, s => match s with
    | .ex i => decide (m ≠ .fr) && mE G n S m e i
    | .rg1 a => match e with
      | .Call (.Name f _) [x] [] _ => f == Str.ofString "range" && glB S f && noStar x && mE G n S .bo x a
      | _ => false
    | .rg2 a b => match e with
      | .Call (.Name f _) [x, y] [] _ => f == Str.ofString "range" && glB S f && noStar x && noStar y && mE G n S .bo x a && mE G n S .bo y b
      | _ => false
    | _ => false
end
end RW
/-! Soundness of the checker, terms. -/
namespace RW
open PySem PySem.Spec PyProof.Rows L2
theorem foldSet {iter : Expr} {env : Env} (h : noSet iter = true) : ∀ x, foldedSetIterable iter env x = pure x := by
  intro x
  cases iter <;> first | rfl | cases h
def isBoolOp : Expr → Bool
  | .BoolOp _ _ _ => true
  | _ => false
theorem tgOk_of {two : Bool} {t : Tg} (h : tgOk two t = true) : (∃ ts, t = .tp ts) ∨ two = false := by
  cases t with
  | nm i => right; simpa [tgOk] using h
  | tp ts => exact .inl ⟨ts, rfl⟩
section
variable {G : GT} {C : CC} {k : Nat}
theorem tg_sound {two : Bool} : ∀ (n : Nat) {X : Cx} {S : SC}, Gd G C k X → AtX X S → ∀ (e : Expr) (t : Tg), mTg n S e t = true → tgOk two t = true → PG X e (gD X.K X.w two t)
  | 0, _, _, _, _, _, _, h, _ => by simp only [mTg] at h; cases h
  | n + 1, X, S, g, a, e, t, h, ho => by
    cases t with
    | nm i =>
      simp only [mTg] at h
      cases e <;> first | (cases h; done) | skip
      case Name x p =>
        rcases tgOk_of ho with ⟨ts, z⟩ | z
        · cases z
        · subst z
          exact s_nm (loc_of a g.nd h)
    | tp ts =>
      simp only [mTg] at h
      cases e <;> first | (cases h; done) | skip
      case Tuple es kk p =>
        simp only [Bool.and_eq_true, decide_eq_true_eq] at h
        obtain ⟨⟨h1, h2⟩, h3⟩ := h
        refine s_tp g.calm ?_ h1 h2
        have go : ∀ (es : List Expr) (ts : List Tg), es.length = ts.length → es.all noStar = true → ((es.zip ts).all fun q => mTg n S q.1 q.2) = true → PGs X es (gsD X.K X.w ts) := by
          intro es
          induction es with
          | nil =>
            intro ts hl _ _
            cases ts with
            | nil => exact s_gnil
            | cons t ts => cases hl
          | cons e es ih =>
            intro ts hl hs hz
            cases ts with
            | nil => cases hl
            | cons t ts =>
              rw [List.all_cons, Bool.and_eq_true] at hs
              rw [List.zip_cons_cons, List.all_cons, Bool.and_eq_true] at hz
              exact s_gcons (tg_sound n g a e t hz.1 (by cases t <;> rfl)) (ih ts (by simpa using hl) hs.2 hz.2) hs.1
        exact go es ts h2 h1 h3
/-- what the checker says at fuel n -/
structure Snd (G : GT) (C : CC) (k : Nat) (n : Nat) : Prop where
  e : ∀ {X : Cx} {S : SC}, Gd G C k X → AtX X S → ∀ (m : Md) (e : Expr) (i : Ex), mE G n S m e i = true → PE X e (sE X C m i)
  t : ∀ {X : Cx} {S : SC}, Gd G C k X → AtX X S → ∀ (e : Expr) (i : Ex), mT G n S e i = true → PT X e (sT X C i) ∧ (isBoolOp e = true → PW X e (sT X C i))
  a : ∀ {X : Cx} {S : SC}, Gd G C k X → AtX X S → ∀ (ps : List Pm) (es : List Expr) (is : List Ex), mA G n S ps es is = true → PA X es (sA X C ps is)
  o : ∀ {X : Cx} {S : SC}, Gd G C k X → AtX X S → ∀ (e : Option Expr) (i : Option Ex), mO G n S e i = true → PO X e (sO X C i)
  q : ∀ {X : Cx} {S : SC}, Gd G C k X → AtX X S → ∀ (es : List Expr) (i : Option Ex), mQ G n S es i = true → PTs X es (sQ X C i)
  s : ∀ {X : Cx} {S : SC}, Gd G C k X → AtX X S → ∀ (m : Md) (e : Expr) (s : Sr) (tg : Expr), mSr G n S m e s = true → PI X tg e (sS X C (srTwo s) m s)
theorem str_eq {f : Str} {s : Str} (h : (f == s) = true) : f = s := eq_of_beq h
theorem sa_sound {n : Nat} (ih : Snd G C k n) {X : Cx} {S : SC} (g : Gd G C k X) (a : AtX X S) (ps : List Pm) (es : List Expr) (is : List Ex) (h : mA G (n + 1) S ps es is = true) : PA X es (sA X C ps is) := by
  simp only [mA] at h
  cases ps <;> cases es <;> cases is <;> first | (cases h; done) | skip
  case nil.nil.nil => exact s_nil
  case cons.cons.cons pm ps e es i is =>
    simp only [Bool.and_eq_true] at h
    obtain ⟨⟨h1, h2⟩, h3⟩ := h
    have hr := ih.a g a ps es is h3
    cases pm with
    | w =>
      cases e <;> first | (cases h2; done) | skip
      case Name x p =>
        cases i <;> first | (cases h2; done) | skip
        case w j => exact s_consW (nm_of a h2) hr
    | p => exact s_cons (by decide) (ih.e g a _ e i h2) h1 hr
    | b => exact s_cons (by decide) (ih.e g a _ e i h2) h1 hr
theorem so_sound {n : Nat} (ih : Snd G C k n) {X : Cx} {S : SC} (g : Gd G C k X) (a : AtX X S) (e : Option Expr) (i : Option Ex) (h : mO G (n + 1) S e i = true) : PO X e (sO X C i) := by
  simp only [mO] at h
  cases e <;> cases i <;> first | (cases h; done) | skip
  case none.none => exact s_onone
  case some.some e i => exact s_osome (ih.e g a _ e i h)
theorem sq_sound {n : Nat} (ih : Snd G C k n) {X : Cx} {S : SC} (g : Gd G C k X) (a : AtX X S) (es : List Expr) (i : Option Ex) (h : mQ G (n + 1) S es i = true) : PTs X es (sQ X C i) := by
  simp only [mQ] at h
  match es, i, h with
  | [], none, _ => exact s_qnil
  | [e], some i, h => exact s_qone (ih.t g a e i h).1
theorem range_mem : Str.ofString "range" ∈ bltNames := by decide +kernel
theorem ss_sound {n : Nat} (ih : Snd G C k n) {X : Cx} {S : SC} (g : Gd G C k X) (a : AtX X S) (m : Md) (e : Expr) (s : Sr) (tg : Expr) (h : mSr G (n + 1) S m e s = true) : PI X tg e (sS X C (srTwo s) m s) := by
  cases s with
  | ex i =>
    simp only [mSr, Bool.and_eq_true, decide_eq_true_eq] at h
    exact s_src h.1 (ih.e g a m e i h.2)
  | rg1 ia =>
    simp only [mSr] at h
    split at h
    · simp only [Bool.and_eq_true] at h
      obtain ⟨⟨⟨h1, h2⟩, h3⟩, h4⟩ := h
      have e1 := str_eq h1
      subst e1
      exact s_rg1 (gl_of a h2) (g.bl _ range_mem) (ih.e g a _ _ ia h4) h3
    · cases h
  | rg2 ia ib =>
    simp only [mSr] at h
    split at h
    · simp only [Bool.and_eq_true] at h
      obtain ⟨⟨⟨⟨⟨h1, h2⟩, h3⟩, h4⟩, h5⟩, h6⟩ := h
      have e1 := str_eq h1
      subst e1
      exact s_rg2 (gl_of a h2) (g.bl _ range_mem) (ih.e g a _ _ ia h5) (ih.e g a _ _ ib h6) h3 h4
    · cases h
  | zip _ _ => simp only [mSr] at h; cases h
  | items _ => simp only [mSr] at h; cases h
  | enum _ => simp only [mSr] at h; cases h
theorem st_sound {n : Nat} (ih : Snd G C k n) {X : Cx} {S : SC} (g : Gd G C k X) (a : AtX X S) (e : Expr) (i : Ex) (h : mT G (n + 1) S e i = true) : PT X e (sT X C i) ∧ (isBoolOp e = true → PW X e (sT X C i)) := by
  have hu := g.hu
  unfold mT at h
  split at h
  · split at h
    · exact ⟨s_tnot (ih.t g a _ _ h).1, fun z => by cases z⟩
    · cases h
  · split at h
    · rw [Bool.and_eq_true] at h
      exact ⟨PW.pt (s_tand (ih.t g a _ _ h.1).1 (pw_and1 (ih.t g a _ _ h.2).1)), fun _ => s_tand (ih.t g a _ _ h.1).1 (pw_and1 (ih.t g a _ _ h.2).1)⟩
    · cases h
  · split at h
    · rw [Bool.and_eq_true] at h
      exact ⟨PW.pt (s_tand (ih.t g a _ _ h.1).1 ((ih.t g a _ _ h.2).2 rfl)), fun _ => s_tand (ih.t g a _ _ h.1).1 ((ih.t g a _ _ h.2).2 rfl)⟩
    · cases h
  · split at h
    · rw [Bool.and_eq_true] at h
      exact ⟨PW.pt (s_tor (ih.t g a _ _ h.1).1 (pw_or1 (ih.t g a _ _ h.2).1)), fun _ => s_tor (ih.t g a _ _ h.1).1 (pw_or1 (ih.t g a _ _ h.2).1)⟩
    · cases h
  · split at h
    · rw [Bool.and_eq_true] at h
      exact ⟨PW.pt (s_tor (ih.t g a _ _ h.1).1 ((ih.t g a _ _ h.2).2 rfl)), fun _ => s_tor (ih.t g a _ _ h.1).1 ((ih.t g a _ _ h.2).2 rfl)⟩
    · cases h
  · split at h
    · exact ⟨s_tisN d_isN (ih.e g a _ _ _ h), fun z => by cases z⟩
    · cases h
  · split at h
    · exact ⟨s_tisN d_notN (ih.e g a _ _ _ h), fun z => by cases z⟩
    · cases h
  · split at h
    · simp only [Bool.and_eq_true] at h
      exact ⟨s_tcmp (opC_ok hu h.1.1.1) (ih.e g a _ _ _ h.1.2) (ih.e g a _ _ _ h.2) h.1.1.2, fun z => by cases z⟩
    · cases h
  · rw [Bool.and_eq_true] at h
    refine ⟨s_tval (ih.e g a _ _ _ h.2) h.1, fun z => ?_⟩
    have := h.1
    cases e <;> first | (cases z; done) | cases this
theorem const_eq {c : Const} {d : PyData} (h : (match constD c, d with
    | some (.int a), .int b => a == b
    | some (.bool a), .bool b => a == b
    | some (.str a), .str b => a == b
    | some .none, .none => true
    | _, _ => false) = true) : constD c = some d := by
  split at h
  · rename_i a b e; rw [e, eq_of_beq h]
  · rename_i a b e; rw [e, eq_of_beq h]
  · rename_i a b e; rw [e, eq_of_beq h]
  · rename_i e; exact e
  · cases h
theorem lc_sound {n : Nat} (ih : Snd G C k n) {X : Cx} {S : SC} (g : Gd G C k X) (a : AtX X S) {elt tg iter : Expr} {ifs : List Expr} {scope : Scope} {own : List Nat} {t : Tg} {s : Sr} {q : Option Ex} {el : Ex} (h1 : blkC S.N S.sc scope (ownP S own) = true) (h2 : (tgSlots t).all (fun i => own.contains i) = true)
    (h3 : mSr G n S .bo iter s = true) (h4 : mTg n (S.blk scope) tg t = true) (h5 : tgOk (srTwo s) t = true) (h6 : mQ G n (S.blk scope) ifs q = true) (h7 : mE G n (S.blk scope) .pu elt el = true) :
    PI X tg iter (sS X C (srTwo s) .bo s) ∧ BlkOk X.N X.env.scope scope (ownP S own) ∧ (∀ (s' : Shared) (H : Hp) (Ca : Addr) (cl : List (Str × Addr)) (fp : List Addr), PG (X.blk s' H scope (compEnvC scope cl Ca X.env) fp) tg (gD X.K X.w (srTwo s) t)) ∧
      (∀ (s' : Shared) (H : Hp) (Ca : Addr) (cl : List (Str × Addr)) (fp : List Addr), PTs (X.blk s' H scope (compEnvC scope cl Ca X.env) fp) ifs (sQ X C q)) ∧
      (∀ (s' : Shared) (H : Hp) (Ca : Addr) (cl : List (Str × Addr)) (fp : List Addr), PE (X.blk s' H scope (compEnvC scope cl Ca X.env) fp) elt (sE X C .pu el)) ∧ ∀ i ∈ tgSlots t, i ∈ own := by
  refine ⟨ih.s g a _ _ _ _ h3, ?_, fun s' H Ca cl fp => ?_, fun s' H Ca cl fp => ?_, fun s' H Ca cl fp => ?_, fun i hi => ?_⟩
  · rw [a.n, a.sc]
    exact blkOk_by h1
  · exact tg_sound n (g.blk s' H scope _ fp) (a.blk s' H scope Ca cl fp) tg t h4 h5
  · exact ih.q (g.blk s' H scope _ fp) (a.blk s' H scope Ca cl fp) ifs q h6
  · exact ih.e (g.blk s' H scope _ fp) (a.blk s' H scope Ca cl fp) .pu elt el h7
  · have := List.all_eq_true.mp h2 i hi
    simpa using this
theorem se_sound {n : Nat} (ih : Snd G C k n) {X : Cx} {S : SC} (g : Gd G C k X) (a : AtX X S) (m : Md) (e : Expr) (i : Ex) (h : mE G (n + 1) S m e i = true) : PE X e (sE X C m i) := by
  have hu := g.hu
  cases i with
  | v j =>
    simp only [mE] at h
    split at h
    · rw [Bool.and_eq_true, decide_eq_true_eq] at h
      exact s_v h.1 (nm_of a h.2)
    · cases h
  | b j =>
    simp only [mE] at h
    split at h
    · rw [Bool.and_eq_true, decide_eq_true_eq] at h
      obtain ⟨rfl, h2⟩ := h
      exact s_b (nm_of a h2)
    · cases h
  | w j => simp only [mE] at h; cases h
  | c d =>
    simp only [mE] at h
    split at h
    · exact s_c (const_eq h)
    · cases h
  | g j =>
    simp only [mE] at h
    split at h
    · simp only [Bool.and_eq_true, decide_eq_true_eq] at h
      obtain ⟨hd, d, v, u, q1, q2, q3, q4⟩ := g.gl _ _ h.1.2
      exact s_g h.1.1 (gl_of a h.2) q1 q2 q3 q4 hd
    · cases h
  | o1 op ia =>
    simp only [mE] at h
    split at h
    · rw [Bool.and_eq_true, decide_eq_true_eq] at h
      obtain ⟨rfl, h⟩ := h
      exact s_neg (ih.e g a _ _ _ h)
    · rw [Bool.and_eq_true, decide_eq_true_eq] at h
      obtain ⟨rfl, h⟩ := h
      exact s_isN d_isN (ih.e g a _ _ _ h)
    · rw [Bool.and_eq_true, decide_eq_true_eq] at h
      obtain ⟨rfl, h⟩ := h
      exact s_isN d_notN (ih.e g a _ _ _ h)
    · split at h
      · rename_i s hs
        simp only [Bool.and_eq_true] at h
        obtain ⟨⟨⟨h1, h2⟩, h3⟩, h4⟩ := h
        have e1 := str_eq h1
        subst e1
        have b := b_ok hs
        exact s_call1 (b_call g.calm hu hs) (gl_of a h2) (g.bl _ b.mem) b.boot (ih.e g a _ _ _ h4) h3 b.nn b.nd
      · split at h
        · rename_i s hs
          simp only [Bool.and_eq_true] at h
          obtain ⟨⟨⟨h1, h2⟩, h3⟩, h4⟩ := h
          have e1 := str_eq h1
          subst e1
          have b := t_ok hs
          exact s_callT (t_call g.calm hu hs) (gl_of a h2) (g.bl _ b.mem) b.boot (ih.e g a _ _ _ h4) h3 b.nn b.nd
        · split at h
          · rename_i s f2 y hs hx
            simp only [Bool.and_eq_true] at h
            obtain ⟨⟨⟨⟨⟨h1, h2⟩, h3⟩, h4⟩, h5⟩, h6⟩ := h
            have e1 := str_eq h1
            have e2 := str_eq h2
            subst e1 e2
            obtain ⟨p, q, rfl⟩ := setArg_of hx
            cases op <;> first | (cases hs; done) | skip
            case lenset =>
              cases hs
              exact s_lenset g.calm hu (gl_of a h3) (g.bl _ (by decide +kernel)) (gl_of a h4) (g.bl _ (by decide +kernel)) (ih.e g a _ _ _ h6) h5
            case sortedset =>
              cases hs
              exact s_srtset g.calm hu (gl_of a h3) (g.bl _ (by decide +kernel)) (gl_of a h4) (g.bl _ (by decide +kernel)) (ih.e g a _ _ _ h6) h5
          · cases h
    · split at h
      · simp only [Bool.and_eq_true] at h
        obtain ⟨⟨⟨⟨⟨h1, h2⟩, h3⟩, h4⟩, h5⟩, h6⟩ := h
        have e1 := str_eq h1
        have e2 := str_eq h2
        subst e1 e2
        have b := isa_ok
        rename_i ty
        have b2 := i_ok ty
        exact s_isa (T := iName ty) (by cases ty <;> rfl) (gl_of a h3) (g.bl _ b.mem) b.boot (gl_of a h4) (g.bl _ b2.mem) b2.boot (ih.e g a _ _ _ h6) h5 b.nn b.nd b2.nn b2.nd
      · cases h
    · cases h
  | o2 op ia ib =>
    simp only [mE] at h
    split at h
    · simp only [Bool.and_eq_true] at h
      exact s_bin (opB_ok h.1.1) (ih.e g a _ _ _ h.1.2) (ih.e g a _ _ _ h.2)
    · simp only [Bool.and_eq_true] at h
      exact s_cmp (opC_ok hu h.1.1.1) (ih.e g a _ _ _ h.1.2) (ih.e g a _ _ _ h.2) h.1.1.2
    · simp only [Bool.and_eq_true, decide_eq_true_eq] at h
      obtain ⟨⟨⟨⟨rfl, h2⟩, h3⟩, h4⟩, h5⟩ := h
      exact s_ix hu h2 (ih.e g a _ _ _ h4) (ih.e g a _ _ _ h5) h3
    · split at h
      · rename_i s hs
        simp only [Bool.and_eq_true] at h
        obtain ⟨⟨⟨⟨⟨h1, h2⟩, h3⟩, h4⟩, h5⟩, h6⟩ := h
        have e1 := str_eq h1
        subst e1
        have b := m_ok hs
        exact s_call2 (m_call g.calm hs) (gl_of a h2) (g.bl _ b.mem) b.boot (ih.e g a _ _ _ h5) (ih.e g a _ _ _ h6) h3 h4 b.nn b.nd
      · cases h
    · simp only [Bool.and_eq_true] at h
      obtain ⟨⟨⟨⟨⟨h1, h2⟩, h3⟩, h4⟩, h5⟩, h6⟩ := h
      have p1 := ih.e g a _ _ _ h5
      have p2 := ih.e g a _ _ _ h6
      rename_i x nm apos y cpos
      have hb : attributeBase x nm X.env (eval x X.env) = eval x X.env := by cases x <;> first | rfl | cases h2
      unfold mthB at h1
      split at h1
      · have e1 := str_eq h1; subst e1; exact s_lindex hu p1 p2 h3 hb h4
      · have e1 := str_eq h1; subst e1; exact s_tindex hu p1 p2 h3 hb h4
      · have e1 := str_eq h1; subst e1; exact s_lcount hu p1 p2 h3 hb h4
      · have e1 := str_eq h1; subst e1; exact s_tcount hu p1 p2 h3 hb h4
      · cases h1
    · cases h
  | get2 _ _ _ => simp only [mE] at h; cases h
  | an ia ib =>
    simp only [mE] at h
    split at h
    · rw [Bool.and_eq_true] at h
      exact s_and (ih.e g a _ _ _ h.1) (pe_one (ih.e g a _ _ _ h.2))
    · rw [Bool.and_eq_true] at h
      exact s_and (ih.e g a _ _ _ h.1) (ih.e g a _ _ _ h.2)
    · cases h
  | or ia ib =>
    simp only [mE] at h
    split at h
    · rw [Bool.and_eq_true] at h
      exact s_or (ih.e g a _ _ _ h.1) (pe_one (ih.e g a _ _ _ h.2))
    · rw [Bool.and_eq_true] at h
      exact s_or (ih.e g a _ _ _ h.1) (ih.e g a _ _ _ h.2)
    · cases h
  | nt ia =>
    simp only [mE] at h
    split at h
    · exact s_not (ih.e g a _ _ _ h)
    · cases h
  | ite ic ia ib =>
    simp only [mE] at h
    split at h
    · simp only [Bool.and_eq_true] at h
      exact s_ite (ih.t g a _ _ h.1.1).1 (ih.e g a _ _ _ h.1.2) (ih.e g a _ _ _ h.2)
    · cases h
  | tup is =>
    simp only [mE] at h
    split at h
    · rw [Bool.and_eq_true, decide_eq_true_eq] at h
      exact s_tup (ih.a g a _ _ _ h.2) (by rw [sizeLine_eq]; omega)
    · cases h
  | lst is =>
    simp only [mE] at h
    split at h
    · rw [Bool.and_eq_true, decide_eq_true_eq] at h
      exact s_lst (ih.a g a _ _ _ h.2) (by rw [sizeLine_eq]; omega)
    · cases h
  | dic _ => simp only [mE] at h; cases h
  | sl ia lo hi =>
    simp only [mE] at h
    split at h
    · simp only [Bool.and_eq_true] at h
      exact s_slice (ih.e g a _ _ _ h.1.1) (ih.o g a _ _ h.1.2) (ih.o g a _ _ h.2)
    · cases h
  | rev ia =>
    simp only [mE] at h
    split at h
    · rw [Bool.and_eq_true] at h
      have e1 := eq_of_beq h.1
      subst e1
      exact s_rev (ih.e g a _ _ _ h.2)
    · cases h
  | call j is =>
    simp only [mE] at h
    split at h
    · rename_i f p0 es p1
      split at h
      · rename_i x ps hj
        simp only [Bool.and_eq_true, decide_eq_true_eq] at h
        obtain ⟨⟨⟨⟨h1, h2⟩, h3⟩, h4⟩, h5⟩ := h
        have e1 := str_eq h1
        subst e1
        obtain ⟨hd, fa, fd, names, q1, q2, q3, q4⟩ := g.fn _ _ _ hj
        have ha := ih.a g a _ _ _ h5
        cases es with
        | nil =>
          have : ps = [] ∧ is = [] := by
            cases n with
            | zero => simp only [mA] at h5; cases h5
            | succ n =>
              simp only [mA] at h5
              cases ps <;> cases is <;> first | exact ⟨rfl, rfl⟩ | cases h5
          obtain ⟨rfl, rfl⟩ := this
          exact s_call0 h2 q4 g.room (gl_of a h3) q1 q2 q3 hd
        | cons e es => exact s_call h2 q4 g.room (gl_of a h3) q1 q2 q3 ha h4 hd
      · cases h
    · cases h
  | lrg _ _ => simp only [mE] at h; cases h
  | cp own t s q el =>
    simp only [mE] at h
    split at h
    · simp only [Bool.and_eq_true] at h
      obtain ⟨⟨⟨⟨⟨⟨⟨⟨h0, h1⟩, h2⟩, hns⟩, h3⟩, h4⟩, h5⟩, h6⟩, h7⟩ := h
      have e0 := eq_of_beq h0
      subst e0
      obtain ⟨l1, l2, l3, l4, l5, l6⟩ := lc_sound ih g a h1 h2 h3 h4 h5 h6 h7
      refine PE.weak (pe_lc g.calm g.nd l1 l2 l3 l4 l5 (foldSet hns)) ?_
      rw [ownP_snd]
      exact lc_of l6
    · cases h
  | cp2 own own2 t s q t2 s2 q2 el =>
    simp only [mE] at h
    split at h
    · simp only [Bool.and_eq_true] at h
      obtain ⟨⟨⟨⟨⟨⟨⟨⟨⟨⟨⟨⟨⟨⟨⟨⟨h0, h0'⟩, h1⟩, h2⟩, hb⟩, hc⟩, hns⟩, hns2⟩, h3⟩, h4⟩, h5⟩, h6⟩, h7⟩, h8⟩, h9⟩, h10⟩, h11⟩ := h
      have e0 := eq_of_beq h0
      have e0' := eq_of_beq h0'
      subst e0 e0'
      obtain ⟨l1, l2, l3, l4, l5, l6⟩ := lc_sound ih g a h1 h2 h3 h4 h5 h6 h11
      have l7 : ∀ i ∈ tgSlots t2, i ∈ own2 := fun i hi => by simpa using List.all_eq_true.mp hb i hi
      have l8 : ∀ i ∈ own2, i ∈ (ownP S own).map (·.2) := fun i hi => by rw [ownP_snd]; simpa using List.all_eq_true.mp hc i hi
      refine PE.weak (pe_lc2 (tt1 := sQ X C q2) (wi1 := sS X C (srTwo s2) .pu s2) (g1 := gD X.K X.w (srTwo s2) t2) g.calm g.nd l1 l2 l8 l3 l4 (fun s' H Ca cl fp => ih.s (g.blk s' H _ _ fp) (a.blk s' H _ Ca cl fp) _ _ _ _ h7) (fun s' H Ca cl fp => tg_sound n (g.blk s' H _ _ fp) (a.blk s' H _ Ca cl fp) _ _ h8 h9) (fun s' H Ca cl fp => ih.q (g.blk s' H _ _ fp) (a.blk s' H _ Ca cl fp) _ _ h10) l5 (foldSet hns) (fun env => foldSet hns2)) ?_
      rw [ownP_snd]
      exact lc2_of l6 l7
    · cases h
theorem snd : ∀ n, Snd G C k n := by
  intro n
  induction n with
  | zero =>
    constructor
    · intro X S _ _ m e i h; simp only [mE] at h; cases h
    · intro X S _ _ e i h; simp only [mT] at h; cases h
    · intro X S _ _ ps es is h; simp only [mA] at h; cases h
    · intro X S _ _ e i h; simp only [mO] at h; cases h
    · intro X S _ _ es i h; simp only [mQ] at h; cases h
    · intro X S _ _ m e s tg h; simp only [mSr] at h; cases h
  | succ n ih =>
    constructor
    · intro X S g a m e i h; exact se_sound ih g a m e i h
    · intro X S g a e i h; exact st_sound ih g a e i h
    · intro X S g a ps es is h; exact sa_sound ih g a ps es is h
    · intro X S g a e i h; exact so_sound ih g a e i h
    · intro X S g a es i h; exact sq_sound ih g a es i h
    · intro X S g a m e s tg h; exact ss_sound ih g a m e s tg h
end
end RW
/-! Statements: the checker, soundness. -/
namespace RW
open PySem PySem.Spec PyProof.Rows L2
/-! how a store is done -/
def lcScope : Expr → Option Scope
  | .ListComp _ _ s _ => some s
  | .SetComp _ _ s _ => some s
  | .DictComp _ _ _ s _ => some s
  | _ => none
/-- a comprehension stored in a plain name on its own line -/
def swB (S : SC) (v : Expr) (x : Str) (p : Pos) : Bool := match lcScope v with
  | none => false
  | some scope => (S.sc.kind == .function) && (S.sc.names.lookup x == some .local) && (p.line == v.pos.line) && !(scope.names.any fun (n, k) => n == x && (k == .local || k == .cell))
section
variable {X : Cx} {S : SC}
theorem blockKind_of (hk : X.env.scope.kind = .function) : X.env.blockKind = .function := by
  unfold Env.blockKind
  rw [hk]
  rfl
theorem swaps_name (a : AtX X S) (hk : X.env.scope.kind = .function) (v : Expr) (x : Str) (p : Pos) (l : Nat) : swapsWith v (some (.Name x p)) l X.env = pure (swB S v x p) := by
  have e1 := blockKind_of hk
  have e2 : X.env.kindOf x = S.sc.names.lookup x := by rw [← a.sc]; rfl
  have e3 : S.sc.kind = .function := by rw [← a.sc]; exact hk
  unfold swapsWith swB
  cases v <;> first
    | rfl
    | (simp only [lcScope]; rw [e1, e2, e3])
    | (simp only [lcScope]; rw [e1, e2, e3]; rfl)
theorem swaps_sole {es : List Expr} {k : Nat} {p : Pos} (v : Expr) (l : Nat) : swapsWithSole [.Tuple es k p] v l X.env = pure false := by
  show swapsWith v (some (.Tuple es k p)) l X.env = pure false
  unfold swapsWith
  cases v <;> rfl
theorem swaps_sub {a b : Expr} {p : Pos} (v : Expr) (l : Nat) : swapsWithSole [.Subscript a b p] v l X.env = pure false := by
  show swapsWith v (some (.Subscript a b p)) l X.env = pure false
  unfold swapsWith
  cases v <;> rfl
def noDisp : Expr → Bool
  | .Tuple _ _ _ => false
  | _ => true
theorem swapped_none {es : List Expr} {k : Nat} {p : Pos} {v : Expr} (h : noDisp v = true) : swappedStores [.Tuple es k p] v X.env = pure none := by
  unfold swappedStores
  cases v <;> first | rfl | cases h
theorem swapped_sub {a b : Expr} {p : Pos} {v : Expr} : swappedStores [.Subscript a b p] v X.env = pure none := by
  unfold swappedStores
  cases v <;> rfl
/-- the names of a store from the right -/
def swNames (S : SC) (ts : List Expr) : List Str :=
  let line := (ts.head?.map (·.pos.line)).getD 0
  ts.filterMap fun
    | .Name id pos => if S.sc.names.lookup id == some .local && pos.line == line then some id else none
    | _ => none
/-- some (some names): from the right; some none: as a tuple -/
def swS (S : SC) (ts vs : List Expr) : Option (Option (List Str)) :=
  if (!(ts.length == 2 || ts.length == 3) || vs.length != ts.length) then some none
  else if (vs.any fun | .Starred .. => true | _ => false) then some none
  else if ((swNames S ts).length != ts.length || (swNames S ts).eraseDups.length != (swNames S ts).length) then some none
  else if (vs.all (foldedForSure 8)) then some none
  else if (vs.all (constantsAlone 8)) then none
  else some (some (swNames S ts))
theorem swapped_of (a : AtX X S) (hk : X.env.scope.kind = .function) {ts vs : List Expr} {k k2 : Nat} {p p2 : Pos} {r : Option (List Str)} (h : swS S ts vs = some r) : swappedStores [.Tuple ts k p] (.Tuple vs k2 p2) X.env = pure r := by
  have e1 := blockKind_of hk
  have e2 : X.env.kindOf = fun x => S.sc.names.lookup x := by funext x; rw [← a.sc]; rfl
  unfold swS at h
  unfold swappedStores
  simp only [pure_bind]
  rw [e1, e2]
  split at h
  · rename_i c1
    cases h
    refine (if_pos ?_).trans rfl
    simp only [Bool.or_eq_true] at c1 ⊢
    exact .inl c1
  · rename_i c1
    refine (if_neg ?_).trans ?_
    · simpa using c1
    · split at h
      · rename_i c2
        cases h
        exact (if_pos c2).trans rfl
      · rename_i c2
        refine (if_neg c2).trans ?_
        split at h
        · rename_i c3
          cases h
          exact (if_pos c3).trans rfl
        · rename_i c3
          refine (if_neg c3).trans ?_
          split at h
          · rename_i c4
            cases h
            exact (if_pos c4).trans rfl
          · rename_i c4
            refine (if_neg c4).trans ?_
            split at h
            · cases h
            · rename_i c5
              cases h
              exact (if_neg c5).trans rfl
end
end RW
/-! Statements: the checker, soundness. -/
namespace RW
open PySem PySem.Spec PyProof.Rows L2
def isLC : Expr → Bool
  | .ListComp _ _ _ _ => true
  | _ => false
def parNames (S : SC) (es : List Expr) (ts : List (Nat × Bool)) : Bool := (es.zip ts).all fun q => match q.1 with
  | .Name x _ => locB S q.2.1 x
  | _ => false
def nameOf : Expr → Str
  | .Name x _ => x
  | _ => Str.empty
def isLoc (S : SC) (x : Str) : Bool := decide (S.sc.names.lookup x = some .local)
mutual
def mP (G : GT) : Nat → SC → List Bool → List Expr → List Ex → Bool
  | 0, _, _, _, _ => false
  | n + 1, S, fs, es, is => match fs, es, is with
    | [], [], [] => true
    | o :: fs, e :: es, i :: is => noStar e && mE G n S (mdOw o) e i && mP G n S fs es is
    | _, _, _ => false
end
mutual
def mS (G : GT) : Nat → SC → Stmt → Ss → Bool
  | 0, _, _, _ => false
  | n + 1, S, st, t => match t with
    | .asg own (.nm j) i => match st with
      | .Assign [.Name x p] v pos => locB S j x && mE G n S (mdOw own) v i && (!(swB S v x p) || isLC v)
      | _ => false
    | .asg _ (.tp ts) i => match st with
      | .Assign [.Tuple es kk p] v pos => noDisp v && mE G n S .pu v i && mTg n S (.Tuple es kk p) (.tp ts)
      | _ => false
    | .par ts is => match st with
      | .Assign [.Tuple es _ _] (.Tuple vs _ _) _ => es.all noStar && decide (es.length = ts.length) && decide (ts.length ≤ 1000) && parNames S es ts && mP G n S (ts.map Prod.snd) vs is &&
          (match swS S es vs with
           | some none => true
           | some (some nms) => (match es, ts, vs, is with
             | [.Name x _, .Name y _], [(a, _), (b, _)], [_, _], [_, _] => decide (nms = [x, y]) && isLoc S x && isLoc S y && decide (a ≠ b)
             | [.Name x _, .Name y _, .Name z _], [(a, _), (b, _), (c, _)], [_, _, _], [_, _, _] => decide (nms = [x, y, z]) && isLoc S x && isLoc S y && isLoc S z && decide (a ≠ b) && decide (a ≠ c) && decide (b ≠ c)
             | _, _, _, _ => false)
           | none => false)
      | _ => false
    | .setix j k i => match st with
      | .Assign [.Subscript (.Name x _) ke _] v _ => nmB S j x && noSlice ke && mE G n S .pu v i && mE G n S .bo ke k
      | _ => false
    | .app j i => match st with
      | .Expr (.Call (.Attribute (.Name x _) nm apos) [a] [] cpos) _ => nm == Str.ofString "append" && nmB S j x && noStar a && (apos.endLine == cpos.line) && mE G n S .pu a i
      | _ => false
    | .ext j i => match st with
      | .Expr (.Call (.Attribute (.Name x _) nm apos) [a] [] cpos) _ => nm == Str.ofString "extend" && nmB S j x && noStar a && (apos.endLine == cpos.line) && mE G n S .bo a i
      | _ => false
    | .ret i => match st with
      | .Return (some e) _ => mE G n S .pu e i
      | _ => false
    | .retN => match st with
      | .Return none _ => true
      | _ => false
    | .ife c a b => match st with
      | .If ce x y _ => mT G n S ce c && mSs G n S x a && mSs G n S y b
      | _ => false
    | .for t s b => match st with
      | .For tg it body [] _ => noSet it && mSr G n S .pu it s && mTg n S tg t && tgOk (srTwo s) t && mSs G n S body b
      | _ => false
    | .brk => match st with
      | .Break _ => true
      | _ => false
    | _ => false
def mSs (G : GT) : Nat → SC → List Stmt → List Ss → Bool
  | 0, _, _, _ => false
  | n + 1, S, sts, ts => match ts with
    | [] => sts.isEmpty
    | t :: ts => match t with
      | .fz _ => mSs G n S sts ts
      | t => match sts with
        | st :: sts => mS G n S st t && mSs G n S sts ts
        | [] => false
end
section
variable {G : GT} {C : CC} {k : Nat}
/-- a def's body -/
structure Fd (G : GT) (C : CC) (k : Nat) (X : Cx) (S : SC) : Prop where
  g : Gd G C k X
  a : AtX X S
  hk : X.env.scope.kind = .function
  hp : PassesOwn (model X.prog X.w) X.A X.env X.xe
theorem sp_sound : ∀ (n : Nat) {X : Cx} {S : SC}, Gd G C k X → AtX X S → ∀ (fs : List Bool) (es : List Expr) (is : List Ex), mP G n S fs es is = true → PA X es (sP X C fs is)
  | 0, _, _, _, _, _, _, _, h => by simp only [mP] at h; cases h
  | n + 1, X, S, g, a, fs, es, is, h => by
    simp only [mP] at h
    cases fs <;> cases es <;> cases is <;> first | (cases h; done) | skip
    case nil.nil.nil => exact s_pnil
    case cons.cons.cons o fs e es i is =>
      simp only [Bool.and_eq_true] at h
      exact s_pcons ((snd n).e g a _ _ _ h.1.2) h.1.1 (sp_sound n g a fs es is h.2)
/-- a comprehension, stored in a name on its line -/
theorem lcset_sound {n : Nat} {X : Cx} {S : SC} (f : Fd G C k X S) {m : Md} {v : Expr} {i : Ex} {j : Nat} {x : Str} {py pos : Pos} (hl : isLC v = true) (h : mE G n S m v i = true) (hj : S.N[j]? = some x) (hx : S.sc.names.lookup x = some .local) (hsw : swapsWith v (some (.Name x py)) pos.line X.env = pure true) :
    PS X (.Assign [.Name x py] v pos) (tAsg (sE X C m i) (gName j)) := by
  obtain ⟨g, a, hk, hp⟩ := f
  have hN : X.N[j]? = some x := by rw [a.n]; exact hj
  have hxl : X.env.scope.names.lookup x = some .local := by rw [a.sc]; exact hx
  cases n with
  | zero => simp only [mE] at h; cases h
  | succ n =>
    have ih : Snd G C k n := snd n
    cases v <;> first | (cases hl; done) | skip
    case ListComp elt gens scope lp =>
      cases i <;> simp only [mE] at h <;> first | (cases h; done) | skip
      case cp own t s q el =>
        split at h
        · rename_i heq
          cases heq
          simp only [Bool.and_eq_true] at h
          obtain ⟨⟨⟨⟨⟨⟨⟨⟨h0, h1⟩, h2⟩, hns⟩, h3⟩, h4⟩, h5⟩, h6⟩, h7⟩ := h
          have e0 := eq_of_beq h0
          subst e0
          obtain ⟨l1, l2, l3, l4, l5, l6⟩ := lc_sound ih g a h1 h2 h3 h4 h5 h6 h7
          refine PS.weak (ps_setLc g.calm g.nd hN hxl hsw l1 l2 l3 l4 l5 (foldSet hns)) fun D σ H q => ?_
          rw [ownP_snd]
          exact lc_of l6 σ H _ q
        · cases h
      case cp2 own own2 t s q t2 s2 q2 el =>
        split at h
        · rename_i heq
          cases heq
          simp only [Bool.and_eq_true] at h
          obtain ⟨⟨⟨⟨⟨⟨⟨⟨⟨⟨⟨⟨⟨⟨⟨⟨h0, h0'⟩, h1⟩, h2⟩, hb⟩, hc⟩, hns⟩, hns2⟩, h3⟩, h4⟩, h5⟩, h6⟩, h7⟩, h8⟩, h9⟩, h10⟩, h11⟩ := h
          have e0 := eq_of_beq h0
          have e0' := eq_of_beq h0'
          subst e0 e0'
          obtain ⟨l1, l2, l3, l4, l5, l6⟩ := lc_sound ih g a h1 h2 h3 h4 h5 h6 h11
          have l7 : ∀ i ∈ tgSlots t2, i ∈ own2 := fun i hi => by simpa using List.all_eq_true.mp hb i hi
          have l8 : ∀ i ∈ own2, i ∈ (ownP S own).map (·.2) := fun i hi => by rw [ownP_snd]; simpa using List.all_eq_true.mp hc i hi
          refine PS.weak (ps_setLc2 (tt1 := sQ X C q2) (wi1 := sS X C (srTwo s2) .pu s2) (g1 := gD X.K X.w (srTwo s2) t2) g.calm g.nd hN hxl hsw l1 l2 l8 l3 l4 (fun s' H Ca cl fp => ih.s (g.blk s' H _ _ fp) (a.blk s' H _ Ca cl fp) _ _ _ _ h7) (fun s' H Ca cl fp => tg_sound n (g.blk s' H _ _ fp) (a.blk s' H _ Ca cl fp) _ _ h8 h9) (fun s' H Ca cl fp => ih.q (g.blk s' H _ _ fp) (a.blk s' H _ Ca cl fp) _ _ h10) l5 (foldSet hns) (fun env => foldSet hns2)) fun D σ H q => ?_
          rw [ownP_snd]
          exact lc2_of l6 l7 σ H _ q
        · cases h
theorem names_pgs {X : Cx} {S : SC} (g : Gd G C k X) (a : AtX X S) : ∀ (es : List Expr) (ts : List (Nat × Bool)), es.length = ts.length → es.all noStar = true → parNames S es ts = true → PGs X es ((ts.map Prod.fst).foldr (fun i t => gCons (gName i) t) gNil)
  | [], [], _, _, _ => pgs_nil
  | [], _ :: _, h, _, _ => by cases h
  | _ :: _, [], h, _, _ => by cases h
  | e :: es, (i, o) :: ts, hl, hs, hn => by
    unfold parNames at hn
    rw [List.zip_cons_cons, List.all_cons, Bool.and_eq_true] at hn
    rw [List.all_cons, Bool.and_eq_true] at hs
    obtain ⟨h1, h2⟩ := hn
    cases e <;> first | (cases h1; done) | skip
    case Name x p =>
      exact pgs_cons (loc_of a g.nd h1) (names_pgs g a es ts (by simpa using hl) hs.2 h2) (assignStar (t := .nm 0) hs.1 es X.env)
structure SndS (G : GT) (C : CC) (k : Nat) (n : Nat) : Prop where
  s : ∀ {X : Cx} {S : SC}, Fd G C k X S → ∀ (st : Stmt) (t : Ss), mS G n S st t = true → PS X st (sSt X C t)
  ss : ∀ {X : Cx} {S : SC}, Fd G C k X S → ∀ (sts : List Stmt) (ts : List Ss), mSs G n S sts ts = true → PSs X sts (sSts X C ts)
theorem sts_sound {n : Nat} (ih : SndS G C k n) {X : Cx} {S : SC} (f : Fd G C k X S) (sts : List Stmt) (ts : List Ss) (h : mSs G (n + 1) S sts ts = true) : PSs X sts (sSts X C ts) := by
  simp only [mSs] at h
  cases ts with
  | nil =>
    cases sts with
    | nil => exact s_snil
    | cons _ _ => cases h
  | cons t ts =>
    simp only at h
    split at h
    · exact s_fz (ih.ss f sts ts h)
    · cases sts with
      | nil => cases h
      | cons st sts =>
        simp only [Bool.and_eq_true] at h
        exact s_scons (ih.s f st t h.1) (ih.ss f sts ts h.2)
theorem st1_sound {n : Nat} (ih : SndS G C k n) {X : Cx} {S : SC} (f : Fd G C k X S) (st : Stmt) (t : Ss) (h : mS G (n + 1) S st t = true) : PS X st (sSt X C t) := by
  have E : Snd G C k n := snd n
  have f0 := f
  obtain ⟨g, a, hk, hp⟩ := f
  have hu := g.hu
  cases t with
  | asg own tg i =>
    cases tg with
    | nm j =>
      simp only [mS] at h
      split at h
      · rename_i x p v pos
        simp only [Bool.and_eq_true, Bool.or_eq_true, Bool.not_eq_true'] at h
        obtain ⟨⟨h1, h2⟩, h3⟩ := h
        have hsw := swaps_name a hk v x p pos.line
        refine s_asg ?_
        cases hb : swB S v x p with
        | false =>
          rw [hb] at hsw
          exact ps_asg (E.e g a _ _ _ h2) (loc_of a g.nd h1) hsw (by unfold swappedStores; rfl) rfl
        | true =>
          rw [hb] at hsw h3
          have hl : isLC v = true := by simpa using h3
          have hb' := hb
          unfold swB at hb'
          split at hb'
          · cases hb'
          · simp only [Bool.and_eq_true] at hb'
            have hx : S.sc.names.lookup x = some .local := by simpa using hb'.1.1.2
            have hj : S.N[j]? = some x := by
              simp only [locB, Bool.and_eq_true, decide_eq_true_eq] at h1
              exact h1.1
            exact lcset_sound f0 hl h2 hj hx hsw
      · cases h
    | tp ts =>
      simp only [mS] at h
      split at h
      · simp only [Bool.and_eq_true] at h
        obtain ⟨⟨h1, h2⟩, h3⟩ := h
        exact s_asgT (ps_asg (E.e g a _ _ _ h2) (tg_sound n g a _ _ h3 rfl) (swaps_sole _ _) (swapped_none h1) rfl)
      · cases h
  | par ts is =>
    simp only [mS] at h
    split at h
    · rename_i es kk p vs k2 p2 pos
      simp only [Bool.and_eq_true, decide_eq_true_eq] at h
      obtain ⟨⟨⟨⟨⟨h1, h2⟩, h3⟩, h4⟩, h5⟩, h6⟩ := h
      have ha := sp_sound n g a _ _ _ h5
      split at h6
      · rename_i hsw
        refine s_parT h3 (ps_asg (pe_tupF ha) ?_ (swaps_sole _ _) (swapped_of a hk hsw) rfl)
        rw [← h2]
        exact pg_tup (n := es.length) g.calm (names_pgs g a es ts h2 h1 h4) (assign_len h1) (assign_nostar h1)
      · rename_i nms hsw
        split at h6
        · rename_i x px y py i1 o1 i2 o2 e1 e2 v1 v2
          simp only [Bool.and_eq_true, decide_eq_true_eq] at h6
          obtain ⟨⟨⟨rfl, g1⟩, g2⟩, g3⟩ := h6
          have q1 : X.env.scope.names.lookup x = some .local := by rw [a.sc]; exact of_decide_eq_true g1
          have q2 : X.env.scope.names.lookup y = some .local := by rw [a.sc]; exact of_decide_eq_true g2
          unfold parNames at h4
          simp only [List.zip_cons_cons, List.all_cons, Bool.and_eq_true, locB, decide_eq_true_eq] at h4
          exact s_par2 (ps_par g.calm g.nd (by rw [a.n]; exact h4.1.1) (by rw [a.n]; exact h4.2.1.1) g3 q1 q2 ha (swapped_of a hk hsw) (swaps_sole _ _))
        · rename_i x px y py z pz i1 o1 i2 o2 i3 o3 e1 e2 e3 v1 v2 v3
          simp only [Bool.and_eq_true, decide_eq_true_eq] at h6
          obtain ⟨⟨⟨⟨⟨⟨rfl, g1⟩, g2⟩, g3⟩, g4⟩, g5⟩, g6⟩ := h6
          have q1 : X.env.scope.names.lookup x = some .local := by rw [a.sc]; exact of_decide_eq_true g1
          have q2 : X.env.scope.names.lookup y = some .local := by rw [a.sc]; exact of_decide_eq_true g2
          have q3 : X.env.scope.names.lookup z = some .local := by rw [a.sc]; exact of_decide_eq_true g3
          unfold parNames at h4
          simp only [List.zip_cons_cons, List.all_cons, Bool.and_eq_true, locB, decide_eq_true_eq] at h4
          exact s_par3 (ps_par3 g.calm g.nd (by rw [a.n]; exact h4.1.1) (by rw [a.n]; exact h4.2.1.1) (by rw [a.n]; exact h4.2.2.1.1) g4 g5 g6 q1 q2 q3 ha (swapped_of a hk hsw) (swaps_sole _ _))
        · cases h6
      · cases h6
    · cases h
  | setix j kx i =>
    simp only [mS] at h
    split at h
    · simp only [Bool.and_eq_true] at h
      obtain ⟨⟨⟨h1, h2⟩, h3⟩, h4⟩ := h
      rename_i ke _ _ _
      exact s_setix (ps_asg (E.e g a _ _ _ h3) (pg_sub (nm_of a h1) (E.e g a _ _ _ h4) (set_any hu) (by intro v; cases ke <;> first | rfl | cases h2)) (swaps_sub _ _) swapped_sub rfl)
    · cases h
  | app j i =>
    simp only [mS] at h
    split at h
    · simp only [Bool.and_eq_true] at h
      obtain ⟨⟨⟨⟨h1, h2⟩, h3⟩, h4⟩, h5⟩ := h
      have e1 := str_eq h1
      subst e1
      exact s_app (ps_expr (pe_bmD PySem.F.plainAttrs_list PySem.F.slot_list_append PySem.F.type_list_append mt_app (nm_of a h2) (pa_cons (E.e g a _ _ _ h5) pa_nil (star_of h3 _ _)) rfl (by simp [h3]) (by decide) h4))
    · cases h
  | ext j i =>
    simp only [mS] at h
    split at h
    · simp only [Bool.and_eq_true] at h
      obtain ⟨⟨⟨⟨h1, h2⟩, h3⟩, h4⟩, h5⟩ := h
      have e1 := str_eq h1
      subst e1
      exact s_ext (ps_expr (pe_bmD PySem.F.plainAttrs_list PySem.F.slot_list_extend PySem.F.type_list_extend mt_ext (nm_of a h2) (pa_cons (E.e g a _ _ _ h5) pa_nil (star_of h3 _ _)) rfl (by simp [h3]) (by decide) h4))
    · cases h
  | ret i =>
    simp only [mS] at h
    split at h
    · exact s_ret (E.e g a _ _ _ h)
    · cases h
  | retN =>
    simp only [mS] at h
    split at h
    · exact s_retN
    · cases h
  | ife c x y =>
    simp only [mS] at h
    split at h
    · simp only [Bool.and_eq_true] at h
      exact s_if (E.t g a _ _ h.1.1).1 (ih.ss f0 _ _ h.1.2) (ih.ss f0 _ _ h.2)
    · cases h
  | «for» t s b =>
    simp only [mS] at h
    split at h
    · simp only [Bool.and_eq_true] at h
      obtain ⟨⟨⟨⟨h1, h2⟩, h3⟩, h4⟩, h5⟩ := h
      exact s_for (ps_for hp g.calm (E.s g a _ _ _ _ h2) (tg_sound n g a _ _ h3 h4) (ih.ss f0 _ _ h5) (foldSet h1))
    · cases h
  | brk =>
    simp only [mS] at h
    split at h
    · exact s_brk
    · cases h
  | aug _ _ _ => simp only [mS] at h; cases h
  | augix _ _ _ _ => simp only [mS] at h; cases h
  | ins _ _ _ => simp only [mS] at h; cases h
  | upd _ _ => simp only [mS] at h; cases h
  | whl _ _ => simp only [mS] at h; cases h
  | fz _ => simp only [mS] at h; cases h
theorem sndS : ∀ n, SndS G C k n := by
  intro n
  induction n with
  | zero =>
    constructor
    · intro X S _ st t h; simp only [mS] at h; cases h
    · intro X S _ sts ts h; simp only [mSs] at h; cases h
  | succ n ih =>
    constructor
    · intro X S f st t h; exact st1_sound ih f st t h
    · intro X S f sts ts h; exact sts_sound ih f sts ts h
end
end RW
/-! Defs: they do what the evaluator says. -/
namespace RW
open PySem PySem.Spec PyProof.Rows L2
/-- a def: its name, its text, its slots, its parameters' names, its form -/
structure FI where
  name : Str
  st : Stmt
  N : List Str
  P : List Str
  f : Fn
def nodupB : List Str → Bool
  | [] => true
  | x :: r => !(r.contains x) && nodupB r
theorem nodupB_of : ∀ {l : List Str}, nodupB l = true → l.Nodup
  | [], _ => List.nodup_nil
  | x :: r, h => by
    simp only [nodupB, Bool.and_eq_true, Bool.not_eq_true'] at h
    refine List.nodup_cons.mpr ⟨fun m => ?_, nodupB_of h.2⟩
    have := h.1
    simp [m] at this
def scopeB (F : FI) : Bool := decide ((defScope F.st).kind = .function) && !(defScope F.st).isCoroutine && !(defScope F.st).isGenerator && nodupB F.N && decide (F.N.take F.P.length = F.P) &&
  (F.P.all fun x => match (defScope F.st).names.lookup x with | some .local => true | some .cell => true | _ => false) && ((defScope F.st).names.all fun y => decide (y.2 ≠ .free))
theorem scopeB_of {F : FI} (h : scopeB F = true) : FnScope F.N F.P (defScope F.st) := by
  simp only [scopeB, Bool.and_eq_true, decide_eq_true_eq, Bool.not_eq_true', List.all_eq_true] at h
  obtain ⟨⟨⟨⟨⟨⟨h1, h2⟩, h3⟩, h4⟩, h5⟩, h6⟩, h7⟩ := h
  refine ⟨h1, h2, h3, nodupB_of h4, h5, fun x hx => ?_, h7⟩
  have := h6 x hx
  split at this
  · exact .inl (by assumption)
  · exact .inr (by assumption)
  · cases this
def okB (G : GT) (n : Nat) (F : FI) : Bool := scopeB F && decide (F.f.ps.length = F.P.length) && decide (F.f.n = F.N.length) && mSs G n ⟨F.N, defScope F.st, none⟩ (defBody F.st) F.f.body
def tblT (tbl : Nat → Option FI) (j : Nat) : Option Fn := (tbl j).map (·.f)
section
variable {P : Program} {w : World} {K : PySem.W.Frag} {mg : Str → Option Value} {base : Heap}
theorem ArgsOk.len {H : Hp} {W : Addr → Prop} {ω : Om} {ps : List Pm} {vs : List V} {ds : List PyData} (h : ArgsOk K w H W ω ps vs ds) : vs.length = ps.length ∧ ds.length = ps.length := by
  induction h with
  | nil => exact ⟨rfl, rfl⟩
  | cons _ _ ih => exact ⟨by simp [ih.1], by simp [ih.2]⟩
theorem ArgsOk.get {H : Hp} {W : Addr → Prop} {ω : Om} {ps : List Pm} {vs : List V} {ds : List PyData} (h : ArgsOk K w H W ω ps vs ds) : ∀ (i : Nat) (x : Sl), ((ps.zip ds).map fun q => slOf q.1 q.2)[i]? = some x → ∃ p v d, ps[i]? = some p ∧ vs[i]? = some v ∧ ds[i]? = some d ∧ x = slOf p d ∧ ArgOk K w H W ω p v d := by
  induction h with
  | nil => intro i x h; simp at h
  | cons a b ih =>
    intro i x h
    cases i with
    | zero => simp at h; subst h; exact ⟨_, _, _, rfl, rfl, rfl, rfl, a⟩
    | succ i => simpa using ih i x (by simpa using h)
theorem start_get {N : List Str} {vs : List V} {i : Nat} {v : V} (h : vs[i]? = some v) : (L2.start N vs)[i]? = some (some v) := by
  unfold L2.start
  have hi := (List.getElem?_eq_some_iff.mp h).1
  rw [List.getElem?_append_left (by simpa using hi), List.getElem?_map, h]
  rfl
/-- the state at a def's begin -/
theorem SI.start {N : List Str} {f : Fn} {H : Hp} {W : Addr → Prop} {ω : Om} {n : Nat} {vs : List V} {ds : List PyData} {ρ : Sls} (hn : f.n = N.length) (hl : f.ps.length ≤ N.length) (wt : Wt H W) (om : OmIn K ω W) (wk : WOk K ω n H) (ha : ArgsOk K w H W ω f.ps vs ds) (he : enter f ds = some ρ) :
    SI K w ω W H n ρ W (L2.start N vs) H := by
  unfold enter at he
  split at he
  · rename_i hps
    cases he
    have hlen := ha.len
    have get : ∀ (i : Nat) (x : Sl), ((f.ps.zip ds).map (fun q => slOf q.1 q.2) ++ List.replicate (f.n - ds.length) Sl.no)[i]? = some x → x = .no ∨ ∃ p v d, vs[i]? = some v ∧ x = slOf p d ∧ ArgOk K w H W ω p v d := fun i x h => by
      by_cases hi : i < ((f.ps.zip ds).map fun q => slOf q.1 q.2).length
      · rw [List.getElem?_append_left hi] at h
        obtain ⟨p, v, d, _, h2, _, h4, h5⟩ := ha.get i x h
        exact .inr ⟨p, v, d, h2, h4, h5⟩
      · rw [List.getElem?_append_right (by omega), List.getElem?_replicate] at h
        split at h
        · cases h; exact .inl rfl
        · cases h
    refine ⟨⟨wt, om, wk, ⟨fun i d h => ?_, fun i d h => ?_, fun i d h => ?_, fun i h => ?_, ?_⟩⟩, wt, om, ⟨n, wk⟩, Ext.refl _ _, fun _ h => h, fun _ h => .inl h, fun i d h => ?_, fun i j d d' a h => ?_, fun i d h => ?_⟩
    · rcases get i _ h with z | ⟨p, v, d', h1, h2, h3⟩
      · cases z
      · cases h3 <;> first | (cases h2; done) | skip
        case p r => cases h2; exact ⟨v, start_get h1, r⟩
    · rcases get i _ h with z | ⟨p, v, d', h1, h2, h3⟩
      · cases z
      · cases h3 <;> cases h2
    · rcases get i _ h with z | ⟨p, v, d', h1, h2, h3⟩
      · cases z
      · cases h3 <;> first | (cases h2; done) | skip
        case b r => cases h2; exact ⟨v, start_get h1, r⟩
    · rcases get i _ h with z | ⟨p, v, d', h1, h2, h3⟩
      · cases z
      · cases h3 <;> first | (cases h2; done) | skip
        case w p hp => exact ⟨p, hp, start_get h1⟩
    · unfold L2.start
      simp only [List.length_append, List.length_map, List.length_zip, List.length_replicate]
      omega
    · rcases get i _ h with z | ⟨p, v, d', h1, h2, h3⟩
      · cases z
      · cases h3 <;> cases h2
    · rcases get i _ h with z | ⟨p, v, d', h1, h2, h3⟩
      · cases z
      · cases h3 <;> cases h2
    · rcases get i _ h with z | ⟨p, v, d', h1, h2, h3⟩
      · cases z
      · cases h3 <;> first | (cases h2; done) | skip
        case b r => cases h2; exact ⟨v, start_get h1, r⟩
  · cases he
theorem spD_len {C : CC} {ps : List Pm} {j : Nat} {vs : List V} {H : Hp} {Q : VK} {E : XK} (h : spD K w C ps j vs H Q E) : vs.length = ps.length := by
  obtain ⟨ω, W, n, ds, d, n', _, _, _, ha, _, _⟩ := h
  exact ha.len.1
/-- the calls, with so much fuel -/
def CCof (prim : List Int → Nat → Option (List PyData → M PyData)) (tbl : Nat → Option FI) (k : Nat) : CC := fun dr => run (prim dr) (tblT tbl) k
/-- what the module holds of the tables -/
structure Mo (P : Program) (w : World) (K : PySem.W.Frag) (mg : Str → Option Value) (base : Heap) (G : GT) (prim : List Int → Nat → Option (List PyData → M PyData)) (tbl : Nat → Option FI) : Prop where
  /-- a called name is a def of the table or one that is proved by hand -/
  fn : ∀ j x ps, G.fn j = some (x, ps) → (x == ("__debug__" : Str)) = false ∧
    ((∃ F f fd, tbl j = some F ∧ F.name = x ∧ F.f.ps = ps ∧ (∀ dr, prim dr j = none) ∧ (∃ n, okB G n F = true) ∧ Fun K x x F.st f fd ∧ mg x = some (.ref f) ∧ Binds K fd F.P []) ∨
     (∃ f fd names, mg x = some (.ref f) ∧ PySem.W.keepIn K (.ref f) = true ∧ Binds K fd names [] ∧ ∀ k, FnOk P w K mg base CX0 (k + 1) f fd names (spD K w (CCof prim tbl (k + 1)) ps j)))
  gl : ∀ j x, G.gl j = some x → (x == ("__debug__" : Str)) = false ∧ ∃ d v u, mg x = some u ∧ RelV v u ∧ (∀ dr k n, run (prim dr) (tblT tbl) (k + 1) j [] n = some (d, n)) ∧ ∀ H W, Rp K w H W v d
  bl : ∀ x ∈ bltNames, mg x = none
theorem Mo.ok {G : GT} {prim : List Int → Nat → Option (List PyData → M PyData)} {tbl : Nat → Option FI} (M : Mo P w K mg base G prim tbl) : ∀ k, ∀ j x ps, G.fn j = some (x, ps) → (x == ("__debug__" : Str)) = false ∧ ∃ f fd names, mg x = some (.ref f) ∧ PySem.W.keepIn K (.ref f) = true ∧ Binds K fd names [] ∧ FnOk P w K mg base CX0 k f fd names (spD K w (CCof prim tbl k) ps j)
  | 0, j, x, ps, hj => by
    obtain ⟨hd, h⟩ := M.fn j x ps hj
    have none0 : ∀ {vs : List V} {H : Hp} {Q : VK} {E : XK}, spD K w (CCof prim tbl 0) ps j vs H Q E → False := fun ⟨ω, W, n, ds, d, n', _, _, _, _, e, _⟩ => by cases e
    refine ⟨hd, ?_⟩
    rcases h with ⟨F, f, fd, h1, h2, h3, h4, h5, h6, h7, h8⟩ | ⟨f, fd, names, h1, h2, h3, h4⟩
    · exact ⟨f, fd, F.P, h7, h6.kp, h8, fun vs H Q E q => (none0 q).elim, fun A outer s H args us vs Q E _ _ _ _ q => (none0 q).elim⟩
    · exact ⟨f, fd, names, h1, h2, h3, fun vs H Q E q => (none0 q).elim, fun A outer s H args us vs Q E _ _ _ _ q => (none0 q).elim⟩
  | k + 1, j, x, ps, hj => by
    have ih := Mo.ok M k
    obtain ⟨hd, h⟩ := M.fn j x ps hj
    refine ⟨hd, ?_⟩
    rcases h with ⟨F, f, fd, h1, h2, h3, h4, ⟨n, h5⟩, h6, h7, h8⟩ | ⟨f, fd, names, h1, h2, h3, h4⟩
    · subst h3
      simp only [okB, Bool.and_eq_true, decide_eq_true_eq] at h5
      obtain ⟨⟨⟨o1, o2⟩, o3⟩, o4⟩ := h5
      have S := scopeB_of o1
      refine ⟨f, fd, F.P, h7, h6.kp, h8, h6.ok S (fun vs H Q E q => by rw [spD_len q, o2]) fun cdv A outer s H vs Q E hr q => ?_⟩
      obtain ⟨ω, W, n0, ds, d, n', wt, om, wk, ha, ev, kk⟩ := q
      have ev : run (prim (drOf ω)) (tblT tbl) (k + 1) j ds n0 = some (d, n') := ev
      simp only [run, h4] at ev
      have eT : tblT tbl j = some F.f := by unfold tblT; rw [h1]; rfl
      rw [eT] at ev
      obtain ⟨ρ, n1, e1, ev⟩ := bnd_some ev
      obtain ⟨ρ', e2, e3⟩ := lift_some e1
      cases e3
      obtain ⟨o, n2, e4, ev⟩ := bnd_some ev
      refine ⟨sSts (cxOf CX0 P w K mg base F.N x (defScope F.st) f cdv A outer s H E).nox (CCof prim tbl k) F.f.body, ?_, ?_⟩
      · refine (sndS n).ss (G := G) (k := k) ⟨⟨rfl, S.nd, hr, ih, fun j x hx => ?_, M.bl⟩, ⟨rfl, rfl, fun _ _ => rfl⟩, S.kind, PassesOwn.never⟩ _ _ o4
        obtain ⟨g1, d, v, u, g2, g3, g4, g5⟩ := M.gl j x hx
        refine ⟨g1, d, v, u, g2, g3, fun dr n r hr => ?_, g5⟩
        cases k with
        | zero => cases hr
        | succ k => exact Option.some.inj (hr.symm.trans (g4 dr k n))
      · have hpl : F.P.length ≤ F.N.length := by have := congrArg List.length S.pre; rw [List.length_take] at this; omega
        have si := SI.start (K := K) (w := w) (N := F.N) o3 (by omega) wt om wk ha e2
        refine ⟨ω, W, H, _, ρ, W, o, n2, si, e4, ?_⟩
        cases o with
        | nx ρ1 =>
          cases ret_some ev
          exact fun W' σ' H' s' _ => kk .non H' s'.ex s'.st.wk .non
        | rt d1 =>
          cases ret_some ev
          exact fun v H' x' k' r' => kk v H' x' k' r'
        | bk ρ1 => cases ev
    · exact ⟨f, fd, names, h1, h2, h3, h4 k⟩
end
end RW
/-! law: the world's object made, then the turns. -/
namespace RW
open PySem PySem.Spec PyProof.Rows L2
/-- what law promises: told the draws and the turns' reading -/
def spLaw (K : PySem.W.Frag) (w : World) (C : CC) (jd : Nat) (many : Int) (body : List Ss) : Sp := fun vs H Q _ => ∃ (a : Addr) (ns dr : List Int) (m : Nat), vs = [V.ref a] ∧ LsA K H (fun _ => False) a (ns.map V.int) ∧
  C [] jd [.list (ns.map .int), .int many] 0 = some (.list (dr.map .int), 0) ∧ dr.length ≤ 100000 ∧ evTs (C dr) body [.no, .wr, .no] 0 = some (.rt (.bool true), m) ∧ ∀ H', Q (.bl true) H'
theorem rps_ints {K : PySem.W.Frag} {w : World} {H : Hp} {W : Addr → Prop} : ∀ ns : List Int, Rps K w H W (ns.map V.int) (ns.map PyData.int)
  | [] => .nil
  | n :: ns => .cons (.int n) (rps_ints ns)
theorem intsOf_ints : ∀ ns : List Int, intsOf (ns.map PyData.int) = some ns
  | [] => rfl
  | n :: ns => by simp [intsOf, intsOf_ints ns]
theorem lawSl {i : Nat} {x : Sl} (h : ([.no, .wr, .no] : List Sl)[i]? = some x) (h1 : x ≠ .no) (h2 : x ≠ .wr) : False := by
  match i, h with
  | 0, h => cases h; exact h1 rfl
  | 1, h => cases h; exact h2 rfl
  | 2, h => cases h; exact h1 rfl
section
variable {P : Program} {w : World} {K : PySem.W.Frag} {mg : Str → Option Value} {base : Heap} {G : GT} {prim : List Int → Nat → Option (List PyData → M PyData)} {tbl : Nat → Option FI}
theorem law_ok (M : Mo P w K mg base G prim tbl) {st s1 : Stmt} {rest : List Stmt} {f : Addr} {fd : FuncData} (F : Fun K "law" "law" st f fd) (S : FnScope ["script", "w", "turn"] ["script"] (defScope st)) (hb : defBody st = s1 :: rest)
    {jd : Nat} (hj : G.fn jd = some (("_law_draws" : Str), ([.p, .p] : List Pm))) {many : Int} {c1 c2 c3 c4 : Nat} {p1 p2 p3 p4 p5 p6 p7 p8 p9 p10 : Pos}
    (h1 : s1 = .Assign [.Name "w" p1] (.Dict [some (.Constant (.str kDr) c1 p2), some (.Constant (.str kAt) c2 p3)] [.Call (.Name "_law_draws" p4) [.Name "script" p5, .Constant (.int many) c3 p6] [] p7, .Constant (.int 0) c4 p8] p9) p10)
    {n : Nat} {body : List Ss} (hr0 : mSs G n ⟨["script", "w", "turn"], defScope st, none⟩ rest body = true)
    (hsw : ∀ env, swapsWith (.Dict [some (.Constant (.str kDr) c1 p2), some (.Constant (.str kAt) c2 p3)] [.Call (.Name "_law_draws" p4) [.Name "script" p5, .Constant (.int many) c3 p6] [] p7, .Constant (.int 0) c4 p8] p9) (some (.Name "w" p1)) p10.line env = pure false)
    (lw : Loc (defScope st) "w") (ls : (defScope st).names.lookup ("script" : Str) = some .local ∨ (defScope st).names.lookup ("script" : Str) = some .cell) (gd : (defScope st).names.lookup ("_law_draws" : Str) = some .globalImplicit) (k : Nat) :
    FnOk P w K mg base CX0 (k + 1) f fd ["script"] (spLaw K w (CCof prim tbl k) jd many body) := by
  refine F.ok S (fun vs H Q E h => ?_) fun cdv A outer s H vs Q E hr h => ?_
  · obtain ⟨a, ns, dr, m, rfl, _⟩ := h
    rfl
  obtain ⟨a, ns, dr, m, rfl, ha, ed, few, et, kk⟩ := h
  rw [hb, h1]
  obtain ⟨hd, fD, fdD, names, mD, kD, bD, oD⟩ := Mo.ok M k jd _ _ hj
  refine ⟨_, pss_cons (ps_set (i := 1) S.nd rfl lw (pe_disp (pps_cons pe_str (pe_call (E := fun _ _ _ => False) oD hr gd mD kD bD .nil passes0 (pa_cons (pv 0 rfl (ls.elim .inl fun z => .inr (.inl z))) (pa_cons pe_int pa_nil)) hd rfl rfl) (pps_cons pe_str pe_int pps_nil)) rfl rfl (by simp) (by simp)) (hsw _))
    ((sndS n).ss (G := G) (C := CCof prim tbl k) (k := k) ⟨⟨rfl, S.nd, hr, Mo.ok M k, fun j x hx => ?_, M.bl⟩, ⟨rfl, rfl, fun _ _ => rfl⟩, S.kind, PassesOwn.never⟩ _ _ hr0), ?_⟩
  · obtain ⟨g1, d, v, u, g2, g3, g4, g5⟩ := M.gl j x hx
    refine ⟨g1, d, v, u, g2, g3, fun dr n r hr => ?_, g5⟩
    cases k with
    | zero => cases hr
    | succ k => exact Option.some.inj (hr.symm.trans (g4 dr k n))
  · intro p hp
    have sm : Same H (upd H p (.dK [])) := same_upd hp
    have ha1 : LsA K (upd H p (.dK [])) (fun _ => False) a (ns.map V.int) := ha.mono (RW.Same.kept sm) (fun _ q _ => absurd q id)
    refine ⟨_, rfl, none, fun _ => False, 0, _, _, 0, (fun _ q => absurd q id), (fun _ e => (by cases e)), trivial, .cons (.p (.lst ha1 (rps_ints ns))) (.cons (.p (.int many)) .nil), ed, fun v H2 x2 k2 r => ?_⟩
    have hp2 : H2 p = some (.dK []) := x2 p _ upd_same fun q e => by cases e
    cases r with
    | lst hl rr =>
      rename_i l xs
      obtain ⟨rfl, _⟩ := rr.ints (intsOf_ints dr)
      refine ⟨hp2, [(Sum.inr kDr, .ref l), (Sum.inr kAt, .int 0)], rfl, by simp, ?_⟩
      have em : mergeK [] [((Sum.inr kDr : Key), V.ref l), (Sum.inr kAt, V.int 0)] = [(Sum.inr kDr, V.ref l), (Sum.inr kAt, V.int ((0 : Nat) : Int))] := by rfl
      rw [em]
      -- the world's object stands
      generalize hH3 : upd H2 p (.dK [(Sum.inr kDr, V.ref l), (Sum.inr kAt, V.int ((0 : Nat) : Int))]) = H3
      have q1 : H3 p = some (.dK [(Sum.inr kDr, V.ref l), (Sum.inr kAt, V.int ((0 : Nat) : Int))]) := by rw [← hH3]; exact upd_same
      have q2 : SqL K H3 l (dr.map V.int) := SqL.step hl.sql fun o ho e => by
        rw [← hH3, upd_ne (fun z => by rw [z, hp2] at e; rcases ho with rfl | ⟨ob, rfl⟩ <;> cases e)]; exact e
      have wk : WOk K (some (p, l, dr)) 0 H3 := ⟨q1, q2, few⟩
      have wt : Wt H3 (fun b => b = p ∨ (b = l ∧ H3 l ≠ none)) := fun b h z => by
        rcases h with rfl | ⟨rfl, h⟩
        · rw [q1] at z; cases z
        · exact h z
      have om : OmIn K (some (p, l, dr)) (fun b => b = p ∨ (b = l ∧ H3 l ≠ none)) := fun q e => by
        cases e
        refine ⟨.inl rfl, ?_⟩
        rcases q2 with (h | ⟨ob, h⟩) | h
        · exact .inl (.inr ⟨rfl, by rw [h]; simp⟩)
        · exact .inl (.inr ⟨rfl, by rw [h]; simp⟩)
        · exact .inr h
      have en : EnvOk K w H3 (fun b => b = p ∨ (b = l ∧ H3 l ≠ none)) (some (p, l, dr)) [some (V.ref a), some (V.ref p), none] [.no, .wr, .no] := by
        refine ⟨fun i d h => (lawSl h (by simp) (by simp)).elim, fun i d h => (lawSl h (by simp) (by simp)).elim, fun i d h => (lawSl h (by simp) (by simp)).elim, fun i h => ?_, rfl⟩
        match i, h with
        | 0, h => cases h
        | 1, _ => exact ⟨_, rfl, rfl⟩
        | 2, h => cases h
        | i + 3, h => simp at h
      refine ⟨some (p, l, dr), _, H3, 0, [.no, .wr, .no], _, _, m, ⟨⟨wt, om, wk, en⟩, wt, om, ⟨0, wk⟩, Ext.refl _ _, fun _ h => h, fun _ h => .inl h, fun i d h => ?_, fun i j d d' b h => ?_, fun i d h => ?_⟩, et, fun v H4 x4 k4 r4 => ?_⟩
      · exact (lawSl h (by simp) (by simp)).elim
      · exact (lawSl h (by simp) (by simp)).elim
      · exact (lawSl h (by simp) (by simp)).elim
      · cases r4
        exact kk H4
end
end RW
/-! What the top has written, def by def. -/
namespace RW
open PySem PySem.Spec PyProof.Rows L2
/-- the def named x of the text st stands in the module -/
def Has (K : PySem.W.Frag) (mg : Str → Option Value) (x : Str) (st : Stmt) (ps : List Str) : Prop := ∃ f fd, Fun K x x st f fd ∧ mg x = some (.ref f) ∧ Binds K fd ps []
theorem has {K : PySem.W.Frag} {h : Heap} {mg : Str → Option Value} {x : Str} {st : Stmt} {ps : List Str} {f : Addr} {oc kV doc pm cdv ct : Value} {od an : Option Addr} {osl : Array (Option Value)} (X : K.In h) (G : h.Ns mainGlobals mg)
    (a : PySem.W.nsIn K mainGlobals x = some (some (.ref f))) (l : K.lookup f = some ⟨oc, od, .func (PySem.W.fnOf x x (defArgs st) (defBody st) (defScope st) .none kV doc pm an cdv ct), osl⟩) (c : PySem.W.codeIn K cdv x = true) (k : PySem.W.keepIn K (.ref f) = true)
    (hb : ∀ (kV doc pm : Value) (an : Option Addr) (cdv ct : Value) (us : List Value), us.length = ps.length → bindArgs (PySem.W.fnOf x x (defArgs st) (defBody st) (defScope st) .none kV doc pm an cdv ct) ⟨us, []⟩ = pure (ps.zip us)) : Has K mg x st ps :=
  ⟨f, _, fun_mk l c k, PySem.W.mg_of X G a, (fun_mk l c k).binds hb⟩
end RW
/-! Plain: the evaluator, step by step. -/
namespace RW.PL
open PySem

section
variable {α β γ : Type}
@[simp] theorem bnd_ret (a : α) (f : α → M β) : bnd (ret a) f = f a := id rfl
@[simp] theorem bnd_assoc (m : M α) (f : α → M β) (g : β → M γ) : bnd (bnd m f) g = bnd m fun a => bnd (f a) g := by
  funext n
  unfold bnd
  cases m n <;> rfl
@[simp] theorem lift_sm (a : α) : lift (some a) = ret a := id rfl
theorem bnd_rt (m : M α) : bnd m ret = m := by
  funext n
  unfold bnd ret
  cases m n <;> rfl
/-- m ends, with Q -/
def Ev (m : M α) (n : Nat) (Q : α → Nat → Prop) : Prop := ∃ a n', m n = some (a, n') ∧ Q a n'
theorem ev_ret {a : α} {n : Nat} {Q : α → Nat → Prop} (h : Q a n) : Ev (ret a) n Q := ⟨a, n, rfl, h⟩
theorem ev_bnd {m : M α} {f : α → M β} {n : Nat} {Q : β → Nat → Prop} (h : Ev m n fun a n' => Ev (f a) n' Q) : Ev (bnd m f) n Q := by
  obtain ⟨a, n', e, b, n2, e2, q⟩ := h
  refine ⟨b, n2, ?_, q⟩
  unfold bnd
  rw [e]
  exact e2
theorem Ev.mono {m : M α} {n : Nat} {Q R : α → Nat → Prop} (h : Ev m n Q) (i : ∀ a n', Q a n' → R a n') : Ev m n R := by
  obtain ⟨a, n', e, q⟩ := h
  exact ⟨a, n', e, i _ _ q⟩
theorem ev_of {m : M α} {a : α} {n : Nat} {Q : α → Nat → Prop} (e : m = ret a) (h : Q a n) : Ev m n Q := e ▸ ev_ret h
end

section
variable {C : Orc} {ρ : Sls}
@[simp] theorem eE_v (i : Nat) : evE C (.v i) ρ = lift (slGet ρ i) := by simp only [evE]
@[simp] theorem eE_b (i : Nat) : evE C (.b i) ρ = lift (slAny ρ i) := by simp only [evE]
@[simp] theorem eE_w (i : Nat) : evE C (.w i) ρ = lift (slW ρ i) := by simp only [evE]
@[simp] theorem eE_c (d : PyData) : evE C (.c d) ρ = ret d := by simp only [evE]
@[simp] theorem eE_g (j : Nat) : evE C (.g j) ρ = C j [] := by simp only [evE]
@[simp] theorem eE_o1 (op : U1) (a : Ex) : evE C (.o1 op a) ρ = bnd (evE C a ρ) fun x => lift (u1 op x) := by simp only [evE]
@[simp] theorem eE_o2 (op : U2) (a b : Ex) : evE C (.o2 op a b) ρ = bnd (evE C a ρ) fun x => bnd (evE C b ρ) fun y => lift (u2 op x y) := by simp only [evE]
def get2D (x y z : PyData) : Option PyData := match x with
  | .dict kvs => if keyOk kvs y then some ((dgetD kvs y).getD z) else none
  | _ => none
@[simp] theorem eE_get2 (a k e : Ex) : evE C (.get2 a k e) ρ = bnd (evE C a ρ) fun x => bnd (evE C k ρ) fun y => bnd (evE C e ρ) fun z => lift (get2D x y z) := by simp only [evE]; rfl
@[simp] theorem eE_an (a b : Ex) : evE C (.an a b) ρ = bnd (evE C a ρ) fun x => bnd (boolM x) fun p => if p then bnd (evE C b ρ) (fun y => bnd (boolM y) fun q => ret (.bool q)) else ret (.bool false) := by simp only [evE]
@[simp] theorem eE_or (a b : Ex) : evE C (.or a b) ρ = bnd (evE C a ρ) fun x => bnd (boolM x) fun p => if p then ret (.bool true) else bnd (evE C b ρ) (fun y => bnd (boolM y) fun q => ret (.bool q)) := by simp only [evE]
@[simp] theorem eE_nt (a : Ex) : evE C (.nt a) ρ = bnd (evE C a ρ) fun x => bnd (boolM x) fun p => ret (.bool !p) := by simp only [evE]
@[simp] theorem eE_ite (c a b : Ex) : evE C (.ite c a b) ρ = bnd (evE C c ρ) fun x => bnd (boolM x) fun p => if p then evE C a ρ else evE C b ρ := by simp only [evE]
@[simp] theorem eE_tup (es : List Ex) : evE C (.tup es) ρ = bnd (evEs C es ρ) fun xs => ret (.tuple xs) := by simp only [evE]
@[simp] theorem eE_lst (es : List Ex) : evE C (.lst es) ρ = bnd (evEs C es ρ) fun xs => ret (.list xs) := by simp only [evE]
@[simp] theorem eE_dic (es : List Ex) : evE C (.dic es) ρ = bnd (evEs C es ρ) fun xs => lift ((pairUp xs).bind fun ps => if decide (ps.length ≤ 15) then (mergeD [] ps).map .dict else none) := by simp only [evE]
@[simp] theorem eE_sl (a : Ex) (lo hi : Option Ex) : evE C (.sl a lo hi) ρ = bnd (evE C a ρ) fun x => bnd (evO C lo ρ) fun l => bnd (evO C hi ρ) fun h => lift ((intO l).bind fun l => (intO h).bind fun h => sliceD x l h) := by simp only [evE]
@[simp] theorem eE_rev (a : Ex) : evE C (.rev a) ρ = bnd (evE C a ρ) fun x => lift (revD x) := by simp only [evE]
@[simp] theorem eE_call (f : Nat) (es : List Ex) : evE C (.call f es) ρ = bnd (evEs C es ρ) fun xs => C f xs := by simp only [evE]
@[simp] theorem eE_lrg (a b : Ex) : evE C (.lrg a b) ρ = bnd (evE C a ρ) fun x => bnd (evE C b ρ) fun y => lift ((rangeD x y).bind fitL) := by simp only [evE]
@[simp] theorem eEs_nil : evEs C [] ρ = ret [] := by simp only [evEs]
@[simp] theorem eEs_cons (e : Ex) (es : List Ex) : evEs C (e :: es) ρ = bnd (evE C e ρ) fun x => bnd (evEs C es ρ) fun xs => ret (x :: xs) := by simp only [evEs]
@[simp] theorem eO_none : evO C none ρ = ret none := by simp only [evO]
@[simp] theorem eO_some (e : Ex) : evO C (some e) ρ = bnd (evE C e ρ) fun x => ret (some x) := by simp only [evO]
@[simp] theorem eQ_none : evQ C none ρ = ret true := by simp only [evQ]
@[simp] theorem eQ_some (e : Ex) : evQ C (some e) ρ = bnd (evE C e ρ) boolM := by simp only [evQ]
@[simp] theorem eS_ex (e : Ex) : evS C (.ex e) ρ = bnd (evE C e ρ) fun x => lift (itemsOf x) := by simp only [evS]
@[simp] theorem eS_rg1 (e : Ex) : evS C (.rg1 e) ρ = bnd (evE C e ρ) fun x => lift (rangeD (.int 0) x) := by simp only [evS]
@[simp] theorem eS_rg2 (a b : Ex) : evS C (.rg2 a b) ρ = bnd (evE C a ρ) fun x => bnd (evE C b ρ) fun y => lift (rangeD x y) := by simp only [evS]
@[simp] theorem eS_zip (a b : Ex) : evS C (.zip a b) ρ = bnd (evE C a ρ) fun x => bnd (evE C b ρ) fun y => lift (zippedD x y) := by simp only [evS]
@[simp] theorem eS_items (a : Ex) : evS C (.items a) ρ = bnd (evE C a ρ) fun x => lift (itemsD x) := by simp only [evS]
@[simp] theorem boolM_b (b : Bool) : boolM (.bool b) = ret b := id rfl
/-- one turn of a comprehension -/
def turnM (C : Orc) (ρ : Sls) (own : List Nat) (t : Tg) (q : Option Ex) (e : Ex) (x : PyData) : M (List PyData) :=
  bnd (lift (asgT t x (wipeS ρ own))) fun ρ' => bnd (evQ C q ρ') fun p => if p then bnd (evE C e ρ') fun y => ret [y] else ret []
theorem eE_cp (own : List Nat) (t : Tg) (s : Sr) (q : Option Ex) (e : Ex) : evE C (.cp own t s q e) ρ = bnd (evS C s ρ) fun xs => bnd (compM (turnM C ρ own t q e) xs) fun ys => lift (fitL ys) := by simp only [evE]; rfl
def turn2M (C : Orc) (ρ : Sls) (own own2 : List Nat) (t : Tg) (q : Option Ex) (t2 : Tg) (s2 : Sr) (q2 : Option Ex) (e : Ex) (x : PyData) : M (List PyData) :=
  bnd (lift (asgT t x (wipeS ρ own))) fun ρ' => bnd (evQ C q ρ') fun p => if p then bnd (evS C s2 ρ') fun xs2 => compM (turnM C ρ' own2 t2 q2 e) xs2 else ret []
theorem eE_cp2 (own own2 : List Nat) (t : Tg) (s : Sr) (q : Option Ex) (t2 : Tg) (s2 : Sr) (q2 : Option Ex) (e : Ex) : evE C (.cp2 own own2 t s q t2 s2 q2 e) ρ = bnd (evS C s ρ) fun xs => bnd (compM (turn2M C ρ own own2 t q t2 s2 q2 e) xs) fun ys => lift (fitL ys) := by simp only [evE]; rfl
@[simp] theorem filter_tt {α : Type} (l : List α) : l.filter (fun _ => true) = l := List.filter_eq_self.mpr fun _ _ => rfl
@[simp] theorem filter_ff {α : Type} (l : List α) : l.filter (fun _ => false) = [] := List.filter_eq_nil_iff.mpr fun _ _ h => Bool.noConfusion h
theorem compM_nil {f : PyData → M (List PyData)} : compM f [] = ret [] := id rfl
theorem compM_cons {f : PyData → M (List PyData)} (x : PyData) (xs : List PyData) : compM f (x :: xs) = bnd (f x) fun ys => bnd (compM f xs) fun zs => ret (ys ++ zs) := id rfl
theorem compM_pure {α : Type} {f : PyData → M (List PyData)} {enc : α → PyData} {g : α → List PyData} : ∀ {l : List α}, (∀ a ∈ l, f (enc a) = ret (g a)) → compM f (l.map enc) = ret (l.flatMap g)
  | [], _ => rfl
  | a :: l, h => by
    rw [List.map_cons, compM_cons, h a List.mem_cons_self, bnd_ret, compM_pure (l := l) fun b hb => h b (List.mem_cons_of_mem _ hb), bnd_ret]
    rfl
theorem flatMap_filter {α β : Type} (p : α → Bool) (g : α → β) : ∀ l : List α, (l.flatMap fun a => if p a = true then [g a] else []) = (l.filter p).map g
  | [] => rfl
  | a :: l => by
    rw [List.flatMap_cons, flatMap_filter p g l, List.filter_cons]
    split <;> rfl
/-- a comprehension that draws nothing -/
theorem cp_pure {α : Type} {enc : α → PyData} {l : List α} {p : α → Bool} {g : α → PyData} {own : List Nat} {t : Tg} {s : Sr} {q : Option Ex} {e : Ex} (hs : evS C s ρ = ret (l.map enc))
    (hf : l.length ≤ sizeLine) (h : ∀ a ∈ l, ∃ ρ', asgT t (enc a) (wipeS ρ own) = some ρ' ∧ evQ C q ρ' = ret (p a) ∧ (p a = true → evE C e ρ' = ret (g a))) :
    evE C (.cp own t s q e) ρ = ret (.list ((l.filter p).map g)) := by
  rw [eE_cp, hs, bnd_ret, compM_pure (g := fun a => if p a = true then [g a] else []), bnd_ret, flatMap_filter]
  · unfold fitL fit
    rw [if_pos]
    · rfl
    · rw [decide_eq_true_eq, List.length_map]
      exact Nat.le_trans (List.length_filter_le _ _) hf
  · intro a ha
    obtain ⟨ρ', e1, e2, e3⟩ := h a ha
    unfold turnM
    rw [e1, lift_sm, bnd_ret, e2, bnd_ret]
    cases hp : p a with
    | true => simp only [if_true, e3 hp, bnd_ret]
    | false => simp
/-- .. without a test -/
theorem cp_map {α : Type} {enc : α → PyData} {l : List α} {g : α → PyData} {own : List Nat} {t : Tg} {s : Sr} {e : Ex} (hs : evS C s ρ = ret (l.map enc))
    (hf : l.length ≤ sizeLine) (h : ∀ a ∈ l, ∃ ρ', asgT t (enc a) (wipeS ρ own) = some ρ' ∧ evE C e ρ' = ret (g a)) :
    evE C (.cp own t s none e) ρ = ret (.list (l.map g)) := by
  have e0 : l.filter (fun _ => true) = l := List.filter_eq_self.mpr fun _ _ => rfl
  have e1 := cp_pure (p := fun _ => true) (q := none) (g := g) hs hf fun a ha => by
    obtain ⟨ρ', e1, e2⟩ := h a ha
    exact ⟨ρ', e1, eQ_none, fun _ => e2⟩
  rw [e0] at e1
  exact e1
/-- two, one in the other -/
theorem cp2_pure {α β : Type} {enc : α → PyData} {l : List α} {p : α → Bool} {enc2 : α → β → PyData} {l2 : α → List β} {p2 : α → β → Bool} {g : α → β → PyData} {own own2 : List Nat} {t : Tg} {s : Sr} {q : Option Ex} {t2 : Tg} {s2 : Sr} {q2 : Option Ex} {e : Ex} (hs : evS C s ρ = ret (l.map enc))
    (hf : (l.flatMap l2).length ≤ sizeLine) (h : ∀ a ∈ l, ∃ ρ', asgT t (enc a) (wipeS ρ own) = some ρ' ∧ evQ C q ρ' = ret (p a) ∧ (p a = true → evS C s2 ρ' = ret ((l2 a).map (enc2 a)) ∧
      ∀ b ∈ l2 a, ∃ ρ2, asgT t2 (enc2 a b) (wipeS ρ' own2) = some ρ2 ∧ evQ C q2 ρ2 = ret (p2 a b) ∧ (p2 a b = true → evE C e ρ2 = ret (g a b)))) :
    evE C (.cp2 own own2 t s q t2 s2 q2 e) ρ = ret (.list ((l.filter p).flatMap fun a => ((l2 a).filter (p2 a)).map (g a))) := by
  have hfl : ∀ l : List α, (l.flatMap fun a => if p a = true then ((l2 a).filter (p2 a)).map (g a) else []) = (l.filter p).flatMap fun a => ((l2 a).filter (p2 a)).map (g a) := by
    intro l
    induction l with
    | nil => rfl
    | cons a l ih =>
      rw [List.flatMap_cons, ih, List.filter_cons]
      split <;> rfl
  have hle : ∀ l : List α, ((l.filter p).flatMap fun a => ((l2 a).filter (p2 a)).map (g a)).length ≤ (l.flatMap l2).length := by
    intro l
    induction l with
    | nil => exact Nat.le_refl _
    | cons a l ih =>
      have h1 := List.length_filter_le (p2 a) (l2 a)
      rw [List.filter_cons]
      split
      · simp only [List.flatMap_cons, List.length_append, List.length_map]
        omega
      · simp only [List.flatMap_cons, List.length_append]
        omega
  rw [eE_cp2, hs, bnd_ret, compM_pure (g := fun a => if p a = true then ((l2 a).filter (p2 a)).map (g a) else []), bnd_ret, hfl]
  · unfold fitL fit
    rw [if_pos]
    · rfl
    · rw [decide_eq_true_eq]
      exact Nat.le_trans (hle l) hf
  · intro a ha
    obtain ⟨ρ', e1, e2, e3⟩ := h a ha
    unfold turn2M
    rw [e1, lift_sm, bnd_ret, e2, bnd_ret]
    cases hp : p a with
    | true =>
      obtain ⟨e4, e5⟩ := e3 hp
      simp only [if_true, e4, bnd_ret]
      rw [compM_pure (g := fun b => if p2 a b = true then [g a b] else []), flatMap_filter]
      intro b hb
      obtain ⟨ρ2, f1, f2, f3⟩ := e5 b hb
      unfold turnM
      rw [f1, lift_sm, bnd_ret, f2, bnd_ret]
      cases hp2 : p2 a b with
      | true => simp only [if_true, f3 hp2, bnd_ret]
      | false => simp
    | false => simp
/-! ### statements -/
@[simp] theorem eTs_nil : evTs C [] ρ = ret (.nx ρ) := by simp only [evTs]
def thenM (C : Orc) (ts : List Ss) : Out → M Out
  | .nx ρ' => evTs C ts ρ'
  | .rt d => ret (.rt d)
  | .bk ρ' => ret (.bk ρ')
@[simp] theorem thenM_nx (ts : List Ss) (ρ' : Sls) : thenM C ts (.nx ρ') = evTs C ts ρ' := id rfl
@[simp] theorem thenM_rt (ts : List Ss) (d : PyData) : thenM C ts (.rt d) = ret (.rt d) := id rfl
@[simp] theorem thenM_bk (ts : List Ss) (ρ' : Sls) : thenM C ts (.bk ρ') = ret (.bk ρ') := id rfl
theorem eTs_cons (t : Ss) (ts : List Ss) : evTs C (t :: ts) ρ = bnd (evT C t ρ) (thenM C ts) := by simp only [evTs]; rfl
def outSet (ρ : Sls) (i : Nat) (x : Sl) : M Out := if i < ρ.length then ret (.nx (ρ.set i x)) else fun _ => none
theorem eT_asg (own : Bool) (i : Nat) (e : Ex) : evT C (.asg own (.nm i) e) ρ = bnd (evE C e ρ) fun d => outSet ρ i (stor own d) := by simp only [evT]; rfl
theorem eT_asgt (own : Bool) (ts : List Tg) (e : Ex) : evT C (.asg own (.tp ts) e) ρ = bnd (evE C e ρ) fun d => bnd (lift (asgT (.tp ts) d ρ)) fun ρ' => ret (.nx ρ') := by simp only [evT]
theorem eT_par (ts : List (Nat × Bool)) (es : List Ex) : evT C (.par ts es) ρ = bnd (evEs C es ρ) fun ds => bnd (lift (parS ts ds ρ)) fun ρ' => ret (.nx ρ') := by simp only [evT]
theorem eT_setix (i : Nat) (k e : Ex) : evT C (.setix i k e) ρ = bnd (evE C e ρ) fun v => bnd (lift (slOw ρ i)) fun _ => bnd (evE C k ρ) fun x => bnd (lift (slOw ρ i)) fun d => bnd (lift (setIx d x v)) fun d' => ret (.nx (ρ.set i (.ow d'))) := by simp only [evT]
theorem eT_aug (i : Nat) (op : U2) (e : Ex) : evT C (.aug i op e) ρ = bnd (lift (slGet ρ i)) fun x => bnd (evE C e ρ) fun y => bnd (lift (u2 op x y)) fun z => ret (.nx (ρ.set i (.pu z))) := by simp only [evT]
def appD (d x : PyData) : Option PyData := match d with
  | .list xs => if decide (xs.length < sizeLine) then some (.list (xs ++ [x])) else none
  | _ => none
theorem eT_app (i : Nat) (e : Ex) : evT C (.app i e) ρ = bnd (lift (slOw ρ i)) fun d => bnd (evE C e ρ) fun x => bnd (lift (appD d x)) fun d' => ret (.nx (ρ.set i (.ow d'))) := by
  simp only [evT]
  congr 1
  funext d
  congr 1
  funext x
  unfold appD
  cases d <;> first | rfl | (simp only []; split <;> rfl)
def extD (d x : PyData) : Option PyData := match d, x with
  | .list xs, .list ys => if fit (xs.length + ys.length) then some (.list (xs ++ ys)) else none
  | _, _ => none
theorem eT_ext (i : Nat) (e : Ex) : evT C (.ext i e) ρ = bnd (lift (slOw ρ i)) fun d => bnd (evE C e ρ) fun x => bnd (lift (extD d x)) fun d' => ret (.nx (ρ.set i (.ow d'))) := by
  simp only [evT]
  congr 1
  funext d
  congr 1
  funext x
  unfold extD
  cases d <;> cases x <;> first | rfl | (simp only []; split <;> rfl)
theorem eT_ret (e : Ex) : evT C (.ret e) ρ = bnd (evE C e ρ) fun d => ret (.rt d) := by simp only [evT]
theorem eT_retN : evT C .retN ρ = ret (.rt .none) := by simp only [evT]
theorem eT_ife (c : Ex) (a b : List Ss) : evT C (.ife c a b) ρ = bnd (evE C c ρ) fun x => bnd (boolM x) fun p => if p then evTs C a ρ else evTs C b ρ := by simp only [evT]
def bodyM (C : Orc) (t : Tg) (b : List Ss) (x : PyData) (ρ : Sls) : M Out := bnd (lift (asgT t x ρ)) fun ρ2 => evTs C b ρ2
theorem eT_for (t : Tg) (s : Sr) (b : List Ss) : evT C (.for t s b) ρ = bnd (evS C s ρ) fun xs => loopM (bodyM C t b) xs ρ := by simp only [evT]; rfl
theorem eT_brk : evT C .brk ρ = ret (.bk ρ) := by simp only [evT]
theorem eT_fz (i : Nat) : evT C (.fz i) ρ = bnd (lift (freeze ρ i)) fun ρ' => ret (.nx ρ') := by simp only [evT]
end
end RW.PL
/-! Plain: data with a Lean type. -/
namespace RW.PL
open PySem PySem.W
abbrev toD {α : Type} [DecidableEq α] [Datum α] : α → PyData := Datum.toD

/-! ### the order is total -/
section
variable {α : Type} [DecidableEq α] [DatumOrd α]
theorem toks_inj {a b : α} (h : keyToks (toD a) = keyToks (toD b)) : a = b := by
  have t := (toks_eqv (toD a) (toD b) (DatumOrd.alike a b)).2
  cases e : PyData.eqv (toD a) (toD b) with
  | true => rw [Datum.eqv] at e; exact of_decide_eq_true e
  | false =>
    have t1 := t e [] [.inl 0]
    rw [h, lex_pre, PyProof.Rows.lex_irrefl] at t1
    cases t1
theorem lt_irrefl (a : α) : DatumOrd.lt a a = false := by rw [← DatumOrd.lt_eq]; exact PyProof.Rows.lex_irrefl _
theorem lt_trans {a b c : α} (h : DatumOrd.lt a b = true) (g : DatumOrd.lt b c = true) : DatumOrd.lt a c = true := by
  rw [← DatumOrd.lt_eq] at h g ⊢
  exact PyProof.Rows.lex_trans _ _ _ h g
theorem lt_total {a b : α} (h : DatumOrd.lt a b = false) (g : DatumOrd.lt b a = false) : a = b := by
  rw [← DatumOrd.lt_eq] at h g
  exact toks_inj (PyProof.Rows.lex_total _ _ h g)
/-- not behind -/
def leT (a b : α) : Bool := !DatumOrd.lt b a
theorem leT_trans (a b c : α) (h : leT a b = true) (g : leT b c = true) : leT a c = true := by
  unfold leT at *
  rw [Bool.not_eq_true'] at *
  cases e : DatumOrd.lt c a with
  | false => rfl
  | true =>
    have q := PyProof.Rows.lex_negTrans (O := PyProof.Rows.itemOrd) (keyToks (toD c)) (keyToks (toD b)) (keyToks (toD a)) ((DatumOrd.lt_eq c a).trans e)
    rcases q with q | q
    · have q' := (DatumOrd.lt_eq c b).symm.trans q
      rw [g] at q'
      cases q'
    · have q' := (DatumOrd.lt_eq b a).symm.trans q
      rw [h] at q'
      cases q'
theorem leT_total (a b : α) : (leT a b || leT b a) = true := by
  unfold leT
  cases e : DatumOrd.lt b a with
  | false => rfl
  | true =>
    cases g : DatumOrd.lt a b with
    | false => rfl
    | true => have := lt_trans e g; rw [lt_irrefl] at this; cases this
theorem leT_antisymm {a b : α} (h : leT a b = true) (g : leT b a = true) : a = b := by
  unfold leT at *
  rw [Bool.not_eq_true'] at *
  exact lt_total g h
def sortT (l : List α) : List α := l.mergeSort leT
theorem sortT_perm (l : List α) : (sortT l).Perm l := List.mergeSort_perm _ _
theorem sortT_sorted (l : List α) : (sortT l).Pairwise fun a b => leT a b = true := List.pairwise_mergeSort leT_trans leT_total l
theorem sortT_of_perm {l m : List α} (h : l.Perm m) : sortT l = sortT m :=
  List.Perm.eq_of_pairwise (le := fun a b => leT a b = true) (fun _ _ _ _ x y => leT_antisymm x y) (sortT_sorted l) (sortT_sorted m) (((sortT_perm l).trans h).trans (sortT_perm m).symm)
theorem sortT_eq {l : List α} (h : l.Pairwise fun a b => leT a b = true) : sortT l = l := List.mergeSort_of_pairwise h
@[simp] theorem mem_sortT {l : List α} {a : α} : a ∈ sortT l ↔ a ∈ l := (sortT_perm l).mem_iff
theorem sortD_map (l : List α) : sortD (l.map toD) = (sortT l).map toD := by
  unfold sortD sortT
  refine (List.map_mergeSort fun a _ b _ => ?_).symm
  show (!DatumOrd.lt b a) = !dataLt (toD b) (toD a)
  rw [DatumOrd.lt_eq]
end

/-! ### what may be sorted, what may be a key -/
class Fact' (p : Prop) : Prop where
  out : p
class SortK (α : Type) [DecidableEq α] [DatumOrd α] : Prop where
  srt : (∀ a : α, tupNE (toD a) = true) ∨ ∀ a : α, notTN (toD a) = true
  dep : Datum.depth α ≤ 60
instance : SortK Int := ⟨.inr fun _ => rfl, by decide⟩
instance : SortK Str := ⟨.inr fun _ => rfl, by decide⟩
instance {α β : Type} [DecidableEq α] [DatumOrd α] [DecidableEq β] [DatumOrd β] [h : Fact' (Datum.depth (α × β) ≤ 60)] : SortK (α × β) := ⟨.inl fun _ => rfl, h.out⟩

theorem okD_t {α : Type} [DecidableEq α] [Datum α] (hd : Datum.depth α ≤ 60) (a : α) : okD (toD a) = true := by
  unfold okD dmax
  rw [Datum.plain, Bool.true_and, decide_eq_true_eq]
  exact Nat.le_trans (Datum.depth_le a) hd
theorem okDs_t {α : Type} [DecidableEq α] [Datum α] (hd : Datum.depth α ≤ 60) (l : List α) : okDs (l.map toD) = true := by
  unfold okDs dmax
  rw [plainAll_map, Bool.true_and, decide_eq_true_eq]
  have : ∀ l : List α, PyData.depthAll (l.map toD) ≤ 60 := by
    intro l
    induction l with
    | nil => simp [PyData.depthAll]
    | cons a l ih =>
      rw [List.map_cons, PyData.depthAll]
      have := Datum.depth_le a
      have e : (toD a).depth = (Datum.toD a).depth := rfl
      omega
  exact this l
section
variable {α : Type} [DecidableEq α] [Datum α]
theorem eqD_t (hd : Datum.depth α ≤ 60) (a b : α) : eqD (toD a) (toD b) = some (.bool (decide (a = b))) := by
  unfold eqD
  rw [okD_t hd, okD_t hd, Datum.eqv]
  rfl
theorem neD_t (hd : Datum.depth α ≤ 60) (a b : α) : neD (toD a) (toD b) = some (.bool (!decide (a = b))) := by
  unfold neD
  rw [okD_t hd, okD_t hd, Datum.eqv]
  rfl
theorem any_eqv (l : List α) (x : α) : ((l.map toD).any fun y => PyData.eqv y (toD x)) = decide (x ∈ l) := by
  induction l with
  | nil => simp
  | cons a l ih =>
    rw [List.map_cons, List.any_cons, ih, Datum.eqv, ← Bool.decide_or]
    exact decide_eq_decide.mpr (by rw [List.mem_cons]; exact or_congr ⟨Eq.symm, Eq.symm⟩ Iff.rfl)
theorem inB_list (hd : Datum.depth α ≤ 60) (x : α) (l : List α) : inB (toD x) (.list (l.map toD)) = some (decide (x ∈ l)) := by
  unfold inB
  simp only [okD_t hd, okDs_t hd, Bool.and_self, if_true, any_eqv]
theorem inB_tup (hd : Datum.depth α ≤ 60) (x : α) (l : List α) : inB (toD x) (.tuple (l.map toD)) = some (decide (x ∈ l)) := by
  unfold inB
  simp only [okD_t hd, okDs_t hd, Bool.and_self, if_true, any_eqv]
theorem count_eqv (l : List α) (x : α) : ((l.map toD).countP fun y => PyData.eqv y (toD x)) = l.count x := by
  induction l with
  | nil => rfl
  | cons a l ih =>
    rw [List.map_cons, List.countP_cons, ih, Datum.eqv, List.count_cons]
    by_cases h : a = x <;> simp [h]
theorem countIn_t (hd : Datum.depth α ≤ 60) (l : List α) (x : α) : countIn (l.map toD) (toD x) = some (.int (l.count x)) := by
  unfold countIn
  rw [okD_t hd, okDs_t hd, count_eqv]
  rfl
theorem findIdx_eqv (l : List α) (x : α) : ((l.map toD).findIdx? fun y => PyData.eqv y (toD x)) = l.findIdx? fun y => decide (y = x) := by
  induction l with
  | nil => rfl
  | cons a l ih => rw [List.map_cons, List.findIdx?_cons, List.findIdx?_cons, ih, Datum.eqv]
theorem indexIn_t (hd : Datum.depth α ≤ 60) (l : List α) (x : α) (hl : l.length ≤ sizeLine) : indexIn (l.map toD) (toD x) = (l.findIdx? fun y => decide (y = x)).map fun (j : Nat) => .int (j : Int) := by
  unfold indexIn fit
  rw [okD_t hd, okDs_t hd, List.length_map, decide_eq_true hl]
  show (indexIn.dataPlace _ _).map _ = _
  unfold indexIn.dataPlace
  rw [findIdx_eqv]
end
section
variable {α : Type} [DecidableEq α] [DatumOrd α] [SortK α]
theorem allAlike_t (l : List α) : allAlike (l.map toD) = true := by
  unfold allAlike
  rw [List.all_eq_true]
  intro x hx
  rw [List.all_eq_true]
  intro y hy
  obtain ⟨a, _, rfl⟩ := List.mem_map.mp hx
  obtain ⟨b, _, rfl⟩ := List.mem_map.mp hy
  exact DatumOrd.alike a b
theorem sortable_t (l : List α) : sortable (l.map toD) = true := by
  unfold sortable
  rw [Bool.or_eq_true]
  rcases SortK.srt (α := α) with h | h
  · exact .inl (by simp [h])
  · exact .inr (by simp [h])
theorem srt_list (l : List α) (hl : l.length ≤ sizeLine) : srtD (.list (l.map toD)) = some (.list ((sortT l).map toD)) := by
  unfold srtD
  simp only [itemsOf, allAlike_t, sortable_t, okDs_t SortK.dep, fit, List.length_map, decide_eq_true hl, Bool.and_self, if_true, sortD_map]
theorem srt_tup (l : List α) (hl : l.length ≤ sizeLine) : srtD (.tuple (l.map toD)) = some (.list ((sortT l).map toD)) := by
  unfold srtD
  simp only [itemsOf, allAlike_t, sortable_t, okDs_t SortK.dep, fit, List.length_map, decide_eq_true hl, Bool.and_self, if_true, sortD_map]
theorem srt_dict {β : Type} (l : List β) (k : β → α) (v : β → PyData) (hl : l.length ≤ sizeLine) : srtD (.dict (l.map fun b => (toD (k b), v b))) = some (.list ((sortT (l.map k)).map toD)) := by
  have e : (l.map fun b => (toD (k b), v b)).map Prod.fst = (l.map k).map toD := by simp [List.map_map, Function.comp_def]
  unfold srtD
  simp only [itemsOf, e, allAlike_t, sortable_t, okDs_t SortK.dep, fit, List.length_map, decide_eq_true hl, Bool.and_self, if_true, sortD_map]
end

/-! ### keys -/
class DKey (α : Type) [DecidableEq α] [Datum α] where
  key : α → NestedKey
  nk : ∀ a : α, nkey (toD a) = some (key a)
  inj : ∀ a b : α, key a = key b → a = b
  kd : Nat
  kd_le : ∀ a : α, (key a).depth ≤ kd
instance : DKey Int := ⟨.num, fun _ => rfl, fun a b h => by cases h; rfl, 0, fun _ => by simp [NestedKey.depth]⟩
instance : DKey Str := ⟨.text, fun _ => rfl, fun a b h => by cases h; rfl, 0, fun _ => by simp [NestedKey.depth]⟩
section
variable {α β : Type} [DecidableEq α] [Datum α] [DKey α] [DecidableEq β] [Datum β] [DKey β]
instance : DKey (α × β) where
  key p := .tup [DKey.key p.1, DKey.key p.2]
  nk p := by
    show nkey (.tuple [toD p.1, toD p.2]) = _
    simp [nkey, nkey.nkeys, DKey.nk]
  inj p q h := by
    cases p; cases q
    simp only [NestedKey.tup.injEq, List.cons.injEq, and_true] at h
    rw [DKey.inj _ _ h.1, DKey.inj _ _ h.2]
  kd := max (DKey.kd α) (DKey.kd β) + 1
  kd_le p := by
    have h1 := DKey.kd_le p.1
    have h2 := DKey.kd_le p.2
    simp only [NestedKey.depth, NestedKey.depthAll]
    omega
theorem nkeys_t (l : List α) : nkey.nkeys (l.map toD) = some (l.map DKey.key) := by
  induction l with
  | nil => rfl
  | cons a l ih => simp only [List.map_cons, nkey.nkeys, DKey.nk, ih]
theorem key_map_inj : ∀ l m : List α, l.map DKey.key = m.map DKey.key → l = m
  | [], [], _ => rfl
  | [], _ :: _, h => by cases h
  | _ :: _, [], h => by cases h
  | a :: l, b :: m, h => by
    simp only [List.map_cons, List.cons.injEq] at h
    rw [DKey.inj _ _ h.1, key_map_inj l m h.2]
instance : DKey (Tup α) where
  key t := .tup (t.items.map DKey.key)
  nk t := by
    show nkey (.tuple (t.items.map toD)) = _
    simp only [nkey, nkeys_t]
    rfl
  inj t u h := by
    cases t; cases u
    simp only [NestedKey.tup.injEq] at h
    rw [key_map_inj _ _ h]
  kd := DKey.kd α + 1
  kd_le t := by
    simp only [NestedKey.depth]
    have : ∀ l : List α, NestedKey.depthAll (l.map DKey.key) ≤ DKey.kd α := by
      intro l
      induction l with
      | nil => simp [NestedKey.depthAll]
      | cons a l ih =>
        have := DKey.kd_le a
        simp only [List.map_cons, NestedKey.depthAll]
        omega
    have := this t.items
    omega
end
/-- keys of one kind, not too deep -/
class KeyK (α : Type) [DecidableEq α] [Datum α] [DKey α] : Prop where
  kind : (∀ a : α, isTupD (toD a) = true) ∨ ((∀ a : α, isLeafD (toD a) = true) ∧ ∀ a : α, isTupD (toD a) = false)
  dp : DKey.kd α ≤ 8
instance : KeyK Int := ⟨.inr ⟨fun _ => rfl, fun _ => rfl⟩, by decide⟩
instance : KeyK Str := ⟨.inr ⟨fun _ => rfl, fun _ => rfl⟩, by decide⟩
section
variable {α β : Type} [DecidableEq α] [Datum α] [DKey α] [DecidableEq β] [Datum β] [DKey β]
instance [h : Fact' (DKey.kd (α × β) ≤ 8)] : KeyK (α × β) := ⟨.inl fun _ => rfl, h.out⟩
instance [h : Fact' (DKey.kd (Tup α) ≤ 8)] : KeyK (Tup α) := ⟨.inl fun _ => rfl, h.out⟩
end
section
variable {α : Type} [DecidableEq α] [Datum α] [DKey α]
theorem nkey_dec (a b : α) : decide (nkey (toD a) = nkey (toD b)) = decide (a = b) := by
  rw [DKey.nk, DKey.nk]
  exact decide_eq_decide.mpr ⟨fun h => DKey.inj _ _ (Option.some.inj h), fun h => by rw [h]⟩
theorem keyEq_t (a b : α) (v : PyData) : keyEq (toD a) (toD b, v) = decide (b = a) := nkey_dec b a
variable [KeyK α]
theorem keyOk_t {γ : Type} (l : List γ) (k : γ → α) (v : γ → PyData) (x : α) : keyOk (l.map fun b => (toD (k b), v b)) (toD x) = true := by
  unfold keyOk
  have h1 := KeyK.dp (α := α)
  have h2 := DKey.kd_le x
  simp only [DKey.nk, decide_eq_true (Nat.le_trans h2 h1), Bool.true_and]
  rcases KeyK.kind (α := α) with h | ⟨h, g⟩
  · simp [h]
  · simp [h, g]
/-- each once, as first met -/
def once (acc : List α) : List α → List α
  | [] => acc
  | x :: r => if x ∈ acc then once acc r else once (acc ++ [x]) r
def dedT (l : List α) : List α := once [] l
theorem any_nkey (l : List α) (x : α) : ((l.map toD).any fun y => decide (nkey y = nkey (toD x))) = decide (x ∈ l) := by
  induction l with
  | nil => simp
  | cons a l ih =>
    rw [List.map_cons, List.any_cons, ih, nkey_dec, ← Bool.decide_or]
    exact decide_eq_decide.mpr (by rw [List.mem_cons]; exact or_congr ⟨Eq.symm, Eq.symm⟩ Iff.rfl)
theorem onceD_t (l : List α) : ∀ acc : List α, onceD (acc.map toD) (l.map toD) = (once acc l).map toD := by
  induction l with
  | nil => intro acc; rfl
  | cons x l ih =>
    intro acc
    rw [List.map_cons, onceD, any_nkey, once]
    by_cases h : x ∈ acc
    · rw [if_pos (decide_eq_true h), if_pos h, ih]
    · rw [if_neg (by simp [h]), if_neg h, ← ih]
      simp
theorem setOk_t (l : List α) : setOk (l.map toD) = true := by
  unfold setOk
  rw [Bool.or_eq_true]
  have h1 := KeyK.dp (α := α)
  rcases KeyK.kind (α := α) with h | ⟨h, g⟩
  · refine .inl ?_
    simp only [List.all_map, List.all_eq_true]
    intro a _
    simp only [Function.comp, h, DKey.nk, decide_eq_true (Nat.le_trans (DKey.kd_le a) h1), Bool.and_self]
  · exact .inr (by simp [h])
theorem lenSet_t (l : List α) (hl : l.length ≤ 1200) : lenSetD (.list (l.map toD)) = some (.int (dedT l).length) := by
  unfold lenSetD setMax
  simp only [setOk_t, List.length_map, decide_eq_true hl, Bool.and_self, if_true]
  rw [show ([] : List PyData) = ([] : List α).map toD from rfl, onceD_t, List.length_map]
  rfl
theorem mem_once (l : List α) : ∀ (acc : List α) (x : α), x ∈ once acc l ↔ x ∈ acc ∨ x ∈ l := by
  induction l with
  | nil => intro acc x; simp [once]
  | cons a l ih =>
    intro acc x
    rw [once]
    by_cases h : a ∈ acc
    · rw [if_pos h, ih, List.mem_cons]
      constructor
      · rintro (h1 | h1)
        · exact .inl h1
        · exact .inr (.inr h1)
      · rintro (h1 | rfl | h1)
        · exact .inl h1
        · exact .inl h
        · exact .inr h1
    · rw [if_neg h, ih, List.mem_cons, List.mem_append, List.mem_singleton, or_assoc]
@[simp] theorem mem_dedT {l : List α} {x : α} : x ∈ dedT l ↔ x ∈ l := by
  unfold dedT
  rw [mem_once]
  simp
theorem nodup_once (l : List α) : ∀ acc : List α, acc.Nodup → (once acc l).Nodup := by
  induction l with
  | nil => intro acc h; exact h
  | cons a l ih =>
    intro acc h
    rw [once]
    by_cases g : a ∈ acc
    · rw [if_pos g]; exact ih acc h
    · rw [if_neg g]
      refine ih _ ?_
      rw [List.nodup_append]
      refine ⟨h, by simp, fun x hx y hy e => ?_⟩
      rw [List.mem_singleton] at hy
      subst e
      subst hy
      exact g hx
theorem nodup_dedT (l : List α) : (dedT l).Nodup := nodup_once l [] List.nodup_nil
theorem once_of_nodup (l : List α) : ∀ acc : List α, (acc ++ l).Nodup → once acc l = acc ++ l := by
  induction l with
  | nil => intro acc h; simp [once]
  | cons a l ih =>
    intro acc h
    have ha : a ∉ acc := fun hm => (List.nodup_append.mp h).2.2 a hm a List.mem_cons_self rfl
    rw [once, if_neg ha, ih _ (by simpa using h)]
    simp
theorem dedT_of_nodup {l : List α} (h : l.Nodup) : dedT l = l := once_of_nodup l [] h
theorem length_once (l : List α) : ∀ acc : List α, (once acc l).length ≤ acc.length + l.length := by
  induction l with
  | nil => intro acc; exact Nat.le_refl _
  | cons a l ih =>
    intro acc
    rw [once]
    split
    · have := ih acc; simp only [List.length_cons]; omega
    · have := ih (acc ++ [a]); simp only [List.length_append, List.length_cons, List.length_nil] at this ⊢; omega
theorem length_dedT (l : List α) : (dedT l).length ≤ l.length := by have := length_once l []; simpa [dedT] using this
theorem dedT_perm {l m : List α} (h : ∀ x, x ∈ l ↔ x ∈ m) : (dedT l).Perm (dedT m) :=
  (List.perm_ext_iff_of_nodup (nodup_dedT l) (nodup_dedT m)).mpr fun x => by rw [mem_dedT, mem_dedT]; exact h x

/-! ### dicts -/
/-- a pair put in -/
def putT {β : Type} (kvs : List (α × β)) (k : α) (v : β) : List (α × β) := if k ∈ kvs.map Prod.fst then kvs.map fun p => if p.1 = k then (p.1, v) else p else kvs ++ [(k, v)]
def encD {β : Type} (ev : β → PyData) (kvs : List (α × β)) : PyData := .dict (kvs.map fun p => (toD p.1, ev p.2))
theorem any_keyEq {β : Type} (ev : β → PyData) (kvs : List (α × β)) (k : α) : ((kvs.map fun p => (toD p.1, ev p.2)).any (keyEq (toD k))) = decide (k ∈ kvs.map Prod.fst) := by
  induction kvs with
  | nil => simp
  | cons p r ih =>
    rw [List.map_cons, List.any_cons, ih, keyEq_t, ← Bool.decide_or]
    exact decide_eq_decide.mpr (by rw [List.map_cons, List.mem_cons]; exact or_congr ⟨Eq.symm, Eq.symm⟩ Iff.rfl)
theorem dputD_t {β : Type} (ev : β → PyData) (kvs : List (α × β)) (k : α) (v : β) : dputD (kvs.map fun p => (toD p.1, ev p.2)) (toD k) (ev v) = (putT kvs k v).map fun p => (toD p.1, ev p.2) := by
  unfold dputD putT
  rw [any_keyEq]
  by_cases h : k ∈ kvs.map Prod.fst
  · rw [if_pos (decide_eq_true h), if_pos h, List.map_map, List.map_map]
    refine List.map_congr_left fun p _ => ?_
    simp only [Function.comp, keyEq_t, decide_eq_true_eq]
    split <;> rfl
  · rw [if_neg (by simp only [decide_eq_true_eq]; exact h), if_neg h]
    simp
def putAllT {β : Type} (acc : List (α × β)) : List (α × β) → List (α × β)
  | [] => acc
  | p :: r => putAllT (putT acc p.1 p.2) r
theorem mergeD_t {β : Type} (ev : β → PyData) (l : List (α × β)) : ∀ acc : List (α × β), mergeD (acc.map fun p => (toD p.1, ev p.2)) (l.map fun p => .tuple [toD p.1, ev p.2]) = some ((putAllT acc l).map fun p => (toD p.1, ev p.2)) := by
  induction l with
  | nil => intro acc; rfl
  | cons p l ih =>
    intro acc
    rw [List.map_cons, mergeD, keyOk_t acc (fun p => p.1) (fun p => ev p.2), if_pos rfl, dputD_t, ih]
    rfl
theorem dic_list {β : Type} (ev : β → PyData) (l : List (α × β)) (hl : l.length ≤ sizeLine) : dicD (.list (l.map fun p => .tuple [toD p.1, ev p.2])) = some (encD ev (putAllT [] l)) := by
  unfold dicD fit
  simp only [List.length_map, decide_eq_true hl, if_true]
  have := mergeD_t ev l []
  rw [List.map_nil] at this
  rw [this]
  rfl
theorem putAllT_nodup {β : Type} (l : List (α × β)) : ∀ acc : List (α × β), ((acc ++ l).map Prod.fst).Nodup → putAllT acc l = acc ++ l := by
  induction l with
  | nil => intro acc _; simp [putAllT]
  | cons p l ih =>
    intro acc h
    have hk : p.1 ∉ acc.map Prod.fst := by
      rw [List.map_append, List.map_cons] at h
      exact fun hm => (List.nodup_append.mp h).2.2 _ hm _ List.mem_cons_self rfl
    rw [putAllT, putT, if_neg hk, ih _ (by simpa using h)]
    simp
theorem putAllT_keys {β : Type} (l : List (α × β)) : ∀ acc : List (α × β), (putAllT acc l).map Prod.fst = once (acc.map Prod.fst) (l.map Prod.fst) := by
  induction l with
  | nil => intro acc; rfl
  | cons p l ih =>
    intro acc
    rw [putAllT, ih, List.map_cons, once, putT]
    split
    · congr 1
      rw [List.map_map]
      refine List.map_congr_left fun q _ => ?_
      simp only [Function.comp]
      split <;> rfl
    · simp
/-- what stands at a key -/
def getT {β : Type} (kvs : List (α × β)) (k : α) : Option β := (kvs.find? fun p => decide (p.1 = k)).map Prod.snd
theorem dgetD_t {β : Type} (ev : β → PyData) (kvs : List (α × β)) (k : α) : dgetD (kvs.map fun p => (toD p.1, ev p.2)) (toD k) = (getT kvs k).map ev := by
  unfold dgetD getT
  induction kvs with
  | nil => rfl
  | cons p r ih =>
    rw [List.map_cons, List.find?_cons, List.find?_cons, keyEq_t]
    cases h : decide (p.1 = k) with
    | true => rfl
    | false => exact ih
theorem getT_mem {β : Type} {kvs : List (α × β)} (h : (kvs.map Prod.fst).Nodup) {p : α × β} (hp : p ∈ kvs) : getT kvs p.1 = some p.2 := by
  unfold getT
  induction kvs with
  | nil => cases hp
  | cons q r ih =>
    rw [List.find?_cons]
    rw [List.map_cons, List.nodup_cons] at h
    cases hp with
    | head => simp
    | tail _ hp =>
      have : ¬ q.1 = p.1 := fun e => h.1 (e ▸ List.mem_map_of_mem hp)
      simp only [this, decide_false]
      exact ih h.2 hp
theorem ix_dict {β : Type} (ev : β → PyData) (kvs : List (α × β)) (k : α) : ixD (encD ev kvs) (toD k) = (getT kvs k).map ev := by
  unfold encD ixD
  simp only [keyOk_t kvs (fun p => p.1) (fun p => ev p.2), if_true, dgetD_t]
theorem in_dict {β : Type} (ev : β → PyData) (kvs : List (α × β)) (k : α) : inB (toD k) (encD ev kvs) = some (decide (k ∈ kvs.map Prod.fst)) := by
  unfold encD inB
  simp only [keyOk_t kvs (fun p => p.1) (fun p => ev p.2), if_true, any_keyEq]
theorem set_dict {β : Type} (ev : β → PyData) (kvs : List (α × β)) (k : α) (v : β) (hl : kvs.length < sizeLine) : setIx (encD ev kvs) (toD k) (ev v) = some (encD ev (putT kvs k v)) := by
  unfold encD setIx
  simp only [keyOk_t kvs (fun p => p.1) (fun p => ev p.2), List.length_map, decide_eq_true hl, Bool.and_self, if_true, dputD_t]
end
section
variable {α : Type} [DecidableEq α] [DatumOrd α] [SortK α] [DKey α] [KeyK α]
theorem srtSet_t (l : List α) (hl : l.length ≤ 1200) : srtSetD (.list (l.map toD)) = some (.list ((sortT (dedT l)).map toD)) := by
  unfold srtSetD setMax
  simp only [setOk_t, List.length_map, decide_eq_true hl, allAlike_t, sortable_t, okDs_t SortK.dep, Bool.and_self, if_true]
  rw [show ([] : List PyData) = ([] : List α).map toD from rfl, onceD_t, sortD_map]
  rfl
theorem srt_enc {β : Type} (ev : β → PyData) (kvs : List (α × β)) (hl : kvs.length ≤ sizeLine) : srtD (encD ev kvs) = some (.list ((sortT (kvs.map Prod.fst)).map toD)) := srt_dict kvs (fun p => p.1) (fun p => ev p.2) hl
end
end RW.PL
namespace RW
open PySem
/-- the next draw -/
def nextP (dr : List Int) : List PyData → M PyData
  | [_, .int many], n => if 0 < many then some (.int (if n < dr.length then dr.getD n 0 % many else 0), n + 1) else none
  | _, _ => none
end RW
/-! Plain: calls, loops, what all laws share. -/
namespace RW.PL
open PySem PySem.W
theorem sz_eq : sizeLine = 16777216 := by decide
def outR : Out → M PyData
  | .rt d => ret d
  | .nx _ => ret .none
  | .bk _ => fun _ => none
@[simp] theorem outR_rt (d : PyData) : outR (.rt d) = ret d := id rfl
section
variable {prim : Nat → Option (List PyData → M PyData)} {T : Nat → Option Fn} {k j : Nat} {F : Fn} {ds : List PyData} {ρ : Sls} {d : PyData}
theorem run_fn (hp : prim j = none) (ht : T j = some F) : run prim T (k + 1) j ds = bnd (lift (enter F ds)) fun ρ => bnd (evTs (run prim T k) F.body ρ) outR := by
  simp only [run, hp, ht]
  rfl
theorem run_prim {g : List PyData → M PyData} (hp : prim j = some g) : run prim T (k + 1) j ds = g ds := by
  simp only [run, hp]
theorem fn_ret (hp : prim j = none) (ht : T j = some F) (he : enter F ds = some ρ) (h : evTs (run prim T k) F.body ρ = ret (.rt d)) : run prim T (k + 1) j ds = ret d := by
  rw [run_fn hp ht, he, lift_sm, bnd_ret, h, bnd_ret, outR_rt]
theorem fn_ev {n : Nat} {Q : PyData → Nat → Prop} (hp : prim j = none) (ht : T j = some F) (he : enter F ds = some ρ) (h : Ev (evTs (run prim T k) F.body ρ) n fun o n' => ∃ d, o = .rt d ∧ Q d n') : Ev (run prim T (k + 1) j ds) n Q := by
  rw [run_fn hp ht, he, lift_sm, bnd_ret]
  refine ev_bnd (h.mono ?_)
  rintro o n' ⟨d, rfl, q⟩
  exact ev_ret q
end
/-! ### ranges -/
def irng (a b : Int) : List Int := (List.range (b - a).toNat).map fun (k : Nat) => a + (k : Int)
theorem rng_t {a b : Int} (h1 : -1000000 ≤ a) (h2 : a ≤ 1000000) (h3 : -1000000 ≤ b) (h4 : b ≤ 100000000) : rangeD (.int a) (.int b) = some ((irng a b).map toD) := by
  have e : rgOk a b = true := by
    unfold rgOk
    simp only [Bool.and_eq_true, decide_eq_true_eq]
    omega
  simp only [rangeD, e, if_true]
  simp only [rngD, irng, List.map_map]
  rfl
theorem rng_n {n : Nat} (h : n ≤ 100000000) : rangeD (.int 0) (.int (n : Int)) = some ((List.range n).map fun (i : Nat) => toD (i : Int)) := by
  rw [rng_t (by omega) (by omega) (by omega) (by omega)]
  simp [irng]
theorem mem_ints {a b x : Int} : x ∈ irng a b ↔ a ≤ x ∧ x < b := by
  unfold irng
  rw [List.mem_map]
  constructor
  · rintro ⟨k, hk, rfl⟩
    rw [List.mem_range] at hk
    omega
  · intro h
    exact ⟨(x - a).toNat, by rw [List.mem_range]; omega, by omega⟩
theorem length_ints (a b : Int) : (irng a b).length = (b - a).toNat := by simp [irng]
/-! ### loops -/
theorem loopM_nil {f : PyData → Sls → M Out} {ρ : Sls} : loopM f [] ρ = ret (.nx ρ) := id rfl
def loopO (f : PyData → Sls → M Out) (xs : List PyData) : Out → M Out
  | .nx ρ' => loopM f xs ρ'
  | .bk ρ' => ret (.nx ρ')
  | .rt d => ret (.rt d)
theorem loopM_cons {f : PyData → Sls → M Out} {x : PyData} {xs : List PyData} {ρ : Sls} : loopM f (x :: xs) ρ = bnd (f x ρ) (loopO f xs) := id rfl
/-- a loop that draws nothing and ends by itself -/
theorem loop_pure {α σ : Type} {f : PyData → Sls → M Out} {enc : α → PyData} {st : σ → Sls → Prop} {g : σ → α → σ} : ∀ {l : List α}, (∀ a ∈ l, ∀ s ρ, st s ρ → ∃ ρ', f (enc a) ρ = ret (.nx ρ') ∧ st (g s a) ρ') →
    ∀ {s : σ} {ρ : Sls}, st s ρ → ∃ ρ', loopM f (l.map enc) ρ = ret (.nx ρ') ∧ st (l.foldl g s) ρ'
  | [], _, s, ρ, hs => ⟨ρ, rfl, hs⟩
  | a :: l, h, s, ρ, hs => by
    obtain ⟨ρ1, e1, h1⟩ := h a List.mem_cons_self s ρ hs
    obtain ⟨ρ2, e2, h2⟩ := loop_pure (l := l) (fun b hb => h b (List.mem_cons_of_mem _ hb)) h1
    refine ⟨ρ2, ?_, h2⟩
    rw [List.map_cons, loopM_cons, e1, bnd_ret]
    exact e2
/-- .. told by an invariant over how many turns are done -/
theorem loop_idx {α : Type} {f : PyData → Sls → M Out} {enc : α → PyData} {I : Nat → Sls → Prop} : ∀ {l : List α} {m : Nat}, (∀ (i : Nat) (hi : i < l.length) (ρ : Sls), I (m + i) ρ → ∃ ρ', f (enc l[i]) ρ = ret (.nx ρ') ∧ I (m + i + 1) ρ') →
    ∀ {ρ : Sls}, I m ρ → ∃ ρ', loopM f (l.map enc) ρ = ret (.nx ρ') ∧ I (m + l.length) ρ'
  | [], m, _, ρ, hs => ⟨ρ, rfl, hs⟩
  | a :: l, m, h, ρ, hs => by
    obtain ⟨ρ1, e1, h1⟩ := h 0 (by simp) ρ hs
    obtain ⟨ρ2, e2, h2⟩ := loop_idx (l := l) (m := m + 1) (fun i hi ρ hI => by
      obtain ⟨ρ', e, h'⟩ := h (i + 1) (by simpa using hi) ρ (by rw [show m + (i + 1) = m + 1 + i by omega]; exact hI)
      exact ⟨ρ', by simpa using e, by rw [show m + 1 + i + 1 = m + (i + 1) + 1 by omega]; exact h'⟩) h1
    refine ⟨ρ2, ?_, by rw [List.length_cons, show m + (l.length + 1) = m + 1 + l.length by omega]; exact h2⟩
    rw [List.map_cons, loopM_cons]
    have e1' : f (enc a) ρ = ret (.nx ρ1) := e1
    rw [e1', bnd_ret]
    exact e2
/-- .. that may give back a value at the first that passes -/
theorem loop_find {α : Type} {f : PyData → Sls → M Out} {enc : α → PyData} {st : Sls → Prop} {p : α → Bool} {r : α → PyData} : ∀ {l : List α}, (∀ a ∈ l, ∀ ρ, st ρ → if p a = true then f (enc a) ρ = ret (.rt (r a)) else ∃ ρ', f (enc a) ρ = ret (.nx ρ') ∧ st ρ') →
    ∀ {ρ : Sls}, st ρ → (∃ a, l.find? p = some a ∧ loopM f (l.map enc) ρ = ret (.rt (r a))) ∨ (l.find? p = none ∧ ∃ ρ', loopM f (l.map enc) ρ = ret (.nx ρ') ∧ st ρ')
  | [], _, ρ, hs => .inr ⟨rfl, ρ, rfl, hs⟩
  | a :: l, h, ρ, hs => by
    have h1 := h a List.mem_cons_self ρ hs
    rw [List.find?_cons]
    cases hp : p a with
    | true =>
      rw [if_pos hp] at h1
      exact .inl ⟨a, rfl, by rw [List.map_cons, loopM_cons, h1, bnd_ret]; rfl⟩
    | false =>
      rw [hp, if_neg Bool.false_ne_true] at h1
      obtain ⟨ρ1, e1, h1⟩ := h1
      rcases loop_find (l := l) (fun b hb => h b (List.mem_cons_of_mem _ hb)) h1 with ⟨b, e2, e3⟩ | ⟨e2, ρ2, e3, e4⟩
      · exact .inl ⟨b, e2, by rw [List.map_cons, loopM_cons, e1, bnd_ret]; exact e3⟩
      · exact .inr ⟨e2, ρ2, by rw [List.map_cons, loopM_cons, e1, bnd_ret]; exact e3, e4⟩
/-- a loop that draws: told by an invariant -/
theorem loop_ev {α : Type} {f : PyData → Sls → M Out} {enc : α → PyData} {I : List α → Sls → Nat → Prop} : ∀ {l pre : List α}, (∀ p a q, pre ++ l = p ++ a :: q → ∀ ρ n, I p ρ n → Ev (f (enc a) ρ) n fun o n' => ∃ ρ', o = .nx ρ' ∧ I (p ++ [a]) ρ' n') →
    ∀ {ρ : Sls} {n : Nat}, I pre ρ n → Ev (loopM f (l.map enc) ρ) n fun o n' => ∃ ρ', o = .nx ρ' ∧ I (pre ++ l) ρ' n'
  | [], pre, _, ρ, n, h => ev_ret ⟨ρ, rfl, by rw [List.append_nil]; exact h⟩
  | a :: l, pre, hs, ρ, n, h => by
    rw [List.map_cons, loopM_cons]
    refine ev_bnd ((hs pre a l rfl ρ n h).mono ?_)
    rintro o n' ⟨ρ', rfl, h'⟩
    have := loop_ev (l := l) (pre := pre ++ [a]) (fun p b q e => hs p b q (by rw [← e]; simp)) h'
    rw [show pre ++ a :: l = pre ++ [a] ++ l by simp]
    exact this
/-- item by item -/
inductive F2 {α β : Type} (P : α → β → Prop) : List α → List β → Prop
  | nil : F2 P [] []
  | cons {a : α} {b : β} {as : List α} {bs : List β} : P a b → F2 P as bs → F2 P (a :: as) (b :: bs)
theorem F2.length_eq {α β : Type} {P : α → β → Prop} {as : List α} {bs : List β} (h : F2 P as bs) : as.length = bs.length := by
  induction h with
  | nil => rfl
  | cons _ _ ih => simp [ih]
theorem F2.mem {α β : Type} {P : α → β → Prop} {as : List α} {bs : List β} (h : F2 P as bs) : ∀ b ∈ bs, ∃ a ∈ as, P a b := by
  induction h with
  | nil => intro b hb; cases hb
  | cons h1 _ ih =>
    intro b hb
    cases hb with
    | head => exact ⟨_, List.mem_cons_self, h1⟩
    | tail _ hb =>
      obtain ⟨a, ha, hp⟩ := ih b hb
      exact ⟨a, List.mem_cons_of_mem _ ha, hp⟩
/-- a comprehension that draws -/
theorem comp_ev {α β : Type} {f : PyData → M (List PyData)} {enc : α → PyData} {enc2 : β → PyData} {P : α → β → Prop} : ∀ {l : List α}, (∀ a ∈ l, ∀ n, Ev (f (enc a)) n fun ys _ => ∃ b, ys = [enc2 b] ∧ P a b) →
    ∀ {n : Nat}, Ev (compM f (l.map enc)) n fun ys _ => ∃ bs : List β, ys = bs.map enc2 ∧ F2 P l bs
  | [], _, n => ev_ret ⟨[], rfl, .nil⟩
  | a :: l, h, n => by
    rw [List.map_cons, compM_cons]
    refine ev_bnd ((h a List.mem_cons_self n).mono ?_)
    rintro ys n' ⟨b, rfl, hb⟩
    refine ev_bnd ((comp_ev (l := l) (fun c hc => h c (List.mem_cons_of_mem _ hc))).mono ?_)
    rintro zs n2 ⟨bs, rfl, hbs⟩
    exact ev_ret ⟨b :: bs, rfl, .cons hb hbs⟩
theorem fitL_t (xs : List PyData) (h : xs.length ≤ sizeLine) : fitL xs = some (.list xs) := by
  unfold fitL fit
  rw [if_pos (decide_eq_true h)]
theorem cp_ev {α β : Type} {C : Orc} {ρ : Sls} {enc : α → PyData} {enc2 : β → PyData} {P : α → β → Prop} {l : List α} {own : List Nat} {t : Tg} {s : Sr} {e : Ex} {n : Nat} {Q : PyData → Nat → Prop} (hs : evS C s ρ = ret (l.map enc)) (hf : l.length ≤ sizeLine)
    (h : ∀ a ∈ l, ∀ n, ∃ ρ', asgT t (enc a) (wipeS ρ own) = some ρ' ∧ Ev (evE C e ρ') n fun y _ => ∃ b, y = enc2 b ∧ P a b) (hq : ∀ bs n', F2 P l bs → Q (.list (bs.map enc2)) n') : Ev (evE C (.cp own t s none e) ρ) n Q := by
  rw [eE_cp, hs, bnd_ret]
  refine ev_bnd ((comp_ev (P := P) (enc2 := enc2) fun a ha m => ?_).mono ?_)
  · obtain ⟨ρ', e1, e2⟩ := h a ha m
    unfold turnM
    rw [e1, lift_sm, bnd_ret, eQ_none, bnd_ret, if_pos rfl]
    refine ev_bnd (e2.mono ?_)
    rintro y n' ⟨b, rfl, hb⟩
    exact ev_ret ⟨b, rfl, hb⟩
  · rintro ys n' ⟨bs, rfl, hb⟩
    rw [fitL_t _ (by rw [List.length_map, ← hb.length_eq]; exact hf), lift_sm]
    exact ev_ret (hq bs n' hb)
/-! ### draws -/
section
variable {prim : Nat → Option (List PyData → M PyData)} {T : Nat → Option Fn} {k j : Nat} {dr : List Int}
theorem next_ev {d : PyData} {m : Int} {n : Nat} {Q : PyData → Nat → Prop} (hp : prim j = some (nextP dr)) (hm : 0 < m) (h : ∀ i n', 0 ≤ i → i < m → Q (.int i) n') : Ev (run prim T (k + 1) j [d, .int m]) n Q := by
  rw [run_prim hp]
  refine ⟨_, n + 1, by rw [nextP, if_pos hm], h _ _ ?_ ?_⟩
  · split
    · exact Int.emod_nonneg _ (by omega)
    · omega
  · split
    · exact Int.emod_lt_of_pos _ hm
    · exact hm
def bPick (jn : Nat) : List Ss := [.ret (.o2 .ix (.v 1) (.call jn [.w 0, .o1 .len (.v 1)]))]
theorem ixAt_n {n : Nat} {i : Int} (h0 : 0 ≤ i) (h : i < n) : ixAt n i = some i.toNat := by
  unfold ixAt
  rw [if_pos h0, if_pos h]
theorem pick_ev {jn : Nat} {l : List PyData} {d : PyData} {n : Nat} {Q : PyData → Nat → Prop} (hp : prim jn = some (nextP dr)) (hj : prim j = none) (ht : T j = some ⟨[.w, .p], 2, bPick jn⟩) (hl : l ≠ []) (h : ∀ x n', x ∈ l → Q x n') :
    Ev (run prim T (k + 2) j [d, .list l]) n Q := by
  refine fn_ev (ρ := [.wr, .pu (.list l)]) hj ht rfl ?_
  show Ev (evTs _ (bPick jn) _) n _
  have hpos : 0 < l.length := List.length_pos_iff.mpr hl
  rw [bPick, eTs_cons, eT_ret]
  simp only [eE_o2, eE_v, eE_call, eEs_cons, eEs_nil, eE_w, eE_o1, slGet, slW, List.getElem?_cons_zero, List.getElem?_cons_succ, lift_sm, bnd_ret, u1, lenD, bnd_assoc]
  refine ev_bnd (next_ev hp (by omega) fun i n' h0 h1 => ?_)
  have e : ixAt l.length i = some i.toNat := ixAt_n h0 h1
  have hi : i.toNat < l.length := by omega
  simp only [u2, ixD, e, Option.bind_some, List.getElem?_eq_getElem hi, lift_sm, bnd_ret, thenM_rt]
  exact ev_ret ⟨_, rfl, h _ n' (List.getElem_mem hi)⟩
end
end RW.PL
/-! Plain: _law_alike. -/
namespace RW.PL
open PySem PySem.W
def bAlike (j : Nat) : List Ss := [.ife (.o1 (.isa .dict) (.v 1)) [.ret (.an (.o1 (.isa .dict) (.v 0)) (.an (.o2 .eq (.o1 .sorted (.v 0)) (.o1 .sorted (.v 1))) (.o2 .eq (.cp [3] (.nm 3) (.ex (.v 1)) (some (.nt (.call j [.o2 .ix (.v 0) (.v 3), .o2 .ix (.v 1) (.v 3)]))) (.v 3)) (.lst []))))] [], .ife (.or (.o1 (.isa .tup) (.v 1)) (.o1 (.isa .lst) (.v 1))) [.asg false (.nm 2) (.ite (.o1 (.isa .tup) (.v 1)) (.o1 (.isa .tup) (.v 0)) (.o1 (.isa .lst) (.v 0))), .ret (.an (.v 2) (.an (.o2 .eq (.o1 .len (.v 0)) (.o1 .len (.v 1))) (.o2 .eq (.cp [4] (.nm 4) (.rg1 (.o1 .len (.v 1))) (some (.nt (.call j [.o2 .ix (.v 0) (.v 4), .o2 .ix (.v 1) (.v 4)]))) (.v 4)) (.lst []))))] [], .ife (.or (.o1 .isN (.v 1)) (.o1 (.isa .str) (.v 1))) [.ret (.ite (.o1 .isN (.v 1)) (.o1 .isN (.v 0)) (.an (.o1 (.isa .str) (.v 0)) (.o2 .eq (.v 0) (.v 1))))] [], .ret (.an (.o1 (.isa .int) (.v 0)) (.an (.o2 .eq (.o1 (.isa .bool) (.v 0)) (.o1 (.isa .bool) (.v 1))) (.o2 .eq (.v 0) (.v 1))))]
/-- a datum that is like itself, so deep -/
def Alk : Nat → PyData → Prop
  | 0, _ => False
  | k + 1, .list xs => xs.length ≤ sizeLine ∧ ∀ x ∈ xs, Alk k x
  | k + 1, .tuple xs => xs.length ≤ sizeLine ∧ ∀ x ∈ xs, Alk k x
  | k + 1, .dict kvs => kvs.length ≤ sizeLine ∧ (∃ l, srtD (.dict kvs) = some l ∧ okD l = true ∧ PyData.eqv l l = true) ∧ ∀ p ∈ kvs, ixD (.dict kvs) p.1 = some p.2 ∧ Alk k p.2
  | _ + 1, _ => True
theorem eqD_ints (a b : Int) : eqD (.int a) (.int b) = some (.bool (decide (a = b))) := eqD_t (α := Int) (by decide) a b
theorem eqD_bools (a b : Bool) : eqD (.bool a) (.bool b) = some (.bool (decide (a = b))) := eqD_t (α := Bool) (by decide) a b
theorem eqD_strs (a b : Str) : eqD (.str a) (.str b) = some (.bool (decide (a = b))) := eqD_t (α := Str) (by decide) a b
theorem eqD_nil : eqD (.list []) (.list []) = some (.bool true) := eqD_t (α := List Int) (by decide) [] []
theorem alike_ok {prim : Nat → Option (List PyData → M PyData)} {T : Nat → Option Fn} {j : Nat} (hp : prim j = none) (ht : T j = some ⟨[.p, .p], 5, bAlike j⟩) : ∀ (k : Nat) (d : PyData), Alk k d → run prim T k j [d, d] = ret (.bool true)
  | 0, _, h => h.elim
  | k + 1, d, h => by
    have ih := alike_ok hp ht k
    refine fn_ret (ρ := [.pu d, .pu d, .no, .no, .no]) hp ht rfl ?_
    show evTs _ (bAlike j) _ = _
    have seq : ∀ (xs : List PyData) (d : PyData) (q : Sl), (∀ x ∈ xs, Alk k x) → (∀ i : Nat, ixD d (.int (i : Int)) = xs[i]?) → (lenD d = some (.int xs.length)) → xs.length ≤ sizeLine →
        evE (run prim T k) (.cp [4] (.nm 4) (.rg1 (.o1 .len (.v 1))) (some (.nt (.call j [.o2 .ix (.v 0) (.v 4), .o2 .ix (.v 1) (.v 4)]))) (.v 4)) [.pu d, .pu d, q, .no, .no] = ret (.list []) := fun xs d q ha hi hl hs => by
      rw [sz_eq] at hs
      rw [cp_pure (l := List.range xs.length) (enc := fun (i : Nat) => toD (i : Int)) (p := fun _ => false) (g := fun _ => .none)]
      · simp
      · simp [slGet, u1, hl, rng_n (show xs.length ≤ 100000000 by omega)]
      · rw [List.length_range, sz_eq]; exact hs
      · intro i hi'
        rw [List.mem_range] at hi'
        refine ⟨[.pu d, .pu d, q, .no, .pu (toD (i : Int))], rfl, ?_, fun h => by cases h⟩
        have e : ixD d (toD (i : Int)) = some xs[i] := by rw [show (toD (i : Int)) = PyData.int (i : Int) from rfl, hi, List.getElem?_eq_getElem hi']
        simp [slGet, u2, e, ih _ (ha _ (List.getElem_mem hi'))]
    cases d with
    | none => simp [bAlike, eTs_cons, eT_ife, eT_ret, slGet, u1, isaD, isNone, PyData.isDict, PyData.isTuple, PyData.isList, PyData.isStr]
    | bool b => simp [bAlike, eTs_cons, eT_ife, eT_ret, slGet, u1, u2, isaD, isNone, PyData.isDict, PyData.isTuple, PyData.isList, PyData.isStr, PyData.isInt, PyData.isBool, eqD_bools]
    | int b => simp [bAlike, eTs_cons, eT_ife, eT_ret, slGet, u1, u2, isaD, isNone, PyData.isDict, PyData.isTuple, PyData.isList, PyData.isStr, PyData.isInt, PyData.isBool, eqD_bools, eqD_ints]
    | str b => simp [bAlike, eTs_cons, eT_ife, eT_ret, slGet, u1, u2, isaD, isNone, PyData.isDict, PyData.isTuple, PyData.isList, PyData.isStr, PyData.isInt, PyData.isBool, eqD_strs]
    | list xs =>
      obtain ⟨hs, ha⟩ := h
      have e := seq xs (.list xs) (.pu (.bool true)) ha (fun i => by
        show (ixAt xs.length (i : Int)).bind (fun j => xs[j]?) = _
        by_cases c : i < xs.length
        · rw [ixAt_n (by omega) (by omega)]; rfl
        · rw [List.getElem?_eq_none (by omega)]
          unfold ixAt
          rw [if_pos (by omega), if_neg (by omega)]
          rfl) rfl hs
      simp [bAlike, eTs_cons, eT_ife, eT_ret, eT_asg, outSet, stor, slGet, u1, u2, isaD, isNone, PyData.isDict, PyData.isTuple, PyData.isList, PyData.isStr, PyData.isInt, PyData.isBool, lenD, eqD_ints, e, eqD_nil]
    | tuple xs =>
      obtain ⟨hs, ha⟩ := h
      have e := seq xs (.tuple xs) (.pu (.bool true)) ha (fun i => by
        show (ixAt xs.length (i : Int)).bind (fun j => xs[j]?) = _
        by_cases c : i < xs.length
        · rw [ixAt_n (by omega) (by omega)]; rfl
        · rw [List.getElem?_eq_none (by omega)]
          unfold ixAt
          rw [if_pos (by omega), if_neg (by omega)]
          rfl) rfl hs
      simp [bAlike, eTs_cons, eT_ife, eT_ret, eT_asg, outSet, stor, slGet, u1, u2, isaD, isNone, PyData.isDict, PyData.isTuple, PyData.isList, PyData.isStr, PyData.isInt, PyData.isBool, lenD, eqD_ints, e, eqD_nil]
    | dict kvs =>
      obtain ⟨hs, ⟨l, e1, e2, e3⟩, ha⟩ := h
      have e : evE (run prim T k) (.cp [3] (.nm 3) (.ex (.v 1)) (some (.nt (.call j [.o2 .ix (.v 0) (.v 3), .o2 .ix (.v 1) (.v 3)]))) (.v 3)) [.pu (.dict kvs), .pu (.dict kvs), .no, .no, .no] = ret (.list []) := by
        rw [cp_pure (l := kvs) (enc := Prod.fst) (p := fun _ => false) (g := fun _ => .none)]
        · simp
        · simp [slGet, itemsOf]
        · exact hs
        · intro p hp
          obtain ⟨h1, h2⟩ := ha p hp
          refine ⟨[.pu (.dict kvs), .pu (.dict kvs), .no, .pu p.1, .no], rfl, ?_, fun h => by cases h⟩
          simp [slGet, u2, h1, ih _ h2]
      have e4 : eqD l l = some (.bool true) := by unfold eqD; rw [e2, e3]; rfl
      simp [bAlike, eTs_cons, eT_ife, eT_ret, slGet, u1, u2, isaD, PyData.isDict, e1, e4, e, eqD_nil]
theorem alk_imm {k : Nat} {d : PyData} (h1 : ∀ xs, d ≠ .list xs) (h2 : ∀ xs, d ≠ .tuple xs) (h3 : ∀ xs, d ≠ .dict xs) : Alk (k + 1) d := by
  cases d <;> first | trivial | (exact absurd rfl (h1 _)) | (exact absurd rfl (h2 _)) | (exact absurd rfl (h3 _))
@[simp] theorem alk_int {k : Nat} {i : Int} : Alk (k + 1) (.int i) := trivial
@[simp] theorem alk_str {k : Nat} {i : Str} : Alk (k + 1) (.str i) := trivial
@[simp] theorem alk_bool {k : Nat} {i : Bool} : Alk (k + 1) (.bool i) := trivial
@[simp] theorem alk_none {k : Nat} : Alk (k + 1) .none := trivial
theorem alk_tup {k : Nat} {xs : List PyData} (h : xs.length ≤ sizeLine) (g : ∀ x ∈ xs, Alk k x) : Alk (k + 1) (.tuple xs) := ⟨h, g⟩
theorem alk_lst {k : Nat} {xs : List PyData} (h : xs.length ≤ sizeLine) (g : ∀ x ∈ xs, Alk k x) : Alk (k + 1) (.list xs) := ⟨h, g⟩
theorem alk_tmap {α : Type} [DecidableEq α] [Datum α] {k : Nat} {l : List α} (h : l.length ≤ sizeLine) (g : ∀ x ∈ l, Alk k (toD x)) : Alk (k + 1) (.tuple (l.map toD)) :=
  ⟨by rw [List.length_map]; exact h, fun x hx => by obtain ⟨a, ha, rfl⟩ := List.mem_map.mp hx; exact g a ha⟩
theorem alk_enc {α β : Type} [DecidableEq α] [DatumOrd α] [SortK α] [DKey α] [KeyK α] (ev : β → PyData) {k : Nat} {kvs : List (α × β)} (h : kvs.length ≤ sizeLine) (hn : (kvs.map Prod.fst).Nodup) (hd : Datum.depth α < 60) (g : ∀ p ∈ kvs, Alk k (ev p.2)) : Alk (k + 1) (encD ev kvs) := by
  refine ⟨by rw [List.length_map]; exact h, ⟨_, srt_enc ev kvs h, ?_, ?_⟩, fun p hp => ?_⟩
  · exact okD_t (α := List α) (show Datum.depth α + 1 ≤ 60 by omega) _
  · have := Datum.eqv (sortT (kvs.map Prod.fst)) (sortT (kvs.map Prod.fst))
    rw [decide_eq_true rfl] at this
    exact this
  · obtain ⟨q, hq, rfl⟩ := List.mem_map.mp hp
    refine ⟨?_, g q hq⟩
    show ixD (encD ev kvs) (toD q.1) = _
    rw [ix_dict, getT_mem hn hq]
    rfl
end RW.PL
/-! Plain: whole numbers; _law_draws. -/
namespace RW.PL
open PySem PySem.W
@[simp] theorem u_add (a b : Int) : u2 .add (.int a) (.int b) = some (.int (a + b)) := id rfl
@[simp] theorem u_sub (a b : Int) : u2 .sub (.int a) (.int b) = some (.int (a - b)) := id rfl
theorem u_mul {a b : Int} (h : small64 a = true ∨ small64 b = true) : u2 .mul (.int a) (.int b) = some (.int (a * b)) := by
  show mulD (.int a) (.int b) = _
  have e : (small64 a || small64 b) = true := by rw [Bool.or_eq_true]; exact h
  unfold mulD
  simp only [e, if_true]
theorem u_fdiv {a b : Int} (h : divOk b = true) : u2 .fdiv (.int a) (.int b) = some (.int (a.fdiv b)) := by
  show fdivD (.int a) (.int b) = _
  unfold fdivD
  simp only [h, if_true]
theorem u_mod {a b : Int} (h : divOk b = true) : u2 .mod (.int a) (.int b) = some (.int (a.fmod b)) := by
  show modD (.int a) (.int b) = _
  unfold modD
  simp only [h, if_true]
@[simp] theorem u_eqi (a b : Int) : u2 .eq (.int a) (.int b) = some (.bool (decide (a = b))) := eqD_ints a b
@[simp] theorem u_eqs (a b : Str) : u2 .eq (.str a) (.str b) = some (.bool (decide (a = b))) := eqD_strs a b
@[simp] theorem u_nei (a b : Int) : u2 .ne (.int a) (.int b) = some (.bool (!decide (a = b))) := neD_t (α := Int) (by decide) a b
@[simp] theorem u_nes (a b : Str) : u2 .ne (.str a) (.str b) = some (.bool (!decide (a = b))) := neD_t (α := Str) (by decide) a b
theorem cmpOk_i (a b : Int) : cmpOk (.int a) (.int b) = true := by
  have h1 : okD (.int a) = true := okD_t (α := Int) (by decide) a
  have h2 : okD (.int b) = true := okD_t (α := Int) (by decide) b
  unfold cmpOk
  rw [h1, h2]
  simp [alike, isNone]
@[simp] theorem u_lt (a b : Int) : u2 .lt (.int a) (.int b) = some (.bool (decide (a < b))) := by
  show ltD _ _ = _
  unfold ltD
  rw [cmpOk_i, if_pos rfl, dataLt_int]
@[simp] theorem u_le (a b : Int) : u2 .le (.int a) (.int b) = some (.bool (decide (a ≤ b))) := by
  show leD _ _ = _
  unfold leD
  rw [cmpOk_i, if_pos rfl, dataLt_int, not_lt_int]
@[simp] theorem u_gt (a b : Int) : u2 .gt (.int a) (.int b) = some (.bool (decide (b < a))) := by
  show gtD _ _ = _
  unfold gtD
  rw [cmpOk_i, if_pos rfl, dataLt_int]
@[simp] theorem u_ge (a b : Int) : u2 .ge (.int a) (.int b) = some (.bool (decide (b ≤ a))) := by
  show geD _ _ = _
  unfold geD
  rw [cmpOk_i, if_pos rfl, dataLt_int, not_lt_int]
@[simp] theorem u_min (a b : Int) : u2 .min (.int a) (.int b) = some (.int (if b < a then b else a)) := id rfl
@[simp] theorem u_max (a b : Int) : u2 .max (.int a) (.int b) = some (.int (if b > a then b else a)) := id rfl
@[simp] theorem u_abs (a : Int) : u1 .abs (.int a) = some (.int (if a < 0 then -a else a)) := id rfl
@[simp] theorem u_neg (a : Int) : u1 .neg (.int a) = some (.int (-a)) := id rfl
@[simp] theorem u_int (a : Int) : u1 .int (.int a) = some (.int a) := id rfl
@[simp] theorem u_tupl (xs : List PyData) : u1 .tup (.list xs) = some (.tuple xs) := id rfl
@[simp] theorem u_tupt (xs : List PyData) : u1 .tup (.tuple xs) = some (.tuple xs) := id rfl
@[simp] theorem u_lenl (xs : List PyData) : u1 .len (.list xs) = some (.int xs.length) := id rfl
@[simp] theorem u_lent (xs : List PyData) : u1 .len (.tuple xs) = some (.int xs.length) := id rfl
@[simp] theorem u_lend (xs : List (PyData × PyData)) : u1 .len (.dict xs) = some (.int xs.length) := id rfl
theorem u_ixl {xs : List PyData} {i : Nat} (h : i < xs.length) : u2 .ix (.list xs) (.int (i : Int)) = some xs[i] := by
  show (ixAt xs.length (i : Int)).bind (fun j => xs[j]?) = _
  rw [ixAt_n (by omega) (by omega)]
  exact List.getElem?_eq_getElem h
theorem u_ixt {xs : List PyData} {i : Nat} (h : i < xs.length) : u2 .ix (.tuple xs) (.int (i : Int)) = some xs[i] := by
  show (ixAt xs.length (i : Int)).bind (fun j => xs[j]?) = _
  rw [ixAt_n (by omega) (by omega)]
  exact List.getElem?_eq_getElem h
theorem u_addl {xs ys : List PyData} (h : xs.length + ys.length ≤ sizeLine) : u2 .add (.list xs) (.list ys) = some (.list (xs ++ ys)) := by
  show addD (.list xs) (.list ys) = _
  unfold addD fit
  simp only [decide_eq_true h, if_true]
theorem u_addt {xs ys : List PyData} (h : xs.length + ys.length ≤ sizeLine) : u2 .add (.tuple xs) (.tuple ys) = some (.tuple (xs ++ ys)) := by
  show addD (.tuple xs) (.tuple ys) = _
  unfold addD fit
  simp only [decide_eq_true h, if_true]
theorem app_l {xs : List PyData} {x : PyData} (h : xs.length < sizeLine) : appD (.list xs) x = some (.list (xs ++ [x])) := by
  unfold appD
  simp only [decide_eq_true h, if_true]
theorem ext_l {xs ys : List PyData} (h : xs.length + ys.length ≤ sizeLine) : extD (.list xs) (.list ys) = some (.list (xs ++ ys)) := by
  unfold extD fit
  simp only [decide_eq_true h, if_true]
@[simp] theorem stor_f (d : PyData) : stor false d = .pu d := id rfl
@[simp] theorem stor_tl (xs : List PyData) : stor true (.list xs) = .ow (.list xs) := id rfl
@[simp] theorem stor_td (xs : List (PyData × PyData)) : stor true (.dict xs) = .ow (.dict xs) := id rfl

def bDraws : List Ss := [.par [(3, true), (4, false)] [.lst [], .c (.int 7)], .for (.nm 2) (.rg1 (.o1 .len (.v 0))) [.asg false (.nm 5) (.o1 .abs (.o1 .int (.o2 .ix (.v 0) (.v 2)))), .asg false (.nm 4) (.o2 .mod (.o1 .int (.o2 .add (.o2 .add (.o2 .mul (.v 4) (.c (.int 48271))) (.o2 .mod (.v 5) (.c (.int 1000003)))) (.v 2))) (.c (.int 65537))), .asg false (.nm 6) (.ite (.o2 .ge (.v 5) (.o2 .pow (.c (.int 10)) (.c (.int 18)))) (.v 5) (.c (.int 0))), .asg true (.nm 3) (.o2 .add (.b 3) (.ite (.o2 .eq (.v 6) (.c (.int 0))) (.lst [.o2 .mod (.o1 .int (.v 5)) (.c (.int 997)), .o2 .mod (.o2 .mod (.o1 .int (.o2 .add (.o2 .mul (.v 4) (.c (.int 69621))) (.c (.int 5)))) (.c (.int 65521))) (.c (.int 997))]) (.lst []))), .for (.nm 7) (.rg1 (.c (.int 60))) [.ife (.o2 .gt (.v 6) (.c (.int 0))) [.app 3 (.o2 .mod (.o1 .int (.v 6)) (.c (.int 997))), .asg false (.nm 6) (.o2 .fdiv (.v 6) (.c (.int 997)))] []]], .for (.nm 2) (.rg1 (.v 1)) [.asg false (.nm 4) (.o2 .mod (.o1 .int (.o2 .add (.o2 .add (.o2 .mul (.v 4) (.c (.int 16807))) (.v 2)) (.c (.int 1)))) (.c (.int 65537))), .app 3 (.o2 .mod (.o1 .int (.v 4)) (.c (.int 997)))], .ret (.sl (.b 3) none (some (.v 1)))]
theorem sm1 : small64 48271 = true := by decide
theorem sm2 : small64 69621 = true := by decide
theorem sm3 : small64 16807 = true := by decide
theorem dv1 : divOk 1000003 = true := by decide
theorem dv2 : divOk 65537 = true := by decide
theorem dv3 : divOk 997 = true := by decide
theorem dv4 : divOk 65521 = true := by decide
theorem pw1 : u2 .pow (.int 10) (.int 18) = some (.int (10 ^ 18)) := by simp [u2, powD]
/-- the inner turns: a number taken apart -/
def bTake : List Ss := [.ife (.o2 .gt (.v 6) (.c (.int 0))) [.app 3 (.o2 .mod (.o1 .int (.v 6)) (.c (.int 997))), .asg false (.nm 6) (.o2 .fdiv (.v 6) (.c (.int 997)))] []]
def bCell : List Ss := [.asg false (.nm 5) (.o1 .abs (.o1 .int (.o2 .ix (.v 0) (.v 2)))), .asg false (.nm 4) (.o2 .mod (.o1 .int (.o2 .add (.o2 .add (.o2 .mul (.v 4) (.c (.int 48271))) (.o2 .mod (.v 5) (.c (.int 1000003)))) (.v 2))) (.c (.int 65537))), .asg false (.nm 6) (.ite (.o2 .ge (.v 5) (.o2 .pow (.c (.int 10)) (.c (.int 18)))) (.v 5) (.c (.int 0))), .asg true (.nm 3) (.o2 .add (.b 3) (.ite (.o2 .eq (.v 6) (.c (.int 0))) (.lst [.o2 .mod (.o1 .int (.v 5)) (.c (.int 997)), .o2 .mod (.o2 .mod (.o1 .int (.o2 .add (.o2 .mul (.v 4) (.c (.int 69621))) (.c (.int 5)))) (.c (.int 65521))) (.c (.int 997))]) (.lst []))), .for (.nm 7) (.rg1 (.c (.int 60))) bTake]
def bMore : List Ss := [.asg false (.nm 4) (.o2 .mod (.o1 .int (.o2 .add (.o2 .add (.o2 .mul (.v 4) (.c (.int 16807))) (.v 2)) (.c (.int 1)))) (.c (.int 65537))), .app 3 (.o2 .mod (.o1 .int (.v 4)) (.c (.int 997)))]
theorem bDraws_eq : bDraws = [.par [(3, true), (4, false)] [.lst [], .c (.int 7)], .for (.nm 2) (.rg1 (.o1 .len (.v 0))) bCell, .for (.nm 2) (.rg1 (.v 1)) bMore, .ret (.sl (.b 3) none (some (.v 1)))] := rfl
theorem take_ok (C : Orc) {d0 d1 : PyData} {x2 : Sl} {m c : Int} {ds : List Int} {r : Int} {x7 : Sl} (hl : ds.length ≤ 1000000) : ∃ ρ', loopM (bodyM C (.nm 7) bTake) ((List.range 60).map fun (i : Nat) => toD (i : Int)) [.pu d0, .pu d1, x2, .ow (.list (ds.map PyData.int)), .pu (.int m), .pu (.int c), .pu (.int r), x7] = ret (.nx ρ') ∧
    ∃ (es : List Int) (r : Int) (x7 : Sl), es.length ≤ ds.length + 60 ∧ ρ' = [.pu d0, .pu d1, x2, .ow (.list (es.map PyData.int)), .pu (.int m), .pu (.int c), .pu (.int r), x7] := by
  have h := loop_idx (f := bodyM C (.nm 7) bTake) (l := List.range 60) (enc := fun (i : Nat) => toD (i : Int)) (m := 0)
    (I := fun n ρ => ∃ (es : List Int) (r : Int) (x7 : Sl), es.length ≤ ds.length + n ∧ ρ = [.pu d0, .pu d1, x2, .ow (.list (es.map PyData.int)), .pu (.int m), .pu (.int c), .pu (.int r), x7])
    ?_ ⟨ds, r, x7, by simp, rfl⟩
  · simpa using h
  · rintro i hi ρ ⟨es, r, x7, he, rfl⟩
    simp only [List.length_range] at hi
    rw [Nat.zero_add] at he ⊢
    unfold bodyM
    simp only [asgT, List.length_cons, List.length_nil, bTake, eTs_cons, eT_ife]
    by_cases hr : 0 < r
    · have e1 := u_mod (a := r) dv3
      have e2 := u_fdiv (a := r) dv3
      have e3 : ∀ x, appD (.list (es.map PyData.int)) x = some (.list (es.map PyData.int ++ [x])) := fun x => app_l (by rw [List.length_map, sz_eq]; omega)
      refine ⟨_, by simp [hr, slGet, slOw, eT_app, eT_asg, outSet, e1, e2, e3, eTs_cons]; rfl, es ++ [r.fmod 997], r.fdiv 997, .pu (toD (i : Int)), by simp; omega, by simp⟩
    · exact ⟨_, by simp [hr, slGet]; rfl, es, r, .pu (toD (i : Int)), by omega, by simp⟩
theorem rest_ok (C : Orc) {d0 d1 : PyData} {x2 : Sl} {m c : Int} {ds : List Int} {x6 x7 : Sl} (hl : ds.length ≤ 1000000) : ∃ r : Int, ∃ ys : List Int, ys.length ≤ 2 ∧ ∀ ts : List Ss, evTs C (.asg false (.nm 6) (.ite (.o2 .ge (.v 5) (.o2 .pow (.c (.int 10)) (.c (.int 18)))) (.v 5) (.c (.int 0))) :: .asg true (.nm 3) (.o2 .add (.b 3) (.ite (.o2 .eq (.v 6) (.c (.int 0))) (.lst [.o2 .mod (.o1 .int (.v 5)) (.c (.int 997)), .o2 .mod (.o2 .mod (.o1 .int (.o2 .add (.o2 .mul (.v 4) (.c (.int 69621))) (.c (.int 5)))) (.c (.int 65521))) (.c (.int 997))]) (.lst []))) :: ts)
    [.pu d0, .pu d1, x2, .ow (.list (ds.map PyData.int)), .pu (.int m), .pu (.int c), x6, x7] =
    evTs C ts [.pu d0, .pu d1, x2, .ow (.list ((ds ++ ys).map PyData.int)), .pu (.int m), .pu (.int c), .pu (.int r), x7] := by
  have e2 := u_mul (a := m) (b := 69621) (.inr sm2)
  have e3 : ∀ ys : List PyData, ys.length ≤ 2 → u2 .add (.list (ds.map PyData.int)) (.list ys) = some (.list (ds.map PyData.int ++ ys)) := fun ys h => u_addl (by rw [List.length_map, sz_eq]; omega)
  have e4 : ∀ r : Int, ∃ ys : List Int, ys.length ≤ 2 ∧ ∀ ts : List Ss, evTs C (.asg true (.nm 3) (.o2 .add (.b 3) (.ite (.o2 .eq (.v 6) (.c (.int 0))) (.lst [.o2 .mod (.o1 .int (.v 5)) (.c (.int 997)), .o2 .mod (.o2 .mod (.o1 .int (.o2 .add (.o2 .mul (.v 4) (.c (.int 69621))) (.c (.int 5)))) (.c (.int 65521))) (.c (.int 997))]) (.lst []))) :: ts)
      [.pu d0, .pu d1, x2, .ow (.list (ds.map PyData.int)), .pu (.int m), .pu (.int c), .pu (.int r), x7] =
      evTs C ts [.pu d0, .pu d1, x2, .ow (.list ((ds ++ ys).map PyData.int)), .pu (.int m), .pu (.int c), .pu (.int r), x7] := fun r => by
    by_cases h0 : r = 0
    · subst h0
      exact ⟨[c.fmod 997, ((m * 69621 + 5).fmod 65521).fmod 997], by simp, fun ts => by simp [eTs_cons, eT_asg, outSet, slGet, slAny, e2, u_mod dv3, u_mod dv4, e3]⟩
    · exact ⟨[], by simp, fun ts => by simp [eTs_cons, eT_asg, outSet, slGet, slAny, h0, e3 [] (by simp)]⟩
  by_cases hg : (10 : Int) ^ 18 ≤ c
  · obtain ⟨ys, h1, h2⟩ := e4 c
    refine ⟨c, ys, h1, fun ts => ?_⟩
    rw [eTs_cons, eT_asg]
    simp only [eE_ite, eE_o2, eE_v, eE_c, slGet, List.getElem?_cons_succ, List.getElem?_cons_zero, lift_sm, bnd_ret, pw1, u_ge, boolM_b, decide_eq_true hg, if_true, outSet, List.length_cons, stor_f, bnd_assoc]
    rw [if_pos (by omega), bnd_ret, thenM_nx]
    simp only [List.set_cons_succ, List.set_cons_zero]
    exact h2 ts
  · obtain ⟨ys, h1, h2⟩ := e4 0
    refine ⟨0, ys, h1, fun ts => ?_⟩
    rw [eTs_cons, eT_asg]
    simp only [eE_ite, eE_o2, eE_v, eE_c, slGet, List.getElem?_cons_succ, List.getElem?_cons_zero, lift_sm, bnd_ret, pw1, u_ge, boolM_b, decide_eq_false hg, Bool.false_eq_true, if_false, outSet, List.length_cons, stor_f, bnd_assoc]
    rw [if_pos (by omega), bnd_ret, thenM_nx]
    simp only [List.set_cons_succ, List.set_cons_zero]
    exact h2 ts
theorem draws_ok (C : Orc) (ns : List Int) (hn : ns.length ≤ 63) (many : Nat) (hm : many ≤ 10000) : ∃ dr : List Int, dr.length ≤ 100000 ∧ evTs C bDraws [.pu (.list (ns.map PyData.int)), .pu (.int many), .no, .no, .no, .no, .no, .no] = ret (.rt (.list (dr.map PyData.int))) := by
  have L1 := loop_idx (f := bodyM C (.nm 2) bCell) (l := List.range ns.length) (enc := fun (i : Nat) => toD (i : Int)) (m := 0)
    (I := fun n ρ => ∃ (ds : List Int) (m : Int) (x2 x5 x6 x7 : Sl), ds.length ≤ 62 * n ∧ ρ = [.pu (.list (ns.map PyData.int)), .pu (.int many), x2, .ow (.list (ds.map PyData.int)), .pu (.int m), x5, x6, x7]) ?_
    (ρ := [.pu (.list (ns.map PyData.int)), .pu (.int many), .no, .ow (.list []), .pu (.int 7), .no, .no, .no]) ⟨[], 7, .no, .no, .no, .no, by simp, rfl⟩
  · obtain ⟨ρ1, e1, ds, m, x2, x5, x6, x7, hd, rfl⟩ := L1
    simp only [List.length_range, Nat.zero_add] at hd
    have L2 := loop_idx (f := bodyM C (.nm 2) bMore) (l := List.range many) (enc := fun (i : Nat) => toD (i : Int)) (m := 0)
      (I := fun n ρ => ∃ (es : List Int) (m : Int) (x2 x5 x6 x7 : Sl), es.length ≤ ds.length + n ∧ ρ = [.pu (.list (ns.map PyData.int)), .pu (.int many), x2, .ow (.list (es.map PyData.int)), .pu (.int m), x5, x6, x7]) ?_
      ⟨ds, m, x2, x5, x6, x7, by simp, rfl⟩
    · obtain ⟨ρ2, e2, es, m, x2, x5, x6, x7, he, rfl⟩ := L2
      simp only [List.length_range, Nat.zero_add] at he
      refine ⟨cutL es none (some (many : Int)), ?_, ?_⟩
      · unfold cutL
        rw [List.length_take, List.length_drop]
        omega
      · have ec : cutL (es.map PyData.int) none (some (many : Int)) = (cutL es none (some (many : Int))).map PyData.int := by
          simp [cutL, sAt]
        have r1 := rng_n (show ns.length ≤ 100000000 by omega)
        have r2 := rng_n (show many ≤ 100000000 by omega)
        rw [bDraws_eq, eTs_cons, eT_par]
        have p1 : parS [(3, true), (4, false)] [.list [], .int 7] [.pu (.list (ns.map PyData.int)), .pu (.int many), .no, .no, .no, .no, .no, .no] = some [.pu (.list (ns.map PyData.int)), .pu (.int many), .no, .ow (.list []), .pu (.int 7), .no, .no, .no] := rfl
        simp only [eEs_cons, eEs_nil, eE_lst, eE_c, bnd_ret, p1, lift_sm, thenM_nx]
        rw [eTs_cons, eT_for]
        simp only [eS_rg1, eE_o1, eE_v, slGet, List.getElem?_cons_zero, lift_sm, bnd_ret, u_lenl, List.length_map, r1]
        rw [e1, bnd_ret, thenM_nx, eTs_cons, eT_for]
        simp only [eS_rg1, eE_o1, eE_v, slGet, List.getElem?_cons_zero, List.getElem?_cons_succ, lift_sm, bnd_ret, r2]
        rw [e2, bnd_ret, thenM_nx, eTs_cons, eT_ret]
        simp only [eE_sl, eE_v, eE_b, slAny, slGet, List.getElem?_cons_zero, List.getElem?_cons_succ, lift_sm, bnd_ret, eO_none, eO_some, intO, Option.bind_some, sliceD, ec, thenM_rt]
    · rintro i hi ρ ⟨es, m, x2, x5, x6, x7, he, rfl⟩
      simp only [List.length_range] at hi
      rw [Nat.zero_add] at he ⊢
      have e1 := u_mul (a := m) (b := 16807) (.inr sm3)
      have e2 : ∀ x, appD (.list (es.map PyData.int)) x = some (.list (es.map PyData.int ++ [x])) := fun x => app_l (by rw [List.length_map, sz_eq]; omega)
      refine ⟨[.pu (.list (ns.map PyData.int)), .pu (.int many), .pu (.int i), .ow (.list ((es ++ [((m * 16807 + i + 1).fmod 65537).fmod 997]).map PyData.int)), .pu (.int ((m * 16807 + i + 1).fmod 65537)), x5, x6, x7], ?_, _, _, _, _, _, _, ?_, rfl⟩
      · simp [bodyM, asgT, bMore, eTs_cons, eT_asg, eT_app, outSet, slGet, slOw, toD, Datum.toD, e1, e2, u_mod dv2, u_mod dv3]
      · rw [List.length_append]; simp only [List.length_cons, List.length_nil]; omega
  · rintro i hi ρ ⟨es, m, x2, x5, x6, x7, he, rfl⟩
    simp only [List.length_range] at hi
    rw [Nat.zero_add] at he ⊢
    have hi2 : i < (ns.map PyData.int).length := by rw [List.length_map]; exact hi
    have e0 := u_ixl hi2
    have e1 := u_mul (a := m) (b := 48271) (.inr sm1)
    generalize hc : (if ns[i] < 0 then -ns[i] else ns[i]) = c
    generalize hm' : (m * 48271 + c.fmod 1000003 + i).fmod 65537 = m'
    have e2 := u_mul (a := m') (b := 69621) (.inr sm2)
    have e3 : ∀ ys : List PyData, ys.length ≤ 2 → u2 .add (.list (es.map PyData.int)) (.list ys) = some (.list (es.map PyData.int ++ ys)) := fun ys h => u_addl (by rw [List.length_map, sz_eq]; omega)
    obtain ⟨r, ys, h1, h2⟩ := rest_ok C (d0 := .list (ns.map PyData.int)) (d1 := .int many) (x2 := .pu (.int i)) (m := m') (c := c) (ds := es) (x6 := x6) (x7 := x7) (by omega)
    obtain ⟨ρ', e5, es', r', x7', h3, eρ⟩ := take_ok C (d0 := .list (ns.map PyData.int)) (d1 := .int many) (x2 := .pu (.int i)) (m := m') (c := c) (ds := es ++ ys) (r := r) (x7 := x7) (by rw [List.length_append]; omega)
    refine ⟨[.pu (.list (ns.map PyData.int)), .pu (.int many), .pu (.int i), .ow (.list (es'.map PyData.int)), .pu (.int m'), .pu (.int c), .pu (.int r'), x7'], ?_, es', m', _, _, _, _, ?_, rfl⟩
    · have e6 : u2 .ix (.list (ns.map PyData.int)) (toD (i : Int)) = some (.int ns[i]) := by rw [show (toD (i : Int)) = PyData.int (i : Int) from rfl, e0]; simp
      have e7 : rangeD (.int 0) (.int 60) = some ((List.range 60).map fun (i : Nat) => toD (i : Int)) := rng_n (n := 60) (by omega)
      have e8 : evTs C bCell [.pu (.list (ns.map PyData.int)), .pu (.int many), .pu (toD (i : Int)), .ow (.list (es.map PyData.int)), .pu (.int m), x5, x6, x7] = evTs C [.asg false (.nm 6) (.ite (.o2 .ge (.v 5) (.o2 .pow (.c (.int 10)) (.c (.int 18)))) (.v 5) (.c (.int 0))), .asg true (.nm 3) (.o2 .add (.b 3) (.ite (.o2 .eq (.v 6) (.c (.int 0))) (.lst [.o2 .mod (.o1 .int (.v 5)) (.c (.int 997)), .o2 .mod (.o2 .mod (.o1 .int (.o2 .add (.o2 .mul (.v 4) (.c (.int 69621))) (.c (.int 5)))) (.c (.int 65521))) (.c (.int 997))]) (.lst []))), .for (.nm 7) (.rg1 (.c (.int 60))) bTake]
          [.pu (.list (ns.map PyData.int)), .pu (.int many), .pu (.int i), .ow (.list (es.map PyData.int)), .pu (.int m'), .pu (.int c), x6, x7] := by
        rw [bCell, eTs_cons, eT_asg]
        simp only [eE_o1, eE_o2, eE_v, eE_c, slGet, List.getElem?_cons_succ, List.getElem?_cons_zero, lift_sm, bnd_ret, e6, u_int, u_abs, hc, outSet, List.length_cons, stor_f, bnd_assoc]
        rw [if_pos (by omega), bnd_ret, thenM_nx, eTs_cons, eT_asg]
        simp only [eE_o1, eE_o2, eE_v, eE_c, slGet, List.set_cons_succ, List.set_cons_zero, List.getElem?_cons_succ, List.getElem?_cons_zero, lift_sm, bnd_ret, e1, u_mod dv1, u_mod dv2, u_add, show (toD (i : Int)) = PyData.int (i : Int) from rfl, u_int, hm', outSet, List.length_cons, stor_f, bnd_assoc]
        rw [if_pos (by omega), bnd_ret, thenM_nx]
      unfold bodyM
      have e9 : asgT (.nm 2) (toD ((List.range ns.length)[i] : Int)) [.pu (.list (ns.map PyData.int)), .pu (.int many), x2, .ow (.list (es.map PyData.int)), .pu (.int m), x5, x6, x7] = some [.pu (.list (ns.map PyData.int)), .pu (.int many), .pu (toD (i : Int)), .ow (.list (es.map PyData.int)), .pu (.int m), x5, x6, x7] := by simp [asgT]
      rw [e9, lift_sm, bnd_ret, e8, h2]
      simp only [eTs_cons, eT_for, eS_rg1, eE_c, bnd_ret, e7, lift_sm, e5, eρ, thenM_nx, eTs_nil]
    · rw [List.length_append] at h3; omega
end RW.PL
/-! Plain: small steps over data with a type. -/
namespace RW.PL
open PySem PySem.W
section
variable {α β : Type} [DecidableEq α] [Datum α] [DecidableEq β] [Datum β]
theorem td_i (i : Int) : toD i = PyData.int i := id rfl
theorem td_s (i : Str) : toD i = PyData.str i := id rfl
theorem td_p (p : α × β) : toD p = PyData.tuple [toD p.1, toD p.2] := id rfl
theorem td_t (p : Tup α) : toD p = PyData.tuple (p.items.map toD) := id rfl
theorem u_ix0 (p : α × β) : u2 .ix (toD p) (.int 0) = some (toD p.1) := id rfl
theorem u_ix1 (p : α × β) : u2 .ix (toD p) (.int 1) = some (toD p.2) := id rfl
theorem u_eqT (hd : Datum.depth α ≤ 60) (a b : α) : u2 .eq (toD a) (toD b) = some (.bool (decide (a = b))) := eqD_t hd a b
theorem u_neT (hd : Datum.depth α ≤ 60) (a b : α) : u2 .ne (toD a) (toD b) = some (.bool (!decide (a = b))) := neD_t hd a b
theorem u_eqL (hd : Datum.depth α < 60) (a b : List α) : u2 .eq (.list (a.map toD)) (.list (b.map toD)) = some (.bool (decide (a = b))) := eqD_t (α := List α) (show Datum.depth α + 1 ≤ 60 by omega) a b
theorem u_neL (hd : Datum.depth α < 60) (a b : List α) : u2 .ne (.list (a.map toD)) (.list (b.map toD)) = some (.bool (!decide (a = b))) := neD_t (α := List α) (show Datum.depth α + 1 ≤ 60 by omega) a b
theorem u_eqU (hd : Datum.depth α < 60) (a b : List α) : u2 .eq (.tuple (a.map toD)) (.tuple (b.map toD)) = some (.bool (decide (a = b))) := by
  have := eqD_t (α := Tup α) (show Datum.depth α + 1 ≤ 60 by omega) ⟨a⟩ ⟨b⟩
  rw [show u2 .eq (.tuple (a.map toD)) (.tuple (b.map toD)) = eqD (toD (⟨a⟩ : Tup α)) (toD (⟨b⟩ : Tup α)) from rfl, this]
  simp
theorem u_inl (hd : Datum.depth α ≤ 60) (x : α) (l : List α) : u2 .isin (toD x) (.list (l.map toD)) = some (.bool (decide (x ∈ l))) := by
  show (inB (toD x) (.list (l.map toD))).map _ = _
  rw [inB_list hd]
  rfl
theorem u_int' (hd : Datum.depth α ≤ 60) (x : α) (l : List α) : u2 .isin (toD x) (.tuple (l.map toD)) = some (.bool (decide (x ∈ l))) := by
  show (inB (toD x) (.tuple (l.map toD))).map _ = _
  rw [inB_tup hd]
  rfl
theorem u_srt (d : PyData) : u1 .sorted d = srtD d := id rfl
theorem u_lenset (d : PyData) : u1 .lenset d = lenSetD d := id rfl
theorem u_sset (d : PyData) : u1 .sortedset d = srtSetD d := id rfl
theorem u_dict (d : PyData) : u1 .dict d = dicD d := id rfl
theorem u_lst_l (xs : List PyData) : u1 .lst (.list xs) = some (.list xs) := id rfl
theorem u_lst_t (xs : List PyData) : u1 .lst (.tuple xs) = some (.list xs) := id rfl
theorem u_lst_d (kvs : List (PyData × PyData)) : u1 .lst (.dict kvs) = some (.list (kvs.map Prod.fst)) := id rfl
theorem u_any (bs : List Bool) : u1 .any (.list (bs.map PyData.bool)) = some (.bool (bs.any id)) := by
  have : ∀ bs : List Bool, boolsOf (bs.map PyData.bool) = some bs := by
    intro bs
    induction bs with
    | nil => rfl
    | cons b bs ih => simp [boolsOf, ih]
  show anyD (.list (bs.map PyData.bool)) = _
  unfold anyD
  simp only [this]
  rfl
theorem u_all (bs : List Bool) : u1 .all (.list (bs.map PyData.bool)) = some (.bool (bs.all id)) := by
  have : ∀ bs : List Bool, boolsOf (bs.map PyData.bool) = some bs := by
    intro bs
    induction bs with
    | nil => rfl
    | cons b bs ih => simp [boolsOf, ih]
  show allD (.list (bs.map PyData.bool)) = _
  unfold allD
  simp only [this]
  rfl
theorem u_sum (ns : List Int) : u1 .sum (.list (ns.map PyData.int)) = some (.int ns.sum) := by
  have : ∀ ns : List Int, intsOf (ns.map PyData.int) = some ns := by
    intro ns
    induction ns with
    | nil => rfl
    | cons b bs ih => simp [intsOf, ih]
  show sumD (.list (ns.map PyData.int)) = _
  unfold sumD
  simp only [this]
  rfl
theorem it_l (xs : List PyData) : itemsOf (.list xs) = some xs := id rfl
theorem it_t (xs : List PyData) : itemsOf (.tuple xs) = some xs := id rfl
theorem u_ixlT {l : List α} {i : Nat} (h : i < l.length) : u2 .ix (.list (l.map toD)) (.int (i : Int)) = some (toD l[i]) := by
  rw [u_ixl (by rw [List.length_map]; exact h)]
  simp
theorem u_ixtT {l : List α} {i : Nat} (h : i < l.length) : u2 .ix (.tuple (l.map toD)) (.int (i : Int)) = some (toD l[i]) := by
  rw [u_ixt (by rw [List.length_map]; exact h)]
  simp
/-- the last -/
theorem ixAt_last (n : Nat) (h : 0 < n) : ixAt n (-1) = some (n - 1) := by
  unfold ixAt
  rw [if_neg (by omega), if_pos (by omega)]
  congr 1
  omega
theorem u_lastl {l : List α} (h : l ≠ []) : u2 .ix (.list (l.map toD)) (.int (-1)) = some (toD (l.getLast h)) := by
  have hp : 0 < l.length := List.length_pos_iff.mpr h
  show (ixAt (l.map toD).length (-1)).bind (fun j => (l.map toD)[j]?) = _
  rw [List.length_map, ixAt_last _ hp]
  rw [Option.bind_some, List.getElem?_map, List.getElem?_eq_getElem (show l.length - 1 < l.length by omega), List.getLast_eq_getElem]
  rfl
theorem u_lastt {l : List α} (h : l ≠ []) : u2 .ix (.tuple (l.map toD)) (.int (-1)) = some (toD (l.getLast h)) := by
  have hp : 0 < l.length := List.length_pos_iff.mpr h
  show (ixAt (l.map toD).length (-1)).bind (fun j => (l.map toD)[j]?) = _
  rw [List.length_map, ixAt_last _ hp]
  rw [Option.bind_some, List.getElem?_map, List.getElem?_eq_getElem (show l.length - 1 < l.length by omega), List.getLast_eq_getElem]
  rfl
end
section
variable {α : Type} [DecidableEq α] [Datum α] [DKey α] [KeyK α] {γ : Type}
theorem u_ixd (ev : γ → PyData) (kvs : List (α × γ)) (k : α) : u2 .ix (encD ev kvs) (toD k) = (getT kvs k).map ev := by
  show ixD (encD ev kvs) (toD k) = _
  exact ix_dict ev kvs k
theorem u_ind (ev : γ → PyData) (kvs : List (α × γ)) (k : α) : u2 .isin (toD k) (encD ev kvs) = some (.bool (decide (k ∈ kvs.map Prod.fst))) := by
  show (inB (toD k) (encD ev kvs)).map _ = _
  rw [in_dict]
  rfl
theorem it_d (ev : γ → PyData) (kvs : List (α × γ)) : itemsOf (encD ev kvs) = some ((kvs.map Prod.fst).map toD) := by
  simp [encD, itemsOf, List.map_map, Function.comp_def]
theorem u_lend' (ev : γ → PyData) (kvs : List (α × γ)) : u1 .len (encD ev kvs) = some (.int kvs.length) := by
  show some (PyData.int ((kvs.map fun p => (toD p.1, ev p.2)).length : Int)) = _
  rw [List.length_map]
/-- a dict of leaves copied -/
theorem u_dcopy (hk : ∀ a : α, isLeafD (toD a) = true) (ev : γ → PyData) (kvs : List (α × γ)) (h : kvs.length ≤ sizeLine) : u1 .dict (encD ev kvs) = some (encD ev kvs) := by
  have e : byVal (kvs.map fun p => (toD p.1, ev p.2)) = true := by simp [byVal, hk]
  show dicD (.dict _) = some (.dict _)
  unfold dicD fit
  simp only [e, List.length_map, decide_eq_true h, Bool.and_self, if_true]
theorem u_dictl (ev : γ → PyData) (l : List (α × γ)) (hl : l.length ≤ sizeLine) : u1 .dict (.list (l.map fun p => .tuple [toD p.1, ev p.2])) = some (encD ev (putAllT [] l)) := dic_list ev l hl
end
end RW.PL
namespace RW
open PySem PySem.Spec PyProof.Rows L2
namespace K29
def top (i : Nat) : Stmt := PySem.Challenge.pw_roadwalked_k29_bells_in_fog_and_courses.main.body.getD i (.Pass ⟨0, 0, 0, 0⟩)
end K29
section
variable {P : Program} {w : World} {K : PySem.W.Frag} {mg : Str → Option Value} {base : Heap}
theorem scN : FnScope ["w", "many"] ["w", "many"] (defScope (K29.top 37)) := ⟨rfl, rfl, rfl, by decide +kernel, rfl, by decide +kernel, by decide +kernel⟩
theorem ok_next {C : CC} {f : Addr} {fd : FuncData} (F : Fun K "_law_next" "_law_next" (K29.top 37) f fd) (hi : mg "int" = none) (hl : mg "len" = none) (hC : ∀ dr ds n r, C dr 30 ds n = some r → nextP dr ds n = some r) (k : Nat) :
    FnOk P w K mg base CX0 (k + 1) f fd ["w", "many"] (spD K w C [.w, .p] 30) := by
  refine F.ok scN (fun vs H Q E h => spD_len h) (fun cdv A outer s H vs Q E hr h => ?_)
  obtain ⟨ω, W, n, ds, d, n', wt, om, wk, ha, ev, kk⟩ := h
  have hu0 := hu65 hr
  have hu := (show (A.deeper (envOfC "_law_next" (defScope (K29.top 37)) s.heap.objs.size f cdv)).units + 1 < cLine by omega)
  cases ha with
  | cons a1 ha =>
    cases ha with
    | cons a2 ha =>
      cases ha
      cases a1 with
      | w hw =>
        rename_i d1 p
        subst hw
        obtain ⟨a, l, dr⟩ := p
        obtain ⟨w1, w2, w3⟩ := id wk
        cases a2 with
        | p a2 =>
          have e1 := hC _ _ _ _ ev
          rename_i v2 d2
          cases a2 <;> first | (simp [nextP] at e1; done) | skip
          case int many =>
            simp only [nextP] at e1
            split at e1 <;> cases e1
            rename_i pos
            refine ⟨_, pss_cons (ps_daug hu (pv 0) pe_str pe_int iop_add (by intro _ _ _; rfl))
              (pss_one (ps_ret (pe_ifExp (pt_cmpR op_le (pe_dget hu (pv 0) pe_str (plainIx rfl)) (pe_callB call_len_seq (by rfl) hl PySem.boot_len (pa_cons (pe_dget hu (pv 0) pe_str (plainIx rfl)) pa_nil)) (by rfl))
                (pe_op op_mod (pe_callTy call_int1 (by rfl) hi PyProof.Rows.boot_int (pa_cons (pe_ix ix_list (pe_dget hu (pv 0) pe_str (plainIx rfl)) (pe_op op_sub (pe_dget hu (pv 0) pe_str (plainIx rfl)) pe_int) (plainIx rfl)) pa_nil)) (pv 1))
                pe_int))), ?_⟩
            have g1 : valV [(Sum.inr kDr, V.ref l), (Sum.inr kAt, V.int (n : Int))] (Sum.inr kAt : Key) = some (.int n) := by rfl
            have p1 : putK [(Sum.inr kDr, V.ref l), (Sum.inr kAt, V.int (n : Int))] (Sum.inr kAt : Key) (.int ((n : Int) + 1)) = [(Sum.inr kDr, V.ref l), (Sum.inr kAt, V.int ((n + 1 : Nat) : Int))] := by rfl
            change ∀ v H', Ext (some (a, l, dr)) H H' → WOk K (some (a, l, dr)) (n + 1) H' → Rp K w H' W v (.int (if n < dr.length then dr.getD n 0 % many else 0)) → Q v H' at kk
            refine ⟨_, rfl, a, .int n, rfl, g1 ▸ DGet.k (k := Sum.inr kAt) w1, _, _, rfl, rfl, _, DPut.k (k := Sum.inr kAt) w1 (by rw [sizeLine_eq]; show 2 < 16777216; decide), ?_⟩
            rw [p1]
            have q1 : upd H a (.dK [(Sum.inr kDr, V.ref l), (Sum.inr kAt, V.int ((n + 1 : Nat) : Int))]) a = some (.dK [(Sum.inr kDr, V.ref l), (Sum.inr kAt, V.int ((n + 1 : Nat) : Int))]) := upd_same
            have q2 : SqL K (upd H a (.dK [(Sum.inr kDr, V.ref l), (Sum.inr kAt, V.int ((n + 1 : Nat) : Int))])) l (dr.map V.int) := SqL.step w2 fun o ho e => by
              rw [upd_ne (fun z => by rw [z, w1] at e; rcases ho with rfl | ⟨ob, rfl⟩ <;> cases e)]; exact e
            have wk' : WOk K (some (a, l, dr)) (n + 1) (upd H a (.dK [(Sum.inr kDr, V.ref l), (Sum.inr kAt, V.int ((n + 1 : Nat) : Int))])) := ⟨q1, q2, w3⟩
            have ex : Ext (some (a, l, dr)) H (upd H a (.dK [(Sum.inr kDr, V.ref l), (Sum.inr kAt, V.int ((n + 1 : Nat) : Int))])) := fun b o hb hne => by rw [upd_ne (hne _ rfl)]; exact hb
            generalize upd H a (.dK [(Sum.inr kDr, V.ref l), (Sum.inr kAt, V.int ((n + 1 : Nat) : Int))]) = H1 at q1 q2 wk' ex ⊢
            have d1 : DGet H1 a (.str kAt) (some (.int ((n + 1 : Nat) : Int))) := DGet.k (k := Sum.inr kAt) q1
            have d2 : DGet H1 a (.str kDr) (some (.ref l)) := DGet.k (k := Sum.inr kDr) q1
            refine ⟨_, rfl, a, _, rfl, d1, _, rfl, a, _, rfl, d2, l, dr.map V.int, rfl, .inl q2, _, _, rfl, rfl, _, rfl, ?_⟩
            simp only [List.length_map]
            by_cases c : n < dr.length
            · rw [if_pos (by simp only [decide_eq_true_eq]; omega)]
              refine ⟨_, rfl, a, _, rfl, d2, _, rfl, a, _, rfl, d1, _, _, rfl, rfl, l, dr.map V.int, _, .int (dr.getD n 0), rfl, rfl, q2, ?_, ?_⟩
              · refine ixAt_atI (j := n) ?_ ?_
                · have e1 : (((n + 1 : Nat) : Int) - 1) = (n : Int) := by omega
                  rw [List.length_map, e1]
                  unfold ixAt
                  split
                  · split
                    · simp
                    · omega
                  · omega
                · rw [List.getElem?_map, List.getElem?_eq_getElem c, List.getD_eq_getElem?_getD, List.getElem?_eq_getElem c]
                  rfl
              · rw [if_pos c] at kk
                exact .inl ⟨_, rfl, _, rfl, _, _, rfl, rfl, pos, kk _ _ ex wk' (.int _)⟩
            · rw [if_neg (by simp only [decide_eq_true_eq]; omega)]
              rw [if_neg c] at kk
              exact kk _ _ ex wk' (.int _)
end
end RW
namespace RW
open PySem L2
namespace K29
/-- 0 once_each: 0 things -/
def b0 : List Ss := [.ret (.o1 .tup (.o1 .sortedset (.v 0)))]
def d0 : FI := ⟨"once_each", top 1, ["things"], ["things"], ⟨[.p], 1, b0⟩⟩
/-- 1 choices: 0 things 1 k 2 found 3 i 4 row -/
def b1 : List Ss := [.ife (.o2 .eq (.v 1) (.c (.int 0))) [.ret (.lst [.tup []])] [], .asg true (.nm 2) (.lst []), .for (.nm 3) (.rg1 (.o1 .len (.v 0))) [.ext 2 (.cp [4] (.nm 4) (.ex (.call 1 [.sl (.v 0) (some (.o2 .add (.v 3) (.c (.int 1)))) none, .o2 .sub (.v 1) (.c (.int 1))])) none (.o2 .add (.tup [.o2 .ix (.v 0) (.v 3)]) (.v 4)))], .fz 2, .ret (.v 2)]
def d1 : FI := ⟨"choices", top 2, ["things", "k", "found", "i", "row"], ["things", "k"], ⟨[.p, .p], 5, b1⟩⟩
/-- 2 all_sets: 0 things 1 found 2 k -/
def b2 : List Ss := [.asg true (.nm 1) (.lst []), .for (.nm 2) (.rg1 (.o2 .add (.o1 .len (.v 0)) (.c (.int 1)))) [.ext 1 (.call 1 [.v 0, .v 2])], .fz 1, .ret (.v 1)]
def d2 : FI := ⟨"all_sets", top 3, ["things", "found", "k"], ["things"], ⟨[.p], 3, b2⟩⟩
/-- 3 far: 0 one 1 other -/
def b3 : List Ss := [.ret (.o2 .add (.o1 .abs (.o2 .sub (.o2 .ix (.v 0) (.c (.int 0))) (.o2 .ix (.v 1) (.c (.int 0))))) (.o1 .abs (.o2 .sub (.o2 .ix (.v 0) (.c (.int 1))) (.o2 .ix (.v 1) (.c (.int 1))))))]
def d3 : FI := ⟨"far", top 5, ["one", "other"], ["one", "other"], ⟨[.p, .p], 2, b3⟩⟩
/-- 4 heard_at: 0 bells 1 spot 2 name -/
def b4 : List Ss := [.ret (.o1 .tup (.cp [2] (.nm 2) (.ex (.o1 .sorted (.v 0))) (some (.o2 .le (.call 3 [.o2 .ix (.o2 .ix (.v 0) (.v 2)) (.c (.int 0)), .v 1]) (.o2 .ix (.o2 .ix (.v 0) (.v 2)) (.c (.int 1))))) (.v 2)))]
def d4 : FI := ⟨"heard_at", top 6, ["bells", "spot", "name"], ["bells", "spot"], ⟨[.p, .p], 3, b4⟩⟩
/-- 5 field: 0 wide 1 high 2 x 3 y -/
def b5 : List Ss := [.ret (.cp2 [2, 3] [3] (.nm 2) (.rg1 (.v 0)) none (.nm 3) (.rg1 (.v 1)) none (.tup [.v 2, .v 3]))]
def d5 : FI := ⟨"field", top 7, ["wide", "high", "x", "y"], ["wide", "high"], ⟨[.p, .p], 4, b5⟩⟩
/-- 6 spots_with: 0 bells 1 wide 2 high 3 heard 4 spot -/
def b6 : List Ss := [.ret (.o1 .tup (.cp [4] (.nm 4) (.ex (.call 5 [.v 1, .v 2])) (some (.o2 .eq (.call 4 [.v 0, .v 4]) (.v 3))) (.v 4)))]
def d6 : FI := ⟨"spots_with", top 8, ["bells", "wide", "high", "heard", "spot"], ["bells", "wide", "high", "heard"], ⟨[.p, .p, .p, .p], 5, b6⟩⟩
/-- 7 is_told_by: 0 bells 1 wide 2 high 3 spot -/
def b7 : List Ss := [.ret (.o2 .eq (.call 6 [.v 0, .v 1, .v 2, .call 4 [.v 0, .v 3]]) (.tup [.v 3]))]
def d7 : FI := ⟨"is_told_by", top 9, ["bells", "wide", "high", "spot"], ["bells", "wide", "high", "spot"], ⟨[.p, .p, .p, .p], 4, b7⟩⟩
/-- 8 walk_by: 0 bells 1 wide 2 high 3 rows 4 found 5 k 6 able 7 spot 8 other -/
def b8 : List Ss := [.asg false (.nm 4) (.call 5 [.v 1, .v 2]), .for (.nm 5) (.rg1 (.o1 .len (.v 3))) [.asg false (.nm 6) (.call 6 [.v 0, .v 1, .v 2, .o2 .ix (.v 3) (.v 5)]), .asg false (.nm 4) (.cp [7] (.nm 7) (.ex (.v 6)) (some (.or (.o2 .eq (.v 5) (.c (.int 0))) (.o1 .any (.cp [8] (.nm 8) (.ex (.v 4)) none (.o2 .le (.call 3 [.v 7, .v 8]) (.c (.int 1))))))) (.v 7))], .ret (.o1 .tup (.v 4))]
def d8 : FI := ⟨"walk_by", top 10, ["bells", "wide", "high", "rows", "found", "k", "able", "spot", "other"], ["bells", "wide", "high", "rows"], ⟨[.p, .p, .p, .p], 9, b8⟩⟩
/-- 9 only_bells: 0 bells 1 names 2 name -/
def b9 : List Ss := [.ret (.o1 .dict (.cp [2] (.nm 2) (.ex (.v 1)) none (.tup [.v 2, .o2 .ix (.v 0) (.v 2)])))]
def d9 : FI := ⟨"only_bells", top 11, ["bells", "names", "name"], ["bells", "names"], ⟨[.p, .p], 3, b9⟩⟩
/-- 10 kinds_of: 0 bells 1 wide 2 high 3 spot -/
def b10 : List Ss := [.ret (.o1 .lenset (.cp [3] (.nm 3) (.ex (.call 5 [.v 1, .v 2])) none (.call 4 [.v 0, .v 3])))]
def d10 : FI := ⟨"kinds_of", top 12, ["bells", "wide", "high", "spot"], ["bells", "wide", "high"], ⟨[.p, .p, .p], 4, b10⟩⟩
/-- 11 fewest_bells: 0 bells 1 wide 2 high 3 own 4 some -/
def b11 : List Ss := [.asg false (.nm 3) (.call 10 [.v 0, .v 1, .v 2]), .for (.nm 4) (.ex (.call 2 [.call 0 [.o1 .lst (.v 0)]])) [.ife (.o2 .eq (.call 10 [.call 9 [.v 0, .v 4], .v 1, .v 2]) (.v 3)) [.ret (.v 4)] []], .ret (.call 0 [.o1 .lst (.v 0)])]
def d11 : FI := ⟨"fewest_bells", top 13, ["bells", "wide", "high", "own", "some"], ["bells", "wide", "high"], ⟨[.p, .p, .p], 5, b11⟩⟩
/-- 12 deaf_spots: 0 bells 1 wide 2 high -/
def b12 : List Ss := [.ret (.call 6 [.v 0, .v 1, .v 2, .tup []])]
def d12 : FI := ⟨"deaf_spots", top 14, ["bells", "wide", "high"], ["bells", "wide", "high"], ⟨[.p, .p, .p], 3, b12⟩⟩
/-- 13 louder: 0 bells 1 name 2 more 3 found -/
def b13 : List Ss := [.asg true (.nm 3) (.o1 .dict (.v 0)), .setix 3 (.v 1) (.tup [.o2 .ix (.o2 .ix (.v 0) (.v 1)) (.c (.int 0)), .o2 .add (.o2 .ix (.o2 .ix (.v 0) (.v 1)) (.c (.int 1))) (.v 2)]), .fz 3, .ret (.v 3)]
def d13 : FI := ⟨"louder", top 15, ["bells", "name", "more", "found"], ["bells", "name", "more"], ⟨[.p, .p, .p], 4, b13⟩⟩
/-- 14 least_louder: 0 bells 1 wide 2 high 3 name 4 most 5 more -/
def b14 : List Ss := [.for (.nm 5) (.rg1 (.o2 .add (.v 4) (.c (.int 1)))) [.ife (.o2 .eq (.call 12 [.call 13 [.v 0, .v 3, .v 5], .v 1, .v 2]) (.tup [])) [.ret (.v 5)] []], .ret (.c (.none))]
def d14 : FI := ⟨"least_louder", top 16, ["bells", "wide", "high", "name", "most", "more"], ["bells", "wide", "high", "name", "most"], ⟨[.p, .p, .p, .p, .p], 6, b14⟩⟩
/-- 15 step_of: 0 point -/
def b15 : List Ss := [.ret (.o2 .ix (.g 43) (.o2 .tindex (.g 42) (.v 0)))]
def d15 : FI := ⟨"step_of", top 21, ["point"], ["point"], ⟨[.p], 1, b15⟩⟩
/-- 16 point_on: 0 point 1 k -/
def b16 : List Ss := [.ret (.o2 .ix (.g 42) (.o2 .mod (.o2 .add (.o2 .tindex (.g 42) (.v 0)) (.v 1)) (.g 44)))]
def d16 : FI := ⟨"point_on", top 22, ["point", "k"], ["point", "k"], ⟨[.p, .p], 2, b16⟩⟩
/-- 17 end_of: 0 course 1 x 2 y 3 point 4 steps 5 a 6 b -/
def b17 : List Ss := [.par [(1, false), (2, false)] [.c (.int 0), .c (.int 0)], .for (.tp [.nm 3, .nm 4]) (.ex (.v 0)) [.asg false (.tp [.nm 5, .nm 6]) (.call 15 [.v 3]), .par [(1, false), (2, false)] [.o2 .add (.v 1) (.o2 .mul (.v 5) (.v 4)), .o2 .add (.v 2) (.o2 .mul (.v 6) (.v 4))]], .ret (.tup [.v 1, .v 2])]
def d17 : FI := ⟨"end_of", top 23, ["course", "x", "y", "point", "steps", "a", "b"], ["course"], ⟨[.p], 7, b17⟩⟩
/-- 18 turned_course: 0 course 1 k 2 point 3 steps -/
def b18 : List Ss := [.ret (.o1 .tup (.cp [2, 3] (.tp [.nm 2, .nm 3]) (.ex (.v 0)) none (.tup [.call 16 [.v 2, .v 1], .v 3])))]
def d18 : FI := ⟨"turned_course", top 24, ["course", "k", "point", "steps"], ["course", "k"], ⟨[.p, .p], 4, b18⟩⟩
/-- 19 back_course: 0 course -/
def b19 : List Ss := [.ret (.call 18 [.rev (.v 0), .o2 .fdiv (.g 44) (.c (.int 2))])]
def d19 : FI := ⟨"back_course", top 25, ["course"], ["course"], ⟨[.p], 1, b19⟩⟩
/-- 20 sign_of: 0 number -/
def b20 : List Ss := [.ret (.o2 .sub (.o2 .gt (.v 0) (.c (.int 0))) (.o2 .lt (.v 0) (.c (.int 0))))]
def d20 : FI := ⟨"sign_of", top 26, ["number"], ["number"], ⟨[.p], 1, b20⟩⟩
/-- 21 straight: 0 spot 1 both 2 found 3 rest 4 x 5 y 6 step -/
def b21 : List Ss := [.asg false (.tp [.nm 4, .nm 5]) (.v 0), .asg false (.nm 1) (.o2 .min (.o1 .abs (.v 4)) (.o1 .abs (.v 5))), .asg true (.nm 2) (.lst []), .ife (.o2 .gt (.v 1) (.c (.int 0))) [.app 2 (.tup [.o2 .ix (.g 42) (.o2 .tindex (.g 43) (.tup [.call 20 [.v 4], .call 20 [.v 5]])), .v 1])] [], .asg false (.nm 3) (.o2 .sub (.o2 .max (.o1 .abs (.v 4)) (.o1 .abs (.v 5))) (.v 1)), .ife (.o2 .gt (.v 3) (.c (.int 0))) [.asg false (.nm 6) (.ite (.o2 .gt (.o1 .abs (.v 4)) (.o1 .abs (.v 5))) (.tup [.call 20 [.v 4], .c (.int 0)]) (.tup [.c (.int 0), .call 20 [.v 5]])), .app 2 (.tup [.o2 .ix (.g 42) (.o2 .tindex (.g 43) (.v 6)), .v 3])] [], .ret (.o1 .tup (.b 2))]
def d21 : FI := ⟨"straight", top 27, ["spot", "both", "found", "rest", "x", "y", "step"], ["spot"], ⟨[.p], 7, b21⟩⟩
/-- 22 could_end: 0 course 1 wrong 2 k -/
def b22 : List Ss := [.ret (.o1 .tup (.o1 .sortedset (.cp [2] (.nm 2) (.rg2 (.o1 .neg (.v 1)) (.o2 .add (.v 1) (.c (.int 1)))) none (.call 17 [.call 18 [.v 0, .v 2]]))))]
def d22 : FI := ⟨"could_end", top 28, ["course", "wrong", "k"], ["course", "wrong"], ⟨[.p, .p], 3, b22⟩⟩
/-- 23 could_end_each: 0 course 1 wrong 2 found 3 point 4 steps 5 legs 6 k 7 x 8 y 9 a 10 b -/
def b23 : List Ss := [.asg false (.nm 2) (.lst [.tup [.c (.int 0), .c (.int 0)]]), .for (.tp [.nm 3, .nm 4]) (.ex (.v 0)) [.asg false (.nm 5) (.cp [6] (.nm 6) (.rg2 (.o1 .neg (.v 1)) (.o2 .add (.v 1) (.c (.int 1)))) none (.call 15 [.call 16 [.v 3, .v 6]])), .asg false (.nm 2) (.o1 .sortedset (.cp2 [7, 8, 9, 10] [9, 10] (.tp [.nm 7, .nm 8]) (.ex (.v 2)) none (.tp [.nm 9, .nm 10]) (.ex (.v 5)) none (.tup [.o2 .add (.v 7) (.o2 .mul (.v 9) (.v 4)), .o2 .add (.v 8) (.o2 .mul (.v 10) (.v 4))])))], .ret (.o1 .tup (.v 2))]
def d23 : FI := ⟨"could_end_each", top 29, ["course", "wrong", "found", "point", "steps", "legs", "k", "x", "y", "a", "b"], ["course", "wrong"], ⟨[.p, .p], 11, b23⟩⟩
/-- 24 which_wrong: 0 course 1 spot 2 k -/
def b24 : List Ss := [.ret (.o1 .tup (.cp [2] (.nm 2) (.rg2 (.o1 .neg (.c (.int 4))) (.c (.int 4))) (some (.o2 .eq (.call 17 [.call 18 [.v 0, .v 2]]) (.v 1))) (.v 2)))]
def d24 : FI := ⟨"which_wrong", top 30, ["course", "spot", "k"], ["course", "spot"], ⟨[.p, .p], 3, b24⟩⟩
/-- 25 one_leg_wrong: 0 course 1 spot 2 found 3 k 4 other 5 point 6 steps -/
def b25 : List Ss := [.asg true (.nm 2) (.lst []), .for (.nm 3) (.rg1 (.o1 .len (.v 0))) [.asg false (.tp [.nm 5, .nm 6]) (.o2 .ix (.v 0) (.v 3)), .for (.nm 4) (.ex (.g 42)) [.ife (.an (.o2 .ne (.v 4) (.v 5)) (.o2 .eq (.call 17 [.o2 .add (.o2 .add (.sl (.v 0) none (some (.v 3))) (.tup [.tup [.v 4, .v 6]])) (.sl (.v 0) (some (.o2 .add (.v 3) (.c (.int 1)))) none)]) (.v 1))) [.app 2 (.tup [.v 3, .v 4])] []]], .ret (.o1 .tup (.b 2))]
def d25 : FI := ⟨"one_leg_wrong", top 31, ["course", "spot", "found", "k", "other", "point", "steps"], ["course", "spot"], ⟨[.p, .p], 7, b25⟩⟩
/-- 26 closes: 0 course -/
def b26 : List Ss := [.ret (.o2 .eq (.call 17 [.v 0]) (.tup [.c (.int 0), .c (.int 0)]))]
def d26 : FI := ⟨"closes", top 32, ["course"], ["course"], ⟨[.p], 1, b26⟩⟩
/-- 27 passes: 0 course 1 found 2 point 3 steps 4 _ 5 a 6 b -/
def b27 : List Ss := [.asg true (.nm 1) (.lst [.tup [.c (.int 0), .c (.int 0)]]), .for (.tp [.nm 2, .nm 3]) (.ex (.v 0)) [.asg false (.tp [.nm 5, .nm 6]) (.call 15 [.v 2]), .for (.nm 4) (.rg1 (.v 3)) [.app 1 (.tup [.o2 .add (.o2 .ix (.o2 .ix (.b 1) (.o1 .neg (.c (.int 1)))) (.c (.int 0))) (.v 5), .o2 .add (.o2 .ix (.o2 .ix (.b 1) (.o1 .neg (.c (.int 1)))) (.c (.int 1))) (.v 6)])]], .ret (.o1 .tup (.b 1))]
def d27 : FI := ⟨"passes", top 33, ["course", "found", "point", "steps", "_", "a", "b"], ["course"], ⟨[.p], 7, b27⟩⟩
/-- 28 crossings: 0 course 1 spots 2 spot -/
def b28 : List Ss := [.asg false (.nm 1) (.call 27 [.v 0]), .ret (.o1 .tup (.o1 .sortedset (.cp [2] (.nm 2) (.ex (.v 1)) (some (.o2 .gt (.o2 .tcount (.v 1) (.v 2)) (.c (.int 1)))) (.v 2))))]
def d28 : FI := ⟨"crossings", top 34, ["course", "spots", "spot"], ["course"], ⟨[.p], 3, b28⟩⟩
/-- 29 _law_draws: 0 script 1 many 2 k 3 draws 4 mixed 5 cell 6 rest 7 turn -/
def b29 : List Ss := [.par [(3, true), (4, false)] [.lst [], .c (.int 7)], .for (.nm 2) (.rg1 (.o1 .len (.v 0))) [.asg false (.nm 5) (.o1 .abs (.o1 .int (.o2 .ix (.v 0) (.v 2)))), .asg false (.nm 4) (.o2 .mod (.o1 .int (.o2 .add (.o2 .add (.o2 .mul (.v 4) (.c (.int 48271))) (.o2 .mod (.v 5) (.c (.int 1000003)))) (.v 2))) (.c (.int 65537))), .asg false (.nm 6) (.ite (.o2 .ge (.v 5) (.o2 .pow (.c (.int 10)) (.c (.int 18)))) (.v 5) (.c (.int 0))), .asg true (.nm 3) (.o2 .add (.b 3) (.ite (.o2 .eq (.v 6) (.c (.int 0))) (.lst [.o2 .mod (.o1 .int (.v 5)) (.c (.int 997)), .o2 .mod (.o2 .mod (.o1 .int (.o2 .add (.o2 .mul (.v 4) (.c (.int 69621))) (.c (.int 5)))) (.c (.int 65521))) (.c (.int 997))]) (.lst []))), .for (.nm 7) (.rg1 (.c (.int 60))) [.ife (.o2 .gt (.v 6) (.c (.int 0))) [.app 3 (.o2 .mod (.o1 .int (.v 6)) (.c (.int 997))), .asg false (.nm 6) (.o2 .fdiv (.v 6) (.c (.int 997)))] []]], .for (.nm 2) (.rg1 (.v 1)) [.asg false (.nm 4) (.o2 .mod (.o1 .int (.o2 .add (.o2 .add (.o2 .mul (.v 4) (.c (.int 16807))) (.v 2)) (.c (.int 1)))) (.c (.int 65537))), .app 3 (.o2 .mod (.o1 .int (.v 4)) (.c (.int 997)))], .ret (.sl (.b 3) none (some (.v 1)))]
def d29 : FI := ⟨"_law_draws", top 36, ["script", "many", "k", "draws", "mixed", "cell", "rest", "turn"], ["script", "many"], ⟨[.p, .p], 8, b29⟩⟩
/-- 31 _law_pick: 0 w 1 rows -/
def b31 : List Ss := [.ret (.o2 .ix (.v 1) (.call 30 [.w 0, .o1 .len (.v 1)]))]
def d31 : FI := ⟨"_law_pick", top 38, ["w", "rows"], ["w", "rows"], ⟨[.w, .p], 2, b31⟩⟩
/-- 32 _law_alike: 0 seen 1 due 2 kind 3 key 4 k -/
def b32 : List Ss := [.ife (.o1 (.isa .dict) (.v 1)) [.ret (.an (.o1 (.isa .dict) (.v 0)) (.an (.o2 .eq (.o1 .sorted (.v 0)) (.o1 .sorted (.v 1))) (.o2 .eq (.cp [3] (.nm 3) (.ex (.v 1)) (some (.nt (.call 32 [.o2 .ix (.v 0) (.v 3), .o2 .ix (.v 1) (.v 3)]))) (.v 3)) (.lst []))))] [], .ife (.or (.o1 (.isa .tup) (.v 1)) (.o1 (.isa .lst) (.v 1))) [.asg false (.nm 2) (.ite (.o1 (.isa .tup) (.v 1)) (.o1 (.isa .tup) (.v 0)) (.o1 (.isa .lst) (.v 0))), .ret (.an (.v 2) (.an (.o2 .eq (.o1 .len (.v 0)) (.o1 .len (.v 1))) (.o2 .eq (.cp [4] (.nm 4) (.rg1 (.o1 .len (.v 1))) (some (.nt (.call 32 [.o2 .ix (.v 0) (.v 4), .o2 .ix (.v 1) (.v 4)]))) (.v 4)) (.lst []))))] [], .ife (.or (.o1 .isN (.v 1)) (.o1 (.isa .str) (.v 1))) [.ret (.ite (.o1 .isN (.v 1)) (.o1 .isN (.v 0)) (.an (.o1 (.isa .str) (.v 0)) (.o2 .eq (.v 0) (.v 1))))] [], .ret (.an (.o1 (.isa .int) (.v 0)) (.an (.o2 .eq (.o1 (.isa .bool) (.v 0)) (.o1 (.isa .bool) (.v 1))) (.o2 .eq (.v 0) (.v 1))))]
def d32 : FI := ⟨"_law_alike", top 39, ["seen", "due", "kind", "key", "k"], ["seen", "due"], ⟨[.p, .p], 5, b32⟩⟩
/-- 33 _law_sets: 0 row 1 k 2 found 3 layer 4 later 5 own 6 at 7 one -/
def b33 : List Ss := [.par [(2, false), (3, false)] [.lst [.tup []], .lst [.tup []]], .for (.nm 1) (.rg1 (.o1 .len (.v 0))) [.asg false (.nm 4) (.lst []), .for (.nm 5) (.ex (.v 3)) [.asg false (.nm 6) (.ite (.o2 .ne (.v 5) (.tup [])) (.o2 .add (.o2 .tindex (.v 0) (.o2 .ix (.v 5) (.o1 .neg (.c (.int 1))))) (.c (.int 1))) (.c (.int 0))), .asg false (.nm 4) (.o2 .add (.v 4) (.cp [7] (.nm 7) (.ex (.sl (.v 0) (some (.v 6)) none)) none (.o2 .add (.v 5) (.tup [.v 7]))))], .par [(2, false), (3, false)] [.o2 .add (.v 2) (.v 4), .v 4]], .ret (.v 2)]
def d33 : FI := ⟨"_law_sets", top 40, ["row", "k", "found", "layer", "later", "own", "at", "one"], ["row"], ⟨[.p], 8, b33⟩⟩
/-- 34 _law_heard: 0 bells 1 spot 2 name -/
def b34 : List Ss := [.ret (.o1 .tup (.cp [2] (.nm 2) (.ex (.o1 .sorted (.v 0))) (some (.o2 .le (.o2 .add (.o1 .abs (.o2 .sub (.o2 .ix (.o2 .ix (.o2 .ix (.v 0) (.v 2)) (.c (.int 0))) (.c (.int 0))) (.o2 .ix (.v 1) (.c (.int 0))))) (.o1 .abs (.o2 .sub (.o2 .ix (.o2 .ix (.o2 .ix (.v 0) (.v 2)) (.c (.int 0))) (.c (.int 1))) (.o2 .ix (.v 1) (.c (.int 1)))))) (.o2 .ix (.o2 .ix (.v 0) (.v 2)) (.c (.int 1))))) (.v 2)))]
def d34 : FI := ⟨"_law_heard", top 41, ["bells", "spot", "name"], ["bells", "spot"], ⟨[.p, .p], 3, b34⟩⟩
/-- 35 _law_bells: 0 w 1 bells 2 field_v 3 heard 4 told 5 alike 6 k 7 left 8 able 9 lot 10 name 11 wide 12 high 13 spot 14 some 15 now 16 rows 17 kinds 18 wider 19 least 20 own 21 x 22 y 23 more 24 most 25 n 26 old -/
def b35 : List Ss := [.par [(11, false), (12, false)] [.o2 .add (.c (.int 1)) (.call 30 [.w 0, .c (.int 4)]), .o2 .add (.c (.int 1)) (.call 30 [.w 0, .c (.int 4)])], .asg false (.nm 1) (.o1 .dict (.cp [10] (.nm 10) (.ex (.sl (.lst [.c (.str "a"), .c (.str "b"), .c (.str "c")]) none (some (.call 30 [.w 0, .c (.int 4)])))) none (.tup [.v 10, .tup [.tup [.o2 .sub (.call 30 [.w 0, .c (.int 6)]) (.c (.int 1)), .o2 .sub (.call 30 [.w 0, .c (.int 6)]) (.c (.int 1))], .call 30 [.w 0, .c (.int 5)]]]))), .asg false (.nm 2) (.cp [6] (.nm 6) (.rg1 (.o2 .mul (.v 11) (.v 12))) none (.tup [.o2 .fdiv (.v 6) (.v 12), .o2 .sub (.v 6) (.o2 .mul (.o2 .fdiv (.v 6) (.v 12)) (.v 12))])), .asg false (.nm 3) (.o1 .dict (.cp [13] (.nm 13) (.ex (.v 2)) none (.tup [.v 13, .call 34 [.v 1, .v 13]]))), .par [(13, false), (14, false)] [.call 31 [.w 0, .v 2], .o1 .tup (.cp [10] (.nm 10) (.ex (.o1 .sorted (.v 1))) (some (.o2 .eq (.call 30 [.w 0, .c (.int 2)]) (.c (.int 0)))) (.v 10))], .asg false (.nm 4) (.tup [.call 4 [.o1 .dict (.v 1), .v 13], .call 6 [.o1 .dict (.v 1), .v 11, .v 12, .v 14], .call 7 [.o1 .dict (.v 1), .v 11, .v 12, .v 13], .call 12 [.o1 .dict (.v 1), .v 11, .v 12]]), .asg false (.nm 5) (.cp [20] (.nm 20) (.ex (.v 2)) (some (.o2 .eq (.o2 .ix (.v 3) (.v 20)) (.o2 .ix (.v 3) (.v 13)))) (.v 20)), .ife (.nt (.call 32 [.v 4, .tup [.o2 .ix (.v 3) (.v 13), .o1 .tup (.cp [20] (.nm 20) (.ex (.v 2)) (some (.o2 .eq (.o2 .ix (.v 3) (.v 20)) (.v 14))) (.v 20)), .o2 .eq (.v 5) (.lst [.v 13]), .o1 .tup (.cp [20] (.nm 20) (.ex (.v 2)) (some (.o2 .eq (.o2 .ix (.v 3) (.v 20)) (.tup []))) (.v 20))]])) [.ret (.c (.bool false))] [], .par [(15, false), (16, true)] [.v 13, .lst []], .for (.nm 6) (.rg1 (.call 30 [.w 0, .c (.int 5)])) [.app 16 (.ite (.o2 .gt (.call 30 [.w 0, .c (.int 6)]) (.c (.int 0))) (.o2 .ix (.v 3) (.v 15)) (.v 14)), .asg false (.tp [.nm 21, .nm 22]) (.v 15), .asg false (.nm 15) (.call 31 [.w 0, .cp [20] (.nm 20) (.ex (.lst [.tup [.o2 .sub (.v 21) (.c (.int 1)), .v 22], .tup [.o2 .add (.v 21) (.c (.int 1)), .v 22], .tup [.v 21, .o2 .sub (.v 22) (.c (.int 1))], .tup [.v 21, .o2 .add (.v 22) (.c (.int 1))], .v 15])) (some (.o2 .isin (.v 20) (.v 3))) (.v 20)])], .asg false (.nm 7) (.v 2), .for (.nm 6) (.rg1 (.o1 .len (.b 16))) [.asg false (.nm 7) (.cp [20] (.nm 20) (.ex (.v 2)) (some (.an (.o2 .eq (.o2 .ix (.v 3) (.v 20)) (.o2 .ix (.b 16) (.v 6))) (.or (.o2 .eq (.v 6) (.c (.int 0))) (.o2 .ne (.cp [26] (.nm 26) (.ex (.v 7)) (some (.o2 .lt (.o2 .add (.o1 .abs (.o2 .sub (.o2 .ix (.v 26) (.c (.int 0))) (.o2 .ix (.v 20) (.c (.int 0))))) (.o1 .abs (.o2 .sub (.o2 .ix (.v 26) (.c (.int 1))) (.o2 .ix (.v 20) (.c (.int 1)))))) (.c (.int 2)))) (.v 26)) (.lst []))))) (.v 20))], .asg false (.nm 8) (.lst []), .for (.nm 9) (.ex (.call 33 [.o1 .tup (.o1 .sorted (.v 1))])) [.asg false (.nm 17) (.o1 .dict (.cp [20] (.nm 20) (.ex (.v 2)) none (.tup [.o1 .tup (.cp [10] (.nm 10) (.ex (.o2 .ix (.v 3) (.v 20))) (some (.o2 .isin (.v 10) (.v 9))) (.v 10)), .c (.bool true)]))), .asg false (.nm 8) (.o2 .add (.v 8) (.ite (.o2 .eq (.o1 .len (.v 17)) (.o1 .len (.o1 .dict (.cp [20] (.nm 20) (.ex (.v 2)) none (.tup [.o2 .ix (.v 3) (.v 20), .c (.bool true)]))))) (.lst [.v 9]) (.lst [])))], .ife (.nt (.call 32 [.tup [.call 8 [.o1 .dict (.v 1), .v 11, .v 12, .o1 .tup (.b 16)], .call 11 [.o1 .dict (.v 1), .v 11, .v 12]], .tup [.o1 .tup (.v 7), .o2 .ix (.v 8) (.c (.int 0))]])) [.ret (.c (.bool false))] [], .for (.nm 10) (.ex (.o1 .sorted (.v 1))) [.par [(23, false), (24, false)] [.call 30 [.w 0, .c (.int 4)], .call 30 [.w 0, .c (.int 5)]], .asg false (.nm 18) (.cp [25] (.nm 25) (.rg1 (.c (.int 6))) none (.o1 .dict (.cp [20] (.nm 20) (.ex (.v 1)) none (.tup [.v 20, .tup [.o2 .ix (.o2 .ix (.v 1) (.v 20)) (.c (.int 0)), .o2 .add (.o2 .ix (.o2 .ix (.v 1) (.v 20)) (.c (.int 1))) (.ite (.o2 .eq (.v 20) (.v 10)) (.v 25) (.c (.int 0)))]])))), .asg false (.nm 19) (.cp [25] (.nm 25) (.rg1 (.o2 .add (.v 24) (.c (.int 1)))) (some (.o2 .eq (.cp [20] (.nm 20) (.ex (.v 2)) (some (.o2 .eq (.call 34 [.o2 .ix (.v 18) (.v 25), .v 20]) (.tup []))) (.v 20)) (.lst []))) (.v 25)), .ife (.nt (.call 32 [.tup [.call 13 [.o1 .dict (.v 1), .v 10, .v 23], .call 14 [.o1 .dict (.v 1), .v 11, .v 12, .v 10, .v 24]], .tup [.o2 .ix (.v 18) (.v 23), .ite (.o2 .ne (.v 19) (.lst [])) (.o2 .ix (.v 19) (.c (.int 0))) (.c (.none))]])) [.ret (.c (.bool false))] []], .ret (.c (.bool true))]
def d35 : FI := ⟨"_law_bells", top 42, ["w", "bells", "field_v", "heard", "told", "alike", "k", "left", "able", "lot", "name", "wide", "high", "spot", "some", "now", "rows", "kinds", "wider", "least", "own", "x", "y", "more", "most", "n", "old"], ["w"], ⟨[.w], 27, b35⟩⟩
/-- 36 _law_points:  -/
def b36 : List Ss := [.ret (.lst [.tup [.c (.str "n"), .c (.int 0), .c (.int 1)], .tup [.c (.str "ne"), .c (.int 1), .c (.int 1)], .tup [.c (.str "e"), .c (.int 1), .c (.int 0)], .tup [.c (.str "se"), .c (.int 1), .o1 .neg (.c (.int 1))], .tup [.c (.str "s"), .c (.int 0), .o1 .neg (.c (.int 1))], .tup [.c (.str "sw"), .o1 .neg (.c (.int 1)), .o1 .neg (.c (.int 1))], .tup [.c (.str "w"), .o1 .neg (.c (.int 1)), .c (.int 0)], .tup [.c (.str "nw"), .o1 .neg (.c (.int 1)), .c (.int 1)]])]
def d36 : FI := ⟨"_law_points", top 43, [], [], ⟨[], 0, b36⟩⟩
/-- 37 _law_on: 0 point 1 k 2 names 3 own -/
def b37 : List Ss := [.asg false (.nm 2) (.cp [3] (.nm 3) (.ex (.call 36 [])) none (.o2 .ix (.v 3) (.c (.int 0)))), .ret (.o2 .ix (.v 2) (.o2 .band (.o2 .add (.o2 .lindex (.v 2) (.v 0)) (.v 1)) (.c (.int 7))))]
def d37 : FI := ⟨"_law_on", top 44, ["point", "k", "names", "own"], ["point", "k"], ⟨[.p, .p], 4, b37⟩⟩
/-- 38 _law_passed: 0 course 1 found 2 point 3 steps 4 step 5 a 6 b 7 own -/
def b38 : List Ss := [.asg true (.nm 1) (.lst [.tup [.c (.int 0), .c (.int 0)]]), .for (.tp [.nm 2, .nm 3]) (.ex (.v 0)) [.asg false (.tp [.nm 5, .nm 6]) (.o2 .ix (.cp [7] (.nm 7) (.ex (.call 36 [])) (some (.o2 .eq (.o2 .ix (.v 7) (.c (.int 0))) (.v 2))) (.sl (.v 7) (some (.c (.int 1))) none)) (.c (.int 0))), .for (.nm 4) (.rg1 (.v 3)) [.app 1 (.tup [.o2 .add (.o2 .ix (.o2 .ix (.b 1) (.o1 .neg (.c (.int 1)))) (.c (.int 0))) (.v 5), .o2 .add (.o2 .ix (.o2 .ix (.b 1) (.o1 .neg (.c (.int 1)))) (.c (.int 1))) (.v 6)])]], .fz 1, .ret (.v 1)]
def d38 : FI := ⟨"_law_passed", top 45, ["course", "found", "point", "steps", "step", "a", "b", "own"], ["course"], ⟨[.p], 8, b38⟩⟩
/-- 39 _law_turned: 0 course 1 k 2 point 3 steps -/
def b39 : List Ss := [.ret (.o1 .tup (.cp [2, 3] (.tp [.nm 2, .nm 3]) (.ex (.v 0)) none (.tup [.call 37 [.v 2, .v 1], .v 3])))]
def d39 : FI := ⟨"_law_turned", top 46, ["course", "k", "point", "steps"], ["course", "k"], ⟨[.p, .p], 4, b39⟩⟩
/-- 40 _law_courses: 0 w 1 names 2 course 3 back 4 told 5 ends 6 rows 7 each 8 twice 9 n 10 by 11 slant 12 k 13 wrong 14 spots 15 point 16 steps 17 longer 18 row 19 goal 20 legs 21 way 22 x 23 y 24 own 25 spot -/
def b40 : List Ss := [.asg false (.nm 1) (.cp [24] (.nm 24) (.ex (.call 36 [])) none (.o2 .ix (.v 24) (.c (.int 0)))), .asg false (.nm 2) (.o1 .tup (.cp [12] (.nm 12) (.rg1 (.call 30 [.w 0, .c (.int 5)])) none (.tup [.call 31 [.w 0, .v 1], .call 30 [.w 0, .c (.int 5)]]))), .par [(12, false), (13, false), (14, false)] [.o2 .sub (.call 30 [.w 0, .c (.int 9)]) (.c (.int 4)), .call 30 [.w 0, .c (.int 3)], .call 38 [.v 2]], .asg false (.nm 3) (.o1 .tup (.cp [15, 16] (.tp [.nm 15, .nm 16]) (.ex (.rev (.v 2))) none (.tup [.call 37 [.v 15, .c (.int 4)], .v 16]))), .asg false (.nm 4) (.tup [.call 17 [.v 2], .call 19 [.v 2], .call 18 [.v 2, .v 12], .call 27 [.v 2], .call 26 [.v 2]]), .ife (.or (.nt (.call 32 [.v 4, .tup [.o2 .ix (.v 14) (.o1 .neg (.c (.int 1))), .v 3, .call 39 [.v 2, .v 12], .o1 .tup (.v 14), .o2 .eq (.o2 .ix (.v 14) (.o1 .neg (.c (.int 1)))) (.tup [.c (.int 0), .c (.int 0)])]])) (.o2 .ne (.o2 .ix (.call 38 [.o2 .add (.v 2) (.v 3)]) (.o1 .neg (.c (.int 1)))) (.tup [.c (.int 0), .c (.int 0)]))) [.ret (.c (.bool false))] [], .asg false (.nm 5) (.o1 .tup (.o1 .sorted (.o1 .dict (.cp [24] (.nm 24) (.rg2 (.o2 .sub (.c (.int 0)) (.v 13)) (.o2 .add (.v 13) (.c (.int 1)))) none (.tup [.o2 .ix (.call 38 [.call 39 [.v 2, .v 24]]) (.o1 .neg (.c (.int 1))), .c (.bool true)]))))), .asg false (.nm 6) (.lst [.tup []]), .for (.tp [.nm 15, .nm 16]) (.ex (.v 2)) [.asg false (.nm 17) (.lst []), .for (.nm 18) (.ex (.v 6)) [.asg false (.nm 17) (.o2 .add (.v 17) (.cp [24] (.nm 24) (.rg2 (.o2 .sub (.c (.int 0)) (.v 13)) (.o2 .add (.v 13) (.c (.int 1)))) none (.o2 .add (.v 18) (.tup [.tup [.call 37 [.v 15, .v 24], .v 16]]))))], .asg false (.nm 6) (.v 17)], .asg false (.nm 7) (.o1 .tup (.o1 .sorted (.o1 .dict (.cp [18] (.nm 18) (.ex (.v 6)) none (.tup [.o2 .ix (.call 38 [.v 18]) (.o1 .neg (.c (.int 1))), .c (.bool true)]))))), .asg false (.nm 8) (.o1 .tup (.o1 .sorted (.o1 .dict (.cp [25] (.nm 25) (.ex (.v 14)) (some (.o2 .gt (.o2 .lcount (.v 14) (.v 25)) (.c (.int 1)))) (.tup [.v 25, .c (.bool true)]))))), .ife (.nt (.call 32 [.tup [.call 22 [.v 2, .v 13], .call 23 [.v 2, .v 13], .call 28 [.v 2]], .tup [.v 5, .v 7, .v 8]])) [.ret (.c (.bool false))] [], .par [(19, false), (20, false)] [.call 31 [.w 0, .lst [.call 31 [.w 0, .o1 .lst (.v 7)], .tup [.o2 .sub (.call 30 [.w 0, .c (.int 9)]) (.c (.int 4)), .o2 .sub (.call 30 [.w 0, .c (.int 9)]) (.c (.int 4))]]], .lst []], .for (.nm 9) (.rg1 (.o1 .len (.v 2))) [.asg false (.nm 20) (.o2 .add (.v 20) (.cp [15] (.nm 15) (.ex (.v 1)) (some (.an (.o2 .ne (.v 15) (.o2 .ix (.o2 .ix (.v 2) (.v 9)) (.c (.int 0)))) (.o2 .eq (.o2 .ix (.call 38 [.o2 .add (.o2 .add (.sl (.v 2) none (some (.v 9))) (.tup [.tup [.v 15, .o2 .ix (.o2 .ix (.v 2) (.v 9)) (.c (.int 1))]])) (.sl (.v 2) (some (.o2 .add (.v 9) (.c (.int 1)))) none)]) (.o1 .neg (.c (.int 1)))) (.v 19)))) (.tup [.v 9, .v 15])))], .asg false (.nm 10) (.o1 .tup (.cp [24] (.nm 24) (.rg2 (.o1 .neg (.c (.int 4))) (.c (.int 4))) (some (.o2 .eq (.o2 .ix (.call 38 [.call 39 [.v 2, .v 24]]) (.o1 .neg (.c (.int 1)))) (.v 19))) (.v 24))), .par [(21, false), (22, false), (23, false)] [.call 21 [.v 19], .o1 .abs (.o2 .ix (.v 19) (.c (.int 0))), .o1 .abs (.o2 .ix (.v 19) (.c (.int 1)))], .ife (.nt (.call 32 [.tup [.call 24 [.v 2, .v 19], .call 25 [.v 2, .v 19]], .tup [.v 10, .o1 .tup (.v 20)]])) [.ret (.c (.bool false))] [], .asg false (.nm 11) (.cp [24] (.nm 24) (.ex (.v 21)) (some (.o2 .eq (.o1 .len (.o2 .ix (.v 24) (.c (.int 0)))) (.c (.int 2)))) (.v 24)), .ret (.an (.o2 .eq (.o2 .ix (.call 38 [.v 21]) (.o1 .neg (.c (.int 1)))) (.v 19)) (.an (.o2 .eq (.o1 .sum (.cp [15, 16] (.tp [.nm 15, .nm 16]) (.ex (.v 21)) none (.v 16))) (.o2 .max (.v 22) (.v 23))) (.an (.o2 .eq (.o1 .len (.v 21)) (.o2 .add (.ite (.o2 .gt (.o2 .min (.v 22) (.v 23)) (.c (.int 0))) (.c (.int 1)) (.c (.int 0))) (.ite (.o2 .ne (.v 22) (.v 23)) (.c (.int 1)) (.c (.int 0))))) (.o2 .eq (.v 11) (.sl (.o1 .lst (.v 21)) none (some (.o1 .len (.v 11))))))))]
def d40 : FI := ⟨"_law_courses", top 47, ["w", "names", "course", "back", "told", "ends", "rows", "each", "twice", "n", "by", "slant", "k", "wrong", "spots", "point", "steps", "longer", "row", "goal", "legs", "way", "x", "y", "own", "spot"], ["w"], ⟨[.w], 26, b40⟩⟩
def tblL : List (Nat × FI) := [(0, d0), (1, d1), (2, d2), (3, d3), (4, d4), (5, d5), (6, d6), (7, d7), (8, d8), (9, d9), (10, d10), (11, d11), (12, d12), (13, d13), (14, d14), (15, d15), (16, d16), (17, d17), (18, d18), (19, d19), (20, d20), (21, d21), (22, d22), (23, d23), (24, d24), (25, d25), (26, d26), (27, d27), (28, d28), (29, d29), (31, d31), (32, d32), (33, d33), (34, d34), (35, d35), (36, d36), (37, d37), (38, d38), (39, d39), (40, d40)]
def gfn : Nat → Option (Str × List Pm)
  | 0 => some (("once_each" : Str), ([.p] : List Pm))
  | 1 => some (("choices" : Str), ([.p, .p] : List Pm))
  | 2 => some (("all_sets" : Str), ([.p] : List Pm))
  | 3 => some (("far" : Str), ([.p, .p] : List Pm))
  | 4 => some (("heard_at" : Str), ([.p, .p] : List Pm))
  | 5 => some (("field" : Str), ([.p, .p] : List Pm))
  | 6 => some (("spots_with" : Str), ([.p, .p, .p, .p] : List Pm))
  | 7 => some (("is_told_by" : Str), ([.p, .p, .p, .p] : List Pm))
  | 8 => some (("walk_by" : Str), ([.p, .p, .p, .p] : List Pm))
  | 9 => some (("only_bells" : Str), ([.p, .p] : List Pm))
  | 10 => some (("kinds_of" : Str), ([.p, .p, .p] : List Pm))
  | 11 => some (("fewest_bells" : Str), ([.p, .p, .p] : List Pm))
  | 12 => some (("deaf_spots" : Str), ([.p, .p, .p] : List Pm))
  | 13 => some (("louder" : Str), ([.p, .p, .p] : List Pm))
  | 14 => some (("least_louder" : Str), ([.p, .p, .p, .p, .p] : List Pm))
  | 15 => some (("step_of" : Str), ([.p] : List Pm))
  | 16 => some (("point_on" : Str), ([.p, .p] : List Pm))
  | 17 => some (("end_of" : Str), ([.p] : List Pm))
  | 18 => some (("turned_course" : Str), ([.p, .p] : List Pm))
  | 19 => some (("back_course" : Str), ([.p] : List Pm))
  | 20 => some (("sign_of" : Str), ([.p] : List Pm))
  | 21 => some (("straight" : Str), ([.p] : List Pm))
  | 22 => some (("could_end" : Str), ([.p, .p] : List Pm))
  | 23 => some (("could_end_each" : Str), ([.p, .p] : List Pm))
  | 24 => some (("which_wrong" : Str), ([.p, .p] : List Pm))
  | 25 => some (("one_leg_wrong" : Str), ([.p, .p] : List Pm))
  | 26 => some (("closes" : Str), ([.p] : List Pm))
  | 27 => some (("passes" : Str), ([.p] : List Pm))
  | 28 => some (("crossings" : Str), ([.p] : List Pm))
  | 29 => some (("_law_draws" : Str), ([.p, .p] : List Pm))
  | 30 => some (("_law_next" : Str), ([.w, .p] : List Pm))
  | 31 => some (("_law_pick" : Str), ([.w, .p] : List Pm))
  | 32 => some (("_law_alike" : Str), ([.p, .p] : List Pm))
  | 33 => some (("_law_sets" : Str), ([.p] : List Pm))
  | 34 => some (("_law_heard" : Str), ([.p, .p] : List Pm))
  | 35 => some (("_law_bells" : Str), ([.w] : List Pm))
  | 36 => some (("_law_points" : Str), ([] : List Pm))
  | 37 => some (("_law_on" : Str), ([.p, .p] : List Pm))
  | 38 => some (("_law_passed" : Str), ([.p] : List Pm))
  | 39 => some (("_law_turned" : Str), ([.p, .p] : List Pm))
  | 40 => some (("_law_courses" : Str), ([.w] : List Pm))
  | _ => none
def ggl : Nat → Option Str
  | 42 => some ("POINTS" : Str)
  | 43 => some ("STEPS" : Str)
  | 44 => some ("ROUND" : Str)
  | _ => none
def G : GT := ⟨gfn, ggl⟩
theorem ok0 : okB G 60 d0 = true := by decide +kernel
theorem ok1 : okB G 60 d1 = true := by decide +kernel
theorem ok2 : okB G 60 d2 = true := by decide +kernel
theorem ok3 : okB G 60 d3 = true := by decide +kernel
theorem ok4 : okB G 60 d4 = true := by decide +kernel
theorem ok5 : okB G 60 d5 = true := by decide +kernel
theorem ok6 : okB G 60 d6 = true := by decide +kernel
theorem ok7 : okB G 60 d7 = true := by decide +kernel
theorem ok8 : okB G 60 d8 = true := by decide +kernel
theorem ok9 : okB G 60 d9 = true := by decide +kernel
theorem ok10 : okB G 60 d10 = true := by decide +kernel
theorem ok11 : okB G 60 d11 = true := by decide +kernel
theorem ok12 : okB G 60 d12 = true := by decide +kernel
theorem ok13 : okB G 60 d13 = true := by decide +kernel
theorem ok14 : okB G 60 d14 = true := by decide +kernel
theorem ok15 : okB G 60 d15 = true := by decide +kernel
theorem ok16 : okB G 60 d16 = true := by decide +kernel
theorem ok17 : okB G 60 d17 = true := by decide +kernel
theorem ok18 : okB G 60 d18 = true := by decide +kernel
theorem ok19 : okB G 60 d19 = true := by decide +kernel
theorem ok20 : okB G 60 d20 = true := by decide +kernel
theorem ok21 : okB G 60 d21 = true := by decide +kernel
theorem ok22 : okB G 60 d22 = true := by decide +kernel
theorem ok23 : okB G 60 d23 = true := by decide +kernel
theorem ok24 : okB G 60 d24 = true := by decide +kernel
theorem ok25 : okB G 60 d25 = true := by decide +kernel
theorem ok26 : okB G 60 d26 = true := by decide +kernel
theorem ok27 : okB G 60 d27 = true := by decide +kernel
theorem ok28 : okB G 60 d28 = true := by decide +kernel
theorem ok29 : okB G 60 d29 = true := by decide +kernel
theorem ok31 : okB G 60 d31 = true := by decide +kernel
theorem ok32 : okB G 60 d32 = true := by decide +kernel
theorem ok33 : okB G 60 d33 = true := by decide +kernel
theorem ok34 : okB G 60 d34 = true := by decide +kernel
theorem ok35 : okB G 60 d35 = true := by decide +kernel
theorem ok36 : okB G 60 d36 = true := by decide +kernel
theorem ok37 : okB G 60 d37 = true := by decide +kernel
theorem ok38 : okB G 60 d38 = true := by decide +kernel
theorem ok39 : okB G 60 d39 = true := by decide +kernel
theorem ok40 : okB G 60 d40 = true := by decide +kernel
end K29
end RW
/-! k29, plain: bells. -/
namespace RW.PL
open PySem PySem.W RW.K29
namespace K29P
def ptsL : List Str := ["n", "ne", "e", "se", "s", "sw", "w", "nw"]
def stpL : List (Int × Int) := [(0, 1), (1, 1), (1, 0), (1, -1), (0, -1), (-1, -1), (-1, 0), (-1, 1)]
def prim (dr : List Int) (j : Nat) : Option (List PyData → M PyData) := match j with
  | 30 => some (nextP dr)
  | 42 => some fun _ => ret (.tuple (ptsL.map toD))
  | 43 => some fun _ => ret (.tuple (stpL.map toD))
  | 44 => some fun _ => ret (.int 8)
  | _ => none
def tbl (j : Nat) : Option FI := tblL.lookup j
def R (dr : List Int) (k : Nat) : Orc := run (prim dr) (tblT tbl) k
theorem fret {dr : List Int} {k j : Nat} {F : Fn} {ds : List PyData} {ρ : Sls} {d : PyData} (hp : prim dr j = none) (ht : tblT tbl j = some F) (he : enter F ds = some ρ) (h : evTs (R dr k) F.body ρ = ret (.rt d)) : R dr (k + 1) j ds = ret d := fn_ret hp ht he h
def absI (i : Int) : Int := if i < 0 then -i else i
def dist (a b : Int × Int) : Int := absI (a.1 - b.1) + absI (a.2 - b.2)
abbrev Spot := Int × Int
abbrev Bells := List (Str × (Spot × Int))
def encB (bs : Bells) : PyData := encD (fun v : Spot × Int => toD v) bs
def encH (h : List Str) : PyData := .tuple (h.map toD)
def encF (f : List Spot) : PyData := .tuple (f.map toD)
structure OkB (bs : Bells) : Prop where
  srt : sortT (bs.map Prod.fst) = bs.map Prod.fst
  nd : (bs.map Prod.fst).Nodup
  len : bs.length ≤ 3
def heardT (bs : Bells) (s : Spot) : List Str := (bs.filter fun b => decide (dist b.2.1 s ≤ b.2.2)).map Prod.fst
instance : Fact' (Datum.depth (Int × Int) ≤ 60) := ⟨by decide⟩
instance : Fact' (DKey.kd (Int × Int) ≤ 8) := ⟨by decide⟩
instance : Fact' (DKey.kd (Tup Str) ≤ 8) := ⟨by decide⟩
section
variable (dr : List Int) (k : Nat)
theorem r_far (a b : Spot) : R dr (k + 1) 3 [toD a, toD b] = ret (.int (dist a b)) := by
  refine fret (F := d3.f) (ρ := [.pu (toD a), .pu (toD b)]) rfl rfl rfl ?_
  show evTs _ b3 _ = _
  simp [b3, eTs_cons, eT_ret, slGet, u_ix0, u_ix1, td_i, dist, absI]
theorem r_heard {bs : Bells} (h : OkB bs) (s : Spot) : R dr (k + 2) 4 [encB bs, toD s] = ret (encH (heardT bs s)) := by
  refine fret (F := d4.f) (ρ := [.pu (encB bs), .pu (toD s), .no]) rfl rfl rfl ?_
  show evTs _ b4 _ = _
  have hl := h.len
  have e := cp_pure (C := R dr (k + 1)) (ρ := [.pu (encB bs), .pu (toD s), .no]) (l := bs) (enc := fun b => toD b.1) (p := fun b => decide (dist b.2.1 s ≤ b.2.2)) (g := fun b => toD b.1) (own := [2]) (t := .nm 2)
    (s := .ex (.o1 .sorted (.v 0))) (q := some (.o2 .le (.call 3 [.o2 .ix (.o2 .ix (.v 0) (.v 2)) (.c (.int 0)), .v 1]) (.o2 .ix (.o2 .ix (.v 0) (.v 2)) (.c (.int 1))))) (e := .v 2)
    (by simp [slGet, encB, u_srt, srt_enc _ bs (by rw [sz_eq]; omega), h.srt, it_l, Function.comp_def]) (by rw [sz_eq]; omega) fun b hb => by
      have e1 : u2 .ix (encB bs) (toD b.1) = some (toD b.2) := by rw [encB, u_ixd, getT_mem h.nd hb]; rfl
      exact ⟨[.pu (encB bs), .pu (toD s), .pu (toD b.1)], rfl, by simp [slGet, e1, u_ix0, u_ix1, r_far, td_i], fun _ => by simp [slGet]⟩
  simp [b4, eTs_cons, eT_ret, e, encH, heardT, Function.comp_def]
theorem l_heard {bs : Bells} (h : OkB bs) (s : Spot) : R dr (k + 1) 34 [encB bs, toD s] = ret (encH (heardT bs s)) := by
  refine fret (F := d34.f) (ρ := [.pu (encB bs), .pu (toD s), .no]) rfl rfl rfl ?_
  show evTs _ b34 _ = _
  have hl := h.len
  have e := cp_pure (C := R dr k) (ρ := [.pu (encB bs), .pu (toD s), .no]) (l := bs) (enc := fun b => toD b.1) (p := fun b => decide (dist b.2.1 s ≤ b.2.2)) (g := fun b => toD b.1) (own := [2]) (t := .nm 2)
    (s := .ex (.o1 .sorted (.v 0))) (q := some (.o2 .le (.o2 .add (.o1 .abs (.o2 .sub (.o2 .ix (.o2 .ix (.o2 .ix (.v 0) (.v 2)) (.c (.int 0))) (.c (.int 0))) (.o2 .ix (.v 1) (.c (.int 0))))) (.o1 .abs (.o2 .sub (.o2 .ix (.o2 .ix (.o2 .ix (.v 0) (.v 2)) (.c (.int 0))) (.c (.int 1))) (.o2 .ix (.v 1) (.c (.int 1)))))) (.o2 .ix (.o2 .ix (.v 0) (.v 2)) (.c (.int 1))))) (e := .v 2)
    (by simp [slGet, encB, u_srt, srt_enc _ bs (by rw [sz_eq]; omega), h.srt, it_l, Function.comp_def]) (by rw [sz_eq]; omega) fun b hb => by
      have e1 : u2 .ix (encB bs) (toD b.1) = some (toD b.2) := by rw [encB, u_ixd, getT_mem h.nd hb]; rfl
      exact ⟨[.pu (encB bs), .pu (toD s), .pu (toD b.1)], rfl, by simp [slGet, e1, u_ix0, u_ix1, td_i, dist, absI]; rfl, fun _ => by simp [slGet]⟩
  simp [b34, eTs_cons, eT_ret, e, encH, heardT, Function.comp_def]
def fieldT (w h : Int) : List Spot := (irng 0 w).flatMap fun x => (irng 0 h).map fun y => (x, y)
theorem length_fieldT {w h : Int} (hw : w ≤ 4) (hh : h ≤ 4) : (fieldT w h).length ≤ 16 := by
  unfold fieldT
  rw [List.length_flatMap]
  have : ∀ l : List Int, (l.map fun x => ((irng 0 h).map fun y => ((x, y) : Spot)).length).sum ≤ 4 * l.length := by
    intro l
    induction l with
    | nil => simp
    | cons a l ih =>
      simp only [List.map_cons, List.sum_cons, List.length_cons, List.length_map, length_ints] at ih ⊢
      omega
  have h1 := this (irng 0 w)
  rw [length_ints] at h1
  omega
theorem r_field {w h : Int} (hw : w ≤ 4) (hh : h ≤ 4) (hw0 : 0 ≤ w) (hh0 : 0 ≤ h) : R dr (k + 1) 5 [.int w, .int h] = ret (.list ((fieldT w h).map toD)) := by
  refine fret (F := d5.f) (ρ := [.pu (.int w), .pu (.int h), .no, .no]) rfl rfl rfl ?_
  show evTs _ b5 _ = _
  have hlen := length_fieldT hw hh
  have e := cp2_pure (C := R dr k) (ρ := [.pu (.int w), .pu (.int h), .no, .no]) (l := irng 0 w) (enc := fun x => toD x) (p := fun _ => true) (l2 := fun _ => irng 0 h) (enc2 := fun _ y => toD y) (p2 := fun _ _ => true) (g := fun x y => toD ((x, y) : Spot))
    (own := [2, 3]) (own2 := [3]) (t := .nm 2) (s := .rg1 (.v 0)) (q := none) (t2 := .nm 3) (s2 := .rg1 (.v 1)) (q2 := none) (e := .tup [.v 2, .v 3])
    (by simp [slGet, rng_t (a := 0) (b := w) (by omega) (by omega) (by omega) (by omega)])
    (by rw [sz_eq]; rw [fieldT, List.length_flatMap] at hlen; rw [List.length_flatMap]; simp only [List.length_map] at hlen ⊢; omega)
    fun x hx => ⟨[.pu (.int w), .pu (.int h), .pu (toD x), .no], rfl, by simp, fun _ => ⟨by simp [slGet, rng_t (a := 0) (b := h) (by omega) (by omega) (by omega) (by omega)],
      fun y hy => ⟨[.pu (.int w), .pu (.int h), .pu (toD x), .pu (toD y)], rfl, by simp, fun _ => by simp [slGet, td_p]⟩⟩⟩
  simp [b5, eTs_cons, eT_ret, e, fieldT, List.map_flatMap, Function.comp_def]
def withT (bs : Bells) (w h : Int) (hd : List Str) : List Spot := (fieldT w h).filter fun s => decide (heardT bs s = hd)
theorem length_withT {w h : Int} (hw : w ≤ 4) (hh : h ≤ 4) (bs : Bells) (hd : List Str) : (withT bs w h hd).length ≤ 16 := Nat.le_trans (List.length_filter_le _ _) (length_fieldT hw hh)
section
variable {w h : Int} (hw : w ≤ 4) (hh : h ≤ 4) (hw0 : 0 ≤ w) (hh0 : 0 ≤ h)
include hw hh hw0 hh0
theorem r_with {bs : Bells} (ok : OkB bs) (hd : List Str) : R dr (k + 3) 6 [encB bs, .int w, .int h, encH hd] = ret (encF (withT bs w h hd)) := by
  refine fret (F := d6.f) (ρ := [.pu (encB bs), .pu (.int w), .pu (.int h), .pu (encH hd), .no]) rfl rfl rfl ?_
  show evTs _ b6 _ = _
  have hlen := length_fieldT hw hh
  have e := cp_pure (C := R dr (k + 2)) (ρ := [.pu (encB bs), .pu (.int w), .pu (.int h), .pu (encH hd), .no]) (l := fieldT w h) (enc := fun s => toD s) (p := fun s => decide (heardT bs s = hd)) (g := fun s => toD s) (own := [4]) (t := .nm 4)
    (s := .ex (.call 5 [.v 1, .v 2])) (q := some (.o2 .eq (.call 4 [.v 0, .v 4]) (.v 3))) (e := .v 4)
    (by simp [slGet, r_field dr (k + 1) hw hh hw0 hh0, it_l]) (by rw [sz_eq]; omega) fun s hs => by
      exact ⟨[.pu (encB bs), .pu (.int w), .pu (.int h), .pu (encH hd), .pu (toD s)], rfl, by simp [slGet, r_heard dr k ok, encH, u_eqU (α := Str) (by decide)], fun _ => by simp [slGet]⟩
  simp [b6, eTs_cons, eT_ret, e, encF, withT]
theorem r_told {bs : Bells} (ok : OkB bs) (s : Spot) : R dr (k + 4) 7 [encB bs, .int w, .int h, toD s] = ret (.bool (decide (withT bs w h (heardT bs s) = [s]))) := by
  refine fret (F := d7.f) (ρ := [.pu (encB bs), .pu (.int w), .pu (.int h), .pu (toD s)]) rfl rfl rfl ?_
  show evTs _ b7 _ = _
  have e := u_eqU (α := Spot) (by decide) (withT bs w h (heardT bs s)) [s]
  simp only [List.map_cons, List.map_nil] at e
  simp [b7, eTs_cons, eT_ret, slGet, r_heard dr (k + 1) ok, r_with dr k hw hh hw0 hh0 ok, encF, e]
theorem r_deaf {bs : Bells} (ok : OkB bs) : R dr (k + 4) 12 [encB bs, .int w, .int h] = ret (encF (withT bs w h [])) := by
  refine fret (F := d12.f) (ρ := [.pu (encB bs), .pu (.int w), .pu (.int h)]) rfl rfl rfl ?_
  show evTs _ b12 _ = _
  have e := r_with dr k hw hh hw0 hh0 ok []
  simp only [encH, List.map_nil] at e
  simp [b12, eTs_cons, eT_ret, slGet, e]
theorem r_kinds {bs : Bells} (ok : OkB bs) : R dr (k + 3) 10 [encB bs, .int w, .int h] = ret (.int (dedT ((fieldT w h).map fun s => (⟨heardT bs s⟩ : Tup Str))).length) := by
  refine fret (F := d10.f) (ρ := [.pu (encB bs), .pu (.int w), .pu (.int h), .no]) rfl rfl rfl ?_
  show evTs _ b10 _ = _
  have hlen := length_fieldT hw hh
  have e := cp_map (C := R dr (k + 2)) (ρ := [.pu (encB bs), .pu (.int w), .pu (.int h), .no]) (l := fieldT w h) (enc := fun s => toD s) (g := fun s => encH (heardT bs s)) (own := [3]) (t := .nm 3)
    (s := .ex (.call 5 [.v 1, .v 2])) (e := .call 4 [.v 0, .v 3])
    (by simp [slGet, r_field dr (k + 1) hw hh hw0 hh0, it_l]) (by rw [sz_eq]; omega) fun s hs => by
      exact ⟨[.pu (encB bs), .pu (.int w), .pu (.int h), .pu (toD s)], rfl, by simp [slGet, r_heard dr k ok]⟩
  have e2 := lenSet_t ((fieldT w h).map fun s => (⟨heardT bs s⟩ : Tup Str)) (by rw [List.length_map]; omega)
  rw [List.map_map, show (toD ∘ fun s => (⟨heardT bs s⟩ : Tup Str)) = fun s => encH (heardT bs s) from rfl] at e2
  simp [b10, eTs_cons, eT_ret, e, u_lenset, e2]
end
end
end K29P
end RW.PL
/-! Plain: all sets. -/
namespace RW.PL
open PySem PySem.W
section
variable {α : Type}
/-- all sets of so many, with what stands behind the last -/
def chP : List α → Nat → List (List α × List α)
  | l, 0 => [([], l)]
  | [], _ + 1 => []
  | a :: l, k + 1 => ((chP l k).map fun p => (a :: p.1, p.2)) ++ chP l (k + 1)
def chT (l : List α) (k : Nat) : List (List α) := (chP l k).map Prod.fst
/-- all sets, the fewest first -/
def setsT (l : List α) : List (List α) := (List.range (l.length + 1)).flatMap (chT l)
theorem chP_zero (l : List α) : chP l 0 = [([], l)] := by cases l <;> rfl
theorem chT_zero (l : List α) : chT l 0 = [[]] := by rw [chT, chP_zero]; rfl
theorem chT_nil (k : Nat) : chT ([] : List α) (k + 1) = [] := rfl
theorem chT_cons (a : α) (l : List α) (k : Nat) : chT (a :: l) (k + 1) = (chT l k).map (a :: ·) ++ chT l (k + 1) := by
  simp [chT, chP, List.map_map, Function.comp_def]
theorem chT_len : ∀ (l : List α) (k : Nat), (chT l k).length ≤ 2 ^ l.length
  | l, 0 => by rw [chT_zero]; exact Nat.one_le_two_pow
  | [], k + 1 => by rw [chT_nil]; exact Nat.zero_le _
  | a :: l, k + 1 => by
    rw [chT_cons, List.length_append, List.length_map, List.length_cons, Nat.pow_succ]
    have := chT_len l k
    have := chT_len l (k + 1)
    omega
theorem ch_range [Inhabited α] (k : Nat) : ∀ l : List α, ((List.range l.length).flatMap fun i => (chT (l.drop (i + 1)) k).map (l.getD i default :: ·)) = chT l (k + 1)
  | [] => by rw [chT_nil]; rfl
  | a :: l => by
    rw [chT_cons, List.length_cons, List.range_succ_eq_map, List.flatMap_cons, List.flatMap_map, ← ch_range k l]
    rfl
theorem flat_pre {β : Type} (f : Nat → List β) {n m : Nat} (h : n ≤ m) : ((List.range n).flatMap f).length ≤ ((List.range m).flatMap f).length := by
  obtain ⟨d, rfl⟩ := Nat.le.dest h
  rw [List.range_add, List.flatMap_append, List.length_append]
  omega
theorem flat_succ {β : Type} (f : Nat → List β) (n : Nat) : (List.range (n + 1)).flatMap f = (List.range n).flatMap f ++ f n := by
  rw [List.range_succ, List.flatMap_append]
  simp
/-- one more -/
def tails : List α → List (α × List α)
  | [] => []
  | a :: l => (a, l) :: tails l
theorem tails_fst : ∀ l : List α, (tails l).map Prod.fst = l
  | [] => rfl
  | a :: l => by rw [tails, List.map_cons, tails_fst l]
theorem chP_one : ∀ l : List α, chP l 1 = (tails l).map fun q => ([q.1], q.2)
  | [] => rfl
  | a :: l => by rw [chP, chP_zero, chP_one l]; rfl
theorem chP_step : ∀ (l : List α) (k : Nat), chP l (k + 1) = (chP l k).flatMap fun p => (tails p.2).map fun q => (p.1 ++ [q.1], q.2)
  | l, 0 => by rw [chP_zero, chP_one]; simp
  | [], k + 1 => rfl
  | a :: l, k + 1 => by
    rw [chP, chP_step l k, chP_step l (k + 1), chP, List.flatMap_append, List.flatMap_map, List.map_flatMap, chP_step l k]
    simp [List.map_map, Function.comp_def]
theorem chT_step (l : List α) (k : Nat) : chT l (k + 1) = (chP l k).flatMap fun p => p.2.map fun x => p.1 ++ [x] := by
  rw [chT, chP_step, List.map_flatMap]
  congr 1
  funext p
  rw [List.map_map, ← tails_fst p.2, List.map_map, tails_fst]
  rfl
/-- what stands behind -/
theorem chP_rest : ∀ (l : List α) (k : Nat) (p : List α × List α), p ∈ chP l k → (p.1 = [] → p.2 = l) ∧ ∀ h : p.1 ≠ [], ∃ pre, l = pre ++ p.1.getLast h :: p.2
  | l, 0, p, hp => by
    rw [chP_zero, List.mem_singleton] at hp
    subst hp
    exact ⟨fun _ => rfl, fun h => absurd rfl h⟩
  | [], k + 1, p, hp => by cases hp
  | a :: l, k + 1, p, hp => by
    rw [chP, List.mem_append, List.mem_map] at hp
    rcases hp with ⟨q, hq, rfl⟩ | hp
    · obtain ⟨h1, h2⟩ := chP_rest l k q hq
      refine ⟨fun h => (by cases h), fun h => ?_⟩
      by_cases c : q.1 = []
      · exact ⟨[], by simp [c, h1 c]⟩
      · obtain ⟨pre, e⟩ := h2 c
        exact ⟨a :: pre, by simp [List.getLast_cons c]; exact e⟩
    · obtain ⟨h1, h2⟩ := chP_rest l (k + 1) p hp
      refine ⟨fun h => ?_, fun h => ?_⟩
      · exfalso
        have : ∀ (l : List α) (k : Nat) (p : List α × List α), p ∈ chP l (k + 1) → p.1 ≠ [] := by
          intro l k p hp
          rw [chP_step, List.mem_flatMap] at hp
          obtain ⟨q, _, hq⟩ := hp
          rw [List.mem_map] at hq
          obtain ⟨r, _, rfl⟩ := hq
          simp
        exact this l k p hp h
      · obtain ⟨pre, e⟩ := h2 h
        exact ⟨a :: pre, by rw [List.cons_append, ← e]⟩
theorem chP_len : ∀ (l : List α) (k : Nat) (p : List α × List α), p ∈ chP l k → p.1.length = k
  | l, 0, p, hp => by rw [chP_zero, List.mem_singleton] at hp; subst hp; rfl
  | [], k + 1, p, hp => by cases hp
  | a :: l, k + 1, p, hp => by
    rw [chP, List.mem_append, List.mem_map] at hp
    rcases hp with ⟨q, hq, rfl⟩ | hp
    · simp [chP_len l k q hq]
    · exact chP_len l (k + 1) p hp
end
def bOnce : List Ss := [.ret (.o1 .tup (.o1 .sortedset (.v 0)))]
def bChoices (j : Nat) : List Ss := [.ife (.o2 .eq (.v 1) (.c (.int 0))) [.ret (.lst [.tup []])] [], .asg true (.nm 2) (.lst []), .for (.nm 3) (.rg1 (.o1 .len (.v 0))) [.ext 2 (.cp [4] (.nm 4) (.ex (.call j [.sl (.v 0) (some (.o2 .add (.v 3) (.c (.int 1)))) none, .o2 .sub (.v 1) (.c (.int 1))])) none (.o2 .add (.tup [.o2 .ix (.v 0) (.v 3)]) (.v 4)))], .fz 2, .ret (.v 2)]
def bAllSets (j : Nat) : List Ss := [.asg true (.nm 1) (.lst []), .for (.nm 2) (.rg1 (.o2 .add (.o1 .len (.v 0)) (.c (.int 1)))) [.ext 1 (.call j [.v 0, .v 2])], .fz 1, .ret (.v 1)]
def bLawSets : List Ss := [.par [(2, false), (3, false)] [.lst [.tup []], .lst [.tup []]], .for (.nm 1) (.rg1 (.o1 .len (.v 0))) [.asg false (.nm 4) (.lst []), .for (.nm 5) (.ex (.v 3)) [.asg false (.nm 6) (.ite (.o2 .ne (.v 5) (.tup [])) (.o2 .add (.o2 .tindex (.v 0) (.o2 .ix (.v 5) (.o1 .neg (.c (.int 1))))) (.c (.int 1))) (.c (.int 0))), .asg false (.nm 4) (.o2 .add (.v 4) (.cp [7] (.nm 7) (.ex (.sl (.v 0) (some (.v 6)) none)) none (.o2 .add (.v 5) (.tup [.v 7]))))], .par [(2, false), (3, false)] [.o2 .add (.v 2) (.v 4), .v 4]], .ret (.v 2)]
section
variable {prim : Nat → Option (List PyData → M PyData)} {T : Nat → Option Fn} {α : Type} [DecidableEq α] [Datum α]
abbrev tupT (l : List α) : PyData := .tuple (l.map toD)
theorem cut_from {β : Type} (xs : List β) (i : Nat) : cutL xs (some (i : Int)) none = xs.drop i := by
  unfold cutL sAt
  simp only [show ¬ ((i : Int) < 0) by omega, if_false, Int.toNat_natCast]
  rcases Nat.lt_or_ge i xs.length with h | h
  · rw [Nat.min_eq_left (by omega), List.take_of_length_le (by rw [List.length_drop]; omega)]
  · rw [Nat.min_eq_right h, List.drop_of_length_le (Nat.le_refl _), List.drop_of_length_le h, List.take_nil]
theorem cut_to {β : Type} (xs : List β) (i : Nat) : cutL xs none (some (i : Int)) = xs.take i := by
  unfold cutL sAt
  simp only [show ¬ ((i : Int) < 0) by omega, if_false, Int.toNat_natCast, List.drop_zero, Nat.sub_zero]
  rcases Nat.lt_or_ge i xs.length with h | h
  · rw [Nat.min_eq_left (by omega)]
  · rw [Nat.min_eq_right h, List.take_of_length_le (Nat.le_refl _), List.take_of_length_le h]
theorem choices_ok {j : Nat} (hp : prim j = none) (ht : T j = some ⟨[.p, .p], 5, bChoices j⟩) [Inhabited α] : ∀ (k n : Nat) (l : List α), l.length ≤ 12 → k < n → run prim T n j [tupT l, .int (k : Int)] = ret (.list ((chT l k).map tupT))
  | k, 0, l, _, h => absurd h (Nat.not_lt_zero _)
  | 0, n + 1, l, hl, _ => by
    refine fn_ret (ρ := [.pu (tupT l), .pu (.int 0), .no, .no, .no]) hp ht rfl ?_
    show evTs _ (bChoices j) _ = _
    simp [bChoices, eTs_cons, eT_ife, eT_ret, slGet, chT_zero, tupT]
  | k + 1, n + 1, l, hl, h => by
    have ih := choices_ok hp ht k n
    refine fn_ret (ρ := [.pu (tupT l), .pu (.int ((k + 1 : Nat) : Int)), .no, .no, .no]) hp ht rfl ?_
    show evTs _ (bChoices j) _ = _
    have hne : ¬ (((k + 1 : Nat) : Int) = 0) := by omega
    have hF : ∀ m, m ≤ l.length → ((List.range m).flatMap fun i => (chT (l.drop (i + 1)) k).map (l.getD i default :: ·)).length ≤ 4096 := fun m hm => by
      refine Nat.le_trans (flat_pre _ hm) ?_
      rw [ch_range]
      refine Nat.le_trans (chT_len l (k + 1)) ?_
      exact Nat.le_trans (Nat.pow_le_pow_right (by omega) hl) (by decide)
    have L := loop_idx (f := bodyM (run prim T n) (.nm 3) [.ext 2 (.cp [4] (.nm 4) (.ex (.call j [.sl (.v 0) (some (.o2 .add (.v 3) (.c (.int 1)))) none, .o2 .sub (.v 1) (.c (.int 1))])) none (.o2 .add (.tup [.o2 .ix (.v 0) (.v 3)]) (.v 4)))])
      (l := List.range l.length) (enc := fun (i : Nat) => toD (i : Int)) (m := 0)
      (I := fun m ρ => ∃ x3, ρ = [.pu (tupT l), .pu (.int ((k + 1 : Nat) : Int)), .ow (.list (((List.range m).flatMap fun i => (chT (l.drop (i + 1)) k).map (l.getD i default :: ·)).map tupT)), x3, .no]) ?_
      (ρ := [.pu (tupT l), .pu (.int ((k + 1 : Nat) : Int)), .ow (.list []), .no, .no]) ⟨.no, rfl⟩
    · obtain ⟨ρ', e, x3, rfl⟩ := L
      rw [List.length_range, Nat.zero_add, ch_range] at e
      have e1 : outSet [.pu (tupT l), .pu (.int ((k + 1 : Nat) : Int)), .no, .no, .no] 2 (.ow (.list [])) = ret (.nx [.pu (tupT l), .pu (.int ((k + 1 : Nat) : Int)), .ow (.list []), .no, .no]) := by simp [outSet]
      rw [bChoices, eTs_cons, eT_ife]
      simp only [eE_o2, eE_v, eE_c, slGet, List.getElem?_cons_succ, List.getElem?_cons_zero, lift_sm, bnd_ret, u_eqi, boolM_b, decide_eq_false hne, Bool.false_eq_true, if_false, eTs_nil, thenM_nx]
      rw [eTs_cons, eT_asg]
      simp only [eE_lst, eEs_nil, bnd_ret, stor_tl, e1, thenM_nx]
      rw [eTs_cons, eT_for]
      simp only [eS_rg1, eE_o1, eE_v, slGet, List.getElem?_cons_zero, lift_sm, bnd_ret, u_lent, List.length_map, rng_n (show l.length ≤ 100000000 by omega), e, thenM_nx]
      simp [eTs_cons, eT_fz, freeze, eT_ret, slGet]
    · rintro i hi ρ ⟨x3, rfl⟩
      simp only [List.length_range] at hi
      rw [Nat.zero_add]
      have e1 := ih (l.drop (i + 1)) (by rw [List.length_drop]; omega) (by omega)
      have c1 := cp_map (C := run prim T n) (ρ := [.pu (tupT l), .pu (.int ((k + 1 : Nat) : Int)), .ow (.list (((List.range i).flatMap fun i => (chT (l.drop (i + 1)) k).map (l.getD i default :: ·)).map tupT)), .pu (.int (i : Int)), .no])
        (l := chT (l.drop (i + 1)) k) (enc := tupT) (g := fun t => tupT (l.getD i default :: t)) (own := [4]) (t := .nm 4)
        (s := .ex (.call j [.sl (.v 0) (some (.o2 .add (.v 3) (.c (.int 1)))) none, .o2 .sub (.v 1) (.c (.int 1))])) (e := .o2 .add (.tup [.o2 .ix (.v 0) (.v 3)]) (.v 4))
        (by
          have ec : cutL (l.map toD) (some ((i : Int) + 1)) none = (l.drop (i + 1)).map toD := by
            rw [show (i : Int) + 1 = ((i + 1 : Nat) : Int) by omega, cut_from, List.map_drop]
          have ek : ((k + 1 : Nat) : Int) - 1 = (k : Int) := by omega
          simp only [eS_ex, eE_call, eEs_cons, eEs_nil, eE_sl, eE_o2, eE_v, eE_c, slGet, List.getElem?_cons_succ, List.getElem?_cons_zero, lift_sm, bnd_ret, eO_some, eO_none, u_add, u_sub, intO, Option.bind_some, sliceD, ec, ek, e1, it_l])
        (by rw [sz_eq]; refine Nat.le_trans (chT_len _ _) ?_; exact Nat.le_trans (Nat.pow_le_pow_right (by omega) (show (l.drop (i + 1)).length ≤ 12 by rw [List.length_drop]; omega)) (by decide))
        fun t ht => by
          have hlt : t.length = k := by
            obtain ⟨p, hp, rfl⟩ := List.mem_map.mp ht
            exact chP_len _ _ p hp
          have hk : k ≤ 12 := by
            rcases Nat.lt_or_ge 12 k with hk | hk
            · exfalso
              have : ∀ (k : Nat) (l : List α), l.length < k → chT l k = [] := by
                intro k
                induction k with
                | zero => intro l h; omega
                | succ k ih =>
                  intro l
                  induction l with
                  | nil => intro _; rfl
                  | cons a l ihl =>
                    intro h
                    simp only [List.length_cons] at h
                    rw [chT_cons, ih l (by omega), ihl (by omega)]
                    rfl
              rw [this k _ (by rw [List.length_drop]; omega)] at ht
              cases ht
            · exact hk
          refine ⟨_, rfl, ?_⟩
          have e2 : u2 .ix (tupT l) (.int (i : Int)) = some (toD (l.getD i default)) := by
            rw [u_ixtT hi]
            simp [List.getD_eq_getElem?_getD, List.getElem?_eq_getElem hi]
          simp only [eE_o2, eE_tup, eEs_cons, eEs_nil, eE_v, slGet, wipeS, List.set_cons_succ, List.set_cons_zero, List.getElem?_cons_succ, List.getElem?_cons_zero, lift_sm, bnd_ret, e2]
          rw [u_addt (by rw [sz_eq, List.length_map]; simp only [List.length_cons, List.length_nil]; omega), lift_sm]
          rfl
      have hs : ((List.range i).flatMap fun i => (chT (l.drop (i + 1)) k).map (l.getD i default :: ·)).length + (chT (l.drop (i + 1)) k).length ≤ 4096 := by
        have := hF (i + 1) (by omega)
        rw [flat_succ, List.length_append, List.length_map] at this
        exact this
      refine ⟨[.pu (tupT l), .pu (.int ((k + 1 : Nat) : Int)), .ow (.list (((List.range (i + 1)).flatMap fun i => (chT (l.drop (i + 1)) k).map (l.getD i default :: ·)).map tupT)), .pu (.int (i : Int)), .no], ?_, _, rfl⟩
      have ea : asgT (.nm 3) (toD ((List.range l.length)[i] : Int)) [.pu (tupT l), .pu (.int ((k + 1 : Nat) : Int)), .ow (.list (((List.range i).flatMap fun i => (chT (l.drop (i + 1)) k).map (l.getD i default :: ·)).map tupT)), x3, .no] = some [.pu (tupT l), .pu (.int ((k + 1 : Nat) : Int)), .ow (.list (((List.range i).flatMap fun i => (chT (l.drop (i + 1)) k).map (l.getD i default :: ·)).map tupT)), .pu (.int (i : Int)), .no] := by simp [asgT, td_i]
      unfold bodyM
      rw [ea, lift_sm, bnd_ret, eTs_cons, eT_ext]
      simp only [slOw, List.getElem?_cons_succ, List.getElem?_cons_zero, lift_sm, bnd_ret, c1]
      rw [ext_l (by rw [sz_eq, List.length_map, List.length_map]; omega), lift_sm, bnd_ret, bnd_ret, thenM_nx, eTs_nil]
      rw [flat_succ]
      simp [List.map_map, Function.comp_def]
theorem allsets_ok {j jc : Nat} (hp : prim j = none) (ht : T j = some ⟨[.p], 3, bAllSets jc⟩) (hpc : prim jc = none) (htc : T jc = some ⟨[.p, .p], 5, bChoices jc⟩) [Inhabited α] (n : Nat) (l : List α) (hl : l.length ≤ 12) (hn : l.length < n) : run prim T (n + 1) j [tupT l] = ret (.list ((setsT l).map tupT)) := by
  refine fn_ret (ρ := [.pu (tupT l), .no, .no]) hp ht rfl ?_
  show evTs _ (bAllSets jc) _ = _
  have hF : ∀ m, m ≤ 13 → ((List.range m).flatMap (chT l)).length ≤ 13 * 4096 := fun m hm => by
    refine Nat.le_trans (flat_pre _ hm) ?_
    rw [List.length_flatMap]
    have : ∀ ks : List Nat, (ks.map fun k => (chT l k).length).sum ≤ ks.length * 4096 := by
      intro ks
      induction ks with
      | nil => simp
      | cons a ks ih =>
        have h1 := Nat.le_trans (chT_len l a) (Nat.le_trans (Nat.pow_le_pow_right (by omega) hl) (show 2 ^ 12 ≤ 4096 by decide))
        simp only [List.map_cons, List.sum_cons, List.length_cons]
        omega
    have := this (List.range 13)
    simpa using this
  have L := loop_idx (f := bodyM (run prim T n) (.nm 2) [.ext 1 (.call jc [.v 0, .v 2])]) (l := List.range (l.length + 1)) (enc := fun (i : Nat) => toD (i : Int)) (m := 0)
    (I := fun m ρ => ∃ x2, ρ = [.pu (tupT l), .ow (.list (((List.range m).flatMap (chT l)).map tupT)), x2]) ?_ (ρ := [.pu (tupT l), .ow (.list []), .no]) ⟨.no, rfl⟩
  · obtain ⟨ρ', e, x2, rfl⟩ := L
    rw [List.length_range, Nat.zero_add] at e
    have e1 : outSet [.pu (tupT l), .no, .no] 1 (.ow (.list [])) = ret (.nx [.pu (tupT l), .ow (.list []), .no]) := by simp [outSet]
    have e2 : rangeD (.int 0) (.int ((l.length : Int) + 1)) = some ((List.range (l.length + 1)).map fun (i : Nat) => toD (i : Int)) := by
      rw [← rng_n (show l.length + 1 ≤ 100000000 by omega)]; rfl
    rw [bAllSets, eTs_cons, eT_asg]
    simp only [eE_lst, eEs_nil, bnd_ret, stor_tl, e1, thenM_nx]
    rw [eTs_cons, eT_for]
    simp only [eS_rg1, eE_o1, eE_o2, eE_v, eE_c, slGet, List.getElem?_cons_zero, lift_sm, bnd_ret, u_lent, u_add, List.length_map, e2, e, thenM_nx]
    simp [eTs_cons, eT_fz, freeze, eT_ret, slGet, setsT]
  · rintro i hi ρ ⟨x2, rfl⟩
    simp only [List.length_range] at hi
    rw [Nat.zero_add]
    have e1 := choices_ok hpc htc i n l hl (by omega)
    have ea : asgT (.nm 2) (toD ((List.range (l.length + 1))[i] : Int)) [.pu (tupT l), .ow (.list (((List.range i).flatMap (chT l)).map tupT)), x2] = some [.pu (tupT l), .ow (.list (((List.range i).flatMap (chT l)).map tupT)), .pu (.int (i : Int))] := by simp [asgT, td_i]
    refine ⟨[.pu (tupT l), .ow (.list (((List.range (i + 1)).flatMap (chT l)).map tupT)), .pu (.int (i : Int))], ?_, _, rfl⟩
    unfold bodyM
    rw [ea, lift_sm, bnd_ret, eTs_cons, eT_ext]
    simp only [slOw, eE_call, eEs_cons, eEs_nil, eE_v, slGet, List.getElem?_cons_succ, List.getElem?_cons_zero, lift_sm, bnd_ret, e1]
    have := hF (i + 1) (by omega)
    rw [flat_succ, List.length_append] at this
    rw [ext_l (by rw [sz_eq, List.length_map, List.length_map]; omega), lift_sm, bnd_ret, bnd_ret, thenM_nx, eTs_nil, flat_succ]
    simp
end
end RW.PL
/-! Plain: _law_sets. -/
namespace RW.PL
open PySem PySem.W
def bIn : List Ss := [.asg false (.nm 6) (.ite (.o2 .ne (.v 5) (.tup [])) (.o2 .add (.o2 .tindex (.v 0) (.o2 .ix (.v 5) (.o1 .neg (.c (.int 1))))) (.c (.int 1))) (.c (.int 0))), .asg false (.nm 4) (.o2 .add (.v 4) (.cp [7] (.nm 7) (.ex (.sl (.v 0) (some (.v 6)) none)) none (.o2 .add (.v 5) (.tup [.v 7]))))]
def bOut : List Ss := [.asg false (.nm 4) (.lst []), .for (.nm 5) (.ex (.v 3)) bIn, .par [(2, false), (3, false)] [.o2 .add (.v 2) (.v 4), .v 4]]
theorem bLawSets_eq : bLawSets = [.par [(2, false), (3, false)] [.lst [.tup []], .lst [.tup []]], .for (.nm 1) (.rg1 (.o1 .len (.v 0))) bOut, .ret (.v 2)] := rfl
theorem idx_at {α : Type} [DecidableEq α] {pre rest : List α} {x : α} (h : x ∉ pre) : (pre ++ x :: rest).findIdx? (fun y => decide (y = x)) = some pre.length := by
  induction pre with
  | nil => rw [List.nil_append, List.findIdx?_cons, decide_eq_true rfl]; rfl
  | cons a pre ih =>
    rw [List.mem_cons, not_or] at h
    rw [List.cons_append, List.findIdx?_cons, ih h.2, decide_eq_false (fun e => h.1 e.symm)]
    simp
section
variable {prim : Nat → Option (List PyData → M PyData)} {T : Nat → Option Fn} {α : Type} [DecidableEq α] [Datum α]
def lay (ps : List (List α × List α)) : List (List α) := ps.flatMap fun p => p.2.map fun x => p.1 ++ [x]
theorem lay_len {l : List α} (hl : l.length ≤ 12) (i m : Nat) : (lay ((chP l i).take m)).length ≤ 4096 := by
  have h1 : (lay (chP l i)).length ≤ 4096 := by
    rw [lay, ← chT_step]
    exact Nat.le_trans (chT_len l (i + 1)) (Nat.le_trans (Nat.pow_le_pow_right (by omega) hl) (by decide))
  have h2 : lay (chP l i) = lay ((chP l i).take m) ++ lay ((chP l i).drop m) := by
    rw [lay, lay, lay, ← List.flatMap_append, List.take_append_drop]
  rw [h2, List.length_append] at h1
  omega
theorem fl_len {l : List α} (hl : l.length ≤ 12) (m : Nat) (hm : m ≤ 13) : ((List.range m).flatMap (chT l)).length ≤ 13 * 4096 := by
  refine Nat.le_trans (flat_pre _ hm) ?_
  rw [List.length_flatMap]
  have : ∀ ks : List Nat, (ks.map fun k => (chT l k).length).sum ≤ ks.length * 4096 := by
    intro ks
    induction ks with
    | nil => simp
    | cons a ks ih =>
      have h1 := Nat.le_trans (chT_len l a) (Nat.le_trans (Nat.pow_le_pow_right (by omega) hl) (show 2 ^ 12 ≤ 4096 by decide))
      simp only [List.map_cons, List.sum_cons, List.length_cons]
      omega
  have := this (List.range 13)
  simpa using this
theorem lawsets_ok {j : Nat} (hp : prim j = none) (ht : T j = some ⟨[.p], 8, bLawSets⟩) (hd : Datum.depth α < 60) (n : Nat) (l : List α) (hl : l.length ≤ 12) (hn : l.Nodup) : run prim T (n + 1) j [tupT l] = ret (.list ((setsT l).map tupT)) := by
  refine fn_ret (ρ := [.pu (tupT l), .no, .no, .no, .no, .no, .no, .no]) hp ht rfl ?_
  show evTs _ bLawSets _ = _
  have inner : ∀ (i : Nat) (hi : i < l.length) (x1 x2 x5 x6 x7 : Sl), ∃ y5 y6 y7, loopM (bodyM (run prim T n) (.nm 5) bIn) ((chT l i).map tupT) [.pu (tupT l), x1, x2, .pu (.list ((chT l i).map tupT)), .pu (.list []), x5, x6, x7] =
      ret (.nx [.pu (tupT l), x1, x2, .pu (.list ((chT l i).map tupT)), .pu (.list ((chT l (i + 1)).map tupT)), y5, y6, y7]) := by
    intro i hi x1 x2 x5 x6 x7
    have L := loop_idx (f := bodyM (run prim T n) (.nm 5) bIn) (l := chP l i) (enc := fun p => tupT p.1) (m := 0)
      (I := fun m ρ => ∃ x5 x6 x7, ρ = [.pu (tupT l), x1, x2, .pu (.list ((chT l i).map tupT)), .pu (.list ((lay ((chP l i).take m)).map tupT)), x5, x6, x7]) ?_
      (ρ := [.pu (tupT l), x1, x2, .pu (.list ((chT l i).map tupT)), .pu (.list []), x5, x6, x7]) ⟨x5, x6, x7, rfl⟩
    · obtain ⟨ρ', e, y5, y6, y7, rfl⟩ := L
      refine ⟨y5, y6, y7, ?_⟩
      rw [Nat.zero_add, List.take_of_length_le (Nat.le_refl _), show lay (chP l i) = chT l (i + 1) from (chT_step l i).symm] at e
      rw [← e, chT, List.map_map]
      rfl
    · rintro m hm ρ ⟨x5, x6, x7, rfl⟩
      rw [Nat.zero_add]
      generalize hq : (chP l i)[m] = q
      have hqm : q ∈ chP l i := hq ▸ List.getElem_mem hm
      obtain ⟨r1, r2⟩ := chP_rest l i q hqm
      have hql := chP_len l i q hqm
      have hs1 := lay_len hl i m
      have hs2 := lay_len hl i (m + 1)
      have ht1 : (chP l i).take (m + 1) = (chP l i).take m ++ [q] := by rw [List.take_succ, List.getElem?_eq_getElem hm, hq]; rfl
      have ht2 : lay ((chP l i).take (m + 1)) = lay ((chP l i).take m) ++ q.2.map fun x => q.1 ++ [x] := by rw [ht1, lay, List.flatMap_append]; simp [lay]
      rw [ht2, List.length_append, List.length_map] at hs2
      have at1 : ∃ c : Nat, l.drop c = q.2 ∧ evE (run prim T n) (.ite (.o2 .ne (.v 5) (.tup [])) (.o2 .add (.o2 .tindex (.v 0) (.o2 .ix (.v 5) (.o1 .neg (.c (.int 1))))) (.c (.int 1))) (.c (.int 0)))
          [.pu (tupT l), x1, x2, .pu (.list ((chT l i).map tupT)), .pu (.list ((lay ((chP l i).take m)).map tupT)), .pu (tupT q.1), x6, x7] = ret (.int (c : Int)) := by
        have en : u2 .ne (tupT q.1) (.tuple []) = some (.bool (!decide (q.1 = []))) := by
          have := neD_t (α := Tup α) (show Datum.depth α + 1 ≤ 60 by omega) ⟨q.1⟩ ⟨[]⟩
          rw [show u2 .ne (tupT q.1) (.tuple []) = neD (toD (⟨q.1⟩ : Tup α)) (toD (⟨[]⟩ : Tup α)) from rfl, this]
          simp
        by_cases c : q.1 = []
        · refine ⟨0, by rw [r1 c]; rfl, ?_⟩
          simp only [eE_ite, eE_o2, eE_v, eE_tup, eEs_nil, eE_c, slGet, List.getElem?_cons_succ, List.getElem?_cons_zero, lift_sm, bnd_ret, en, boolM_b, c, decide_true, Bool.not_true, Bool.false_eq_true, if_false]
          rfl
        · obtain ⟨pre, e⟩ := r2 c
          refine ⟨pre.length + 1, ?_, ?_⟩
          · rw [e, show pre ++ q.1.getLast c :: q.2 = (pre ++ [q.1.getLast c]) ++ q.2 by simp, List.drop_append_of_le_length (by simp), List.drop_of_length_le (by simp)]
            rfl
          · have hx : q.1.getLast c ∉ pre := by
              rw [e] at hn
              exact fun hm => (List.nodup_append.mp hn).2.2 _ hm _ List.mem_cons_self rfl
            have e1 : u2 .ix (tupT q.1) (.int (-1)) = some (toD (q.1.getLast c)) := u_lastt c
            have e2 : u2 .tindex (tupT l) (toD (q.1.getLast c)) = some (.int (pre.length : Int)) := by
              show indexIn (l.map toD) (toD (q.1.getLast c)) = _
              rw [indexIn_t (by omega) _ _ (by rw [sz_eq]; omega)]
              have := idx_at (rest := q.2) hx
              rw [← e] at this
              rw [this]
              rfl
            simp only [eE_ite, eE_o1, eE_o2, eE_v, eE_tup, eEs_nil, eE_c, slGet, List.getElem?_cons_succ, List.getElem?_cons_zero, lift_sm, bnd_ret, en, boolM_b, c, decide_false, Bool.not_false, if_true, u_neg, e1, e2, u_add]
            rfl
      obtain ⟨c, hc, ec⟩ := at1
      refine ⟨[.pu (tupT l), x1, x2, .pu (.list ((chT l i).map tupT)), .pu (.list ((lay ((chP l i).take (m + 1))).map tupT)), .pu (tupT q.1), .pu (.int (c : Int)), x7], ?_, _, _, _, rfl⟩
      have ea : asgT (.nm 5) (tupT q.1) [.pu (tupT l), x1, x2, .pu (.list ((chT l i).map tupT)), .pu (.list ((lay ((chP l i).take m)).map tupT)), x5, x6, x7] = some [.pu (tupT l), x1, x2, .pu (.list ((chT l i).map tupT)), .pu (.list ((lay ((chP l i).take m)).map tupT)), .pu (tupT q.1), x6, x7] := rfl
      have es : ∀ d, outSet [.pu (tupT l), x1, x2, .pu (.list ((chT l i).map tupT)), .pu (.list ((lay ((chP l i).take m)).map tupT)), .pu (tupT q.1), x6, x7] 6 d = ret (.nx [.pu (tupT l), x1, x2, .pu (.list ((chT l i).map tupT)), .pu (.list ((lay ((chP l i).take m)).map tupT)), .pu (tupT q.1), d, x7]) := fun d => rfl
      have es2 : ∀ d, outSet [.pu (tupT l), x1, x2, .pu (.list ((chT l i).map tupT)), .pu (.list ((lay ((chP l i).take m)).map tupT)), .pu (tupT q.1), .pu (.int (c : Int)), x7] 4 d = ret (.nx [.pu (tupT l), x1, x2, .pu (.list ((chT l i).map tupT)), d, .pu (tupT q.1), .pu (.int (c : Int)), x7]) := fun d => rfl
      have hq2 : q.2.length ≤ 12 := by rw [← hc, List.length_drop]; omega
      have hi12 : q.1.length ≤ 12 := by omega
      have cc := cp_map (C := run prim T n) (ρ := [.pu (tupT l), x1, x2, .pu (.list ((chT l i).map tupT)), .pu (.list ((lay ((chP l i).take m)).map tupT)), .pu (tupT q.1), .pu (.int (c : Int)), x7])
        (l := q.2) (enc := toD) (g := fun x => tupT (q.1 ++ [x])) (own := [7]) (t := .nm 7) (s := .ex (.sl (.v 0) (some (.v 6)) none)) (e := .o2 .add (.v 5) (.tup [.v 7]))
        (by
          have : cutL (l.map toD) (some (c : Int)) none = q.2.map toD := by rw [cut_from, ← List.map_drop, hc]
          simp only [eS_ex, eE_sl, eE_v, slGet, List.getElem?_cons_succ, List.getElem?_cons_zero, lift_sm, bnd_ret, eO_some, eO_none, intO, Option.bind_some, sliceD, this, it_t, lift_sm])
        (by rw [sz_eq]; omega) fun x hx => by
          refine ⟨[.pu (tupT l), x1, x2, .pu (.list ((chT l i).map tupT)), .pu (.list ((lay ((chP l i).take m)).map tupT)), .pu (tupT q.1), .pu (.int (c : Int)), .pu (toD x)], rfl, ?_⟩
          simp only [eE_o2, eE_tup, eEs_cons, eEs_nil, eE_v, slGet, List.getElem?_cons_succ, List.getElem?_cons_zero, lift_sm, bnd_ret]
          rw [u_addt (by rw [sz_eq, List.length_map]; simp only [List.length_cons, List.length_nil]; omega), lift_sm]
          simp [tupT]
      unfold bodyM
      rw [ea, lift_sm, bnd_ret, bIn, eTs_cons, eT_asg, ec, bnd_ret, stor_f, es, bnd_ret, thenM_nx, eTs_cons, eT_asg]
      simp only [eE_o2, eE_v, slGet, List.getElem?_cons_succ, List.getElem?_cons_zero, lift_sm, bnd_ret, cc]
      rw [u_addl (by rw [sz_eq, List.length_map, List.length_map]; omega), lift_sm, bnd_ret, stor_f, es2, bnd_ret, thenM_nx, eTs_nil, ht2]
      simp [List.map_map, Function.comp_def]
  have L := loop_idx (f := bodyM (run prim T n) (.nm 1) bOut) (l := List.range l.length) (enc := fun (i : Nat) => toD (i : Int)) (m := 0)
    (I := fun m ρ => ∃ x1 x4 x5 x6 x7, ρ = [.pu (tupT l), x1, .pu (.list (((List.range (m + 1)).flatMap (chT l)).map tupT)), .pu (.list ((chT l m).map tupT)), x4, x5, x6, x7]) ?_
    (ρ := [.pu (tupT l), .no, .pu (.list [.tuple []]), .pu (.list [.tuple []]), .no, .no, .no, .no]) ⟨.no, .no, .no, .no, .no, by simp [chT_zero, tupT]⟩
  · obtain ⟨ρ', e, x1, x4, x5, x6, x7, rfl⟩ := L
    rw [List.length_range, Nat.zero_add] at e
    have p1 : parS [(2, false), (3, false)] [.list [.tuple []], .list [.tuple []]] [.pu (tupT l), .no, .no, .no, .no, .no, .no, .no] = some [.pu (tupT l), .no, .pu (.list [.tuple []]), .pu (.list [.tuple []]), .no, .no, .no, .no] := rfl
    rw [bLawSets_eq, eTs_cons, eT_par]
    simp only [eEs_cons, eEs_nil, eE_lst, eE_tup, bnd_ret, p1, lift_sm, thenM_nx]
    rw [eTs_cons, eT_for]
    simp only [eS_rg1, eE_o1, eE_v, slGet, List.getElem?_cons_zero, lift_sm, bnd_ret, u_lent, List.length_map, rng_n (show l.length ≤ 100000000 by omega), e, thenM_nx]
    simp [eTs_cons, eT_ret, slGet, setsT]
  · rintro i hi ρ ⟨x1, x4, x5, x6, x7, rfl⟩
    simp only [List.length_range] at hi
    rw [Nat.zero_add]
    obtain ⟨y5, y6, y7, e1⟩ := inner i hi (.pu (.int (i : Int))) (.pu (.list (((List.range (i + 1)).flatMap (chT l)).map tupT))) x5 x6 x7
    refine ⟨[.pu (tupT l), .pu (.int (i : Int)), .pu (.list (((List.range (i + 1 + 1)).flatMap (chT l)).map tupT)), .pu (.list ((chT l (i + 1)).map tupT)), .pu (.list ((chT l (i + 1)).map tupT)), y5, y6, y7], ?_, _, _, _, _, _, rfl⟩
    have ea : asgT (.nm 1) (toD ((List.range l.length)[i] : Int)) [.pu (tupT l), x1, .pu (.list (((List.range (i + 1)).flatMap (chT l)).map tupT)), .pu (.list ((chT l i).map tupT)), x4, x5, x6, x7] = some [.pu (tupT l), .pu (.int (i : Int)), .pu (.list (((List.range (i + 1)).flatMap (chT l)).map tupT)), .pu (.list ((chT l i).map tupT)), x4, x5, x6, x7] := by simp [asgT, td_i]
    have es : ∀ d, outSet [.pu (tupT l), .pu (.int (i : Int)), .pu (.list (((List.range (i + 1)).flatMap (chT l)).map tupT)), .pu (.list ((chT l i).map tupT)), x4, x5, x6, x7] 4 d = ret (.nx [.pu (tupT l), .pu (.int (i : Int)), .pu (.list (((List.range (i + 1)).flatMap (chT l)).map tupT)), .pu (.list ((chT l i).map tupT)), d, x5, x6, x7]) := fun d => rfl
    have p1 : ∀ a b c, parS [(2, false), (3, false)] [a, b] [.pu (tupT l), .pu (.int (i : Int)), .pu (.list (((List.range (i + 1)).flatMap (chT l)).map tupT)), .pu (.list ((chT l i).map tupT)), c, y5, y6, y7] = some [.pu (tupT l), .pu (.int (i : Int)), .pu a, .pu b, c, y5, y6, y7] := fun a b c => rfl
    have f1 := fl_len hl (i + 1) (by omega)
    have f2 := fl_len hl (i + 1 + 1) (by omega)
    rw [flat_succ, List.length_append] at f2
    unfold bodyM
    rw [ea, lift_sm, bnd_ret, bOut, eTs_cons, eT_asg]
    simp only [eE_lst, eEs_nil, bnd_ret, stor_f, es, thenM_nx]
    rw [eTs_cons, eT_for]
    simp only [eS_ex, eE_v, slGet, List.getElem?_cons_succ, List.getElem?_cons_zero, lift_sm, bnd_ret, it_l, e1, thenM_nx]
    rw [eTs_cons, eT_par]
    simp only [eEs_cons, eEs_nil, eE_o2, eE_v, slGet, List.getElem?_cons_succ, List.getElem?_cons_zero, lift_sm, bnd_ret]
    rw [u_addl (by rw [sz_eq, List.length_map, List.length_map]; omega), lift_sm, bnd_ret]
    simp only [p1, lift_sm, bnd_ret, thenM_nx, eTs_nil]
    rw [flat_succ _ (i + 1)]
    simp
end
end RW.PL
/-! k29, plain: bells (2). -/
namespace RW.PL
open PySem PySem.W RW.K29
section
variable {α β : Type}
theorem chT_map (f : α → β) : ∀ (l : List α) (k : Nat), chT (l.map f) k = (chT l k).map (List.map f)
  | l, 0 => by rw [chT_zero, chT_zero]; rfl
  | [], k + 1 => rfl
  | a :: l, k + 1 => by
    rw [List.map_cons, chT_cons, chT_cons, chT_map f l k, chT_map f l (k + 1)]
    simp [List.map_map, Function.comp_def]
theorem setsT_map (f : α → β) (l : List α) : setsT (l.map f) = (setsT l).map (List.map f) := by
  unfold setsT
  rw [List.length_map, List.map_flatMap]
  congr 1
  funext k
  exact chT_map f l k
theorem chT_sub : ∀ (l : List α) (k : Nat) (t : List α), t ∈ chT l k → t.Sublist l
  | l, 0, t, h => by rw [chT_zero, List.mem_singleton] at h; subst h; exact List.nil_sublist l
  | [], k + 1, t, h => by cases h
  | a :: l, k + 1, t, h => by
    rw [chT_cons, List.mem_append, List.mem_map] at h
    rcases h with ⟨u, hu, rfl⟩ | h
    · exact (chT_sub l k u hu).cons_cons a
    · exact (chT_sub l (k + 1) t h).cons a
theorem chT_self : ∀ l : List α, l ∈ chT l l.length
  | [] => by simp [chT_zero]
  | a :: l => by
    rw [List.length_cons, chT_cons, List.mem_append]
    exact .inl (List.mem_map_of_mem (chT_self l))
theorem setsT_sub {l t : List α} (h : t ∈ setsT l) : t.Sublist l := by
  unfold setsT at h
  rw [List.mem_flatMap] at h
  obtain ⟨k, _, hk⟩ := h
  exact chT_sub l k t hk
theorem setsT_self (l : List α) : l ∈ setsT l := by
  unfold setsT
  rw [List.mem_flatMap]
  exact ⟨l.length, by rw [List.mem_range]; omega, chT_self l⟩
/-- some of a row with keys, told by their keys -/
theorem sub_keys [DecidableEq α] {l t : List (α × β)} (hs : t.Sublist l) (hn : (l.map Prod.fst).Nodup) : l.filter (fun b => decide (b.1 ∈ t.map Prod.fst)) = t := by
  induction hs with
  | slnil => rfl
  | @cons t l a hs ih =>
    rw [List.map_cons, List.nodup_cons] at hn
    have : ¬ a.1 ∈ t.map Prod.fst := fun hm => hn.1 ((hs.map Prod.fst).subset hm)
    rw [List.filter_cons, if_neg (by simp only [decide_eq_true_eq]; exact this), ih hn.2]
  | @cons_cons t l a hs ih =>
    rw [List.map_cons, List.nodup_cons] at hn
    rw [List.filter_cons, if_pos (by simp)]
    congr 1
    rw [← ih hn.2]
    refine List.filter_congr fun b hb => ?_
    rw [ih hn.2]
    have hne : b.1 ≠ a.1 := fun e => hn.1 (e ▸ List.mem_map_of_mem hb)
    simp [hne]
end
namespace K29P
instance : Inhabited Str := ⟨""⟩
section
variable {dr : List Int} {k : Nat}
theorem OkB.sub {bs sub : Bells} (ok : OkB bs) (h : sub.Sublist bs) : OkB sub := by
  have hp : (bs.map Prod.fst).Pairwise fun a b => leT a b = true := ok.srt ▸ sortT_sorted _
  exact ⟨sortT_eq (hp.sublist (h.map _)), ok.nd.sublist (h.map _), Nat.le_trans h.length_le ok.len⟩
theorem r_sets {nm : List Str} (h : nm.length ≤ 3) : R dr (k + 8) 2 [encH nm] = ret (.list ((setsT nm).map encH)) := allsets_ok (prim := prim dr) (T := tblT tbl) (j := 2) (jc := 1) rfl rfl rfl rfl (k + 7) nm (by omega) (by omega)
theorem l_sets {nm : List Str} (h : nm.length ≤ 3) (hn : nm.Nodup) : R dr (k + 1) 33 [encH nm] = ret (.list ((setsT nm).map encH)) := lawsets_ok (prim := prim dr) (T := tblT tbl) (j := 33) rfl rfl (by decide) k nm (by omega) hn
theorem r_once {bs : Bells} (ok : OkB bs) : R dr (k + 1) 0 [.list ((bs.map Prod.fst).map toD)] = ret (encH (bs.map Prod.fst)) := by
  refine fret (F := d0.f) (ρ := [.pu (.list ((bs.map Prod.fst).map toD))]) rfl rfl rfl ?_
  show evTs _ b0 _ = _
  have hl := ok.len
  have e := srtSet_t (bs.map Prod.fst) (by rw [List.length_map]; omega)
  rw [dedT_of_nodup ok.nd, ok.srt] at e
  rw [b0, eTs_cons, eT_ret]
  simp only [eE_o1, eE_v, slGet, List.getElem?_cons_zero, lift_sm, bnd_ret, u_sset, e, u_tupl, thenM_rt, encH]
theorem r_only {bs sub : Bells} (ok : OkB bs) (h : sub.Sublist bs) : R dr (k + 1) 9 [encB bs, encH (sub.map Prod.fst)] = ret (encB sub) := by
  refine fret (F := d9.f) (ρ := [.pu (encB bs), .pu (encH (sub.map Prod.fst)), .no]) rfl rfl rfl ?_
  show evTs _ b9 _ = _
  have os := ok.sub h
  have hl := os.len
  have e := cp_map (C := R dr k) (ρ := [.pu (encB bs), .pu (encH (sub.map Prod.fst)), .no]) (l := sub) (enc := fun b => toD b.1) (g := fun b => .tuple [toD b.1, toD b.2]) (own := [2]) (t := .nm 2) (s := .ex (.v 1)) (e := .tup [.v 2, .o2 .ix (.v 0) (.v 2)])
    (by simp [slGet, encH, it_t, Function.comp_def]) (by rw [sz_eq]; omega) fun b hb => by
      have e1 : u2 .ix (encB bs) (toD b.1) = some (toD b.2) := by rw [encB, u_ixd, getT_mem ok.nd (h.subset hb)]; rfl
      exact ⟨[.pu (encB bs), .pu (encH (sub.map Prod.fst)), .pu (toD b.1)], rfl, by simp [slGet, e1]⟩
  have e2 := u_dictl (fun v : Spot × Int => toD v) sub (by rw [sz_eq]; omega)
  rw [putAllT_nodup sub [] (by simpa using os.nd), List.nil_append, show encD (fun v : Spot × Int => toD v) sub = encB sub from rfl] at e2
  simp [b9, eTs_cons, eT_ret, e, e2]
def kindsT (bs : Bells) (w h : Int) : Nat := (dedT ((fieldT w h).map fun s => (⟨heardT bs s⟩ : Tup Str))).length
theorem heard_sub {bs sub : Bells} (ok : OkB bs) (h : sub.Sublist bs) (s : Spot) : heardT sub s = (heardT bs s).filter fun n => decide (n ∈ sub.map Prod.fst) := by
  unfold heardT
  rw [List.filter_map, List.filter_filter]
  have := sub_keys h ok.nd
  conv => lhs; rw [← this, List.filter_filter]
  congr 1
  refine List.filter_congr fun b _ => ?_
  simp only [Function.comp]
  rw [Bool.and_comm]
variable {w h : Int} (hw : w ≤ 4) (hh : h ≤ 4) (hw0 : 0 ≤ w) (hh0 : 0 ≤ h)
theorem fewest_ex (bs : Bells) (w h : Int) : ∃ sub, (setsT bs).find? (fun sub => decide (kindsT sub w h = kindsT bs w h)) = some sub := by
  cases e : (setsT bs).find? (fun sub => decide (kindsT sub w h = kindsT bs w h)) with
  | some a => exact ⟨a, rfl⟩
  | none =>
    rw [List.find?_eq_none] at e
    exact absurd (by simp) (e bs (setsT_self bs))
def fewestT (bs : Bells) (w h : Int) : Bells := ((setsT bs).find? (fun sub => decide (kindsT sub w h = kindsT bs w h))).getD []
include hw hh hw0 hh0
theorem r_fewest {bs : Bells} (ok : OkB bs) : R dr (k + 9) 11 [encB bs, .int w, .int h] = ret (encH ((fewestT bs w h).map Prod.fst)) := by
  refine fret (F := d11.f) (ρ := [.pu (encB bs), .pu (.int w), .pu (.int h), .no, .no]) rfl rfl rfl ?_
  show evTs _ b11 _ = _
  have hl := ok.len
  have e1 : R dr (k + 8) 10 [encB bs, .int w, .int h] = ret (.int (kindsT bs w h)) := r_kinds dr (k + 5) hw hh hw0 hh0 ok
  have e2 : u1 .lst (encB bs) = some (.list ((bs.map Prod.fst).map toD)) := by simp [encB, encD, u_lst_d, List.map_map, Function.comp_def]
  have e3 : R dr (k + 8) 0 [.list ((bs.map Prod.fst).map toD)] = ret (encH (bs.map Prod.fst)) := r_once (k := k + 7) ok
  have e4 : R dr (k + 8) 2 [encH (bs.map Prod.fst)] = ret (.list ((setsT bs).map fun sub => encH (sub.map Prod.fst))) := by
    rw [r_sets (by rw [List.length_map]; exact hl), setsT_map, List.map_map]
    rfl
  have es : ∀ d, outSet [.pu (encB bs), .pu (.int w), .pu (.int h), .no, .no] 3 d = ret (.nx [.pu (encB bs), .pu (.int w), .pu (.int h), d, .no]) := fun d => rfl
  obtain ⟨sub, hs⟩ := fewest_ex bs w h
  have L := loop_find (f := bodyM (R dr (k + 8)) (.nm 4) [.ife (.o2 .eq (.call 10 [.call 9 [.v 0, .v 4], .v 1, .v 2]) (.v 3)) [.ret (.v 4)] []]) (l := setsT bs) (enc := fun sub => encH (sub.map Prod.fst))
    (st := fun ρ => ∃ x, ρ = [.pu (encB bs), .pu (.int w), .pu (.int h), .pu (.int (kindsT bs w h)), x]) (p := fun sub => decide (kindsT sub w h = kindsT bs w h)) (r := fun sub => encH (sub.map Prod.fst)) ?_
    (ρ := [.pu (encB bs), .pu (.int w), .pu (.int h), .pu (.int (kindsT bs w h)), .no]) ⟨.no, rfl⟩
  · rcases L with ⟨a, h1, h2⟩ | ⟨h1, _⟩
    · rw [b11, eTs_cons, eT_asg]
      simp only [eE_call, eEs_cons, eEs_nil, eE_v, slGet, List.getElem?_cons_zero, List.getElem?_cons_succ, lift_sm, bnd_ret, e1, stor_f, es, thenM_nx]
      rw [eTs_cons, eT_for]
      simp only [eS_ex, eE_call, eEs_cons, eEs_nil, eE_o1, eE_v, slGet, List.getElem?_cons_zero, List.getElem?_cons_succ, lift_sm, bnd_ret, e2, e3, e4, it_l, h2, thenM_rt]
      rw [fewestT, h1]
      rfl
    · rw [hs] at h1
      cases h1
  · rintro sub hsub ρ ⟨x, rfl⟩
    have hsb := setsT_sub hsub
    have f1 : R dr (k + 8) 9 [encB bs, encH (sub.map Prod.fst)] = ret (encB sub) := r_only (k := k + 7) ok hsb
    have f2 : R dr (k + 8) 10 [encB sub, .int w, .int h] = ret (.int (kindsT sub w h)) := r_kinds dr (k + 5) hw hh hw0 hh0 (ok.sub hsb)
    have ea : asgT (.nm 4) (encH (sub.map Prod.fst)) [.pu (encB bs), .pu (.int w), .pu (.int h), .pu (.int (kindsT bs w h)), x] = some [.pu (encB bs), .pu (.int w), .pu (.int h), .pu (.int (kindsT bs w h)), .pu (encH (sub.map Prod.fst))] := rfl
    have ei : decide (((kindsT sub w h : Nat) : Int) = (kindsT bs w h : Nat)) = decide (kindsT sub w h = kindsT bs w h) := decide_eq_decide.mpr (by omega)
    unfold bodyM
    rw [ea, lift_sm, bnd_ret, eTs_cons, eT_ife]
    simp only [eE_call, eEs_cons, eEs_nil, eE_o2, eE_v, slGet, List.getElem?_cons_zero, List.getElem?_cons_succ, lift_sm, bnd_ret, f1, f2, u_eqi, boolM_b, ei]
    by_cases c : kindsT sub w h = kindsT bs w h
    · rw [if_pos (by simp [c]), if_pos (by simp [c])]
      simp [eTs_cons, eT_ret, slGet]
    · rw [if_neg (by simp [c]), if_neg (by simp [c])]
      exact ⟨_, by rw [eTs_nil, bnd_ret, thenM_nx, eTs_nil], _, rfl⟩
/-- a bell heard farther -/
def louderT (bs : Bells) (n : Str) (m : Int) : Bells := bs.map fun b => (b.1, (b.2.1, b.2.2 + if b.1 = n then m else 0))
omit hw hh hw0 hh0 in
theorem louder_keys (bs : Bells) (n : Str) (m : Int) : (louderT bs n m).map Prod.fst = bs.map Prod.fst := by simp [louderT, List.map_map, Function.comp_def]
omit hw hh hw0 hh0 in
theorem louder_ok {bs : Bells} (ok : OkB bs) (n : Str) (m : Int) : OkB (louderT bs n m) := ⟨by rw [louder_keys]; exact ok.srt, by rw [louder_keys]; exact ok.nd, by unfold louderT; rw [List.length_map]; exact ok.len⟩
omit hw hh hw0 hh0 in
theorem r_louder {bs : Bells} (ok : OkB bs) {b : Str × (Spot × Int)} (hb : b ∈ bs) (m : Int) : R dr (k + 1) 13 [encB bs, toD b.1, .int m] = ret (encB (louderT bs b.1 m)) := by
  refine fret (F := d13.f) (ρ := [.pu (encB bs), .pu (toD b.1), .pu (.int m), .no]) rfl rfl rfl ?_
  show evTs _ b13 _ = _
  have hl := ok.len
  have e1 : u2 .ix (encB bs) (toD b.1) = some (toD b.2) := by rw [encB, u_ixd, getT_mem ok.nd hb]; rfl
  have e2 : u1 .dict (encB bs) = some (encB bs) := u_dcopy (fun _ => rfl) _ bs (by rw [sz_eq]; omega)
  have e3 : setIx (encB bs) (toD b.1) (.tuple [toD b.2.1, .int (b.2.2 + m)]) = some (encB (louderT bs b.1 m)) := by
    have := set_dict (fun v : Spot × Int => toD v) bs b.1 (b.2.1, b.2.2 + m) (by rw [sz_eq]; omega)
    rw [show putT bs b.1 (b.2.1, b.2.2 + m) = louderT bs b.1 m from ?_] at this
    · exact this
    · unfold putT louderT
      rw [if_pos (List.mem_map_of_mem hb)]
      refine List.map_congr_left fun q hq => ?_
      by_cases c : q.1 = b.1
      · have hqb : q.2 = b.2 := by
          have h1 := getT_mem ok.nd hq
          have h2 := getT_mem ok.nd hb
          rw [c, h2] at h1
          exact (Option.some.inj h1).symm
        rw [if_pos c, if_pos c, ← hqb]
      · rw [if_neg c, if_neg c, Int.add_zero]
  have es : ∀ d, outSet [.pu (encB bs), .pu (toD b.1), .pu (.int m), .no] 3 d = ret (.nx [.pu (encB bs), .pu (toD b.1), .pu (.int m), d]) := fun d => rfl
  have est : stor true (encB bs) = .ow (encB bs) := rfl
  rw [b13, eTs_cons, eT_asg]
  simp only [eE_o1, eE_v, slGet, List.getElem?_cons_zero, List.getElem?_cons_succ, lift_sm, bnd_ret, e2, est, es, thenM_nx]
  rw [eTs_cons, eT_setix]
  simp only [eE_tup, eEs_cons, eEs_nil, eE_o2, eE_c, eE_v, slGet, slOw, List.getElem?_cons_zero, List.getElem?_cons_succ, lift_sm, bnd_ret, e1, u_ix0, u_ix1, td_i, u_add, e3, thenM_nx]
  simp [eTs_cons, eT_fz, freeze, eT_ret, slGet]
/-- the least more with which none is deaf -/
def leastT (bs : Bells) (w h : Int) (n : Str) (most : Int) : Option Int := (irng 0 (most + 1)).find? fun m => decide (withT (louderT bs n m) w h [] = [])
theorem r_least {bs : Bells} (ok : OkB bs) {b : Str × (Spot × Int)} (hb : b ∈ bs) {most : Int} (h0 : 0 ≤ most) (h1 : most ≤ 10) : R dr (k + 5) 14 [encB bs, .int w, .int h, toD b.1, .int most] = ret (match leastT bs w h b.1 most with | some m => .int m | none => .none) := by
  refine fret (F := d14.f) (ρ := [.pu (encB bs), .pu (.int w), .pu (.int h), .pu (toD b.1), .pu (.int most), .no]) rfl rfl rfl ?_
  show evTs _ b14 _ = _
  have L := loop_find (f := bodyM (R dr (k + 4)) (.nm 5) [.ife (.o2 .eq (.call 12 [.call 13 [.v 0, .v 3, .v 5], .v 1, .v 2]) (.tup [])) [.ret (.v 5)] []]) (l := irng 0 (most + 1)) (enc := fun m => toD m)
    (st := fun ρ => ∃ x, ρ = [.pu (encB bs), .pu (.int w), .pu (.int h), .pu (toD b.1), .pu (.int most), x]) (p := fun m => decide (withT (louderT bs b.1 m) w h [] = [])) (r := fun m => .int m) ?_
    (ρ := [.pu (encB bs), .pu (.int w), .pu (.int h), .pu (toD b.1), .pu (.int most), .no]) ⟨.no, rfl⟩
  · rw [b14, eTs_cons, eT_for]
    simp only [eS_rg1, eE_o2, eE_v, eE_c, slGet, List.getElem?_cons_zero, List.getElem?_cons_succ, lift_sm, bnd_ret, u_add, rng_t (a := 0) (b := most + 1) (by omega) (by omega) (by omega) (by omega)]
    rcases L with ⟨a, e1, e2⟩ | ⟨e1, ρ', e2, x, rfl⟩
    · rw [e2, leastT, e1]; rfl
    · rw [e2, leastT, e1]
      simp [eTs_cons, eT_ret]
  · rintro m hm ρ ⟨x, rfl⟩
    have f1 : R dr (k + 4) 13 [encB bs, toD b.1, .int m] = ret (encB (louderT bs b.1 m)) := r_louder (k := k + 3) ok hb m
    have f2 : R dr (k + 4) 12 [encB (louderT bs b.1 m), .int w, .int h] = ret (encF (withT (louderT bs b.1 m) w h [])) := r_deaf dr k hw hh hw0 hh0 (louder_ok ok b.1 m)
    have ea : asgT (.nm 5) (toD m) [.pu (encB bs), .pu (.int w), .pu (.int h), .pu (toD b.1), .pu (.int most), x] = some [.pu (encB bs), .pu (.int w), .pu (.int h), .pu (toD b.1), .pu (.int most), .pu (.int m)] := rfl
    have eq := u_eqU (α := Spot) (by decide) (withT (louderT bs b.1 m) w h []) []
    rw [List.map_nil] at eq
    unfold bodyM
    rw [ea, lift_sm, bnd_ret, eTs_cons, eT_ife]
    simp only [eE_call, eE_tup, eEs_cons, eEs_nil, eE_o2, eE_v, slGet, List.getElem?_cons_zero, List.getElem?_cons_succ, lift_sm, bnd_ret, f1, f2, encF, eq, boolM_b]
    by_cases c : withT (louderT bs b.1 m) w h [] = []
    · rw [if_pos (by simp [c]), if_pos (by simp [c])]
      simp [eTs_cons, eT_ret, slGet]
    · rw [if_neg (by simp [c]), if_neg (by simp [c])]
      exact ⟨_, by rw [eTs_nil, bnd_ret, thenM_nx, eTs_nil], _, rfl⟩
end
end K29P
end RW.PL
/-! Plain: statements that draw. -/
namespace RW.PL
open PySem PySem.W
section
variable {C : Orc} {ρ ρ' : Sls} {ts : List Ss} {n : Nat} {Q : Out → Nat → Prop}
theorem ev_asg {own : Bool} {i : Nat} {e : Ex} {d : PyData} (h : evE C e ρ = ret d) (ho : outSet ρ i (stor own d) = ret (.nx ρ')) (k : Ev (evTs C ts ρ') n Q) : Ev (evTs C (.asg own (.nm i) e :: ts) ρ) n Q := by
  rw [eTs_cons, eT_asg, h, bnd_ret, ho, bnd_ret, thenM_nx]
  exact k
theorem ev_asgE {own : Bool} {i : Nat} {e : Ex} (h : Ev (evE C e ρ) n fun d n' => ∃ ρ', outSet ρ i (stor own d) = ret (.nx ρ') ∧ Ev (evTs C ts ρ') n' Q) : Ev (evTs C (.asg own (.nm i) e :: ts) ρ) n Q := by
  rw [eTs_cons, eT_asg, bnd_assoc]
  refine ev_bnd (h.mono ?_)
  rintro d n' ⟨ρ', e1, e2⟩
  rw [e1, bnd_ret, thenM_nx]
  exact e2
theorem ev_asgt {own : Bool} {gs : List Tg} {e : Ex} {d : PyData} (h : evE C e ρ = ret d) (ho : asgT (.tp gs) d ρ = some ρ') (k : Ev (evTs C ts ρ') n Q) : Ev (evTs C (.asg own (.tp gs) e :: ts) ρ) n Q := by
  rw [eTs_cons, eT_asgt, h, bnd_ret, ho, lift_sm, bnd_ret, bnd_ret, thenM_nx]
  exact k
theorem ev_par {qs : List (Nat × Bool)} {es : List Ex} {ds : List PyData} (h : evEs C es ρ = ret ds) (ho : parS qs ds ρ = some ρ') (k : Ev (evTs C ts ρ') n Q) : Ev (evTs C (.par qs es :: ts) ρ) n Q := by
  rw [eTs_cons, eT_par, h, bnd_ret, ho, lift_sm, bnd_ret, bnd_ret, thenM_nx]
  exact k
theorem ev_parE {qs : List (Nat × Bool)} {es : List Ex} (h : Ev (evEs C es ρ) n fun ds n' => ∃ ρ', parS qs ds ρ = some ρ' ∧ Ev (evTs C ts ρ') n' Q) : Ev (evTs C (.par qs es :: ts) ρ) n Q := by
  rw [eTs_cons, eT_par, bnd_assoc]
  refine ev_bnd (h.mono ?_)
  rintro d n' ⟨ρ', e1, e2⟩
  rw [e1, lift_sm, bnd_ret, bnd_ret, thenM_nx]
  exact e2
theorem ev_ife_no {c : Ex} {a : List Ss} (h : evE C c ρ = ret (.bool false)) (k : Ev (evTs C ts ρ) n Q) : Ev (evTs C (.ife c a [] :: ts) ρ) n Q := by
  rw [eTs_cons, eT_ife, h, bnd_ret, boolM_b, bnd_ret, if_neg Bool.false_ne_true, eTs_nil, bnd_ret, thenM_nx]
  exact k
theorem ev_for {t : Tg} {s : Sr} {b : List Ss} {xs : List PyData} (h : evS C s ρ = ret xs) (k : Ev (loopM (bodyM C t b) xs ρ) n fun o n' => ∃ ρ', o = .nx ρ' ∧ Ev (evTs C ts ρ') n' Q) : Ev (evTs C (.for t s b :: ts) ρ) n Q := by
  rw [eTs_cons, eT_for, h, bnd_ret]
  refine ev_bnd (k.mono ?_)
  rintro o n' ⟨ρ', rfl, e⟩
  rw [thenM_nx]
  exact e
theorem ev_forE {t : Tg} {s : Sr} {b : List Ss} (h : Ev (evS C s ρ) n fun xs n' => Ev (loopM (bodyM C t b) xs ρ) n' fun o n' => ∃ ρ', o = .nx ρ' ∧ Ev (evTs C ts ρ') n' Q) : Ev (evTs C (.for t s b :: ts) ρ) n Q := by
  rw [eTs_cons, eT_for, bnd_assoc]
  refine ev_bnd (h.mono ?_)
  intro xs n' k
  refine ev_bnd (k.mono ?_)
  rintro o n' ⟨ρ', rfl, e⟩
  rw [thenM_nx]
  exact e
theorem ev_forP {t : Tg} {s : Sr} {b : List Ss} {xs : List PyData} (h : evS C s ρ = ret xs) (k : loopM (bodyM C t b) xs ρ = ret (.nx ρ')) (g : Ev (evTs C ts ρ') n Q) : Ev (evTs C (.for t s b :: ts) ρ) n Q := ev_for h (ev_of k ⟨_, rfl, g⟩)
theorem ev_ret' {e : Ex} {d : PyData} (h : evE C e ρ = ret d) (q : Q (.rt d) n) : Ev (evTs C (.ret e :: ts) ρ) n Q := by
  rw [eTs_cons, eT_ret, h, bnd_ret, bnd_ret, thenM_rt]
  exact ev_ret q
theorem ev_nil (q : Q (.nx ρ) n) : Ev (evTs C [] ρ) n Q := by rw [eTs_nil]; exact ev_ret q
theorem ev_appE {i : Nat} {e : Ex} {d : PyData} (h : slOw ρ i = some d) (k : Ev (evE C e ρ) n fun x n' => ∃ d', appD d x = some d' ∧ Ev (evTs C ts (ρ.set i (.ow d'))) n' Q) : Ev (evTs C (.app i e :: ts) ρ) n Q := by
  rw [eTs_cons, eT_app, h, lift_sm, bnd_ret, bnd_assoc]
  refine ev_bnd (k.mono ?_)
  rintro x n' ⟨d', e1, e2⟩
  rw [e1, lift_sm, bnd_ret, bnd_ret, thenM_nx]
  exact e2
end
/-- a comprehension that draws, with a test or a source that draws -/
theorem comp_evL {α β : Type} {f : PyData → M (List PyData)} {enc : α → PyData} {enc2 : β → PyData} : ∀ {l : List α}, (∀ a ∈ l, ∀ n, Ev (f (enc a)) n fun ys _ => ∃ bs : List β, ys = bs.map enc2 ∧ bs.length ≤ 1) →
    ∀ {n : Nat}, Ev (compM f (l.map enc)) n fun ys _ => ∃ bs : List β, ys = bs.map enc2 ∧ bs.length ≤ l.length
  | [], _, n => ev_ret ⟨[], rfl, Nat.le_refl _⟩
  | a :: l, h, n => by
    rw [List.map_cons, compM_cons]
    refine ev_bnd ((h a List.mem_cons_self n).mono ?_)
    rintro ys n' ⟨b, rfl, hb⟩
    refine ev_bnd ((comp_evL (l := l) (fun c hc => h c (List.mem_cons_of_mem _ hc))).mono ?_)
    rintro zs n2 ⟨bs, rfl, hbs⟩
    exact ev_ret ⟨b ++ bs, by simp, by simp only [List.length_append, List.length_cons]; omega⟩
theorem cp_evS {α β : Type} {C : Orc} {ρ : Sls} {enc : α → PyData} {enc2 : β → PyData} {P : α → β → Prop} {L : List α → Prop} {own : List Nat} {t : Tg} {s : Sr} {e : Ex} {n : Nat} {Q : PyData → Nat → Prop} (hs : Ev (evS C s ρ) n fun xs _ => ∃ l : List α, xs = l.map enc ∧ L l) (hf : ∀ l, L l → l.length ≤ sizeLine)
    (h : ∀ l, L l → ∀ a ∈ l, ∀ n, ∃ ρ', asgT t (enc a) (wipeS ρ own) = some ρ' ∧ Ev (evE C e ρ') n fun y _ => ∃ b, y = enc2 b ∧ P a b) (hq : ∀ l, L l → ∀ bs n', F2 P l bs → Q (.list (bs.map enc2)) n') : Ev (evE C (.cp own t s none e) ρ) n Q := by
  rw [eE_cp]
  refine ev_bnd (hs.mono ?_)
  rintro xs n1 ⟨l, rfl, hl⟩
  refine ev_bnd ((comp_ev (P := P) (enc2 := enc2) fun a ha m => ?_).mono ?_)
  · obtain ⟨ρ', e1, e2⟩ := h l hl a ha m
    unfold turnM
    rw [e1, lift_sm, bnd_ret, eQ_none, bnd_ret, if_pos rfl]
    refine ev_bnd (e2.mono ?_)
    rintro y n' ⟨b, rfl, hb⟩
    exact ev_ret ⟨b, rfl, hb⟩
  · rintro ys n' ⟨bs, rfl, hb⟩
    rw [fitL_t _ (by rw [List.length_map, ← hb.length_eq]; exact hf l hl), lift_sm]
    exact ev_ret (hq l hl bs n' hb)
/-- .. with a test that draws; the item is given back -/
theorem cp_evQ {α β : Type} {C : Orc} {ρ : Sls} {enc : α → PyData} {enc2 : β → PyData} {l : List α} {own : List Nat} {t : Tg} {s : Sr} {q : Ex} {e : Ex} {n : Nat} {Q : PyData → Nat → Prop} (hs : evS C s ρ = ret (l.map enc)) (hf : l.length ≤ sizeLine)
    (h : ∀ a ∈ l, ∀ n, ∃ ρ' b, asgT t (enc a) (wipeS ρ own) = some ρ' ∧ evE C e ρ' = ret (enc2 b) ∧ Ev (evQ C (some q) ρ') n fun _ _ => True) (hq : ∀ (bs : List β) n', bs.length ≤ l.length → Q (.list (bs.map enc2)) n') : Ev (evE C (.cp own t s (some q) e) ρ) n Q := by
  rw [eE_cp, hs, bnd_ret]
  refine ev_bnd ((comp_evL (enc2 := enc2) fun a ha m => ?_).mono ?_)
  · obtain ⟨ρ', b, e1, e2, e3⟩ := h a ha m
    unfold turnM
    rw [e1, lift_sm, bnd_ret]
    refine ev_bnd (e3.mono ?_)
    intro p n' _
    cases p with
    | true => rw [if_pos rfl, e2, bnd_ret]; exact ev_ret ⟨[b], rfl, Nat.le_refl _⟩
    | false => rw [if_neg Bool.false_ne_true]; exact ev_ret ⟨[], rfl, Nat.zero_le _⟩
  · rintro ys n' ⟨bs, rfl, hb⟩
    rw [fitL_t _ (by rw [List.length_map]; omega), lift_sm]
    exact ev_ret (hq bs n' hb)
end RW.PL
/-! Plain: slots told by facts. -/
namespace RW.PL
open PySem PySem.W
section
variable {ρ : Sls} {i j : Nat} {x : Sl} {d : PyData}
theorem get_ne (h : i ≠ j) : slGet (ρ.set i x) j = slGet ρ j := by simp only [slGet, List.getElem?_set_ne h]
theorem any_ne (h : i ≠ j) : slAny (ρ.set i x) j = slAny ρ j := by simp only [slAny, List.getElem?_set_ne h]
theorem ow_ne (h : i ≠ j) : slOw (ρ.set i x) j = slOw ρ j := by simp only [slOw, List.getElem?_set_ne h]
theorem w_ne (h : i ≠ j) : slW (ρ.set i x) j = slW ρ j := by simp only [slW, List.getElem?_set_ne h]
theorem get_eq (h : i < ρ.length) : slGet (ρ.set i (.pu d)) i = some d := by simp only [slGet, List.getElem?_set_self h]
theorem any_eq (h : i < ρ.length) : slAny (ρ.set i (.pu d)) i = some d := by simp only [slAny, List.getElem?_set_self h]
theorem any_eqo (h : i < ρ.length) : slAny (ρ.set i (.ow d)) i = some d := by simp only [slAny, List.getElem?_set_self h]
theorem ow_eq (h : i < ρ.length) : slOw (ρ.set i (.ow d)) i = some d := by simp only [slOw, List.getElem?_set_self h]
theorem asg_nm (h : i < ρ.length) : asgT (.nm i) d ρ = some (ρ.set i (.pu d)) := by simp only [asgT, if_pos h]
theorem out_set (h : i < ρ.length) : outSet ρ i x = ret (.nx (ρ.set i x)) := by unfold outSet; rw [if_pos h]
theorem wipe1 : wipeS ρ [i] = ρ.set i .no := id rfl
theorem wipe2 : wipeS ρ [i, j] = (ρ.set j .no).set i .no := id rfl
theorem asg_w (h : i < ρ.length) : asgT (.nm i) d (wipeS ρ [i]) = some ((ρ.set i .no).set i (.pu d)) := by
  rw [wipe1]
  exact asg_nm (by rw [List.length_set]; exact h)
theorem get_eqw (h : i < ρ.length) : slGet ((ρ.set i x).set i (.pu d)) i = some d := get_eq (by rw [List.length_set]; exact h)
theorem ow_get (h : slOw ρ i = some d) : slAny ρ i = some d := by
  unfold slOw at h
  unfold slAny
  split at h
  · cases h; rename_i e; rw [e]
  · cases h
theorem get_any (h : slGet ρ i = some d) : slAny ρ i = some d := by
  unfold slGet at h
  unfold slAny
  split at h
  · cases h; rename_i e; rw [e]
  · cases h
end
section
variable {α : Type} [DecidableEq α] [Datum α] {k : Nat}
theorem alk_tm {l : List α} (h : l.length ≤ sizeLine) (g : ∀ x ∈ l, Alk k (toD x)) : Alk (k + 1) (.tuple (l.map toD)) := alk_tmap h g
end
theorem alk_H {k : Nat} {l : List Str} (h : l.length ≤ 100000) : Alk (k + 2) (.tuple (l.map toD)) := alk_tmap (by rw [sz_eq]; omega) fun _ _ => alk_str
theorem alk_Z {k : Nat} {l : List Int} (h : l.length ≤ 100000) : Alk (k + 2) (.tuple (l.map toD)) := alk_tmap (by rw [sz_eq]; omega) fun _ _ => alk_int
theorem alk_sp {k : Nat} (s : Int × Int) : Alk (k + 2) (toD s) := alk_tup (by rw [sz_eq]; simp) fun x hx => by
  simp only [List.mem_cons, List.not_mem_nil, or_false] at hx
  rcases hx with rfl | rfl <;> exact alk_int
theorem alk_F {k : Nat} {l : List (Int × Int)} (h : l.length ≤ 100000) : Alk (k + 3) (.tuple (l.map toD)) := alk_tmap (by rw [sz_eq]; omega) fun x _ => alk_sp x
end RW.PL
/-! k29, plain: bells (3): the walk; the law's state. -/
namespace RW.PL
open PySem PySem.W RW.K29
namespace K29P
/-- where one can be, row by row -/
def stepW (bs : Bells) (w h : Int) (rows : List (List Str)) (found : List Spot) (i : Nat) : List Spot :=
  (withT bs w h (rows.getD i [])).filter fun s => decide ((i : Int) = 0) || (found.map fun o => decide (dist s o ≤ 1)).any id
def walkT (bs : Bells) (w h : Int) (rows : List (List Str)) : List Spot := (List.range rows.length).foldl (stepW bs w h rows) (fieldT w h)
theorem absI_neg (a b : Int) : absI (a - b) = absI (b - a) := by unfold absI; split <;> split <;> omega
theorem dist_comm (a b : Spot) : dist a b = dist b a := by unfold dist; rw [absI_neg a.1, absI_neg a.2]
theorem stepW_len {w h : Int} (hw : w ≤ 4) (hh : h ≤ 4) (bs : Bells) (rows : List (List Str)) (found : List Spot) (i : Nat) : (stepW bs w h rows found i).length ≤ 16 :=
  Nat.le_trans (List.length_filter_le _ _) (length_withT hw hh bs _)
section
variable {dr : List Int} {k : Nat} {w h : Int} (hw : w ≤ 4) (hh : h ≤ 4) (hw0 : 0 ≤ w) (hh0 : 0 ≤ h)
include hw hh hw0 hh0
theorem r_walk {bs : Bells} (ok : OkB bs) (rows : List (List Str)) (hr : rows.length ≤ 1000) : R dr (k + 5) 8 [encB bs, .int w, .int h, .tuple (rows.map encH)] = ret (encF (walkT bs w h rows)) := by
  refine fret (F := d8.f) (ρ := [.pu (encB bs), .pu (.int w), .pu (.int h), .pu (.tuple (rows.map encH)), .no, .no, .no, .no, .no]) rfl rfl rfl ?_
  show evTs _ b8 _ = _
  have L := loop_pure (f := bodyM (R dr (k + 4)) (.nm 5) [.asg false (.nm 6) (.call 6 [.v 0, .v 1, .v 2, .o2 .ix (.v 3) (.v 5)]), .asg false (.nm 4) (.cp [7] (.nm 7) (.ex (.v 6)) (some (.or (.o2 .eq (.v 5) (.c (.int 0))) (.o1 .any (.cp [8] (.nm 8) (.ex (.v 4)) none (.o2 .le (.call 3 [.v 7, .v 8]) (.c (.int 1))))))) (.v 7))])
    (l := List.range rows.length) (enc := fun (i : Nat) => toD (i : Int)) (g := stepW bs w h rows)
    (st := fun found ρ => found.length ≤ 16 ∧ ∃ x5 x6, ρ = [.pu (encB bs), .pu (.int w), .pu (.int h), .pu (.tuple (rows.map encH)), .pu (.list (found.map toD)), x5, x6, .no, .no]) ?_
    (s := fieldT w h) (ρ := [.pu (encB bs), .pu (.int w), .pu (.int h), .pu (.tuple (rows.map encH)), .pu (.list ((fieldT w h).map toD)), .no, .no, .no, .no]) ⟨length_fieldT hw hh, .no, .no, rfl⟩
  · obtain ⟨ρ', e, hl, x5, x6, rfl⟩ := L
    have es : ∀ d, outSet [.pu (encB bs), .pu (.int w), .pu (.int h), .pu (.tuple (rows.map encH)), .no, .no, .no, .no, .no] 4 d = ret (.nx [.pu (encB bs), .pu (.int w), .pu (.int h), .pu (.tuple (rows.map encH)), d, .no, .no, .no, .no]) := fun d => rfl
    have e1 : R dr (k + 4) 5 [.int w, .int h] = ret (.list ((fieldT w h).map toD)) := r_field dr (k + 3) hw hh hw0 hh0
    rw [b8, eTs_cons, eT_asg]
    simp only [eE_call, eEs_cons, eEs_nil, eE_v, slGet, List.getElem?_cons_zero, List.getElem?_cons_succ, lift_sm, bnd_ret, e1, stor_f, es, thenM_nx]
    rw [eTs_cons, eT_for]
    simp only [eS_rg1, eE_o1, eE_v, slGet, List.getElem?_cons_zero, List.getElem?_cons_succ, lift_sm, bnd_ret, u_lent, List.length_map, rng_n (show rows.length ≤ 100000000 by omega), e, thenM_nx]
    simp [eTs_cons, eT_ret, slGet, encF, walkT]
  · rintro i hi found ρ ⟨hf, x5, x6, rfl⟩
    rw [List.mem_range] at hi
    have e1 : u2 .ix (.tuple (rows.map encH)) (.int (i : Int)) = some (encH (rows.getD i [])) := by
      rw [u_ixt (by rw [List.length_map]; exact hi)]
      simp [List.getD_eq_getElem?_getD, List.getElem?_eq_getElem hi]
    generalize hrow : rows.getD i [] = row at e1
    have e2 : R dr (k + 4) 6 [encB bs, .int w, .int h, encH row] = ret (encF (withT bs w h row)) := r_with dr (k + 1) hw hh hw0 hh0 ok row
    refine ⟨[.pu (encB bs), .pu (.int w), .pu (.int h), .pu (.tuple (rows.map encH)), .pu (.list ((stepW bs w h rows found i).map toD)), .pu (.int (i : Int)), .pu (encF (withT bs w h row)), .no, .no], ?_, stepW_len hw hh bs rows found i, _, _, rfl⟩
    have hwl := length_withT hw hh bs row
    have inner : ∀ s : Spot, evE (R dr (k + 4)) (.cp [8] (.nm 8) (.ex (.v 4)) none (.o2 .le (.call 3 [.v 7, .v 8]) (.c (.int 1)))) [.pu (encB bs), .pu (.int w), .pu (.int h), .pu (.tuple (rows.map encH)), .pu (.list (found.map toD)), .pu (.int (i : Int)), .pu (encF (withT bs w h row)), .pu (toD s), .no] =
        ret (.list ((found.map fun o => decide (dist s o ≤ 1)).map PyData.bool)) := fun s => by
      have c := cp_map (C := R dr (k + 4)) (ρ := [.pu (encB bs), .pu (.int w), .pu (.int h), .pu (.tuple (rows.map encH)), .pu (.list (found.map toD)), .pu (.int (i : Int)), .pu (encF (withT bs w h row)), .pu (toD s), .no])
        (l := found) (enc := toD) (g := fun o => .bool (decide (dist s o ≤ 1))) (own := [8]) (t := .nm 8) (s := .ex (.v 4)) (e := .o2 .le (.call 3 [.v 7, .v 8]) (.c (.int 1)))
        (by simp [slGet, it_l]) (by rw [sz_eq]; omega) fun o ho => by
          have f1 : R dr (k + 4) 3 [toD s, toD o] = ret (.int (dist s o)) := r_far dr (k + 3) s o
          exact ⟨[.pu (encB bs), .pu (.int w), .pu (.int h), .pu (.tuple (rows.map encH)), .pu (.list (found.map toD)), .pu (.int (i : Int)), .pu (encF (withT bs w h row)), .pu (toD s), .pu (toD o)], rfl, by simp [slGet, f1]⟩
      rw [c, List.map_map]
      rfl
    have outer := cp_pure (C := R dr (k + 4)) (ρ := [.pu (encB bs), .pu (.int w), .pu (.int h), .pu (.tuple (rows.map encH)), .pu (.list (found.map toD)), .pu (.int (i : Int)), .pu (encF (withT bs w h row)), .no, .no])
      (l := withT bs w h row) (enc := toD) (p := fun s => decide ((i : Int) = 0) || (found.map fun o => decide (dist s o ≤ 1)).any id) (g := toD) (own := [7]) (t := .nm 7) (s := .ex (.v 6))
      (q := some (.or (.o2 .eq (.v 5) (.c (.int 0))) (.o1 .any (.cp [8] (.nm 8) (.ex (.v 4)) none (.o2 .le (.call 3 [.v 7, .v 8]) (.c (.int 1))))))) (e := .v 7)
      (by simp [slGet, encF, it_t]) (by rw [sz_eq]; omega) fun s hs => by
        refine ⟨[.pu (encB bs), .pu (.int w), .pu (.int h), .pu (.tuple (rows.map encH)), .pu (.list (found.map toD)), .pu (.int (i : Int)), .pu (encF (withT bs w h row)), .pu (toD s), .no], rfl, ?_, fun _ => by simp [slGet]⟩
        simp only [eQ_some, eE_or, eE_o2, eE_o1, eE_v, eE_c, slGet, List.getElem?_cons_zero, List.getElem?_cons_succ, lift_sm, bnd_ret, u_eqi, boolM_b]
        rw [inner s, bnd_ret, u_any, lift_sm, bnd_ret, boolM_b, bnd_ret]
        cases decide ((i : Int) = 0) <;> simp
    have es : ∀ d, outSet [.pu (encB bs), .pu (.int w), .pu (.int h), .pu (.tuple (rows.map encH)), .pu (.list (found.map toD)), .pu (.int (i : Int)), x6, .no, .no] 6 d = ret (.nx [.pu (encB bs), .pu (.int w), .pu (.int h), .pu (.tuple (rows.map encH)), .pu (.list (found.map toD)), .pu (.int (i : Int)), d, .no, .no]) := fun d => rfl
    have es2 : ∀ d e, outSet [.pu (encB bs), .pu (.int w), .pu (.int h), .pu (.tuple (rows.map encH)), .pu (.list (found.map toD)), .pu (.int (i : Int)), e, .no, .no] 4 d = ret (.nx [.pu (encB bs), .pu (.int w), .pu (.int h), .pu (.tuple (rows.map encH)), d, .pu (.int (i : Int)), e, .no, .no]) := fun d e => rfl
    have ea : asgT (.nm 5) (toD (i : Int)) [.pu (encB bs), .pu (.int w), .pu (.int h), .pu (.tuple (rows.map encH)), .pu (.list (found.map toD)), x5, x6, .no, .no] = some [.pu (encB bs), .pu (.int w), .pu (.int h), .pu (.tuple (rows.map encH)), .pu (.list (found.map toD)), .pu (.int (i : Int)), x6, .no, .no] := rfl
    unfold bodyM
    rw [ea, lift_sm, bnd_ret, eTs_cons, eT_asg]
    simp only [eE_call, eEs_cons, eEs_nil, eE_o2, eE_v, slGet, List.getElem?_cons_zero, List.getElem?_cons_succ, lift_sm, bnd_ret, e1, e2, stor_f, es, thenM_nx]
    rw [eTs_cons, eT_asg, outer, bnd_ret, stor_f, es2, bnd_ret, thenM_nx, eTs_nil, stepW, hrow]
end
/-! ### the law's own fields -/
theorem four {w : Int} (h1 : 1 ≤ w) (h2 : w ≤ 4) : w = 1 ∨ w = 2 ∨ w = 3 ∨ w = 4 := by omega
theorem field_law {w h : Int} (w1 : 1 ≤ w) (w4 : w ≤ 4) (h1 : 1 ≤ h) (h4 : h ≤ 4) : (irng 0 (w * h)).map (fun k => ((k.fdiv h, k - k.fdiv h * h) : Spot)) = fieldT w h ∧ (fieldT w h).Nodup ∧ fieldT w h ≠ [] := by
  rcases four w1 w4 with rfl | rfl | rfl | rfl <;> rcases four h1 h4 with rfl | rfl | rfl | rfl <;> decide
def hdL (bs : Bells) (w h : Int) : List (Spot × List Str) := (fieldT w h).map fun s => (s, heardT bs s)
def hdD (bs : Bells) (w h : Int) : PyData := encD encH (hdL bs w h)
theorem hdL_keys (bs : Bells) (w h : Int) : (hdL bs w h).map Prod.fst = fieldT w h := by simp [hdL, List.map_map, Function.comp_def]
theorem hd_ix {bs : Bells} {w h : Int} (hn : (fieldT w h).Nodup) {s : Spot} (hs : s ∈ fieldT w h) : u2 .ix (hdD bs w h) (toD s) = some (encH (heardT bs s)) := by
  have hm : (s, heardT bs s) ∈ hdL bs w h := List.mem_map.mpr ⟨s, hs, rfl⟩
  have hg := getT_mem (by rw [hdL_keys]; exact hn) hm
  rw [hdD, u_ixd, hg]
  rfl
theorem hd_in (bs : Bells) (w h : Int) (s : Spot) : u2 .isin (toD s) (hdD bs w h) = some (.bool (decide (s ∈ fieldT w h))) := by
  rw [hdD, u_ind]
  refine congrArg some (congrArg PyData.bool (decide_eq_decide.mpr ?_))
  rw [hdL_keys]
end K29P
end RW.PL
/-! k29: the statements of _law_bells, _law_courses, one by one. -/
namespace RW.PL
open PySem PySem.W RW.K29
namespace K29P
def s35_0 : Ss := .par [(11, false), (12, false)] [.o2 .add (.c (.int 1)) (.call 30 [.w 0, .c (.int 4)]), .o2 .add (.c (.int 1)) (.call 30 [.w 0, .c (.int 4)])]
def s35_1 : Ss := .asg false (.nm 1) (.o1 .dict (.cp [10] (.nm 10) (.ex (.sl (.lst [.c (.str "a"), .c (.str "b"), .c (.str "c")]) none (some (.call 30 [.w 0, .c (.int 4)])))) none (.tup [.v 10, .tup [.tup [.o2 .sub (.call 30 [.w 0, .c (.int 6)]) (.c (.int 1)), .o2 .sub (.call 30 [.w 0, .c (.int 6)]) (.c (.int 1))], .call 30 [.w 0, .c (.int 5)]]])))
def s35_2 : Ss := .asg false (.nm 2) (.cp [6] (.nm 6) (.rg1 (.o2 .mul (.v 11) (.v 12))) none (.tup [.o2 .fdiv (.v 6) (.v 12), .o2 .sub (.v 6) (.o2 .mul (.o2 .fdiv (.v 6) (.v 12)) (.v 12))]))
def s35_3 : Ss := .asg false (.nm 3) (.o1 .dict (.cp [13] (.nm 13) (.ex (.v 2)) none (.tup [.v 13, .call 34 [.v 1, .v 13]])))
def s35_4 : Ss := .par [(13, false), (14, false)] [.call 31 [.w 0, .v 2], .o1 .tup (.cp [10] (.nm 10) (.ex (.o1 .sorted (.v 1))) (some (.o2 .eq (.call 30 [.w 0, .c (.int 2)]) (.c (.int 0)))) (.v 10))]
def s35_5 : Ss := .asg false (.nm 4) (.tup [.call 4 [.o1 .dict (.v 1), .v 13], .call 6 [.o1 .dict (.v 1), .v 11, .v 12, .v 14], .call 7 [.o1 .dict (.v 1), .v 11, .v 12, .v 13], .call 12 [.o1 .dict (.v 1), .v 11, .v 12]])
def s35_6 : Ss := .asg false (.nm 5) (.cp [20] (.nm 20) (.ex (.v 2)) (some (.o2 .eq (.o2 .ix (.v 3) (.v 20)) (.o2 .ix (.v 3) (.v 13)))) (.v 20))
def s35_7 : Ss := .ife (.nt (.call 32 [.v 4, .tup [.o2 .ix (.v 3) (.v 13), .o1 .tup (.cp [20] (.nm 20) (.ex (.v 2)) (some (.o2 .eq (.o2 .ix (.v 3) (.v 20)) (.v 14))) (.v 20)), .o2 .eq (.v 5) (.lst [.v 13]), .o1 .tup (.cp [20] (.nm 20) (.ex (.v 2)) (some (.o2 .eq (.o2 .ix (.v 3) (.v 20)) (.tup []))) (.v 20))]])) [.ret (.c (.bool false))] []
def s35_8 : Ss := .par [(15, false), (16, true)] [.v 13, .lst []]
def f35_9 : List Ss := [.app 16 (.ite (.o2 .gt (.call 30 [.w 0, .c (.int 6)]) (.c (.int 0))) (.o2 .ix (.v 3) (.v 15)) (.v 14)), .asg false (.tp [.nm 21, .nm 22]) (.v 15), .asg false (.nm 15) (.call 31 [.w 0, .cp [20] (.nm 20) (.ex (.lst [.tup [.o2 .sub (.v 21) (.c (.int 1)), .v 22], .tup [.o2 .add (.v 21) (.c (.int 1)), .v 22], .tup [.v 21, .o2 .sub (.v 22) (.c (.int 1))], .tup [.v 21, .o2 .add (.v 22) (.c (.int 1))], .v 15])) (some (.o2 .isin (.v 20) (.v 3))) (.v 20)])]
def s35_9 : Ss := .for (.nm 6) (.rg1 (.call 30 [.w 0, .c (.int 5)])) f35_9
def s35_10 : Ss := .asg false (.nm 7) (.v 2)
def f35_11 : List Ss := [.asg false (.nm 7) (.cp [20] (.nm 20) (.ex (.v 2)) (some (.an (.o2 .eq (.o2 .ix (.v 3) (.v 20)) (.o2 .ix (.b 16) (.v 6))) (.or (.o2 .eq (.v 6) (.c (.int 0))) (.o2 .ne (.cp [26] (.nm 26) (.ex (.v 7)) (some (.o2 .lt (.o2 .add (.o1 .abs (.o2 .sub (.o2 .ix (.v 26) (.c (.int 0))) (.o2 .ix (.v 20) (.c (.int 0))))) (.o1 .abs (.o2 .sub (.o2 .ix (.v 26) (.c (.int 1))) (.o2 .ix (.v 20) (.c (.int 1)))))) (.c (.int 2)))) (.v 26)) (.lst []))))) (.v 20))]
def s35_11 : Ss := .for (.nm 6) (.rg1 (.o1 .len (.b 16))) f35_11
def s35_12 : Ss := .asg false (.nm 8) (.lst [])
def f35_13 : List Ss := [.asg false (.nm 17) (.o1 .dict (.cp [20] (.nm 20) (.ex (.v 2)) none (.tup [.o1 .tup (.cp [10] (.nm 10) (.ex (.o2 .ix (.v 3) (.v 20))) (some (.o2 .isin (.v 10) (.v 9))) (.v 10)), .c (.bool true)]))), .asg false (.nm 8) (.o2 .add (.v 8) (.ite (.o2 .eq (.o1 .len (.v 17)) (.o1 .len (.o1 .dict (.cp [20] (.nm 20) (.ex (.v 2)) none (.tup [.o2 .ix (.v 3) (.v 20), .c (.bool true)]))))) (.lst [.v 9]) (.lst [])))]
def s35_13 : Ss := .for (.nm 9) (.ex (.call 33 [.o1 .tup (.o1 .sorted (.v 1))])) f35_13
def s35_14 : Ss := .ife (.nt (.call 32 [.tup [.call 8 [.o1 .dict (.v 1), .v 11, .v 12, .o1 .tup (.b 16)], .call 11 [.o1 .dict (.v 1), .v 11, .v 12]], .tup [.o1 .tup (.v 7), .o2 .ix (.v 8) (.c (.int 0))]])) [.ret (.c (.bool false))] []
def f35_15 : List Ss := [.par [(23, false), (24, false)] [.call 30 [.w 0, .c (.int 4)], .call 30 [.w 0, .c (.int 5)]], .asg false (.nm 18) (.cp [25] (.nm 25) (.rg1 (.c (.int 6))) none (.o1 .dict (.cp [20] (.nm 20) (.ex (.v 1)) none (.tup [.v 20, .tup [.o2 .ix (.o2 .ix (.v 1) (.v 20)) (.c (.int 0)), .o2 .add (.o2 .ix (.o2 .ix (.v 1) (.v 20)) (.c (.int 1))) (.ite (.o2 .eq (.v 20) (.v 10)) (.v 25) (.c (.int 0)))]])))), .asg false (.nm 19) (.cp [25] (.nm 25) (.rg1 (.o2 .add (.v 24) (.c (.int 1)))) (some (.o2 .eq (.cp [20] (.nm 20) (.ex (.v 2)) (some (.o2 .eq (.call 34 [.o2 .ix (.v 18) (.v 25), .v 20]) (.tup []))) (.v 20)) (.lst []))) (.v 25)), .ife (.nt (.call 32 [.tup [.call 13 [.o1 .dict (.v 1), .v 10, .v 23], .call 14 [.o1 .dict (.v 1), .v 11, .v 12, .v 10, .v 24]], .tup [.o2 .ix (.v 18) (.v 23), .ite (.o2 .ne (.v 19) (.lst [])) (.o2 .ix (.v 19) (.c (.int 0))) (.c (.none))]])) [.ret (.c (.bool false))] []]
def s35_15 : Ss := .for (.nm 10) (.ex (.o1 .sorted (.v 1))) f35_15
def s35_16 : Ss := .ret (.c (.bool true))
theorem b35_eq : b35 = [s35_0, s35_1, s35_2, s35_3, s35_4, s35_5, s35_6, s35_7, s35_8, s35_9, s35_10, s35_11, s35_12, s35_13, s35_14, s35_15, s35_16] := rfl
def s40_0 : Ss := .asg false (.nm 1) (.cp [24] (.nm 24) (.ex (.call 36 [])) none (.o2 .ix (.v 24) (.c (.int 0))))
def s40_1 : Ss := .asg false (.nm 2) (.o1 .tup (.cp [12] (.nm 12) (.rg1 (.call 30 [.w 0, .c (.int 5)])) none (.tup [.call 31 [.w 0, .v 1], .call 30 [.w 0, .c (.int 5)]])))
def s40_2 : Ss := .par [(12, false), (13, false), (14, false)] [.o2 .sub (.call 30 [.w 0, .c (.int 9)]) (.c (.int 4)), .call 30 [.w 0, .c (.int 3)], .call 38 [.v 2]]
def s40_3 : Ss := .asg false (.nm 3) (.o1 .tup (.cp [15, 16] (.tp [.nm 15, .nm 16]) (.ex (.rev (.v 2))) none (.tup [.call 37 [.v 15, .c (.int 4)], .v 16])))
def s40_4 : Ss := .asg false (.nm 4) (.tup [.call 17 [.v 2], .call 19 [.v 2], .call 18 [.v 2, .v 12], .call 27 [.v 2], .call 26 [.v 2]])
def s40_5 : Ss := .ife (.or (.nt (.call 32 [.v 4, .tup [.o2 .ix (.v 14) (.o1 .neg (.c (.int 1))), .v 3, .call 39 [.v 2, .v 12], .o1 .tup (.v 14), .o2 .eq (.o2 .ix (.v 14) (.o1 .neg (.c (.int 1)))) (.tup [.c (.int 0), .c (.int 0)])]])) (.o2 .ne (.o2 .ix (.call 38 [.o2 .add (.v 2) (.v 3)]) (.o1 .neg (.c (.int 1)))) (.tup [.c (.int 0), .c (.int 0)]))) [.ret (.c (.bool false))] []
def s40_6 : Ss := .asg false (.nm 5) (.o1 .tup (.o1 .sorted (.o1 .dict (.cp [24] (.nm 24) (.rg2 (.o2 .sub (.c (.int 0)) (.v 13)) (.o2 .add (.v 13) (.c (.int 1)))) none (.tup [.o2 .ix (.call 38 [.call 39 [.v 2, .v 24]]) (.o1 .neg (.c (.int 1))), .c (.bool true)])))))
def s40_7 : Ss := .asg false (.nm 6) (.lst [.tup []])
def f40_8 : List Ss := [.asg false (.nm 17) (.lst []), .for (.nm 18) (.ex (.v 6)) [.asg false (.nm 17) (.o2 .add (.v 17) (.cp [24] (.nm 24) (.rg2 (.o2 .sub (.c (.int 0)) (.v 13)) (.o2 .add (.v 13) (.c (.int 1)))) none (.o2 .add (.v 18) (.tup [.tup [.call 37 [.v 15, .v 24], .v 16]]))))], .asg false (.nm 6) (.v 17)]
def s40_8 : Ss := .for (.tp [.nm 15, .nm 16]) (.ex (.v 2)) f40_8
def s40_9 : Ss := .asg false (.nm 7) (.o1 .tup (.o1 .sorted (.o1 .dict (.cp [18] (.nm 18) (.ex (.v 6)) none (.tup [.o2 .ix (.call 38 [.v 18]) (.o1 .neg (.c (.int 1))), .c (.bool true)])))))
def s40_10 : Ss := .asg false (.nm 8) (.o1 .tup (.o1 .sorted (.o1 .dict (.cp [25] (.nm 25) (.ex (.v 14)) (some (.o2 .gt (.o2 .lcount (.v 14) (.v 25)) (.c (.int 1)))) (.tup [.v 25, .c (.bool true)])))))
def s40_11 : Ss := .ife (.nt (.call 32 [.tup [.call 22 [.v 2, .v 13], .call 23 [.v 2, .v 13], .call 28 [.v 2]], .tup [.v 5, .v 7, .v 8]])) [.ret (.c (.bool false))] []
def s40_12 : Ss := .par [(19, false), (20, false)] [.call 31 [.w 0, .lst [.call 31 [.w 0, .o1 .lst (.v 7)], .tup [.o2 .sub (.call 30 [.w 0, .c (.int 9)]) (.c (.int 4)), .o2 .sub (.call 30 [.w 0, .c (.int 9)]) (.c (.int 4))]]], .lst []]
def f40_13 : List Ss := [.asg false (.nm 20) (.o2 .add (.v 20) (.cp [15] (.nm 15) (.ex (.v 1)) (some (.an (.o2 .ne (.v 15) (.o2 .ix (.o2 .ix (.v 2) (.v 9)) (.c (.int 0)))) (.o2 .eq (.o2 .ix (.call 38 [.o2 .add (.o2 .add (.sl (.v 2) none (some (.v 9))) (.tup [.tup [.v 15, .o2 .ix (.o2 .ix (.v 2) (.v 9)) (.c (.int 1))]])) (.sl (.v 2) (some (.o2 .add (.v 9) (.c (.int 1)))) none)]) (.o1 .neg (.c (.int 1)))) (.v 19)))) (.tup [.v 9, .v 15])))]
def s40_13 : Ss := .for (.nm 9) (.rg1 (.o1 .len (.v 2))) f40_13
def s40_14 : Ss := .asg false (.nm 10) (.o1 .tup (.cp [24] (.nm 24) (.rg2 (.o1 .neg (.c (.int 4))) (.c (.int 4))) (some (.o2 .eq (.o2 .ix (.call 38 [.call 39 [.v 2, .v 24]]) (.o1 .neg (.c (.int 1)))) (.v 19))) (.v 24)))
def s40_15 : Ss := .par [(21, false), (22, false), (23, false)] [.call 21 [.v 19], .o1 .abs (.o2 .ix (.v 19) (.c (.int 0))), .o1 .abs (.o2 .ix (.v 19) (.c (.int 1)))]
def s40_16 : Ss := .ife (.nt (.call 32 [.tup [.call 24 [.v 2, .v 19], .call 25 [.v 2, .v 19]], .tup [.v 10, .o1 .tup (.v 20)]])) [.ret (.c (.bool false))] []
def s40_17 : Ss := .asg false (.nm 11) (.cp [24] (.nm 24) (.ex (.v 21)) (some (.o2 .eq (.o1 .len (.o2 .ix (.v 24) (.c (.int 0)))) (.c (.int 2)))) (.v 24))
def s40_18 : Ss := .ret (.an (.o2 .eq (.o2 .ix (.call 38 [.v 21]) (.o1 .neg (.c (.int 1)))) (.v 19)) (.an (.o2 .eq (.o1 .sum (.cp [15, 16] (.tp [.nm 15, .nm 16]) (.ex (.v 21)) none (.v 16))) (.o2 .max (.v 22) (.v 23))) (.an (.o2 .eq (.o1 .len (.v 21)) (.o2 .add (.ite (.o2 .gt (.o2 .min (.v 22) (.v 23)) (.c (.int 0))) (.c (.int 1)) (.c (.int 0))) (.ite (.o2 .ne (.v 22) (.v 23)) (.c (.int 1)) (.c (.int 0))))) (.o2 .eq (.v 11) (.sl (.o1 .lst (.v 21)) none (some (.o1 .len (.v 11))))))))
theorem b40_eq : b40 = [s40_0, s40_1, s40_2, s40_3, s40_4, s40_5, s40_6, s40_7, s40_8, s40_9, s40_10, s40_11, s40_12, s40_13, s40_14, s40_15, s40_16, s40_17, s40_18] := rfl
end K29P
end RW.PL
/-! k29, plain: _law_bells (1). -/
namespace RW.PL
open PySem PySem.W RW.K29
namespace K29P
structure B0 (ρ : Sls) (bs : Bells) (w h : Int) (spot : Spot) (so : List Str) : Prop where
  len : ρ.length = 27
  g0 : slW ρ 0 = some .none
  g1 : slGet ρ 1 = some (encB bs)
  g2 : slGet ρ 2 = some (.list ((fieldT w h).map toD))
  g3 : slGet ρ 3 = some (hdD bs w h)
  g11 : slGet ρ 11 = some (.int w)
  g12 : slGet ρ 12 = some (.int h)
  g13 : slGet ρ 13 = some (toD spot)
  g14 : slGet ρ 14 = some (encH so)
structure Ok0 (bs : Bells) (w h : Int) (spot : Spot) (so : List Str) : Prop where
  ok : OkB bs
  w1 : 1 ≤ w
  w4 : w ≤ 4
  h1 : 1 ≤ h
  h4 : h ≤ 4
  sp : spot ∈ fieldT w h
  sl : so.length ≤ 3
def base0 (i : Nat) : Bool := i == 0 || i == 1 || i == 2 || i == 3 || i == 11 || i == 12 || i == 13 || i == 14
theorem B0.set {ρ : Sls} {bs : Bells} {w h : Int} {spot : Spot} {so : List Str} (b : B0 ρ bs w h spot so) {i : Nat} {x : Sl} (hi : base0 i = false) : B0 (ρ.set i x) bs w h spot so := by
  have ne : ∀ j, base0 j = true → i ≠ j := fun j hj e => by subst e; rw [hi] at hj; cases hj
  exact ⟨by rw [List.length_set]; exact b.len, by rw [w_ne (ne _ rfl)]; exact b.g0, by rw [get_ne (ne _ rfl)]; exact b.g1, by rw [get_ne (ne _ rfl)]; exact b.g2, by rw [get_ne (ne _ rfl)]; exact b.g3,
    by rw [get_ne (ne _ rfl)]; exact b.g11, by rw [get_ne (ne _ rfl)]; exact b.g12, by rw [get_ne (ne _ rfl)]; exact b.g13, by rw [get_ne (ne _ rfl)]; exact b.g14⟩
section
variable {dr : List Int} {k : Nat} {n : Nat}
theorem nx {ρ : Sls} {m : Int} {Q : PyData → Nat → Prop} (hW : slW ρ 0 = some .none) (hm : 0 < m) (h : ∀ i n', 0 ≤ i → i < m → Q (.int i) n') : Ev (evE (R dr (k + 1)) (.call 30 [.w 0, .c (.int m)]) ρ) n Q := by
  simp only [eE_call, eEs_cons, eEs_nil, eE_w, eE_c, hW, lift_sm, bnd_ret]
  exact next_ev (prim := prim dr) (T := tblT tbl) rfl hm h
theorem pk {l : List PyData} {Q : PyData → Nat → Prop} (hl : l ≠ []) (h : ∀ x n', x ∈ l → Q x n') : Ev (R dr (k + 2) 31 [.none, .list l]) n Q :=
  pick_ev (prim := prim dr) (T := tblT tbl) (jn := 30) (j := 31) rfl rfl rfl hl h
theorem abc_ok : ∀ i : Nat, i ≤ 3 → ((["a", "b", "c"] : List Str).take i).length ≤ 3 ∧ ((["a", "b", "c"] : List Str).take i).Nodup ∧ (((["a", "b", "c"] : List Str).take i).Pairwise fun a b => leT a b = true) := by
  have h : (["a", "b", "c"] : List Str).Nodup ∧ ((["a", "b", "c"] : List Str).Pairwise fun a b => leT a b = true) := by decide +kernel
  intro i hi
  exact ⟨by rw [List.length_take]; omega, h.1.sublist (List.take_sublist i _), h.2.sublist (List.take_sublist i _)⟩
theorem F2.fst {bs : Bells} {l : List Str} (h : F2 (fun (a : Str) (b : Str × (Spot × Int)) => b.1 = a) l bs) : bs.map Prod.fst = l := by
  induction h with
  | nil => rfl
  | cons h1 _ ih => rw [List.map_cons, h1, ih]
theorem part1 {rest : List Ss} {Q : Out → Nat → Prop} (hk : ∀ ρ bs w h spot so n, B0 ρ bs w h spot so → Ok0 bs w h spot so → Ev (evTs (R dr (k + 12)) rest ρ) n Q) :
    Ev (evTs (R dr (k + 12)) (s35_0 :: s35_1 :: s35_2 :: s35_3 :: s35_4 :: rest) (.wr :: List.replicate 26 .no)) n Q := by
  -- wide, high
  refine ev_parE ?_
  rw [eEs_cons]
  refine ev_bnd ?_
  rw [eE_o2, eE_c, bnd_ret]
  refine ev_bnd (nx rfl (by omega) fun i n1 i0 i4 => ?_)
  rw [u_add, lift_sm]
  refine ev_ret ?_
  rw [eEs_cons, bnd_assoc]
  refine ev_bnd ?_
  rw [eE_o2, eE_c, bnd_ret]
  refine ev_bnd (nx rfl (by omega) fun j n2 j0 j4 => ?_)
  rw [u_add, lift_sm]
  refine ev_ret ?_
  rw [eEs_nil, bnd_ret, bnd_ret]
  refine ev_ret ⟨_, rfl, ?_⟩
  generalize hw : 1 + i = w
  generalize hh : 1 + j = h
  obtain ⟨fe, fn, fz⟩ := field_law (w := w) (h := h) (by omega) (by omega) (by omega) (by omega)
  -- bells
  refine ev_asgE ?_
  rw [eE_o1]
  refine ev_bnd (cp_evS (α := Str) (β := Str × (Spot × Int)) (enc := toD) (enc2 := fun b => .tuple [toD b.1, toD b.2]) (P := fun a b => b.1 = a) (L := fun l => ∃ i : Nat, i ≤ 3 ∧ l = (["a", "b", "c"] : List Str).take i) ?_ ?_ ?_ ?_)
  · rw [eS_ex, eE_sl]
    simp only [eE_lst, eEs_cons, eEs_nil, eE_c, bnd_ret, eO_none, eO_some, bnd_assoc]
    refine ev_bnd (nx rfl (by omega) fun i n1 i0 i4 => ?_)
    obtain ⟨i, rfl⟩ : ∃ m : Nat, i = (m : Int) := ⟨i.toNat, by omega⟩
    have e : cutL [PyData.str "a", .str "b", .str "c"] none (some (i : Int)) = ((["a", "b", "c"] : List Str).take i).map toD := by rw [cut_to, List.map_take]; rfl
    simp only [bnd_ret, intO, Option.bind_some, sliceD, e, it_l, lift_sm]
    exact ev_ret ⟨_, rfl, i, by omega, rfl⟩
  · rintro l ⟨i, hi, rfl⟩
    have := (abc_ok i hi).1
    rw [sz_eq]; omega
  · rintro l ⟨i, hi, rfl⟩ a ha n
    refine ⟨_, asg_w (by simp), ?_⟩
    rw [eE_tup, eEs_cons]
    refine ev_bnd (ev_bnd ?_)
    rw [eE_v, get_eqw (by simp), lift_sm]
    refine ev_ret ?_
    rw [eEs_cons, eE_tup, eEs_cons, eE_tup, eEs_cons, eE_o2]
    simp only [bnd_assoc, eE_c, bnd_ret]
    refine ev_bnd (nx rfl (by omega) fun x n1 _ _ => ?_)
    simp only [u_sub, lift_sm, bnd_ret, eEs_cons, eEs_nil, eE_o2, eE_c, bnd_assoc]
    refine ev_bnd (nx rfl (by omega) fun y n2 _ _ => ?_)
    simp only [u_sub, lift_sm, bnd_ret, bnd_assoc]
    refine ev_bnd (nx rfl (by omega) fun r n3 _ _ => ?_)
    exact ev_ret (ev_ret ⟨(a, ((x - 1, y - 1), r)), rfl, rfl⟩)
  rintro l ⟨i, hi, rfl⟩ bs n1 hbs
  have hf := F2.fst hbs
  obtain ⟨a1, a2, a3⟩ := abc_ok i hi
  have ok : OkB bs := ⟨by rw [hf]; exact sortT_eq a3, by rw [hf]; exact a2, by rw [← List.length_map (f := Prod.fst), hf]; exact a1⟩
  have hl := ok.len
  have ed := u_dictl (fun v : Spot × Int => toD v) bs (by rw [sz_eq]; omega)
  rw [putAllT_nodup bs [] (by simpa using ok.nd), List.nil_append, show encD (fun v : Spot × Int => toD v) bs = encB bs from rfl] at ed
  rw [ed, lift_sm]
  refine ev_ret ⟨_, rfl, ?_⟩
  -- the field
  have hwh : w * h ≤ 16 := by
    rcases four (w := w) (by omega) (by omega) with e | e | e | e <;> rw [e] <;> omega
  have h0 : (0 : Int) ≤ w * h := Int.mul_nonneg (by omega) (by omega)
  have dvh : divOk h = true := by
    unfold divOk
    rw [Bool.and_eq_true, decide_eq_true_eq, decide_eq_true_eq]
    exact ⟨by omega, by omega⟩
  have smh : small64 h = true := by
    unfold small64
    rw [Bool.and_eq_true, decide_eq_true_eq, decide_eq_true_eq]
    omega
  refine ev_asg (d := .list ((fieldT w h).map toD)) (cp_map (l := irng 0 (w * h)) (enc := toD) (g := fun k => toD ((k.fdiv h, k - k.fdiv h * h) : Spot)) ?_ ?_ ?_ |>.trans ?_) rfl ?_
  · simp [slGet, hw, hh, u_mul (a := w) (b := h) (.inr smh), rng_t (a := 0) (b := w * h) (by omega) (by omega) (by omega) (by omega)]
  · rw [length_ints, sz_eq]; omega
  · intro k hk
    refine ⟨_, asg_w (by simp), ?_⟩
    simp [slGet, hw, hh, td_i, u_fdiv dvh, u_mul (b := h) (.inr smh), td_p]
  · rw [← fe, List.map_map]; rfl
  -- what is heard
  have fl := length_fieldT (w := w) (h := h) (by omega) (by omega)
  refine ev_asg (d := hdD bs w h) ?_ rfl ?_
  · rw [eE_o1, cp_map (l := fieldT w h) (enc := toD) (g := fun s => .tuple [toD s, encH (heardT bs s)]), bnd_ret]
    · have := u_dictl encH (hdL bs w h) (by rw [hdL, List.length_map, sz_eq]; omega)
      rw [putAllT_nodup _ [] (by rw [List.nil_append, hdL_keys]; exact fn), List.nil_append] at this
      rw [hdL, List.map_map] at this
      rw [show (fun s => PyData.tuple [toD s, encH (heardT bs s)]) = (fun p => .tuple [toD p.fst, encH p.snd]) ∘ (fun s : Spot => (s, heardT bs s)) from rfl, this]
      rfl
    · simp [slGet, it_l]
    · rw [sz_eq]; omega
    · intro s hs
      refine ⟨_, asg_w (by simp), ?_⟩
      have := l_heard dr (k + 11) ok s
      simp [slGet, this]
  -- a spot, some
  refine ev_parE ?_
  rw [eEs_cons]
  refine ev_bnd ?_
  rw [eE_call]
  simp only [eEs_cons, eEs_nil, eE_w, eE_v, slW, slGet, List.getElem?_cons_zero, List.getElem?_cons_succ, List.set_cons_succ, List.set_cons_zero, lift_sm, bnd_ret]
  refine pk (by simpa using fz) fun x n2 hx => ?_
  obtain ⟨spot, hs, rfl⟩ := List.mem_map.mp hx
  rw [eE_o1]
  simp only [bnd_assoc]
  refine ev_bnd (cp_evQ (α := Str × (Spot × Int)) (β := Str) (l := bs) (enc := fun b => toD b.1) (enc2 := toD) ?_ ?_ ?_ ?_)
  · have e := srt_enc (fun v : Spot × Int => toD v) bs (by rw [sz_eq]; omega)
    rw [ok.srt, List.map_map, show encD (fun v : Spot × Int => toD v) bs = encB bs from rfl] at e
    simp [slGet, u_srt, e, it_l, Function.comp_def]
  · rw [sz_eq]; omega
  · intro b hb m
    refine ⟨_, b.1, asg_w (by simp), by simp [slGet], ?_⟩
    rw [eQ_some, eE_o2]
    simp only [bnd_assoc]
    refine ev_bnd (nx rfl (by omega) fun x n1 _ _ => ?_)
    simp only [eE_c, bnd_ret, u_eqi, lift_sm, boolM_b]
    exact ev_ret trivial
  · intro so n3 hso
    simp only [u_tupl, lift_sm, bnd_ret, eEs_nil]
    refine ev_ret ⟨_, rfl, ?_⟩
    exact hk _ bs w h spot so n3 ⟨rfl, rfl, rfl, rfl, rfl, rfl, rfl, rfl, rfl⟩ ⟨ok, by omega, by omega, by omega, by omega, hs, by omega⟩
end
end K29P
end RW.PL
/-! k29, plain: _law_bells (2). -/
namespace RW.PL
open PySem PySem.W RW.K29
namespace K29P
section
variable {dr : List Int} {k : Nat} {n : Nat} {ρ : Sls} {bs : Bells} {w h : Int} {spot : Spot} {so : List Str}
theorem dcopy (ok : OkB bs) : u1 .dict (encB bs) = some (encB bs) := u_dcopy (fun _ => rfl) _ bs (by have := ok.len; rw [sz_eq]; omega)
theorem names_srt (ok : OkB bs) : srtD (encB bs) = some (.list (bs.map fun b => toD b.1)) := by
  have hl := ok.len
  have e := srt_enc (fun v : Spot × Int => toD v) bs (by rw [sz_eq]; omega)
  rw [ok.srt, List.map_map, show encD (fun v : Spot × Int => toD v) bs = encB bs from rfl] at e
  exact e
theorem heard_len (ok : OkB bs) (s : Spot) : (heardT bs s).length ≤ 3 := by
  unfold heardT
  rw [List.length_map]
  exact Nat.le_trans (List.length_filter_le _ _) ok.len
/-- spots chosen by what is heard -/
theorem sel {C : Orc} (b : B0 ρ bs w h spot so) (o : Ok0 bs w h spot so) {X : Ex} {hd : List Str} (hX : ∀ x y, evE C X ((ρ.set 20 x).set 20 y) = ret (encH hd)) :
    evE C (.cp [20] (.nm 20) (.ex (.v 2)) (some (.o2 .eq (.o2 .ix (.v 3) (.v 20)) X)) (.v 20)) ρ = ret (.list ((withT bs w h hd).map toD)) := by
  have fl := length_fieldT (w := w) (h := h) o.w4 o.h4
  obtain ⟨_, fn, _⟩ := field_law (w := w) (h := h) o.w1 o.w4 o.h1 o.h4
  refine cp_pure (l := fieldT w h) (enc := toD) (p := fun s => decide (heardT bs s = hd)) (g := toD) ?_ ?_ ?_
  · simp only [eS_ex, eE_v, b.g2, lift_sm, bnd_ret, it_l]
  · rw [sz_eq]; omega
  · intro s hs
    refine ⟨_, asg_w (by rw [b.len]; omega), ?_, fun _ => ?_⟩
    · have e : u2 .eq (encH (heardT bs s)) (encH hd) = some (.bool (decide (heardT bs s = hd))) := u_eqU (α := Str) (by decide) _ _
      simp only [eQ_some, eE_o2, eE_v, get_ne (show 20 ≠ 3 by omega), b.g3, get_eqw (show 20 < ρ.length by rw [b.len]; omega), lift_sm, bnd_ret, hd_ix fn hs, hX, e, boolM_b]
    · simp only [eE_v, get_eqw (show 20 < ρ.length by rw [b.len]; omega), lift_sm]
theorem part2 (b : B0 ρ bs w h spot so) (o : Ok0 bs w h spot so) {rest : List Ss} {Q : Out → Nat → Prop} (hk : ∀ ρ n, B0 ρ bs w h spot so → Ev (evTs (R dr (k + 12)) rest ρ) n Q) :
    Ev (evTs (R dr (k + 12)) (s35_5 :: s35_6 :: s35_7 :: rest) ρ) n Q := by
  have w0 : 0 ≤ w := by have := o.w1; omega
  have h0 : 0 ≤ h := by have := o.h1; omega
  obtain ⟨_, fn, _⟩ := field_law (w := w) (h := h) o.w1 o.w4 o.h1 o.h4
  have e4 : R dr (k + 12) 4 [encB bs, toD spot] = ret (encH (heardT bs spot)) := r_heard dr (k + 10) o.ok spot
  have e6 : R dr (k + 12) 6 [encB bs, .int w, .int h, encH so] = ret (encF (withT bs w h so)) := r_with dr (k + 9) o.w4 o.h4 w0 h0 o.ok so
  have e7 : R dr (k + 12) 7 [encB bs, .int w, .int h, toD spot] = ret (.bool (decide (withT bs w h (heardT bs spot) = [spot]))) := r_told dr (k + 8) o.w4 o.h4 w0 h0 o.ok spot
  have e12 : R dr (k + 12) 12 [encB bs, .int w, .int h] = ret (encF (withT bs w h [])) := r_deaf dr (k + 8) o.w4 o.h4 w0 h0 o.ok
  refine ev_asg (d := .tuple [encH (heardT bs spot), encF (withT bs w h so), .bool (decide (withT bs w h (heardT bs spot) = [spot])), encF (withT bs w h [])]) ?_ (out_set (by rw [b.len]; omega)) ?_
  · simp only [eE_tup, eEs_cons, eEs_nil, eE_call, eE_o1, eE_v, b.g1, b.g11, b.g12, b.g13, b.g14, lift_sm, bnd_ret, dcopy o.ok, e4, e6, e7, e12]
  have b1 := b.set (i := 4) (x := stor false (.tuple [encH (heardT bs spot), encF (withT bs w h so), .bool (decide (withT bs w h (heardT bs spot) = [spot])), encF (withT bs w h [])])) rfl
  have t1 : slGet (ρ.set 4 (stor false (.tuple [encH (heardT bs spot), encF (withT bs w h so), .bool (decide (withT bs w h (heardT bs spot) = [spot])), encF (withT bs w h [])]))) 4 = some _ := get_eq (by rw [b.len]; omega)
  refine ev_asg (d := .list ((withT bs w h (heardT bs spot)).map toD)) (sel b1 o fun x y => ?_) (out_set (by rw [b1.len]; omega)) ?_
  · simp only [eE_o2, eE_v, get_ne (show 20 ≠ 3 by omega), get_ne (show 20 ≠ 13 by omega), b1.g3, b1.g13, lift_sm, bnd_ret, hd_ix fn o.sp]
  have b2 := b1.set (i := 5) (x := stor false (.list ((withT bs w h (heardT bs spot)).map toD))) rfl
  have t2 := get_ne (ρ := ρ.set 4 (stor false (.tuple [encH (heardT bs spot), encF (withT bs w h so), .bool (decide (withT bs w h (heardT bs spot) = [spot])), encF (withT bs w h [])]))) (x := stor false (.list ((withT bs w h (heardT bs spot)).map toD))) (show 5 ≠ 4 by omega)
  rw [t1] at t2
  have t3 : slGet ((ρ.set 4 (stor false (.tuple [encH (heardT bs spot), encF (withT bs w h so), .bool (decide (withT bs w h (heardT bs spot) = [spot])), encF (withT bs w h [])]))).set 5 (stor false (.list ((withT bs w h (heardT bs spot)).map toD)))) 5 = some _ := get_eq (by rw [b1.len]; omega)
  generalize ((ρ.set 4 (stor false (.tuple [encH (heardT bs spot), encF (withT bs w h so), .bool (decide (withT bs w h (heardT bs spot) = [spot])), encF (withT bs w h [])]))).set 5 (stor false (.list ((withT bs w h (heardT bs spot)).map toD)))) = ρ2 at b2 t2 t3 ⊢
  refine ev_ife_no ?_ (hk ρ2 n b2)
  have s1 := sel (C := R dr (k + 12)) (X := .v 14) (hd := so) b2 o fun x y => by simp only [eE_v, get_ne (show 20 ≠ 14 by omega), b2.g14, lift_sm]
  have s2 := sel (C := R dr (k + 12)) (X := .tup []) (hd := []) b2 o fun x y => by simp only [eE_tup, eEs_nil, bnd_ret]; rfl
  have ee : u2 .eq (.list ((withT bs w h (heardT bs spot)).map toD)) (.list [toD spot]) = some (.bool (decide (withT bs w h (heardT bs spot) = [spot]))) := u_eqL (α := Spot) (by decide) _ [spot]
  have al := alike_ok (prim := prim dr) (T := tblT tbl) (j := 32) rfl rfl (k + 12) (.tuple [encH (heardT bs spot), encF (withT bs w h so), .bool (decide (withT bs w h (heardT bs spot) = [spot])), encF (withT bs w h [])])
    (alk_tup (by rw [sz_eq]; simp) fun x hx => by
      have l1 := heard_len o.ok spot
      have l2 := length_withT o.w4 o.h4 bs so
      have l3 := length_withT o.w4 o.h4 bs []
      simp only [List.mem_cons, List.not_mem_nil, or_false] at hx
      rcases hx with rfl | rfl | rfl | rfl
      · exact alk_H (by omega)
      · exact alk_F (by omega)
      · exact alk_bool
      · exact alk_F (by omega))
  have al' : R dr (k + 12) 32 [.tuple [encH (heardT bs spot), encF (withT bs w h so), .bool (decide (withT bs w h (heardT bs spot) = [spot])), encF (withT bs w h [])], .tuple [encH (heardT bs spot), encF (withT bs w h so), .bool (decide (withT bs w h (heardT bs spot) = [spot])), encF (withT bs w h [])]] = ret (.bool true) := al
  simp only [eE_nt, eE_call, eE_tup, eEs_cons, eEs_nil, eE_o1, eE_o2, eE_lst, eE_v, t2, t3, b2.g3, b2.g13, lift_sm, bnd_ret, hd_ix fn o.sp, s1, s2, u_tupl, ee]
  rw [show (PyData.tuple ((withT bs w h so).map toD)) = encF (withT bs w h so) from rfl, show (PyData.tuple ((withT bs w h []).map toD)) = encF (withT bs w h []) from rfl]
  simp only [stor_f, al', bnd_ret, boolM_b]
  rfl
end
end K29P
end RW.PL
/-! k29, plain: _law_bells (3): the walk. -/
namespace RW.PL
open PySem PySem.W RW.K29
theorem asg_pair {α β : Type} [DecidableEq α] [Datum α] [DecidableEq β] [Datum β] {ρ : Sls} {i j : Nat} (p : α × β) (hi : i < ρ.length) (hj : j < ρ.length) : asgT (.tp [.nm i, .nm j]) (toD p) ρ = some ((ρ.set i (.pu (toD p.1))).set j (.pu (toD p.2))) := by
  show asgTs [.nm i, .nm j] [toD p.1, toD p.2] ρ = _
  have h2 : j < (ρ.set i (.pu (toD p.1))).length := by rw [List.length_set]; exact hj
  simp only [asgTs, asg_nm hi, Option.bind_some, asg_nm h2]
namespace K29P
theorem stepL_eq (bs : Bells) (w h : Int) (rows : List (List Str)) (left : List Spot) (i : Nat) :
    (fieldT w h).filter (fun s => decide (heardT bs s = rows.getD i []) && (decide ((i : Int) = 0) || !decide ((left.filter fun o => decide (dist o s < 2)) = []))) = stepW bs w h rows left i := by
  unfold stepW withT
  rw [List.filter_filter]
  refine List.filter_congr fun s _ => ?_
  rw [Bool.and_comm]
  congr 2
  rw [Bool.eq_iff_iff, Bool.not_eq_true', decide_eq_false_iff_not, List.any_eq_true, List.filter_eq_nil_iff]
  simp only [List.mem_map, id]
  constructor
  · intro hne
    refine Classical.byContradiction fun hc => hne fun o ho => ?_
    rw [decide_eq_true_eq]
    intro hd
    exact hc ⟨true, ⟨o, ho, by rw [decide_eq_true_eq, dist_comm]; omega⟩, rfl⟩
  · rintro ⟨x, ⟨o, ho, rfl⟩, hx⟩ hall
    rw [decide_eq_true_eq, dist_comm] at hx
    exact hall o ho (by rw [decide_eq_true_eq]; omega)
section
variable {dr : List Int} {k : Nat} {n : Nat} {ρ : Sls} {bs : Bells} {w h : Int} {spot : Spot} {so : List Str}
structure B1 (ρ : Sls) (bs : Bells) (w h : Int) (spot : Spot) (so : List Str) (rows : List (List Str)) : Prop extends B0 ρ bs w h spot so where
  g16 : slOw ρ 16 = some (.list (rows.map encH))
  rl : rows.length ≤ 4
theorem B1.set' {rows : List (List Str)} (b : B1 ρ bs w h spot so rows) {i : Nat} {x : Sl} (hi : base0 i = false) (h16 : i ≠ 16) : B1 (ρ.set i x) bs w h spot so rows :=
  ⟨b.toB0.set hi, by rw [ow_ne h16]; exact b.g16, b.rl⟩
theorem part3 (b : B0 ρ bs w h spot so) (o : Ok0 bs w h spot so) {rest : List Ss} {Q : Out → Nat → Prop} (hk : ∀ ρ rows n, B1 ρ bs w h spot so rows → slGet ρ 7 = some (.list ((walkT bs w h rows).map toD)) → Ev (evTs (R dr (k + 12)) rest ρ) n Q) :
    Ev (evTs (R dr (k + 12)) (s35_8 :: s35_9 :: s35_10 :: s35_11 :: rest) ρ) n Q := by
  have fl := length_fieldT (w := w) (h := h) o.w4 o.h4
  obtain ⟨_, fn, _⟩ := field_law (w := w) (h := h) o.w1 o.w4 o.h1 o.h4
  refine ev_par (ds := [toD spot, .list []]) (ρ' := (ρ.set 15 (.pu (toD spot))).set 16 (.ow (.list []))) ?_ ?_ ?_
  · simp only [eEs_cons, eEs_nil, eE_v, eE_lst, b.g13, lift_sm, bnd_ret]
  · simp [parS, b.len]
  have b1 : B0 ((ρ.set 15 (.pu (toD spot))).set 16 (.ow (.list []))) bs w h spot so := (b.set rfl).set rfl
  have t15 : slGet ((ρ.set 15 (.pu (toD spot))).set 16 (.ow (.list []))) 15 = some (toD spot) := by rw [get_ne (by omega)]; exact get_eq (by rw [b.len]; omega)
  have t16 : slOw ((ρ.set 15 (.pu (toD spot))).set 16 (.ow (.list []))) 16 = some (.list (([] : List (List Str)).map encH)) := ow_eq (by rw [List.length_set, b.len]; omega)
  generalize ((ρ.set 15 (.pu (toD spot))).set 16 (.ow (.list []))) = ρ1 at b1 t15 t16 ⊢
  refine ev_forE ?_
  rw [eS_rg1]
  refine ev_bnd (nx b1.g0 (by omega) fun i n1 i0 i5 => ?_)
  obtain ⟨i, rfl⟩ : ∃ m : Nat, i = (m : Int) := ⟨i.toNat, by omega⟩
  rw [rng_n (by omega), lift_sm]
  refine ev_ret ?_
  refine (loop_ev (f := bodyM (R dr (k + 12)) (.nm 6) f35_9) (l := List.range i) (pre := []) (enc := fun (i : Nat) => toD (i : Int))
    (I := fun p ρ _ => B0 ρ bs w h spot so ∧ ∃ now rows, now ∈ fieldT w h ∧ slGet ρ 15 = some (toD now) ∧ slOw ρ 16 = some (.list (rows.map encH)) ∧ rows.length = p.length) ?_
    ⟨b1, spot, [], o.sp, t15, t16, rfl⟩).mono ?_
  · rintro p a q hpq ρ n ⟨b, now, rows, hnow, g15, g16, hlen⟩
    have hp4 : p.length < 5 := by
      have := congrArg List.length hpq
      simp only [List.nil_append, List.length_range, List.length_append, List.length_cons] at this
      omega
    unfold bodyM
    rw [asg_nm (by rw [b.len]; omega), lift_sm, bnd_ret]
    have b := b.set (i := 6) (x := .pu (toD (a : Int))) rfl
    have g15' := get_ne (ρ := ρ) (x := .pu (toD (a : Int))) (show 6 ≠ 15 by omega)
    have g16' := ow_ne (ρ := ρ) (x := .pu (toD (a : Int))) (show 6 ≠ 16 by omega)
    rw [g15] at g15'
    rw [g16] at g16'
    generalize ρ.set 6 (.pu (toD (a : Int))) = ρ at b g15' g16' ⊢
    refine ev_appE g16' ?_
    rw [eE_ite, eE_o2]
    simp only [bnd_assoc]
    refine ev_bnd (nx b.g0 (by omega) fun x n1 _ _ => ?_)
    simp only [eE_c, bnd_ret, u_gt, lift_sm, boolM_b]
    have hrow : ∃ row : List Str, (if decide (0 < x) = true then evE (R dr (k + 12)) (.o2 .ix (.v 3) (.v 15)) ρ else evE (R dr (k + 12)) (.v 14) ρ) = ret (encH row) := by
      by_cases c : 0 < x
      · rw [if_pos (decide_eq_true c)]
        exact ⟨heardT bs now, by simp only [eE_o2, eE_v, b.g3, g15', lift_sm, bnd_ret, hd_ix fn hnow]⟩
      · rw [if_neg (by simp only [decide_eq_true_eq]; exact c)]
        exact ⟨so, by simp only [eE_v, b.g14, lift_sm]⟩
    obtain ⟨row, er⟩ := hrow
    rw [er]
    refine ev_ret ⟨.list ((rows ++ [row]).map encH), ?_, ?_⟩
    · rw [app_l (by rw [List.length_map, sz_eq]; omega)]; simp
    have b2 := b.set (i := 16) (x := .ow (.list ((rows ++ [row]).map encH))) rfl
    have h15 := get_ne (ρ := ρ) (x := .ow (.list ((rows ++ [row]).map encH))) (show 16 ≠ 15 by omega)
    have h16 : slOw (ρ.set 16 (.ow (.list ((rows ++ [row]).map encH)))) 16 = some _ := ow_eq (by rw [b.len]; omega)
    rw [g15'] at h15
    generalize ρ.set 16 (.ow (.list ((rows ++ [row]).map encH))) = ρ at b2 h15 h16 ⊢
    refine ev_asgt (d := toD now) (by simp only [eE_v, h15, lift_sm]) (asg_pair now (by rw [b2.len]; omega) (by rw [b2.len]; omega)) ?_
    have b3 : B0 ((ρ.set 21 (.pu (toD now.1))).set 22 (.pu (toD now.2))) bs w h spot so := (b2.set rfl).set rfl
    have i15 : slGet ((ρ.set 21 (.pu (toD now.1))).set 22 (.pu (toD now.2))) 15 = some (toD now) := by rw [get_ne (by omega), get_ne (by omega)]; exact h15
    have i16 : slOw ((ρ.set 21 (.pu (toD now.1))).set 22 (.pu (toD now.2))) 16 = some (.list ((rows ++ [row]).map encH)) := by rw [ow_ne (by omega), ow_ne (by omega)]; exact h16
    have i21 : slGet ((ρ.set 21 (.pu (toD now.1))).set 22 (.pu (toD now.2))) 21 = some (.int now.1) := by rw [get_ne (by omega)]; exact get_eq (by rw [b2.len]; omega)
    have i22 : slGet ((ρ.set 21 (.pu (toD now.1))).set 22 (.pu (toD now.2))) 22 = some (.int now.2) := get_eq (by rw [List.length_set, b2.len]; omega)
    generalize ((ρ.set 21 (.pu (toD now.1))).set 22 (.pu (toD now.2))) = ρ at b3 i15 i16 i21 i22 ⊢
    refine ev_asgE ?_
    have hc : evE (R dr (k + 12)) (.cp [20] (.nm 20) (.ex (.lst [.tup [.o2 .sub (.v 21) (.c (.int 1)), .v 22], .tup [.o2 .add (.v 21) (.c (.int 1)), .v 22], .tup [.v 21, .o2 .sub (.v 22) (.c (.int 1))], .tup [.v 21, .o2 .add (.v 22) (.c (.int 1))], .v 15])) (some (.o2 .isin (.v 20) (.v 3))) (.v 20)) ρ =
        ret (.list ((([(now.1 - 1, now.2), (now.1 + 1, now.2), (now.1, now.2 - 1), (now.1, now.2 + 1), now] : List Spot).filter fun s => decide (s ∈ fieldT w h)).map toD)) := by
      refine cp_pure (enc := toD) (g := toD) ?_ ?_ ?_
      · simp only [eS_ex, eE_lst, eEs_cons, eEs_nil, eE_tup, eE_o2, eE_v, eE_c, i15, i21, i22, lift_sm, bnd_ret, u_sub, u_add, it_l]
        rfl
      · rw [sz_eq]; simp
      · intro s _
        refine ⟨_, asg_w (by rw [b3.len]; omega), ?_, fun _ => ?_⟩
        · simp only [eQ_some, eE_o2, eE_v, get_ne (show 20 ≠ 3 by omega), b3.g3, get_eqw (show 20 < ρ.length by rw [b3.len]; omega), lift_sm, bnd_ret, hd_in, boolM_b]
        · simp only [eE_v, get_eqw (show 20 < ρ.length by rw [b3.len]; omega), lift_sm]
    rw [eE_call]
    simp only [eEs_cons, eEs_nil, eE_w, b3.g0, lift_sm, bnd_ret, hc]
    refine pk ?_ fun x n2 hx => ?_
    · have : now ∈ (([(now.1 - 1, now.2), (now.1 + 1, now.2), (now.1, now.2 - 1), (now.1, now.2 + 1), now] : List Spot).filter fun s => decide (s ∈ fieldT w h)) := by
        rw [List.mem_filter]
        exact ⟨by simp, decide_eq_true hnow⟩
      intro e
      rw [List.map_eq_nil_iff] at e
      rw [e] at this
      cases this
    · obtain ⟨s, hs, rfl⟩ := List.mem_map.mp hx
      rw [List.mem_filter, decide_eq_true_eq] at hs
      refine ⟨_, out_set (by rw [b3.len]; omega), ev_nil ⟨_, rfl, b3.set rfl, s, rows ++ [row], hs.2, get_eq (by rw [b3.len]; omega), by rw [ow_ne (by omega)]; exact i16, by simp [hlen]⟩⟩
  · rintro _ n2 ⟨ρ2, rfl, b2, now, rows, _, g15, g16, hlen⟩
    refine ⟨ρ2, rfl, ?_⟩
    rw [List.nil_append, List.length_range] at hlen
    have c2 : B1 ρ2 bs w h spot so rows := ⟨b2, g16, by omega⟩
    refine ev_asg (d := .list ((fieldT w h).map toD)) (by simp only [eE_v, b2.g2, lift_sm]) (out_set (by rw [b2.len]; omega)) ?_
    have c3 := c2.set' (i := 7) (x := stor false (.list ((fieldT w h).map toD))) rfl (by omega)
    have t7 : slGet (ρ2.set 7 (stor false (.list ((fieldT w h).map toD)))) 7 = some _ := get_eq (by rw [b2.len]; omega)
    generalize ρ2.set 7 (stor false (.list ((fieldT w h).map toD))) = ρ3 at c3 t7 ⊢
    have L := loop_pure (f := bodyM (R dr (k + 12)) (.nm 6) f35_11) (l := List.range rows.length) (enc := fun (i : Nat) => toD (i : Int)) (g := stepW bs w h rows)
      (st := fun left ρ => left.length ≤ 16 ∧ B1 ρ bs w h spot so rows ∧ slGet ρ 7 = some (.list (left.map toD))) ?_ (s := fieldT w h) ⟨fl, c3, t7⟩
    · obtain ⟨ρ4, e, hl, c4, t4⟩ := L
      refine ev_forP (xs := (List.range rows.length).map fun (i : Nat) => toD (i : Int)) ?_ e (hk ρ4 rows n2 c4 t4)
      have := c3.rl
      simp only [eS_rg1, eE_o1, eE_b, ow_get c3.g16, lift_sm, bnd_ret, u_lenl, List.length_map, rng_n (show rows.length ≤ 100000000 by omega)]
    · rintro i hi left ρ ⟨hl, c, t⟩
      rw [List.mem_range] at hi
      unfold bodyM
      rw [asg_nm (by rw [c.len]; omega), lift_sm, bnd_ret]
      have c := c.set' (i := 6) (x := .pu (toD (i : Int))) rfl (by omega)
      have t' := get_ne (ρ := ρ) (x := .pu (toD (i : Int))) (show 6 ≠ 7 by omega)
      have t6 : slGet (ρ.set 6 (.pu (toD (i : Int)))) 6 = some (.int (i : Int)) := get_eq (by rw [← List.length_set (i := 6) (a := Sl.pu (toD (i : Int))), c.len]; omega)
      rw [t] at t'
      generalize ρ.set 6 (.pu (toD (i : Int))) = ρ at c t' t6 ⊢
      have e1 : u2 .ix (.list (rows.map encH)) (.int (i : Int)) = some (encH (rows.getD i [])) := by
        rw [u_ixl (by rw [List.length_map]; exact hi)]
        simp [List.getD_eq_getElem?_getD, List.getElem?_eq_getElem hi]
      have hcp : evE (R dr (k + 12)) (.cp [20] (.nm 20) (.ex (.v 2)) (some (.an (.o2 .eq (.o2 .ix (.v 3) (.v 20)) (.o2 .ix (.b 16) (.v 6))) (.or (.o2 .eq (.v 6) (.c (.int 0))) (.o2 .ne (.cp [26] (.nm 26) (.ex (.v 7)) (some (.o2 .lt (.o2 .add (.o1 .abs (.o2 .sub (.o2 .ix (.v 26) (.c (.int 0))) (.o2 .ix (.v 20) (.c (.int 0))))) (.o1 .abs (.o2 .sub (.o2 .ix (.v 26) (.c (.int 1))) (.o2 .ix (.v 20) (.c (.int 1)))))) (.c (.int 2)))) (.v 26)) (.lst []))))) (.v 20)) ρ = ret (.list ((stepW bs w h rows left i).map toD)) := by
        rw [← stepL_eq]
        refine cp_pure (l := fieldT w h) (enc := toD) (g := toD) ?_ ?_ ?_
        · simp only [eS_ex, eE_v, c.g2, lift_sm, bnd_ret, it_l]
        · rw [sz_eq]; omega
        · intro s hs
          refine ⟨_, asg_w (by rw [c.len]; omega), ?_, fun _ => by simp only [eE_v, get_eqw (show 20 < ρ.length by rw [c.len]; omega), lift_sm]⟩
          have e2 : u2 .eq (encH (heardT bs s)) (encH (rows.getD i [])) = some (.bool (decide (heardT bs s = rows.getD i []))) := u_eqU (α := Str) (by decide) _ _
          have g20 : slGet ((ρ.set 20 .no).set 20 (.pu (toD s))) 20 = some (toD s) := get_eqw (by rw [c.len]; omega)
          have d3 : B1 ((ρ.set 20 .no).set 20 (.pu (toD s))) bs w h spot so rows := (c.set' rfl (by omega)).set' rfl (by omega)
          have g7 : slGet ((ρ.set 20 .no).set 20 (.pu (toD s))) 7 = some (.list (left.map toD)) := by rw [get_ne (by omega), get_ne (by omega)]; exact t'
          have g6 : slGet ((ρ.set 20 .no).set 20 (.pu (toD s))) 6 = some (.int (i : Int)) := by rw [get_ne (by omega), get_ne (by omega)]; exact t6
          generalize ((ρ.set 20 .no).set 20 (.pu (toD s))) = ρ at g20 d3 g7 g6 ⊢
          have inner : evE (R dr (k + 12)) (.cp [26] (.nm 26) (.ex (.v 7)) (some (.o2 .lt (.o2 .add (.o1 .abs (.o2 .sub (.o2 .ix (.v 26) (.c (.int 0))) (.o2 .ix (.v 20) (.c (.int 0))))) (.o1 .abs (.o2 .sub (.o2 .ix (.v 26) (.c (.int 1))) (.o2 .ix (.v 20) (.c (.int 1)))))) (.c (.int 2)))) (.v 26)) ρ =
              ret (.list ((left.filter fun o => decide (dist o s < 2)).map toD)) := by
            refine cp_pure (l := left) (enc := toD) (g := toD) ?_ ?_ ?_
            · simp only [eS_ex, eE_v, g7, lift_sm, bnd_ret, it_l]
            · rw [sz_eq]; omega
            · intro q hq
              refine ⟨_, asg_w (by rw [d3.len]; omega), ?_, fun _ => by simp only [eE_v, get_eqw (show 26 < ρ.length by rw [d3.len]; omega), lift_sm]⟩
              simp only [eQ_some, eE_o2, eE_o1, eE_v, eE_c, get_eqw (show 26 < ρ.length by rw [d3.len]; omega), get_ne (show 26 ≠ 20 by omega), g20, lift_sm, bnd_ret, u_ix0, u_ix1, td_i, u_sub, u_abs, u_add, u_lt, boolM_b]
              rfl
          have e3 : u2 .ne (.list ((left.filter fun o => decide (dist o s < 2)).map toD)) (.list []) = some (.bool (!decide ((left.filter fun o => decide (dist o s < 2)) = []))) := u_neL (α := Spot) (by decide) _ []
          simp only [eQ_some, eE_an, eE_or, eE_o2, eE_v, eE_b, eE_c, eE_lst, eEs_nil, d3.g3, g20, ow_get d3.g16, g6, lift_sm, bnd_ret, hd_ix fn hs, e1, e2, boolM_b, u_eqi, inner, e3, bnd_assoc]
          cases decide (heardT bs s = rows.getD i []) <;> cases decide ((i : Int) = 0) <;> simp
      refine ⟨ρ.set 7 (stor false (.list ((stepW bs w h rows left i).map toD))), ?_, stepW_len o.w4 o.h4 bs rows left i, c.set' rfl (by omega), get_eq (by rw [c.len]; omega)⟩
      rw [f35_11, eTs_cons, eT_asg, hcp, bnd_ret, out_set (by rw [c.len]; omega), bnd_ret, thenM_nx, eTs_nil]
end
end K29P
end RW.PL
/-! k29, plain: _law_bells (4): the fewest; louder bells. -/
namespace RW.PL
open PySem PySem.W RW.K29
theorem setsT_len {α : Type} (l : List α) (hl : l.length ≤ 12) : (setsT l).length ≤ 13 * 4096 := by
  unfold setsT
  rw [List.length_flatMap]
  have : ∀ ks : List Nat, (ks.map fun k => (chT l k).length).sum ≤ ks.length * 4096 := by
    intro ks
    induction ks with
    | nil => simp
    | cons a ks ih =>
      have h1 := Nat.le_trans (chT_len l a) (Nat.le_trans (Nat.pow_le_pow_right (by omega) hl) (show 2 ^ 12 ≤ 4096 by decide))
      simp only [List.map_cons, List.sum_cons, List.length_cons]
      omega
  have h2 := this (List.range (l.length + 1))
  rw [List.length_range] at h2
  exact Nat.le_trans h2 (Nat.mul_le_mul_right 4096 (Nat.succ_le_succ hl))
theorem u_hd (x : PyData) (xs : List PyData) : u2 .ix (.list (x :: xs)) (.int 0) = some x := by
  show (ixAt (x :: xs).length 0).bind (fun j => (x :: xs)[j]?) = _
  rw [ixAt_n (by omega) (by simp only [List.length_cons]; omega)]
  rfl
/-- how many keys a dict of True has -/
theorem dict_true {α : Type} [DecidableEq α] [Datum α] [DKey α] [KeyK α] (l : List α) (hl : l.length ≤ sizeLine) : ∃ kvs : List (α × Bool), u1 .dict (.list (l.map fun a => .tuple [toD a, .bool true])) = some (encD PyData.bool kvs) ∧ kvs.map Prod.fst = dedT l := by
  refine ⟨putAllT [] (l.map fun a => (a, true)), ?_, ?_⟩
  · have := u_dictl PyData.bool (l.map fun a => (a, true)) (by rw [List.length_map]; exact hl)
    rw [List.map_map] at this
    exact this
  · rw [putAllT_keys, List.map_map]
    show once [] (l.map fun a => a) = _
    rw [List.map_id']
    rfl
namespace K29P
section
variable {dr : List Int} {k : Nat} {n : Nat} {ρ : Sls} {bs : Bells} {w h : Int} {spot : Spot} {so : List Str} {rows : List (List Str)}
theorem walk_len (hw : w ≤ 4) (hh : h ≤ 4) (bs : Bells) (rows : List (List Str)) : (walkT bs w h rows).length ≤ 16 := by
  unfold walkT
  have : ∀ (l : List Nat) (f : List Spot), f.length ≤ 16 → (l.foldl (stepW bs w h rows) f).length ≤ 16 := by
    intro l
    induction l with
    | nil => intro f hf; exact hf
    | cons a l ih => intro f _; exact ih _ (stepW_len hw hh bs rows f a)
  exact this _ _ (length_fieldT hw hh)
theorem part4 (b : B1 ρ bs w h spot so rows) (o : Ok0 bs w h spot so) (g7 : slGet ρ 7 = some (.list ((walkT bs w h rows).map toD))) {rest : List Ss} {Q : Out → Nat → Prop} (hk : ∀ ρ n, B0 ρ bs w h spot so → Ev (evTs (R dr (k + 12)) rest ρ) n Q) :
    Ev (evTs (R dr (k + 12)) (s35_12 :: s35_13 :: s35_14 :: rest) ρ) n Q := by
  have w0 : 0 ≤ w := by have := o.w1; omega
  have h0 : 0 ≤ h := by have := o.h1; omega
  have hl := o.ok.len
  have fl := length_fieldT (w := w) (h := h) o.w4 o.h4
  obtain ⟨_, fn, _⟩ := field_law (w := w) (h := h) o.w1 o.w4 o.h1 o.h4
  refine ev_asg (d := .list []) (by simp only [eE_lst, eEs_nil, bnd_ret]) (out_set (by rw [b.len]; omega)) ?_
  have b1 := b.set' (i := 8) (x := stor false (.list [])) rfl (by omega)
  have t7 : slGet (ρ.set 8 (stor false (.list []))) 7 = some (.list ((walkT bs w h rows).map toD)) := by rw [get_ne (by omega)]; exact g7
  have t8 : slGet (ρ.set 8 (stor false (.list []))) 8 = some (.list []) := get_eq (by rw [b.len]; omega)
  generalize ρ.set 8 (stor false (.list [])) = ρ1 at b1 t7 t8 ⊢
  have e33 : R dr (k + 12) 33 [encH (bs.map Prod.fst)] = ret (.list ((setsT bs).map fun sub => encH (sub.map Prod.fst))) := by
    rw [l_sets (k := k + 11) (by rw [List.length_map]; exact hl) o.ok.nd, setsT_map, List.map_map]
    rfl
  have L := loop_idx (f := bodyM (R dr (k + 12)) (.nm 9) f35_13) (l := setsT bs) (enc := fun sub => encH (sub.map Prod.fst)) (m := 0)
    (I := fun m ρ => B1 ρ bs w h spot so rows ∧ slGet ρ 7 = some (.list ((walkT bs w h rows).map toD)) ∧ slGet ρ 8 = some (.list ((((setsT bs).take m).filter fun sub => decide (kindsT sub w h = kindsT bs w h)).map fun sub => encH (sub.map Prod.fst))))
    ?_ (ρ := ρ1) ⟨b1, t7, t8⟩
  · obtain ⟨ρ2, e, b2, q7, q8⟩ := L
    rw [Nat.zero_add, List.take_of_length_le (Nat.le_refl _)] at q8
    refine ev_forP (xs := (setsT bs).map fun sub => encH (sub.map Prod.fst)) ?_ e ?_
    · have en : PyData.tuple (bs.map fun b => toD b.1) = encH (bs.map Prod.fst) := by rw [encH, List.map_map]; rfl
      simp only [eS_ex, eE_call, eEs_cons, eEs_nil, eE_o1, eE_v, b1.g1, lift_sm, bnd_ret, u_srt, names_srt o.ok, u_tupl, en, e33, it_l]
    · refine ev_ife_no ?_ (hk ρ2 n b2.toB0)
      have e8 : R dr (k + 12) 8 [encB bs, .int w, .int h, .tuple (rows.map encH)] = ret (encF (walkT bs w h rows)) := r_walk (k := k + 7) o.w4 o.h4 w0 h0 o.ok rows (by have := b.rl; omega)
      have e11 : R dr (k + 12) 11 [encB bs, .int w, .int h] = ret (encH ((fewestT bs w h).map Prod.fst)) := r_fewest (k := k + 3) o.w4 o.h4 w0 h0 o.ok
      obtain ⟨sub, hs⟩ := fewest_ex bs w h
      have ef : fewestT bs w h = sub := by rw [fewestT, hs]; rfl
      have hsub := (o.ok.sub (setsT_sub (List.mem_of_find?_eq_some hs))).len
      have e0 : u2 .ix (.list (((setsT bs).filter fun sub => decide (kindsT sub w h = kindsT bs w h)).map fun sub => encH (sub.map Prod.fst))) (.int 0) = some (encH (sub.map Prod.fst)) := by
        have hh := List.head?_filter (p := fun sub => decide (kindsT sub w h = kindsT bs w h)) (l := setsT bs)
        rw [hs] at hh
        cases hc : (setsT bs).filter fun sub => decide (kindsT sub w h = kindsT bs w h) with
        | nil => rw [hc] at hh; cases hh
        | cons a l =>
          rw [hc] at hh
          cases hh
          rw [List.map_cons, u_hd]
      have al : R dr (k + 12) 32 [.tuple [encF (walkT bs w h rows), encH (sub.map Prod.fst)], .tuple [encF (walkT bs w h rows), encH (sub.map Prod.fst)]] = ret (.bool true) :=
        alike_ok (prim := prim dr) (T := tblT tbl) (j := 32) rfl rfl (k + 12) _ (alk_tup (by rw [sz_eq]; simp) fun x hx => by
          have l1 := walk_len o.w4 o.h4 bs rows
          simp only [List.mem_cons, List.not_mem_nil, or_false] at hx
          rcases hx with rfl | rfl
          · exact alk_F (by omega)
          · exact alk_H (by rw [List.length_map]; omega))
      simp only [eE_nt, eE_call, eE_tup, eEs_cons, eEs_nil, eE_o1, eE_o2, eE_v, eE_b, eE_c, b2.g1, b2.g11, b2.g12, ow_get b2.g16, q7, q8, lift_sm, bnd_ret, dcopy o.ok, u_tupl, e8, e11, ef, e0]
      rw [show (PyData.tuple ((walkT bs w h rows).map toD)) = encF (walkT bs w h rows) from rfl]
      simp only [al, bnd_ret, boolM_b]
      rfl
  · rintro m hm ρ ⟨b, q7, q8⟩
    rw [Nat.zero_add] at q8 ⊢
    have hmem : (setsT bs)[m] ∈ setsT bs := List.getElem_mem hm
    have htake : (setsT bs).take (m + 1) = (setsT bs).take m ++ [(setsT bs)[m]] := by rw [List.take_succ, List.getElem?_eq_getElem hm]; rfl
    rw [htake, List.filter_append]
    generalize (setsT bs)[m] = sub at hmem
    have hsb := setsT_sub hmem
    have oks := o.ok.sub hsb
    unfold bodyM
    rw [asg_nm (by rw [b.len]; omega), lift_sm, bnd_ret]
    have b := b.set' (i := 9) (x := .pu (encH (sub.map Prod.fst))) rfl (by omega)
    have r7 := get_ne (ρ := ρ) (x := .pu (encH (sub.map Prod.fst))) (show 9 ≠ 7 by omega)
    have r8 := get_ne (ρ := ρ) (x := .pu (encH (sub.map Prod.fst))) (show 9 ≠ 8 by omega)
    have r9 : slGet (ρ.set 9 (.pu (encH (sub.map Prod.fst)))) 9 = some (encH (sub.map Prod.fst)) := get_eq (by rw [← List.length_set (i := 9) (a := Sl.pu (encH (sub.map Prod.fst))), b.len]; omega)
    rw [q7] at r7
    rw [q8] at r8
    generalize ρ.set 9 (.pu (encH (sub.map Prod.fst))) = ρ at b r7 r8 r9 ⊢
    -- the kinds
    obtain ⟨kvs, ed, ek⟩ := dict_true ((fieldT w h).map fun s => (⟨heardT sub s⟩ : Tup Str)) (by rw [List.length_map, sz_eq]; omega)
    have lk : kvs.length = kindsT sub w h := by rw [← List.length_map (f := Prod.fst), ek]; rfl
    have c1 : evE (R dr (k + 12)) (.cp [20] (.nm 20) (.ex (.v 2)) none (.tup [.o1 .tup (.cp [10] (.nm 10) (.ex (.o2 .ix (.v 3) (.v 20))) (some (.o2 .isin (.v 10) (.v 9))) (.v 10)), .c (.bool true)])) ρ = ret (.list (((fieldT w h).map fun s => (⟨heardT sub s⟩ : Tup Str)).map fun a => .tuple [toD a, .bool true])) := by
      rw [List.map_map]
      refine cp_map (l := fieldT w h) (enc := toD) ?_ ?_ ?_
      · simp only [eS_ex, eE_v, b.g2, lift_sm, bnd_ret, it_l]
      · rw [sz_eq]; omega
      · intro s hs
        refine ⟨_, asg_w (by rw [b.len]; omega), ?_⟩
        have g20 : slGet ((ρ.set 20 .no).set 20 (.pu (toD s))) 20 = some (toD s) := get_eqw (by rw [b.len]; omega)
        have d3 : B1 ((ρ.set 20 .no).set 20 (.pu (toD s))) bs w h spot so rows := (b.set' rfl (by omega)).set' rfl (by omega)
        have g9 : slGet ((ρ.set 20 .no).set 20 (.pu (toD s))) 9 = some (encH (sub.map Prod.fst)) := by rw [get_ne (by omega), get_ne (by omega)]; exact r9
        generalize ((ρ.set 20 .no).set 20 (.pu (toD s))) = ρ at g20 d3 g9 ⊢
        have c2 : evE (R dr (k + 12)) (.cp [10] (.nm 10) (.ex (.o2 .ix (.v 3) (.v 20))) (some (.o2 .isin (.v 10) (.v 9))) (.v 10)) ρ = ret (.list ((heardT sub s).map toD)) := by
          rw [heard_sub o.ok hsb s]
          have hhl := heard_len o.ok s
          refine cp_pure (l := heardT bs s) (enc := toD) (g := toD) ?_ ?_ ?_
          · simp only [eS_ex, eE_o2, eE_v, d3.g3, g20, lift_sm, bnd_ret, hd_ix fn hs, encH, it_t]
          · rw [sz_eq]; omega
          · intro x hx
            refine ⟨_, asg_w (by rw [d3.len]; omega), ?_, fun _ => by simp only [eE_v, get_eqw (show 10 < ρ.length by rw [d3.len]; omega), lift_sm]⟩
            have ei : u2 .isin (toD x) (encH (sub.map Prod.fst)) = some (.bool (decide (x ∈ sub.map Prod.fst))) := u_int' (α := Str) (by decide) _ _
            simp only [eQ_some, eE_o2, eE_v, get_eqw (show 10 < ρ.length by rw [d3.len]; omega), get_ne (show 10 ≠ 9 by omega), g9, lift_sm, bnd_ret, ei, boolM_b]
        simp only [eE_tup, eEs_cons, eEs_nil, eE_o1, eE_c, c2, lift_sm, bnd_ret, u_tupl]
        rfl
    refine ⟨(ρ.set 17 (stor false (encD PyData.bool kvs))).set 8 (stor false (.list ((((setsT bs).take m).filter (fun sub => decide (kindsT sub w h = kindsT bs w h)) ++ [sub].filter fun sub => decide (kindsT sub w h = kindsT bs w h)).map fun sub => encH (sub.map Prod.fst)))), ?_,
      (b.set' rfl (by omega)).set' rfl (by omega), by rw [get_ne (by omega), get_ne (by omega)]; exact r7, get_eq (by rw [List.length_set, b.len]; omega)⟩
    rw [f35_13, eTs_cons, eT_asg, eE_o1, c1, bnd_ret, ed, lift_sm, bnd_ret, out_set (by rw [b.len]; omega), bnd_ret, thenM_nx, eTs_cons, eT_asg]
    have b4 := b.set' (i := 17) (x := stor false (encD PyData.bool kvs)) rfl (by omega)
    have h8 := get_ne (ρ := ρ) (x := stor false (encD PyData.bool kvs)) (show 17 ≠ 8 by omega)
    have h9 := get_ne (ρ := ρ) (x := stor false (encD PyData.bool kvs)) (show 17 ≠ 9 by omega)
    have h17 : slGet (ρ.set 17 (stor false (encD PyData.bool kvs))) 17 = some (encD PyData.bool kvs) := get_eq (by rw [b.len]; omega)
    rw [r8] at h8
    rw [r9] at h9
    generalize ρ.set 17 (stor false (encD PyData.bool kvs)) = ρ at b4 h8 h9 h17 ⊢
    obtain ⟨kvs2, ed2, ek2⟩ := dict_true ((fieldT w h).map fun s => (⟨heardT bs s⟩ : Tup Str)) (by rw [List.length_map, sz_eq]; omega)
    have lk2 : kvs2.length = kindsT bs w h := by rw [← List.length_map (f := Prod.fst), ek2]; rfl
    have c3 : evE (R dr (k + 12)) (.cp [20] (.nm 20) (.ex (.v 2)) none (.tup [.o2 .ix (.v 3) (.v 20), .c (.bool true)])) ρ = ret (.list (((fieldT w h).map fun s => (⟨heardT bs s⟩ : Tup Str)).map fun a => .tuple [toD a, .bool true])) := by
      rw [List.map_map]
      refine cp_map (l := fieldT w h) (enc := toD) ?_ ?_ ?_
      · simp only [eS_ex, eE_v, b4.g2, lift_sm, bnd_ret, it_l]
      · rw [sz_eq]; omega
      · intro s hs
        refine ⟨_, asg_w (by rw [b4.len]; omega), ?_⟩
        simp only [eE_tup, eEs_cons, eEs_nil, eE_o2, eE_v, eE_c, get_eqw (show 20 < ρ.length by rw [b4.len]; omega), get_ne (show 20 ≠ 3 by omega), b4.g3, lift_sm, bnd_ret, hd_ix fn hs]
        rfl
    have hlen := List.length_filter_le (fun sub => decide (kindsT sub w h = kindsT bs w h)) ((setsT bs).take m)
    have hset := setsT_len bs (by omega)
    rw [List.length_take] at hlen
    have ei : decide (((kindsT sub w h : Nat) : Int) = (kindsT bs w h : Nat)) = decide (kindsT sub w h = kindsT bs w h) := decide_eq_decide.mpr (by omega)
    simp only [eE_o2, eE_ite, eE_o1, eE_v, h8, h17, lift_sm, bnd_ret, u_lend', lk, c3, ed2, lk2, u_eqi, ei, boolM_b]
    by_cases c : kindsT sub w h = kindsT bs w h
    · simp only [decide_eq_true c, if_true, eE_lst, eEs_cons, eEs_nil, eE_v, h9, lift_sm, bnd_ret]
      rw [u_addl (by rw [sz_eq, List.length_map]; simp only [List.length_cons, List.length_nil]; omega), lift_sm, bnd_ret, out_set (by rw [b4.len]; omega), bnd_ret, thenM_nx, eTs_nil]
      simp [c]
    · simp only [decide_eq_false c, Bool.false_eq_true, if_false, eE_lst, eEs_nil, bnd_ret]
      rw [u_addl (by rw [sz_eq, List.length_map]; simp only [List.length_nil]; omega), lift_sm, bnd_ret, out_set (by rw [b4.len]; omega), bnd_ret, thenM_nx, eTs_nil]
      simp [c]
end
end K29P
end RW.PL
/-! k29, plain: _law_bells (5): bells heard farther; the end. -/
namespace RW.PL
open PySem PySem.W RW.K29
theorem u_ixn {xs : List PyData} {i : Int} (h0 : 0 ≤ i) (h : i.toNat < xs.length) : u2 .ix (.list xs) (.int i) = some xs[i.toNat] := by
  have := u_ixl h
  rw [show ((i.toNat : Nat) : Int) = i by omega] at this
  exact this
namespace K29P
section
variable {dr : List Int} {k : Nat} {n : Nat} {ρ : Sls} {bs : Bells} {w h : Int} {spot : Spot} {so : List Str}
theorem irng_get {b : Int} {i : Nat} (hi : i < (irng 0 b).length) : (irng 0 b)[i] = (i : Int) := by simp [irng]
theorem part5 (b : B0 ρ bs w h spot so) (o : Ok0 bs w h spot so) {Q : Out → Nat → Prop} (hk : ∀ n, Q (.rt (.bool true)) n) :
    Ev (evTs (R dr (k + 12)) [s35_15, s35_16] ρ) n Q := by
  have w0 : 0 ≤ w := by have := o.w1; omega
  have h0 : 0 ≤ h := by have := o.h1; omega
  have hl := o.ok.len
  have fl := length_fieldT (w := w) (h := h) o.w4 o.h4
  refine ev_for (xs := bs.map fun b => toD b.1) (by simp only [eS_ex, eE_o1, eE_v, b.g1, lift_sm, bnd_ret, u_srt, names_srt o.ok, it_l]) ?_
  refine (loop_ev (l := bs) (pre := []) (enc := fun b => toD b.1) (I := fun _ ρ _ => B0 ρ bs w h spot so) ?_ b).mono ?_
  · rintro p ⟨nm, val⟩ q hpq ρ n b
    have hb : (nm, val) ∈ bs := by rw [List.nil_append] at hpq; rw [hpq]; simp
    show Ev (bodyM _ _ _ (toD nm) ρ) n _
    unfold bodyM
    rw [asg_nm (by rw [b.len]; omega), lift_sm, bnd_ret]
    have g10 : slGet (ρ.set 10 (.pu (toD nm))) 10 = some (toD nm) := get_eq (by rw [b.len]; omega)
    have b := b.set (i := 10) (x := .pu (toD nm)) rfl
    generalize ρ.set 10 (.pu (toD nm)) = ρ at b g10 ⊢
    refine ev_parE ?_
    rw [eEs_cons]
    refine ev_bnd (nx b.g0 (by omega) fun more n1 m0 m4 => ?_)
    rw [eEs_cons, bnd_assoc]
    refine ev_bnd (nx b.g0 (by omega) fun most n2 q0 q5 => ?_)
    simp only [eEs_nil, bnd_ret]
    refine ev_ret ⟨(ρ.set 23 (.pu (.int more))).set 24 (.pu (.int most)), by simp [parS, b.len], ?_⟩
    have b1 : B0 ((ρ.set 23 (.pu (.int more))).set 24 (.pu (.int most))) bs w h spot so := (b.set rfl).set rfl
    have t10 : slGet ((ρ.set 23 (.pu (.int more))).set 24 (.pu (.int most))) 10 = some (toD nm) := by rw [get_ne (by omega), get_ne (by omega)]; exact g10
    have t23 : slGet ((ρ.set 23 (.pu (.int more))).set 24 (.pu (.int most))) 23 = some (.int more) := by rw [get_ne (by omega)]; exact get_eq (by rw [b.len]; omega)
    have t24 : slGet ((ρ.set 23 (.pu (.int more))).set 24 (.pu (.int most))) 24 = some (.int most) := get_eq (by rw [List.length_set, b.len]; omega)
    generalize ((ρ.set 23 (.pu (.int more))).set 24 (.pu (.int most))) = ρ at b1 t10 t23 t24 ⊢
    -- wider
    refine ev_asg (d := .list ((irng 0 6).map fun m => encB (louderT bs nm m))) (cp_map (l := irng 0 6) (enc := toD) ?_ ?_ ?_) (out_set (by rw [b1.len]; omega)) ?_
    · simp only [eS_rg1, eE_c, bnd_ret, rng_t (a := 0) (b := 6) (by omega) (by omega) (by omega) (by omega), lift_sm]
    · rw [length_ints, sz_eq]; decide
    · intro m hm
      refine ⟨_, asg_w (by rw [b1.len]; omega), ?_⟩
      have b2 : B0 ((ρ.set 25 .no).set 25 (.pu (toD m))) bs w h spot so := (b1.set rfl).set rfl
      have u10 : slGet ((ρ.set 25 .no).set 25 (.pu (toD m))) 10 = some (toD nm) := by rw [get_ne (by omega), get_ne (by omega)]; exact t10
      have u25 : slGet ((ρ.set 25 .no).set 25 (.pu (toD m))) 25 = some (.int m) := get_eqw (by rw [b1.len]; omega)
      generalize ((ρ.set 25 .no).set 25 (.pu (toD m))) = ρ at b2 u10 u25 ⊢
      rw [eE_o1, cp_map (l := bs) (enc := fun b => toD b.1) (g := fun b => .tuple [toD b.1, .tuple [toD b.2.1, .int (b.2.2 + if b.1 = nm then m else 0)]]), bnd_ret]
      · have lk := louder_ok o.ok nm m
        have ed := u_dictl (fun v : Spot × Int => toD v) (louderT bs nm m) (by have := lk.len; rw [sz_eq]; omega)
        rw [putAllT_nodup _ [] (by simpa using lk.nd), List.nil_append, louderT, List.map_map] at ed
        rw [show (fun b : Str × (Spot × Int) => PyData.tuple [toD b.1, .tuple [toD b.2.1, .int (b.2.2 + if b.1 = nm then m else 0)]]) = (fun p : Str × (Spot × Int) => PyData.tuple [toD p.1, toD p.2]) ∘ (fun b : Str × (Spot × Int) => (b.1, (b.2.1, b.2.2 + if b.1 = nm then m else 0))) from rfl, ed]
        rfl
      · simp only [eS_ex, eE_v, b2.g1, lift_sm, bnd_ret, encB, it_d, List.map_map, Function.comp_def]
      · rw [sz_eq]; omega
      · intro c hc
        refine ⟨_, asg_w (by rw [b2.len]; omega), ?_⟩
        have e1 : u2 .ix (encB bs) (toD c.1) = some (toD c.2) := by rw [encB, u_ixd, getT_mem o.ok.nd hc]; rfl
        have e2 : u2 .eq (toD c.1) (toD nm) = some (.bool (decide (c.1 = nm))) := u_eqT (α := Str) (by decide) _ _
        simp only [eE_tup, eEs_cons, eEs_nil, eE_o2, eE_ite, eE_v, eE_c, get_eqw (show 20 < ρ.length by rw [b2.len]; omega), get_ne (show 20 ≠ 1 by omega), get_ne (show 20 ≠ 10 by omega), get_ne (show 20 ≠ 25 by omega), b2.g1, u10, u25, lift_sm, bnd_ret, e1, e2, u_ix0, u_ix1, td_i, boolM_b]
        by_cases hcn : c.1 = nm
        · simp only [decide_eq_true hcn, if_true, bnd_ret, u_add, lift_sm, if_pos hcn]
        · simp only [decide_eq_false hcn, Bool.false_eq_true, if_false, bnd_ret, u_add, lift_sm, if_neg hcn]
    have v10 := get_ne (ρ := ρ) (x := stor false (.list ((irng 0 6).map fun m => encB (louderT bs nm m)))) (show 18 ≠ 10 by omega)
    have v23 := get_ne (ρ := ρ) (x := stor false (.list ((irng 0 6).map fun m => encB (louderT bs nm m)))) (show 18 ≠ 23 by omega)
    have v24 := get_ne (ρ := ρ) (x := stor false (.list ((irng 0 6).map fun m => encB (louderT bs nm m)))) (show 18 ≠ 24 by omega)
    have v18 : slGet (ρ.set 18 (stor false (.list ((irng 0 6).map fun m => encB (louderT bs nm m))))) 18 = some _ := get_eq (by rw [b1.len]; omega)
    have b3 := b1.set (i := 18) (x := stor false (.list ((irng 0 6).map fun m => encB (louderT bs nm m)))) rfl
    rw [t10] at v10
    rw [t23] at v23
    rw [t24] at v24
    generalize ρ.set 18 (stor false (.list ((irng 0 6).map fun m => encB (louderT bs nm m)))) = ρ at b3 v10 v23 v24 v18 ⊢
    have e18 : ∀ m : Int, 0 ≤ m → m < 6 → u2 .ix (.list ((irng 0 6).map fun m => encB (louderT bs nm m))) (.int m) = some (encB (louderT bs nm m)) := fun m h0 h6 => by
      have hlen : (irng 0 6).length = 6 := by rw [length_ints]; rfl
      rw [u_ixn h0 (by rw [List.length_map, hlen]; omega), List.getElem_map, irng_get, show ((m.toNat : Nat) : Int) = m by omega]
    -- least
    refine ev_asg (d := .list (((irng 0 (most + 1)).filter fun m => decide (withT (louderT bs nm m) w h [] = [])).map toD)) (cp_pure (l := irng 0 (most + 1)) (enc := toD) ?_ ?_ ?_) (out_set (by rw [b3.len]; omega)) ?_
    · simp only [eS_rg1, eE_o2, eE_v, eE_c, v24, lift_sm, bnd_ret, u_add, rng_t (a := 0) (b := most + 1) (by omega) (by omega) (by omega) (by omega)]
    · rw [length_ints, sz_eq]; omega
    · intro m hm
      rw [mem_ints] at hm
      refine ⟨_, asg_w (by rw [b3.len]; omega), ?_, fun _ => by simp only [eE_v, get_eqw (show 25 < ρ.length by rw [b3.len]; omega), lift_sm]⟩
      have b4 : B0 ((ρ.set 25 .no).set 25 (.pu (toD m))) bs w h spot so := (b3.set rfl).set rfl
      have u18 : slGet ((ρ.set 25 .no).set 25 (.pu (toD m))) 18 = some (.list ((irng 0 6).map fun m => encB (louderT bs nm m))) := by rw [get_ne (by omega), get_ne (by omega)]; exact v18
      have u25 : slGet ((ρ.set 25 .no).set 25 (.pu (toD m))) 25 = some (.int m) := get_eqw (by rw [b3.len]; omega)
      generalize ((ρ.set 25 .no).set 25 (.pu (toD m))) = ρ at b4 u18 u25 ⊢
      have c1 : evE (R dr (k + 12)) (.cp [20] (.nm 20) (.ex (.v 2)) (some (.o2 .eq (.call 34 [.o2 .ix (.v 18) (.v 25), .v 20]) (.tup []))) (.v 20)) ρ = ret (.list ((withT (louderT bs nm m) w h []).map toD)) := by
        refine cp_pure (l := fieldT w h) (enc := toD) (g := toD) ?_ ?_ ?_
        · simp only [eS_ex, eE_v, b4.g2, lift_sm, bnd_ret, it_l]
        · rw [sz_eq]; omega
        · intro s hs
          refine ⟨_, asg_w (by rw [b4.len]; omega), ?_, fun _ => by simp only [eE_v, get_eqw (show 20 < ρ.length by rw [b4.len]; omega), lift_sm]⟩
          have e34 : R dr (k + 12) 34 [encB (louderT bs nm m), toD s] = ret (encH (heardT (louderT bs nm m) s)) := l_heard dr (k + 11) (louder_ok o.ok nm m) s
          have ee : u2 .eq (encH (heardT (louderT bs nm m) s)) (.tuple []) = some (.bool (decide (heardT (louderT bs nm m) s = []))) := u_eqU (α := Str) (by decide) _ []
          simp only [eQ_some, eE_o2, eE_call, eE_tup, eEs_cons, eEs_nil, eE_v, get_eqw (show 20 < ρ.length by rw [b4.len]; omega), get_ne (show 20 ≠ 18 by omega), get_ne (show 20 ≠ 25 by omega), u18, u25, lift_sm, bnd_ret, e18 m (by omega) (by omega), e34, ee, boolM_b]
      have ee : u2 .eq (.list ((withT (louderT bs nm m) w h []).map toD)) (.list []) = some (.bool (decide (withT (louderT bs nm m) w h [] = []))) := u_eqL (α := Spot) (by decide) _ []
      simp only [eQ_some, eE_o2, eE_lst, eEs_nil, c1, bnd_ret, ee, lift_sm, boolM_b]
    have x10 := get_ne (ρ := ρ) (x := stor false (.list (((irng 0 (most + 1)).filter fun m => decide (withT (louderT bs nm m) w h [] = [])).map toD))) (show 19 ≠ 10 by omega)
    have x18 := get_ne (ρ := ρ) (x := stor false (.list (((irng 0 (most + 1)).filter fun m => decide (withT (louderT bs nm m) w h [] = [])).map toD))) (show 19 ≠ 18 by omega)
    have x23 := get_ne (ρ := ρ) (x := stor false (.list (((irng 0 (most + 1)).filter fun m => decide (withT (louderT bs nm m) w h [] = [])).map toD))) (show 19 ≠ 23 by omega)
    have x24 := get_ne (ρ := ρ) (x := stor false (.list (((irng 0 (most + 1)).filter fun m => decide (withT (louderT bs nm m) w h [] = [])).map toD))) (show 19 ≠ 24 by omega)
    have x19 : slGet (ρ.set 19 (stor false (.list (((irng 0 (most + 1)).filter fun m => decide (withT (louderT bs nm m) w h [] = [])).map toD)))) 19 = some _ := get_eq (by rw [b3.len]; omega)
    have b5 := b3.set (i := 19) (x := stor false (.list (((irng 0 (most + 1)).filter fun m => decide (withT (louderT bs nm m) w h [] = [])).map toD))) rfl
    rw [v10] at x10
    rw [v18] at x18
    rw [v23] at x23
    rw [v24] at x24
    generalize ρ.set 19 (stor false (.list (((irng 0 (most + 1)).filter fun m => decide (withT (louderT bs nm m) w h [] = [])).map toD))) = ρ at b5 x10 x18 x23 x24 x19 ⊢
    refine ev_ife_no ?_ (ev_nil ⟨ρ, rfl, b5⟩)
    have e13 : R dr (k + 12) 13 [encB bs, toD nm, .int more] = ret (encB (louderT bs nm more)) := r_louder (k := k + 11) o.ok hb more
    have e14 : R dr (k + 12) 14 [encB bs, .int w, .int h, toD nm, .int most] = ret (match leastT bs w h nm most with | some m => .int m | none => .none) := r_least (k := k + 7) o.w4 o.h4 w0 h0 o.ok hb q0 (by omega)
    generalize hd : (match leastT bs w h nm most with | some m => PyData.int m | none => PyData.none) = dl at e14
    have en : u2 .ne (.list (((irng 0 (most + 1)).filter fun m => decide (withT (louderT bs nm m) w h [] = [])).map toD)) (.list []) = some (.bool (!decide (((irng 0 (most + 1)).filter fun m => decide (withT (louderT bs nm m) w h [] = [])) = []))) := u_neL (α := Int) (by decide) _ []
    have hlast : evE (R dr (k + 12)) (.ite (.o2 .ne (.v 19) (.lst [])) (.o2 .ix (.v 19) (.c (.int 0))) (.c (.none))) ρ = ret dl := by
      simp only [eE_ite, eE_o2, eE_lst, eEs_nil, eE_v, eE_c, x19, lift_sm, bnd_ret, en, boolM_b]
      rw [← hd]
      have hh := List.head?_filter (p := fun m => decide (withT (louderT bs nm m) w h [] = [])) (l := irng 0 (most + 1))
      unfold leastT
      cases hc : (irng 0 (most + 1)).filter fun m => decide (withT (louderT bs nm m) w h [] = []) with
      | nil => rw [hc] at hh; rw [← hh]; simp
      | cons a l => rw [hc] at hh; rw [← hh, List.map_cons]; simp [u_hd, td_i]
    have hlk := (louder_ok o.ok nm more).len
    have al : R dr (k + 12) 32 [.tuple [encB (louderT bs nm more), dl], .tuple [encB (louderT bs nm more), dl]] = ret (.bool true) :=
      alike_ok (prim := prim dr) (T := tblT tbl) (j := 32) rfl rfl (k + 12) _ (alk_tup (by rw [sz_eq]; simp) fun x hx => by
        simp only [List.mem_cons, List.not_mem_nil, or_false] at hx
        rcases hx with rfl | rfl
        · exact alk_enc _ (by rw [sz_eq]; omega) (louder_ok o.ok nm more).nd (by decide) fun p _ => alk_tup (by rw [sz_eq]; simp) fun x hx => by
            simp only [List.mem_cons, List.not_mem_nil, or_false] at hx
            rcases hx with rfl | rfl
            · exact alk_sp _
            · exact alk_int
        · rw [← hd]
          cases leastT bs w h nm most with
          | none => exact alk_none
          | some m => exact alk_int)
    simp only [eE_nt, eE_call, eE_tup, eEs_cons, eEs_nil, hlast, bnd_ret]
    simp only [eE_o1, eE_o2, eE_v, b5.g1, b5.g11, b5.g12, x10, x18, x23, x24, lift_sm, bnd_ret, dcopy o.ok, e13, e14, e18 more (by omega) (by omega), al, boolM_b]
    rfl
  · rintro _ n' ⟨ρ', rfl, b'⟩
    exact ⟨ρ', rfl, ev_ret' (by simp only [eE_c]) (hk n')⟩
theorem bells_ok (dr : List Int) (k n : Nat) : Ev (R dr (k + 13) 35 [.none]) n fun d _ => d = .bool true := by
  refine fn_ev (F := d35.f) (ρ := .wr :: List.replicate 26 .no) rfl rfl rfl ?_
  show Ev (evTs _ b35 _) n _
  rw [b35_eq]
  refine part1 fun ρ bs w h spot so n b o => part2 b o fun ρ n b => part3 b o fun ρ rows n b g => part4 b o g fun ρ n b => part5 b o fun n => ⟨_, rfl, rfl⟩
end
end K29P
end RW.PL
/-! k29, plain: courses (1). -/
namespace RW.PL
open PySem PySem.W RW.K29
namespace K29P
abbrev Course := List (Str × Int)
def encC (c : Course) : PyData := .tuple (c.map toD)
def idxP (p : Str) : Nat := (ptsL.findIdx? fun y => decide (y = p)).getD 0
def stepT (p : Str) : Spot := stpL.getD (idxP p) (0, 0)
def onT (p : Str) (k : Int) : Str := ptsL.getD (((idxP p : Nat) + k).fmod 8).toNat ""
def lawPts : List (Str × Spot) := ptsL.zip stpL
theorem pts_facts : ∀ p ∈ ptsL, idxP p < 8 ∧ (ptsL.findIdx? fun y => decide (y = p)) = some (idxP p) ∧ (stepT p).1.natAbs ≤ 1 ∧ (stepT p).2.natAbs ≤ 1 ∧ stepT (onT p 4) = (-(stepT p).1, -(stepT p).2) := by decide +kernel
theorem band7 (m : Int) (h1 : -4 ≤ m) (h2 : m ≤ 11) : Builtin.bitAnd m 7 = m.fmod 8 := by
  have : m = -4 ∨ m = -3 ∨ m = -2 ∨ m = -1 ∨ m = 0 ∨ m = 1 ∨ m = 2 ∨ m = 3 ∨ m = 4 ∨ m = 5 ∨ m = 6 ∨ m = 7 ∨ m = 8 ∨ m = 9 ∨ m = 10 ∨ m = 11 := by omega
  rcases this with rfl | rfl | rfl | rfl | rfl | rfl | rfl | rfl | rfl | rfl | rfl | rfl | rfl | rfl | rfl | rfl <;> rfl
theorem fmod8 (m : Int) : 0 ≤ m.fmod 8 ∧ m.fmod 8 < 8 := by
  rw [Int.fmod_eq_emod_of_nonneg _ (by omega)]
  omega
theorem onT_mem (p : Str) (k : Int) : onT p k ∈ ptsL := by
  obtain ⟨h1, h2⟩ := fmod8 ((idxP p : Nat) + k)
  unfold onT
  have hl : (((idxP p : Nat) + k).fmod 8).toNat < ptsL.length := by show _ < 8; omega
  rw [List.getD_eq_getElem?_getD, List.getElem?_eq_getElem hl]
  exact List.getElem_mem hl
section
variable {dr : List Int} {k : Nat}
theorem r_pts : R dr (k + 1) 42 [] = ret (.tuple (ptsL.map toD)) := by
  show run (prim dr) (tblT tbl) (k + 1) 42 [] = _
  rw [run_prim (g := fun _ => ret (.tuple (ptsL.map toD))) rfl]
theorem r_stp : R dr (k + 1) 43 [] = ret (.tuple (stpL.map toD)) := by
  show run (prim dr) (tblT tbl) (k + 1) 43 [] = _
  rw [run_prim (g := fun _ => ret (.tuple (stpL.map toD))) rfl]
theorem r_round : R dr (k + 1) 44 [] = ret (.int 8) := by
  show run (prim dr) (tblT tbl) (k + 1) 44 [] = _
  rw [run_prim (g := fun _ => ret (.int 8)) rfl]
theorem u_tix {p : Str} (hp : p ∈ ptsL) : u2 .tindex (.tuple (ptsL.map toD)) (toD p) = some (.int (idxP p : Nat)) := by
  show indexIn (ptsL.map toD) (toD p) = _
  rw [indexIn_t (by decide) _ _ (by decide), (pts_facts p hp).2.1]
  rfl
theorem u_lix {p : Str} (hp : p ∈ ptsL) : u2 .lindex (.list (ptsL.map toD)) (toD p) = some (.int (idxP p : Nat)) := by
  show indexIn (ptsL.map toD) (toD p) = _
  rw [indexIn_t (by decide) _ _ (by decide), (pts_facts p hp).2.1]
  rfl
theorem r_step {p : Str} (hp : p ∈ ptsL) : R dr (k + 2) 15 [toD p] = ret (toD (stepT p)) := by
  refine fret (F := d15.f) (ρ := [.pu (toD p)]) rfl rfl rfl ?_
  show evTs _ b15 _ = _
  have h8 := (pts_facts p hp).1
  have e : u2 .ix (.tuple (stpL.map toD)) (.int (idxP p : Nat)) = some (toD (stepT p)) := by
    rw [u_ixtT (show idxP p < stpL.length from h8), stepT, List.getD_eq_getElem?_getD, List.getElem?_eq_getElem (show idxP p < stpL.length from h8)]
    rfl
  rw [b15, eTs_cons, eT_ret]
  simp only [eE_o2, eE_g, eE_v, slGet, List.getElem?_cons_zero, lift_sm, r_pts, r_stp, bnd_ret, u_tix hp, e, thenM_rt]
theorem r_on {p : Str} (hp : p ∈ ptsL) (m : Int) : R dr (k + 2) 16 [toD p, .int m] = ret (toD (onT p m)) := by
  refine fret (F := d16.f) (ρ := [.pu (toD p), .pu (.int m)]) rfl rfl rfl ?_
  show evTs _ b16 _ = _
  obtain ⟨h1, h2⟩ := fmod8 ((idxP p : Nat) + m)
  have hl : (((idxP p : Nat) + m).fmod 8).toNat < ptsL.length := by show _ < 8; omega
  have e : u2 .ix (.tuple (ptsL.map toD)) (.int (((idxP p : Nat) + m).fmod 8)) = some (toD (onT p m)) := by
    have := u_ixtT hl
    rw [show (((((idxP p : Nat) + m).fmod 8).toNat : Nat) : Int) = ((idxP p : Nat) + m).fmod 8 by omega] at this
    rw [this, onT, List.getD_eq_getElem?_getD, List.getElem?_eq_getElem hl]
    rfl
  rw [b16, eTs_cons, eT_ret]
  simp only [eE_o2, eE_g, eE_v, slGet, List.getElem?_cons_zero, List.getElem?_cons_succ, lift_sm, r_pts, r_round, bnd_ret, u_tix hp, u_add, u_mod (show divOk 8 = true by decide), e, thenM_rt]
/-- the law's own points -/
def encQ (q : Str × Spot) : PyData := .tuple [toD q.1, .int q.2.1, .int q.2.2]
theorem l_pts : R dr (k + 1) 36 [] = ret (.list (lawPts.map encQ)) := by
  refine fret (F := d36.f) (ρ := []) rfl rfl rfl ?_
  show evTs _ b36 _ = _
  rw [b36, eTs_cons, eT_ret]
  simp only [eE_lst, eE_tup, eEs_cons, eEs_nil, eE_c, eE_o1, bnd_ret, u_neg, lift_sm, thenM_rt]
  rfl
theorem names_eq (ρ : Sls) (i : Nat) (hi : i < ρ.length) : evE (R dr (k + 1)) (.cp [i] (.nm i) (.ex (.call 36 [])) none (.o2 .ix (.v i) (.c (.int 0)))) ρ = ret (.list (ptsL.map toD)) := by
  have e : ptsL.map toD = lawPts.map fun q => toD q.1 := rfl
  rw [e]
  refine cp_map (l := lawPts) (enc := encQ) ?_ (by decide) fun q hq => ⟨_, asg_w hi, ?_⟩
  · simp only [eS_ex, eE_call, eEs_nil, bnd_ret, l_pts, it_l, lift_sm]
  · simp only [eE_o2, eE_v, eE_c, get_eqw hi, lift_sm, bnd_ret]
    rfl
theorem l_on {p : Str} (hp : p ∈ ptsL) {m : Int} (h1 : -4 ≤ m) (h2 : m ≤ 4) : R dr (k + 2) 37 [toD p, .int m] = ret (toD (onT p m)) := by
  refine fret (F := d37.f) (ρ := [.pu (toD p), .pu (.int m), .no, .no]) rfl rfl rfl ?_
  show evTs _ b37 _ = _
  have h8 := (pts_facts p hp).1
  obtain ⟨f1, f2⟩ := fmod8 ((idxP p : Nat) + m)
  have hl : (((idxP p : Nat) + m).fmod 8).toNat < ptsL.length := by show _ < 8; omega
  have eb : u2 .band (.int ((idxP p : Nat) + m)) (.int 7) = some (.int (((idxP p : Nat) + m).fmod 8)) := by
    show some (PyData.int (Builtin.bitAnd _ 7)) = _
    rw [band7 _ (by omega) (by omega)]
  have e : u2 .ix (.list (ptsL.map toD)) (.int (((idxP p : Nat) + m).fmod 8)) = some (toD (onT p m)) := by
    have := u_ixlT hl
    rw [show (((((idxP p : Nat) + m).fmod 8).toNat : Nat) : Int) = ((idxP p : Nat) + m).fmod 8 by omega] at this
    rw [this, onT, List.getD_eq_getElem?_getD, List.getElem?_eq_getElem hl]
    rfl
  rw [b37, eTs_cons, eT_asg, names_eq _ 3 (by simp), bnd_ret, out_set (by simp), bnd_ret, thenM_nx, eTs_cons, eT_ret]
  simp only [eE_o2, eE_v, eE_c, slGet, stor_f, List.set_cons_succ, List.set_cons_zero, List.getElem?_cons_zero, List.getElem?_cons_succ, lift_sm, bnd_ret, u_lix hp, u_add, eb, e, thenM_rt]
def OkC (c : Course) : Prop := ∀ q ∈ c, q.1 ∈ ptsL ∧ 0 ≤ q.2
def legT (at_ : Spot) (q : Str × Int) : Spot := (at_.1 + (stepT q.1).1 * q.2, at_.2 + (stepT q.1).2 * q.2)
def endT (c : Course) : Spot := c.foldl legT (0, 0)
theorem sm_step {p : Str} (hp : p ∈ ptsL) : small64 (stepT p).1 = true ∧ small64 (stepT p).2 = true := by
  obtain ⟨_, _, h1, h2, _⟩ := pts_facts p hp
  unfold small64
  simp only [Bool.and_eq_true, decide_eq_true_eq]
  omega
theorem r_end {c : Course} (h : OkC c) : R dr (k + 3) 17 [encC c] = ret (toD (endT c)) := by
  refine fret (F := d17.f) (ρ := [.pu (encC c), .no, .no, .no, .no, .no, .no]) rfl rfl rfl ?_
  show evTs _ b17 _ = _
  have L := loop_pure (f := bodyM (R dr (k + 2)) (.tp [.nm 3, .nm 4]) [.asg false (.tp [.nm 5, .nm 6]) (.call 15 [.v 3]), .par [(1, false), (2, false)] [.o2 .add (.v 1) (.o2 .mul (.v 5) (.v 4)), .o2 .add (.v 2) (.o2 .mul (.v 6) (.v 4))]]) (l := c) (enc := toD) (g := legT)
    (st := fun s ρ => ∃ x3 x4 x5 x6, ρ = [.pu (encC c), .pu (.int s.1), .pu (.int s.2), x3, x4, x5, x6]) ?_ (s := (0, 0)) (ρ := [.pu (encC c), .pu (.int 0), .pu (.int 0), .no, .no, .no, .no]) ⟨_, _, _, _, rfl⟩
  · obtain ⟨ρ', e, x3, x4, x5, x6, rfl⟩ := L
    have p1 : parS [(1, false), (2, false)] [.int 0, .int 0] [.pu (encC c), .no, .no, .no, .no, .no, .no] = some [.pu (encC c), .pu (.int 0), .pu (.int 0), .no, .no, .no, .no] := rfl
    rw [b17, eTs_cons, eT_par]
    simp only [eEs_cons, eEs_nil, eE_c, bnd_ret, p1, lift_sm, thenM_nx]
    rw [eTs_cons, eT_for]
    simp only [eS_ex, eE_v, slGet, List.getElem?_cons_zero, lift_sm, bnd_ret, encC, it_t, thenM_nx]
    rw [encC] at e
    rw [e, bnd_ret, thenM_nx, eTs_cons, eT_ret]
    simp only [eE_tup, eEs_cons, eEs_nil, eE_v, slGet, List.getElem?_cons_zero, List.getElem?_cons_succ, lift_sm, bnd_ret, thenM_rt]
    rfl
  · rintro ⟨p, s⟩ hq at_ ρ ⟨x3, x4, x5, x6, rfl⟩
    obtain ⟨hp, hs⟩ := h _ hq
    obtain ⟨m1, m2⟩ := sm_step hp
    refine ⟨[.pu (encC c), .pu (.int (legT at_ (p, s)).1), .pu (.int (legT at_ (p, s)).2), .pu (toD p), .pu (.int s), .pu (.int (stepT p).1), .pu (.int (stepT p).2)], ?_, _, _, _, _, rfl⟩
    have p1 : ∀ a b, parS [(1, false), (2, false)] [a, b] [.pu (encC c), .pu (.int at_.1), .pu (.int at_.2), .pu (toD p), .pu (toD s), .pu (toD (stepT p).1), .pu (toD (stepT p).2)] = some [.pu (encC c), .pu a, .pu b, .pu (toD p), .pu (toD s), .pu (toD (stepT p).1), .pu (toD (stepT p).2)] := fun a b => rfl
    unfold bodyM
    rw [asg_pair (p, s) (by simp) (by simp), lift_sm, bnd_ret, eTs_cons, eT_asgt]
    simp only [eE_call, eEs_cons, eEs_nil, eE_v, slGet, List.set_cons_succ, List.set_cons_zero, List.getElem?_cons_zero, List.getElem?_cons_succ, lift_sm, bnd_ret, r_step (k := k) hp]
    rw [asg_pair (stepT p) (by simp) (by simp), lift_sm, bnd_ret, bnd_ret, thenM_nx, eTs_cons, eT_par]
    simp only [eEs_cons, eEs_nil, eE_o2, eE_v, slGet, List.set_cons_succ, List.set_cons_zero, List.getElem?_cons_zero, List.getElem?_cons_succ, lift_sm, bnd_ret]
    simp only [td_i, u_mul (b := s) (.inl m1), u_mul (b := s) (.inl m2), lift_sm, bnd_ret, u_add]
    simp only [td_i] at p1
    rw [p1, lift_sm, bnd_ret, bnd_ret, thenM_nx, eTs_nil]
    rfl
def turnT (c : Course) (m : Int) : Course := c.map fun q => (onT q.1 m, q.2)
theorem asg_pw {α β : Type} [DecidableEq α] [Datum α] [DecidableEq β] [Datum β] {ρ : Sls} {i j : Nat} (p : α × β) (hi : i < ρ.length) (hj : j < ρ.length) : asgT (.tp [.nm i, .nm j]) (toD p) (wipeS ρ [i, j]) = some ((((ρ.set j .no).set i .no).set i (.pu (toD p.1))).set j (.pu (toD p.2))) :=
  asg_pair p (by rw [wipe2, List.length_set, List.length_set]; exact hi) (by rw [wipe2, List.length_set, List.length_set]; exact hj)
theorem r_turn {c : Course} (h : OkC c) (hl : c.length ≤ 1000) (m : Int) : R dr (k + 3) 18 [encC c, .int m] = ret (encC (turnT c m)) := by
  refine fret (F := d18.f) (ρ := [.pu (encC c), .pu (.int m), .no, .no]) rfl rfl rfl ?_
  show evTs _ b18 _ = _
  have e := cp_map (C := R dr (k + 2)) (ρ := [.pu (encC c), .pu (.int m), .no, .no]) (l := c) (enc := toD) (g := fun q => toD (onT q.1 m, q.2)) (own := [2, 3]) (t := .tp [.nm 2, .nm 3]) (s := .ex (.v 0)) (e := .tup [.call 16 [.v 2, .v 1], .v 3])
    (by simp only [eS_ex, eE_v, slGet, List.getElem?_cons_zero, lift_sm, bnd_ret, encC, it_t]) (by rw [sz_eq]; omega) fun q hq => by
      refine ⟨_, asg_pw q (by simp) (by simp), ?_⟩
      simp only [eE_tup, eEs_cons, eEs_nil, eE_call, eE_v, slGet, List.set_cons_succ, List.set_cons_zero, List.getElem?_cons_zero, List.getElem?_cons_succ, lift_sm, bnd_ret, r_on (k := k) (h q hq).1]
      rfl
  rw [b18, eTs_cons, eT_ret, eE_o1, e, bnd_ret]
  simp only [bnd_ret, u_tupl, lift_sm, thenM_rt, encC, turnT, List.map_map]
  rfl
theorem l_turn {c : Course} (h : OkC c) (hl : c.length ≤ 1000) {m : Int} (h1 : -4 ≤ m) (h2 : m ≤ 4) : R dr (k + 3) 39 [encC c, .int m] = ret (encC (turnT c m)) := by
  refine fret (F := d39.f) (ρ := [.pu (encC c), .pu (.int m), .no, .no]) rfl rfl rfl ?_
  show evTs _ b39 _ = _
  have e := cp_map (C := R dr (k + 2)) (ρ := [.pu (encC c), .pu (.int m), .no, .no]) (l := c) (enc := toD) (g := fun q => toD (onT q.1 m, q.2)) (own := [2, 3]) (t := .tp [.nm 2, .nm 3]) (s := .ex (.v 0)) (e := .tup [.call 37 [.v 2, .v 1], .v 3])
    (by simp only [eS_ex, eE_v, slGet, List.getElem?_cons_zero, lift_sm, bnd_ret, encC, it_t]) (by rw [sz_eq]; omega) fun q hq => by
      refine ⟨_, asg_pw q (by simp) (by simp), ?_⟩
      simp only [eE_tup, eEs_cons, eEs_nil, eE_call, eE_v, slGet, List.set_cons_succ, List.set_cons_zero, List.getElem?_cons_zero, List.getElem?_cons_succ, lift_sm, bnd_ret, l_on (k := k) (h q hq).1 h1 h2]
      rfl
  rw [b39, eTs_cons, eT_ret, eE_o1, e, bnd_ret]
  simp only [bnd_ret, u_tupl, lift_sm, thenM_rt, encC, turnT, List.map_map]
  rfl
theorem OkC.turn {c : Course} (h : OkC c) (m : Int) : OkC (turnT c m) := by
  intro q hq
  obtain ⟨r, hr, rfl⟩ := List.mem_map.mp hq
  exact ⟨onT_mem _ _, (h r hr).2⟩
theorem r_back {c : Course} (h : OkC c) (hl : c.length ≤ 1000) : R dr (k + 4) 19 [encC c] = ret (encC (turnT c.reverse 4)) := by
  refine fret (F := d19.f) (ρ := [.pu (encC c)]) rfl rfl rfl ?_
  show evTs _ b19 _ = _
  have hr : OkC c.reverse := fun q hq => h q (List.mem_reverse.mp hq)
  have e : revD (encC c) = some (encC c.reverse) := by rw [encC, encC, List.map_reverse]; rfl
  have e2 : u2 .fdiv (.int 8) (.int 2) = some (.int 4) := by rw [u_fdiv (by decide)]; rfl
  have e3 : R dr (k + 3) 18 [encC c.reverse, .int 4] = ret (encC (turnT c.reverse 4)) := r_turn hr (by rw [List.length_reverse]; exact hl) 4
  rw [b19, eTs_cons, eT_ret]
  simp only [eE_call, eEs_cons, eEs_nil, eE_rev, eE_o2, eE_g, eE_v, eE_c, slGet, List.getElem?_cons_zero, lift_sm, bnd_ret, r_round, e, e2, e3, thenM_rt]
theorem r_closes {c : Course} (h : OkC c) : R dr (k + 4) 26 [encC c] = ret (.bool (decide (endT c = (0, 0)))) := by
  refine fret (F := d26.f) (ρ := [.pu (encC c)]) rfl rfl rfl ?_
  show evTs _ b26 _ = _
  have e : u2 .eq (toD (endT c)) (.tuple [.int 0, .int 0]) = some (.bool (decide (endT c = (0, 0)))) := u_eqT (α := Spot) (by decide) _ (0, 0)
  rw [b26, eTs_cons, eT_ret]
  simp only [eE_call, eEs_cons, eEs_nil, eE_o2, eE_tup, eE_v, eE_c, slGet, List.getElem?_cons_zero, lift_sm, bnd_ret, r_end h, e, thenM_rt]
end
end K29P
end RW.PL
/-! k29, plain: courses (2): spots passed. -/
namespace RW.PL
open PySem PySem.W RW.K29
section
variable {α : Type} [DecidableEq α] [Datum α]
theorem getLastD_last {l : List α} (h : l ≠ []) (d : α) : l.getLast h = l.getLastD d := by
  rw [List.getLastD_eq_getLast?, List.getLast?_eq_some_getLast h]
  rfl
theorem u_lastD {l : List α} (h : l ≠ []) (d : α) : u2 .ix (.list (l.map toD)) (.int (-1)) = some (toD (l.getLastD d)) := by rw [u_lastl h, getLastD_last h d]
theorem u_lastDt {l : List α} (h : l ≠ []) (d : α) : u2 .ix (.tuple (l.map toD)) (.int (-1)) = some (toD (l.getLastD d)) := by rw [u_lastt h, getLastD_last h d]
end
namespace K29P
/-- so many steps on -/
def goT (f : List Spot) (d : Spot) : Nat → List Spot
  | 0 => f
  | n + 1 => goT f d n ++ [(((goT f d n).getLastD (0, 0)).1 + d.1, ((goT f d n).getLastD (0, 0)).2 + d.2)]
def passT (c : Course) : List Spot := c.foldl (fun f q => goT f (stepT q.1) q.2.toNat) [(0, 0)]
theorem goT_ne {f : List Spot} (h : f ≠ []) (d : Spot) : ∀ n, goT f d n ≠ []
  | 0 => h
  | n + 1 => by rw [goT]; simp
theorem goT_len (f : List Spot) (d : Spot) : ∀ n, (goT f d n).length = f.length + n
  | 0 => rfl
  | n + 1 => by rw [goT, List.length_append, goT_len f d n]; simp only [List.length_cons, List.length_nil]; omega
theorem goT_last (f : List Spot) (d : Spot) : ∀ n : Nat, (goT f d n).getLastD (0, 0) = ((f.getLastD (0, 0)).1 + d.1 * n, (f.getLastD (0, 0)).2 + d.2 * n)
  | 0 => by simp [goT]
  | n + 1 => by
    rw [goT, List.getLastD_concat, goT_last f d n]
    ext
    · show _ + _ + _ = _
      have e : ∀ x : Int, x * ((n + 1 : Nat) : Int) = x * n + x := fun x => by rw [show ((n + 1 : Nat) : Int) = (n : Int) + 1 by omega, Int.mul_add, Int.mul_one]
      simp only [e]
      omega
    · show _ + _ + _ = _
      have e : ∀ x : Int, x * ((n + 1 : Nat) : Int) = x * n + x := fun x => by rw [show ((n + 1 : Nat) : Int) = (n : Int) + 1 by omega, Int.mul_add, Int.mul_one]
      simp only [e]
      omega
theorem passT_facts : ∀ (c : Course) (f : List Spot), f ≠ [] → OkC c → (∀ q ∈ c, q.2 ≤ 100) → (c.foldl (fun f q => goT f (stepT q.1) q.2.toNat) f) ≠ [] ∧ (c.foldl (fun f q => goT f (stepT q.1) q.2.toNat) f).getLastD (0, 0) = c.foldl legT (f.getLastD (0, 0)) ∧
    (c.foldl (fun f q => goT f (stepT q.1) q.2.toNat) f).length ≤ f.length + 100 * c.length
  | [], f, h, _, _ => ⟨h, rfl, by simp⟩
  | q :: c, f, h, hc, hb => by
    have h2 := hc q List.mem_cons_self
    have h3 := hb q List.mem_cons_self
    obtain ⟨r1, r2, r3⟩ := passT_facts c (goT f (stepT q.1) q.2.toNat) (goT_ne h _ _) (fun r hr => hc r (List.mem_cons_of_mem _ hr)) fun r hr => hb r (List.mem_cons_of_mem _ hr)
    refine ⟨r1, ?_, ?_⟩
    · rw [List.foldl_cons, List.foldl_cons, r2, goT_last]
      congr 1
      rw [show ((q.2.toNat : Nat) : Int) = q.2 by omega]
      rfl
    · rw [List.foldl_cons, List.length_cons]
      rw [goT_len] at r3
      omega
/-- a course that is not too long -/
structure OkL (c : Course) : Prop where
  ok : OkC c
  st : ∀ q ∈ c, q.2 ≤ 100
  ln : c.length ≤ 20
theorem OkL.pass {c : Course} (h : OkL c) : passT c ≠ [] ∧ (passT c).getLastD (0, 0) = endT c ∧ (passT c).length ≤ 2001 := by
  obtain ⟨h1, h2, h3⟩ := passT_facts c [(0, 0)] (by simp) h.ok h.st
  refine ⟨h1, h2, Nat.le_trans h3 ?_⟩
  have := h.ln
  simp only [List.length_cons, List.length_nil]
  omega
section
variable {dr : List Int} {k : Nat}
def bStep : List Ss := [.app 1 (.tup [.o2 .add (.o2 .ix (.o2 .ix (.b 1) (.o1 .neg (.c (.int 1)))) (.c (.int 0))) (.v 5), .o2 .add (.o2 .ix (.o2 .ix (.b 1) (.o1 .neg (.c (.int 1)))) (.c (.int 1))) (.v 6)])]
theorem steps_ok (C : Orc) {d0 : PyData} {f : List Spot} (hf : f ≠ []) {d : Spot} (n : Nat) (hn : f.length + n ≤ 100000) (x2 x3 x4 : Sl) (tl : Sls) :
    ∃ y4, loopM (bodyM C (.nm 4) bStep) ((List.range n).map fun (i : Nat) => toD (i : Int)) ([.pu d0, .ow (.list (f.map toD)), x2, x3, x4, .pu (.int d.1), .pu (.int d.2)] ++ tl) = ret (.nx ([.pu d0, .ow (.list ((goT f d n).map toD)), x2, x3, y4, .pu (.int d.1), .pu (.int d.2)] ++ tl)) := by
  have L := loop_idx (f := bodyM C (.nm 4) bStep) (l := List.range n) (enc := fun (i : Nat) => toD (i : Int)) (m := 0)
    (I := fun m ρ => ∃ x4, ρ = [.pu d0, .ow (.list ((goT f d m).map toD)), x2, x3, x4, .pu (.int d.1), .pu (.int d.2)] ++ tl) ?_ (ρ := [.pu d0, .ow (.list (f.map toD)), x2, x3, x4, .pu (.int d.1), .pu (.int d.2)] ++ tl) ⟨x4, rfl⟩
  · obtain ⟨ρ', e, y4, rfl⟩ := L
    rw [List.length_range, Nat.zero_add] at e
    exact ⟨y4, e⟩
  · rintro i hi ρ ⟨y4, rfl⟩
    simp only [List.length_range] at hi
    rw [Nat.zero_add]
    refine ⟨[.pu d0, .ow (.list ((goT f d (i + 1)).map toD)), x2, x3, .pu (.int (i : Int)), .pu (.int d.1), .pu (.int d.2)] ++ tl, ?_, _, rfl⟩
    have ea : asgT (.nm 4) (toD ((List.range n)[i] : Int)) ([.pu d0, .ow (.list ((goT f d i).map toD)), x2, x3, y4, .pu (.int d.1), .pu (.int d.2)] ++ tl) = some ([.pu d0, .ow (.list ((goT f d i).map toD)), x2, x3, .pu (.int (i : Int)), .pu (.int d.1), .pu (.int d.2)] ++ tl) := by
      rw [asg_nm (by simp)]
      simp [td_i]
    have e1 := u_lastD (goT_ne hf d i) (0, 0)
    unfold bodyM
    rw [ea, lift_sm, bnd_ret, bStep, eTs_cons, eT_app]
    simp only [List.cons_append, slOw, eE_tup, eEs_cons, eEs_nil, eE_o1, eE_o2, eE_b, eE_v, eE_c, slAny, slGet, List.getElem?_cons_zero, List.getElem?_cons_succ, lift_sm, bnd_ret, u_neg, e1, u_ix0, u_ix1, td_i, u_add]
    rw [app_l (by rw [List.length_map, goT_len, sz_eq]; omega), lift_sm, bnd_ret, bnd_ret, thenM_nx, eTs_nil, goT]
    simp [td_p, td_i]
theorem r_pass {c : Course} (h : OkL c) : R dr (k + 3) 27 [encC c] = ret (.tuple ((passT c).map toD)) := by
  refine fret (F := d27.f) (ρ := [.pu (encC c), .no, .no, .no, .no, .no, .no]) rfl rfl rfl ?_
  show evTs _ b27 _ = _
  have L := loop_idx (f := bodyM (R dr (k + 2)) (.tp [.nm 2, .nm 3]) [.asg false (.tp [.nm 5, .nm 6]) (.call 15 [.v 2]), .for (.nm 4) (.rg1 (.v 3)) bStep]) (l := c) (enc := toD) (m := 0)
    (I := fun m ρ => ∃ f x2 x3 x4 x5 x6, f = (c.take m).foldl (fun f q => goT f (stepT q.1) q.2.toNat) [(0, 0)] ∧ ρ = [.pu (encC c), .ow (.list (f.map toD)), x2, x3, x4, x5, x6]) ?_ (ρ := [.pu (encC c), .ow (.list [toD ((0, 0) : Spot)]), .no, .no, .no, .no, .no]) ⟨[(0, 0)], _, _, _, _, _, rfl, rfl⟩
  · obtain ⟨ρ', e, f, x2, x3, x4, x5, x6, hf, rfl⟩ := L
    rw [Nat.zero_add, List.take_of_length_le (Nat.le_refl _), show c.foldl (fun f q => goT f (stepT q.1) q.2.toNat) [(0, 0)] = passT c from rfl] at hf
    rw [b27, eTs_cons, eT_asg]
    simp only [eE_lst, eE_tup, eEs_cons, eEs_nil, eE_c, bnd_ret, stor_tl]
    rw [out_set (by simp), bnd_ret, thenM_nx, eTs_cons, eT_for]
    simp only [eS_ex, eE_v, slGet, List.set_cons_succ, List.set_cons_zero, List.getElem?_cons_zero, lift_sm, bnd_ret, encC, it_t]
    rw [encC] at e
    have e' : loopM (bodyM (R dr (k + 2)) (.tp [.nm 2, .nm 3]) [.asg false (.tp [.nm 5, .nm 6]) (.call 15 [.v 2]), .for (.nm 4) (.rg1 (.v 3)) bStep]) (c.map toD) [.pu (.tuple (c.map toD)), .ow (.list [.tuple [.int 0, .int 0]]), .no, .no, .no, .no, .no] = _ := e
    rw [bStep] at e'
    rw [e', bnd_ret, thenM_nx, eTs_cons, eT_ret]
    simp only [eE_o1, eE_b, slAny, List.getElem?_cons_zero, List.getElem?_cons_succ, lift_sm, bnd_ret, u_tupl, thenM_rt, hf]
  · rintro i hi ρ ⟨f, x2, x3, x4, x5, x6, hf, rfl⟩
    rw [Nat.zero_add] at hf ⊢
    have hq : c[i] ∈ c := List.getElem_mem hi
    obtain ⟨hp, hs⟩ := h.ok _ hq
    have h100 := h.st _ hq
    have hln := h.ln
    have ht : c.take (i + 1) = c.take i ++ [c[i]] := by rw [List.take_succ, List.getElem?_eq_getElem hi]; rfl
    have hfo := passT_facts (c.take i) [(0, 0)] (by simp) (fun q hq => h.ok q (List.mem_of_mem_take hq)) fun q hq => h.st q (List.mem_of_mem_take hq)
    rw [← hf] at hfo
    obtain ⟨hne, _, hfl⟩ := hfo
    rw [List.length_take] at hfl
    simp only [List.length_cons, List.length_nil] at hfl
    generalize hc : c[i] = q at hq hp hs h100 ht
    obtain ⟨p, s⟩ := q
    obtain ⟨s, rfl⟩ : ∃ m : Nat, s = (m : Int) := ⟨s.toNat, by simp only at hs; omega⟩
    obtain ⟨y4, e⟩ := steps_ok (R dr (k + 2)) (d0 := encC c) hne (d := stepT p) s (by simp only at h100; omega) (.pu (toD p)) (.pu (toD (s : Int))) x4 []
    rw [List.append_nil, List.append_nil] at e
    refine ⟨[.pu (encC c), .ow (.list ((goT f (stepT p) s).map toD)), .pu (toD p), .pu (toD (s : Int)), y4, .pu (.int (stepT p).1), .pu (.int (stepT p).2)], ?_, _, _, _, _, _, _, ?_, rfl⟩
    · unfold bodyM
      rw [asg_pair (p, (s : Int)) (by simp) (by simp), lift_sm, bnd_ret, eTs_cons, eT_asgt]
      simp only [eE_call, eEs_cons, eEs_nil, eE_v, slGet, List.set_cons_succ, List.set_cons_zero, List.getElem?_cons_zero, List.getElem?_cons_succ, lift_sm, bnd_ret, r_step (k := k) hp]
      rw [asg_pair (stepT p) (by simp) (by simp), lift_sm, bnd_ret, bnd_ret, thenM_nx, eTs_cons, eT_for]
      simp only [eS_rg1, eE_v, slGet, List.set_cons_succ, List.set_cons_zero, List.getElem?_cons_zero, List.getElem?_cons_succ, lift_sm, bnd_ret]
      rw [td_i, rng_n (by simp only at h100; omega), lift_sm, bnd_ret]
      simp only [td_i] at e ⊢
      rw [e, bnd_ret, thenM_nx, eTs_nil]
    · rw [ht, List.foldl_append, ← hf]
      rfl
theorem l_pass {c : Course} (h : OkL c) : R dr (k + 3) 38 [encC c] = ret (.list ((passT c).map toD)) := by
  refine fret (F := d38.f) (ρ := [.pu (encC c), .no, .no, .no, .no, .no, .no, .no]) rfl rfl rfl ?_
  show evTs _ b38 _ = _
  have L := loop_idx (f := bodyM (R dr (k + 2)) (.tp [.nm 2, .nm 3]) [.asg false (.tp [.nm 5, .nm 6]) (.o2 .ix (.cp [7] (.nm 7) (.ex (.call 36 [])) (some (.o2 .eq (.o2 .ix (.v 7) (.c (.int 0))) (.v 2))) (.sl (.v 7) (some (.c (.int 1))) none)) (.c (.int 0))), .for (.nm 4) (.rg1 (.v 3)) bStep]) (l := c) (enc := toD) (m := 0)
    (I := fun m ρ => ∃ f x2 x3 x4 x5 x6, f = (c.take m).foldl (fun f q => goT f (stepT q.1) q.2.toNat) [(0, 0)] ∧ ρ = [.pu (encC c), .ow (.list (f.map toD)), x2, x3, x4, x5, x6, .no]) ?_ (ρ := [.pu (encC c), .ow (.list [toD ((0, 0) : Spot)]), .no, .no, .no, .no, .no, .no]) ⟨[(0, 0)], _, _, _, _, _, rfl, rfl⟩
  · obtain ⟨ρ', e, f, x2, x3, x4, x5, x6, hf, rfl⟩ := L
    rw [Nat.zero_add, List.take_of_length_le (Nat.le_refl _), show c.foldl (fun f q => goT f (stepT q.1) q.2.toNat) [(0, 0)] = passT c from rfl] at hf
    rw [b38, eTs_cons, eT_asg]
    simp only [eE_lst, eE_tup, eEs_cons, eEs_nil, eE_c, bnd_ret, stor_tl]
    rw [out_set (by simp), bnd_ret, thenM_nx, eTs_cons, eT_for]
    simp only [eS_ex, eE_v, slGet, List.set_cons_succ, List.set_cons_zero, List.getElem?_cons_zero, lift_sm, bnd_ret, encC, it_t]
    rw [encC] at e
    have e' : loopM (bodyM (R dr (k + 2)) (.tp [.nm 2, .nm 3]) [.asg false (.tp [.nm 5, .nm 6]) (.o2 .ix (.cp [7] (.nm 7) (.ex (.call 36 [])) (some (.o2 .eq (.o2 .ix (.v 7) (.c (.int 0))) (.v 2))) (.sl (.v 7) (some (.c (.int 1))) none)) (.c (.int 0))), .for (.nm 4) (.rg1 (.v 3)) bStep]) (c.map toD) [.pu (.tuple (c.map toD)), .ow (.list [.tuple [.int 0, .int 0]]), .no, .no, .no, .no, .no, .no] = _ := e
    rw [bStep] at e'
    rw [e', bnd_ret, thenM_nx]
    simp [eTs_cons, eT_fz, freeze, eT_ret, slGet, hf]
  · rintro i hi ρ ⟨f, x2, x3, x4, x5, x6, hf, rfl⟩
    rw [Nat.zero_add] at hf ⊢
    have hq : c[i] ∈ c := List.getElem_mem hi
    obtain ⟨hp, hs⟩ := h.ok _ hq
    have h100 := h.st _ hq
    have hln := h.ln
    have ht : c.take (i + 1) = c.take i ++ [c[i]] := by rw [List.take_succ, List.getElem?_eq_getElem hi]; rfl
    have hfo := passT_facts (c.take i) [(0, 0)] (by simp) (fun q hq => h.ok q (List.mem_of_mem_take hq)) fun q hq => h.st q (List.mem_of_mem_take hq)
    rw [← hf] at hfo
    obtain ⟨hne, _, hfl⟩ := hfo
    rw [List.length_take] at hfl
    simp only [List.length_cons, List.length_nil] at hfl
    generalize hc : c[i] = q at hq hp hs h100 ht
    obtain ⟨p, s⟩ := q
    obtain ⟨s, rfl⟩ : ∃ m : Nat, s = (m : Int) := ⟨s.toNat, by simp only at hs; omega⟩
    obtain ⟨y4, e⟩ := steps_ok (R dr (k + 2)) (d0 := encC c) hne (d := stepT p) s (by simp only at h100; omega) (.pu (toD p)) (.pu (toD (s : Int))) x4 [.no]
    simp only [List.cons_append, List.nil_append] at e
    refine ⟨[.pu (encC c), .ow (.list ((goT f (stepT p) s).map toD)), .pu (toD p), .pu (toD (s : Int)), y4, .pu (.int (stepT p).1), .pu (.int (stepT p).2), .no], ?_, _, _, _, _, _, _, ?_, rfl⟩
    · unfold bodyM
      rw [asg_pair (p, (s : Int)) (by simp) (by simp), lift_sm, bnd_ret, eTs_cons, eT_asgt]
      simp only [List.set_cons_succ, List.set_cons_zero]
      have hcp : evE (R dr (k + 2)) (.cp [7] (.nm 7) (.ex (.call 36 [])) (some (.o2 .eq (.o2 .ix (.v 7) (.c (.int 0))) (.v 2))) (.sl (.v 7) (some (.c (.int 1))) none)) [.pu (encC c), .ow (.list (f.map toD)), .pu (toD p), .pu (toD (s : Int)), x4, x5, x6, .no] = ret (.list [toD (stepT p)]) := by
        have e2 : ((lawPts.filter fun q => decide (q.1 = p)).map fun q => toD q.2) = [toD (stepT p)] := by
          have : ∀ p ∈ ptsL, (lawPts.filter fun q => decide (q.1 = p)).map (fun q => q.2) = [stepT p] := by decide +kernel
          have h3 := congrArg (List.map toD) (this p hp)
          rw [List.map_map] at h3
          exact h3
        rw [← e2]
        refine cp_pure (l := lawPts) (enc := encQ) ?_ (by decide) fun q hq => ⟨_, asg_w (by simp), ?_, fun _ => ?_⟩
        · simp only [eS_ex, eE_call, eEs_nil, bnd_ret, l_pts (k := k + 1), it_l, lift_sm]
        · have e3 : u2 .ix (encQ q) (.int 0) = some (toD q.1) := rfl
          simp only [eQ_some, eE_o2, eE_v, eE_c, slGet, List.set_cons_succ, List.set_cons_zero, List.getElem?_cons_zero, List.getElem?_cons_succ, lift_sm, bnd_ret, e3, u_eqT (α := Str) (by decide), boolM_b]
        · simp only [eE_sl, eE_v, eE_c, slGet, List.set_cons_succ, List.set_cons_zero, List.getElem?_cons_zero, List.getElem?_cons_succ, lift_sm, bnd_ret, eO_some, eO_none, intO, Option.bind_some]
          rfl
      rw [eE_o2, hcp]
      simp only [eE_c, bnd_ret, u_hd, lift_sm]
      rw [asg_pair (stepT p) (by simp) (by simp), lift_sm, bnd_ret, bnd_ret, thenM_nx, eTs_cons, eT_for]
      simp only [eS_rg1, eE_v, slGet, List.set_cons_succ, List.set_cons_zero, List.getElem?_cons_zero, List.getElem?_cons_succ, lift_sm, bnd_ret]
      rw [td_i, rng_n (by simp only at h100; omega), lift_sm, bnd_ret]
      simp only [td_i] at e ⊢
      rw [e, bnd_ret, thenM_nx, eTs_nil]
    · rw [ht, List.foldl_append, ← hf]
      rfl
end
end K29P
end RW.PL
/-! k29, plain: courses (3): ends. -/
namespace RW.PL
open PySem PySem.W RW.K29
theorem asg_of {ρ ρ' : Sls} {t : Tg} {d : PyData} (h : asgT t d ρ = some ρ') : asgT t d ρ = some ρ' := h
namespace K29P
def cntT (l : List Spot) (x : Spot) : Nat := l.countP fun y => decide (y = x)
theorem countIn_c (l : List Spot) (x : Spot) : countIn (l.map toD) (toD x) = some (.int (cntT l x)) := by
  have h : ((l.map toD).countP fun y => PyData.eqv y (toD x)) = cntT l x := by
    unfold cntT
    induction l with
    | nil => rfl
    | cons a l ih => rw [List.map_cons, List.countP_cons, ih, Datum.eqv, List.countP_cons]
  unfold countIn
  rw [okD_t (by decide), okDs_t (by decide), h]
  rfl
theorem legT_le (at_ : Spot) {q : Str × Int} (hp : q.1 ∈ ptsL) (h0 : 0 ≤ q.2) : (legT at_ q).1.natAbs ≤ at_.1.natAbs + q.2.toNat ∧ (legT at_ q).2.natAbs ≤ at_.2.natAbs + q.2.toNat := by
  obtain ⟨_, _, h1, h2, _⟩ := pts_facts q.1 hp
  unfold legT
  have e1 : (stepT q.1).1 = 0 ∨ (stepT q.1).1 = 1 ∨ (stepT q.1).1 = -1 := by omega
  have e2 : (stepT q.1).2 = 0 ∨ (stepT q.1).2 = 1 ∨ (stepT q.1).2 = -1 := by omega
  constructor
  · rcases e1 with e | e | e <;> rw [e] <;> simp only [] <;> omega
  · rcases e2 with e | e | e <;> rw [e] <;> simp only [] <;> omega
theorem end_le : ∀ (c : Course) (at_ : Spot), OkC c → (∀ q ∈ c, q.2 ≤ 100) → (c.foldl legT at_).1.natAbs ≤ at_.1.natAbs + 100 * c.length ∧ (c.foldl legT at_).2.natAbs ≤ at_.2.natAbs + 100 * c.length
  | [], at_, _, _ => ⟨by simp, by simp⟩
  | q :: c, at_, h, hb => by
    obtain ⟨h1, h2⟩ := h q List.mem_cons_self
    have h3 := hb q List.mem_cons_self
    obtain ⟨l1, l2⟩ := legT_le at_ h1 h2
    obtain ⟨r1, r2⟩ := end_le c (legT at_ q) (fun r hr => h r (List.mem_cons_of_mem _ hr)) fun r hr => hb r (List.mem_cons_of_mem _ hr)
    rw [List.foldl_cons, List.length_cons]
    omega
theorem OkL.turn {c : Course} (h : OkL c) (m : Int) : OkL (turnT c m) := ⟨h.ok.turn m, fun q hq => by obtain ⟨r, hr, rfl⟩ := List.mem_map.mp hq; exact h.st r hr, by unfold turnT; rw [List.length_map]; exact h.ln⟩
/-- the ends if all are wrong alike -/
def endsT (c : Course) (w : Int) : List Spot := sortT (dedT ((irng (-w) (w + 1)).map fun m => endT (turnT c m)))
def eachS (w : Int) (found : List Spot) (q : Str × Int) : List Spot := sortT (dedT (found.flatMap fun f => (irng (-w) (w + 1)).map fun m => legT f (onT q.1 m, q.2)))
def eachT (c : Course) (w : Int) : List Spot := c.foldl (eachS w) [(0, 0)]
def rowS (w : Int) (rows : List Course) (q : Str × Int) : List Course := rows.flatMap fun row => (irng (-w) (w + 1)).map fun m => row ++ [(onT q.1 m, q.2)]
def rowsT (c : Course) (w : Int) : List Course := c.foldl (rowS w) [[]]
theorem each_mem (w : Int) : ∀ (c : Course) (found : List Spot) (rows : List Course), (∀ x, x ∈ found ↔ x ∈ rows.map endT) → ∀ x, x ∈ c.foldl (eachS w) found ↔ x ∈ (c.foldl (rowS w) rows).map endT
  | [], found, rows, h, x => h x
  | q :: c, found, rows, h, x => by
    rw [List.foldl_cons, List.foldl_cons]
    refine each_mem w c _ _ (fun y => ?_) x
    unfold eachS rowS
    rw [mem_sortT, mem_dedT, List.mem_flatMap, List.map_flatMap, List.mem_flatMap]
    constructor
    · rintro ⟨f, hf, hy⟩
      obtain ⟨row, hr, rfl⟩ := List.mem_map.mp ((h f).mp hf)
      refine ⟨row, hr, ?_⟩
      obtain ⟨m, hm, rfl⟩ := List.mem_map.mp hy
      rw [List.map_map]
      exact List.mem_map.mpr ⟨m, hm, by simp [endT, List.foldl_append]⟩
    · rintro ⟨row, hr, hy⟩
      rw [List.map_map] at hy
      obtain ⟨m, hm, rfl⟩ := List.mem_map.mp hy
      exact ⟨endT row, (h _).mpr (List.mem_map_of_mem hr), List.mem_map.mpr ⟨m, hm, by simp [endT, List.foldl_append]⟩⟩
theorem each_eq (c : Course) (w : Int) : eachT c w = sortT (dedT ((rowsT c w).map endT)) := by
  have hm := each_mem w c [(0, 0)] [[]] (fun x => by simp [endT])
  rcases List.eq_nil_or_concat c with rfl | ⟨pre, q, rfl⟩
  · have e : sortT (dedT [((0, 0) : Spot)]) = [(0, 0)] := sortT_eq (by decide)
    exact e.symm
  · have e : eachT (pre ++ [q]) w = eachS w (eachT pre w) q := by simp [eachT, List.foldl_append]
    rw [List.concat_eq_append] at hm ⊢
    rw [e, eachS]
    refine sortT_of_perm (dedT_perm fun x => ?_)
    have h1 := hm x
    rw [show (pre ++ [q]).foldl (eachS w) [(0, 0)] = eachT (pre ++ [q]) w from rfl, e, eachS, mem_sortT, mem_dedT] at h1
    exact h1
theorem sortT_len {α : Type} [DecidableEq α] [DatumOrd α] (l : List α) : (sortT l).length = l.length := (sortT_perm l).length_eq
theorem eachS_len (w : Int) (found : List Spot) (q : Str × Int) : (eachS w found q).length ≤ found.length * (2 * w + 1).toNat := by
  unfold eachS
  rw [sortT_len]
  refine Nat.le_trans (length_dedT _) ?_
  rw [List.length_flatMap]
  have : ∀ l : List Spot, (l.map fun f => ((irng (-w) (w + 1)).map fun m => legT f (onT q.1 m, q.2)).length).sum = l.length * (2 * w + 1).toNat := by
    intro l
    induction l with
    | nil => simp
    | cons a l ih =>
      rw [List.map_cons, List.sum_cons, ih, List.length_cons, List.length_map, length_ints, Nat.add_mul, Nat.one_mul, show (w + 1 - -w).toNat = (2 * w + 1).toNat by congr 1; omega, Nat.add_comm]
  rw [this]
  exact Nat.le_refl _
section
variable {dr : List Int} {k : Nat}
theorem neg_rng {w : Int} (h0 : 0 ≤ w) (h : w ≤ 100) : rangeD (.int (-w)) (.int (w + 1)) = some ((irng (-w) (w + 1)).map toD) := rng_t (by omega) (by omega) (by omega) (by omega)
theorem r_ends {c : Course} (h : OkL c) {w : Int} (h0 : 0 ≤ w) (h4 : w ≤ 4) : R dr (k + 4) 22 [encC c, .int w] = ret (.tuple ((endsT c w).map toD)) := by
  refine fret (F := d22.f) (ρ := [.pu (encC c), .pu (.int w), .no]) rfl rfl rfl ?_
  show evTs _ b22 _ = _
  have hl : (irng (-w) (w + 1)).length ≤ 9 := by rw [length_ints]; omega
  have e := cp_map (C := R dr (k + 3)) (ρ := [.pu (encC c), .pu (.int w), .no]) (l := irng (-w) (w + 1)) (enc := toD) (g := fun m => toD (endT (turnT c m))) (own := [2]) (t := .nm 2) (s := .rg2 (.o1 .neg (.v 1)) (.o2 .add (.v 1) (.c (.int 1)))) (e := .call 17 [.call 18 [.v 0, .v 2]])
    (by simp only [eS_rg2, eE_o1, eE_o2, eE_v, eE_c, slGet, List.getElem?_cons_zero, List.getElem?_cons_succ, lift_sm, bnd_ret, u_neg, u_add, neg_rng h0 (by omega)]) (by rw [sz_eq]; omega) fun m hm => by
      refine ⟨[.pu (encC c), .pu (.int w), .pu (toD m)], rfl, ?_⟩
      simp only [eE_call, eEs_cons, eEs_nil, eE_v, slGet, List.getElem?_cons_zero, List.getElem?_cons_succ, lift_sm, bnd_ret, td_i, r_turn (k := k) h.ok (by have := h.ln; omega) m, r_end (k := k) (h.ok.turn m)]
  have e2 := srtSet_t ((irng (-w) (w + 1)).map fun m => endT (turnT c m)) (by rw [List.length_map]; omega)
  rw [List.map_map] at e2
  rw [b22, eTs_cons, eT_ret, eE_o1, eE_o1, e, bnd_ret, u_sset]
  rw [show (fun m => toD (endT (turnT c m))) = toD ∘ fun m => endT (turnT c m) from rfl, e2, lift_sm, bnd_ret, u_tupl, lift_sm, bnd_ret, bnd_ret, thenM_rt]
  rfl
theorem r_each {c : Course} (h : OkC c) (hl : c.length ≤ 4) {w : Int} (h0 : 0 ≤ w) (h2 : w ≤ 2) : R dr (k + 4) 23 [encC c, .int w] = ret (.tuple ((eachT c w).map toD)) := by
  refine fret (F := d23.f) (ρ := [.pu (encC c), .pu (.int w), .no, .no, .no, .no, .no, .no, .no, .no, .no]) rfl rfl rfl ?_
  show evTs _ b23 _ = _
  have L := loop_idx (f := bodyM (R dr (k + 3)) (.tp [.nm 3, .nm 4]) [.asg false (.nm 5) (.cp [6] (.nm 6) (.rg2 (.o1 .neg (.v 1)) (.o2 .add (.v 1) (.c (.int 1)))) none (.call 15 [.call 16 [.v 3, .v 6]])), .asg false (.nm 2) (.o1 .sortedset (.cp2 [7, 8, 9, 10] [9, 10] (.tp [.nm 7, .nm 8]) (.ex (.v 2)) none (.tp [.nm 9, .nm 10]) (.ex (.v 5)) none (.tup [.o2 .add (.v 7) (.o2 .mul (.v 9) (.v 4)), .o2 .add (.v 8) (.o2 .mul (.v 10) (.v 4))])))])
    (l := c) (enc := toD) (m := 0)
    (I := fun m ρ => ∃ f x3 x4 x5, f = (c.take m).foldl (eachS w) [(0, 0)] ∧ f.length ≤ 5 ^ m ∧ ρ = [.pu (encC c), .pu (.int w), .pu (.list (f.map toD)), x3, x4, x5, .no, .no, .no, .no, .no]) ?_
    (ρ := [.pu (encC c), .pu (.int w), .pu (.list [toD ((0, 0) : Spot)]), .no, .no, .no, .no, .no, .no, .no, .no]) ⟨[(0, 0)], _, _, _, rfl, by simp, rfl⟩
  · obtain ⟨ρ', e, f, x3, x4, x5, hf, _, rfl⟩ := L
    rw [Nat.zero_add, List.take_of_length_le (Nat.le_refl _), show c.foldl (eachS w) [(0, 0)] = eachT c w from rfl] at hf
    rw [b23, eTs_cons, eT_asg]
    simp only [eE_lst, eE_tup, eEs_cons, eEs_nil, eE_c, bnd_ret, stor_f]
    rw [out_set (by simp), bnd_ret, thenM_nx, eTs_cons, eT_for]
    simp only [eS_ex, eE_v, slGet, List.set_cons_succ, List.set_cons_zero, List.getElem?_cons_zero, lift_sm, bnd_ret, encC, it_t]
    rw [encC] at e
    have e' : loopM (bodyM (R dr (k + 3)) (.tp [.nm 3, .nm 4]) [.asg false (.nm 5) (.cp [6] (.nm 6) (.rg2 (.o1 .neg (.v 1)) (.o2 .add (.v 1) (.c (.int 1)))) none (.call 15 [.call 16 [.v 3, .v 6]])), .asg false (.nm 2) (.o1 .sortedset (.cp2 [7, 8, 9, 10] [9, 10] (.tp [.nm 7, .nm 8]) (.ex (.v 2)) none (.tp [.nm 9, .nm 10]) (.ex (.v 5)) none (.tup [.o2 .add (.v 7) (.o2 .mul (.v 9) (.v 4)), .o2 .add (.v 8) (.o2 .mul (.v 10) (.v 4))])))]) (c.map toD) [.pu (.tuple (c.map toD)), .pu (.int w), .pu (.list [.tuple [.int 0, .int 0]]), .no, .no, .no, .no, .no, .no, .no, .no] = _ := e
    rw [e', bnd_ret, thenM_nx, eTs_cons, eT_ret]
    simp only [eE_o1, eE_v, slGet, List.getElem?_cons_zero, List.getElem?_cons_succ, lift_sm, bnd_ret, u_tupl, thenM_rt, hf]
  · rintro i hi ρ ⟨f, x3, x4, x5, hf, hfl, rfl⟩
    rw [Nat.zero_add] at hf hfl ⊢
    have hq : c[i] ∈ c := List.getElem_mem hi
    obtain ⟨hp, hs⟩ := h _ hq
    have ht : c.take (i + 1) = c.take i ++ [c[i]] := by rw [List.take_succ, List.getElem?_eq_getElem hi]; rfl
    generalize hc : c[i] = q at hq hp hs ht
    obtain ⟨p, s⟩ := q
    have h125 : f.length ≤ 125 := Nat.le_trans hfl (Nat.le_trans (Nat.pow_le_pow_right (by omega) (show i ≤ 3 by omega)) (by decide))
    have hir : (irng (-w) (w + 1)).length ≤ 5 := by rw [length_ints]; omega
    have hes := eachS_len w f (p, s)
    have hes5 : (eachS w f (p, s)).length ≤ f.length * 5 := Nat.le_trans hes (Nat.mul_le_mul_left _ (by omega))
    refine ⟨[.pu (encC c), .pu (.int w), .pu (.list ((eachS w f (p, s)).map toD)), .pu (toD p), .pu (toD s), .pu (.list (((irng (-w) (w + 1)).map fun m => stepT (onT p m)).map toD)), .no, .no, .no, .no, .no], ?_, _, _, _, _, ?_, ?_, rfl⟩
    · unfold bodyM
      rw [asg_pair (p, s) (by simp) (by simp), lift_sm, bnd_ret]
      simp only [List.set_cons_succ, List.set_cons_zero]
      have e1 := cp_map (C := R dr (k + 3)) (ρ := [.pu (encC c), .pu (.int w), .pu (.list (f.map toD)), .pu (toD p), .pu (toD s), x5, .no, .no, .no, .no, .no]) (l := irng (-w) (w + 1)) (enc := toD) (g := fun m => toD (stepT (onT p m))) (own := [6]) (t := .nm 6) (s := .rg2 (.o1 .neg (.v 1)) (.o2 .add (.v 1) (.c (.int 1)))) (e := .call 15 [.call 16 [.v 3, .v 6]])
        (by simp only [eS_rg2, eE_o1, eE_o2, eE_v, eE_c, slGet, List.getElem?_cons_zero, List.getElem?_cons_succ, lift_sm, bnd_ret, u_neg, u_add, neg_rng h0 (by omega)]) (by rw [sz_eq]; omega) fun m hm => by
          refine ⟨[.pu (encC c), .pu (.int w), .pu (.list (f.map toD)), .pu (toD p), .pu (toD s), x5, .pu (.int m), .no, .no, .no, .no], rfl, ?_⟩
          simp only [eE_call, eEs_cons, eEs_nil, eE_v, slGet, List.getElem?_cons_zero, List.getElem?_cons_succ, lift_sm, bnd_ret, r_on (k := k + 1) hp m, r_step (k := k + 1) (onT_mem p m)]
      rw [eTs_cons, eT_asg, e1, bnd_ret, out_set (by simp), bnd_ret, thenM_nx, eTs_cons, eT_asg, eE_o1]
      simp only [List.set_cons_succ, List.set_cons_zero, stor_f]
      have e2 := cp2_pure (C := R dr (k + 3)) (ρ := [.pu (encC c), .pu (.int w), .pu (.list (f.map toD)), .pu (toD p), .pu (toD s), .pu (.list ((irng (-w) (w + 1)).map fun m => toD (stepT (onT p m)))), .no, .no, .no, .no, .no])
        (l := f) (enc := toD) (p := fun _ => true) (l2 := fun _ => irng (-w) (w + 1)) (enc2 := fun _ m => toD (stepT (onT p m))) (p2 := fun _ _ => true) (g := fun x m => toD (legT x (onT p m, s))) (own := [7, 8, 9, 10]) (own2 := [9, 10]) (t := .tp [.nm 7, .nm 8]) (s := .ex (.v 2)) (q := none) (t2 := .tp [.nm 9, .nm 10]) (s2 := .ex (.v 5)) (q2 := none) (e := .tup [.o2 .add (.v 7) (.o2 .mul (.v 9) (.v 4)), .o2 .add (.v 8) (.o2 .mul (.v 10) (.v 4))])
        (by simp only [eS_ex, eE_v, slGet, List.getElem?_cons_zero, List.getElem?_cons_succ, lift_sm, bnd_ret, it_l])
        (by
          have : ∀ l : List Spot, (l.flatMap fun _ => irng (-w) (w + 1)).length ≤ l.length * 5 := by
            intro l
            induction l with
            | nil => simp
            | cons a l ih => rw [List.flatMap_cons, List.length_append, List.length_cons]; omega
          have := this f
          rw [sz_eq]; omega)
        fun x hx => ⟨[.pu (encC c), .pu (.int w), .pu (.list (f.map toD)), .pu (toD p), .pu (toD s), .pu (.list ((irng (-w) (w + 1)).map fun m => toD (stepT (onT p m)))), .no, .pu (toD x.1), .pu (toD x.2), .no, .no], rfl, eQ_none, fun _ => ⟨by simp only [eS_ex, eE_v, slGet, List.getElem?_cons_zero, List.getElem?_cons_succ, lift_sm, bnd_ret, it_l],
          fun m hm => ⟨[.pu (encC c), .pu (.int w), .pu (.list (f.map toD)), .pu (toD p), .pu (toD s), .pu (.list ((irng (-w) (w + 1)).map fun m => toD (stepT (onT p m)))), .no, .pu (toD x.1), .pu (toD x.2), .pu (toD (stepT (onT p m)).1), .pu (toD (stepT (onT p m)).2)], rfl, eQ_none, fun _ => by
            obtain ⟨m1, m2⟩ := sm_step (onT_mem p m)
            simp only [eE_tup, eEs_cons, eEs_nil, eE_o2, eE_v, slGet, List.getElem?_cons_zero, List.getElem?_cons_succ, lift_sm, bnd_ret, td_i, u_mul (b := s) (.inl m1), u_mul (b := s) (.inl m2), u_add]
            rfl⟩⟩⟩
      have e3 : ((f.filter fun _ => true).flatMap fun a => ((irng (-w) (w + 1)).filter fun _ => true).map fun m => toD (legT a (onT p m, s))) = (f.flatMap fun x => (irng (-w) (w + 1)).map fun m => legT x (onT p m, s)).map toD := by
        simp [List.map_flatMap, List.map_map, Function.comp_def]
      rw [e2, bnd_ret, u_sset]
      have e4 := srtSet_t (f.flatMap fun x => (irng (-w) (w + 1)).map fun m => legT x (onT p m, s)) (by
        have : ∀ l : List Spot, (l.flatMap fun x => (irng (-w) (w + 1)).map fun m => legT x (onT p m, s)).length ≤ l.length * 5 := by
          intro l
          induction l with
          | nil => simp
          | cons a l ih => rw [List.flatMap_cons, List.length_append, List.length_cons, List.length_map]; omega
        have := this f
        omega)
      rw [← e3] at e4
      rw [e4, lift_sm, bnd_ret, out_set (by simp), bnd_ret, thenM_nx, eTs_nil, List.map_map]
      rfl
    · rw [ht, List.foldl_append, ← hf]
      rfl
    · rw [Nat.pow_succ]
      exact Nat.le_trans hes5 (Nat.mul_le_mul_right 5 hfl)
/-- by how much all were wrong -/
def whichT (c : Course) (g : Spot) : List Int := (irng (-4) 4).filter fun m => decide (endT (turnT c m) = g)
theorem r_which {c : Course} (h : OkL c) (g : Spot) : R dr (k + 4) 24 [encC c, toD g] = ret (.tuple ((whichT c g).map toD)) := by
  refine fret (F := d24.f) (ρ := [.pu (encC c), .pu (toD g), .no]) rfl rfl rfl ?_
  show evTs _ b24 _ = _
  have e := cp_pure (C := R dr (k + 3)) (ρ := [.pu (encC c), .pu (toD g), .no]) (l := irng (-4) 4) (enc := toD) (p := fun m => decide (endT (turnT c m) = g)) (g := toD) (own := [2]) (t := .nm 2) (s := .rg2 (.o1 .neg (.c (.int 4))) (.c (.int 4))) (q := some (.o2 .eq (.call 17 [.call 18 [.v 0, .v 2]]) (.v 1))) (e := .v 2)
    (by simp only [eS_rg2, eE_o1, eE_c, bnd_ret, u_neg, lift_sm, rng_t (a := -4) (b := 4) (by omega) (by omega) (by omega) (by omega)]) (by rw [length_ints, sz_eq]; decide) fun m hm => by
      refine ⟨[.pu (encC c), .pu (toD g), .pu (toD m)], rfl, ?_, fun _ => by simp only [eE_v, slGet, List.getElem?_cons_zero, List.getElem?_cons_succ, lift_sm]⟩
      simp only [eQ_some, eE_call, eEs_cons, eEs_nil, eE_o2, eE_v, slGet, List.getElem?_cons_zero, List.getElem?_cons_succ, lift_sm, bnd_ret, td_i, r_turn (k := k) h.ok (by have := h.ln; omega) m, r_end (k := k) (h.ok.turn m), u_eqT (α := Spot) (by decide), boolM_b]
  rw [b24, eTs_cons, eT_ret, eE_o1, e, bnd_ret, u_tupl, lift_sm, bnd_ret, bnd_ret, thenM_rt]
  rfl
/-- spots passed twice -/
def crossT (c : Course) : List Spot := sortT (dedT ((passT c).filter fun s => decide (1 < (cntT (passT c) s : Int))))
theorem r_cross {c : Course} (h : OkL c) (hl : (passT c).length ≤ 1200) : R dr (k + 4) 28 [encC c] = ret (.tuple ((crossT c).map toD)) := by
  refine fret (F := d28.f) (ρ := [.pu (encC c), .no, .no]) rfl rfl rfl ?_
  show evTs _ b28 _ = _
  have e := cp_pure (C := R dr (k + 3)) (ρ := [.pu (encC c), .pu (.tuple ((passT c).map toD)), .no]) (l := passT c) (enc := toD) (p := fun s => decide (1 < (cntT (passT c) s : Int))) (g := toD) (own := [2]) (t := .nm 2) (s := .ex (.v 1)) (q := some (.o2 .gt (.o2 .tcount (.v 1) (.v 2)) (.c (.int 1)))) (e := .v 2)
    (by simp only [eS_ex, eE_v, slGet, List.getElem?_cons_zero, List.getElem?_cons_succ, lift_sm, bnd_ret, it_t]) (by rw [sz_eq]; omega) fun s hs => by
      refine ⟨[.pu (encC c), .pu (.tuple ((passT c).map toD)), .pu (toD s)], rfl, ?_, fun _ => by simp only [eE_v, slGet, List.getElem?_cons_zero, List.getElem?_cons_succ, lift_sm]⟩
      have ec : u2 .tcount (.tuple ((passT c).map toD)) (toD s) = some (.int (cntT (passT c) s)) := countIn_c _ _
      simp only [eQ_some, eE_o2, eE_v, eE_c, slGet, List.getElem?_cons_zero, List.getElem?_cons_succ, lift_sm, bnd_ret, ec, u_gt, boolM_b]
  have e2 := srtSet_t ((passT c).filter fun s => decide (1 < (cntT (passT c) s : Int))) (Nat.le_trans (List.length_filter_le _ _) hl)
  rw [b28, eTs_cons, eT_asg]
  simp only [eE_call, eEs_cons, eEs_nil, eE_v, slGet, List.getElem?_cons_zero, lift_sm, bnd_ret, r_pass (k := k) h, stor_f]
  rw [out_set (by simp), bnd_ret, thenM_nx]
  simp only [List.set_cons_succ, List.set_cons_zero]
  rw [eTs_cons, eT_ret, eE_o1, eE_o1, e, bnd_ret, u_sset, e2, lift_sm, bnd_ret, u_tupl, lift_sm, bnd_ret, bnd_ret, thenM_rt]
  rfl
end
end K29P
end RW.PL
/-! k29, plain: courses (4): one leg wrong; the straight course. -/
namespace RW.PL
open PySem PySem.W RW.K29
namespace K29P
def nthC (c : Course) (i : Nat) : Str × Int := c.getD i ("n", 0)
def swapC (c : Course) (i : Nat) (o : Str) : Course := c.take i ++ [(o, (nthC c i).2)] ++ c.drop (i + 1)
def legsAt (c : Course) (g : Spot) (i : Nat) : List (Int × Str) := (ptsL.filter fun o => !decide (o = (nthC c i).1) && decide (endT (swapC c i o) = g)).map fun o => ((i : Int), o)
def legsT (c : Course) (g : Spot) : List (Int × Str) := (List.range c.length).flatMap (legsAt c g)
theorem nthC_mem {c : Course} {i : Nat} (h : i < c.length) : nthC c i ∈ c ∧ c[i]? = some (nthC c i) := by
  have e : nthC c i = c[i] := by rw [nthC, List.getD_eq_getElem?_getD, List.getElem?_eq_getElem h]; rfl
  exact ⟨e ▸ List.getElem_mem h, by rw [e, List.getElem?_eq_getElem h]⟩
theorem swapC_ok {c : Course} (h : OkC c) {i : Nat} (hi : i < c.length) {o : Str} (ho : o ∈ ptsL) : OkC (swapC c i o) := by
  intro q hq
  unfold swapC at hq
  simp only [List.mem_append, List.mem_singleton] at hq
  rcases hq with (hq | rfl) | hq
  · exact h q (List.mem_of_mem_take hq)
  · exact ⟨ho, (h _ (nthC_mem hi).1).2⟩
  · exact h q (List.mem_of_mem_drop hq)
theorem swapC_len {c : Course} {i : Nat} (hi : i < c.length) (o : Str) : (swapC c i o).length = c.length := by
  unfold swapC
  simp only [List.length_append, List.length_take, List.length_drop, List.length_cons, List.length_nil]
  omega
theorem legsAt_len (c : Course) (g : Spot) (i : Nat) : (legsAt c g i).length ≤ 8 := by
  unfold legsAt
  rw [List.length_map]
  exact List.length_filter_le _ _
theorem legs_len (c : Course) (g : Spot) : ∀ m : Nat, ((List.range m).flatMap (legsAt c g)).length ≤ 8 * m
  | 0 => by simp
  | m + 1 => by
    rw [flat_succ, List.length_append]
    have := legs_len c g m
    have := legsAt_len c g m
    omega
section
variable {dr : List Int} {k : Nat}
/-- the course with one leg told by another point -/
theorem e_swap {C : Orc} {ρ : Sls} {c : Course} (hl : c.length ≤ 1000) {i : Nat} (hi : i < c.length) {o : Str} {A B D : Ex} (hA : evE C A ρ = ret (encC c)) (hB : evE C B ρ = ret (.int (i : Int))) (hD : evE C D ρ = ret (toD (o, (nthC c i).2))) :
    evE C (.o2 .add (.o2 .add (.sl A none (some B)) (.tup [D])) (.sl A (some (.o2 .add B (.c (.int 1)))) none)) ρ = ret (encC (swapC c i o)) := by
  have e1 : cutL (c.map toD) none (some (i : Int)) = (c.take i).map toD := by rw [cut_to, List.map_take]
  have e2 : cutL (c.map toD) (some ((i : Int) + 1)) none = (c.drop (i + 1)).map toD := by rw [show (i : Int) + 1 = ((i + 1 : Nat) : Int) by omega, cut_from, List.map_drop]
  simp only [eE_o2, eE_sl, hA, hB, bnd_ret, eO_none, eO_some, eE_c, u_add, lift_sm, intO, Option.bind_some, encC, sliceD, e1, e2, eE_tup, eEs_cons, eEs_nil, hD]
  rw [u_addt (by rw [sz_eq, List.length_map, List.length_take]; simp only [List.length_cons, List.length_nil]; omega), lift_sm, bnd_ret]
  rw [u_addt (by rw [sz_eq, List.length_append, List.length_map, List.length_map, List.length_take, List.length_drop]; simp only [List.length_cons, List.length_nil]; omega), lift_sm]
  simp [swapC]
def bLeg : List Ss := [.ife (.an (.o2 .ne (.v 4) (.v 5)) (.o2 .eq (.call 17 [.o2 .add (.o2 .add (.sl (.v 0) none (some (.v 3))) (.tup [.tup [.v 4, .v 6]])) (.sl (.v 0) (some (.o2 .add (.v 3) (.c (.int 1)))) none)]) (.v 1))) [.app 2 (.tup [.v 3, .v 4])] []]
def bLegs : List Ss := [.asg false (.tp [.nm 5, .nm 6]) (.o2 .ix (.v 0) (.v 3)), .for (.nm 4) (.ex (.g 42)) bLeg]
theorem b25_eq : b25 = [.asg true (.nm 2) (.lst []), .for (.nm 3) (.rg1 (.o1 .len (.v 0))) bLegs, .ret (.o1 .tup (.b 2))] := rfl
theorem leg_in {c : Course} (h : OkC c) (hl : c.length ≤ 1000) (g : Spot) {i : Nat} (hi : i < c.length) (base : List (Int × Str)) (hb : base.length ≤ 100000) (x4 : Sl) :
    ∃ y4, loopM (bodyM (R dr (k + 3)) (.nm 4) bLeg) (ptsL.map toD) [.pu (encC c), .pu (toD g), .ow (.list (base.map toD)), .pu (.int (i : Int)), x4, .pu (toD (nthC c i).1), .pu (toD (nthC c i).2)] =
      ret (.nx [.pu (encC c), .pu (toD g), .ow (.list ((base ++ legsAt c g i).map toD)), .pu (.int (i : Int)), y4, .pu (toD (nthC c i).1), .pu (toD (nthC c i).2)]) := by
  have L := loop_idx (f := bodyM (R dr (k + 3)) (.nm 4) bLeg) (l := ptsL) (enc := toD) (m := 0)
    (I := fun m ρ => ∃ y4, ρ = [.pu (encC c), .pu (toD g), .ow (.list ((base ++ ((ptsL.take m).filter fun o => !decide (o = (nthC c i).1) && decide (endT (swapC c i o) = g)).map fun o => ((i : Int), o)).map toD)), .pu (.int (i : Int)), y4, .pu (toD (nthC c i).1), .pu (toD (nthC c i).2)]) ?_
    (ρ := [.pu (encC c), .pu (toD g), .ow (.list (base.map toD)), .pu (.int (i : Int)), x4, .pu (toD (nthC c i).1), .pu (toD (nthC c i).2)]) ⟨x4, by simp⟩
  · obtain ⟨ρ', e, y4, rfl⟩ := L
    exact ⟨y4, e⟩
  · rintro m hm ρ ⟨y4, rfl⟩
    rw [Nat.zero_add]
    have hmem : ptsL[m] ∈ ptsL := List.getElem_mem hm
    have ht : ptsL.take (m + 1) = ptsL.take m ++ [ptsL[m]] := by rw [List.take_succ, List.getElem?_eq_getElem hm]; rfl
    have hm8 : m < 8 := hm
    have hlen : ((ptsL.take m).filter fun o => !decide (o = (nthC c i).1) && decide (endT (swapC c i o) = g)).length ≤ m := Nat.le_trans (List.length_filter_le _ _) (by rw [List.length_take]; exact Nat.min_le_left _ _)
    rw [ht, List.filter_append]
    generalize ptsL[m] = o at hmem
    have hsw := e_swap (C := R dr (k + 3)) (ρ := [.pu (encC c), .pu (toD g), .ow (.list ((base ++ ((ptsL.take m).filter fun o => !decide (o = (nthC c i).1) && decide (endT (swapC c i o) = g)).map fun o => ((i : Int), o)).map toD)), .pu (.int (i : Int)), .pu (toD o), .pu (toD (nthC c i).1), .pu (toD (nthC c i).2)]) hl hi (o := o) (A := .v 0) (B := .v 3) (D := .tup [.v 4, .v 6])
      (by simp only [eE_v, slGet, List.getElem?_cons_zero, lift_sm]) (by simp only [eE_v, slGet, List.getElem?_cons_zero, List.getElem?_cons_succ, lift_sm]) (by simp only [eE_tup, eEs_cons, eEs_nil, eE_v, slGet, List.getElem?_cons_zero, List.getElem?_cons_succ, lift_sm, bnd_ret, td_p])
    have hend := r_end (dr := dr) (k := k) (swapC_ok h hi hmem)
    unfold bodyM
    rw [asg_nm (by simp), lift_sm, bnd_ret]
    simp only [List.set_cons_succ, List.set_cons_zero]
    rw [bLeg, eTs_cons, eT_ife, eE_an, eE_o2, eE_o2, eE_call, eEs_cons, hsw]
    simp only [eEs_nil, bnd_ret, eE_v, slGet, List.getElem?_cons_zero, List.getElem?_cons_succ, lift_sm, u_neT (α := Str) (by decide), boolM_b, hend, u_eqT (α := Spot) (by decide)]
    by_cases c1 : o = (nthC c i).1
    · refine ⟨[.pu (encC c), .pu (toD g), .ow (.list ((base ++ ((ptsL.take m).filter (fun o => !decide (o = (nthC c i).1) && decide (endT (swapC c i o) = g)) ++ [o].filter fun o => !decide (o = (nthC c i).1) && decide (endT (swapC c i o) = g)).map fun o => ((i : Int), o)).map toD)), .pu (.int (i : Int)), .pu (toD o), .pu (toD (nthC c i).1), .pu (toD (nthC c i).2)], ?_, _, rfl⟩
      simp [c1]
    · by_cases c2 : endT (swapC c i o) = g
      · refine ⟨[.pu (encC c), .pu (toD g), .ow (.list ((base ++ ((ptsL.take m).filter (fun o => !decide (o = (nthC c i).1) && decide (endT (swapC c i o) = g)) ++ [o].filter fun o => !decide (o = (nthC c i).1) && decide (endT (swapC c i o) = g)).map fun o => ((i : Int), o)).map toD)), .pu (.int (i : Int)), .pu (toD o), .pu (toD (nthC c i).1), .pu (toD (nthC c i).2)], ?_, _, rfl⟩
        simp only [c1, c2, decide_false, decide_true, Bool.not_false, if_true, bnd_ret, boolM_b]
        rw [eTs_cons, eT_app]
        simp only [slOw, eE_tup, eEs_cons, eEs_nil, eE_v, slGet, List.getElem?_cons_zero, List.getElem?_cons_succ, lift_sm, bnd_ret]
        rw [app_l (by rw [List.length_map, List.length_append, List.length_map, sz_eq]; omega), lift_sm, bnd_ret, bnd_ret, thenM_nx, eTs_nil, bnd_ret, thenM_nx, eTs_nil]
        simp [c1, c2, td_p, td_i]
      · refine ⟨[.pu (encC c), .pu (toD g), .ow (.list ((base ++ ((ptsL.take m).filter (fun o => !decide (o = (nthC c i).1) && decide (endT (swapC c i o) = g)) ++ [o].filter fun o => !decide (o = (nthC c i).1) && decide (endT (swapC c i o) = g)).map fun o => ((i : Int), o)).map toD)), .pu (.int (i : Int)), .pu (toD o), .pu (toD (nthC c i).1), .pu (toD (nthC c i).2)], ?_, _, rfl⟩
        simp [c1, c2]
theorem r_leg {c : Course} (h : OkC c) (hl : c.length ≤ 1000) (g : Spot) : R dr (k + 4) 25 [encC c, toD g] = ret (.tuple ((legsT c g).map toD)) := by
  refine fret (F := d25.f) (ρ := [.pu (encC c), .pu (toD g), .no, .no, .no, .no, .no]) rfl rfl rfl ?_
  show evTs _ b25 _ = _
  have L := loop_idx (f := bodyM (R dr (k + 3)) (.nm 3) bLegs) (l := List.range c.length) (enc := fun (i : Nat) => toD (i : Int)) (m := 0)
    (I := fun m ρ => ∃ x3 x4 x5 x6, ρ = [.pu (encC c), .pu (toD g), .ow (.list (((List.range m).flatMap (legsAt c g)).map toD)), x3, x4, x5, x6]) ?_
    (ρ := [.pu (encC c), .pu (toD g), .ow (.list []), .no, .no, .no, .no]) ⟨_, _, _, _, rfl⟩
  · obtain ⟨ρ', e, x3, x4, x5, x6, rfl⟩ := L
    rw [List.length_range, Nat.zero_add] at e
    rw [b25_eq, eTs_cons, eT_asg]
    simp only [eE_lst, eEs_nil, bnd_ret, stor_tl]
    rw [out_set (by simp), bnd_ret, thenM_nx, eTs_cons, eT_for]
    simp only [eS_rg1, eE_o1, eE_v, slGet, List.set_cons_succ, List.set_cons_zero, List.getElem?_cons_zero, lift_sm, bnd_ret, encC, u_lent, List.length_map, rng_n (show c.length ≤ 100000000 by omega)]
    rw [encC] at e
    rw [e, bnd_ret, thenM_nx, eTs_cons, eT_ret]
    simp only [eE_o1, eE_b, slAny, List.getElem?_cons_zero, List.getElem?_cons_succ, lift_sm, bnd_ret, u_tupl, thenM_rt, legsT]
  · rintro i hi ρ ⟨x3, x4, x5, x6, rfl⟩
    simp only [List.length_range] at hi
    rw [Nat.zero_add]
    have hb := legs_len c g i
    obtain ⟨y4, e⟩ := leg_in (dr := dr) (k := k) h hl g hi ((List.range i).flatMap (legsAt c g)) (by omega) x4
    refine ⟨[.pu (encC c), .pu (toD g), .ow (.list (((List.range (i + 1)).flatMap (legsAt c g)).map toD)), .pu (.int (i : Int)), y4, .pu (toD (nthC c i).1), .pu (toD (nthC c i).2)], ?_, _, _, _, _, rfl⟩
    have ei : u2 .ix (encC c) (.int (i : Int)) = some (toD (nthC c i)) := by
      rw [encC, u_ixtT hi]
      have := (nthC_mem hi).2
      rw [List.getElem?_eq_getElem hi] at this
      rw [Option.some.inj this]
    have ea : asgT (.nm 3) (toD ((List.range c.length)[i] : Int)) [.pu (encC c), .pu (toD g), .ow (.list (((List.range i).flatMap (legsAt c g)).map toD)), x3, x4, x5, x6] = some [.pu (encC c), .pu (toD g), .ow (.list (((List.range i).flatMap (legsAt c g)).map toD)), .pu (.int (i : Int)), x4, x5, x6] := by
      rw [asg_nm (by simp)]
      simp [td_i]
    unfold bodyM
    rw [ea, lift_sm, bnd_ret, bLegs, eTs_cons, eT_asgt]
    simp only [eE_o2, eE_v, slGet, List.getElem?_cons_zero, List.getElem?_cons_succ, lift_sm, bnd_ret, ei]
    rw [asg_pair (nthC c i) (by simp) (by simp), lift_sm, bnd_ret, bnd_ret, thenM_nx, eTs_cons, eT_for]
    simp only [List.set_cons_succ, List.set_cons_zero, eS_ex, eE_g, r_pts, bnd_ret, it_t, lift_sm, e, thenM_nx, eTs_nil]
    rw [flat_succ]
/-! ### the straight course -/
def sg (x : Int) : Int := (if 0 < x then 1 else 0) - (if x < 0 then 1 else 0)
theorem r_sign (x : Int) : R dr (k + 1) 20 [.int x] = ret (.int (sg x)) := by
  refine fret (F := d20.f) (ρ := [.pu (.int x)]) rfl rfl rfl ?_
  show evTs _ b20 _ = _
  have e : u2 .sub (.bool (decide (0 < x))) (.bool (decide (x < 0))) = some (.int (sg x)) := by
    show some (PyData.int _) = _
    unfold sg
    by_cases h1 : 0 < x <;> by_cases h2 : x < 0 <;> simp [h1, h2]
  rw [b20, eTs_cons, eT_ret]
  simp only [eE_o2, eE_v, eE_c, slGet, List.getElem?_cons_zero, lift_sm, bnd_ret, u_gt, u_lt, e, thenM_rt]
def idxS (d : Spot) : Nat := (stpL.findIdx? fun y => decide (y = d)).getD 0
def ptOf (d : Spot) : Str := ptsL.getD (idxS d) ""
theorem stp_facts : ∀ d ∈ stpL, idxS d < 8 ∧ (stpL.findIdx? fun y => decide (y = d)) = some (idxS d) ∧ ptOf d ∈ ptsL ∧ stepT (ptOf d) = d ∧ (ptOf d).length = if d.1 = 0 ∨ d.2 = 0 then 1 else 2 := by decide +kernel
theorem e_pt {C : Orc} {ρ : Sls} {d : Spot} (hd : d ∈ stpL) {A : Ex} (h42 : C 42 [] = ret (.tuple (ptsL.map toD))) (h43 : C 43 [] = ret (.tuple (stpL.map toD))) (hA : evE C A ρ = ret (toD d)) : evE C (.o2 .ix (.g 42) (.o2 .tindex (.g 43) A)) ρ = ret (toD (ptOf d)) := by
  obtain ⟨h8, hf, _⟩ := stp_facts d hd
  have e1 : u2 .tindex (.tuple (stpL.map toD)) (toD d) = some (.int (idxS d : Nat)) := by
    show indexIn (stpL.map toD) (toD d) = _
    rw [indexIn_t (by decide) _ _ (by decide), hf]
    rfl
  have e2 : u2 .ix (.tuple (ptsL.map toD)) (.int (idxS d : Nat)) = some (toD (ptOf d)) := by
    rw [u_ixtT (show idxS d < ptsL.length from h8), ptOf, List.getD_eq_getElem?_getD, List.getElem?_eq_getElem (show idxS d < ptsL.length from h8)]
    rfl
  simp only [eE_o2, eE_g, h42, h43, bnd_ret, hA, e1, lift_sm, e2]
def minI (a b : Int) : Int := if b < a then b else a
def maxI (a b : Int) : Int := if b > a then b else a
def w1 (g : Spot) : Course := if 0 < minI (absI g.1) (absI g.2) then [(ptOf (sg g.1, sg g.2), minI (absI g.1) (absI g.2))] else []
def restS (g : Spot) : Int := maxI (absI g.1) (absI g.2) - minI (absI g.1) (absI g.2)
def dirS (g : Spot) : Spot := if absI g.2 < absI g.1 then (sg g.1, 0) else (0, sg g.2)
def w2 (g : Spot) : Course := if 0 < restS g then [(ptOf (dirS g), restS g)] else []
def wayT (g : Spot) : Course := w1 g ++ w2 g
theorem sg_cases (x : Int) : (x < 0 ∧ sg x = -1 ∧ absI x = -x) ∨ (x = 0 ∧ sg x = 0 ∧ absI x = 0) ∨ (0 < x ∧ sg x = 1 ∧ absI x = x) := by
  unfold sg absI
  by_cases h1 : 0 < x
  · exact .inr (.inr ⟨h1, by rw [if_pos h1, if_neg (by omega)]; rfl, by rw [if_neg (by omega)]⟩)
  · by_cases h2 : x < 0
    · exact .inl ⟨h2, by rw [if_neg h1, if_pos h2]; rfl, by rw [if_pos h2]⟩
    · exact .inr (.inl ⟨by omega, by rw [if_neg h1, if_neg h2]; rfl, by rw [if_neg h2]; omega⟩)
theorem dir1 {g : Spot} (h : 0 < minI (absI g.1) (absI g.2)) : (sg g.1, sg g.2) ∈ stpL := by
  unfold minI at h
  rcases sg_cases g.1 with ⟨a1, a2, a3⟩ | ⟨a1, a2, a3⟩ | ⟨a1, a2, a3⟩ <;> rcases sg_cases g.2 with ⟨c1, c2, c3⟩ | ⟨c1, c2, c3⟩ | ⟨c1, c2, c3⟩ <;> rw [a2, c2] <;> rw [a3, c3] at h <;> first | decide | (exfalso; split at h <;> omega)
theorem dir2 {g : Spot} (h : 0 < restS g) : dirS g ∈ stpL := by
  unfold restS minI maxI at h
  unfold dirS
  rcases sg_cases g.1 with ⟨a1, a2, a3⟩ | ⟨a1, a2, a3⟩ | ⟨a1, a2, a3⟩ <;> rcases sg_cases g.2 with ⟨c1, c2, c3⟩ | ⟨c1, c2, c3⟩ | ⟨c1, c2, c3⟩ <;> rw [a2, c2] <;> rw [a3, c3] at h ⊢ <;> split <;> first | decide | (exfalso; split at h <;> first | omega | (split at h <;> omega))
theorem r_straight (g : Spot) : R dr (k + 2) 21 [toD g] = ret (encC (wayT g)) := by
  refine fret (F := d21.f) (ρ := [.pu (toD g), .no, .no, .no, .no, .no, .no]) rfl rfl rfl ?_
  show evTs _ b21 _ = _
  have s1 := r_sign (dr := dr) (k := k) g.1
  have s2 := r_sign (dr := dr) (k := k) g.2
  rw [b21, eTs_cons, eT_asgt]
  simp only [eE_v, slGet, List.getElem?_cons_zero, lift_sm, bnd_ret]
  rw [asg_pair g (by simp) (by simp), lift_sm, bnd_ret, bnd_ret, thenM_nx, eTs_cons, eT_asg]
  simp only [List.set_cons_succ, List.set_cons_zero, eE_o1, eE_o2, eE_v, slGet, List.getElem?_cons_zero, List.getElem?_cons_succ, lift_sm, bnd_ret, td_i, u_abs, u_min, stor_f]
  rw [show (if g.1 < 0 then -g.1 else g.1) = absI g.1 from rfl, show (if g.2 < 0 then -g.2 else g.2) = absI g.2 from rfl, show (if absI g.2 < absI g.1 then absI g.2 else absI g.1) = minI (absI g.1) (absI g.2) from rfl]
  rw [out_set (by simp), bnd_ret, thenM_nx, eTs_cons, eT_asg]
  simp only [List.set_cons_succ, List.set_cons_zero, eE_lst, eEs_nil, bnd_ret, stor_tl]
  rw [out_set (by simp), bnd_ret, thenM_nx]
  simp only [List.set_cons_succ, List.set_cons_zero]
  -- slantwise
  have part : ∀ ts, evTs (R dr (k + 1)) (.ife (.o2 .gt (.v 1) (.c (.int 0))) [.app 2 (.tup [.o2 .ix (.g 42) (.o2 .tindex (.g 43) (.tup [.call 20 [.v 4], .call 20 [.v 5]])), .v 1])] [] :: ts)
      [.pu (toD g), .pu (.int (minI (absI g.1) (absI g.2))), .ow (.list []), .no, .pu (.int g.1), .pu (.int g.2), .no] =
      evTs (R dr (k + 1)) ts [.pu (toD g), .pu (.int (minI (absI g.1) (absI g.2))), .ow (.list ((w1 g).map toD)), .no, .pu (.int g.1), .pu (.int g.2), .no] := fun ts => by
    rw [eTs_cons, eT_ife]
    simp only [eE_o2, eE_v, eE_c, slGet, List.getElem?_cons_zero, List.getElem?_cons_succ, lift_sm, bnd_ret, u_gt, boolM_b]
    by_cases hb : 0 < minI (absI g.1) (absI g.2)
    · have ep := e_pt (C := R dr (k + 1)) (ρ := [.pu (toD g), .pu (.int (minI (absI g.1) (absI g.2))), .ow (.list []), .no, .pu (.int g.1), .pu (.int g.2), .no]) (dir1 hb) (A := .tup [.call 20 [.v 4], .call 20 [.v 5]]) r_pts r_stp
        (by simp only [eE_tup, eEs_cons, eEs_nil, eE_call, eE_v, slGet, List.getElem?_cons_zero, List.getElem?_cons_succ, lift_sm, bnd_ret, s1, s2]; rfl)
      rw [if_pos (decide_eq_true hb), eTs_cons, eT_app]
      simp only [slOw, List.getElem?_cons_zero, List.getElem?_cons_succ, lift_sm, bnd_ret]
      rw [eE_tup, eEs_cons, ep]
      simp only [eEs_cons, eEs_nil, eE_v, slGet, List.getElem?_cons_zero, List.getElem?_cons_succ, lift_sm, bnd_ret]
      rw [app_l (by rw [sz_eq]; simp), lift_sm, bnd_ret, bnd_ret, thenM_nx, eTs_nil, bnd_ret, thenM_nx]
      simp only [List.set_cons_succ, List.set_cons_zero, w1, if_pos hb]
      rfl
    · rw [if_neg (by simp only [decide_eq_true_eq]; exact hb), eTs_nil, bnd_ret, thenM_nx, w1, if_neg hb]
      rfl
  rw [part, eTs_cons, eT_asg]
  simp only [eE_o1, eE_o2, eE_v, slGet, List.getElem?_cons_zero, List.getElem?_cons_succ, lift_sm, bnd_ret, u_abs, u_max, u_sub, stor_f]
  rw [show (if g.1 < 0 then -g.1 else g.1) = absI g.1 from rfl, show (if g.2 < 0 then -g.2 else g.2) = absI g.2 from rfl, show (if absI g.2 > absI g.1 then absI g.2 else absI g.1) - minI (absI g.1) (absI g.2) = restS g from rfl]
  rw [out_set (by simp), bnd_ret, thenM_nx]
  simp only [List.set_cons_succ, List.set_cons_zero]
  rw [eTs_cons, eT_ife]
  simp only [eE_o2, eE_v, eE_c, slGet, List.getElem?_cons_zero, List.getElem?_cons_succ, lift_sm, bnd_ret, u_gt, boolM_b]
  have hw1 : (w1 g).length ≤ 1 := by unfold w1; split <;> simp
  by_cases hr : 0 < restS g
  · rw [if_pos (decide_eq_true hr), eTs_cons, eT_asg]
    have ed : evE (R dr (k + 1)) (.ite (.o2 .gt (.o1 .abs (.v 4)) (.o1 .abs (.v 5))) (.tup [.call 20 [.v 4], .c (.int 0)]) (.tup [.c (.int 0), .call 20 [.v 5]])) [.pu (toD g), .pu (.int (minI (absI g.1) (absI g.2))), .ow (.list ((w1 g).map toD)), .pu (.int (restS g)), .pu (.int g.1), .pu (.int g.2), .no] = ret (toD (dirS g)) := by
      simp only [eE_ite, eE_o1, eE_o2, eE_v, slGet, List.getElem?_cons_zero, List.getElem?_cons_succ, lift_sm, bnd_ret, u_abs, u_gt, boolM_b]
      rw [show (if g.1 < 0 then -g.1 else g.1) = absI g.1 from rfl, show (if g.2 < 0 then -g.2 else g.2) = absI g.2 from rfl]
      by_cases hd : absI g.2 < absI g.1
      · simp only [decide_eq_true hd, if_true, eE_tup, eEs_cons, eEs_nil, eE_call, eE_v, eE_c, slGet, List.getElem?_cons_zero, List.getElem?_cons_succ, lift_sm, bnd_ret, s1, dirS, if_pos hd]
        rfl
      · simp only [decide_eq_false hd, Bool.false_eq_true, if_false, eE_tup, eEs_cons, eEs_nil, eE_call, eE_v, eE_c, slGet, List.getElem?_cons_zero, List.getElem?_cons_succ, lift_sm, bnd_ret, s2, dirS, if_neg hd]
        rfl
    rw [ed, bnd_ret, stor_f, out_set (by simp), bnd_ret, thenM_nx]
    simp only [List.set_cons_succ, List.set_cons_zero]
    have ep := e_pt (C := R dr (k + 1)) (ρ := [.pu (toD g), .pu (.int (minI (absI g.1) (absI g.2))), .ow (.list ((w1 g).map toD)), .pu (.int (restS g)), .pu (.int g.1), .pu (.int g.2), .pu (toD (dirS g))]) (dir2 hr) (A := .v 6) r_pts r_stp
      (by simp only [eE_v, slGet, List.getElem?_cons_zero, List.getElem?_cons_succ, lift_sm])
    rw [eTs_cons, eT_app]
    simp only [slOw, List.getElem?_cons_zero, List.getElem?_cons_succ, lift_sm, bnd_ret]
    rw [eE_tup, eEs_cons, ep]
    simp only [eEs_cons, eEs_nil, eE_v, slGet, List.getElem?_cons_zero, List.getElem?_cons_succ, lift_sm, bnd_ret]
    rw [app_l (by rw [List.length_map, sz_eq]; omega), lift_sm, bnd_ret, bnd_ret, thenM_nx, eTs_nil, bnd_ret, thenM_nx, eTs_cons, eT_ret]
    simp only [List.set_cons_succ, List.set_cons_zero, eE_o1, eE_b, slAny, List.getElem?_cons_zero, List.getElem?_cons_succ, lift_sm, bnd_ret, u_tupl, thenM_rt, encC, wayT, w2, if_pos hr]
    rw [List.map_append]
    rfl
  · rw [if_neg (by simp only [decide_eq_true_eq]; exact hr), eTs_nil, bnd_ret, thenM_nx, eTs_cons, eT_ret]
    simp only [eE_o1, eE_b, slAny, List.getElem?_cons_zero, List.getElem?_cons_succ, lift_sm, bnd_ret, u_tupl, thenM_rt, encC, wayT, w2, if_neg hr, List.append_nil]
end
end K29P
end RW.PL
/-! k29, plain: courses (5): what holds of courses. -/
namespace RW.PL
open PySem PySem.W RW.K29
namespace K29P
theorem end_leB (B : Nat) : ∀ (c : Course) (at_ : Spot), OkC c → (∀ q ∈ c, q.2 ≤ B) → (c.foldl legT at_).1.natAbs ≤ at_.1.natAbs + B * c.length ∧ (c.foldl legT at_).2.natAbs ≤ at_.2.natAbs + B * c.length
  | [], at_, _, _ => ⟨by simp, by simp⟩
  | q :: c, at_, h, hb => by
    obtain ⟨h1, h2⟩ := h q List.mem_cons_self
    have h3 := hb q List.mem_cons_self
    obtain ⟨l1, l2⟩ := legT_le at_ h1 h2
    obtain ⟨r1, r2⟩ := end_leB B c (legT at_ q) (fun r hr => h r (List.mem_cons_of_mem _ hr)) fun r hr => hb r (List.mem_cons_of_mem _ hr)
    rw [List.foldl_cons, List.length_cons, Nat.mul_add, Nat.mul_one]
    generalize B * c.length = z at r1 r2
    omega
theorem end_add : ∀ (c : Course) (at_ : Spot), c.foldl legT at_ = (at_.1 + (endT c).1, at_.2 + (endT c).2)
  | [], at_ => by simp [endT]
  | q :: c, at_ => by
    have e : endT (q :: c) = c.foldl legT (legT (0, 0) q) := rfl
    rw [List.foldl_cons, end_add c (legT at_ q), e, end_add c (legT (0, 0) q)]
    simp only [legT, Prod.mk.injEq]
    constructor <;> omega
theorem end_app (c d : Course) : endT (c ++ d) = ((endT c).1 + (endT d).1, (endT c).2 + (endT d).2) := by
  rw [endT, List.foldl_append, end_add d]
  rfl
theorem end_rev : ∀ c : Course, endT c.reverse = endT c
  | [] => rfl
  | q :: c => by
    rw [List.reverse_cons, end_app, end_rev c, show q :: c = [q] ++ c from rfl, end_app]
    simp only [Prod.mk.injEq]
    constructor <;> omega
theorem end_back : ∀ c : Course, OkC c → endT (turnT c 4) = (-(endT c).1, -(endT c).2)
  | [], _ => rfl
  | q :: c, h => by
    obtain ⟨h1, h2⟩ := h q List.mem_cons_self
    obtain ⟨_, _, _, _, h5⟩ := pts_facts q.1 h1
    rw [show turnT (q :: c) 4 = [(onT q.1 4, q.2)] ++ turnT c 4 from rfl, end_app, end_back c (fun r hr => h r (List.mem_cons_of_mem _ hr)), show q :: c = [q] ++ c from rfl, end_app]
    simp only [endT, List.foldl_cons, List.foldl_nil, legT, h5, Prod.mk.injEq, Int.neg_mul]
    constructor <;> omega
theorem end_home {c : Course} (h : OkC c) : endT (c ++ turnT c.reverse 4) = (0, 0) := by
  have hr : OkC c.reverse := fun q hq => h q (List.mem_reverse.mp hq)
  rw [end_app, end_back _ hr, end_rev]
  simp only [Prod.mk.injEq]
  constructor <;> omega
/-- what holds of all rows -/
theorem rows_all (w : Int) : ∀ (c : Course) (rows : List Course) (n : Nat), OkC c → (∀ q ∈ c, q.2 ≤ 4) → (∀ r ∈ rows, OkC r ∧ (∀ q ∈ r, q.2 ≤ 4) ∧ r.length ≤ n) → ∀ r ∈ c.foldl (rowS w) rows, OkC r ∧ (∀ q ∈ r, q.2 ≤ 4) ∧ r.length ≤ n + c.length
  | [], rows, n, _, _, h => fun r hr => by obtain ⟨a, b, d⟩ := h r hr; exact ⟨a, b, by simp; omega⟩
  | q :: c, rows, n, hc, hb, h => by
    intro r hr
    rw [List.foldl_cons] at hr
    have := rows_all w c (rowS w rows q) (n + 1) (fun r hr => hc r (List.mem_cons_of_mem _ hr)) (fun r hr => hb r (List.mem_cons_of_mem _ hr)) (fun r hr => by
      unfold rowS at hr
      rw [List.mem_flatMap] at hr
      obtain ⟨r0, h0, hr⟩ := hr
      obtain ⟨m, _, rfl⟩ := List.mem_map.mp hr
      obtain ⟨a, b, d⟩ := h r0 h0
      refine ⟨fun x hx => ?_, fun x hx => ?_, by simp; omega⟩
      · rcases List.mem_append.mp hx with hx | hx
        · exact a x hx
        · rw [List.mem_singleton] at hx; subst hx; exact ⟨onT_mem _ _, (hc q List.mem_cons_self).2⟩
      · rcases List.mem_append.mp hx with hx | hx
        · exact b x hx
        · rw [List.mem_singleton] at hx; subst hx; exact hb q List.mem_cons_self) r hr
    obtain ⟨a, b, d⟩ := this
    exact ⟨a, b, by rw [List.length_cons]; omega⟩
theorem rowS_len (w : Int) (rows : List Course) (q : Str × Int) : (rowS w rows q).length = rows.length * (irng (-w) (w + 1)).length := by
  unfold rowS
  rw [List.length_flatMap]
  induction rows with
  | nil => simp
  | cons a l ih => rw [List.map_cons, List.sum_cons, ih, List.length_cons, List.length_map, Nat.add_mul, Nat.one_mul, Nat.add_comm]
theorem rows_ne {w : Int} (h0 : 0 ≤ w) : ∀ (c : Course) (rows : List Course), rows ≠ [] → c.foldl (rowS w) rows ≠ []
  | [], rows, h => h
  | q :: c, rows, h => by
    rw [List.foldl_cons]
    refine rows_ne h0 c _ fun e => ?_
    have h1 := rowS_len w rows q
    rw [e] at h1
    have h2 : 0 < rows.length := List.length_pos_iff.mpr h
    have h3 : 0 < (irng (-w) (w + 1)).length := by rw [length_ints]; omega
    have := Nat.mul_pos h2 h3
    simp only [List.length_nil] at h1
    omega
theorem rows_len5 {w : Int} (h2 : w ≤ 2) : ∀ (c : Course) (rows : List Course) (n : Nat), rows.length ≤ 5 ^ n → (c.foldl (rowS w) rows).length ≤ 5 ^ (n + c.length)
  | [], rows, n, h => h
  | q :: c, rows, n, h => by
    rw [List.foldl_cons, List.length_cons, show n + (c.length + 1) = n + 1 + c.length by omega]
    refine rows_len5 h2 c _ (n + 1) ?_
    rw [rowS_len, Nat.pow_succ]
    exact Nat.mul_le_mul h (by rw [length_ints]; omega)
/-! ### the straight course -/
theorem pt_len : ∀ p ∈ ptsL, p.length ≤ 2 := by decide +kernel
theorem w1_facts (g : Spot) : (∀ q ∈ w1 g, q.1 ∈ ptsL ∧ stepT q.1 = (sg g.1, sg g.2) ∧ q.1.length = 2 ∧ q.2 = minI (absI g.1) (absI g.2)) := by
  intro q hq
  unfold w1 at hq
  split at hq
  · rename_i h
    rw [List.mem_singleton] at hq
    subst hq
    obtain ⟨_, _, h3, h4, h5⟩ := stp_facts _ (dir1 h)
    refine ⟨h3, h4, ?_, rfl⟩
    rw [h5, if_neg]
    unfold minI at h
    rcases sg_cases g.1 with ⟨a1, a2, a3⟩ | ⟨a1, a2, a3⟩ | ⟨a1, a2, a3⟩ <;> rcases sg_cases g.2 with ⟨c1, c2, c3⟩ | ⟨c1, c2, c3⟩ | ⟨c1, c2, c3⟩ <;> simp only [a2, c2] <;> rw [a3, c3] at h <;> first | omega | (exfalso; split at h <;> omega)
  · cases hq
theorem w2_facts (g : Spot) : (∀ q ∈ w2 g, q.1 ∈ ptsL ∧ stepT q.1 = dirS g ∧ q.1.length = 1 ∧ q.2 = restS g) := by
  intro q hq
  unfold w2 at hq
  split at hq
  · rename_i h
    rw [List.mem_singleton] at hq
    subst hq
    obtain ⟨_, _, h3, h4, h5⟩ := stp_facts _ (dir2 h)
    refine ⟨h3, h4, ?_, rfl⟩
    rw [h5, if_pos]
    unfold dirS
    split
    · exact .inr rfl
    · exact .inl rfl
  · cases hq
theorem abs_nat (x : Int) : absI x = (x.natAbs : Int) := by unfold absI; split <;> omega
theorem way_ok {g : Spot} (h1 : g.1.natAbs ≤ 100) (h2 : g.2.natAbs ≤ 100) : OkL (wayT g) := by
  have hA := abs_nat g.1
  have hB := abs_nat g.2
  have hm : 0 ≤ minI (absI g.1) (absI g.2) ∧ minI (absI g.1) (absI g.2) ≤ 100 := by unfold minI; split <;> omega
  have hr : 0 ≤ restS g ∧ restS g ≤ 100 := by unfold restS maxI minI; split <;> split <;> omega
  refine ⟨fun q hq => ?_, fun q hq => ?_, ?_⟩
  · rcases List.mem_append.mp hq with hq | hq
    · obtain ⟨a, _, _, b⟩ := w1_facts g q hq; exact ⟨a, by rw [b]; exact hm.1⟩
    · obtain ⟨a, _, _, b⟩ := w2_facts g q hq; exact ⟨a, by rw [b]; exact hr.1⟩
  · rcases List.mem_append.mp hq with hq | hq
    · obtain ⟨a, _, _, b⟩ := w1_facts g q hq; rw [b]; exact hm.2
    · obtain ⟨a, _, _, b⟩ := w2_facts g q hq; rw [b]; exact hr.2
  · unfold wayT
    rw [List.length_append]
    unfold w1 w2
    split <;> split <;> simp
theorem min_pos (g : Spot) : minI (absI g.1) (absI g.2) = 0 ∨ 0 < minI (absI g.1) (absI g.2) := by
  have := abs_nat g.1
  have := abs_nat g.2
  unfold minI
  split <;> omega
theorem rest_pos (g : Spot) : restS g = 0 ∨ 0 < restS g := by
  unfold restS minI maxI
  split <;> split <;> omega
theorem way_end (g : Spot) : endT (wayT g) = g := by
  have e1 : endT (w1 g) = (sg g.1 * minI (absI g.1) (absI g.2), sg g.2 * minI (absI g.1) (absI g.2)) := by
    by_cases h : 0 < minI (absI g.1) (absI g.2)
    · have := w1_facts g (ptOf (sg g.1, sg g.2), minI (absI g.1) (absI g.2)) (by unfold w1; rw [if_pos h]; simp)
      unfold w1
      rw [if_pos h]
      simp only [endT, List.foldl_cons, List.foldl_nil, legT, this.2.1, Int.zero_add]
    · have h0 : minI (absI g.1) (absI g.2) = 0 := (min_pos g).resolve_right h
      unfold w1
      rw [if_neg h, h0]
      simp [endT]
  have e2 : endT (w2 g) = ((dirS g).1 * restS g, (dirS g).2 * restS g) := by
    by_cases h : 0 < restS g
    · have := w2_facts g (ptOf (dirS g), restS g) (by unfold w2; rw [if_pos h]; simp)
      unfold w2
      rw [if_pos h]
      simp only [endT, List.foldl_cons, List.foldl_nil, legT, this.2.1, Int.zero_add]
    · have h0 : restS g = 0 := (rest_pos g).resolve_right h
      unfold w2
      rw [if_neg h, h0]
      simp [endT]
  rw [wayT, end_app, e1, e2]
  unfold dirS restS minI maxI
  ext
  · rcases sg_cases g.1 with ⟨a1, a2, a3⟩ | ⟨a1, a2, a3⟩ | ⟨a1, a2, a3⟩ <;> rcases sg_cases g.2 with ⟨c1, c2, c3⟩ | ⟨c1, c2, c3⟩ | ⟨c1, c2, c3⟩ <;> simp only [a2, c2, a3, c3] <;> split <;> (try split) <;> (try split) <;> (try simp only []) <;> omega
  · rcases sg_cases g.1 with ⟨a1, a2, a3⟩ | ⟨a1, a2, a3⟩ | ⟨a1, a2, a3⟩ <;> rcases sg_cases g.2 with ⟨c1, c2, c3⟩ | ⟨c1, c2, c3⟩ | ⟨c1, c2, c3⟩ <;> simp only [a2, c2, a3, c3] <;> split <;> (try split) <;> (try split) <;> (try simp only []) <;> omega
theorem way_sum (g : Spot) : ((wayT g).map Prod.snd).sum = maxI (absI g.1) (absI g.2) := by
  have h : restS g + minI (absI g.1) (absI g.2) = maxI (absI g.1) (absI g.2) := by unfold restS; omega
  rw [← h, wayT, List.map_append, List.sum_append]
  have e1 : ((w1 g).map Prod.snd).sum = minI (absI g.1) (absI g.2) := by
    rcases min_pos g with h | h
    · unfold w1; rw [h]; simp
    · unfold w1; rw [if_pos h]; simp
  have e2 : ((w2 g).map Prod.snd).sum = restS g := by
    rcases rest_pos g with h | h
    · unfold w2; rw [h]; simp
    · unfold w2; rw [if_pos h]; simp
  rw [e1, e2]
  omega
theorem way_len (g : Spot) : ((wayT g).length : Int) = (if 0 < minI (absI g.1) (absI g.2) then 1 else 0) + (if absI g.1 = absI g.2 then 0 else 1) := by
  have e1 : ((w1 g).length : Int) = if 0 < minI (absI g.1) (absI g.2) then 1 else 0 := by unfold w1; split <;> rfl
  have e2 : ((w2 g).length : Int) = if absI g.1 = absI g.2 then 0 else 1 := by
    unfold w2
    by_cases h : absI g.1 = absI g.2
    · have : restS g = 0 := by unfold restS minI maxI; rw [h]; split <;> first | omega | (split <;> omega)
      rw [if_neg (by omega), if_pos h]
      rfl
    · have : 0 < restS g := by unfold restS minI maxI; split <;> split <;> omega
      rw [if_pos this, if_neg h]
      rfl
  rw [wayT, List.length_append, ← e1, ← e2]
  omega
def slantT (g : Spot) : Course := (wayT g).filter fun q => decide ((q.1.length : Int) = 2)
theorem slant_eq (g : Spot) : slantT g = w1 g := by
  unfold slantT wayT
  rw [List.filter_append, List.filter_eq_self.mpr fun q hq => by rw [(w1_facts g q hq).2.2.1]; rfl, List.filter_eq_nil_iff.mpr fun q hq => by rw [(w2_facts g q hq).2.2.1]; simp, List.append_nil]
theorem slant_take (g : Spot) : (wayT g).take (slantT g).length = slantT g := by
  rw [slant_eq, wayT, List.take_left']
  rfl
end K29P
end RW.PL
/-! k29, plain: _law_courses (1). -/
namespace RW.PL
open PySem PySem.W RW.K29
namespace K29P
structure D0 (ρ : Sls) (c : Course) (m wr : Int) : Prop where
  len : ρ.length = 26
  g0 : slW ρ 0 = some .none
  g1 : slGet ρ 1 = some (.list (ptsL.map toD))
  g2 : slGet ρ 2 = some (encC c)
  g12 : slGet ρ 12 = some (.int m)
  g13 : slGet ρ 13 = some (.int wr)
  g14 : slGet ρ 14 = some (.list ((passT c).map toD))
structure OkD (c : Course) (m wr : Int) : Prop where
  ok : OkC c
  st : ∀ q ∈ c, q.2 ≤ 4
  ln : c.length ≤ 4
  m1 : -4 ≤ m
  m2 : m ≤ 4
  w0 : 0 ≤ wr
  w2 : wr ≤ 2
theorem OkD.okl {c : Course} {m wr : Int} (o : OkD c m wr) : OkL c := ⟨o.ok, fun q hq => by have := o.st q hq; omega, by have := o.ln; omega⟩
def dase (i : Nat) : Bool := i == 0 || i == 1 || i == 2 || i == 12 || i == 13 || i == 14
theorem D0.set {ρ : Sls} {c : Course} {m wr : Int} (b : D0 ρ c m wr) {i : Nat} {x : Sl} (hi : dase i = false) : D0 (ρ.set i x) c m wr := by
  have ne : ∀ j, dase j = true → i ≠ j := fun j hj e => by subst e; rw [hi] at hj; cases hj
  exact ⟨by rw [List.length_set]; exact b.len, by rw [w_ne (ne _ rfl)]; exact b.g0, by rw [get_ne (ne _ rfl)]; exact b.g1, by rw [get_ne (ne _ rfl)]; exact b.g2, by rw [get_ne (ne _ rfl)]; exact b.g12, by rw [get_ne (ne _ rfl)]; exact b.g13, by rw [get_ne (ne _ rfl)]; exact b.g14⟩
theorem last_pass {c : Course} (h : OkL c) : u2 .ix (.list ((passT c).map toD)) (.int (-1)) = some (toD (endT c)) := by
  obtain ⟨h1, h2, _⟩ := h.pass
  rw [u_lastD h1 (0, 0), h2]
section
variable {dr : List Int} {k n : Nat} {ρ : Sls} {c : Course} {m wr : Int}
theorem lp {c : Course} (h : OkL c) : R dr (k + 12) 38 [encC c] = ret (.list ((passT c).map toD)) := l_pass (k := k + 9) h
theorem F2.okc {l : List Nat} (h : F2 (fun (_ : Nat) (b : Str × Int) => b.1 ∈ ptsL ∧ 0 ≤ b.2 ∧ b.2 < 5) l c) : OkC c ∧ (∀ q ∈ c, q.2 ≤ 4) ∧ c.length = l.length :=
  ⟨fun q hq => by obtain ⟨_, _, h1, h2, _⟩ := h.mem q hq; exact ⟨h1, h2⟩, fun q hq => by obtain ⟨_, _, _, _, h3⟩ := h.mem q hq; omega, h.length_eq.symm⟩
theorem partA {rest : List Ss} {Q : Out → Nat → Prop} (hk : ∀ ρ c m wr n, D0 ρ c m wr → OkD c m wr → Ev (evTs (R dr (k + 12)) rest ρ) n Q) :
    Ev (evTs (R dr (k + 12)) (s40_0 :: s40_1 :: s40_2 :: rest) (.wr :: List.replicate 25 .no)) n Q := by
  refine ev_asg (names_eq (k := k + 11) _ 24 (by simp)) rfl ?_
  refine ev_asgE ?_
  rw [eE_o1]
  refine ev_bnd (cp_evS (α := Nat) (β := Str × Int) (enc := fun (i : Nat) => toD (i : Int)) (enc2 := toD) (P := fun _ b => b.1 ∈ ptsL ∧ 0 ≤ b.2 ∧ b.2 < 5) (L := fun l => l.length ≤ 4) ?_ ?_ ?_ ?_)
  · rw [eS_rg1]
    refine ev_bnd (nx rfl (by omega) fun i n1 i0 i5 => ?_)
    obtain ⟨i, rfl⟩ : ∃ m : Nat, i = (m : Int) := ⟨i.toNat, by omega⟩
    rw [rng_n (by omega), lift_sm]
    exact ev_ret ⟨_, rfl, by rw [List.length_range]; omega⟩
  · intro l hl; rw [sz_eq]; omega
  · intro l _ a _ n
    refine ⟨_, asg_w (by simp), ?_⟩
    rw [eE_tup, eEs_cons]
    simp only [bnd_assoc]
    rw [eE_call]
    simp only [eEs_cons, eEs_nil, eE_w, eE_v, slW, slGet, List.getElem?_cons_zero, List.getElem?_cons_succ, List.set_cons_succ, List.set_cons_zero, lift_sm, bnd_ret, stor_f, List.replicate_succ]
    refine ev_bnd (pk (by simp [ptsL]) fun x n2 hx => ?_)
    obtain ⟨p, hp, rfl⟩ := List.mem_map.mp hx
    simp only [bnd_assoc]
    refine ev_bnd (nx rfl (by omega) fun s n3 s0 s5 => ?_)
    simp only [bnd_ret]
    exact ev_ret ⟨(p, s), rfl, hp, s0, s5⟩
  rintro l hl c n1 hc
  obtain ⟨h1, h2, h3⟩ := F2.okc hc
  rw [u_tupl, lift_sm]
  refine ev_ret ⟨_, rfl, ?_⟩
  refine ev_parE ?_
  rw [eEs_cons]
  refine ev_bnd ?_
  rw [eE_o2]
  refine ev_bnd (nx rfl (by omega) fun i n1 i0 i9 => ?_)
  simp only [eE_c, bnd_ret, u_sub, lift_sm]
  refine ev_ret ?_
  rw [eEs_cons]
  simp only [bnd_assoc]
  refine ev_bnd (nx rfl (by omega) fun j n2 j0 j3 => ?_)
  have ok : OkL c := ⟨h1, fun q hq => by have := h2 q hq; omega, by omega⟩
  rw [eEs_cons, eE_call]
  have e : R dr (k + 12) 38 [.tuple (c.map toD)] = ret (.list ((passT c).map toD)) := lp ok
  simp only [eEs_cons, eEs_nil, eE_v, slGet, List.getElem?_cons_zero, List.getElem?_cons_succ, List.set_cons_succ, List.set_cons_zero, lift_sm, bnd_ret, stor_f, List.replicate_succ, e]
  refine ev_ret ⟨_, rfl, ?_⟩
  exact hk _ c (i - 4) j n2 ⟨rfl, rfl, rfl, rfl, rfl, rfl, rfl⟩ ⟨h1, h2, by omega, by omega, by omega, j0, by omega⟩
theorem alk_C {k : Nat} {c : Course} (h : c.length ≤ 100000) : Alk (k + 3) (encC c) := alk_tmap (by rw [sz_eq]; omega) fun q _ => alk_tup (by rw [sz_eq]; simp) fun x hx => by
  simp only [List.mem_cons, List.not_mem_nil, or_false] at hx
  rcases hx with rfl | rfl
  · exact alk_str
  · exact alk_int
theorem partB (b : D0 ρ c m wr) (o : OkD c m wr) {rest : List Ss} {Q : Out → Nat → Prop} (hk : ∀ ρ n, D0 ρ c m wr → Ev (evTs (R dr (k + 12)) rest ρ) n Q) :
    Ev (evTs (R dr (k + 12)) (s40_3 :: s40_4 :: s40_5 :: rest) ρ) n Q := by
  have ok := o.okl
  have hln := o.ln
  have okr : OkC c.reverse := fun q hq => o.ok q (List.mem_reverse.mp hq)
  have e17 : R dr (k + 12) 17 [encC c] = ret (toD (endT c)) := r_end (k := k + 9) o.ok
  have e19 : R dr (k + 12) 19 [encC c] = ret (encC (turnT c.reverse 4)) := r_back (k := k + 8) o.ok (by omega)
  have e18 : R dr (k + 12) 18 [encC c, .int m] = ret (encC (turnT c m)) := r_turn (k := k + 9) o.ok (by omega) m
  have e39 : R dr (k + 12) 39 [encC c, .int m] = ret (encC (turnT c m)) := l_turn (k := k + 9) o.ok (by omega) o.m1 o.m2
  have e27 : R dr (k + 12) 27 [encC c] = ret (.tuple ((passT c).map toD)) := r_pass (k := k + 9) ok
  have e26 : R dr (k + 12) 26 [encC c] = ret (.bool (decide (endT c = (0, 0)))) := r_closes (k := k + 8) o.ok
  refine ev_asg (d := encC (turnT c.reverse 4)) ?_ (out_set (by rw [b.len]; omega)) ?_
  · rw [eE_o1, cp_map (l := c.reverse) (enc := toD) (g := fun q => toD (onT q.1 4, q.2)), bnd_ret, u_tupl, lift_sm]
    · rw [encC, turnT, List.map_map]; rfl
    · have e : revD (encC c) = some (encC c.reverse) := by rw [encC, encC, List.map_reverse]; rfl
      simp only [eS_ex, eE_rev, eE_v, b.g2, lift_sm, bnd_ret, e]
      rw [encC, it_t, lift_sm]
    · rw [List.length_reverse, sz_eq]; omega
    · intro q hq
      refine ⟨_, asg_pw q (by rw [b.len]; omega) (by rw [b.len]; omega), ?_⟩
      have h15 : slGet ((((ρ.set 16 .no).set 15 .no).set 15 (.pu (toD q.1))).set 16 (.pu (toD q.2))) 15 = some (toD q.1) := by rw [get_ne (by omega)]; exact get_eq (by rw [List.length_set, List.length_set, b.len]; omega)
      have h16 : slGet ((((ρ.set 16 .no).set 15 .no).set 15 (.pu (toD q.1))).set 16 (.pu (toD q.2))) 16 = some (toD q.2) := get_eq (by rw [List.length_set, List.length_set, List.length_set, b.len]; omega)
      have e37 : R dr (k + 12) 37 [toD q.1, .int 4] = ret (toD (onT q.1 4)) := l_on (k := k + 10) (okr q hq).1 (by omega) (by omega)
      simp only [eE_tup, eEs_cons, eEs_nil, eE_call, eE_v, eE_c, h15, h16, lift_sm, bnd_ret, e37]
      rfl
  have b1 := b.set (i := 3) (x := stor false (encC (turnT c.reverse 4))) rfl
  have t3 : slGet (ρ.set 3 (stor false (encC (turnT c.reverse 4)))) 3 = some (encC (turnT c.reverse 4)) := get_eq (by rw [b.len]; omega)
  generalize ρ.set 3 (stor false (encC (turnT c.reverse 4))) = ρ at b1 t3 ⊢
  refine ev_asg (d := .tuple [toD (endT c), encC (turnT c.reverse 4), encC (turnT c m), .tuple ((passT c).map toD), .bool (decide (endT c = (0, 0)))]) ?_ (out_set (by rw [b1.len]; omega)) ?_
  · simp only [eE_tup, eEs_cons, eEs_nil, eE_call, eE_v, b1.g2, b1.g12, lift_sm, bnd_ret, e17, e19, e18, e27, e26]
  have b2 := b1.set (i := 4) (x := stor false (.tuple [toD (endT c), encC (turnT c.reverse 4), encC (turnT c m), .tuple ((passT c).map toD), .bool (decide (endT c = (0, 0)))])) rfl
  have u3 := get_ne (ρ := ρ) (x := stor false (.tuple [toD (endT c), encC (turnT c.reverse 4), encC (turnT c m), .tuple ((passT c).map toD), .bool (decide (endT c = (0, 0)))])) (show 4 ≠ 3 by omega)
  have u4 : slGet (ρ.set 4 (stor false (.tuple [toD (endT c), encC (turnT c.reverse 4), encC (turnT c m), .tuple ((passT c).map toD), .bool (decide (endT c = (0, 0)))]))) 4 = some _ := get_eq (by rw [b1.len]; omega)
  rw [t3] at u3
  generalize ρ.set 4 (stor false (.tuple [toD (endT c), encC (turnT c.reverse 4), encC (turnT c m), .tuple ((passT c).map toD), .bool (decide (endT c = (0, 0)))])) = ρ at b2 u3 u4 ⊢
  refine ev_ife_no ?_ (hk ρ n b2)
  have hp := ok.pass
  have al : R dr (k + 12) 32 [.tuple [toD (endT c), encC (turnT c.reverse 4), encC (turnT c m), .tuple ((passT c).map toD), .bool (decide (endT c = (0, 0)))], .tuple [toD (endT c), encC (turnT c.reverse 4), encC (turnT c m), .tuple ((passT c).map toD), .bool (decide (endT c = (0, 0)))]] = ret (.bool true) :=
    alike_ok (prim := prim dr) (T := tblT tbl) (j := 32) rfl rfl (k + 12) _ (alk_tup (by rw [sz_eq]; simp) fun x hx => by
      simp only [List.mem_cons, List.not_mem_nil, or_false] at hx
      rcases hx with rfl | rfl | rfl | rfl | rfl
      · exact alk_sp _
      · exact alk_C (by unfold turnT; rw [List.length_map, List.length_reverse]; omega)
      · exact alk_C (by unfold turnT; rw [List.length_map]; omega)
      · exact alk_F (by omega)
      · exact alk_bool)
  have ee : u2 .eq (toD (endT c)) (.tuple [.int 0, .int 0]) = some (.bool (decide (endT c = (0, 0)))) := u_eqT (α := Spot) (by decide) _ (0, 0)
  have hback : OkL (c ++ turnT c.reverse 4) := by
    have ht := OkC.turn okr 4
    refine ⟨fun q hq => ?_, fun q hq => ?_, ?_⟩
    · rcases List.mem_append.mp hq with h | h
      · exact o.ok q h
      · exact ht q h
    · rcases List.mem_append.mp hq with h | h
      · exact ok.st q h
      · obtain ⟨r, hr, rfl⟩ := List.mem_map.mp h
        exact ok.st r (List.mem_reverse.mp hr)
    · rw [List.length_append, turnT, List.length_map, List.length_reverse]; omega
  have ea : u2 .add (encC c) (encC (turnT c.reverse 4)) = some (encC (c ++ turnT c.reverse 4)) := by
    rw [encC, encC, u_addt (by rw [List.length_map, List.length_map, turnT, List.length_map, List.length_reverse, sz_eq]; omega), encC, List.map_append]
  have e38 : R dr (k + 12) 38 [encC (c ++ turnT c.reverse 4)] = ret (.list ((passT (c ++ turnT c.reverse 4)).map toD)) := lp hback
  have en : u2 .ne (toD (endT (c ++ turnT c.reverse 4))) (.tuple [.int 0, .int 0]) = some (.bool (!decide (endT (c ++ turnT c.reverse 4) = (0, 0)))) := u_neT (α := Spot) (by decide) _ (0, 0)
  rw [end_home o.ok] at en
  have el := last_pass hback
  rw [end_home o.ok] at el
  simp only [eE_or, eE_nt, eE_call, eE_tup, eEs_cons, eEs_nil, eE_o1, eE_o2, eE_v, eE_c, b2.g2, b2.g12, b2.g14, u3, u4, lift_sm, bnd_ret, u_neg, last_pass ok, e39, u_tupl, ee, al, boolM_b, ea, e38, el, en]
  simp
end
end K29P
end RW.PL
/-! k29, plain: _law_courses (2): ends. -/
namespace RW.PL
open PySem PySem.W RW.K29
namespace K29P
theorem e_srtdict {C : Orc} {ρ : Sls} {X : Ex} (l : List Spot) (hl : l.length ≤ 1000000) (hX : evE C X ρ = ret (.list (l.map fun a => .tuple [toD a, .bool true]))) : evE C (.o1 .tup (.o1 .sorted (.o1 .dict X))) ρ = ret (.tuple ((sortT (dedT l)).map toD)) := by
  obtain ⟨kvs, e1, e2⟩ := dict_true l (by rw [sz_eq]; omega)
  have hk : kvs.length ≤ l.length := by rw [← List.length_map (f := Prod.fst), e2]; exact length_dedT l
  have e3 := srt_enc PyData.bool kvs (by rw [sz_eq]; omega)
  rw [e2] at e3
  simp only [eE_o1, hX, bnd_ret, e1, lift_sm, u_srt, e3, u_tupl]
section
variable {dr : List Int} {k n : Nat} {ρ : Sls} {c : Course} {m wr : Int}
theorem rg_law {C : Orc} (b : D0 ρ c m wr) (o : OkD c m wr) : evS C (.rg2 (.o2 .sub (.c (.int 0)) (.v 13)) (.o2 .add (.v 13) (.c (.int 1)))) ρ = ret ((irng (-wr) (wr + 1)).map toD) := by
  have h1 := o.w0
  have h2 := o.w2
  simp only [eS_rg2, eE_o2, eE_v, eE_c, b.g13, lift_sm, bnd_ret, u_sub, u_add]
  rw [show (0 : Int) - wr = -wr by omega, neg_rng h1 (by omega), lift_sm]
def bRow : List Ss := [.asg false (.nm 17) (.o2 .add (.v 17) (.cp [24] (.nm 24) (.rg2 (.o2 .sub (.c (.int 0)) (.v 13)) (.o2 .add (.v 13) (.c (.int 1)))) none (.o2 .add (.v 18) (.tup [.tup [.call 37 [.v 15, .v 24], .v 16]]))))]
theorem f40_8_eq : f40_8 = [.asg false (.nm 17) (.lst []), .for (.nm 18) (.ex (.v 6)) bRow, .asg false (.nm 6) (.v 17)] := rfl
theorem irng5 (o : OkD c m wr) : (irng (-wr) (wr + 1)).length ≤ 5 := by have := o.w2; rw [length_ints]; omega
theorem rows_in (b : D0 ρ c m wr) (o : OkD c m wr) {p : Str} {s : Int} (hp : p ∈ ptsL) {rows : List Course} (hr : rows.length ≤ 125) (hrl : ∀ r ∈ rows, r.length ≤ 10) (g15 : slGet ρ 15 = some (toD p)) (g16 : slGet ρ 16 = some (toD s)) (g17 : slGet ρ 17 = some (.list [])) (X5 : Option PyData) (g5 : slGet ρ 5 = X5) :
    ∃ ρ', loopM (bodyM (R dr (k + 12)) (.nm 18) bRow) (rows.map encC) ρ = ret (.nx ρ') ∧ D0 ρ' c m wr ∧ slGet ρ' 17 = some (.list ((rowS wr rows (p, s)).map encC)) ∧ slGet ρ' 5 = X5 := by
  have L := loop_idx (f := bodyM (R dr (k + 12)) (.nm 18) bRow) (l := rows) (enc := encC) (m := 0)
    (I := fun j ρ => D0 ρ c m wr ∧ slGet ρ 15 = some (toD p) ∧ slGet ρ 16 = some (toD s) ∧ slGet ρ 17 = some (.list ((rowS wr (rows.take j) (p, s)).map encC)) ∧ slGet ρ 5 = X5) ?_ (ρ := ρ) ⟨b, g15, g16, g17, g5⟩
  · obtain ⟨ρ', e, b', _, _, h17, h5⟩ := L
    rw [Nat.zero_add, List.take_of_length_le (Nat.le_refl _)] at h17
    exact ⟨ρ', e, b', h17, h5⟩
  · rintro j hj ρ ⟨b, g15, g16, g17, g5⟩
    rw [Nat.zero_add] at g17 ⊢
    have ht : rows.take (j + 1) = rows.take j ++ [rows[j]] := by rw [List.take_succ, List.getElem?_eq_getElem hj]; rfl
    have hr10 := hrl _ (List.getElem_mem hj)
    have hcount : (rowS wr (rows.take j) (p, s)).length ≤ 125 * 5 := by
      rw [rowS_len, List.length_take]
      exact Nat.mul_le_mul (by omega) (irng5 o)
    rw [ht, rowS, List.flatMap_append]
    generalize rows[j] = row at hr10
    unfold bodyM
    rw [asg_nm (by rw [b.len]; omega), lift_sm, bnd_ret]
    have b := b.set (i := 18) (x := .pu (encC row)) rfl
    have h15 := get_ne (ρ := ρ) (x := .pu (encC row)) (show 18 ≠ 15 by omega)
    have h16 := get_ne (ρ := ρ) (x := .pu (encC row)) (show 18 ≠ 16 by omega)
    have h17 := get_ne (ρ := ρ) (x := .pu (encC row)) (show 18 ≠ 17 by omega)
    have h5 := get_ne (ρ := ρ) (x := .pu (encC row)) (show 18 ≠ 5 by omega)
    have h18 : slGet (ρ.set 18 (.pu (encC row))) 18 = some (encC row) := get_eq (by rw [← List.length_set (i := 18) (a := Sl.pu (encC row)), b.len]; omega)
    rw [g15] at h15
    rw [g16] at h16
    rw [g17] at h17
    rw [g5] at h5
    generalize ρ.set 18 (.pu (encC row)) = ρ at b h15 h16 h17 h18 h5 ⊢
    have hi5 := irng5 o
    have hcp : evE (R dr (k + 12)) (.cp [24] (.nm 24) (.rg2 (.o2 .sub (.c (.int 0)) (.v 13)) (.o2 .add (.v 13) (.c (.int 1)))) none (.o2 .add (.v 18) (.tup [.tup [.call 37 [.v 15, .v 24], .v 16]]))) ρ = ret (.list ((irng (-wr) (wr + 1)).map fun x => encC (row ++ [(onT p x, s)]))) := by
      refine cp_map (l := irng (-wr) (wr + 1)) (enc := toD) (rg_law b o) (by rw [sz_eq]; omega) fun x hx => ?_
      rw [mem_ints] at hx
      have := o.w2
      refine ⟨_, asg_w (by rw [b.len]; omega), ?_⟩
      have i24 : slGet ((ρ.set 24 .no).set 24 (.pu (toD x))) 24 = some (.int x) := get_eqw (by rw [b.len]; omega)
      have e37 : R dr (k + 12) 37 [toD p, .int x] = ret (toD (onT p x)) := l_on (k := k + 10) hp (by omega) (by omega)
      have ea : u2 .add (encC row) (.tuple [.tuple [toD (onT p x), toD s]]) = some (encC (row ++ [(onT p x, s)])) := by
        rw [encC, u_addt (by rw [List.length_map, sz_eq]; simp only [List.length_cons, List.length_nil]; omega), encC, List.map_append]
        rfl
      simp only [eE_o2, eE_tup, eEs_cons, eEs_nil, eE_call, eE_v, i24, get_ne (show 24 ≠ 18 by omega), get_ne (show 24 ≠ 15 by omega), get_ne (show 24 ≠ 16 by omega), h15, h16, h18, lift_sm, bnd_ret, e37, ea]
    refine ⟨ρ.set 17 (.pu (.list ((rowS wr (rows.take j) (p, s)).map encC ++ (irng (-wr) (wr + 1)).map fun x => encC (row ++ [(onT p x, s)])))), ?_, b.set rfl, by rw [get_ne (by omega)]; exact h15, by rw [get_ne (by omega)]; exact h16, ?_, by rw [get_ne (by omega)]; exact h5⟩
    · rw [bRow, eTs_cons, eT_asg, eE_o2, hcp]
      simp only [eE_v, h17, lift_sm, bnd_ret]
      rw [u_addl (by rw [List.length_map, List.length_map, sz_eq]; omega), lift_sm, bnd_ret, stor_f, out_set (by rw [b.len]; omega), bnd_ret, thenM_nx, eTs_nil]
    · rw [get_eq (by rw [b.len]; omega)]
      simp [rowS, List.map_flatMap, List.map_map, Function.comp_def]
theorem partC (b : D0 ρ c m wr) (o : OkD c m wr) {rest : List Ss} {Q : Out → Nat → Prop} (hk : ∀ ρ n, D0 ρ c m wr → slGet ρ 7 = some (.tuple ((eachT c wr).map toD)) → Ev (evTs (R dr (k + 12)) rest ρ) n Q) :
    Ev (evTs (R dr (k + 12)) (s40_6 :: s40_7 :: s40_8 :: s40_9 :: s40_10 :: s40_11 :: rest) ρ) n Q := by
  have ok := o.okl
  have hln := o.ln
  have hi5 := irng5 o
  -- ends
  refine ev_asg (d := .tuple ((endsT c wr).map toD)) (e_srtdict ((irng (-wr) (wr + 1)).map fun x => endT (turnT c x)) (by rw [List.length_map]; omega) ?_) (out_set (by rw [b.len]; omega)) ?_
  · rw [List.map_map]
    refine cp_map (l := irng (-wr) (wr + 1)) (enc := toD) (rg_law b o) (by rw [sz_eq]; omega) fun x hx => ?_
    rw [mem_ints] at hx
    have := o.w2
    refine ⟨_, asg_w (by rw [b.len]; omega), ?_⟩
    have i24 : slGet ((ρ.set 24 .no).set 24 (.pu (toD x))) 24 = some (.int x) := get_eqw (by rw [b.len]; omega)
    have e39 : R dr (k + 12) 39 [encC c, .int x] = ret (encC (turnT c x)) := l_turn (k := k + 9) o.ok (by omega) (by omega) (by omega)
    simp only [eE_tup, eEs_cons, eEs_nil, eE_o1, eE_o2, eE_call, eE_v, eE_c, i24, get_ne (show 24 ≠ 2 by omega), b.g2, lift_sm, bnd_ret, e39, lp (ok.turn x), u_neg, last_pass (ok.turn x)]
    rfl
  have t5 : slGet (ρ.set 5 (stor false (.tuple ((endsT c wr).map toD)))) 5 = some (.tuple ((endsT c wr).map toD)) := get_eq (by rw [b.len]; omega)
  have b1 := b.set (i := 5) (x := stor false (.tuple ((endsT c wr).map toD))) rfl
  generalize ρ.set 5 (stor false (.tuple ((endsT c wr).map toD))) = ρ at b1 t5 ⊢
  -- rows
  refine ev_asg (d := .list [.tuple []]) (by simp only [eE_lst, eE_tup, eEs_cons, eEs_nil, bnd_ret]) (out_set (by rw [b1.len]; omega)) ?_
  have u5 := get_ne (ρ := ρ) (x := stor false (.list [.tuple []])) (show 6 ≠ 5 by omega)
  have u6 : slGet (ρ.set 6 (stor false (.list [.tuple []]))) 6 = some (.list [.tuple []]) := get_eq (by rw [b1.len]; omega)
  have b2 := b1.set (i := 6) (x := stor false (.list [.tuple []])) rfl
  rw [t5] at u5
  generalize ρ.set 6 (stor false (.list [.tuple []])) = ρ at b2 u5 u6 ⊢
  have L := loop_idx (f := bodyM (R dr (k + 12)) (.tp [.nm 15, .nm 16]) f40_8) (l := c) (enc := toD) (m := 0)
    (I := fun j ρ => D0 ρ c m wr ∧ slGet ρ 5 = some (.tuple ((endsT c wr).map toD)) ∧ slGet ρ 6 = some (.list (((c.take j).foldl (rowS wr) [[]]).map encC))) ?_ (ρ := ρ) ⟨b2, u5, u6⟩
  · obtain ⟨ρ', e, b3, v5, v6⟩ := L
    rw [Nat.zero_add, List.take_of_length_le (Nat.le_refl _), show c.foldl (rowS wr) [[]] = rowsT c wr from rfl] at v6
    refine ev_forP (xs := c.map toD) (by simp only [eS_ex, eE_v, b2.g2, lift_sm, bnd_ret, encC, it_t]) e ?_
    have hall := rows_all wr c [[]] 0 o.ok o.st (fun r hr => by rw [List.mem_singleton] at hr; subst hr; exact ⟨fun q hq => (by cases hq), fun q hq => (by cases hq), Nat.le_refl _⟩)
    have hcnt := rows_len5 o.w2 c [[]] 0 (by simp)
    have hcnt2 : (rowsT c wr).length ≤ 5 ^ 4 := Nat.le_trans hcnt (Nat.pow_le_pow_right (by omega) (by omega))
    rw [show 5 ^ 4 = 625 from rfl] at hcnt2
    have okr : ∀ r ∈ rowsT c wr, OkL r := fun r hr => by
      obtain ⟨x1, x2, x3⟩ := hall r hr
      exact ⟨x1, fun q hq => by have := x2 q hq; omega, by omega⟩
    -- each
    refine ev_asg (d := .tuple ((eachT c wr).map toD)) (?_ : _) (out_set (by rw [b3.len]; omega)) ?_
    · rw [each_eq]
      refine e_srtdict ((rowsT c wr).map endT) (by rw [List.length_map]; omega) ?_
      rw [List.map_map]
      refine cp_map (l := rowsT c wr) (enc := encC) ?_ (by rw [sz_eq]; omega) fun r hr => ?_
      · simp only [eS_ex, eE_v, v6, lift_sm, bnd_ret, it_l]
      · refine ⟨_, asg_w (by rw [b3.len]; omega), ?_⟩
        simp only [eE_tup, eEs_cons, eEs_nil, eE_o1, eE_o2, eE_call, eE_v, eE_c, get_eqw (show 18 < ρ'.length by rw [b3.len]; omega), lift_sm, bnd_ret, lp (okr r hr), u_neg, last_pass (okr r hr)]
        rfl
    have w5 := get_ne (ρ := ρ') (x := stor false (.tuple ((eachT c wr).map toD))) (show 7 ≠ 5 by omega)
    have w7 : slGet (ρ'.set 7 (stor false (.tuple ((eachT c wr).map toD)))) 7 = some (.tuple ((eachT c wr).map toD)) := get_eq (by rw [b3.len]; omega)
    have b4 := b3.set (i := 7) (x := stor false (.tuple ((eachT c wr).map toD))) rfl
    rw [v5] at w5
    generalize ρ'.set 7 (stor false (.tuple ((eachT c wr).map toD))) = ρ at b4 w5 w7 ⊢
    have hp401 : (passT c).length ≤ 401 := by
      obtain ⟨_, _, h3⟩ := passT_facts c [(0, 0)] (by simp) ok.ok ok.st
      refine Nat.le_trans h3 ?_
      simp only [List.length_cons, List.length_nil]
      omega
    -- twice
    refine ev_asg (d := .tuple ((crossT c).map toD)) (e_srtdict ((passT c).filter fun s => decide (1 < (cntT (passT c) s : Int))) (by have := List.length_filter_le (fun s => decide (1 < (cntT (passT c) s : Int))) (passT c); omega) ?_) (out_set (by rw [b4.len]; omega)) ?_
    · refine cp_pure (l := passT c) (enc := toD) ?_ (by rw [sz_eq]; omega) fun s hs => ⟨_, asg_w (by rw [b4.len]; omega), ?_, fun _ => ?_⟩
      · simp only [eS_ex, eE_v, b4.g14, lift_sm, bnd_ret, it_l]
      · have ec : u2 .lcount (.list ((passT c).map toD)) (toD s) = some (.int (cntT (passT c) s)) := countIn_c _ _
        simp only [eQ_some, eE_o2, eE_v, eE_c, get_eqw (show 25 < ρ.length by rw [b4.len]; omega), get_ne (show 25 ≠ 14 by omega), b4.g14, lift_sm, bnd_ret, ec, u_gt, boolM_b]
      · simp only [eE_tup, eEs_cons, eEs_nil, eE_v, eE_c, get_eqw (show 25 < ρ.length by rw [b4.len]; omega), lift_sm, bnd_ret]
    have x5 := get_ne (ρ := ρ) (x := stor false (.tuple ((crossT c).map toD))) (show 8 ≠ 5 by omega)
    have x7 := get_ne (ρ := ρ) (x := stor false (.tuple ((crossT c).map toD))) (show 8 ≠ 7 by omega)
    have x8 : slGet (ρ.set 8 (stor false (.tuple ((crossT c).map toD)))) 8 = some (.tuple ((crossT c).map toD)) := get_eq (by rw [b4.len]; omega)
    have b5 := b4.set (i := 8) (x := stor false (.tuple ((crossT c).map toD))) rfl
    rw [w5] at x5
    rw [w7] at x7
    generalize ρ.set 8 (stor false (.tuple ((crossT c).map toD))) = ρ at b5 x5 x7 x8 ⊢
    refine ev_ife_no ?_ (hk ρ n b5 x7)
    have e22 : R dr (k + 12) 22 [encC c, .int wr] = ret (.tuple ((endsT c wr).map toD)) := r_ends (k := k + 8) ok o.w0 (by have := o.w2; omega)
    have e23 : R dr (k + 12) 23 [encC c, .int wr] = ret (.tuple ((eachT c wr).map toD)) := r_each (k := k + 8) o.ok hln o.w0 o.w2
    have e28 : R dr (k + 12) 28 [encC c] = ret (.tuple ((crossT c).map toD)) := r_cross (k := k + 8) ok (by omega)
    have l1 : (endsT c wr).length ≤ 5 := by unfold endsT; rw [sortT_len]; refine Nat.le_trans (length_dedT _) ?_; rw [List.length_map]; exact hi5
    have l2 : (eachT c wr).length ≤ 625 := by rw [each_eq, sortT_len]; refine Nat.le_trans (length_dedT _) ?_; rw [List.length_map]; exact hcnt2
    have l3 : (crossT c).length ≤ 401 := by unfold crossT; rw [sortT_len]; exact Nat.le_trans (length_dedT _) (Nat.le_trans (List.length_filter_le _ _) hp401)
    have al : R dr (k + 12) 32 [.tuple [.tuple ((endsT c wr).map toD), .tuple ((eachT c wr).map toD), .tuple ((crossT c).map toD)], .tuple [.tuple ((endsT c wr).map toD), .tuple ((eachT c wr).map toD), .tuple ((crossT c).map toD)]] = ret (.bool true) :=
      alike_ok (prim := prim dr) (T := tblT tbl) (j := 32) rfl rfl (k + 12) _ (alk_tup (by rw [sz_eq]; simp) fun x hx => by
        simp only [List.mem_cons, List.not_mem_nil, or_false] at hx
        rcases hx with rfl | rfl | rfl
        · exact alk_F (by omega)
        · exact alk_F (by omega)
        · exact alk_F (by omega))
    simp only [eE_nt, eE_call, eE_tup, eEs_cons, eEs_nil, eE_v, b5.g2, b5.g13, x5, x7, x8, lift_sm, bnd_ret, e22, e23, e28, al, boolM_b]
    rfl
  · rintro j hj ρ ⟨b, g5, g6⟩
    rw [Nat.zero_add] at g6 ⊢
    have hq : c[j] ∈ c := List.getElem_mem hj
    have ht : c.take (j + 1) = c.take j ++ [c[j]] := by rw [List.take_succ, List.getElem?_eq_getElem hj]; rfl
    have hp := (o.ok _ hq).1
    rw [ht, List.foldl_append]
    have hc3 : ((c.take j).foldl (rowS wr) [[]]).length ≤ 125 := by
      have h1 := rows_len5 o.w2 (c.take j) [[]] 0 (by simp)
      refine Nat.le_trans h1 ?_
      rw [List.length_take]
      exact Nat.le_trans (Nat.pow_le_pow_right (by omega) (show 0 + min j c.length ≤ 3 by omega)) (by decide)
    have hall := rows_all wr (c.take j) [[]] 0 (fun q hq => o.ok q (List.mem_of_mem_take hq)) (fun q hq => o.st q (List.mem_of_mem_take hq)) (fun r hr => by rw [List.mem_singleton] at hr; subst hr; exact ⟨fun q hq => (by cases hq), fun q hq => (by cases hq), Nat.le_refl _⟩)
    generalize c[j] = q at hp
    obtain ⟨p, s⟩ := q
    generalize hrows : (c.take j).foldl (rowS wr) [[]] = rows at g6 hc3 hall
    have hrl : ∀ r ∈ rows, r.length ≤ 10 := fun r hr => by
      have := (hall r hr).2.2
      rw [List.length_take] at this
      omega
    unfold bodyM
    rw [asg_pair (p, s) (by rw [b.len]; omega) (by rw [b.len]; omega), lift_sm, bnd_ret]
    have b1 : D0 ((ρ.set 15 (.pu (toD p))).set 16 (.pu (toD s))) c m wr := (b.set rfl).set rfl
    have h15 : slGet ((ρ.set 15 (.pu (toD p))).set 16 (.pu (toD s))) 15 = some (toD p) := by rw [get_ne (by omega)]; exact get_eq (by rw [b.len]; omega)
    have h16 : slGet ((ρ.set 15 (.pu (toD p))).set 16 (.pu (toD s))) 16 = some (toD s) := get_eq (by rw [List.length_set, b.len]; omega)
    have h5 : slGet ((ρ.set 15 (.pu (toD p))).set 16 (.pu (toD s))) 5 = some (.tuple ((endsT c wr).map toD)) := by rw [get_ne (by omega), get_ne (by omega)]; exact g5
    have h6 : slGet ((ρ.set 15 (.pu (toD p))).set 16 (.pu (toD s))) 6 = some (.list (rows.map encC)) := by rw [get_ne (by omega), get_ne (by omega)]; exact g6
    show ∃ ρ', evTs _ f40_8 ((ρ.set 15 (.pu (toD p))).set 16 (.pu (toD s))) = ret (.nx ρ') ∧ _
    generalize ((ρ.set 15 (.pu (toD p))).set 16 (.pu (toD s))) = ρ at b1 h15 h16 h5 h6 ⊢
    have b2 := b1.set (i := 17) (x := stor false (.list [])) rfl
    have i15 := get_ne (ρ := ρ) (x := stor false (.list [])) (show 17 ≠ 15 by omega)
    have i16 := get_ne (ρ := ρ) (x := stor false (.list [])) (show 17 ≠ 16 by omega)
    have i5 := get_ne (ρ := ρ) (x := stor false (.list [])) (show 17 ≠ 5 by omega)
    have i6 := get_ne (ρ := ρ) (x := stor false (.list [])) (show 17 ≠ 6 by omega)
    have i17 : slGet (ρ.set 17 (stor false (.list []))) 17 = some (.list []) := get_eq (by rw [b1.len]; omega)
    rw [h15] at i15
    rw [h16] at i16
    rw [h5] at i5
    rw [h6] at i6
    obtain ⟨ρ2, e2, b3, j17, j5⟩ := rows_in (dr := dr) (k := k) b2 o hp hc3 hrl i15 i16 i17 _ i5
    refine ⟨ρ2.set 6 (stor false (.list ((rowS wr rows (p, s)).map encC))), ?_, b3.set rfl, by rw [get_ne (by omega)]; exact j5, get_eq (by rw [b3.len]; omega)⟩
    rw [f40_8_eq, eTs_cons, eT_asg, eE_lst, eEs_nil, bnd_ret, bnd_ret, out_set (by rw [b1.len]; omega), bnd_ret, thenM_nx, eTs_cons, eT_for]
    simp only [eS_ex, eE_v, i6, lift_sm, bnd_ret, it_l, e2, thenM_nx]
    rw [eTs_cons, eT_asg]
    simp only [eE_v, j17, lift_sm, bnd_ret]
    rw [out_set (by rw [b3.len]; omega), bnd_ret, thenM_nx, eTs_nil]
end
end K29P
end RW.PL
/-! k29, plain: _law_courses (3): a goal; the end. -/
namespace RW.PL
open PySem PySem.W RW.K29
namespace K29P
section
variable {dr : List Int} {k n : Nat} {ρ : Sls} {c : Course} {m wr : Int}
structure D1 (ρ : Sls) (c : Course) (m wr : Int) (g : Spot) : Prop extends D0 ρ c m wr where
  g19 : slGet ρ 19 = some (toD g)
theorem D1.set' {g : Spot} (b : D1 ρ c m wr g) {i : Nat} {x : Sl} (hi : dase i = false) (h19 : i ≠ 19) : D1 (ρ.set i x) c m wr g := ⟨b.toD0.set hi, by rw [get_ne h19]; exact b.g19⟩
theorem each_ne (o : OkD c m wr) : eachT c wr ≠ [] := fun e => by
  have h := each_mem wr c [(0, 0)] [[]] (fun x => by simp [endT])
  have h2 := rows_ne (w := wr) o.w0 c [[]] (by simp)
  obtain ⟨r, hr⟩ := List.exists_mem_of_ne_nil _ h2
  have := (h (endT r)).mpr (List.mem_map_of_mem hr)
  rw [show c.foldl (eachS wr) [(0, 0)] = eachT c wr from rfl, e] at this
  cases this
theorem each_le (o : OkD c m wr) {g : Spot} (hg : g ∈ eachT c wr) : g.1.natAbs ≤ 16 ∧ g.2.natAbs ≤ 16 := by
  rw [each_eq, mem_sortT, mem_dedT] at hg
  obtain ⟨r, hr, rfl⟩ := List.mem_map.mp hg
  have hall := rows_all wr c [[]] 0 o.ok o.st (fun r hr => by rw [List.mem_singleton] at hr; subst hr; exact ⟨fun q hq => (by cases hq), fun q hq => (by cases hq), Nat.le_refl _⟩) r hr
  obtain ⟨h1, h2, h3⟩ := hall
  have := o.ln
  obtain ⟨e1, e2⟩ := end_leB 4 r (0, 0) h1 h2
  simp only [Int.natAbs_zero, Nat.zero_add] at e1 e2
  have e3 : endT r = r.foldl legT (0, 0) := rfl
  rw [e3]
  omega
theorem partD1 (b : D0 ρ c m wr) (o : OkD c m wr) (g7 : slGet ρ 7 = some (.tuple ((eachT c wr).map toD))) {rest : List Ss} {Q : Out → Nat → Prop}
    (hk : ∀ ρ g n, D1 ρ c m wr g → g.1.natAbs ≤ 16 → g.2.natAbs ≤ 16 → slGet ρ 20 = some (.list []) → Ev (evTs (R dr (k + 12)) rest ρ) n Q) : Ev (evTs (R dr (k + 12)) (s40_12 :: rest) ρ) n Q := by
  refine ev_parE ?_
  rw [eEs_cons, eE_call]
  simp only [bnd_assoc, eEs_cons, eEs_nil, eE_w, eE_lst, eE_call, eE_o1, eE_v, b.g0, g7, u_lst_t, lift_sm, bnd_ret]
  refine ev_bnd (pk (by simpa using each_ne o) fun x n1 hx => ?_)
  obtain ⟨g1, hg1, rfl⟩ := List.mem_map.mp hx
  simp only [eE_tup, eEs_cons, eEs_nil, eE_o2, bnd_assoc, eE_c]
  refine ev_bnd (nx b.g0 (by omega) fun i n2 i0 i9 => ?_)
  simp only [bnd_ret, u_sub, lift_sm, bnd_assoc]
  refine ev_bnd (nx b.g0 (by omega) fun j n3 j0 j9 => ?_)
  simp only [bnd_ret, u_sub, lift_sm]
  refine ev_bnd (pk (l := [toD g1, .tuple [.int (i - 4), .int (j - 4)]]) (by simp) fun x n4 hx => ?_)
  have hx2 : ∃ g : Spot, x = toD g ∧ g.1.natAbs ≤ 16 ∧ g.2.natAbs ≤ 16 := by
    simp only [List.mem_cons, List.not_mem_nil, or_false] at hx
    rcases hx with rfl | rfl
    · exact ⟨g1, rfl, each_le o hg1⟩
    · exact ⟨(i - 4, j - 4), rfl, by simp only; omega, by simp only; omega⟩
  obtain ⟨g, rfl, hg⟩ := hx2
  refine ev_ret ⟨(ρ.set 19 (.pu (toD g))).set 20 (.pu (.list [])), by simp [parS, b.len], ?_⟩
  exact hk _ g n4 ⟨(b.set rfl).set rfl, by rw [get_ne (by omega)]; exact get_eq (by rw [b.len]; omega)⟩ hg.1 hg.2 (get_eq (by rw [List.length_set, b.len]; omega))
theorem partD2 {g : Spot} (b : D1 ρ c m wr g) (o : OkD c m wr) (g20 : slGet ρ 20 = some (.list [])) {rest : List Ss} {Q : Out → Nat → Prop}
    (hk : ∀ ρ n, D1 ρ c m wr g → slGet ρ 20 = some (.list ((legsT c g).map toD)) → slGet ρ 10 = some (.tuple ((whichT c g).map toD)) → Ev (evTs (R dr (k + 12)) rest ρ) n Q) : Ev (evTs (R dr (k + 12)) (s40_13 :: s40_14 :: rest) ρ) n Q := by
  have ok := o.okl
  have hln := o.ln
  have L := loop_idx (f := bodyM (R dr (k + 12)) (.nm 9) f40_13) (l := List.range c.length) (enc := fun (i : Nat) => toD (i : Int)) (m := 0)
    (I := fun j ρ => D1 ρ c m wr g ∧ slGet ρ 20 = some (.list (((List.range j).flatMap (legsAt c g)).map toD))) ?_ (ρ := ρ) ⟨b, g20⟩
  · obtain ⟨ρ', e, b1, h20⟩ := L
    rw [List.length_range, Nat.zero_add] at h20
    refine ev_forP (xs := (List.range c.length).map fun (i : Nat) => toD (i : Int)) ?_ e ?_
    · simp only [eS_rg1, eE_o1, eE_v, b.g2, lift_sm, bnd_ret, encC, u_lent, List.length_map, rng_n (show c.length ≤ 100000000 by omega)]
    refine ev_asg (d := .tuple ((whichT c g).map toD)) ?_ (out_set (by rw [b1.len]; omega)) (hk _ n (b1.set' rfl (by omega)) (by rw [get_ne (by omega)]; exact h20) (get_eq (by rw [b1.len]; omega)))
    rw [eE_o1, cp_pure (l := irng (-4) 4) (enc := toD) (p := fun x => decide (endT (turnT c x) = g)) (g := toD), bnd_ret, u_tupl, lift_sm]
    · rfl
    · simp only [eS_rg2, eE_o1, eE_c, bnd_ret, u_neg, lift_sm, rng_t (a := -4) (b := 4) (by omega) (by omega) (by omega) (by omega)]
    · rw [length_ints, sz_eq]; decide
    · intro x hx
      rw [mem_ints] at hx
      refine ⟨_, asg_w (by rw [b1.len]; omega), ?_, fun _ => by simp only [eE_v, get_eqw (show 24 < ρ'.length by rw [b1.len]; omega), lift_sm]⟩
      have i24 : slGet ((ρ'.set 24 .no).set 24 (.pu (toD x))) 24 = some (.int x) := get_eqw (by rw [b1.len]; omega)
      have e39 : R dr (k + 12) 39 [encC c, .int x] = ret (encC (turnT c x)) := l_turn (k := k + 9) o.ok (by omega) (by omega) (by omega)
      simp only [eQ_some, eE_o1, eE_o2, eE_call, eEs_cons, eEs_nil, eE_v, eE_c, i24, get_ne (show 24 ≠ 2 by omega), get_ne (show 24 ≠ 19 by omega), b1.g2, b1.g19, lift_sm, bnd_ret, e39, lp (ok.turn x), u_neg, last_pass (ok.turn x), u_eqT (α := Spot) (by decide), boolM_b]
  · rintro j hj ρ ⟨b, h20⟩
    simp only [List.length_range] at hj
    rw [Nat.zero_add] at h20 ⊢
    have hll := legs_len c g j
    have hl8 := legsAt_len c g j
    rw [flat_succ]
    have ej : toD (((List.range c.length)[j] : Nat) : Int) = PyData.int (j : Int) := by simp [td_i]
    unfold bodyM
    rw [ej, asg_nm (by rw [b.len]; omega), lift_sm, bnd_ret]
    have b := b.set' (i := 9) (x := .pu (.int (j : Int))) rfl (by omega)
    have t20 := get_ne (ρ := ρ) (x := .pu (.int (j : Int))) (show 9 ≠ 20 by omega)
    have t9 : slGet (ρ.set 9 (.pu (.int (j : Int)))) 9 = some (.int (j : Int)) := get_eq (by rw [← List.length_set (i := 9) (a := Sl.pu (.int (j : Int))), b.len]; omega)
    rw [h20] at t20
    generalize ρ.set 9 (.pu (.int (j : Int))) = ρ at b t20 t9 ⊢
    have eix : u2 .ix (encC c) (.int (j : Int)) = some (toD (nthC c j)) := by
      rw [encC, u_ixtT hj]
      have := (nthC_mem hj).2
      rw [List.getElem?_eq_getElem hj] at this
      rw [Option.some.inj this]
    have hcp : evE (R dr (k + 12)) (.cp [15] (.nm 15) (.ex (.v 1)) (some (.an (.o2 .ne (.v 15) (.o2 .ix (.o2 .ix (.v 2) (.v 9)) (.c (.int 0)))) (.o2 .eq (.o2 .ix (.call 38 [.o2 .add (.o2 .add (.sl (.v 2) none (some (.v 9))) (.tup [.tup [.v 15, .o2 .ix (.o2 .ix (.v 2) (.v 9)) (.c (.int 1))]])) (.sl (.v 2) (some (.o2 .add (.v 9) (.c (.int 1)))) none)]) (.o1 .neg (.c (.int 1)))) (.v 19)))) (.tup [.v 9, .v 15])) ρ = ret (.list ((legsAt c g j).map toD)) := by
      rw [legsAt, List.map_map]
      refine cp_pure (l := ptsL) (enc := toD) (p := fun o => !decide (o = (nthC c j).1) && decide (endT (swapC c j o) = g)) ?_ (by decide) fun p hp => ⟨_, asg_w (by rw [b.len]; omega), ?_, fun _ => ?_⟩
      · simp only [eS_ex, eE_v, b.g1, lift_sm, bnd_ret, it_l]
      · have i15 : slGet ((ρ.set 15 .no).set 15 (.pu (toD p))) 15 = some (toD p) := get_eqw (by rw [b.len]; omega)
        have b' : D1 ((ρ.set 15 .no).set 15 (.pu (toD p))) c m wr g := (b.set' rfl (by omega)).set' rfl (by omega)
        have i9 : slGet ((ρ.set 15 .no).set 15 (.pu (toD p))) 9 = some (.int (j : Int)) := by rw [get_ne (by omega), get_ne (by omega)]; exact t9
        generalize ((ρ.set 15 .no).set 15 (.pu (toD p))) = ρ at i15 b' i9 ⊢
        have hsw := e_swap (C := R dr (k + 12)) (ρ := ρ) (c := c) (by omega) hj (o := p) (A := .v 2) (B := .v 9) (D := .tup [.v 15, .o2 .ix (.o2 .ix (.v 2) (.v 9)) (.c (.int 1))])
          (by simp only [eE_v, b'.g2, lift_sm]) (by simp only [eE_v, i9, lift_sm]) (by simp only [eE_tup, eEs_cons, eEs_nil, eE_o2, eE_v, eE_c, i15, b'.g2, i9, lift_sm, bnd_ret, eix, u_ix1]; rfl)
        have okw : OkL (swapC c j p) := by
          refine ⟨swapC_ok o.ok hj hp, fun q hq => ?_, by rw [swapC_len hj]; omega⟩
          unfold swapC at hq
          simp only [List.mem_append, List.mem_singleton] at hq
          rcases hq with (hq | rfl) | hq
          · exact ok.st q (List.mem_of_mem_take hq)
          · have h100 := ok.st _ (nthC_mem hj).1
            exact h100
          · exact ok.st q (List.mem_of_mem_drop hq)
        have hcall : evE (R dr (k + 12)) (.call 38 [.o2 .add (.o2 .add (.sl (.v 2) none (some (.v 9))) (.tup [.tup [.v 15, .o2 .ix (.o2 .ix (.v 2) (.v 9)) (.c (.int 1))]])) (.sl (.v 2) (some (.o2 .add (.v 9) (.c (.int 1)))) none)]) ρ = ret (.list ((passT (swapC c j p)).map toD)) := by
          rw [eE_call, eEs_cons, hsw]
          simp only [eEs_nil, bnd_ret, lp okw]
        simp only [eQ_some, eE_an, hcall, eE_o1, eE_o2, eE_v, eE_c, i15, b'.g2, i9, b'.g19, lift_sm, bnd_ret, eix, u_ix0, u_neT (α := Str) (by decide), boolM_b, u_neg, last_pass okw, u_eqT (α := Spot) (by decide)]
        cases hd1 : decide (p = (nthC c j).1) <;> cases hd2 : decide (endT (swapC c j p) = g) <;> simp
      · simp only [eE_tup, eEs_cons, eEs_nil, eE_v, get_eqw (show 15 < ρ.length by rw [b.len]; omega), get_ne (show 15 ≠ 9 by omega), t9, lift_sm, bnd_ret]
        rfl
    refine ⟨ρ.set 20 (.pu (.list (((List.range j).flatMap (legsAt c g) ++ legsAt c g j).map toD))), ?_, b.set' rfl (by omega), get_eq (by rw [b.len]; omega)⟩
    rw [f40_13, eTs_cons, eT_asg, eE_o2, hcp]
    simp only [eE_v, t20, lift_sm, bnd_ret]
    rw [u_addl (by rw [List.length_map, List.length_map, sz_eq]; omega), lift_sm, bnd_ret, stor_f, out_set (by rw [b.len]; omega), bnd_ret, thenM_nx, eTs_nil, List.map_append]
theorem partE {g : Spot} (b : D1 ρ c m wr g) (o : OkD c m wr) (hg1 : g.1.natAbs ≤ 16) (hg2 : g.2.natAbs ≤ 16) (g20 : slGet ρ 20 = some (.list ((legsT c g).map toD))) (g10 : slGet ρ 10 = some (.tuple ((whichT c g).map toD))) {Q : Out → Nat → Prop} (hk : ∀ n, Q (.rt (.bool true)) n) :
    Ev (evTs (R dr (k + 12)) [s40_15, s40_16, s40_17, s40_18] ρ) n Q := by
  have ok := o.okl
  have hln := o.ln
  have e21 : R dr (k + 12) 21 [toD g] = ret (encC (wayT g)) := r_straight (k := k + 10) g
  refine ev_par (ds := [encC (wayT g), .int (absI g.1), .int (absI g.2)]) (ρ' := ((ρ.set 21 (.pu (encC (wayT g)))).set 22 (.pu (.int (absI g.1)))).set 23 (.pu (.int (absI g.2)))) ?_ ?_ ?_
  · simp only [eEs_cons, eEs_nil, eE_call, eE_o1, eE_o2, eE_v, eE_c, b.g19, lift_sm, bnd_ret, e21, u_ix0, u_ix1, td_i, u_abs]
    rfl
  · simp [parS, b.len, encC, stor, mutD]
  have b1 : D1 (((ρ.set 21 (.pu (encC (wayT g)))).set 22 (.pu (.int (absI g.1)))).set 23 (.pu (.int (absI g.2)))) c m wr g := ((b.set' rfl (by omega)).set' rfl (by omega)).set' rfl (by omega)
  have t10 : slGet (((ρ.set 21 (.pu (encC (wayT g)))).set 22 (.pu (.int (absI g.1)))).set 23 (.pu (.int (absI g.2)))) 10 = some (.tuple ((whichT c g).map toD)) := by rw [get_ne (by omega), get_ne (by omega), get_ne (by omega)]; exact g10
  have t20 : slGet (((ρ.set 21 (.pu (encC (wayT g)))).set 22 (.pu (.int (absI g.1)))).set 23 (.pu (.int (absI g.2)))) 20 = some (.list ((legsT c g).map toD)) := by rw [get_ne (by omega), get_ne (by omega), get_ne (by omega)]; exact g20
  have t21 : slGet (((ρ.set 21 (.pu (encC (wayT g)))).set 22 (.pu (.int (absI g.1)))).set 23 (.pu (.int (absI g.2)))) 21 = some (encC (wayT g)) := by rw [get_ne (by omega), get_ne (by omega)]; exact get_eq (by rw [b.len]; omega)
  have t22 : slGet (((ρ.set 21 (.pu (encC (wayT g)))).set 22 (.pu (.int (absI g.1)))).set 23 (.pu (.int (absI g.2)))) 22 = some (.int (absI g.1)) := by rw [get_ne (by omega)]; exact get_eq (by rw [List.length_set, b.len]; omega)
  have t23 : slGet (((ρ.set 21 (.pu (encC (wayT g)))).set 22 (.pu (.int (absI g.1)))).set 23 (.pu (.int (absI g.2)))) 23 = some (.int (absI g.2)) := get_eq (by rw [List.length_set, List.length_set, b.len]; omega)
  generalize (((ρ.set 21 (.pu (encC (wayT g)))).set 22 (.pu (.int (absI g.1)))).set 23 (.pu (.int (absI g.2)))) = ρ at b1 t10 t20 t21 t22 t23 ⊢
  have e24 : R dr (k + 12) 24 [encC c, toD g] = ret (.tuple ((whichT c g).map toD)) := r_which (k := k + 8) ok g
  have e25 : R dr (k + 12) 25 [encC c, toD g] = ret (.tuple ((legsT c g).map toD)) := r_leg (k := k + 8) o.ok (by omega) g
  have lw : (whichT c g).length ≤ 8 := by unfold whichT; refine Nat.le_trans (List.length_filter_le _ _) ?_; rw [length_ints]; decide
  have ll : (legsT c g).length ≤ 32 := Nat.le_trans (legs_len c g c.length) (by omega)
  have al : R dr (k + 12) 32 [.tuple [.tuple ((whichT c g).map toD), .tuple ((legsT c g).map toD)], .tuple [.tuple ((whichT c g).map toD), .tuple ((legsT c g).map toD)]] = ret (.bool true) :=
    alike_ok (prim := prim dr) (T := tblT tbl) (j := 32) rfl rfl (k + 12) _ (alk_tup (by rw [sz_eq]; simp) fun x hx => by
      simp only [List.mem_cons, List.not_mem_nil, or_false] at hx
      rcases hx with rfl | rfl
      · exact alk_Z (by omega)
      · exact alk_tmap (by rw [sz_eq]; omega) fun q _ => alk_tup (by rw [sz_eq]; simp) fun x hx => by
          simp only [List.mem_cons, List.not_mem_nil, or_false] at hx
          rcases hx with rfl | rfl
          · exact alk_int
          · exact alk_str)
  refine ev_ife_no ?_ ?_
  · simp only [eE_nt, eE_call, eE_tup, eEs_cons, eEs_nil, eE_o1, eE_v, b1.g2, b1.g19, t10, t20, lift_sm, bnd_ret, e24, e25, u_tupl, al, boolM_b]
    rfl
  have okw := way_ok (g := g) (by omega) (by omega)
  have hwl := okw.ln
  refine ev_asg (d := .list ((slantT g).map toD)) ?_ (out_set (by rw [b1.len]; omega)) ?_
  · refine cp_pure (l := wayT g) (enc := toD) ?_ (by rw [sz_eq]; omega) fun q hq => ⟨_, asg_w (by rw [b1.len]; omega), ?_, fun _ => by simp only [eE_v, get_eqw (show 24 < ρ.length by rw [b1.len]; omega), lift_sm]⟩
    · simp only [eS_ex, eE_v, t21, lift_sm, bnd_ret, encC, it_t]
    · have hl2 := pt_len q.1 (okw.ok q hq).1
      have el : u1 .len (toD q.1) = some (.int (q.1.length : Int)) := by
        show (if fit q.1.length then some (PyData.int q.1.length) else none) = _
        unfold fit
        rw [if_pos (by rw [decide_eq_true_eq, sz_eq]; omega)]
      simp only [eQ_some, eE_o1, eE_o2, eE_v, eE_c, get_eqw (show 24 < ρ.length by rw [b1.len]; omega), lift_sm, bnd_ret, u_ix0, el, u_eqi, boolM_b]
  have u21 := get_ne (ρ := ρ) (x := stor false (.list ((slantT g).map toD))) (show 11 ≠ 21 by omega)
  have u22 := get_ne (ρ := ρ) (x := stor false (.list ((slantT g).map toD))) (show 11 ≠ 22 by omega)
  have u23 := get_ne (ρ := ρ) (x := stor false (.list ((slantT g).map toD))) (show 11 ≠ 23 by omega)
  have u11 : slGet (ρ.set 11 (stor false (.list ((slantT g).map toD)))) 11 = some (.list ((slantT g).map toD)) := get_eq (by rw [b1.len]; omega)
  have b2 := b1.set' (i := 11) (x := stor false (.list ((slantT g).map toD))) rfl (by omega)
  rw [t21] at u21
  rw [t22] at u22
  rw [t23] at u23
  generalize ρ.set 11 (stor false (.list ((slantT g).map toD))) = ρ at b2 u11 u21 u22 u23 ⊢
  refine ev_ret' (d := .bool true) ?_ (hk n)
  have hsum : evE (R dr (k + 12)) (.cp [15, 16] (.tp [.nm 15, .nm 16]) (.ex (.v 21)) none (.v 16)) ρ = ret (.list (((wayT g).map Prod.snd).map PyData.int)) := by
    rw [List.map_map]
    refine cp_map (l := wayT g) (enc := toD) ?_ (by rw [sz_eq]; omega) fun q hq => ⟨_, asg_pw q (by rw [b2.len]; omega) (by rw [b2.len]; omega), ?_⟩
    · simp only [eS_ex, eE_v, u21, lift_sm, bnd_ret, encC, it_t]
    · rw [eE_v, get_eq (by rw [List.length_set, List.length_set, List.length_set, b2.len]; omega), lift_sm]
      rfl
  have ecut : cutL ((wayT g).map toD) none (some ((slantT g).length : Int)) = (slantT g).map toD := by rw [cut_to, ← List.map_take, slant_take]
  have e1 : evE (R dr (k + 12)) (.o2 .eq (.o2 .ix (.call 38 [.v 21]) (.o1 .neg (.c (.int 1)))) (.v 19)) ρ = ret (.bool true) := by
    simp only [eE_o1, eE_o2, eE_call, eEs_cons, eEs_nil, eE_v, eE_c, u21, b2.g19, lift_sm, bnd_ret, lp okw, u_neg, last_pass okw, u_eqT (α := Spot) (by decide), way_end, decide_true]
  have e2 : evE (R dr (k + 12)) (.o2 .eq (.o1 .sum (.cp [15, 16] (.tp [.nm 15, .nm 16]) (.ex (.v 21)) none (.v 16))) (.o2 .max (.v 22) (.v 23))) ρ = ret (.bool true) := by
    rw [eE_o2, eE_o1, hsum, bnd_ret, u_sum, lift_sm, bnd_ret, way_sum]
    simp only [eE_o2, eE_v, u22, u23, lift_sm, bnd_ret, u_max, u_eqi]
    rw [show (if absI g.2 > absI g.1 then absI g.2 else absI g.1) = maxI (absI g.1) (absI g.2) from rfl, decide_eq_true rfl]
  have e3 : evE (R dr (k + 12)) (.o2 .eq (.o1 .len (.v 21)) (.o2 .add (.ite (.o2 .gt (.o2 .min (.v 22) (.v 23)) (.c (.int 0))) (.c (.int 1)) (.c (.int 0))) (.ite (.o2 .ne (.v 22) (.v 23)) (.c (.int 1)) (.c (.int 0))))) ρ = ret (.bool true) := by
    have hlen := way_len g
    simp only [eE_o1, eE_o2, eE_ite, eE_v, eE_c, u21, u22, u23, lift_sm, bnd_ret, encC, u_lent, List.length_map, u_min, u_gt, u_nei, boolM_b]
    rw [show (if absI g.2 < absI g.1 then absI g.2 else absI g.1) = minI (absI g.1) (absI g.2) from rfl]
    by_cases c1 : 0 < minI (absI g.1) (absI g.2)
    · rw [if_pos c1] at hlen
      by_cases c2 : absI g.1 = absI g.2
      · rw [if_pos c2] at hlen
        simp only [decide_eq_true c1, decide_eq_true c2, Bool.not_true, Bool.false_eq_true, if_true, if_false, bnd_ret, u_add, lift_sm, u_eqi, hlen]
        rfl
      · rw [if_neg c2] at hlen
        simp only [decide_eq_true c1, decide_eq_false c2, Bool.not_false, if_true, bnd_ret, u_add, lift_sm, u_eqi, hlen]
        rfl
    · rw [if_neg c1] at hlen
      by_cases c2 : absI g.1 = absI g.2
      · rw [if_pos c2] at hlen
        simp only [decide_eq_false c1, decide_eq_true c2, Bool.not_true, Bool.false_eq_true, if_false, bnd_ret, u_add, lift_sm, u_eqi, hlen]
        rfl
      · rw [if_neg c2] at hlen
        simp only [decide_eq_false c1, decide_eq_false c2, Bool.not_false, Bool.false_eq_true, if_true, if_false, bnd_ret, u_add, lift_sm, u_eqi, hlen]
        rfl
  have e4 : evE (R dr (k + 12)) (.o2 .eq (.v 11) (.sl (.o1 .lst (.v 21)) none (some (.o1 .len (.v 11))))) ρ = ret (.bool true) := by
    simp only [eE_o1, eE_o2, eE_sl, eE_v, u11, u21, lift_sm, bnd_ret, eO_none, eO_some, encC, u_lst_t, u_lenl, List.length_map, intO, Option.bind_some, sliceD, ecut, u_eqL (α := Str × Int) (by decide), decide_true]
  simp only [eE_an, e1, e2, e3, e4, bnd_ret, boolM_b, if_true]
theorem courses_ok (dr : List Int) (k n : Nat) : Ev (R dr (k + 13) 40 [.none]) n fun d _ => d = .bool true := by
  refine fn_ev (F := d40.f) (ρ := .wr :: List.replicate 25 .no) rfl rfl rfl ?_
  show Ev (evTs _ b40 _) n _
  rw [b40_eq]
  refine partA fun ρ c m wr n b o => partB b o fun ρ n b => partC b o fun ρ n b g7 => partD1 b o g7 fun ρ g n b h1 h2 g20 => partD2 b o g20 fun ρ n b g20 g10 => partE b o h1 h2 g20 g10 fun n => ⟨_, rfl, rfl⟩
end
end K29P
end RW.PL
/-! k29, plain: law. -/
namespace RW.PL
open PySem PySem.W RW.K29
namespace K29P
def bTurn : List Ss := [.ife (.or (.nt (.call 35 [.w 1])) (.nt (.call 40 [.w 1]))) [.ret (.c (.bool false))] []]
def bLaw : List Ss := [.for (.nm 2) (.rg1 (.c (.int 4))) bTurn, .ret (.c (.bool true))]
theorem law_true (dr : List Int) : ∃ m, evTs (R dr 30) bLaw [.no, .wr, .no] 0 = some (.rt (.bool true), m) := by
  have h : Ev (evTs (R dr 30) bLaw [.no, .wr, .no]) 0 fun o _ => o = .rt (.bool true) := by
    refine ev_for (xs := (List.range 4).map fun (i : Nat) => toD (i : Int)) ?_ ?_
    · simp only [eS_rg1, eE_c, bnd_ret]
      rw [show (PyData.int 4) = .int ((4 : Nat) : Int) from rfl, rng_n (by omega), lift_sm]
    refine (loop_ev (pre := []) (l := List.range 4) (enc := fun (i : Nat) => toD (i : Int)) (I := fun _ ρ _ => ∃ x, ρ = [.no, .wr, x]) ?_ ⟨_, rfl⟩).mono ?_
    · rintro p a q _ ρ n ⟨x, rfl⟩
      unfold bodyM
      rw [asg_nm (by simp), lift_sm, bnd_ret]
      simp only [List.set_cons_succ, List.set_cons_zero]
      rw [bTurn, eTs_cons, eT_ife, eE_or, eE_nt, eE_nt, eE_call, eE_call]
      simp only [eEs_cons, eEs_nil, eE_w, slW, List.getElem?_cons_zero, List.getElem?_cons_succ, lift_sm, bnd_ret, bnd_assoc]
      refine ev_bnd ((bells_ok dr 17 n).mono ?_)
      rintro _ n1 rfl
      simp only [boolM_b, bnd_ret, Bool.not_true, Bool.false_eq_true, if_false, bnd_assoc]
      refine ev_bnd ((courses_ok dr 17 n1).mono ?_)
      rintro _ n2 rfl
      simp only [boolM_b, bnd_ret, Bool.not_true, Bool.false_eq_true, if_false, eTs_nil, thenM_nx]
      exact ev_ret ⟨_, rfl, _, rfl⟩
    · rintro _ n ⟨ρ, rfl, x, rfl⟩
      refine ⟨_, rfl, ev_ret' (by rw [eE_c]) rfl⟩
  obtain ⟨o, m, e, rfl⟩ := h
  exact ⟨m, e⟩
theorem draws_true (ns : List Int) (hn : ns.length ≤ 63) : ∃ dr : List Int, dr.length ≤ 100000 ∧ R [] 30 29 [.list (ns.map .int), .int 500] 0 = some (.list (dr.map .int), 0) := by
  obtain ⟨dr, h1, h2⟩ := draws_ok (R [] 29) ns hn 500 (by omega)
  refine ⟨dr, h1, ?_⟩
  have e : R [] 30 29 [.list (ns.map .int), .int 500] = ret (.list (dr.map .int)) := fret (F := d29.f) (ρ := [.pu (.list (ns.map PyData.int)), .pu (.int 500), .no, .no, .no, .no, .no, .no]) rfl rfl rfl h2
  rw [e]
  rfl
end K29P
end RW.PL
open PySem PySem.W PyProof.Rows
namespace RW
open PySem.Spec L2
theorem sqF_of {K : PySem.W.Frag} {a : Addr} {its : Array Value} {n : Nat} {sl : Array (Option Value)} {xs : List V} (h : K.lookup a = some ⟨.type "tuple", none, .seq its n, sl⟩) (hs : its.size ≤ sizeLine) (r : Vals xs its.toList) (H : Hp) : SqF K H a xs :=
  ⟨.inr ⟨_, its, n, h, rfl, rfl, hs, r⟩, .inr ⟨_, h, rfl⟩⟩
theorem vInt (i : Int) (t : _) : RelV (.int i) (.int i t) := ⟨t, rfl⟩
theorem vRef (a : Addr) : RelV (.ref a) (.ref a) := rfl
theorem vStr (i : Str) (t : _) : RelV (.str i) (.str i t) := ⟨t, rfl⟩
/-- .. told with how its arguments are bound -/
def HasB (K : PySem.W.Frag) (mg : Str → Option Value) (x : Str) (st : Stmt) (ps : List Str) : Prop := ∃ f fd, Fun K x x st f fd ∧ mg x = some (.ref f) ∧ ∀ us : List Value, us.length = ps.length → bindArgs fd ⟨us, []⟩ = pure (ps.zip us)
theorem hasB {K : PySem.W.Frag} {h : Heap} {mg : Str → Option Value} {x : Str} {st : Stmt} {ps : List Str} {f : Addr} {oc kV doc pm cdv ct : Value} {od an : Option Addr} {osl : Array (Option Value)} (X : K.In h) (G : h.Ns mainGlobals mg)
    (a : PySem.W.nsIn K mainGlobals x = some (some (.ref f))) (l : K.lookup f = some ⟨oc, od, .func (PySem.W.fnOf x x (defArgs st) (defBody st) (defScope st) .none kV doc pm an cdv ct), osl⟩) (c : PySem.W.codeIn K cdv x = true) (k : PySem.W.keepIn K (.ref f) = true)
    (hb : ∀ (kV doc pm : Value) (an : Option Addr) (cdv ct : Value) (us : List Value), us.length = ps.length → bindArgs (PySem.W.fnOf x x (defArgs st) (defBody st) (defScope st) .none kV doc pm an cdv ct) ⟨us, []⟩ = pure (ps.zip us)) : HasB K mg x st ps :=
  ⟨f, _, fun_mk l c k, PySem.W.mg_of X G a, hb kV doc pm an cdv ct⟩
theorem rp_pair {K : PySem.W.Frag} {w : World} {a : Addr} {x y : Int} {n : Nat} {t u : _} {sl : Array (Option Value)} (h : K.lookup a = some ⟨.type "tuple", none, .seq #[.int x t, .int y u] n, sl⟩) (H : Hp) (W : Addr → Prop) : Rp K w H W (.ref a) (.tuple [.int x, .int y]) :=
  .tup (xs := [.int x, .int y]) (sqF_of h (by show 2 ≤ sizeLine; decide) (.cons (vInt x t) (.cons (vInt y u) .nil)) H) (.cons (.int x) (.cons (.int y) .nil))
def sL1 : Stmt := (defBody (K29.top 48)).getD 0 (.Pass ⟨0, 0, 0, 0⟩)
theorem fin29 {l : PySem.W.OpenLaw} {w : World} {K : PySem.W.Frag} {h : Heap} {mg : Str → Option Value} {fa : Addr} (X : K.In h) (G : h.Ns mainGlobals mg) (hfa : mg "law" = some (.ref fa)) (H0 : RW.Has K mg "once_each" (RW.K29.top 1) ["things"]) (H1 : RW.Has K mg "choices" (RW.K29.top 2) ["things", "k"]) (H2 : RW.Has K mg "all_sets" (RW.K29.top 3) ["things"]) (H3 : RW.Has K mg "far" (RW.K29.top 5) ["one", "other"]) (H4 : RW.Has K mg "heard_at" (RW.K29.top 6) ["bells", "spot"]) (H5 : RW.Has K mg "field" (RW.K29.top 7) ["wide", "high"]) (H6 : RW.Has K mg "spots_with" (RW.K29.top 8) ["bells", "wide", "high", "heard"]) (H7 : RW.Has K mg "is_told_by" (RW.K29.top 9) ["bells", "wide", "high", "spot"]) (H8 : RW.Has K mg "walk_by" (RW.K29.top 10) ["bells", "wide", "high", "rows"]) (H9 : RW.Has K mg "only_bells" (RW.K29.top 11) ["bells", "names"]) (H10 : RW.Has K mg "kinds_of" (RW.K29.top 12) ["bells", "wide", "high"]) (H11 : RW.Has K mg "fewest_bells" (RW.K29.top 13) ["bells", "wide", "high"]) (H12 : RW.Has K mg "deaf_spots" (RW.K29.top 14) ["bells", "wide", "high"]) (H13 : RW.Has K mg "louder" (RW.K29.top 15) ["bells", "name", "more"]) (H14 : RW.Has K mg "least_louder" (RW.K29.top 16) ["bells", "wide", "high", "name", "most"]) (H15 : RW.Has K mg "step_of" (RW.K29.top 21) ["point"]) (H16 : RW.Has K mg "point_on" (RW.K29.top 22) ["point", "k"]) (H17 : RW.Has K mg "end_of" (RW.K29.top 23) ["course"]) (H18 : RW.Has K mg "turned_course" (RW.K29.top 24) ["course", "k"]) (H19 : RW.Has K mg "back_course" (RW.K29.top 25) ["course"]) (H20 : RW.Has K mg "sign_of" (RW.K29.top 26) ["number"]) (H21 : RW.Has K mg "straight" (RW.K29.top 27) ["spot"]) (H22 : RW.Has K mg "could_end" (RW.K29.top 28) ["course", "wrong"]) (H23 : RW.Has K mg "could_end_each" (RW.K29.top 29) ["course", "wrong"]) (H24 : RW.Has K mg "which_wrong" (RW.K29.top 30) ["course", "spot"]) (H25 : RW.Has K mg "one_leg_wrong" (RW.K29.top 31) ["course", "spot"]) (H26 : RW.Has K mg "closes" (RW.K29.top 32) ["course"]) (H27 : RW.Has K mg "passes" (RW.K29.top 33) ["course"]) (H28 : RW.Has K mg "crossings" (RW.K29.top 34) ["course"]) (H29 : RW.Has K mg "_law_draws" (RW.K29.top 36) ["script", "many"]) (H30 : RW.Has K mg "_law_next" (RW.K29.top 37) ["w", "many"]) (H31 : RW.Has K mg "_law_pick" (RW.K29.top 38) ["w", "rows"]) (H32 : RW.Has K mg "_law_alike" (RW.K29.top 39) ["seen", "due"]) (H33 : RW.Has K mg "_law_sets" (RW.K29.top 40) ["row"]) (H34 : RW.Has K mg "_law_heard" (RW.K29.top 41) ["bells", "spot"]) (H35 : RW.Has K mg "_law_bells" (RW.K29.top 42) ["w"]) (H36 : RW.Has K mg "_law_points" (RW.K29.top 43) []) (H37 : RW.Has K mg "_law_on" (RW.K29.top 44) ["point", "k"]) (H38 : RW.Has K mg "_law_passed" (RW.K29.top 45) ["course"]) (H39 : RW.Has K mg "_law_turned" (RW.K29.top 46) ["course", "k"]) (H40 : RW.Has K mg "_law_courses" (RW.K29.top 47) ["w"]) (H41 : RW.HasB K mg "law" (RW.K29.top 48) ["script"])
    (z_len : PySem.W.nsIn K mainGlobals "len" = some none) (z_abs : PySem.W.nsIn K mainGlobals "abs" = some none) (z_sum : PySem.W.nsIn K mainGlobals "sum" = some none) (z_any : PySem.W.nsIn K mainGlobals "any" = some none) (z_all : PySem.W.nsIn K mainGlobals "all" = some none) (z_sorted : PySem.W.nsIn K mainGlobals "sorted" = some none) (z_min : PySem.W.nsIn K mainGlobals "min" = some none) (z_max : PySem.W.nsIn K mainGlobals "max" = some none) (z_isinstance : PySem.W.nsIn K mainGlobals "isinstance" = some none) (z_int : PySem.W.nsIn K mainGlobals "int" = some none) (z_tuple : PySem.W.nsIn K mainGlobals "tuple" = some none) (z_list : PySem.W.nsIn K mainGlobals "list" = some none) (z_dict : PySem.W.nsIn K mainGlobals "dict" = some none) (z_bool : PySem.W.nsIn K mainGlobals "bool" = some none) (z_str : PySem.W.nsIn K mainGlobals "str" = some none) (z_range : PySem.W.nsIn K mainGlobals "range" = some none) (z_zip : PySem.W.nsIn K mainGlobals "zip" = some none) (z_set : PySem.W.nsIn K mainGlobals "set" = some none) (z_enumerate : PySem.W.nsIn K mainGlobals "enumerate" = some none)
    {aP aS b0 b1 b2 b3 b4 b5 b6 b7 : Addr} {t0 t1 t2 t3 t4 t5 t6 t7 u0 v0 u1 v1 u2 v2 u3 v3 u4 v4 u5 v5 u6 v6 u7 v7 tR : _} {nP nS m0 m1 m2 m3 m4 m5 m6 m7 : Nat} {slP slS sl0 sl1 sl2 sl3 sl4 sl5 sl6 sl7 : Array (Option Value)}
    (pP : PySem.W.nsIn K mainGlobals "POINTS" = some (some (.ref aP))) (lP : K.lookup aP = some ⟨.type "tuple", none, .seq #[.str "n" t0, .str "ne" t1, .str "e" t2, .str "se" t3, .str "s" t4, .str "sw" t5, .str "w" t6, .str "nw" t7] nP, slP⟩) (pS : PySem.W.nsIn K mainGlobals "STEPS" = some (some (.ref aS))) (lS : K.lookup aS = some ⟨.type "tuple", none, .seq #[.ref b0, .ref b1, .ref b2, .ref b3, .ref b4, .ref b5, .ref b6, .ref b7] nS, slS⟩) (q0 : K.lookup b0 = some ⟨.type "tuple", none, .seq #[.int (0) u0, .int (1) v0] m0, sl0⟩) (q1 : K.lookup b1 = some ⟨.type "tuple", none, .seq #[.int (1) u1, .int (1) v1] m1, sl1⟩) (q2 : K.lookup b2 = some ⟨.type "tuple", none, .seq #[.int (1) u2, .int (0) v2] m2, sl2⟩) (q3 : K.lookup b3 = some ⟨.type "tuple", none, .seq #[.int (1) u3, .int (-1) v3] m3, sl3⟩) (q4 : K.lookup b4 = some ⟨.type "tuple", none, .seq #[.int (0) u4, .int (-1) v4] m4, sl4⟩) (q5 : K.lookup b5 = some ⟨.type "tuple", none, .seq #[.int (-1) u5, .int (-1) v5] m5, sl5⟩) (q6 : K.lookup b6 = some ⟨.type "tuple", none, .seq #[.int (-1) u6, .int (0) v6] m6, sl6⟩) (q7 : K.lookup b7 = some ⟨.type "tuple", none, .seq #[.int (-1) u7, .int (1) v7] m7, sl7⟩) (pR : PySem.W.nsIn K mainGlobals "ROUND" = some (some (.int 8 tR))) :
    ∃ fd : FuncData, (∀ (s : Shared) (v : Value), BindsTo s fd ⟨[v], []⟩ [("script", v)]) ∧ ∀ base : Heap, K.In base → base.Ns mainGlobals mg → FnOk l.prog w K mg base CX0 31 fa fd ["script"] (spLaw K w (CCof PL.K29P.prim PL.K29P.tbl 30) 29 500 PL.K29P.bLaw) := by
  obtain ⟨f0, fd0, F0, M0, B0⟩ := H0
  obtain ⟨f1, fd1, F1, M1, B1⟩ := H1
  obtain ⟨f2, fd2, F2, M2, B2⟩ := H2
  obtain ⟨f3, fd3, F3, M3, B3⟩ := H3
  obtain ⟨f4, fd4, F4, M4, B4⟩ := H4
  obtain ⟨f5, fd5, F5, M5, B5⟩ := H5
  obtain ⟨f6, fd6, F6, M6, B6⟩ := H6
  obtain ⟨f7, fd7, F7, M7, B7⟩ := H7
  obtain ⟨f8, fd8, F8, M8, B8⟩ := H8
  obtain ⟨f9, fd9, F9, M9, B9⟩ := H9
  obtain ⟨f10, fd10, F10, M10, B10⟩ := H10
  obtain ⟨f11, fd11, F11, M11, B11⟩ := H11
  obtain ⟨f12, fd12, F12, M12, B12⟩ := H12
  obtain ⟨f13, fd13, F13, M13, B13⟩ := H13
  obtain ⟨f14, fd14, F14, M14, B14⟩ := H14
  obtain ⟨f15, fd15, F15, M15, B15⟩ := H15
  obtain ⟨f16, fd16, F16, M16, B16⟩ := H16
  obtain ⟨f17, fd17, F17, M17, B17⟩ := H17
  obtain ⟨f18, fd18, F18, M18, B18⟩ := H18
  obtain ⟨f19, fd19, F19, M19, B19⟩ := H19
  obtain ⟨f20, fd20, F20, M20, B20⟩ := H20
  obtain ⟨f21, fd21, F21, M21, B21⟩ := H21
  obtain ⟨f22, fd22, F22, M22, B22⟩ := H22
  obtain ⟨f23, fd23, F23, M23, B23⟩ := H23
  obtain ⟨f24, fd24, F24, M24, B24⟩ := H24
  obtain ⟨f25, fd25, F25, M25, B25⟩ := H25
  obtain ⟨f26, fd26, F26, M26, B26⟩ := H26
  obtain ⟨f27, fd27, F27, M27, B27⟩ := H27
  obtain ⟨f28, fd28, F28, M28, B28⟩ := H28
  obtain ⟨f29, fd29, F29, M29, B29⟩ := H29
  obtain ⟨f30, fd30, F30, M30, B30⟩ := H30
  obtain ⟨f31, fd31, F31, M31, B31⟩ := H31
  obtain ⟨f32, fd32, F32, M32, B32⟩ := H32
  obtain ⟨f33, fd33, F33, M33, B33⟩ := H33
  obtain ⟨f34, fd34, F34, M34, B34⟩ := H34
  obtain ⟨f35, fd35, F35, M35, B35⟩ := H35
  obtain ⟨f36, fd36, F36, M36, B36⟩ := H36
  obtain ⟨f37, fd37, F37, M37, B37⟩ := H37
  obtain ⟨f38, fd38, F38, M38, B38⟩ := H38
  obtain ⟨f39, fd39, F39, M39, B39⟩ := H39
  obtain ⟨f40, fd40, F40, M40, B40⟩ := H40
  obtain ⟨f41, fd41, F41, M41, B41⟩ := H41
  have e := hfa.symm.trans M41
  cases e
  refine ⟨fd41, fun s v => .of_eq (B41 [v] rfl), fun base _ _ => ?_⟩
  have Mo' : Mo l.prog w K mg base K29.G PL.K29P.prim PL.K29P.tbl := by
    refine ⟨fun j x ps h => ?_, fun j x h => ?_, fun x hx => ?_⟩
    · match j, h with
    | 0, h => cases h; exact ⟨rfl, .inl ⟨K29.d0, _, _, rfl, rfl, rfl, fun _ => rfl, ⟨60, K29.ok0⟩, F0, M0, B0⟩⟩
    | 1, h => cases h; exact ⟨rfl, .inl ⟨K29.d1, _, _, rfl, rfl, rfl, fun _ => rfl, ⟨60, K29.ok1⟩, F1, M1, B1⟩⟩
    | 2, h => cases h; exact ⟨rfl, .inl ⟨K29.d2, _, _, rfl, rfl, rfl, fun _ => rfl, ⟨60, K29.ok2⟩, F2, M2, B2⟩⟩
    | 3, h => cases h; exact ⟨rfl, .inl ⟨K29.d3, _, _, rfl, rfl, rfl, fun _ => rfl, ⟨60, K29.ok3⟩, F3, M3, B3⟩⟩
    | 4, h => cases h; exact ⟨rfl, .inl ⟨K29.d4, _, _, rfl, rfl, rfl, fun _ => rfl, ⟨60, K29.ok4⟩, F4, M4, B4⟩⟩
    | 5, h => cases h; exact ⟨rfl, .inl ⟨K29.d5, _, _, rfl, rfl, rfl, fun _ => rfl, ⟨60, K29.ok5⟩, F5, M5, B5⟩⟩
    | 6, h => cases h; exact ⟨rfl, .inl ⟨K29.d6, _, _, rfl, rfl, rfl, fun _ => rfl, ⟨60, K29.ok6⟩, F6, M6, B6⟩⟩
    | 7, h => cases h; exact ⟨rfl, .inl ⟨K29.d7, _, _, rfl, rfl, rfl, fun _ => rfl, ⟨60, K29.ok7⟩, F7, M7, B7⟩⟩
    | 8, h => cases h; exact ⟨rfl, .inl ⟨K29.d8, _, _, rfl, rfl, rfl, fun _ => rfl, ⟨60, K29.ok8⟩, F8, M8, B8⟩⟩
    | 9, h => cases h; exact ⟨rfl, .inl ⟨K29.d9, _, _, rfl, rfl, rfl, fun _ => rfl, ⟨60, K29.ok9⟩, F9, M9, B9⟩⟩
    | 10, h => cases h; exact ⟨rfl, .inl ⟨K29.d10, _, _, rfl, rfl, rfl, fun _ => rfl, ⟨60, K29.ok10⟩, F10, M10, B10⟩⟩
    | 11, h => cases h; exact ⟨rfl, .inl ⟨K29.d11, _, _, rfl, rfl, rfl, fun _ => rfl, ⟨60, K29.ok11⟩, F11, M11, B11⟩⟩
    | 12, h => cases h; exact ⟨rfl, .inl ⟨K29.d12, _, _, rfl, rfl, rfl, fun _ => rfl, ⟨60, K29.ok12⟩, F12, M12, B12⟩⟩
    | 13, h => cases h; exact ⟨rfl, .inl ⟨K29.d13, _, _, rfl, rfl, rfl, fun _ => rfl, ⟨60, K29.ok13⟩, F13, M13, B13⟩⟩
    | 14, h => cases h; exact ⟨rfl, .inl ⟨K29.d14, _, _, rfl, rfl, rfl, fun _ => rfl, ⟨60, K29.ok14⟩, F14, M14, B14⟩⟩
    | 15, h => cases h; exact ⟨rfl, .inl ⟨K29.d15, _, _, rfl, rfl, rfl, fun _ => rfl, ⟨60, K29.ok15⟩, F15, M15, B15⟩⟩
    | 16, h => cases h; exact ⟨rfl, .inl ⟨K29.d16, _, _, rfl, rfl, rfl, fun _ => rfl, ⟨60, K29.ok16⟩, F16, M16, B16⟩⟩
    | 17, h => cases h; exact ⟨rfl, .inl ⟨K29.d17, _, _, rfl, rfl, rfl, fun _ => rfl, ⟨60, K29.ok17⟩, F17, M17, B17⟩⟩
    | 18, h => cases h; exact ⟨rfl, .inl ⟨K29.d18, _, _, rfl, rfl, rfl, fun _ => rfl, ⟨60, K29.ok18⟩, F18, M18, B18⟩⟩
    | 19, h => cases h; exact ⟨rfl, .inl ⟨K29.d19, _, _, rfl, rfl, rfl, fun _ => rfl, ⟨60, K29.ok19⟩, F19, M19, B19⟩⟩
    | 20, h => cases h; exact ⟨rfl, .inl ⟨K29.d20, _, _, rfl, rfl, rfl, fun _ => rfl, ⟨60, K29.ok20⟩, F20, M20, B20⟩⟩
    | 21, h => cases h; exact ⟨rfl, .inl ⟨K29.d21, _, _, rfl, rfl, rfl, fun _ => rfl, ⟨60, K29.ok21⟩, F21, M21, B21⟩⟩
    | 22, h => cases h; exact ⟨rfl, .inl ⟨K29.d22, _, _, rfl, rfl, rfl, fun _ => rfl, ⟨60, K29.ok22⟩, F22, M22, B22⟩⟩
    | 23, h => cases h; exact ⟨rfl, .inl ⟨K29.d23, _, _, rfl, rfl, rfl, fun _ => rfl, ⟨60, K29.ok23⟩, F23, M23, B23⟩⟩
    | 24, h => cases h; exact ⟨rfl, .inl ⟨K29.d24, _, _, rfl, rfl, rfl, fun _ => rfl, ⟨60, K29.ok24⟩, F24, M24, B24⟩⟩
    | 25, h => cases h; exact ⟨rfl, .inl ⟨K29.d25, _, _, rfl, rfl, rfl, fun _ => rfl, ⟨60, K29.ok25⟩, F25, M25, B25⟩⟩
    | 26, h => cases h; exact ⟨rfl, .inl ⟨K29.d26, _, _, rfl, rfl, rfl, fun _ => rfl, ⟨60, K29.ok26⟩, F26, M26, B26⟩⟩
    | 27, h => cases h; exact ⟨rfl, .inl ⟨K29.d27, _, _, rfl, rfl, rfl, fun _ => rfl, ⟨60, K29.ok27⟩, F27, M27, B27⟩⟩
    | 28, h => cases h; exact ⟨rfl, .inl ⟨K29.d28, _, _, rfl, rfl, rfl, fun _ => rfl, ⟨60, K29.ok28⟩, F28, M28, B28⟩⟩
    | 29, h => cases h; exact ⟨rfl, .inl ⟨K29.d29, _, _, rfl, rfl, rfl, fun _ => rfl, ⟨60, K29.ok29⟩, F29, M29, B29⟩⟩
    | 30, h => cases h; exact ⟨rfl, .inr ⟨_, _, _, M30, F30.kp, B30, fun k => ok_next F30 (PySem.W.mg_none_of X G z_int) (PySem.W.mg_none_of X G z_len) (C := CCof PL.K29P.prim PL.K29P.tbl (k + 1)) (fun dr ds n r e => e) k⟩⟩
    | 31, h => cases h; exact ⟨rfl, .inl ⟨K29.d31, _, _, rfl, rfl, rfl, fun _ => rfl, ⟨60, K29.ok31⟩, F31, M31, B31⟩⟩
    | 32, h => cases h; exact ⟨rfl, .inl ⟨K29.d32, _, _, rfl, rfl, rfl, fun _ => rfl, ⟨60, K29.ok32⟩, F32, M32, B32⟩⟩
    | 33, h => cases h; exact ⟨rfl, .inl ⟨K29.d33, _, _, rfl, rfl, rfl, fun _ => rfl, ⟨60, K29.ok33⟩, F33, M33, B33⟩⟩
    | 34, h => cases h; exact ⟨rfl, .inl ⟨K29.d34, _, _, rfl, rfl, rfl, fun _ => rfl, ⟨60, K29.ok34⟩, F34, M34, B34⟩⟩
    | 35, h => cases h; exact ⟨rfl, .inl ⟨K29.d35, _, _, rfl, rfl, rfl, fun _ => rfl, ⟨60, K29.ok35⟩, F35, M35, B35⟩⟩
    | 36, h => cases h; exact ⟨rfl, .inl ⟨K29.d36, _, _, rfl, rfl, rfl, fun _ => rfl, ⟨60, K29.ok36⟩, F36, M36, B36⟩⟩
    | 37, h => cases h; exact ⟨rfl, .inl ⟨K29.d37, _, _, rfl, rfl, rfl, fun _ => rfl, ⟨60, K29.ok37⟩, F37, M37, B37⟩⟩
    | 38, h => cases h; exact ⟨rfl, .inl ⟨K29.d38, _, _, rfl, rfl, rfl, fun _ => rfl, ⟨60, K29.ok38⟩, F38, M38, B38⟩⟩
    | 39, h => cases h; exact ⟨rfl, .inl ⟨K29.d39, _, _, rfl, rfl, rfl, fun _ => rfl, ⟨60, K29.ok39⟩, F39, M39, B39⟩⟩
    | 40, h => cases h; exact ⟨rfl, .inl ⟨K29.d40, _, _, rfl, rfl, rfl, fun _ => rfl, ⟨60, K29.ok40⟩, F40, M40, B40⟩⟩
    | j + 41, h => cases h
    · match j, h with
      | 42, h =>
        cases h
        refine ⟨rfl, .tuple (PL.K29P.ptsL.map PL.toD), .ref aP, .ref aP, PySem.W.mg_of X G pP, rfl, fun _ _ _ => rfl, fun H W => ?_⟩
        exact .tup (xs := PL.K29P.ptsL.map V.str) (sqF_of lP (by show 8 ≤ sizeLine; decide) (.cons (vStr _ _) (.cons (vStr _ _) (.cons (vStr _ _) (.cons (vStr _ _) (.cons (vStr _ _) (.cons (vStr _ _) (.cons (vStr _ _) (.cons (vStr _ _) .nil)))))))) H) (.cons (.str _) (.cons (.str _) (.cons (.str _) (.cons (.str _) (.cons (.str _) (.cons (.str _) (.cons (.str _) (.cons (.str _) .nil))))))))
      | 43, h =>
        cases h
        refine ⟨rfl, .tuple (PL.K29P.stpL.map PL.toD), .ref aS, .ref aS, PySem.W.mg_of X G pS, rfl, fun _ _ _ => rfl, fun H W => ?_⟩
        exact .tup (xs := [.ref b0, .ref b1, .ref b2, .ref b3, .ref b4, .ref b5, .ref b6, .ref b7]) (sqF_of lS (by show 8 ≤ sizeLine; decide) (.cons (vRef _) (.cons (vRef _) (.cons (vRef _) (.cons (vRef _) (.cons (vRef _) (.cons (vRef _) (.cons (vRef _) (.cons (vRef _) .nil)))))))) H) (.cons (rp_pair q0 H W) (.cons (rp_pair q1 H W) (.cons (rp_pair q2 H W) (.cons (rp_pair q3 H W) (.cons (rp_pair q4 H W) (.cons (rp_pair q5 H W) (.cons (rp_pair q6 H W) (.cons (rp_pair q7 H W) .nil))))))))
      | 44, h =>
        cases h
        exact ⟨rfl, .int 8, .int 8, _, PySem.W.mg_of X G pR, vInt 8 tR, fun _ _ _ => rfl, fun H W => .int 8⟩
    · simp only [bltNames, List.mem_cons, List.not_mem_nil, or_false] at hx
      rcases hx with rfl | rfl | rfl | rfl | rfl | rfl | rfl | rfl | rfl | rfl | rfl | rfl | rfl | rfl | rfl | rfl | rfl | rfl | rfl
      · exact PySem.W.mg_none_of X G z_len
      · exact PySem.W.mg_none_of X G z_abs
      · exact PySem.W.mg_none_of X G z_sum
      · exact PySem.W.mg_none_of X G z_any
      · exact PySem.W.mg_none_of X G z_all
      · exact PySem.W.mg_none_of X G z_sorted
      · exact PySem.W.mg_none_of X G z_min
      · exact PySem.W.mg_none_of X G z_max
      · exact PySem.W.mg_none_of X G z_isinstance
      · exact PySem.W.mg_none_of X G z_int
      · exact PySem.W.mg_none_of X G z_tuple
      · exact PySem.W.mg_none_of X G z_list
      · exact PySem.W.mg_none_of X G z_dict
      · exact PySem.W.mg_none_of X G z_bool
      · exact PySem.W.mg_none_of X G z_str
      · exact PySem.W.mg_none_of X G z_range
      · exact PySem.W.mg_none_of X G z_zip
      · exact PySem.W.mg_none_of X G z_set
      · exact PySem.W.mg_none_of X G z_enumerate
  exact law_ok (n := 60) Mo' F41 (by exact ⟨rfl, rfl, rfl, by decide +kernel, rfl, by decide +kernel, by decide +kernel⟩) rfl (jd := 29) rfl rfl (by decide +kernel) (fun _ => rfl) (by first | exact .inl rfl | exact .inr rfl) (by first | exact .inl rfl | exact .inr rfl) rfl 30
end RW
open PySem PySem.W PyProof.Rows
namespace RW
open PySem.Spec L2
theorem walk29 {l : PySem.W.OpenLaw} {q : Program} {loose : List Str} {XP : (Str → Option Value) → Heap → Prop} {YP : World → Heap → Prop} {d : DefRec} {K : Params → PySem.W.Frag} (hn : l.most = some 63) (hdf : d.params.defaults = [])
    (hY : ∀ (w : World) (h : Heap), YP w h → (K w.params).In h)
    (F : ∀ (w : World) (mg : Str → Option Value) (fa : Addr) (h : Heap), (K w.params).In h → h.Ns mainGlobals mg → mg d.name = some (.ref fa) →
      ∃ fd : FuncData, (∀ (s : Shared) (u : Value), BindsTo s fd ⟨[u], []⟩ [("script", u)]) ∧ ∀ base : Heap, (K w.params).In base → base.Ns mainGlobals mg → FnOk l.prog w (K w.params) mg base CX0 31 fa fd ["script"] (spLaw (K w.params) w (CCof PL.K29P.prim PL.K29P.tbl 30) 29 500 PL.K29P.bLaw)) :
    PySem.W.WalkO q loose XP YP l.row.toRowW d [] (fun f vs => PySem.call f vs) :=
  L2.walk_of (n := 63) (k := 31) (x := "script") (CX := fun _ => CX0) (sp := fun w => spLaw (K w.params) w (CCof PL.K29P.prim PL.K29P.tbl 30) 29 500 PL.K29P.bLaw) hn (by decide) hdf ⟨rfl, by decide, by decide⟩ hY F
    (fun w H a ns hl _ hS => by
      obtain ⟨dr, h1, h2⟩ := PL.K29P.draws_true ns hl
      obtain ⟨m, h3⟩ := PL.K29P.law_true dr
      exact ⟨a, ns, dr, m, rfl, hS.elim (fun z => .inl ⟨z, fun q => q⟩) .inr, h2, h1, h3, fun _ => rfl⟩)
    fun _ _ _ _ _ z => z
end RW
set_option maxHeartbeats 0 in
theorem PySem.Challenge.cw_roadwalked_k29_bells_in_fog_and_courses_holds : PySem.Challenge.rw_roadwalked_k29_bells_in_fog_and_courses.Holds := by
  w_on; o_law; k_head; (case hw => w_witness2)
  k_fill
  refine RW.walk29 (l := PySem.Challenge.rw_roadwalked_k29_bells_in_fog_and_courses) rfl rfl (fun w h Y => PySem.W.kIn_of Y) ?F
  case F =>
    intro w mg fa h KX G hmg
    refine' RW.fin29 KX G hmg
      (RW.has KX G ?a0 ?l0 ?c0 ?k0 fun _ _ _ _ _ _ us hl => match us, hl with | [_], _ => rfl)
      (RW.has KX G ?a1 ?l1 ?c1 ?k1 fun _ _ _ _ _ _ us hl => match us, hl with | [_, _], _ => rfl)
      (RW.has KX G ?a2 ?l2 ?c2 ?k2 fun _ _ _ _ _ _ us hl => match us, hl with | [_], _ => rfl)
      (RW.has KX G ?a3 ?l3 ?c3 ?k3 fun _ _ _ _ _ _ us hl => match us, hl with | [_, _], _ => rfl)
      (RW.has KX G ?a4 ?l4 ?c4 ?k4 fun _ _ _ _ _ _ us hl => match us, hl with | [_, _], _ => rfl)
      (RW.has KX G ?a5 ?l5 ?c5 ?k5 fun _ _ _ _ _ _ us hl => match us, hl with | [_, _], _ => rfl)
      (RW.has KX G ?a6 ?l6 ?c6 ?k6 fun _ _ _ _ _ _ us hl => match us, hl with | [_, _, _, _], _ => rfl)
      (RW.has KX G ?a7 ?l7 ?c7 ?k7 fun _ _ _ _ _ _ us hl => match us, hl with | [_, _, _, _], _ => rfl)
      (RW.has KX G ?a8 ?l8 ?c8 ?k8 fun _ _ _ _ _ _ us hl => match us, hl with | [_, _, _, _], _ => rfl)
      (RW.has KX G ?a9 ?l9 ?c9 ?k9 fun _ _ _ _ _ _ us hl => match us, hl with | [_, _], _ => rfl)
      (RW.has KX G ?a10 ?l10 ?c10 ?k10 fun _ _ _ _ _ _ us hl => match us, hl with | [_, _, _], _ => rfl)
      (RW.has KX G ?a11 ?l11 ?c11 ?k11 fun _ _ _ _ _ _ us hl => match us, hl with | [_, _, _], _ => rfl)
      (RW.has KX G ?a12 ?l12 ?c12 ?k12 fun _ _ _ _ _ _ us hl => match us, hl with | [_, _, _], _ => rfl)
      (RW.has KX G ?a13 ?l13 ?c13 ?k13 fun _ _ _ _ _ _ us hl => match us, hl with | [_, _, _], _ => rfl)
      (RW.has KX G ?a14 ?l14 ?c14 ?k14 fun _ _ _ _ _ _ us hl => match us, hl with | [_, _, _, _, _], _ => rfl)
      (RW.has KX G ?a15 ?l15 ?c15 ?k15 fun _ _ _ _ _ _ us hl => match us, hl with | [_], _ => rfl)
      (RW.has KX G ?a16 ?l16 ?c16 ?k16 fun _ _ _ _ _ _ us hl => match us, hl with | [_, _], _ => rfl)
      (RW.has KX G ?a17 ?l17 ?c17 ?k17 fun _ _ _ _ _ _ us hl => match us, hl with | [_], _ => rfl)
      (RW.has KX G ?a18 ?l18 ?c18 ?k18 fun _ _ _ _ _ _ us hl => match us, hl with | [_, _], _ => rfl)
      (RW.has KX G ?a19 ?l19 ?c19 ?k19 fun _ _ _ _ _ _ us hl => match us, hl with | [_], _ => rfl)
      (RW.has KX G ?a20 ?l20 ?c20 ?k20 fun _ _ _ _ _ _ us hl => match us, hl with | [_], _ => rfl)
      (RW.has KX G ?a21 ?l21 ?c21 ?k21 fun _ _ _ _ _ _ us hl => match us, hl with | [_], _ => rfl)
      (RW.has KX G ?a22 ?l22 ?c22 ?k22 fun _ _ _ _ _ _ us hl => match us, hl with | [_, _], _ => rfl)
      (RW.has KX G ?a23 ?l23 ?c23 ?k23 fun _ _ _ _ _ _ us hl => match us, hl with | [_, _], _ => rfl)
      (RW.has KX G ?a24 ?l24 ?c24 ?k24 fun _ _ _ _ _ _ us hl => match us, hl with | [_, _], _ => rfl)
      (RW.has KX G ?a25 ?l25 ?c25 ?k25 fun _ _ _ _ _ _ us hl => match us, hl with | [_, _], _ => rfl)
      (RW.has KX G ?a26 ?l26 ?c26 ?k26 fun _ _ _ _ _ _ us hl => match us, hl with | [_], _ => rfl)
      (RW.has KX G ?a27 ?l27 ?c27 ?k27 fun _ _ _ _ _ _ us hl => match us, hl with | [_], _ => rfl)
      (RW.has KX G ?a28 ?l28 ?c28 ?k28 fun _ _ _ _ _ _ us hl => match us, hl with | [_], _ => rfl)
      (RW.has KX G ?a29 ?l29 ?c29 ?k29 fun _ _ _ _ _ _ us hl => match us, hl with | [_, _], _ => rfl)
      (RW.has KX G ?a30 ?l30 ?c30 ?k30 fun _ _ _ _ _ _ us hl => match us, hl with | [_, _], _ => rfl)
      (RW.has KX G ?a31 ?l31 ?c31 ?k31 fun _ _ _ _ _ _ us hl => match us, hl with | [_, _], _ => rfl)
      (RW.has KX G ?a32 ?l32 ?c32 ?k32 fun _ _ _ _ _ _ us hl => match us, hl with | [_, _], _ => rfl)
      (RW.has KX G ?a33 ?l33 ?c33 ?k33 fun _ _ _ _ _ _ us hl => match us, hl with | [_], _ => rfl)
      (RW.has KX G ?a34 ?l34 ?c34 ?k34 fun _ _ _ _ _ _ us hl => match us, hl with | [_, _], _ => rfl)
      (RW.has KX G ?a35 ?l35 ?c35 ?k35 fun _ _ _ _ _ _ us hl => match us, hl with | [_], _ => rfl)
      (RW.has KX G ?a36 ?l36 ?c36 ?k36 fun _ _ _ _ _ _ us hl => match us, hl with | [], _ => rfl)
      (RW.has KX G ?a37 ?l37 ?c37 ?k37 fun _ _ _ _ _ _ us hl => match us, hl with | [_, _], _ => rfl)
      (RW.has KX G ?a38 ?l38 ?c38 ?k38 fun _ _ _ _ _ _ us hl => match us, hl with | [_], _ => rfl)
      (RW.has KX G ?a39 ?l39 ?c39 ?k39 fun _ _ _ _ _ _ us hl => match us, hl with | [_, _], _ => rfl)
      (RW.has KX G ?a40 ?l40 ?c40 ?k40 fun _ _ _ _ _ _ us hl => match us, hl with | [_], _ => rfl)
      (RW.hasB KX G ?a41 ?l41 ?c41 ?k41 fun _ _ _ _ _ _ us hl => match us, hl with | [_], _ => rfl) ?z_len ?z_abs ?z_sum ?z_any ?z_all ?z_sorted ?z_min ?z_max ?z_isinstance ?z_int ?z_tuple ?z_list ?z_dict ?z_bool ?z_str ?z_range ?z_zip ?z_set ?z_enumerate
      ?pP ?lP ?pS ?lS ?q0 ?q1 ?q2 ?q3 ?q4 ?q5 ?q6 ?q7 ?pR
    (case a0 => k_is); (case l0 => k_is); (case c0 => k_is); (case k0 => k_is)
    (case a1 => k_is); (case l1 => k_is); (case c1 => k_is); (case k1 => k_is)
    (case a2 => k_is); (case l2 => k_is); (case c2 => k_is); (case k2 => k_is)
    (case a3 => k_is); (case l3 => k_is); (case c3 => k_is); (case k3 => k_is)
    (case a4 => k_is); (case l4 => k_is); (case c4 => k_is); (case k4 => k_is)
    (case a5 => k_is); (case l5 => k_is); (case c5 => k_is); (case k5 => k_is)
    (case a6 => k_is); (case l6 => k_is); (case c6 => k_is); (case k6 => k_is)
    (case a7 => k_is); (case l7 => k_is); (case c7 => k_is); (case k7 => k_is)
    (case a8 => k_is); (case l8 => k_is); (case c8 => k_is); (case k8 => k_is)
    (case a9 => k_is); (case l9 => k_is); (case c9 => k_is); (case k9 => k_is)
    (case a10 => k_is); (case l10 => k_is); (case c10 => k_is); (case k10 => k_is)
    (case a11 => k_is); (case l11 => k_is); (case c11 => k_is); (case k11 => k_is)
    (case a12 => k_is); (case l12 => k_is); (case c12 => k_is); (case k12 => k_is)
    (case a13 => k_is); (case l13 => k_is); (case c13 => k_is); (case k13 => k_is)
    (case a14 => k_is); (case l14 => k_is); (case c14 => k_is); (case k14 => k_is)
    (case a15 => k_is); (case l15 => k_is); (case c15 => k_is); (case k15 => k_is)
    (case a16 => k_is); (case l16 => k_is); (case c16 => k_is); (case k16 => k_is)
    (case a17 => k_is); (case l17 => k_is); (case c17 => k_is); (case k17 => k_is)
    (case a18 => k_is); (case l18 => k_is); (case c18 => k_is); (case k18 => k_is)
    (case a19 => k_is); (case l19 => k_is); (case c19 => k_is); (case k19 => k_is)
    (case a20 => k_is); (case l20 => k_is); (case c20 => k_is); (case k20 => k_is)
    (case a21 => k_is); (case l21 => k_is); (case c21 => k_is); (case k21 => k_is)
    (case a22 => k_is); (case l22 => k_is); (case c22 => k_is); (case k22 => k_is)
    (case a23 => k_is); (case l23 => k_is); (case c23 => k_is); (case k23 => k_is)
    (case a24 => k_is); (case l24 => k_is); (case c24 => k_is); (case k24 => k_is)
    (case a25 => k_is); (case l25 => k_is); (case c25 => k_is); (case k25 => k_is)
    (case a26 => k_is); (case l26 => k_is); (case c26 => k_is); (case k26 => k_is)
    (case a27 => k_is); (case l27 => k_is); (case c27 => k_is); (case k27 => k_is)
    (case a28 => k_is); (case l28 => k_is); (case c28 => k_is); (case k28 => k_is)
    (case a29 => k_is); (case l29 => k_is); (case c29 => k_is); (case k29 => k_is)
    (case a30 => k_is); (case l30 => k_is); (case c30 => k_is); (case k30 => k_is)
    (case a31 => k_is); (case l31 => k_is); (case c31 => k_is); (case k31 => k_is)
    (case a32 => k_is); (case l32 => k_is); (case c32 => k_is); (case k32 => k_is)
    (case a33 => k_is); (case l33 => k_is); (case c33 => k_is); (case k33 => k_is)
    (case a34 => k_is); (case l34 => k_is); (case c34 => k_is); (case k34 => k_is)
    (case a35 => k_is); (case l35 => k_is); (case c35 => k_is); (case k35 => k_is)
    (case a36 => k_is); (case l36 => k_is); (case c36 => k_is); (case k36 => k_is)
    (case a37 => k_is); (case l37 => k_is); (case c37 => k_is); (case k37 => k_is)
    (case a38 => k_is); (case l38 => k_is); (case c38 => k_is); (case k38 => k_is)
    (case a39 => k_is); (case l39 => k_is); (case c39 => k_is); (case k39 => k_is)
    (case a40 => k_is); (case l40 => k_is); (case c40 => k_is); (case k40 => k_is)
    (case a41 => k_is); (case l41 => k_is); (case c41 => k_is); (case k41 => k_is)
    (case z_len => k_is)
    (case z_abs => k_is)
    (case z_sum => k_is)
    (case z_any => k_is)
    (case z_all => k_is)
    (case z_sorted => k_is)
    (case z_min => k_is)
    (case z_max => k_is)
    (case z_isinstance => k_is)
    (case z_int => k_is)
    (case z_tuple => k_is)
    (case z_list => k_is)
    (case z_dict => k_is)
    (case z_bool => k_is)
    (case z_str => k_is)
    (case z_range => k_is)
    (case z_zip => k_is)
    (case z_set => k_is)
    (case z_enumerate => k_is)
    (case pP => k_is); (case lP => k_is); (case pS => k_is); (case lS => k_is)
    (case q0 => k_is)
    (case q1 => k_is)
    (case q2 => k_is)
    (case q3 => k_is)
    (case q4 => k_is)
    (case q5 => k_is)
    (case q6 => k_is)
    (case q7 => k_is)
    (case pR => k_is)
