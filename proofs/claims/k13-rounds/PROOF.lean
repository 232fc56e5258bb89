import PyProof.Rows.All
import HandS.TupSets
import KE.KDictKeyed
import KE.SortData
import HandS.ForMost
import HandS.ForExc
import HandS.Flow
import HandS.TupAny
import HandS.TupMul
import HandS.TupLe
import HandS.IsInst
import KE.GoesNew
import KE.KDictZip
import KE.SortLaws
import KE.DataEq
import HandS.More
import HandS.SortKw
import HandS.Style
import HandS.Head0
import HandS.Head1
import HandS.Head2
import HandS.HeadEnd
import HandS.HeadHook1
import HandS.HeadHook2
import KE.DataCmp
import HandS.TryMany
import HandS.ExcIs
import HandS.CallLocal
import HandS.TupLen
import HandS.Small
import HandS.DictTup
import HandS.Iter
import KE.KTupSum
import PySem.Challenge.RW_zerorows_k13_main_longest_least_rows_of
set_option Elab.async false
set_option linter.all false
set_option maxRecDepth 100000
set_option maxHeartbeats 0
namespace DS
open PySem PySem.Spec PyProof.Rows L2
/-! # sets of tuples, nested: the table, its search, adding -/
mutual
/-- no text in it -/
def noTx : NestedKey → Bool
  | .text _ => false
  | .tup ks => noTxs ks
  | _ => true
def noTxs : List NestedKey → Bool
  | [] => true
  | k :: ks => noTx k && noTxs ks
end
section
variable {P : Program} {w : World}
/-- no class of a statement in v, n levels down -/
def OcAt (P : Program) (w : World) (n : Nat) (s : Shared) (v : Value) : Prop := ∀ (A : Around) (E : Value → Shared → Prop) (Q : Bool → Shared → Prop), Q false s → wpAny (model P w) A (ofAClassStatement n v) Q E s
/-- v's hash goes by value -/
def HvAt (P : Program) (w : World) (n : Nat) (s : Shared) (v : Value) : Prop := ∀ (A : Around) (E : Value → Shared → Prop) (Q : Bool → Shared → Prop), Q true s → wpAny (model P w) A (hashByValue n v) Q E s
theorem oc_plain {n : Nat} {s : Shared} {v : Value} (h : ∀ m, ofAClassStatement m v = pure false) : OcAt P w n s v := fun A E Q q => by rw [h]; exact wpAny_pure q
theorem hv_plain {n : Nat} {s : Shared} {v : Value} (h : ∀ m, hashByValue m v = pure true) : HvAt P w n s v := fun A E Q q => by rw [h]; exact wpAny_pure q
theorem oc_tup {n : Nat} {s : Shared} {a : Addr} {o : Obj} {vs : Array Value} {m : Nat} (g : s.heap.get? a = some o) (c : o.cls = .type "tuple") (d : o.data = .seq vs m) (hq : ∀ v ∈ vs.toList, OcAt P w n s v) : OcAt P w (n + 1) s (.ref a) := fun A E Q q => by
  unfold ofAClassStatement
  refine wpAny_bind (wpAny_typeOf (show s.TypeIs (.ref a) "tuple" from ⟨o, g, c⟩) ?_)
  have e : ((("tuple" : String) == "tuple") = true) := by decide
  simp only [e, if_true, Bool.not_true, Bool.false_eq_true, if_false]
  try refine wpAny_bind (wpAny_pure ?_)
  try simp only [Bool.not_true, Bool.false_eq_true, if_false]
  show wpAny _ _ (seqItems? (.ref a) >>= _) _ _ s
  refine wpAny_bind (wpAny_seqItems g d (wpAny_bind ?_))
  show wpAny _ _ (forIn vs _ _) _ _ s
  rw [← Array.forIn_toList]
  refine wpAny_forIn_list _ (fun rest r s1 => r.1 = none ∧ s1 = s ∧ ∀ v ∈ rest, OcAt P w n s v) _ (fun v rest r s1 ⟨hr, es, al⟩ => ?_) (fun r s1 ⟨hr, es, _⟩ => ?_) _ _ ⟨rfl, rfl, hq⟩
  · subst es
    refine wpAny_bind (al v List.mem_cons_self _ _ _ ?_)
    simp only [Bool.false_eq_true, if_false]
    exact wpAny_pure ⟨rfl, rfl, fun u hu => al u (List.mem_cons_of_mem _ hu)⟩
  · obtain ⟨r1, r2⟩ := r
    simp only at hr
    subst hr es
    exact wpAny_pure q
theorem hv_tup {n : Nat} {s : Shared} {a : Addr} {o : Obj} {vs : Array Value} {m : Nat} (g : s.heap.get? a = some o) (c : o.cls = .type "tuple") (d : o.data = .seq vs m) (hq : ∀ v ∈ vs.toList, HvAt P w n s v) : HvAt P w (n + 1) s (.ref a) := fun A E Q q => by
  unfold hashByValue
  refine wpAny_bind (wpAny_specialOf (show s.TypeIs (.ref a) "tuple" from ⟨o, g, c⟩) F.slot_tuple_hash.lookup ?_)
  show wpAny _ _ (seqItems? (.ref a) >>= _) _ _ s
  refine wpAny_bind (wpAny_seqItems g d (wpAny_bind ?_))
  show wpAny _ _ (forIn vs _ _) _ _ s
  rw [← Array.forIn_toList]
  refine wpAny_forIn_list _ (fun rest r s1 => r.1 = none ∧ s1 = s ∧ ∀ v ∈ rest, HvAt P w n s v) _ (fun v rest r s1 ⟨hr, es, al⟩ => ?_) (fun r s1 ⟨hr, es, _⟩ => ?_) _ _ ⟨rfl, rfl, hq⟩
  · subst es
    refine wpAny_bind (al v List.mem_cons_self _ _ _ ?_)
    simp only [Bool.not_true, Bool.false_eq_true, if_false]
    exact wpAny_pure ⟨rfl, rfl, fun u hu => al u (List.mem_cons_of_mem _ hu)⟩
  · obtain ⟨r1, r2⟩ := r
    simp only at hr
    subst hr es
    exact wpAny_pure q
mutual
theorem oc_key : ∀ (k : NestedKey) (v : Value) (n : Nat) (s : Shared), NestedIs s.heap k v → k.depth ≤ n → OcAt P w n s v
  | .none, _, n, s, x, _ => by cases x; exact oc_plain fun m => by cases m <;> rfl
  | .num i, _, n, s, x, _ => by cases x <;> exact oc_plain fun m => by cases m <;> rfl
  | .text y, _, n, s, x, _ => by cases x; exact oc_plain fun m => by cases m <;> rfl
  | .tup ks, _, n, s, x, hn => by
    cases x with
    | tup g c d hk =>
      simp only [NestedKey.depth] at hn
      cases n with
      | zero => omega
      | succ n => exact oc_tup g c d (oc_keys ks _ n s hk (by omega))
theorem oc_keys : ∀ (ks : List NestedKey) (vs : List Value) (n : Nat) (s : Shared), NestedAll s.heap ks vs → NestedKey.depthAll ks ≤ n → ∀ v ∈ vs, OcAt P w n s v
  | [], _, n, s, x, _, v, hv => by cases x; cases hv
  | k :: ks, _, n, s, x, hn, v, hv => by
    cases x with
    | cons x1 x2 =>
      simp only [NestedKey.depthAll] at hn
      rcases List.mem_cons.mp hv with e | hv
      · rw [e]; exact oc_key k _ n s x1 (by omega)
      · exact oc_keys ks _ n s x2 (by omega) v hv
end
mutual
theorem hv_key : ∀ (k : NestedKey) (v : Value) (n : Nat) (s : Shared), NestedIs s.heap k v → k.depth ≤ n → noTx k = true → HvAt P w n s v
  | .none, _, n, s, x, _, _ => by cases x; exact hv_plain fun m => by cases m <;> rfl
  | .num i, _, n, s, x, _, _ => by cases x <;> exact hv_plain fun m => by cases m <;> rfl
  | .text y, _, n, s, x, _, h => by simp only [noTx] at h; cases h
  | .tup ks, _, n, s, x, hn, h => by
    cases x with
    | tup g c d hk =>
      simp only [NestedKey.depth] at hn
      simp only [noTx] at h
      cases n with
      | zero => omega
      | succ n => exact hv_tup g c d (hv_keys ks _ n s hk (by omega) h)
theorem hv_keys : ∀ (ks : List NestedKey) (vs : List Value) (n : Nat) (s : Shared), NestedAll s.heap ks vs → NestedKey.depthAll ks ≤ n → noTxs ks = true → ∀ v ∈ vs, HvAt P w n s v
  | [], _, n, s, x, _, _, v, hv => by cases x; cases hv
  | k :: ks, _, n, s, x, hn, h, v, hv => by
    cases x with
    | cons x1 x2 =>
      simp only [NestedKey.depthAll] at hn
      simp only [noTxs, Bool.and_eq_true] at h
      rcases List.mem_cons.mp hv with e | hv
      · rw [e]; exact hv_key k _ n s x1 (by omega) h.1
      · exact hv_keys ks _ n s x2 (by omega) h.2 v hv
end
/-- the tuple at a is the key k -/
structure IsK (h : Heap) (k : NestedKey) (a : Addr) : Prop where
  is : NestedIs h k (.ref a)
  dp : k.depth ≤ 8
  tx : noTx k = true
theorem IsK.inj {h : Heap} {x y : NestedKey} {a : Addr} (p : IsK h x a) (q : IsK h y a) : x = y := NestedIs.inj _ _ _ p.is q.is
theorem IsK.at {h h' : Heap} {k : NestedKey} {a : Addr} (p : IsK h k a) (hk : ∀ a o vs n, h.get? a = some o → o.data = .seq vs n → h'.get? a = some o) : IsK h' k a := ⟨p.is.at hk, p.dp, p.tx⟩
theorem IsK.keep {h h' : Heap} {k : NestedKey} {a : Addr} (p : IsK h k a) (hk : ∀ b o, h.get? b = some o → h'.get? b = some o) : IsK h' k a := p.at fun b o _ _ e _ => hk b o e
theorem IsK.same {h h' : Heap} {k : NestedKey} {a b : Addr} {o : Obj} {es : Array (Int × Value)} {ep : Nat} {t : SetTable} (p : IsK h k b) (ho : h.get? a = some o) (hd : o.data = .set es ep t) (hs : Heap.SameBut a h h') : IsK h' k b := p.at fun c u vs n e d => by
  refine (hs.2 c fun z => ?_).trans e
  rw [z, ho] at e
  cases e
  rw [hd] at d
  cases d
/-- the search shows nothing -/
theorem seen_K {A : Around} {E : Value → Shared → Prop} {s : Shared} {k : NestedKey} {b : Addr} {ys : List Value} {Q : Bool → Shared → Prop} (hk : IsK s.heap k b) (hy : ∀ y ∈ ys, ∃ k2 c, y = Value.ref c ∧ IsK s.heap k2 c) (q : Q false s) :
    wpAny (model P w) A (searchCouldBeSeen (.ref b) ys) Q E s := by
  unfold searchCouldBeSeen
  refine wpAny_bind (wpAny_forIn_list _ (fun rest r s1 => r.1 = none ∧ s1 = s ∧ ∀ y ∈ rest, ∃ k2 c, y = Value.ref c ∧ IsK s.heap k2 c) _ (fun v rest r s1 ⟨hr, es, al⟩ => ?_) (fun r s1 ⟨hr, es, _⟩ => ?_) _ _ ⟨rfl, rfl, hy⟩)
  · subst es
    obtain ⟨k2, c, rfl, hc⟩ := al v List.mem_cons_self
    have on : ∀ y ∈ rest, ∃ k2 c, y = Value.ref c ∧ IsK s1.heap k2 c := fun u hu => al u (List.mem_cons_of_mem _ hu)
    dsimp only
    by_cases hv : (b == c || (carriedByValue (.ref b) && carriedByValue (.ref c))) = true
    · exact wp_if_pos hv (wpAny_pure ⟨rfl, rfl, on⟩)
    · refine wp_if_neg hv (wpAny_bind (quiet_key k _ 8 s1 hk.is hk.dp A E _ ?_))
      simp only [Bool.not_true, Bool.false_eq_true, if_false]
      refine wpAny_bind (quiet_key k2 _ 8 s1 hc.is hc.dp A E _ ?_)
      simp only [Bool.not_true, Bool.false_eq_true, if_false]
      refine wpAny_bind (oc_key k _ 8 s1 hk.is hk.dp A E _ ?_)
      simp only [Bool.false_eq_true, if_false]
      refine wpAny_bind (oc_key k2 _ 8 s1 hc.is hc.dp A E _ ?_)
      simp only [Bool.false_eq_true, if_false]
      exact wpAny_pure ⟨rfl, rfl, on⟩
  · obtain ⟨r1, r2⟩ := r
    simp only at hr
    subst hr es
    exact wpAny_pure q
end
end DS
namespace DS
open PySem PySem.Spec PyProof.Rows L2
/-! ### the set, its search -/
abbrev KL := List (Addr × NestedKey)
def rowsK (w : World) (L : KL) : List (Int × Value) := L.map fun p => (p.2.hash w, Value.ref p.1)
abbrev hsK (w : World) (L : KL) : List Int := L.map fun p => p.2.hash w
/-- the c-th step of a hash's way -/
abbrev stp (m : Nat) (h : Int) (c : Nat) : SetTable.Probe := nth m (runAt m (SetTable.bits h % (m + 1)) (SetTable.bits h)) c
abbrev hAt (es : Array (Int × Value)) : Nat → Int := fun i => (es[i]?.map (·.1)).getD 0
structure SetK (w : World) (h : Heap) (a : Addr) (L : KL) (es : Array (Int × Value)) (ep : Nat) (t : SetTable) : Prop where
  ob : ∃ o, h.get? a = some o ∧ o.ExactSet ∧ o.data = .set es ep t
  rows : es.toList = rowsK w L
  tab : TabOk t (hsK w L)
  nd : (L.map (·.2)).Nodup
  key : ∀ p ∈ L, IsK h p.2 p.1
  plain : t.plain = true
  led : w.params.followText "set-order" = true ∨ t.led = true
  room : L.length * 5 < t.mask * 3
section
variable {P : Program} {w : World} {A : Around} {E : Value → Shared → Prop} {s : Shared} {a : Addr} {L : KL} {es : Array (Int × Value)} {ep : Nat} {t : SetTable}
theorem rowsK_len {es : Array (Int × Value)} {L : KL} (h : es.toList = rowsK w L) : es.size = L.length := by rw [← Array.length_toList, h, rowsK, List.length_map]
theorem SetK.size (R : SetK w s.heap a L es ep t) : es.size = L.length := rowsK_len R.rows
theorem place_len (T : TabOk t (hsK w L)) : t.place.size = L.length := by rw [T.sz, List.length_map]
theorem fitsK {n : Nat} (dm : t.dummies = #[]) (h1 : t.place.size = n) (h2 : n ≤ t.mask) : t.fits n = true := by
  unfold SetTable.fits SetTable.fill
  rw [dm, Bool.and_eq_true, beq_iff_eq, decide_eq_true_eq]
  exact ⟨h1, by show t.place.size + 0 ≤ t.mask; omega⟩
theorem SetK.fits (R : SetK w s.heap a L es ep t) : t.fits es.size = true := fitsK R.tab.dm (by rw [place_len R.tab, R.size]) (by have := R.room; have := R.size; omega)
theorem SetK.at (R : SetK w s.heap a L es ep t) {i : Nat} {p : Addr × NestedKey} (h : L[i]? = some p) : es[i]? = some (p.2.hash w, Value.ref p.1) := by
  rw [← Array.getElem?_toList, R.rows, rowsK, List.getElem?_map, h] <;> rfl
theorem SetK.hat (R : SetK w s.heap a L es ep t) {i : Nat} {p : Addr × NestedKey} (h : L[i]? = some p) : hAt es i = p.2.hash w := by
  show (es[i]?.map (·.1)).getD 0 = _
  rw [R.at h] <;> rfl
theorem SetK.whole (R : SetK w s.heap a L es ep t) : ¬ t.gaveWay = true := by
  unfold SetTable.gaveWay
  rw [mask_odd R.tab.mok]
  decide
theorem stp_clean (m : Nat) (h : Int) : ∀ c, (stp m h c).dummy = none := by
  have go : ∀ (n : Nat) (p : SetTable.Probe), p.dummy = none → (nth m p n).dummy = none := fun n => by
    induction n with
    | zero => exact fun p q => q
    | succ n ih => exact fun p q => ih (adv m p) (by unfold adv; split <;> exact q)
  exact fun c => go c _ rfl
theorem stp_on (m : Nat) (h : Int) (c q : Nat) : nth m (stp m h c) q = stp m h (c + q) := (nth_add m c _ q).symm
/-- from the c-th step on: the key is met, or the first free place -/
theorem find_K (R : SetK w s.heap a L es ep t) {x : Addr} {k : NestedKey} (hx : IsK s.heap k x) (hu : A.units + 8 < cLine) {N : Nat} (hN : N < 10 * SetTable.turns t.mask)
    (free : (stp t.mask (k.hash w) N).j ∉ t.place.toList) (busy : ∀ c, c < N → (stp t.mask (k.hash w) c).j ∈ t.place.toList) {Q : SetFound → Shared → Prop} (yes : k ∈ L.map (·.2) → Q (.there none) s) (no : k ∉ L.map (·.2) → Q (.free (stp t.mask (k.hash w) N).j false) s) :
    ∀ (f c : Nat) (stand : Option SetTable.Probe), stand.getD (t.probeStart (k.hash w)) = stp t.mask (k.hash w) c → c ≤ N → N - c < f →
      (∀ (i : Nat) p, L[i]? = some p → p.2 = k → ∃ d, c ≤ d ∧ d < N ∧ t.place.toList[i]? = some (stp t.mask (k.hash w) d).j) → wpAny (model P w) A (setSearchFrom a (.ref x) (k.hash w) true f stand) Q E s
  | 0, _, _, _, _, hf, _ => absurd hf (Nat.not_lt_zero _)
  | f + 1, c, stand, hst, hc, hf, ahead => by
    obtain ⟨o, ho, hex, hd⟩ := R.ob
    have spec := go_spec t R.tab.ris R.tab.dm (hAt es) (k.hash w) (10 * SetTable.turns t.mask) (N - c) _ (stp_clean t.mask (k.hash w) c) (by omega)
      (fun q hq => by rw [stp_on]; exact busy (c + q) (by omega)) (by rw [stp_on, show c + (N - c) = N by omega]; exact free)
    rw [setSearchFrom_succ]
    refine wpAny_bind (wpAny_setState_of ho hd R.fits ?_)
    dsimp only
    refine wp_if_neg R.whole ?_
    try refine wpAny_bind (wpAny_pure ?_)
    rcases spec with ⟨q, i, hq, hi, hh, hno, hpr⟩ | ⟨hno, hpr⟩
    · -- one with this hash
      rw [stp_on] at hi hpr
      rw [stp_on] at hpr
      have e0 : t.probe (hAt es) (k.hash w) (stand.getD (t.probeStart (k.hash w))) = some (.candidate (stp t.mask (k.hash w) (c + q)).j i (stp t.mask (k.hash w) (c + (q + 1)))) := by rw [hst]; exact hpr
      rw [e0]
      dsimp only
      have il : i < L.length := by
        have h1 := (List.getElem?_eq_some_iff.mp hi).1
        rw [Array.length_toList, place_len R.tab] at h1
        exact h1
      obtain ⟨p, hp⟩ : ∃ p, L[i]? = some p := ⟨_, List.getElem?_eq_getElem il⟩
      have hm := List.mem_of_getElem? hp
      have rest : wpAny (model P w) A (searchRest a (.ref x) (k.hash w) true f es t (stp t.mask (k.hash w) (c + q)).j i (stp t.mask (k.hash w) (c + (q + 1)))) Q E s := by
        have pk := R.key p hm
        unfold searchRest
        rw [R.at hp]
        dsimp only
        refine wpAny_bind (wpAny_holding ((nestedKind P w).eqBool (x := p.2) (y := k) hu ⟨pk.is, pk.dp⟩ ⟨hx.is, hx.dp⟩ (wpAny_bind (wpAny_setState_of ho hd R.fits ?_))))
        dsimp only
        by_cases e : p.2 = k
        · exact wp_if_pos (by simp [e]) (wpAny_pure (yes (List.mem_map.mpr ⟨p, hm, e⟩)))
        · refine wp_if_neg (by simp [e]) ?_
          try refine wpAny_bind (wpAny_pure ?_)
          rw [sameMem]
          dsimp only
          have hsl : t.slot (stp t.mask (k.hash w) (c + q)).j = .live i := slot_live R.tab.ris hi
          simp only [if_true, hsl, R.at hp]
          refine wpAny_bind (wpAny_isSame_ref_self (wpAny_bind (wpAny_pure ?_)))
          simp only [if_true]
          refine wp_if_neg (by simp [e]) (find_K R hx hu hN free busy yes no f (c + (q + 1)) _ rfl (by omega) (by omega) fun i0 p0 h0 k0 => ?_)
          obtain ⟨d, d1, d2, d3⟩ := ahead i0 p0 h0 k0
          refine ⟨d, ?_, d2, d3⟩
          rcases Nat.lt_trichotomy d (c + q) with z | z | z
          · refine absurd ((R.hat h0).trans (by rw [k0])) (hno (d - c) i0 (by omega) ?_)
            rw [stp_on, show c + (d - c) = d by omega]; exact d3
          · rw [z] at d3
            have s0 := slot_live R.tab.ris d3
            rw [hsl] at s0
            injection s0 with s0
            rw [← s0, hp] at h0
            cases h0
            exact absurd k0 e
          · omega
      by_cases hl : t.led = true
      · refine wp_if_neg (by simp [hl]) ?_
        try refine wpAny_bind (wpAny_pure ?_)
        exact rest
      · refine wp_if_pos (by simp [hl]) (wpAny_bind (seen_K hx (fun y hy => ?_) ?_))
        · obtain ⟨e, he, ee⟩ := List.mem_map.mp hy
          have he1 : e ∈ es ∧ e.1 = k.hash w := by simpa using he
          have he2 : e ∈ es.toList := by simpa using he1.1
          rw [R.rows] at he2
          obtain ⟨p2, hp2, e2⟩ := List.mem_map.mp he2
          exact ⟨p2.2, p2.1, by rw [← ee, ← e2], R.key p2 hp2⟩
        · refine wp_if_neg (by decide) ?_
          try refine wpAny_bind (wpAny_pure ?_)
          exact rest
    · -- none: the free place
      rw [stp_on, show c + (N - c) = N by omega] at hpr
      have e0 : t.probe (hAt es) (k.hash w) (stand.getD (t.probeStart (k.hash w))) = some (.empty (stp t.mask (k.hash w) N).j none) := by rw [hst]; exact hpr
      rw [e0]
      dsimp only
      refine wpAny_pure (no fun hm => ?_)
      obtain ⟨p0, h0, k0⟩ := List.mem_map.mp hm
      obtain ⟨i0, hi0, e0⟩ := List.getElem_of_mem h0
      have h00 : L[i0]? = some p0 := by rw [List.getElem?_eq_getElem hi0, e0]
      obtain ⟨d, d1, d2, d3⟩ := ahead i0 p0 h00 k0
      refine absurd ((R.hat h00).trans (by rw [k0])) (hno (d - c) i0 (by omega) ?_)
      rw [stp_on, show c + (d - c) = d by omega]; exact d3
theorem search_K (R : SetK w s.heap a L es ep t) {x : Addr} {k : NestedKey} (hx : IsK s.heap k x) (hu : A.units + 8 < cLine) {Q : SetFound → Shared → Prop} (yes : k ∈ L.map (·.2) → Q (.there none) s)
    (no : ∀ N, k ∉ L.map (·.2) → way t.mask (k.hash w) N ∉ t.place.toList → (∀ c, c < N → way t.mask (k.hash w) c ∈ t.place.toList) → Q (.free (way t.mask (k.hash w) N) false) s) :
    wpAny (model P w) A (setSearch a (.ref x) (k.hash w) true) Q E s := by
  have room := R.room
  obtain ⟨N, h1, h2, h3⟩ := R.tab.first (by rw [List.length_map]; omega) (k.hash w)
  have big : N < 100000 := by
    have : 10 * SetTable.turns t.mask ≤ 1420 := by
      unfold SetTable.turns
      rcases R.tab.mok with e | e | e <;> rw [e] <;> decide
    omega
  unfold setSearch
  refine find_K R hx hu h1 h2 h3 yes (fun hn => no N hn h2 h3) 100000 0 none rfl (Nat.zero_le _) (by omega) fun i p hp hk => ?_
  have hi : (hsK w L)[i]? = some (k.hash w) := by rw [List.getElem?_map, hp, ← hk] <;> rfl
  have il : i < t.place.toList.length := by
    rw [Array.length_toList, place_len R.tab]
    exact (List.getElem?_eq_some_iff.mp hp).1
  have hj := List.getElem?_eq_getElem il
  obtain ⟨c, hc, e⟩ := R.tab.before h2 hi hj
  exact ⟨c, Nat.zero_le _, hc, by rw [hj, ← e]⟩
end
end DS
namespace DS
open PySem PySem.Spec PyProof.Rows L2
/-! ### adding -/
section
variable {P : Program} {w : World} {A : Around} {E : Value → Shared → Prop} {s : Shared} {a : Addr} {L : KL} {es : Array (Int × Value)} {ep : Nat} {t : SetTable}
theorem picks {α : Type} (L : List α) : (List.range L.length).filterMap (fun i => L[i]?) = L := by
  have go : ∀ n, n ≤ L.length → (List.range n).filterMap (fun i => L[i]?) = L.take n := fun n => by
    induction n with
    | zero => exact fun _ => rfl
    | succ n ih =>
      intro hn
      have lt : n < L.length := hn
      rw [List.range_succ, List.filterMap_append, ih (Nat.le_of_lt lt), List.take_succ, List.getElem?_eq_getElem lt, List.filterMap_cons_some (List.getElem?_eq_getElem lt)]
      rfl
  rw [go _ (Nat.le_refl _), List.take_length]
/-- the rows in another order -/
theorem reorder (es : Array (Int × Value)) (order : Array Nat) (hr : es.toList = rowsK w L) (hp : order.toList.Perm (List.range L.length)) :
    ∃ L2, (order.filterMap (es[·]?)).toList = rowsK w L2 ∧ L2.Perm L ∧ hsK w L2 = order.toList.map fun i => (es.map (·.1)).getD i 0 := by
  have ent : ∀ i (h : i < L.length), es[i]? = some ((L[i]).2.hash w, Value.ref (L[i]).1) := fun i h => by
    rw [← Array.getElem?_toList, hr, rowsK, List.getElem?_map, List.getElem?_eq_getElem h] <;> rfl
  have go : ∀ l : List Nat, (∀ i ∈ l, i < L.length) → l.filterMap (fun i => es[i]?) = rowsK w (l.filterMap fun i => L[i]?) ∧ hsK w (l.filterMap fun i => L[i]?) = l.map fun i => (es.map (·.1)).getD i 0 := fun l => by
    induction l with
    | nil => exact fun _ => ⟨rfl, rfl⟩
    | cons i l ih =>
      intro hl
      have hi := hl i List.mem_cons_self
      obtain ⟨e1, e2⟩ := ih fun j hj => hl j (List.mem_cons_of_mem _ hj)
      rw [List.filterMap_cons_some (ent i hi), List.filterMap_cons_some (List.getElem?_eq_getElem hi), e1]
      refine ⟨rfl, ?_⟩
      rw [hsK, List.map_cons, List.map_cons]
      rw [hsK] at e2
      rw [e2]
      have e5 : (es.map (·.1))[i]? = some ((L[i]).2.hash w) := by rw [Array.getElem?_map, ent i hi] <;> rfl
      rw [show (es.map (·.1)).getD i 0 = (L[i]).2.hash w by simp [Array.getD_eq_getD_getElem?, e5]]
  obtain ⟨e1, e2⟩ := go order.toList fun i hi => List.mem_range.mp (hp.mem_iff.mp hi)
  refine ⟨_, by first | (rw [Array.toList_filterMap]; exact e1) | simpa using e1, ?_, e2⟩
  have h1 := hp.filterMap (fun i => L[i]?)
  rw [picks] at h1
  exact h1
/-- laid anew, larger -/
theorem relay_K {o : Obj} (ho : s.heap.get? a = some o) (hex : o.ExactSet) (hd : o.data = .set es ep t) (hr : es.toList = rowsK w L) (hsz : t.place.size = es.size) (dm : t.dummies = #[]) (hfl : es.size ≤ t.mask) (nd : (L.map (·.2)).Nodup) (key : ∀ p ∈ L, IsK s.heap p.2 p.1)
    (pl : t.plain = true) (ld : w.params.followText "set-order" = true ∨ t.led = true) {wanted M : Nat} (hw : SetTable.sizeAbove wanted - 1 = M) (hM : MaskOk M) (hw2 : SetTable.sizeAbove wanted ≤ 128) (hn : L.length * 5 < M * 3) {Q : Unit → Shared → Prop}
    (q : ∀ h' L' es' ep' t', Heap.SameBut a s.heap h' → SetK w h' a L' es' ep' t' → L'.Perm L → Q () { s with heap := h' }) : wpAny (model P w) A (setRelay a wanted) Q E s := by
  have hsl := rowsK_len hr
  obtain ⟨t2, order, e, hp, T, em, el, epl, edm⟩ := relaid_ok t (hs := es.map (·.1)) (wanted := wanted) hw hM (by rw [Array.size_map, hsl]; omega)
  rw [Array.size_map, hsl] at hp
  obtain ⟨L2, r1, r2, r3⟩ := reorder es order hr hp
  rw [← r3] at T
  have hs2 : (order.filterMap (es[·]?)).size = es.size := by rw [rowsK_len r1, r2.length_eq, hsl]
  rw [setRelay_eq]
  refine wpAny_bind (wpAny_setState_of ho hd (fitsK dm hsz hfl) ?_)
  dsimp only
  refine wp_if_neg (by rw [sizeLine_eq]; omega) ?_
  try refine wpAny_bind (wpAny_pure ?_)
  rw [e]
  dsimp only
  refine wpAny_bind (wp_if_neg (by rw [hs2]; simp) ?_)
  try refine wpAny_bind (wpAny_pure ?_)
  refine wpAny_pure ?_
  dsimp only
  refine wpAny_storeSet_of ho hd ?_ (by rw [hs2, hsl, sizeLine_eq]; have := hM; rcases this with z | z | z <;> omega)
  have sb : Heap.SameBut a s.heap (s.heap.update a (Obj.putSet (order.filterMap (es[·]?)) t2)) := Heap.SameBut.update ..
  refine q _ L2 _ (ep + 1) t2 sb ⟨⟨_, store_at ho hd, ⟨hex.1, hex.2.1, hex.2.2⟩, rfl⟩, r1, T, (r2.map (·.2)).nodup_iff.mpr nd, fun p hp => (key p (r2.mem_iff.mp hp)).same ho hd sb, by rw [epl]; exact pl, by rw [el]; exact ld, by rw [r2.length_eq, em]; exact hn⟩ r2
theorem perm_in {α : Type} (L : List α) (p : Nat) (x : α) : (L.take p ++ x :: L.drop p).Perm (x :: L) := by
  have h : (L.take p ++ x :: L.drop p).Perm (x :: (L.take p ++ L.drop p)) := List.perm_middle
  rwa [List.take_append_drop] at h
theorem add_K (R : SetK w s.heap a L es ep t) {x : Addr} {k : NestedKey} (hx : IsK s.heap k x) (hu : A.units + 8 < cLine) (few : k ∉ L.map (·.2) → L.length + 1 ≤ 75) {Q : Bool → Shared → Prop}
    (q : ∀ b h' L' es' ep' t', Heap.SameBut a s.heap h' → SetK w h' a L' es' ep' t' → (k ∈ L.map (·.2) → L' = L) → (k ∉ L.map (·.2) → L'.Perm ((x, k) :: L)) → Q b { s with heap := h' }) :
    wpAny (model P w) A (setAddHashed a (.ref x) (k.hash w)) Q E s := by
  obtain ⟨o, ho, hex, hd⟩ := R.ob
  have hsl := R.size
  have room := R.room
  unfold setAddHashed
  refine wpAny_holding ?_
  rw [show (100000 : Nat) = 99999 + 1 from rfl, setAddHashedIn_succ]
  refine wpAny_bind (wpAny_setState_of ho hd R.fits ?_)
  dsimp only
  refine wp_if_neg (by simp [byScan, Value.scannable]) ?_
  try refine wpAny_bind (wpAny_pure ?_)
  refine wpAny_bind (search_K R hx hu (fun hm => wpAny_pure (q false s.heap L es ep t (Heap.SameBut.refl a s.heap) R (fun _ => rfl) fun z => absurd hm z)) fun N hm free busy => ?_)
  have few := few hm
  dsimp only
  refine wpAny_bind (wpAny_setState_of ho hd R.fits ?_)
  dsimp only
  obtain ⟨q1, q2, q3, q4, q5, q6, q7, q8, q9⟩ := R.tab.put free busy
  have pl1 : (t.put (way t.mask (k.hash w) N)).1.plain = true := by rw [q6]; exact R.plain
  have hin : (SetTable.insertAt es (SetTable.below t.place (way t.mask (k.hash w) N)) (k.hash w, Value.ref x)).toList = rowsK w (L.take (SetTable.below t.place (way t.mask (k.hash w) N)) ++ (x, k) :: L.drop (SetTable.below t.place (way t.mask (k.hash w) N))) := by
    rw [SetTable.toList_insertAt, R.rows, rowsK, rowsK, List.map_append, List.map_cons, List.map_take, List.map_drop]
  generalize hpt : t.put (way t.mask (k.hash w) N) = pt at q1 q3 q4 q5 q6 q7 q8 q9 pl1 ⊢
  obtain ⟨t1, p⟩ := pt
  dsimp only at q1 q3 q4 q5 q6 q7 q8 q9 pl1 ⊢
  subst q1
  have hv := hv_key (P := P) (w := w) k (.ref x) 8 s hx.is hx.dp hx.tx
  first
    | (refine wpAny_bind ?_; refine wp_if_pos pl1 ?_; refine hv A E _ ?_)
    | refine wp_if_pos pl1 (wpAny_bind (hv A E _ ?_))
  simp only [if_true]
  generalize SetTable.below t.place (way t.mask (k.hash w) N) = p at q2 q3 hin ⊢
  have pm := perm_in L p (x, k)
  have hh : hsK w (L.take p ++ (x, k) :: L.drop p) = (hsK w L).take p ++ k.hash w :: (hsK w L).drop p := by rw [hsK, hsK, List.map_append, List.map_cons, List.map_take, List.map_drop]
  rw [← hh] at q3
  generalize L.take p ++ (x, k) :: L.drop p = L1 at pm q3 hin
  have len1 : L1.length = L.length + 1 := pm.length_eq
  have nd1 : (L1.map (·.2)).Nodup := (pm.map (·.2)).nodup_iff.mpr (by rw [List.map_cons]; exact List.nodup_cons.mpr ⟨hm, R.nd⟩)
  generalize SetTable.insertAt es p (k.hash w, Value.ref x) = es1 at hin ⊢
  have hes := rowsK_len hin
  rw [len1] at hes
  refine wpAny_bind (wpAny_storeSet_of ho hd ?_ (by rw [hes, sizeLine_eq]; omega))
  have sb : Heap.SameBut a s.heap (s.heap.update a (Obj.putSet es1 t1)) := Heap.SameBut.update ..
  have ho1 := store_at (es' := es1) (t' := t1) ho hd
  generalize s.heap.update a (Obj.putSet es1 t1) = h1 at sb ho1 ⊢
  have key1 : ∀ p ∈ L1, IsK h1 p.2 p.1 := fun p hp => by
    rcases List.mem_cons.mp (pm.mem_iff.mp hp) with e | hp
    · rw [e]; exact hx.same ho hd sb
    · exact (R.key p hp).same ho hd sb
  have ld1 : w.params.followText "set-order" = true ∨ t1.led = true := by rw [q5]; exact R.led
  have full : t1.tooFull = decide ((L.length + 1) * 5 ≥ t1.mask * 3) := by unfold SetTable.tooFull; rw [q9, List.length_map]
  by_cases hf : t1.tooFull = true
  · have hfull : (L.length + 1) * 5 ≥ t1.mask * 3 := by rw [full] at hf; exact of_decide_eq_true hf
    first
      | (refine wpAny_bind ?_; refine wp_if_pos (by simp [hf]) ?_)
      | (refine wp_if_pos (by simp [hf]) ?_; refine wpAny_bind ?_)
    rw [hsl]
    have two : (t.mask = 7 ∧ L.length = 4) ∨ (t.mask = 31 ∧ L.length = 18) := by
      rw [q4] at hfull
      rcases R.tab.mok with e | e | e <;> rw [e] at hfull room <;> omega
    have go : ∀ M, SetTable.sizeAbove (SetTable.grown (L.length + 1)) - 1 = M → MaskOk M → SetTable.sizeAbove (SetTable.grown (L.length + 1)) ≤ 128 → (L.length + 1) * 5 < M * 3 →
        wpAny (model P w) A (setRelay a (SetTable.grown (L.length + 1))) (fun _ s2 => wpAny (model P w) A (pure true) Q E s2) E { s with heap := h1 } := fun M g1 g2 g3 g4 =>
      relay_K (s := { s with heap := h1 }) ho1 ⟨hex.1, hex.2.1, hex.2.2⟩ rfl hin (by rw [place_len q3, len1, hes]) q3.dm (by rw [hes, q4]; rcases two with ⟨e, e2⟩ | ⟨e, e2⟩ <;> omega) nd1 key1 pl1 ld1 g1 g2 g3 (by rw [len1]; exact g4)
        fun h2 L2 es2 ep2 t2 sb2 R2 pm2 => wpAny_pure (q true h2 L2 es2 ep2 t2 (sb.trans sb2) R2 (fun z => absurd z hm) fun _ => pm2.trans pm)
    rcases two with ⟨_, e2⟩ | ⟨_, e2⟩
    · exact go 31 (by rw [e2, size_20]) (.inr (.inl rfl)) (by rw [e2, size_20]; decide) (by omega)
    · exact go 127 (by rw [e2, size_76]) (.inr (.inr rfl)) (by rw [e2, size_76]; decide) (by omega)
  · have hnot : ¬ (L.length + 1) * 5 ≥ t1.mask * 3 := by rw [full] at hf; exact fun z => hf (decide_eq_true z)
    first
      | refine wp_if_neg (by simp [hf]) ?_
      | (refine wpAny_bind ?_; refine wp_if_neg (by simp [hf]) ?_; refine wpAny_pure ?_)
    exact wpAny_pure (q true h1 L1 es1 (ep + 1) t1 sb ⟨⟨_, ho1, ⟨hex.1, hex.2.1, hex.2.2⟩, rfl⟩, hin, q3, nd1, key1, pl1, ld1, by rw [len1]; omega⟩ (fun z => absurd z hm) fun _ => pm)
end
end DS
namespace DS
open PySem PySem.Spec PyProof.Rows L2
/-! ### set(xs) -/
theorem nodup_len {α : Type} [DecidableEq α] : ∀ (l U : List α), l.Nodup → (∀ x ∈ l, x ∈ U) → l.length ≤ U.length
  | [], _, _, _ => Nat.zero_le _
  | x :: l, U, h, hs => by
    have hx := hs x List.mem_cons_self
    have hn := List.nodup_cons.mp h
    have ih := nodup_len l (U.erase x) hn.2 fun y hy => by
      have ne : y ≠ x := fun e => hn.1 (e ▸ hy)
      exact (List.mem_erase_of_ne ne).mpr (hs y (List.mem_cons_of_mem _ hy))
    have := List.length_erase_of_mem hx
    have := List.length_pos_of_mem hx
    rw [List.length_cons]
    omega
/-- what the set has got of the first i items -/
structure HasK (ks : KL) (i : Nat) (L : KL) : Prop where
  sub : ∀ p ∈ L, p ∈ ks.take i
  all : ∀ p ∈ ks.take i, p.2 ∈ L.map (·.2)
theorem HasK.zero (ks : KL) : HasK ks 0 [] := ⟨fun p h => (by cases h), fun p h => (by simp at h)⟩
theorem take_snoc {α : Type} {l : List α} {i : Nat} {x : α} (h : l[i]? = some x) : l.take (i + 1) = l.take i ++ [x] := by
  rw [List.take_succ, h] <;> rfl
theorem HasK.old {ks L : KL} {i : Nat} {x : Addr × NestedKey} (g : HasK ks i L) (h : ks[i]? = some x) (hm : x.2 ∈ L.map (·.2)) : HasK ks (i + 1) L := by
  refine ⟨fun p hp => ?_, fun p hp => ?_⟩
  · rw [take_snoc h]; exact List.mem_append_left _ (g.sub p hp)
  · rw [take_snoc h] at hp
    rcases List.mem_append.mp hp with z | z
    · exact g.all p z
    · rw [List.mem_singleton.mp z]; exact hm
theorem HasK.new {ks L L' : KL} {i : Nat} {x : Addr × NestedKey} (g : HasK ks i L) (h : ks[i]? = some x) (pm : L'.Perm (x :: L)) : HasK ks (i + 1) L' := by
  refine ⟨fun p hp => ?_, fun p hp => ?_⟩
  · rw [take_snoc h]
    rcases List.mem_cons.mp (pm.mem_iff.mp hp) with e | z
    · rw [e]; exact List.mem_append_right _ (List.mem_singleton.mpr rfl)
    · exact List.mem_append_left _ (g.sub p z)
  · rw [(pm.map (·.2)).mem_iff, List.map_cons]
    rw [take_snoc h] at hp
    rcases List.mem_append.mp hp with z | z
    · exact List.mem_cons_of_mem _ (g.all p z)
    · rw [List.mem_singleton.mp z]; exact List.mem_cons_self
section
variable {P : Program} {w : World} {A : Around} {E : Value → Shared → Prop} {s : Shared}
theorem SetK.keep {h h' : Heap} {a : Addr} {L : KL} {es : Array (Int × Value)} {ep : Nat} {t : SetTable} (R : SetK w h a L es ep t) (ha : ∀ o, h.get? a = some o → h'.get? a = some o) (ht : ∀ p ∈ L, IsK h' p.2 p.1) : SetK w h' a L es ep t := by
  obtain ⟨o, ho, r⟩ := R.ob
  exact ⟨⟨o, ha o ho, r⟩, R.rows, R.tab, R.nd, ht, R.plain, R.led, R.room⟩
abbrev bare (w : World) : Obj := { cls := .type "set", dict := none, data := .set #[] 0 (.fresh 0 0 (!w.params.followText "set-order")) }
theorem setK_bare {h : Heap} {a : Addr} (ho : h.get? a = some (bare w)) : SetK w h a [] #[] 0 (.fresh 0 0 (!w.params.followText "set-order")) where
  ob := ⟨_, ho, ⟨rfl, rfl, rfl⟩, rfl⟩
  rows := rfl
  tab := ⟨List.Pairwise.nil, rfl, rfl, .inl rfl, fun x hx => (by cases hx), fun i h j hi => (by simp at hi)⟩
  nd := List.nodup_nil
  key := fun p hp => (by cases hp)
  plain := rfl
  led := by
    show _ ∨ (!w.params.followText "set-order") = true
    cases w.params.followText "set-order"
    · exact .inr rfl
    · exact .inl rfl
  room := by
    show 0 * 5 < 7 * 3
    decide
theorem loop_K {I : Addr} {fp wr : List Addr} {G : Array GenState → Array GenState → Prop} {n : Nat} {Pv : Nat → Value → Prop} {St : Nat → Shared → Prop} {R : Result → Shared → Prop}
    (W : WalksS P w A.in1 I fp wr G n Pv St) (S : Addr) (hSf : S ∉ fp) (ks : KL) (U : List NestedKey) (hn : n = ks.length) (hU : U.length ≤ 75) (hsU : ∀ p ∈ ks, p.2 ∈ U) (hval : ∀ i v, Pv i v → ∃ p, ks[i]? = some p ∧ v = .ref p.1)
    (h0 : Heap) (hk : ∀ p ∈ ks, IsK h0 p.2 p.1) (hS0 : h0.get? S = none) (hw0 : ∀ b ∈ wr, h0.get? b = none) (hu : A.in1.units + 8 < cLine) :
    ∀ (k i : Nat) (s : Shared), n - i = k → i ≤ n → St i s → (∀ b o, h0.get? b = some o → s.heap.get? b = some o) → (∃ L es ep t, SetK w s.heap S L es ep t ∧ HasK ks i L) →
      (∀ s' L es ep t, Moved (S :: wr) G s s' → SetK w s'.heap S L es ep t → HasK ks n L → (∀ b o, h0.get? b = some o → s'.heap.get? b = some o) → R (.ok (.ret .none)) s') →
      codeAny (model P w) A (.builtin "set.update.loop" ⟨[.ref S, .ref I], []⟩) R s := by
  have nw : S ∉ wr := fun h => hSf (W.sub _ h)
  have sb : ∀ b ∈ wr, b ∈ S :: wr := fun b hb => List.mem_cons_of_mem _ hb
  have stay : ∀ {s s' : Shared}, Moved wr G s s' → (∀ b o, h0.get? b = some o → s.heap.get? b = some o) → ∀ b o, h0.get? b = some o → s'.heap.get? b = some o := fun hm hkp b o e =>
    hm.heap b o (fun hb => by rw [hw0 b hb] at e; cases e) (hkp b o e)
  intro k
  induction k with
  | zero =>
    intro i s hk' hi hst hkp ⟨L, es, ep, t, hS, g⟩ hR
    have ein : i = n := by omega
    subst ein
    refine codeAny_builtin F.entry_set_update_loop ?_
    rw [Around.under_plainId F.plain_set_update_loop _]
    show wpAny _ A.in1 (pyNext (.ref I) >>= _) _ _ s
    refine wpAny_bind (W.done s _ _ hst fun s' hm => ?_)
    show wpAny _ A.in1 (ret Value.none) _ _ s'
    have hkp' := stay hm hkp
    exact wpAny_pure (hR s' L es ep t (hm.mono sb) (hS.keep (fun o e => hm.heap S o nw e) fun p hp => (hk p (List.mem_of_mem_take (g.sub p hp))).keep hkp') g hkp')
  | succ k ih =>
    intro i s hk' hi hst hkp ⟨L, es, ep, t, hS, g⟩ hR
    have ilt : i < n := by omega
    refine codeAny_builtin F.entry_set_update_loop ?_
    rw [Around.under_plainId F.plain_set_update_loop _]
    show wpAny _ A.in1 (pyNext (.ref I) >>= _) _ _ s
    refine wpAny_bind (W.item i s _ _ ilt hst fun v s' hP hst' hm => ?_)
    obtain ⟨p, hp, rfl⟩ := hval i v hP
    have hkp' := stay hm hkp
    have sub : ∀ p ∈ L, p ∈ ks := fun p hp => List.mem_of_mem_take (g.sub p hp)
    have hS1 : SetK w s'.heap S L es ep t := hS.keep (fun o e => hm.heap S o nw e) fun q hq => (hk q (sub q hq)).keep hkp'
    have hx : IsK s'.heap p.2 p.1 := (hk p (List.mem_of_getElem? hp)).keep hkp'
    show wpAny _ A.in1 (holding [Value.ref p.1] (setAdd S (.ref p.1)) >>= _) _ _ s'
    refine wpAny_bind (wpAny_holding ?_)
    unfold setAdd
    refine wpAny_holding ?_
    refine wpAny_bind (pyHash_key p.2 _ _ _ _ hx.is (by have := hx.dp; omega) ?_)
    refine add_K (s := { s' with toks := s'.toks + p.2.draws }) hS1 hx hu (fun hm => ?_) fun b h' L' es' ep' t' hsb hS2 c1 c2 => ?_
    · have := nodup_len (p.2 :: L.map (·.2)) U (List.nodup_cons.mpr ⟨hm, hS1.nd⟩) fun y hy => by
        rcases List.mem_cons.mp hy with e | hy
        · rw [e]; exact hsU p (List.mem_of_getElem? hp)
        · obtain ⟨q, hq, rfl⟩ := List.mem_map.mp hy
          exact hsU q (sub q hq)
      rw [List.length_cons, List.length_map] at this
      omega
    have g' : HasK ks (i + 1) L' := by
      rcases Classical.em (p.2 ∈ L.map (·.2)) with c | c
      · rw [c1 c]; exact g.old hp c
      · exact g.new hp (c2 c)
    have hkp2 : ∀ b o, h0.get? b = some o → h'.get? b = some o := fun b o e => (hsb.2 b (fun z => by rw [z, hS0] at e; cases e)).trans (hkp' b o e)
    refine wpAny_pure ⟨plainId_quiet F.plain_set_update_loop _, ih (i + 1) _ (by omega) ilt (W.frame _ s' _ _ hst' (Nat.le_add_right _ _) fun b hb o e => ?_) hkp2 ⟨L', es', ep', t', hS2, g'⟩ fun s'' L2 es2 ep2 t2 hm'' hS'' g'' hkp'' => ?_⟩
    · rw [hsb.2 b (fun h : b = S => hSf (by rw [← h]; exact hb))]; exact e
    · refine hR s'' L2 es2 ep2 t2 (Moved.trans W.gtrans ((hm.mono sb).then_heap (Nat.le_add_right _ _) fun b o hb e => ?_) hm'') hS'' g'' hkp''
      rw [hsb.2 b (fun h : b = S => hb (by rw [h]; exact List.mem_cons_self))]; exact e
end
end DS
namespace DS
open PySem PySem.Spec PyProof.Rows L2
theorem ne_two {a n : Nat} (h : a < n) : a ≠ n + 1 := by omega
theorem not_two {a n : Nat} (h : a < n) : n ∉ [n + 1, a] := by
  simp only [List.mem_cons, List.not_mem_nil, or_false, not_or]
  omega
section
variable {P : Program} {w : World} {A : Around} {E : Value → Shared → Prop} {s : Shared}

/-- set(xs), xs a list -/
theorem call_set_KL {l : Addr} {items : Array Value} (ks : KL) (U : List NestedKey) {Q : Value → Shared → Prop} (hh : A.handled = none) (hl : s.heap.IsList l items) (hit : items.toList = ks.map fun p => Value.ref p.1)
    (hk : ∀ p ∈ ks, IsK s.heap p.2 p.1) (hU : U.length ≤ 75) (hsU : ∀ p ∈ ks, p.2 ∈ U) (hu : A.units + 12 < cLine)
    (h : ∀ (h' : Heap) (tk : Nat) L es ep t, SetK w h' s.heap.objs.size L es ep t → HasK ks ks.length L → (∀ b o, s.heap.get? b = some o → h'.get? b = some o) → Q (.ref s.heap.objs.size) { s with heap := h', toks := tk }) :
    wpAny (model P w) A (call (.type "set") [.ref l]) Q E s := by
  have isz : items.size = ks.length := by
    have q := congrArg List.length hit
    rwa [Array.length_toList, List.length_map] at q
  obtain ⟨c, tl, r0⟩ := F.called_set.mro
  have r1 := F.called_set.made
  have r2 := F.called_set.sub
  refine wpAny_call (codeAny_of_tree ?_)
  show wpAny _ _ (callAny (.type "set") _) _ _ _
  refine wpAny_pure ⟨Code.quiet_builtin _ (by decide +kernel), codeAny_builtin F.entry_type_call ?_⟩
  rw [Around.under_plain (weight_type_call_type "set" [.ref l] []) rfl]
  have r3 := F.called_set.notType
  have r4 := F.called_set.canCreate
  have r5 := F.typeCall_set_1 (.ref l)
  repeat (any_goals first | assumption | wp_step)
  refine codeAny_mono (code_set_led1 (.ref l) (E := E) (Q₁ := fun obj s₁ => obj = .ref s.heap.objs.size ∧ s₁ = { s with heap := s.heap.push (bare w) }) ⟨rfl, rfl⟩) fun r s₁ hr => ?_
  cases r with
  | error e => exact hr
  | ok fl =>
    cases fl with
    | ret obj =>
      obtain ⟨rfl, rfl⟩ := hr
      have hS : (s.heap.push (bare w)).get? s.heap.objs.size = some (bare w) := Heap.get?_push_size _ rfl
      have hT : Shared.TypeIs { s with heap := s.heap.push (bare w) } (.ref s.heap.objs.size) "set" := ⟨_, hS, rfl⟩
      have r6 := F.called_set.init.lookup
      have r7 := F.called_set.init.bind (.ref s.heap.objs.size)
      repeat (any_goals first | assumption | wp_step)
      refine codeAny_mono (codeAny_call_builtin (R := wants (fun r s₂ => r = .none ∧ ∃ h' tk L es ep t, s₂ = { s with heap := h', toks := tk } ∧ SetK w h' s.heap.objs.size L es ep t ∧ HasK ks ks.length L ∧
          ∀ b o, s.heap.get? b = some o → h'.get? b = some o) E) F.called_set.init.plain F.entry_set_init (check_set_init_1 hT ?_)) fun r₂ s₂ hr₂ => ?_
      · obtain ⟨ol, hol, e1, nl, e2⟩ := hl
        obtain ⟨ocls, odict, odata, oslots⟩ := ol
        simp only at e1 e2
        subst e1 e2
        have hol' : (s.heap.push (bare w)).get? l = some { cls := .type "list", dict := odict, data := .seq items nl, slots := oslots } := Heap.get?_push_of_some _ hol
        have r8 := F.sub_list_set
        have r9 := F.sub_list_frozenset
        have ne : (Value.type "list" == Value.type "dict") = false := by decide
        have hl1 : (s.heap.push (bare w)).IsList l items := ⟨_, hol', rfl, nl, rfl⟩
        unfold Builtin.«set.__init__» noKeywords Builtin.Frozenset.updateFrom
        generalize hPI : pyIter = PI
        wp_walk
        subst hPI
        refine wpAny_pyIter_list hl1 ?_
        refine wpAny_bind (wpAny_runValue ?_)
        have ll : l < s.heap.objs.size := Heap.lt_size hol
        have h3 : A.in1.in1.in1.handled = none := by simp [hh]
        have z1 : (s.heap.push (bare w)).objs.size = s.heap.objs.size + 1 := Heap.size_push ..
        have nI : l ≠ (s.heap.push (bare w)).objs.size := by rw [z1]; exact ne_two ll
        have nS : s.heap.objs.size ∉ [(s.heap.push (bare w)).objs.size, l] := by
          rw [z1]
          exact not_two ll
        have get : ∀ (i : Nat) (v : Value), items[i]? = some v → ∃ p, ks[i]? = some p ∧ v = .ref p.1 := fun i v hv => by
          have q : items.toList[i]? = some v := by rw [Array.getElem?_toList]; exact hv
          rw [hit, List.getElem?_map] at q
          cases hq : ks[i]? with
          | none => rw [hq] at q; cases q
          | some p => rw [hq] at q; exact ⟨p, rfl, (Option.some.inj q).symm⟩
        have off : ∀ b, s.heap.objs.size ≤ b → s.heap.get? b = none := fun b hb => by
          cases q : s.heap.get? b with
          | none => rfl
          | some o => exact absurd (Heap.lt_size q) (Nat.not_lt_of_le hb)
        refine loop_K ((Walks.list h3 _ l nI items).toS) s.heap.objs.size
          nS ks U isz hU hsU get s.heap hk (off _ (Nat.le_refl _)) (fun b hb => off b (by rw [List.mem_singleton.mp hb, z1]; exact Nat.le_succ _)) (by simp only [Around.in1_units]; omega) (items.size - 0) 0 _ (by omega) (Nat.zero_le _)
          ⟨⟨_, Heap.get?_push_size _ rfl, rfl, rfl⟩, (hl1.push _)⟩ (fun b o e => Heap.get?_push_of_some _ (Heap.get?_push_of_some _ e)) ?g1 ?g2
        case g1 => exact ⟨[], #[], 0, _, setK_bare (Heap.get?_push_of_some _ hS), HasK.zero ks⟩
        case g2 =>
          intro s' L es ep t hm hS' g' hkp
          obtain ⟨h', g2, d', tk', os'⟩ := s'
          have eg : g2 = s.gens := hm.gens
          have ed : d' = s.drawn := hm.drawn
          have eo : os' = s.os := hm.os
          subst eg ed eo
          show wpAny _ _ _ _ _ _
          refine wpAny_pure ?_
          show wpAny _ _ (ret Value.none) _ _ _
          rw [isz] at g'
          exact wpAny_pure ⟨rfl, h', tk', L, es, ep, t, rfl, hS', g', hkp⟩
      · cases r₂ with
        | error e => exact hr₂
        | ok fl₂ =>
          cases fl₂ with
          | ret r =>
            obtain ⟨rfl, h', tk, L, es, ep, t, rfl, hS', g', hk'⟩ := hr₂
            repeat (any_goals first | assumption | wp_step)
            exact h _ _ _ _ _ _ hS' g' hk'
          | _ => exact hr₂.elim
    | _ => exact hr.elim

/-- set(xs), xs a tuple -/
theorem call_set_KT {l : Addr} {items : Array Value} (ks : KL) (U : List NestedKey) {Q : Value → Shared → Prop} (hh : A.handled = none) (hl : s.heap.IsTuple l items) (hit : items.toList = ks.map fun p => Value.ref p.1)
    (hk : ∀ p ∈ ks, IsK s.heap p.2 p.1) (hU : U.length ≤ 75) (hsU : ∀ p ∈ ks, p.2 ∈ U) (hu : A.units + 12 < cLine)
    (h : ∀ (h' : Heap) (tk : Nat) L es ep t, SetK w h' s.heap.objs.size L es ep t → HasK ks ks.length L → (∀ b o, s.heap.get? b = some o → h'.get? b = some o) → Q (.ref s.heap.objs.size) { s with heap := h', toks := tk }) :
    wpAny (model P w) A (call (.type "set") [.ref l]) Q E s := by
  have isz : items.size = ks.length := by
    have q := congrArg List.length hit
    rwa [Array.length_toList, List.length_map] at q
  obtain ⟨c, tl, r0⟩ := F.called_set.mro
  have r1 := F.called_set.made
  have r2 := F.called_set.sub
  refine wpAny_call (codeAny_of_tree ?_)
  show wpAny _ _ (callAny (.type "set") _) _ _ _
  refine wpAny_pure ⟨Code.quiet_builtin _ (by decide +kernel), codeAny_builtin F.entry_type_call ?_⟩
  rw [Around.under_plain (weight_type_call_type "set" [.ref l] []) rfl]
  have r3 := F.called_set.notType
  have r4 := F.called_set.canCreate
  have r5 := F.typeCall_set_1 (.ref l)
  repeat (any_goals first | assumption | wp_step)
  refine codeAny_mono (code_set_led1 (.ref l) (E := E) (Q₁ := fun obj s₁ => obj = .ref s.heap.objs.size ∧ s₁ = { s with heap := s.heap.push (bare w) }) ⟨rfl, rfl⟩) fun r s₁ hr => ?_
  cases r with
  | error e => exact hr
  | ok fl =>
    cases fl with
    | ret obj =>
      obtain ⟨rfl, rfl⟩ := hr
      have hS : (s.heap.push (bare w)).get? s.heap.objs.size = some (bare w) := Heap.get?_push_size _ rfl
      have hT : Shared.TypeIs { s with heap := s.heap.push (bare w) } (.ref s.heap.objs.size) "set" := ⟨_, hS, rfl⟩
      have r6 := F.called_set.init.lookup
      have r7 := F.called_set.init.bind (.ref s.heap.objs.size)
      repeat (any_goals first | assumption | wp_step)
      refine codeAny_mono (codeAny_call_builtin (R := wants (fun r s₂ => r = .none ∧ ∃ h' tk L es ep t, s₂ = { s with heap := h', toks := tk } ∧ SetK w h' s.heap.objs.size L es ep t ∧ HasK ks ks.length L ∧
          ∀ b o, s.heap.get? b = some o → h'.get? b = some o) E) F.called_set.init.plain F.entry_set_init (check_set_init_1 hT ?_)) fun r₂ s₂ hr₂ => ?_
      · obtain ⟨ol, hol, e1, nl, e2⟩ := hl
        obtain ⟨ocls, odict, odata, oslots⟩ := ol
        simp only at e1 e2
        subst e1 e2
        have hol' : (s.heap.push (bare w)).get? l = some { cls := .type "tuple", dict := odict, data := .seq items nl, slots := oslots } := Heap.get?_push_of_some _ hol
        have r8 := F.sub_tuple_set
        have r9 := F.sub_tuple_frozenset
        have ne : (Value.type "tuple" == Value.type "dict") = false := by decide
        have hl1 : (s.heap.push (bare w)).IsTuple l items := ⟨_, hol', rfl, nl, rfl⟩
        unfold Builtin.«set.__init__» noKeywords Builtin.Frozenset.updateFrom
        generalize hPI : pyIter = PI
        wp_walk
        subst hPI
        refine wpAny_pyIter_tuple hl1 ?_
        refine wpAny_bind (wpAny_runValue ?_)
        have ll : l < s.heap.objs.size := Heap.lt_size hol
        have h3 : A.in1.in1.in1.handled = none := by simp [hh]
        have z1 : (s.heap.push (bare w)).objs.size = s.heap.objs.size + 1 := Heap.size_push ..
        have nI : l ≠ (s.heap.push (bare w)).objs.size := by rw [z1]; exact ne_two ll
        have nS : s.heap.objs.size ∉ [(s.heap.push (bare w)).objs.size, l] := by
          rw [z1]
          exact not_two ll
        have get : ∀ (i : Nat) (v : Value), items[i]? = some v → ∃ p, ks[i]? = some p ∧ v = .ref p.1 := fun i v hv => by
          have q : items.toList[i]? = some v := by rw [Array.getElem?_toList]; exact hv
          rw [hit, List.getElem?_map] at q
          cases hq : ks[i]? with
          | none => rw [hq] at q; cases q
          | some p => rw [hq] at q; exact ⟨p, rfl, (Option.some.inj q).symm⟩
        have off : ∀ b, s.heap.objs.size ≤ b → s.heap.get? b = none := fun b hb => by
          cases q : s.heap.get? b with
          | none => rfl
          | some o => exact absurd (Heap.lt_size q) (Nat.not_lt_of_le hb)
        refine loop_K ((Walks.tuple h3 _ l nI items).toS) s.heap.objs.size
          nS ks U isz hU hsU get s.heap hk (off _ (Nat.le_refl _)) (fun b hb => off b (by rw [List.mem_singleton.mp hb, z1]; exact Nat.le_succ _)) (by simp only [Around.in1_units]; omega) (items.size - 0) 0 _ (by omega) (Nat.zero_le _)
          ⟨⟨_, Heap.get?_push_size _ rfl, rfl, rfl⟩, (hl1.push _)⟩ (fun b o e => Heap.get?_push_of_some _ (Heap.get?_push_of_some _ e)) ?g1 ?g2
        case g1 => exact ⟨[], #[], 0, _, setK_bare (Heap.get?_push_of_some _ hS), HasK.zero ks⟩
        case g2 =>
          intro s' L es ep t hm hS' g' hkp
          obtain ⟨h', g2, d', tk', os'⟩ := s'
          have eg : g2 = s.gens := hm.gens
          have ed : d' = s.drawn := hm.drawn
          have eo : os' = s.os := hm.os
          subst eg ed eo
          show wpAny _ _ _ _ _ _
          refine wpAny_pure ?_
          show wpAny _ _ (ret Value.none) _ _ _
          rw [isz] at g'
          exact wpAny_pure ⟨rfl, h', tk', L, es, ep, t, rfl, hS', g', hkp⟩
      · cases r₂ with
        | error e => exact hr₂
        | ok fl₂ =>
          cases fl₂ with
          | ret r =>
            obtain ⟨rfl, h', tk, L, es, ep, t, rfl, hS', g', hk'⟩ := hr₂
            repeat (any_goals first | assumption | wp_step)
            exact h _ _ _ _ _ _ hS' g' hk'
          | _ => exact hr₂.elim
    | _ => exact hr.elim
end
end DS
namespace DS
open PySem PySem.Spec PyProof.Rows L2
/-! ### sorted(set) -/
theorem perm_back {α β : Type} {f : α → β} {vs us : List β} (p : vs.Perm us) : ∀ {l : List α}, us = l.map f → ∃ l1 : List α, l1.Perm l ∧ vs = l1.map f := by
  induction p with
  | nil =>
    intro l e
    refine ⟨[], ?_, rfl⟩
    cases l with
    | nil => exact .refl _
    | cons => simp at e
  | cons x _ ih =>
    intro l e
    cases l with
    | nil => simp at e
    | cons a l =>
      rw [List.map_cons] at e
      injection e with e1 e2
      obtain ⟨l1, h1, h2⟩ := ih e2
      exact ⟨a :: l1, h1.cons a, by rw [List.map_cons, h2, e1]⟩
  | swap x y r =>
    intro l e
    match l, e with
    | a :: b :: l, e =>
      simp only [List.map_cons, List.cons.injEq] at e
      exact ⟨b :: a :: l, .swap .., by simp only [List.map_cons, e.1, e.2.1, e.2.2]⟩
    | [_], e => simp at e
    | [], e => simp at e
  | trans _ _ ih1 ih2 =>
    intro l e
    obtain ⟨l2, h1, h2⟩ := ih2 e
    obtain ⟨l1, h3, h4⟩ := ih1 h2
    exact ⟨l1, h3.trans h1, h4⟩
abbrev leK (q r : Addr × NestedKey) : Bool := PySem.W.dataLe false (fun p : Addr × NestedKey => p.2.data) q r
theorem leK_total : PySem.W.TotalLe leK := PySem.W.sortLe_total _ _ _
theorem each_refs {h : Heap} : ∀ (L : KL) {R : Value → Addr × NestedKey → Prop}, (∀ p ∈ L, R (.ref p.1) p) → PySem.W.EachIs R (L.map fun p => Value.ref p.1) L
  | [], _, _ => .nil
  | p :: L, R, hR => .cons (hR p List.mem_cons_self) (each_refs (h := h) L fun q hq => hR q (List.mem_cons_of_mem _ hq))
theorem refs_each : ∀ {out : List Value} {L : KL}, PySem.W.EachIs (fun v p => v = Value.ref p.1) out L → out = L.map fun p => Value.ref p.1
  | _, _, .nil => rfl
  | _, _, .cons h t => by rw [List.map_cons, h, refs_each t]
section
variable {P : Program} {w : World} {A : Around} {E : Value → Shared → Prop} {s : Shared}
theorem sorted_K {a : Addr} {L : KL} {es : Array (Int × Value)} {ep : Nat} {t : SetTable} {Q : Value → Shared → Prop} (R : SetK w s.heap a L es ep t) (hh : A.handled = none) (few : L.length ≤ 75)
    (rd : ∀ p ∈ L, Reads s.heap (.ref p.1) p.2.data []) (al : ∀ p ∈ L, ∀ q ∈ L, PySem.W.alike p.2.data q.2.data = true) (ne : ∀ p ∈ L, ∃ x r, p.2.data = .tuple (x :: r)) (dp : ∀ p ∈ L, A.units + 4 + p.2.data.depth < cLine)
    (hQ : ∀ s' p (out : Array Value) (c : Nat) (L' : KL), (∀ b o, s.heap.get? b = some o → s'.heap.get? b = some o) → s'.gens = s.gens → s'.os = s.os → s.heap.objs.size ≤ p →
      s'.heap.get? p = some (seqObj "list" out c) → out.toList = L'.map (fun q => Value.ref q.1) → L'.Perm L → L'.Pairwise (fun q r => leK q r = true) → Q (.ref p) s') :
    wpAny (model P w) A (call (.builtin "sorted") [.ref a]) Q E s := by
  obtain ⟨o, ho, hex, hd⟩ := R.ob
  have hsz := R.size
  refine Calls.call_function_entry kind_sorted plain_sorted entry_sorted (args_sorted1 _) ?_
  unfold Builtin.«sorted»
  refine wpAny_bind (m := checkCount "sorted" 1 1 _) (wpAny_pure ?_)
  refine wpAny_bind (collect_set (A := A.in1) hh ⟨o, ho, hex.1, hd⟩ R.fits (by unfold scanBound; omega) R.tab.ris R.led fun s1 vs k1 hz g1 o1 pm => ?_)
  obtain ⟨L1, p1, e1⟩ := perm_back (f := fun p : Addr × NestedKey => Value.ref p.1) pm (l := L) (by rw [R.rows, rowsK, List.map_map] <;> rfl)
  have mem : ∀ {q}, q ∈ L1 → q ∈ L := fun hq => p1.mem_iff.mp hq
  subst e1
  have len : L1.length ≤ 75 := by rw [p1.length_eq]; exact few
  refine wpAny_bind (wpAny_newList ?_ (by rw [sizeLine_eq, List.length_map]; omega))
  have hoL : (s1.heap.push (seqObj "list" (L1.map fun p => Value.ref p.1).toArray 0)).get? s1.heap.objs.size = some (seqObj "list" (L1.map fun p => Value.ref p.1).toArray 0) := Heap.get?_push_size _ rfl
  have rd2 : ∀ p ∈ L1, Reads (s1.heap.push (seqObj "list" (L1.map fun p => Value.ref p.1).toArray 0)) (.ref p.1) p.2.data [] := fun p hp => PyProof.Rows.Reads.keeps (fun b u e => Heap.get?_push_of_some _ (k1 b u e)) (rd p (mem hp))
  have al2 : PySem.W.AllAlike (L1.map fun p => p.2.data) := fun x hx y hy => by
    obtain ⟨p, hp, rfl⟩ := List.mem_map.mp hx
    obtain ⟨q, hq, rfl⟩ := List.mem_map.mp hy
    exact al p (mem hp) q (mem hq)
  have so2 : PySem.W.Sortable (L1.map fun p => p.2.data) := .inl fun x hx => by
    obtain ⟨p, hp, rfl⟩ := List.mem_map.mp hx
    exact ne p (mem hp)
  refine wpAny_bind (wpAny_holding (PySem.W.list_sort_data (s := { s1 with heap := s1.heap.push (seqObj "list" (L1.map fun p => Value.ref p.1).toArray 0) }) (enc := fun p : Addr × NestedKey => p.2.data) (R := fun v p => v = Value.ref p.1) (bs := L1) hoL
    (each_refs (h := s1.heap) L1 fun p _ => rfl) (each_refs (h := s1.heap) L1 fun p hp => ⟨[], rd2 p hp, List.not_mem_nil⟩) al2 so2 (by rw [sizeLine_eq]; omega) (fun p hp => by have := dp p (mem hp); simp only [Around.in1_units]; omega) fun out a1 a2 => ?_))
  obtain ⟨c, hc⟩ := sortedHeap_at (vs := L1.map fun p => Value.ref p.1) (out := out.toArray) hoL
  have pw := PySem.W.sort_pairwise leK_total L1
  refine wpAny_pure ⟨_, rfl, hQ _ s1.heap.objs.size out.toArray c (L1.mergeSort leK) (fun b u e => ?_) g1 o1 hz hc (refs_each a2) ((List.mergeSort_perm _ _).trans p1) pw⟩
  have q := k1 b u e
  have hlt := Heap.lt_size q
  show (sortedHeap (s1.heap.push _) s1.heap.objs.size _ out.toArray).get? b = some u
  rw [sortedHeap_old (Nat.ne_of_lt hlt) (by rw [size_push']; exact Nat.lt_succ_of_lt hlt)]
  exact Heap.get?_push_of_some _ q
end
end DS
namespace DS
open PySem PySem.Spec PyProof.Rows L2
/-! ### the rules -/
mutual
/-- the value v is the key k, of numbers and tuples -/
def Nk (K : PySem.W.Frag) (H : Hp) : NestedKey → V → Prop
  | .num i, v => v = .int i
  | .tup ks, v => ∃ a xs, v = .ref a ∧ SqT K H a xs ∧ Nks K H ks xs
  | _, _ => False
def Nks (K : PySem.W.Frag) (H : Hp) : List NestedKey → List V → Prop
  | [], xs => xs = []
  | k :: ks, xs => ∃ v vs, xs = v :: vs ∧ Nk K H k v ∧ Nks K H ks vs
end
mutual
theorem nk_tx {K : PySem.W.Frag} {H : Hp} : ∀ (k : NestedKey) (v : V), Nk K H k v → noTx k = true
  | .num _, _, _ => by simp only [noTx]
  | .tup ks, _, h => by
    simp only [Nk] at h
    obtain ⟨a, xs, -, -, h⟩ := h
    simp only [noTx]
    exact nks_tx ks xs h
  | .none, _, h => by simp only [Nk] at h
  | .text _, _, h => by simp only [Nk] at h
theorem nks_tx {K : PySem.W.Frag} {H : Hp} : ∀ (ks : List NestedKey) (vs : List V), Nks K H ks vs → noTxs ks = true
  | [], _, _ => by simp only [noTxs]
  | k :: ks, _, h => by
    simp only [Nks] at h
    obtain ⟨v, vs, -, h1, h2⟩ := h
    simp only [noTxs, nk_tx k v h1, nks_tx ks vs h2, Bool.and_self]
end
section
variable {X : Cx} {pins : List (Addr × Obj)} {σ : L2.St} {H : Hp} {s : Shared}
mutual
theorem nk_is (I : Inv X pins σ H s) : ∀ (k : NestedKey) (v : V) (u : Value), Nk X.K H k v → RelV v u → NestedIs s.heap k u ∧ Reads s.heap u k.data []
  | .num i, _, _, h, r => by
    simp only [Nk] at h
    subst h
    obtain ⟨t, rfl⟩ := r
    exact ⟨.int i t, .int i t⟩
  | .tup ks, _, _, h, r => by
    simp only [Nk] at h
    obtain ⟨a, xs, rfl, hs, h⟩ := h
    cases r
    obtain ⟨its, rv, ⟨o, ho, hc, n, hd⟩, _⟩ := I.tuple hs
    obtain ⟨h1, h2⟩ := nks_is I ks xs its h rv
    exact ⟨.tup ho hc hd (by simpa using h1), by rw [NestedKey.data]; exact .tuple ho hc hd (by simpa using h2)⟩
  | .none, _, _, h, _ => by simp only [Nk] at h
  | .text _, _, _, h, _ => by simp only [Nk] at h
theorem nks_is (I : Inv X pins σ H s) : ∀ (ks : List NestedKey) (vs : List V) (us : List Value), Nks X.K H ks vs → Vals vs us → NestedAll s.heap ks us ∧ ReadsAll s.heap us (NestedKey.datas ks) []
  | [], _, _, h, r => by
    simp only [Nks] at h
    subst h
    cases r
    exact ⟨.nil, by rw [NestedKey.datas]; exact .nil⟩
  | k :: ks, _, _, h, r => by
    simp only [Nks] at h
    obtain ⟨v, vs, rfl, h1, h2⟩ := h
    cases r with
    | cons r1 r2 =>
      obtain ⟨a1, a2⟩ := nk_is I k _ _ h1 r1
      obtain ⟨b1, b2⟩ := nks_is I ks _ _ h2 r2
      exact ⟨.cons a1 b1, by rw [NestedKey.datas]; exact .cons (as := []) (bs := []) a2 b2⟩
end
theorem Inv.isK (I : Inv X pins σ H s) {k : NestedKey} {a : Addr} (h : Nk X.K H k (.ref a)) (d : k.depth ≤ 8) : IsK s.heap k a := ⟨(nk_is I k _ (.ref a) h rfl).1, d, nk_tx k _ h⟩
end
/-- the set at a, without what its items are -/
structure SetN (w : World) (h : Heap) (a : Addr) (L : KL) : Prop where
  ex : ∃ (es : Array (Int × Value)) (ep : Nat) (t : SetTable), (∃ o, h.get? a = some o ∧ o.ExactSet ∧ o.data = .set es ep t) ∧ es.toList = rowsK w L ∧ TabOk t (hsK w L) ∧ (L.map (·.2)).Nodup ∧ t.plain = true ∧
    (w.params.followText "set-order" = true ∨ t.led = true) ∧ L.length * 5 < t.mask * 3
def SetNO (w : World) (a : Addr) (L : KL) : HO := .ext fun h => SetN w h a L
theorem SetK.n {w : World} {h : Heap} {a : Addr} {L : KL} {es : Array (Int × Value)} {ep : Nat} {t : SetTable} (R : SetK w h a L es ep t) : SetN w h a L := ⟨es, ep, t, R.ob, R.rows, R.tab, R.nd, R.plain, R.led, R.room⟩
theorem SetN.full {w : World} {h : Heap} {a : Addr} {L : KL} (R : SetN w h a L) (ht : ∀ p ∈ L, IsK h p.2 p.1) : ∃ es ep t, SetK w h a L es ep t := by
  obtain ⟨es, ep, t, h1, h2, h3, h4, h5, h6, h7⟩ := R.ex
  exact ⟨es, ep, t, h1, h2, h3, h4, ht, h5, h6, h7⟩
theorem setNO_ok {X : Cx} {H : Hp} {h : Heap} {a : Addr} {L : KL} (R : SetN X.w h a L) : ObjOk X.prog X.w H h a (SetNO X.w a L) := by
  have ⟨es, ep, t, ⟨o, ho, r⟩, q⟩ := R.ex
  refine ⟨R, ⟨o, ho⟩, fun h1 h2 p k => ?_⟩
  have ⟨es', ep', t', ⟨o', ho', r'⟩, q'⟩ := SetN.ex p
  exact ⟨es', ep', t', ⟨o', k o' ho', r'⟩, q'⟩
theorem krefs_of : ∀ {ks : KL} {us : List Value}, Vals (ks.map fun p => V.ref p.1) us → us = ks.map fun p => Value.ref p.1
  | [], _, .nil => rfl
  | p :: ks, _, .cons r t => by
    cases r
    rw [krefs_of t] <;> rfl
theorem of_krefs : ∀ (ks : KL), Vals (ks.map fun p => V.ref p.1) (ks.map fun p => Value.ref p.1)
  | [] => .nil
  | p :: ks => .cons rfl (of_krefs ks)
/-- set(xs) -/
def rSetK (K : PySem.W.Frag) (w : World) : List V → Hp → VK → Prop := fun xs H Q => ∃ (l : Addr) (ks : KL) (U : List NestedKey), xs = [V.ref l] ∧ (SqL K H l (ks.map fun p => V.ref p.1) ∨ SqT K H l (ks.map fun p => V.ref p.1)) ∧ (∀ p ∈ ks, Nk K H p.2 (.ref p.1) ∧ p.2.depth ≤ 8) ∧
  U.length ≤ 75 ∧ (∀ p ∈ ks, p.2 ∈ U) ∧ ∀ a L, H a = none → (∀ p ∈ L, p ∈ ks) → (∀ p ∈ ks, p.2 ∈ L.map (·.2)) → (L.map (·.2)).Nodup → Q (.ref a) (upd H a (SetNO w a L))
/-- sorted(set) -/
def rSortK (K : PySem.W.Frag) (w : World) : List V → Hp → VK → Prop := fun vs H Q => ∃ (a : Addr) (L : KL), vs = [V.ref a] ∧ H a = some (SetNO w a L) ∧ (∀ p ∈ L, Nk K H p.2 (.ref p.1) ∧ p.2.depth ≤ 8) ∧ L.length ≤ 75 ∧
  (∀ p ∈ L, ∀ q ∈ L, PySem.W.alike p.2.data q.2.data = true) ∧ (∀ p ∈ L, ∃ x r, p.2.data = .tuple (x :: r)) ∧ (∀ p ∈ L, p.2.data.depth ≤ 50) ∧
  ∀ (L' : KL) (p : Addr), L'.Perm L → L'.Pairwise (fun q r => leK q r = true) → H p = none → Q (.ref p) (upd H p (.lst (L'.map fun q => V.ref q.1)))
/-- len(set) -/
def rLenK (w : World) : List V → Hp → VK → Prop := fun vs H Q => ∃ (a : Addr) (L : KL), vs = [V.ref a] ∧ H a = some (SetNO w a L) ∧ L.length ≤ 75 ∧ Q (.int L.length) H
section
variable {X : Cx}
theorem cr_setK (hc : X.calm = true) (hu : X.A.units + 64 < cLine) : CallR X (.type "set") (rSetK X.K X.w) := by
  intro pins s σ H xs us Q I r h
  obtain ⟨l, ks, U, rfl, hl, hk, hU, hs, q⟩ := h
  rw [Vals.ref1 r]
  have hn : H s.heap.objs.size = none := I.hok.fresh (Nat.le_refl _)
  have key : ∀ p ∈ ks, IsK s.heap p.2 p.1 := fun p hp => Inv.isK I (hk p hp).1 (hk p hp).2
  have fin : ∀ (h' : Heap) (tk : Nat) L es ep t, SetK X.w h' s.heap.objs.size L es ep t → HasK ks ks.length L → (∀ b o, s.heap.get? b = some o → h'.get? b = some o) → EP X pins σ Q (.ref s.heap.objs.size) { s with heap := h', toks := tk } := fun h' tk L es ep t R g k =>
    ⟨.ref s.heap.objs.size, upd H s.heap.objs.size (SetNO X.w s.heap.objs.size L), I.laid (t' := tk) k (Nat.le_refl _) (setNO_ok R.n), rfl, q _ L hn (fun p hp => List.mem_of_mem_take (g.sub p hp)) (fun p hp => g.all p (by rw [List.take_length]; exact hp)) R.nd⟩
  rcases hl with hl | hl
  · obtain ⟨its, rv, pl, hz⟩ := I.list hl
    exact call_set_KL ks U (I.ok.hd hc) pl.isList (by simpa using krefs_of rv) key hU hs (by omega) fin
  · obtain ⟨its, rv, pt, hz⟩ := I.tuple hl
    exact call_set_KT ks U (I.ok.hd hc) (show s.heap.IsTuple l its.toArray from pt) (by simpa using krefs_of rv) key hU hs (by omega) fin
theorem cr_sortK (hc : X.calm = true) (hu : X.A.units + 64 < cLine) : CallR X (.builtin "sorted") (rSortK X.K X.w) := by
  intro pins s σ H vs us Q I r h
  obtain ⟨a, L, rfl, ha, hk, hf, al, ne, dp, q⟩ := h
  have R0 : SetN X.w s.heap a L := (I.hok a _ ha).1
  obtain ⟨es, ep, t, R⟩ := R0.full fun p hp => Inv.isK I (hk p hp).1 (hk p hp).2
  rw [Vals.ref1 r]
  refine sorted_K R (I.ok.hd hc) hf (fun p hp => (nk_is I p.2 _ (.ref p.1) (hk p hp).1 rfl).2) al ne (fun p hp => by have := dp p hp; omega) fun s' p out c L' k g o hp hg hout pm pw => ?_
  have hfew : L'.length ≤ 75 := by rw [pm.length_eq]; exact hf
  have hlen : (L'.map fun q => V.ref q.1).length ≤ sizeLine := by rw [List.length_map, sizeLine_eq]; omega
  have hn : H p = none := I.hok.fresh hp
  have hv : Vals (L'.map fun q => V.ref q.1) out.toList := by rw [hout]; exact of_krefs L'
  have J : Inv X pins σ (upd H p (.lst (L'.map fun q => V.ref q.1))) { s with heap := s'.heap, gens := s'.gens, drawn := s'.drawn, toks := s'.toks } :=
    I.call (ch := []) (Un.laid k hp hn) (I.hok.laid k hp ⟨hlen, out.toList, c, hv, hg⟩) (by rw [g]; exact I.bare) (fun _ z => nomatch z)
  have e : s' = { s with heap := s'.heap, gens := s'.gens, drawn := s'.drawn, toks := s'.toks } := by
    cases s'
    cases s
    cases o
    rfl
  rw [e]
  exact ⟨.ref p, _, J, rfl, q L' p pm pw hn⟩
theorem cr_lenK : CallR X (.builtin "len") (rLenK X.w) := by
  intro pins s σ H vs us Q I r h
  obtain ⟨a, L, rfl, ha, hf, q⟩ := h
  have ⟨es, ep, t, ⟨o, ho, hex, hd⟩, hr, tb, nd, pl, ld, rm⟩ := SetN.ex (I.hok a _ ha).1
  have hsz := rowsK_len hr
  rw [Vals.ref1 r]
  exact call_len_set ho hex hd (fitsK tb.dm (by rw [place_len tb, hsz]) (by rw [hsz]; omega)) (by rw [hsz]; omega) ⟨.int L.length, H, I.tok _, ⟨_, by rw [hsz]⟩, q⟩
end
end DS
namespace DL
open PySem PySem.Spec PyProof.Rows L2

/-- data -/
inductive D where
  | non | bl (b : Bool) | int (i : Int) | str (x : Str) | tup (ds : List D) | lst (ds : List D) | hnd (n : Nat) | fn (x : Str) | frz (ds : List D)
  | dhn (n : Nat) | dic (ks : List (List Int)) (vs : List D) | dk (ks : List (List Int))
  deriving Inhabited
abbrev Sto := List (List D)
abbrev Rho := List (Option D)
inductive R (α : Type) where
  | ok (a : α) (st : Sto) | exc (c : Str) (p : D) (st : Sto) | bad
def R.bind {α β : Type} (r : R α) (k : α → Sto → R β) : R β := match r with
  | .ok a st => k a st
  | .exc c p st => .exc c p st
  | .bad => .bad

section
variable (K : PySem.W.Frag) (mg : Str → Option Value) (αs T : List Addr) (H : Hp)
def TupAt (a : Addr) (xs : List V) : Prop := (H a = some (.tup xs) ∧ a ∉ αs) ∨ (False ∧ K.lookup a = none)
def FrzAt (a : Addr) (xs : List V) : Prop := (∃ o : Obj, H a = some (.frz o (.lst xs)) ∧ a ∉ αs) ∨ ∃ (o : Obj) (its : Array Value) (n : Nat), K.lookup a = some o ∧ o.cls = .type "list" ∧ o.dict = none ∧ o.data = .seq its n ∧ its.size ≤ sizeLine ∧ Vals xs its.toList
def LstAt (a : Addr) (xs : List V) : Prop := H a = some (.lst xs) ∧ a ∉ αs ∧ a ∉ T
/-- a list, a dict with lines of ints as keys -/
def IsLst (a : Addr) : Prop := ∃ xs, H a = some (.lst xs)
def IsDic (a : Addr) : Prop := ∃ kvs, H a = some (.dT kvs)
abbrev kyI (k : List Int) : List Key := k.map Sum.inl
def DctAt (a : Addr) (ks : List (List Int)) (vs : List V) : Prop := H a = some (.dT ((ks.map kyI).zip vs)) ∧ vs.length = ks.length
mutual
def Rep : D → V → Prop
  | .non, v => v = .non
  | .bl b, v => v = .bl b
  | .int i, v => v = .int i
  | .str x, v => v = .str x
  | .tup ds, v => ∃ a xs, v = .ref a ∧ TupAt K αs H a xs ∧ Reps ds xs
  | .lst ds, v => ∃ a xs, v = .ref a ∧ LstAt αs T H a xs ∧ Reps ds xs
  | .hnd n, v => ∃ a, v = .ref a ∧ αs[n]? = some a ∧ IsLst H a
  | .dhn n, v => ∃ a, v = .ref a ∧ αs[n]? = some a ∧ IsDic H a
  | .dic ks vs, v => ∃ a xs, v = .ref a ∧ DctAt H a ks xs ∧ a ∉ αs ∧ a ∉ T ∧ Reps vs xs
  | .dk _, _ => False
  | .fn x, v => ∃ f, v = .ref f ∧ mg x = some (.ref f)
  | .frz ds, v => ∃ a xs, v = .ref a ∧ FrzAt K αs H a xs ∧ Reps ds xs
def Reps : List D → List V → Prop
  | [], xs => xs = []
  | d :: ds, xs => ∃ v vs, xs = v :: vs ∧ Rep d v ∧ Reps ds vs
end
/-- what a cell holds: a list, or a dict, its keys ahead -/
def CellAt (a : Addr) (ds : List D) : Prop := (∃ xs, H a = some (.lst xs) ∧ Reps K mg αs T H ds xs) ∨ (∃ ks vs xs, ds = .dk ks :: vs ∧ DctAt H a ks xs ∧ Reps K mg αs T H vs xs) ∨ ∃ o u, H a = some (.frz o (.dT u))
structure Rel (st : Sto) : Prop where
  nd : αs.Nodup
  len : αs.length = st.length
  cell : ∀ (n : Nat) (a : Addr) (ds : List D), αs[n]? = some a → st[n]? = some ds → CellAt K mg αs T H a ds
  tmp : ∀ t ∈ T, t ∉ αs ∧ H t ≠ none
def EnvR (σ : L2.St) (ρ : Rho) : Prop := σ.length = ρ.length ∧ ∀ (i : Nat) d, ρ[i]? = some (some d) → ∃ v, σ[i]? = some (some v) ∧ Rep K mg αs T H d v
end
/-- what stood and is no cell stands; new cells were not tracked -/
structure Fr (αs : List Addr) (H : Hp) (αs' : List Addr) (H' : Hp) : Prop where
  ext : ∃ more, αs' = αs ++ more ∧ ∀ p ∈ more, p ∉ αs ∧ H p = none
  keep : ∀ b o, b ∉ αs → H b = some o → H' b = some o
  kdL : ∀ b, IsLst H b → IsLst H' b
  kdD : ∀ b, IsDic H b → IsDic H' b
  fz : ∀ b o u, H b = some (.frz o u) → H' b = some (.frz o u)
theorem Fr.refl {αs : List Addr} {H : Hp} : Fr αs H αs H := ⟨⟨[], by simp, by simp⟩, fun _ _ _ h => h, fun _ h => h, fun _ h => h, fun _ _ _ h => h⟩
theorem Fr.trans {αs αs1 αs2 : List Addr} {H H1 H2 : Hp} (f : Fr αs H αs1 H1) (g : Fr αs1 H1 αs2 H2) : Fr αs H αs2 H2 := by
  obtain ⟨⟨m1, e1, h1⟩, k1, l1, d1, z1⟩ := f
  obtain ⟨⟨m2, e2, h2⟩, k2, l2, d2, z2⟩ := g
  refine ⟨⟨m1 ++ m2, by rw [e2, e1, List.append_assoc], fun p hp => ?_⟩, fun b o hb e => ?_, fun b h => l2 b (l1 b h), fun b h => d2 b (d1 b h), fun b o u h => z2 b o u (z1 b o u h)⟩
  · rcases List.mem_append.mp hp with hp | hp
    · exact h1 p hp
    · obtain ⟨n1, n2⟩ := h2 p hp
      have na : p ∉ αs := fun z => n1 (by rw [e1]; exact List.mem_append_left _ z)
      refine ⟨na, ?_⟩
      cases q : H p with
      | none => rfl
      | some o => rw [k1 p o na q] at n2; cases n2
  · refine k2 b o (fun z => ?_) (k1 b o hb e)
    rw [e1] at z
    rcases List.mem_append.mp z with z | z
    · exact hb z
    · rw [(h1 b z).2] at e; cases e
theorem Fr.at {αs αs' : List Addr} {H H' : Hp} (f : Fr αs H αs' H') {n : Nat} {a : Addr} (h : αs[n]? = some a) : αs'[n]? = some a := by
  obtain ⟨⟨m, e, _⟩, _⟩ := f
  rw [e, List.getElem?_append_left (List.getElem?_eq_some_iff.mp h).1]
  exact h
theorem Fr.not {αs αs' : List Addr} {H H' : Hp} (f : Fr αs H αs' H') {a : Addr} {o : HO} (h : a ∉ αs) (e : H a = some o) : a ∉ αs' := by
  obtain ⟨⟨m, e1, h1⟩, _⟩ := f
  rw [e1]
  intro z
  rcases List.mem_append.mp z with z | z
  · exact h z
  · rw [(h1 a z).2] at e; cases e
/-- an object that is new -/
theorem Fr.new {αs : List Addr} {H : Hp} {p : Addr} {o : HO} (h : H p = none) : Fr αs H αs (upd H p o) :=
  ⟨⟨[], by simp, by simp⟩, fun b u _ e => by rw [upd_ne (ne_of_none e h)]; exact e, fun b ⟨xs, e⟩ => ⟨xs, by rw [upd_ne (ne_of_none e h)]; exact e⟩, fun b ⟨xs, e⟩ => ⟨xs, by rw [upd_ne (ne_of_none e h)]; exact e⟩, fun b o u e => by rw [upd_ne (ne_of_none e h)]; exact e⟩
/-- a cell is written -/
theorem Fr.cell {αs : List Addr} {H : Hp} {p : Addr} {xs : List V} (h : p ∈ αs) (hl : IsLst H p) : Fr αs H αs (upd H p (.lst xs)) :=
  ⟨⟨[], by simp, by simp⟩, fun b u hb e => by rw [upd_ne (fun z => hb (by rw [z]; exact h))]; exact e, fun b ⟨ys, e⟩ => by
    by_cases z : b = p
    · rw [z]; exact ⟨xs, upd_same⟩
    · exact ⟨ys, by rw [upd_ne z]; exact e⟩, fun b ⟨ys, e⟩ => by
    by_cases z : b = p
    · obtain ⟨zs, e2⟩ := hl
      rw [z, e2] at e; cases e
    · exact ⟨ys, by rw [upd_ne z]; exact e⟩, fun b o u e => by
    obtain ⟨zs, e2⟩ := hl
    rw [upd_ne (fun z => by rw [z, e2] at e; cases e)]; exact e⟩
theorem Fr.cellD {αs : List Addr} {H : Hp} {p : Addr} {xs : List (List Key × V)} (h : p ∈ αs) (hl : IsDic H p) : Fr αs H αs (upd H p (.dT xs)) :=
  ⟨⟨[], by simp, by simp⟩, fun b u hb e => by rw [upd_ne (fun z => hb (by rw [z]; exact h))]; exact e, fun b ⟨ys, e⟩ => by
    by_cases z : b = p
    · obtain ⟨zs, e2⟩ := hl
      rw [z, e2] at e; cases e
    · exact ⟨ys, by rw [upd_ne z]; exact e⟩, fun b ⟨ys, e⟩ => by
    by_cases z : b = p
    · rw [z]; exact ⟨xs, upd_same⟩
    · exact ⟨ys, by rw [upd_ne z]; exact e⟩, fun b o u e => by
    obtain ⟨zs, e2⟩ := hl
    rw [upd_ne (fun z => by rw [z, e2] at e; cases e)]; exact e⟩

theorem Fr.updn {αs αs' : List Addr} {H H' : Hp} {p : Addr} {o : HO} (F : Fr αs H αs' H') (h : H p = none) : Fr αs H αs' (upd H' p o) :=
  ⟨F.ext, fun b o hb e => by rw [upd_ne (ne_of_none e h)]; exact F.keep b o hb e, fun b hb => by
    obtain ⟨xs, e⟩ := hb
    obtain ⟨ys, e2⟩ := F.kdL b ⟨xs, e⟩
    exact ⟨ys, by rw [upd_ne (ne_of_none e h)]; exact e2⟩, fun b hb => by
    obtain ⟨xs, e⟩ := hb
    obtain ⟨ys, e2⟩ := F.kdD b ⟨xs, e⟩
    exact ⟨ys, by rw [upd_ne (ne_of_none e h)]; exact e2⟩, fun b o u e => by rw [upd_ne (ne_of_none e h)]; exact F.fz b o u e⟩
section
variable {K : PySem.W.Frag} {mg : Str → Option Value} {αs αs' T T' : List Addr} {H H' : Hp} {st : Sto}
theorem TupAt.sq {a : Addr} {xs : List V} (h : TupAt K αs H a xs) : SqT K H a xs := by
  rcases h with h | h
  · exact .inl (.inl h.1)
  · exact h.1.elim
theorem FrzAt.sq {a : Addr} {xs : List V} (h : FrzAt K αs H a xs) : SqL K H a xs := by
  rcases h with ⟨o, h, _⟩ | h
  · exact .inl (.inr ⟨o, h⟩)
  · exact .inr h
theorem LstAt.sq {a : Addr} {xs : List V} (h : LstAt αs T H a xs) : SqL K H a xs := .inl (.inl h.1)
mutual
/-- what data stand for stays, T may be another list that does not meet what is tracked -/
theorem Rep.mv (f : Fr αs H αs' H') (hT : ∀ t ∈ T', t ∈ T ∨ H t = none) : ∀ {d : D} {v : V}, Rep K mg αs T H d v → Rep K mg αs' T' H' d v
  | .non, _, h => by simpa only [Rep] using h
  | .bl _, _, h => by simpa only [Rep] using h
  | .int _, _, h => by simpa only [Rep] using h
  | .str _, _, h => by simpa only [Rep] using h
  | .tup ds, v, h => by
    simp only [Rep] at h ⊢
    obtain ⟨a, xs, e, ha, hs⟩ := h
    refine ⟨a, xs, e, ?_, Reps.mv f hT hs⟩
    rcases ha with ⟨h1, h2⟩ | ha
    · exact .inl ⟨f.keep a _ h2 h1, f.not h2 h1⟩
    · exact .inr ha
  | .lst ds, v, h => by
    simp only [Rep] at h ⊢
    obtain ⟨a, xs, e, ⟨h1, h2, h3⟩, hs⟩ := h
    refine ⟨a, xs, e, ⟨f.keep a _ h2 h1, f.not h2 h1, fun z => ?_⟩, Reps.mv f hT hs⟩
    rcases hT a z with z | z
    · exact h3 z
    · rw [z] at h1; cases h1
  | .hnd n, v, h => by
    simp only [Rep] at h ⊢
    obtain ⟨a, e, h, l⟩ := h
    exact ⟨a, e, f.at h, f.kdL a l⟩
  | .dhn n, v, h => by
    simp only [Rep] at h ⊢
    obtain ⟨a, e, h, l⟩ := h
    exact ⟨a, e, f.at h, f.kdD a l⟩
  | .dic ks vs, v, h => by
    simp only [Rep] at h ⊢
    obtain ⟨a, xs, e, ⟨h1, h0⟩, h2, h3, hs⟩ := h
    refine ⟨a, xs, e, ⟨f.keep a _ h2 h1, h0⟩, f.not h2 h1, fun z => ?_, Reps.mv f hT hs⟩
    rcases hT a z with z | z
    · exact h3 z
    · rw [z] at h1; cases h1
  | .dk _, v, h => by simp only [Rep] at h
  | .fn x, v, h => by simpa only [Rep] using h
  | .frz ds, v, h => by
    simp only [Rep] at h ⊢
    obtain ⟨a, xs, e, ha, hs⟩ := h
    refine ⟨a, xs, e, ?_, Reps.mv f hT hs⟩
    rcases ha with ⟨o, h1, h2⟩ | ha
    · exact .inl ⟨o, f.keep a _ h2 h1, f.not h2 h1⟩
    · exact .inr ha
theorem Reps.mv (f : Fr αs H αs' H') (hT : ∀ t ∈ T', t ∈ T ∨ H t = none) : ∀ {ds : List D} {vs : List V}, Reps K mg αs T H ds vs → Reps K mg αs' T' H' ds vs
  | [], _, h => by simpa only [Reps] using h
  | d :: ds, vs, h => by
    simp only [Reps] at h ⊢
    obtain ⟨v, r, e, h1, h2⟩ := h
    exact ⟨v, r, e, Rep.mv f hT h1, Reps.mv f hT h2⟩
end
theorem Rep.fr {d : D} {v : V} (h : Rep K mg αs T H d v) (f : Fr αs H αs' H') : Rep K mg αs' T H' d v := h.mv f fun _ z => .inl z
theorem Reps.fr {d : List D} {v : List V} (h : Reps K mg αs T H d v) (f : Fr αs H αs' H') : Reps K mg αs' T H' d v := h.mv f fun _ z => .inl z
theorem CellAt.obj {a : Addr} {ds : List D} (h : CellAt K mg αs T H a ds) : ∃ o, H a = some o := by
  rcases h with ⟨xs, q, _⟩ | ⟨ks, vs, xs, _, q, _⟩ | ⟨o, u, q⟩
  · exact ⟨_, q⟩
  · exact ⟨_, q.1⟩
  · exact ⟨_, q⟩
theorem CellAt.lst {a : Addr} {ds : List D} (h : CellAt K mg αs T H a ds) (hl : IsLst H a) : ∃ xs, H a = some (.lst xs) ∧ Reps K mg αs T H ds xs := by
  obtain ⟨ys, e⟩ := hl
  rcases h with h | ⟨ks, vs, xs, _, q, _⟩ | ⟨o, u, q⟩
  · exact h
  · rw [q.1] at e; cases e
  · rw [q] at e; cases e
theorem CellAt.dic {a : Addr} {ds : List D} (h : CellAt K mg αs T H a ds) (hl : IsDic H a) : ∃ ks vs xs, ds = .dk ks :: vs ∧ DctAt H a ks xs ∧ Reps K mg αs T H vs xs := by
  obtain ⟨ys, e⟩ := hl
  rcases h with ⟨xs, q, _⟩ | h | ⟨o, u, q⟩
  · rw [q] at e; cases e
  · exact h
  · rw [q] at e; cases e
theorem CellAt.notTup {a : Addr} {ds : List D} (h : CellAt K mg αs T H a ds) {xs : List V} : H a ≠ some (.tup xs) := fun z => by
  rcases h with ⟨xs, q, _⟩ | ⟨ks, vs, xs, _, q, _⟩ | ⟨o, u, q⟩
  · rw [q] at z; cases z
  · rw [q.1] at z; cases z
  · rw [q] at z; cases z
theorem CellAt.imp {a : Addr} {ds : List D} (h : CellAt K mg αs T H a ds) (k : ∀ o, H a = some o → H' a = some o) (r : ∀ ds vs, Reps K mg αs T H ds vs → Reps K mg αs' T' H' ds vs) : CellAt K mg αs' T' H' a ds := by
  rcases h with ⟨xs, q, h⟩ | ⟨ks, vs, xs, e, q, h⟩ | ⟨o, u, q⟩
  · exact .inl ⟨xs, k _ q, r _ _ h⟩
  · exact .inr (.inl ⟨ks, vs, xs, e, ⟨k _ q.1, q.2⟩, r _ _ h⟩)
  · exact .inr (.inr ⟨o, u, k _ q⟩)
theorem Rel.lc (r : Rel K mg αs T H st) {n : Nat} {a : Addr} {ds : List D} (h : αs[n]? = some a ∧ IsLst H a) (e : st[n]? = some ds) : ∃ xs, H a = some (.lst xs) ∧ Reps K mg αs T H ds xs := (r.cell n a ds h.1 e).lst h.2
theorem Rel.tracked (r : Rel K mg αs T H st) {a : Addr} (h : a ∈ αs) : ∃ o, H a = some o := by
  obtain ⟨n, hn, e⟩ := List.getElem_of_mem h
  have hn' : n < st.length := by rw [← r.len]; exact hn
  exact (r.cell n a st[n] (by rw [List.getElem?_eq_getElem hn, e]) (List.getElem?_eq_getElem hn')).obj
theorem Rel.fresh (r : Rel K mg αs T H st) {p : Addr} (h : H p = none) : p ∉ αs := fun z => by
  obtain ⟨xs, q⟩ := r.tracked z
  rw [h] at q; cases q
theorem Rel.freshT (r : Rel K mg αs T H st) {p : Addr} (h : H p = none) : p ∉ T := fun z => (r.tmp p z).2 h
/-- a heap that keeps all, the cells too -/
theorem Rel.kept (r : Rel K mg αs T H st) (k : ∀ b o, H b = some o → H' b = some o) : Rel K mg αs T H' st := by
  have f : Fr αs H αs H' := ⟨⟨[], by simp, by simp⟩, fun b o _ e => k b o e, fun b ⟨xs, e⟩ => ⟨xs, k b _ e⟩, fun b ⟨xs, e⟩ => ⟨xs, k b _ e⟩, fun b o u e => k b _ e⟩
  refine ⟨r.nd, r.len, fun n a ds h1 h2 => ?_, fun t ht => ⟨(r.tmp t ht).1, ?_⟩⟩
  · exact (r.cell n a ds h1 h2).imp (fun o => k a o) fun ds vs h => h.fr f
  · cases q : H t with
    | none => exact absurd q (r.tmp t ht).2
    | some o => rw [k t o q]; simp
theorem Rel.new (r : Rel K mg αs T H st) {p : Addr} {o : HO} (h : H p = none) : Rel K mg αs T (upd H p o) st :=
  r.kept fun b u e => by rw [upd_ne (ne_of_none e h)]; exact e
theorem EnvR.fr {σ : L2.St} {ρ : Rho} (e : EnvR K mg αs T H σ ρ) (f : Fr αs H αs' H') : EnvR K mg αs' T H' σ ρ :=
  ⟨e.1, fun i d h => let ⟨v, h1, h2⟩ := e.2 i d h; ⟨v, h1, h2.fr f⟩⟩
theorem EnvR.set {σ : L2.St} {ρ : Rho} (e : EnvR K mg αs T H σ ρ) {i : Nat} {d : D} {v : V} (h : Rep K mg αs T H d v) : EnvR K mg αs T H (σ.set i (some v)) (ρ.set i (some d)) := by
  refine ⟨by simp [e.1], fun j c hj => ?_⟩
  by_cases hij : i = j
  · subst hij
    have hl : i < ρ.length := by
      have := (List.getElem?_eq_some_iff.mp hj).1
      simpa using this
    rw [List.getElem?_set_self hl] at hj
    cases hj
    exact ⟨v, List.getElem?_set_self (by rw [e.1]; exact hl), h⟩
  · rw [List.getElem?_set_ne hij] at hj
    rw [List.getElem?_set_ne hij]
    exact e.2 j c hj
theorem Reps.len : ∀ {ds : List D} {vs : List V}, Reps K mg αs T H ds vs → vs.length = ds.length
  | [], _, h => by simp only [Reps] at h; subst h; rfl
  | d :: ds, vs, h => by
    simp only [Reps] at h
    obtain ⟨v, r, e, _, h2⟩ := h
    subst e
    simp [Reps.len h2]
theorem Reps.get : ∀ {ds : List D} {vs : List V} {i : Nat} {d : D}, Reps K mg αs T H ds vs → ds[i]? = some d → ∃ v, vs[i]? = some v ∧ Rep K mg αs T H d v
  | [], _, _, _, _, e => by simp at e
  | c :: ds, vs, 0, d, h, e => by
    simp only [Reps] at h
    obtain ⟨v, r, e1, h1, h2⟩ := h
    subst e1
    simp at e
    subst e
    exact ⟨v, rfl, h1⟩
  | c :: ds, vs, i + 1, d, h, e => by
    simp only [Reps] at h
    obtain ⟨v, r, e1, h1, h2⟩ := h
    subst e1
    exact Reps.get (i := i) h2 (by simpa using e)
theorem Reps.app : ∀ {ds es : List D} {vs ws : List V}, Reps K mg αs T H ds vs → Reps K mg αs T H es ws → Reps K mg αs T H (ds ++ es) (vs ++ ws)
  | [], _, _, _, h, g => by simp only [Reps] at h; subst h; exact g
  | d :: ds, es, vs, ws, h, g => by
    simp only [Reps] at h
    obtain ⟨v, r, e, h1, h2⟩ := h
    subst e
    show Reps K mg αs T H (d :: (ds ++ es)) (v :: (r ++ ws))
    simp only [Reps]
    exact ⟨v, _, rfl, h1, Reps.app h2 g⟩
theorem Reps.cons {d : D} {ds : List D} {v : V} {vs : List V} (h1 : Rep K mg αs T H d v) (h2 : Reps K mg αs T H ds vs) : Reps K mg αs T H (d :: ds) (v :: vs) := by
  simp only [Reps]; exact ⟨v, vs, rfl, h1, h2⟩
theorem Reps.nil : Reps K mg αs T H [] [] := by simp only [Reps]
theorem Reps.one {d : D} {v : V} (h1 : Rep K mg αs T H d v) : Reps K mg αs T H [d] [v] := .cons h1 .nil
theorem Reps.take : ∀ {ds : List D} {vs : List V} (n : Nat), Reps K mg αs T H ds vs → Reps K mg αs T H (ds.take n) (vs.take n)
  | _, _, 0, _ => by simp only [List.take_zero]; exact .nil
  | [], _, n + 1, h => by simp only [Reps] at h; subst h; exact .nil
  | d :: ds, vs, n + 1, h => by
    simp only [Reps] at h
    obtain ⟨v, r, e, h1, h2⟩ := h
    subst e
    exact .cons h1 (Reps.take n h2)
theorem Reps.drop : ∀ {ds : List D} {vs : List V} (n : Nat), Reps K mg αs T H ds vs → Reps K mg αs T H (ds.drop n) (vs.drop n)
  | _, _, 0, h => h
  | [], _, n + 1, h => by simp only [Reps] at h; subst h; exact .nil
  | d :: ds, vs, n + 1, h => by
    simp only [Reps] at h
    obtain ⟨v, r, e, h1, h2⟩ := h
    subst e
    exact Reps.drop n h2
theorem Reps.set {d : D} {v : V} (hd : Rep K mg αs T H d v) : ∀ {ds : List D} {vs : List V} (n : Nat), Reps K mg αs T H ds vs → Reps K mg αs T H (ds.set n d) (vs.set n v)
  | [], _, _, h => by simp only [Reps] at h; subst h; exact .nil
  | c :: ds, vs, 0, h => by
    simp only [Reps] at h
    obtain ⟨v', r, e, h1, h2⟩ := h
    subst e
    exact .cons hd h2
  | c :: ds, vs, n + 1, h => by
    simp only [Reps] at h
    obtain ⟨v', r, e, h1, h2⟩ := h
    subst e
    exact .cons h1 (Reps.set hd n h2)
theorem Reps.rev {ds : List D} {vs : List V} (h : Reps K mg αs T H ds vs) : Reps K mg αs T H ds.reverse vs.reverse := by
  induction ds generalizing vs with
  | nil => simp only [Reps] at h; subst h; exact .nil
  | cons d ds ih =>
    simp only [Reps] at h
    obtain ⟨v, r, e, h1, h2⟩ := h
    subst e
    rw [List.reverse_cons, List.reverse_cons]
    exact (ih h2).app (.one h1)
theorem Reps.rep {ds : List D} {vs : List V} (h : Reps K mg αs T H ds vs) : ∀ k : Nat, Reps K mg αs T H (List.replicate k ds).flatten (List.replicate k vs).flatten
  | 0 => .nil
  | k + 1 => by
    rw [List.replicate_succ, List.replicate_succ, List.flatten_cons, List.flatten_cons]
    exact h.app (h.rep k)
end

/-! ### the judgements -/
section
variable (K : PySem.W.Frag) (mg : Str → Option Value)
/-- an exception stands for (c, p) -/
def XRep (c : Str) (p : D) (cls : Value) (od : Option Addr) (H : Hp) : Prop := ∃ C, mg c = some (.ref C) ∧ cls = .ref C ∧ (c ≠ "BadText" → od = none) ∧
  (c = "BadText" → ∃ d i, p = .int i ∧ od = some d ∧ H d = some (.xd [(("line" : Str), .int i)]))
/-- behind a reckoning: what comes is told by G -/
def PostG {α : Type} (W : WX) (αs T : List Addr) (σ : L2.St) (H : Hp) (r : R α) (G : α → Sto → List Addr → Hp → Prop) : Prop := match r with
  | .ok a st => ∀ αs' H', Rel K mg αs' T H' st → Fr αs H αs' H' → G a st αs' H'
  | .exc c p st => ∀ cls od αs' H', XRep mg c p cls od H' → Rel K mg αs' T H' st → Fr αs H αs' H' → W cls od σ H'
  | .bad => False
/-- how a statement goes on -/
inductive Fl where
  | nx (ρ : Rho) | rt (d : D) | bk (ρ : Rho) | ct (ρ : Rho)
abbrev GE (T : List Addr) (Q : VK) : D → Sto → List Addr → Hp → Prop := fun d _ αs' H' => ∀ v, Rep K mg αs' T H' d v → Q v H'
abbrev GA (T : List Addr) (Q : List V → Hp → Prop) : List D → Sto → List Addr → Hp → Prop := fun d _ αs' H' => ∀ v, Reps K mg αs' T H' d v → Q v H'
abbrev GT (Q : Bool → Hp → Prop) : Bool → Sto → List Addr → Hp → Prop := fun b _ _ H' => Q b H'
def GS (T : List Addr) (Dn : Ends) : Fl → Sto → List Addr → Hp → Prop := fun f _ αs' H' => match f with
  | .nx ρ => ∀ σ, EnvR K mg αs' T H' σ ρ → Dn.nx σ H'
  | .rt d => ∀ v, Rep K mg αs' T H' d v → Dn.rt v H'
  | .bk ρ => ∀ σ, EnvR K mg αs' T H' σ ρ → Dn.bk σ H'
  | .ct ρ => ∀ σ, EnvR K mg αs' T H' σ ρ → Dn.ct σ H'
/-- behind a statement: an exception may leave at any slots -/
def PostS (W : WX) (αs T : List Addr) (H : Hp) (r : R Fl) (Dn : Ends) : Prop := ∀ σ, PostG K mg W αs T σ H r (GS K mg T Dn)
def RE (W : WX) (t : TE) (f : Rho → Sto → R D) : Prop := ∀ αs T σ ρ H st Q, Rel K mg αs T H st → EnvR K mg αs T H σ ρ → PostG K mg W αs T σ H (f ρ st) (GE K mg T Q) → t σ H Q
def RA (W : WX) (t : TA) (f : Rho → Sto → R (List D)) : Prop := ∀ αs T σ ρ H st Q, Rel K mg αs T H st → EnvR K mg αs T H σ ρ → PostG K mg W αs T σ H (f ρ st) (GA K mg T Q) → t σ H Q
def RT (W : WX) (t : TT) (f : Rho → Sto → R Bool) : Prop := ∀ αs T σ ρ H st Q, Rel K mg αs T H st → EnvR K mg αs T H σ ρ → PostG K mg W αs T σ H (f ρ st) (GT Q) → t σ H Q
def RS (W : WX) (t : TS) (f : Rho → Sto → R Fl) : Prop := ∀ αs T σ ρ H st Dn, Rel K mg αs T H st → EnvR K mg αs T H σ ρ → PostS K mg W αs T H (f ρ st) Dn → t Dn σ H
end
section
variable {K : PySem.W.Frag} {mg : Str → Option Value} {W : WX} {αs αs1 T : List Addr} {σ : L2.St} {H H1 : Hp}
theorem PostG.step {α : Type} {r : R α} {G : α → Sto → List Addr → Hp → Prop} (h : PostG K mg W αs T σ H r G) (f : Fr αs H αs1 H1) : PostG K mg W αs1 T σ H1 r G := by
  cases r with
  | ok a st => exact fun αs' H' R F => h αs' H' R (f.trans F)
  | exc c p st => exact fun cls od αs' H' x R F => h cls od αs' H' x R (f.trans F)
  | bad => exact h
theorem PostG.imp {α : Type} {r : R α} {G G' : α → Sto → List Addr → Hp → Prop} (h : PostG K mg W αs T σ H r G) (q : ∀ a st αs' H', Rel K mg αs' T H' st → Fr αs H αs' H' → G a st αs' H' → G' a st αs' H') : PostG K mg W αs T σ H r G' := by
  cases r with
  | ok a st => exact fun αs' H' R F => q a st αs' H' R F (h αs' H' R F)
  | exc c p st => exact h
  | bad => exact h
theorem PostG.bind {α β : Type} {r : R α} {k : α → Sto → R β} {G : β → Sto → List Addr → Hp → Prop} {G' : α → Sto → List Addr → Hp → Prop} (h : PostG K mg W αs T σ H (r.bind k) G)
    (q : ∀ a st αs' H', Rel K mg αs' T H' st → Fr αs H αs' H' → PostG K mg W αs' T σ H' (k a st) G → G' a st αs' H') : PostG K mg W αs T σ H r G' := by
  cases r with
  | ok a st => exact fun αs' H' R F => q a st αs' H' R F (PostG.step h F)
  | exc c p st => exact h
  | bad => exact h
theorem PostG.okD {d : D} {st : Sto} {Q : VK} (h : PostG K mg W αs T σ H (.ok d st) (GE K mg T Q)) (R : Rel K mg αs T H st) {v : V} (r : Rep K mg αs T H d v) : Q v H := h αs H R .refl v r
end
structure DE (X : Cx) (W : WX) (e : Expr) (t : TE) (f : Rho → Sto → R D) : Prop where
  p : PE X e t
  r : RE X.K X.mg W t f
structure DA (X : Cx) (W : WX) (es : List Expr) (t : TA) (f : Rho → Sto → R (List D)) : Prop where
  p : PA X es t
  r : RA X.K X.mg W t f
structure DT (X : Cx) (W : WX) (e : Expr) (t : TT) (f : Rho → Sto → R Bool) : Prop where
  p : PT X e t
  r : RT X.K X.mg W t f
structure DS (X : Cx) (W : WX) (s : Stmt) (t : TS) (f : Rho → Sto → R Fl) : Prop where
  p : PS X s t
  r : RS X.K X.mg W t f
structure DSs (X : Cx) (W : WX) (s : List Stmt) (t : TS) (f : Rho → Sto → R Fl) : Prop where
  p : PSs X s t
  r : RS X.K X.mg W t f
end DL
namespace DL
open PySem PySem.Spec PyProof.Rows L2

/-! ### combinators -/
def R.of {α : Type} (o : Option α) (st : Sto) : R α := match o with
  | some a => .ok a st
  | none => .bad
def fVar (i : Nat) : Rho → Sto → R D := fun ρ st => match ρ[i]? with
  | some (some d) => .ok d st
  | _ => .bad
def fC (d : D) : Rho → Sto → R D := fun _ st => .ok d st
def fOp (g : Sto → D → D → Option D) (fa fb : Rho → Sto → R D) : Rho → Sto → R D := fun ρ st => (fa ρ st).bind fun a st => (fb ρ st).bind fun b st => .of (g st a b) st
def fUn (g : Sto → D → Option D) (fa : Rho → Sto → R D) : Rho → Sto → R D := fun ρ st => (fa ρ st).bind fun a st => .of (g st a) st
def fNil : Rho → Sto → R (List D) := fun _ st => .ok [] st
def fCons (fa : Rho → Sto → R D) (fr : Rho → Sto → R (List D)) : Rho → Sto → R (List D) := fun ρ st => (fa ρ st).bind fun a st => (fr ρ st).bind fun r st => .ok (a :: r) st
def lineOk (n : Nat) : Bool := Nat.ble n 16777216
def fTup (f : Rho → Sto → R (List D)) : Rho → Sto → R D := fun ρ st => (f ρ st).bind fun ds st => if lineOk ds.length then .ok (.tup ds) st else .bad
def fLst (f : Rho → Sto → R (List D)) : Rho → Sto → R D := fun ρ st => (f ρ st).bind fun ds st => if lineOk ds.length then .ok (.lst ds) st else .bad
theorem lineOk_iff {n : Nat} (h : lineOk n = true) : n ≤ sizeLine := by rw [sizeLine_eq]; exact Nat.le_of_ble_eq_true h
/-- an operator by values -/
def RV2 (K : PySem.W.Frag) (mg : Str → Option Value) (r : R2) (g : Sto → D → D → Option D) : Prop :=
  ∀ αs T H st a b x y Q d, Rel K mg αs T H st → Rep K mg αs T H a x → Rep K mg αs T H b y → g st a b = some d →
    (∀ v H', Rel K mg αs T H' st → Fr αs H αs H' → Rep K mg αs T H' d v → Q v H') → r x y H Q
def RV1 (K : PySem.W.Frag) (mg : Str → Option Value) (r : V → Hp → VK → Prop) (g : Sto → D → Option D) : Prop :=
  ∀ αs T H st a x Q d, Rel K mg αs T H st → Rep K mg αs T H a x → g st a = some d →
    (∀ v H', Rel K mg αs T H' st → Fr αs H αs H' → Rep K mg αs T H' d v → Q v H') → r x H Q
/-- a built-in by values -/
def RVL (K : PySem.W.Frag) (mg : Str → Option Value) (r : List V → Hp → VK → Prop) (g : Sto → List D → Option D) : Prop :=
  ∀ αs T H st a x Q d, Rel K mg αs T H st → Reps K mg αs T H a x → g st a = some d →
    (∀ v H', Rel K mg αs T H' st → Fr αs H αs H' → Rep K mg αs T H' d v → Q v H') → r x H Q
section
variable {K : PySem.W.Frag} {mg : Str → Option Value} {W : WX}
theorem re_var {i : Nat} : RE K mg W (tVar i) (fVar i) := by
  intro αs T σ ρ H st Q R E h
  unfold fVar at h
  split at h
  · rename_i d hd
    obtain ⟨v, h1, h2⟩ := E.2 i d hd
    exact ⟨v, h1, PostG.okD h R h2⟩
  · exact h.elim
theorem re_c {v : V} {d : D} (hv : ∀ αs T H, Rep K mg αs T H d v) : RE K mg W (tC v) (fC d) := fun αs T σ ρ H st Q R E h => PostG.okD h R (hv _ _ _)
theorem re_op {r : R2} {g : Sto → D → D → Option D} {ta tb : TE} {fa fb : Rho → Sto → R D} (hr : RV2 K mg r g) (ha : RE K mg W ta fa) (hb : RE K mg W tb fb) : RE K mg W (tOp r ta tb) (fOp g fa fb) := by
  intro αs T σ ρ H st Q R E h
  refine ha αs T σ ρ H st _ R E (PostG.bind h fun a st1 αs1 H1 R1 F1 h1 x rx => ?_)
  refine hb αs1 T σ ρ H1 st1 _ R1 (E.fr F1) (PostG.bind h1 fun b st2 αs2 H2 R2 F2 h2 y ry => ?_)
  cases e : g st2 a b with
  | none => rw [e] at h2; exact h2.elim
  | some d =>
    rw [e] at h2
    exact hr αs2 T H2 st2 a b x y Q d R2 (rx.fr F2) ry e fun v H' R3 F3 r3 => h2 αs2 H' R3 F3 v r3
theorem re_un {r : V → Hp → VK → Prop} {g : Sto → D → Option D} {ta : TE} {fa : Rho → Sto → R D} (hr : RV1 K mg r g) (ha : RE K mg W ta fa) : RE K mg W (tUn r ta) (fUn g fa) := by
  intro αs T σ ρ H st Q R E h
  refine ha αs T σ ρ H st _ R E (PostG.bind h fun a st1 αs1 H1 R1 F1 h1 x rx => ?_)
  cases e : g st1 a with
  | none => rw [e] at h1; exact h1.elim
  | some d =>
    rw [e] at h1
    exact hr αs1 T H1 st1 a x Q d R1 rx e fun v H' R3 F3 r3 => h1 αs1 H' R3 F3 v r3
theorem ra_nil : RA K mg W tNil fNil := fun αs T σ ρ H st Q R E h => h αs H R .refl [] .nil
theorem ra_cons {ta : TE} {tr : TA} {fa : Rho → Sto → R D} {fr : Rho → Sto → R (List D)} (ha : RE K mg W ta fa) (hb : RA K mg W tr fr) : RA K mg W (tCons ta tr) (fCons fa fr) := by
  intro αs T σ ρ H st Q R E h
  refine ha αs T σ ρ H st _ R E (PostG.bind h fun a st1 αs1 H1 R1 F1 h1 x rx => ?_)
  refine hb αs1 T σ ρ H1 st1 _ R1 (E.fr F1) (PostG.bind h1 fun b st2 αs2 H2 R2 F2 h2 y ry => ?_)
  exact h2 αs2 H2 R2 .refl _ (.cons (rx.fr F2) ry)
/-- a new tuple, a new list -/
theorem newTup {αs T : List Addr} {H : Hp} {st : Sto} {ds : List D} {xs : List V} {p : Addr} (R : Rel K mg αs T H st) (h : Reps K mg αs T H ds xs) (hp : H p = none) :
    Rel K mg αs T (upd H p (.tup xs)) st ∧ Fr αs H αs (upd H p (.tup xs)) ∧ Rep K mg αs T (upd H p (.tup xs)) (.tup ds) (.ref p) := by
  have f : Fr αs H αs (upd H p (.tup xs)) := Fr.new hp
  refine ⟨R.new hp, f, ?_⟩
  simp only [Rep]
  exact ⟨p, xs, rfl, .inl ⟨upd_same, R.fresh hp⟩, h.fr f⟩
theorem newLst {αs T : List Addr} {H : Hp} {st : Sto} {ds : List D} {xs : List V} {p : Addr} (R : Rel K mg αs T H st) (h : Reps K mg αs T H ds xs) (hp : H p = none) :
    Rel K mg αs T (upd H p (.lst xs)) st ∧ Fr αs H αs (upd H p (.lst xs)) ∧ Rep K mg αs T (upd H p (.lst xs)) (.lst ds) (.ref p) := by
  have f : Fr αs H αs (upd H p (.lst xs)) := Fr.new hp
  refine ⟨R.new hp, f, ?_⟩
  simp only [Rep]
  exact ⟨p, xs, rfl, ⟨upd_same, R.fresh hp, R.freshT hp⟩, h.fr f⟩
theorem re_tup {t : TA} {f : Rho → Sto → R (List D)} (h : RA K mg W t f) : RE K mg W (tTup t) (fTup f) := by
  intro αs T σ ρ H st Q R E q
  refine h αs T σ ρ H st _ R E (PostG.bind q fun ds st1 αs1 H1 R1 F1 h1 xs rx => ?_)
  split at h1
  · rename_i hl
    refine ⟨by rw [rx.len]; exact lineOk_iff hl, fun p hp => ?_⟩
    obtain ⟨a, b, c⟩ := newTup R1 rx hp
    exact h1 αs1 _ a b _ c
  · exact h1.elim
theorem re_lst {t : TA} {f : Rho → Sto → R (List D)} (h : RA K mg W t f) : RE K mg W (tLst t) (fLst f) := by
  intro αs T σ ρ H st Q R E q
  refine h αs T σ ρ H st _ R E (PostG.bind q fun ds st1 αs1 H1 R1 F1 h1 xs rx => ?_)
  split at h1
  · rename_i hl
    refine ⟨by rw [rx.len]; exact lineOk_iff hl, fun p hp => ?_⟩
    obtain ⟨a, b, c⟩ := newLst R1 rx hp
    exact h1 αs1 _ a b _ c
  · exact h1.elim
end
end DL
namespace DL
open PySem PySem.Spec PyProof.Rows L2
/-! ### operators on data -/
def lstOf (st : Sto) : D → Option (List D)
  | .lst ds => some ds
  | .hnd n => st[n]?
  | _ => none
def seqOf (st : Sto) : D → Option (List D)
  | .lst ds => some ds
  | .tup ds => some ds
  | .frz ds => some ds
  | .hnd n => st[n]?
  | _ => none
mutual
def toP (st : Sto) : D → Option PyData
  | .non => some .none
  | .bl b => some (.bool b)
  | .int i => some (.int i)
  | .str x => some (.str x)
  | .tup ds => match toPs st ds with
    | some ps => some (.tuple ps)
    | none => none
  | .lst ds => match toPs st ds with
    | some ps => some (.list ps)
    | none => none
  | .hnd _ => none
  | .dhn _ => none
  | .dic _ _ => none
  | .dk _ => none
  | .fn _ => none
  | .frz ds => match toPs st ds with
    | some ps => some (.list ps)
    | none => none
def toPs (st : Sto) : List D → Option (List PyData)
  | [] => some []
  | d :: ds => match toP st d with
    | none => none
    | some p => match toPs st ds with
      | none => none
      | some ps => some (p :: ps)
end
/-- a handle at the top is looked up -/
def toPh (st : Sto) (d : D) : Option PyData := match d with
  | .hnd n => match st[n]? with
    | some ds => match toPs st ds with
      | some ps => some (.list ps)
      | none => none
    | none => none
  | d => toP st d
/-- -(2^64) < i < 2^64, quick to reckon -/
def small64 (i : Int) : Bool := Nat.blt i.natAbs 18446744073709551616
theorem small64_iff {i : Int} : small64 i = true ↔ -(2 ^ 64) < i ∧ i < 2 ^ 64 := by
  unfold small64
  rw [Nat.blt_eq]
  omega
/-- -(2^63) ≤ k < 2^63 (nearly) -/
def small63 (k : Int) : Bool := Nat.blt k.natAbs 9223372036854775808
theorem small63_iff {k : Int} (h : small63 k = true) : -(2 ^ 63) ≤ k ∧ k < 2 ^ 63 := by
  unfold small63 at h
  rw [Nat.blt_eq] at h
  omega
def gAdd (st : Sto) (a b : D) : Option D := match a, b with
  | .int i, .int j => some (.int (i + j))
  | .str x, .str y => if lineOk (x.length + y.length) then some (.str (x ++ y)) else none
  | .tup xs, .tup ys => if lineOk (xs.length + ys.length) then some (.tup (xs ++ ys)) else none
  | a, b => match lstOf st a, lstOf st b with
    | some xs, some ys => if lineOk (xs.length + ys.length) then some (.lst (xs ++ ys)) else none
    | _, _ => none
def gSub (_ : Sto) (a b : D) : Option D := match a, b with
  | .int i, .int j => some (.int (i - j))
  | _, _ => none
def gMul (st : Sto) (a b : D) : Option D := match a, b with
  | .int i, .int j => if small64 i || small64 j then some (.int (i * j)) else none
  | .tup xs, .int k => if decide (xs ≠ []) && decide (2 ≤ k) && decide (k ≤ 1000) && decide (xs.length ≤ 1000) then some (.tup (List.replicate k.toNat xs).flatten) else none
  | a, .int k => match lstOf st a with
    | some xs => if small63 k && lineOk (xs.length * k.toNat) then some (.lst (List.replicate k.toNat xs).flatten) else none
    | none => none
  | _, _ => none
def gDiv (_ : Sto) (a b : D) : Option D := match a, b with
  | .int i, .int j => if decide (0 < j) && decide (j < 1073741824) then some (.int (i / j)) else none
  | _, _ => none
def gMod (_ : Sto) (a b : D) : Option D := match a, b with
  | .int i, .int j => if decide (0 < j) then some (.int (i % j)) else none
  | _, _ => none
def gPow (_ : Sto) (a b : D) : Option D := match a, b with
  | .int i, .int j => if decide (0 ≤ j) && decide (j ≤ 1000000) && decide (i.natAbs < 2 ^ 64) then some (.int (i ^ j.toNat)) else none
  | _, _ => none
def gNeg (_ : Sto) (a : D) : Option D := match a with
  | .int i => some (.int (-i))
  | _ => none
/-- equal ints, equal lines of ints: the quick way -/
def eqI : List D → List D → Option Bool
  | [], [] => some true
  | .int i :: xs, .int j :: ys => match eqI xs ys with
    | some b => some (i == j && b)
    | none => none
  | _, _ => none
def eqF (a b : D) : Option Bool := match a, b with
  | .int i, .int j => some (i == j)
  | .tup xs, .tup ys => eqI xs ys
  | _, _ => none
def gEqS (st : Sto) (a b : D) : Option Bool := match toPh st a, toPh st b with
  | some p, some q => if SeqAt.shaped p && SeqAt.shaped q then some (PyData.eqv p q) else none
  | _, _ => none
def gEqB (st : Sto) (a b : D) : Option Bool := match eqF a b with
  | some r => some r
  | none => gEqS st a b
def gEq (st : Sto) (a b : D) : Option D := match gEqB st a b with
  | some r => some (.bl r)
  | none => none
def gNe (st : Sto) (a b : D) : Option D := match gEqB st a b with
  | some r => some (.bl (!r))
  | none => none
def gLt (_ : Sto) (a b : D) : Option D := match a, b with
  | .int i, .int j => some (.bl (decide (i < j)))
  | _, _ => none
def gLe (_ : Sto) (a b : D) : Option D := match a, b with
  | .int i, .int j => some (.bl (decide (i ≤ j)))
  | _, _ => none
def gGt (_ : Sto) (a b : D) : Option D := match a, b with
  | .int i, .int j => some (.bl (decide (j < i)))
  | _, _ => none
def gGe (_ : Sto) (a b : D) : Option D := match a, b with
  | .int i, .int j => some (.bl (decide (j ≤ i)))
  | _, _ => none
def gIsN (_ : Sto) (a b : D) : Option D := match b with
  | .non => some (.bl (match a with | .non => true | _ => false))
  | _ => none
def gNotN (_ : Sto) (a b : D) : Option D := match b with
  | .non => some (.bl (match a with | .non => false | _ => true))
  | _ => none
section
variable {K : PySem.W.Frag} {mg : Str → Option Value} {αs T : List Addr} {H : Hp} {st : Sto}
theorem rep_int {i : Int} {v : V} : Rep K mg αs T H (.int i) v ↔ v = .int i := by simp only [Rep]
theorem rep_non {v : V} : Rep K mg αs T H .non v ↔ v = .non := by simp only [Rep]
theorem rep_bl {b : Bool} {v : V} : Rep K mg αs T H (.bl b) v ↔ v = .bl b := by simp only [Rep]
theorem rep_str {x : Str} {v : V} : Rep K mg αs T H (.str x) v ↔ v = .str x := by simp only [Rep]
theorem rep_tup {ds : List D} {v : V} : Rep K mg αs T H (.tup ds) v ↔ ∃ a xs, v = .ref a ∧ TupAt K αs H a xs ∧ Reps K mg αs T H ds xs := by simp only [Rep]
theorem rep_lst {ds : List D} {v : V} : Rep K mg αs T H (.lst ds) v ↔ ∃ a xs, v = .ref a ∧ LstAt αs T H a xs ∧ Reps K mg αs T H ds xs := by simp only [Rep]
theorem rep_frz {ds : List D} {v : V} : Rep K mg αs T H (.frz ds) v ↔ ∃ a xs, v = .ref a ∧ FrzAt K αs H a xs ∧ Reps K mg αs T H ds xs := by simp only [Rep]
theorem rep_hnd {n : Nat} {v : V} : Rep K mg αs T H (.hnd n) v ↔ ∃ a, v = .ref a ∧ αs[n]? = some a ∧ IsLst H a := by simp only [Rep]
theorem rep_dhn {n : Nat} {v : V} : Rep K mg αs T H (.dhn n) v ↔ ∃ a, v = .ref a ∧ αs[n]? = some a ∧ IsDic H a := by simp only [Rep]
theorem rep_dic {ks : List (List Int)} {vs : List D} {v : V} : Rep K mg αs T H (.dic ks vs) v ↔ ∃ a xs, v = .ref a ∧ DctAt H a ks xs ∧ a ∉ αs ∧ a ∉ T ∧ Reps K mg αs T H vs xs := by simp only [Rep]
theorem lstOf_ok (R : Rel K mg αs T H st) {d : D} {v : V} {ds : List D} (h : Rep K mg αs T H d v) (e : lstOf st d = some ds) : ∃ a xs, v = .ref a ∧ H a = some (.lst xs) ∧ Reps K mg αs T H ds xs := by
  cases d <;> simp only [lstOf] at e <;> try (cases e; done)
  · cases e
    obtain ⟨a, xs, e1, h1, h2⟩ := rep_lst.mp h
    exact ⟨a, xs, e1, h1.1, h2⟩
  · obtain ⟨a, e1, h1⟩ := rep_hnd.mp h
    obtain ⟨xs, h2, h3⟩ := R.lc h1 e
    exact ⟨a, xs, e1, h2, h3⟩
theorem seqOf_ok (R : Rel K mg αs T H st) {d : D} {v : V} {ds : List D} (h : Rep K mg αs T H d v) (e : seqOf st d = some ds) : ∃ a xs, v = .ref a ∧ (SqL K H a xs ∨ SqT K H a xs) ∧ Reps K mg αs T H ds xs := by
  cases d <;> simp only [seqOf] at e <;> try (cases e; done)
  · cases e
    obtain ⟨a, xs, e1, h1, h2⟩ := rep_tup.mp h
    exact ⟨a, xs, e1, .inr h1.sq, h2⟩
  · cases e
    obtain ⟨a, xs, e1, h1, h2⟩ := rep_lst.mp h
    exact ⟨a, xs, e1, .inl h1.sq, h2⟩
  · obtain ⟨a, e1, h1⟩ := rep_hnd.mp h
    obtain ⟨xs, h2, h3⟩ := R.lc h1 e
    exact ⟨a, xs, e1, .inl (.of h2), h3⟩
  · cases e
    obtain ⟨a, xs, e1, h1, h2⟩ := rep_frz.mp h
    exact ⟨a, xs, e1, .inl h1.sq, h2⟩
mutual
theorem toP_ok : ∀ {d : D} {v : V} {p : PyData}, Rep K mg αs T H d v → toP st d = some p → Dp K H v p
  | .non, _, _, h, e => by rw [rep_non.mp h]; simp only [toP] at e; cases e; exact .non
  | .bl b, _, _, h, e => by rw [rep_bl.mp h]; simp only [toP] at e; cases e; exact .bl b
  | .int i, _, _, h, e => by rw [rep_int.mp h]; simp only [toP] at e; cases e; exact .int i
  | .str x, _, _, h, e => by rw [rep_str.mp h]; simp only [toP] at e; cases e; exact .str x
  | .tup ds, _, _, h, e => by
    obtain ⟨a, xs, e1, h1, h2⟩ := rep_tup.mp h
    simp only [toP] at e
    cases q : toPs st ds with
    | none => rw [q] at e; cases e
    | some ps => rw [q] at e; cases e; rw [e1]; exact .tup h1.sq (toPs_ok h2 q)
  | .lst ds, _, _, h, e => by
    obtain ⟨a, xs, e1, h1, h2⟩ := rep_lst.mp h
    simp only [toP] at e
    cases q : toPs st ds with
    | none => rw [q] at e; cases e
    | some ps => rw [q] at e; cases e; rw [e1]; exact .lst h1.sq (toPs_ok h2 q)
  | .hnd _, _, _, _, e => by simp only [toP] at e; cases e
  | .dhn _, _, _, _, e => by simp only [toP] at e; cases e
  | .dic _ _, _, _, _, e => by simp only [toP] at e; cases e
  | .dk _, _, _, _, e => by simp only [toP] at e; cases e
  | .fn _, _, _, _, e => by simp only [toP] at e; cases e
  | .frz ds, _, _, h, e => by
    obtain ⟨a, xs, e1, h1, h2⟩ := rep_frz.mp h
    simp only [toP] at e
    cases q : toPs st ds with
    | none => rw [q] at e; cases e
    | some ps => rw [q] at e; cases e; rw [e1]; exact .lst h1.sq (toPs_ok h2 q)
theorem toPs_ok : ∀ {ds : List D} {vs : List V} {ps : List PyData}, Reps K mg αs T H ds vs → toPs st ds = some ps → DpAll K H vs ps
  | [], _, _, h, e => by simp only [Reps] at h; subst h; simp only [toPs] at e; cases e; exact .nil
  | d :: ds, _, _, h, e => by
    simp only [Reps] at h
    obtain ⟨v, r, e1, h1, h2⟩ := h
    subst e1
    simp only [toPs] at e
    cases q : toP st d with
    | none => rw [q] at e; cases e
    | some p =>
      rw [q] at e
      dsimp only at e
      cases q2 : toPs st ds with
      | none => rw [q2] at e; cases e
      | some ps => rw [q2] at e; cases e; exact .cons (toP_ok h1 q) (toPs_ok h2 q2)
end
theorem toPh_ok (R : Rel K mg αs T H st) {d : D} {v : V} {p : PyData} (h : Rep K mg αs T H d v) (e : toPh st d = some p) : Dp K H v p := by
  unfold toPh at e
  split at e
  · rename_i n
    obtain ⟨a, e1, h1⟩ := rep_hnd.mp h
    cases q : st[n]? with
    | none => rw [q] at e; cases e
    | some ds =>
      rw [q] at e
      dsimp only at e
      cases q2 : toPs st ds with
      | none => rw [q2] at e; cases e
      | some ps =>
        rw [q2] at e
        cases e
        obtain ⟨xs, h2, h3⟩ := R.lc h1 q
        rw [e1]
        exact .lst (.of h2) (toPs_ok h3 q2)
  · exact toP_ok h e
end
/-! the rules -/
def rAddD (K : PySem.W.Frag) : R2 := fun x y H Q => (rI0 fun i j => .int (i + j)) x y H Q ∨ ((∃ i j, x = .str i ∧ y = .str j ∧ i.length + j.length ≤ sizeLine ∧ Q (.str (i ++ j)) H) ∨ (rCatA K x y H Q ∨ rCat x y H Q))
theorem op_addD {X : Cx} : OpR X (binaryOp .Add) (rAddD X.K) := op_add.or (op_add_str.or (op_catA.or op_cat))
theorem Reps.isNil {K : PySem.W.Frag} {mg : Str → Option Value} {αs T : List Addr} {H : Hp} {xs : List V} (h : Reps K mg αs T H [] xs) : xs = [] := by simpa only [Reps] using h
section
variable {K : PySem.W.Frag} {mg : Str → Option Value}
theorem rv_add : RV2 K mg (rAddD K) gAdd := by
  intro αs T H st a b x y Q d R ra rb e q
  unfold gAdd at e
  split at e
  · rename_i i j
    cases e
    rw [rep_int.mp ra, rep_int.mp rb]
    exact .inl ⟨i, j, rfl, rfl, q _ H R .refl (rep_int.mpr rfl)⟩
  · rename_i s t
    split at e
    · rename_i hl
      cases e
      rw [rep_str.mp ra, rep_str.mp rb]
      exact .inr (.inl ⟨s, t, rfl, rfl, lineOk_iff hl, q _ H R .refl (rep_str.mpr rfl)⟩)
    · cases e
  · rename_i ds es
    split at e
    · rename_i hl
      cases e
      obtain ⟨p, xs, rfl, h1, h2⟩ := rep_tup.mp ra
      obtain ⟨p2, ys, rfl, g1, g2⟩ := rep_tup.mp rb
      refine .inr (.inr (.inl ⟨p, p2, xs, ys, rfl, rfl, h1.sq, g1.sq, by rw [h2.len, g2.len]; exact lineOk_iff hl, fun z => ?_, fun _ z => ?_, fun _ _ t ht => ?_⟩))
      · subst z
        have e1 : ds = [] := List.eq_nil_of_length_eq_zero h2.len.symm
        subst e1
        exact q _ H R .refl rb
      · subst z
        have e1 : es = [] := List.eq_nil_of_length_eq_zero g2.len.symm
        subst e1
        rw [List.append_nil] at q
        exact q _ H R .refl ra
      · obtain ⟨a, b, c⟩ := newTup R (h2.app g2) ht
        exact q _ _ a b c
    · cases e
  · cases e1 : lstOf st a with
    | none => rw [e1] at e; cases e
    | some ds =>
      rw [e1] at e
      cases e2 : lstOf st b with
      | none => rw [e2] at e; cases e
      | some es =>
        rw [e2] at e
        dsimp only at e
        split at e
        · rename_i hl
          cases e
          obtain ⟨p, xs, rfl, h1, h2⟩ := lstOf_ok R ra e1
          obtain ⟨p2, ys, rfl, g1, g2⟩ := lstOf_ok R rb e2
          refine .inr (.inr (.inr ⟨p, p2, xs, ys, rfl, rfl, h1, g1, by rw [h2.len, g2.len]; exact lineOk_iff hl, fun t ht => ?_⟩))
          obtain ⟨a, b, c⟩ := newLst R (h2.app g2) ht
          exact q _ _ a b c
        · cases e
theorem rv_sub : RV2 K mg (rI0 fun i j => .int (i - j)) gSub := by
  intro αs T H st a b x y Q d R ra rb e q
  unfold gSub at e
  split at e
  · rename_i i j
    cases e
    rw [rep_int.mp ra, rep_int.mp rb]
    exact ⟨i, j, rfl, rfl, q _ H R .refl (rep_int.mpr rfl)⟩
  · cases e
end
def rMulD (K : PySem.W.Frag) : R2 := fun x y H Q => (rI CMul fun i j => .int (i * j)) x y H Q ∨ (rRepT K x y H Q ∨ rRep x y H Q)
theorem op_mulD {X : Cx} : OpR X (binaryOp .Mult) (rMulD X.K) := op_mul.or (op_repT.or op_rep)
section
variable {K : PySem.W.Frag} {mg : Str → Option Value}
theorem rv_mul : RV2 K mg (rMulD K) gMul := by
  intro αs T H st a b x y Q d R ra rb e q
  unfold gMul at e
  split at e
  · rename_i i j
    split at e
    · rename_i hl
      cases e
      rw [rep_int.mp ra, rep_int.mp rb]
      refine .inl ⟨i, j, rfl, rfl, ?_, q _ H R .refl (rep_int.mpr rfl)⟩
      simp only [Bool.or_eq_true, small64_iff] at hl
      exact hl
    · cases e
  · rename_i ds k
    split at e
    · rename_i hl
      cases e
      simp only [Bool.and_eq_true, decide_eq_true_eq] at hl
      obtain ⟨⟨⟨l1, l2⟩, l3⟩, l4⟩ := hl
      obtain ⟨p, xs, rfl, h1, h2⟩ := rep_tup.mp ra
      rw [rep_int.mp rb]
      refine .inr (.inl ⟨p, k, xs, rfl, rfl, h1.sq, fun z => l1 ?_, l2, l3, by rw [h2.len]; exact l4, fun t ht => ?_⟩)
      · subst z
        exact List.eq_nil_of_length_eq_zero h2.len.symm
      · obtain ⟨a, b, c⟩ := newTup R (h2.rep _) ht
        exact q _ _ a b c
    · cases e
  · rename_i k _ _
    cases e1 : lstOf st a with
    | none => rw [e1] at e; cases e
    | some ds =>
      rw [e1] at e
      dsimp only at e
      split at e
      · rename_i hl
        cases e
        simp only [Bool.and_eq_true] at hl
        obtain ⟨l0, l3⟩ := hl
        obtain ⟨l1, l2⟩ := small63_iff l0
        obtain ⟨p, xs, rfl, h1, h2⟩ := lstOf_ok R ra e1
        rw [rep_int.mp rb]
        refine .inr (.inr ⟨p, k, xs, rfl, rfl, h1, l1, l2, by rw [h2.len]; exact lineOk_iff l3, fun t ht => ?_⟩)
        obtain ⟨a, b, c⟩ := newLst R (h2.rep _) ht
        exact q _ _ a b c
      · cases e
  · cases e
theorem rv_div : RV2 K mg (rI CDiv fun i j => .int (i / j)) gDiv := by
  intro αs T H st a b x y Q d R ra rb e q
  unfold gDiv at e
  split at e
  · rename_i i j
    split at e
    · rename_i hl
      cases e
      rw [rep_int.mp ra, rep_int.mp rb]
      simp only [Bool.and_eq_true, decide_eq_true_eq] at hl
      exact ⟨i, j, rfl, rfl, hl, q _ H R .refl (rep_int.mpr rfl)⟩
    · cases e
  · cases e
theorem rv_mod : RV2 K mg (rI (fun _ j => 0 < j) fun i j => .int (i % j)) gMod := by
  intro αs T H st a b x y Q d R ra rb e q
  unfold gMod at e
  split at e
  · rename_i i j
    split at e
    · rename_i hl
      cases e
      rw [rep_int.mp ra, rep_int.mp rb]
      exact ⟨i, j, rfl, rfl, of_decide_eq_true hl, q _ H R .refl (rep_int.mpr rfl)⟩
    · cases e
  · cases e
theorem rv_pow : RV2 K mg (rI CPow fun i j => .int (i ^ j.toNat)) gPow := by
  intro αs T H st a b x y Q d R ra rb e q
  unfold gPow at e
  split at e
  · rename_i i j
    split at e
    · rename_i hl
      cases e
      rw [rep_int.mp ra, rep_int.mp rb]
      simp only [Bool.and_eq_true, decide_eq_true_eq] at hl
      exact ⟨i, j, rfl, rfl, ⟨hl.1.1, hl.1.2, hl.2⟩, q _ H R .refl (rep_int.mpr rfl)⟩
    · cases e
  · cases e
theorem rv_neg : RV1 K mg (rU fun i => .int (-i)) gNeg := by
  intro αs T H st a x Q d R ra e q
  unfold gNeg at e
  split at e
  · rename_i i
    cases e
    rw [rep_int.mp ra]
    exact ⟨i, rfl, q _ H R .refl (rep_int.mpr rfl)⟩
  · cases e
theorem eqI_ok (st : Sto) : ∀ {xs ys : List D} {b : Bool}, eqI xs ys = some b → ∃ ps qs, toPs st xs = some ps ∧ toPs st ys = some qs ∧ PyData.eqvAll ps qs = b ∧ PyData.canLayAll0 ps = true ∧ PyData.canLayAll0 qs = true ∧ PyData.depthAll ps = 0 ∧ PyData.depthAll qs = 0
  | [], [], b, e => by cases e; exact ⟨[], [], rfl, rfl, by simp [PyData.eqvAll], by simp [PyData.canLayAll0], by simp [PyData.canLayAll0], by simp [PyData.depthAll], by simp [PyData.depthAll]⟩
  | .int i :: xs, .int j :: ys, b, e => by
    unfold eqI at e
    split at e
    · rename_i c hc
      cases e
      obtain ⟨ps, qs, h1, h2, h3, h4, h5, h6, h7⟩ := eqI_ok st hc
      refine ⟨.int i :: ps, .int j :: qs, by simp [toPs, toP, h1], by simp [toPs, toP, h2], ?_, ?_, ?_, ?_, ?_⟩
      · simp only [PyData.eqvAll, PyData.eqv, h3]
      · simp [PyData.canLayAll0, PyData.canLay0, h4]
      · simp [PyData.canLayAll0, PyData.canLay0, h5]
      · simp [PyData.depthAll, PyData.depth, h6]
      · simp [PyData.depthAll, PyData.depth, h7]
    · cases e
theorem gEqB_ok {αs T : List Addr} {H : Hp} {st : Sto} {a b : D} {x y : V} {r : Bool} (R : Rel K mg αs T H st) (ra : Rep K mg αs T H a x) (rb : Rep K mg αs T H b y) (e : gEqB st a b = some r) :
    ∃ p q, Dp K H x p ∧ Dp K H y q ∧ SeqAt.shaped p = true ∧ SeqAt.shaped q = true ∧ PyData.eqv p q = r := by
  unfold gEqB at e
  split at e
  · rename_i r' hr
    cases e
    unfold eqF at hr
    split at hr
    · rename_i i j
      cases hr
      rw [rep_int.mp ra, rep_int.mp rb]
      exact ⟨.int i, .int j, .int i, .int j, rfl, rfl, by simp only [PyData.eqv]⟩
    · rename_i xs ys
      obtain ⟨ps, qs, h1, h2, h3, h4, h5, h6, h7⟩ := eqI_ok st hr
      obtain ⟨p, vs, rfl, k1, k2⟩ := rep_tup.mp ra
      obtain ⟨p2, ws, rfl, g1, g2⟩ := rep_tup.mp rb
      refine ⟨.tuple ps, .tuple qs, .tup k1.sq (toPs_ok k2 h1), .tup g1.sq (toPs_ok g2 h2), ?_, ?_, by simp only [PyData.eqv, h3]⟩
      · simp [SeqAt.shaped, PyData.canLay0, h4, PyData.depth, h6]
      · simp [SeqAt.shaped, PyData.canLay0, h5, PyData.depth, h7]
    · cases hr
  · unfold gEqS at e
    split at e
    · rename_i p p2 e1 e2
      split at e
      · rename_i hl
        cases e
        simp only [Bool.and_eq_true] at hl
        exact ⟨p, p2, toPh_ok R ra e1, toPh_ok R rb e2, hl.1, hl.2, rfl⟩
      · cases e
    · cases e
theorem rv_eq : RV2 K mg (rEqD K) gEq := by
  intro αs T H st a b x y Q d R ra rb e q
  unfold gEq at e
  split at e
  · rename_i r hr
    cases e
    obtain ⟨p, p2, h1, h2, h3, h4, h5⟩ := gEqB_ok R ra rb hr
    exact ⟨p, p2, h1, h2, h3, h4, by rw [h5]; exact q _ H R .refl (rep_bl.mpr rfl)⟩
  · cases e
theorem rv_ne : RV2 K mg (rNeD K) gNe := by
  intro αs T H st a b x y Q d R ra rb e q
  unfold gNe at e
  split at e
  · rename_i r hr
    cases e
    obtain ⟨p, p2, h1, h2, h3, h4, h5⟩ := gEqB_ok R ra rb hr
    exact ⟨p, p2, h1, h2, h3, h4, by rw [h5]; exact q _ H R .refl (rep_bl.mpr rfl)⟩
  · cases e
theorem rv_lt : RV2 K mg (rI0 fun i j => .bl (decide (i < j))) gLt := by
  intro αs T H st a b x y Q d R ra rb e q
  unfold gLt at e
  split at e
  · rename_i i j
    cases e
    rw [rep_int.mp ra, rep_int.mp rb]
    exact ⟨i, j, rfl, rfl, q _ H R .refl (rep_bl.mpr rfl)⟩
  · cases e
theorem rv_le : RV2 K mg (rI0 fun i j => .bl (decide (i ≤ j))) gLe := by
  intro αs T H st a b x y Q d R ra rb e q
  unfold gLe at e
  split at e
  · rename_i i j
    cases e
    rw [rep_int.mp ra, rep_int.mp rb]
    exact ⟨i, j, rfl, rfl, q _ H R .refl (rep_bl.mpr rfl)⟩
  · cases e
theorem rv_gt : RV2 K mg (rI0 fun i j => .bl (decide (j < i))) gGt := by
  intro αs T H st a b x y Q d R ra rb e q
  unfold gGt at e
  split at e
  · rename_i i j
    cases e
    rw [rep_int.mp ra, rep_int.mp rb]
    exact ⟨i, j, rfl, rfl, q _ H R .refl (rep_bl.mpr rfl)⟩
  · cases e
theorem rv_ge : RV2 K mg (rI0 fun i j => .bl (decide (j ≤ i))) gGe := by
  intro αs T H st a b x y Q d R ra rb e q
  unfold gGe at e
  split at e
  · rename_i i j
    cases e
    rw [rep_int.mp ra, rep_int.mp rb]
    exact ⟨i, j, rfl, rfl, q _ H R .refl (rep_bl.mpr rfl)⟩
  · cases e
theorem rep_non_iff {αs T : List Addr} {H : Hp} {a : D} {x : V} (r : Rep K mg αs T H a x) : decide (x = .non) = (match a with | .non => true | _ => false) := by
  cases a <;> simp only [Rep] at r
  · subst r; rfl
  · subst r; rfl
  · subst r; rfl
  · subst r; rfl
  · obtain ⟨a, xs, rfl, _⟩ := r; rfl
  · obtain ⟨a, xs, rfl, _⟩ := r; rfl
  · obtain ⟨a, rfl, _⟩ := r; rfl
  · obtain ⟨a, rfl, _⟩ := r; rfl
  · obtain ⟨a, xs, rfl, _⟩ := r; rfl
  · obtain ⟨a, rfl, _⟩ := r; rfl
  · obtain ⟨a, xs, rfl, _⟩ := r; rfl
theorem rv_isN : RV2 K mg (fun x y H Q => y = .non ∧ Q (.bl (decide (x = .non))) H) gIsN := by
  intro αs T H st a b x y Q d R ra rb e q
  unfold gIsN at e
  split at e
  · cases e
    rw [rep_non.mp rb]
    exact ⟨rfl, q _ H R .refl (rep_bl.mpr (by rw [rep_non_iff ra]; cases a <;> rfl))⟩
  · cases e
theorem rv_notN : RV2 K mg (fun x y H Q => y = .non ∧ Q (.bl (!decide (x = .non))) H) gNotN := by
  intro αs T H st a b x y Q d R ra rb e q
  unfold gNotN at e
  split at e
  · cases e
    rw [rep_non.mp rb]
    exact ⟨rfl, q _ H R .refl (rep_bl.mpr (by rw [rep_non_iff ra]; cases a <;> rfl))⟩
  · cases e
end
end DL
namespace DL
open PySem PySem.Spec PyProof.Rows L2
/-! ### truth, tests -/
def tru (st : Sto) (d : D) : Option Bool := match d with
  | .non => some false
  | .bl b => some b
  | .int i => some (i != 0)
  | .str x => if lineOk x.length then some ((x.length : Int) != 0) else none
  | .tup ds => some (!ds.isEmpty)
  | .lst ds => some (!ds.isEmpty)
  | .hnd n => match st[n]? with
    | some ds => some (!ds.isEmpty)
    | none => none
  | .fn _ => none
  | .dhn _ => none
  | .dic _ _ => none
  | .dk _ => none
  | .frz ds => some (!ds.isEmpty)
def fTru (f : Rho → Sto → R D) : Rho → Sto → R Bool := fun ρ st => (f ρ st).bind fun d st => .of (tru st d) st
def fB (f : Rho → Sto → R D) : Rho → Sto → R Bool := fun ρ st => (f ρ st).bind fun d st => match d with
  | .bl b => .ok b st
  | _ => .bad
def fNot (f : Rho → Sto → R Bool) : Rho → Sto → R Bool := fun ρ st => (f ρ st).bind fun b st => .ok (!b) st
def fAnd (f g : Rho → Sto → R Bool) : Rho → Sto → R Bool := fun ρ st => (f ρ st).bind fun b st => match b with
  | true => g ρ st
  | false => .ok false st
def fOr (f g : Rho → Sto → R Bool) : Rho → Sto → R Bool := fun ρ st => (f ρ st).bind fun b st => match b with
  | true => .ok true st
  | false => g ρ st
/-- values by truth -/
def fAndV (f g : Rho → Sto → R D) : Rho → Sto → R D := fun ρ st => (f ρ st).bind fun d st => match tru st d with
  | some true => g ρ st
  | some false => .ok d st
  | none => .bad
def fOrV (f g : Rho → Sto → R D) : Rho → Sto → R D := fun ρ st => (f ρ st).bind fun d st => match tru st d with
  | some true => .ok d st
  | some false => g ρ st
  | none => .bad
def fNotV (f : Rho → Sto → R D) : Rho → Sto → R D := fun ρ st => (f ρ st).bind fun d st => match tru st d with
  | some b => .ok (.bl (!b)) st
  | none => .bad
def fIf (c : Rho → Sto → R Bool) (f g : Rho → Sto → R D) : Rho → Sto → R D := fun ρ st => (c ρ st).bind fun b st => match b with
  | true => f ρ st
  | false => g ρ st
/-- a < b < c -/
def fChain (g g' : Sto → D → D → Option D) (fa fb fc : Rho → Sto → R D) : Rho → Sto → R D := fun ρ st => (fa ρ st).bind fun a st => (fb ρ st).bind fun b st => match g st a b with
  | some (.bl true) => (fc ρ st).bind fun c st => .of (g' st b c) st
  | some (.bl false) => .ok (.bl false) st
  | _ => .bad
section
variable {K : PySem.W.Frag} {mg : Str → Option Value} {W : WX} {αs T : List Addr} {H : Hp} {st : Sto}
theorem isE {ds : List D} {xs : List V} (h : Reps K mg αs T H ds xs) : (!ds.isEmpty) = !xs.isEmpty := by
  have := h.len
  cases ds <;> cases xs <;> simp_all
theorem tru_ok' (R : Rel K mg αs T H st) {d : D} {v : V} {b : Bool} (h : Rep K mg αs T H d v) (e : tru st d = some b) : TruV K v H b := by
  cases d <;> simp only [tru] at e
  · cases e; rw [rep_non.mp h]; rfl
  · cases e; rw [rep_bl.mp h]; rfl
  · cases e; rw [rep_int.mp h]; rfl
  · split at e
    · rename_i hl
      cases e; rw [rep_str.mp h]; exact ⟨lineOk_iff hl, rfl⟩
    · cases e
  · cases e
    obtain ⟨a, xs, rfl, h1, h2⟩ := rep_tup.mp h
    exact .inr (.inl ⟨xs, h1.sq, isE h2⟩)
  · cases e
    obtain ⟨a, xs, rfl, h1, h2⟩ := rep_lst.mp h
    exact .inl ⟨xs, h1.sq, isE h2⟩
  · split at e
    · rename_i n ds hd
      cases e
      obtain ⟨a, rfl, h1⟩ := rep_hnd.mp h
      obtain ⟨xs, h2, h3⟩ := R.lc h1 hd
      exact .inl ⟨xs, .of h2, isE h3⟩
    · cases e
  · cases e
  · cases e
    obtain ⟨a, xs, rfl, h1, h2⟩ := rep_frz.mp h
    exact .inl ⟨xs, h1.sq, isE h2⟩
  · cases e
  · cases e
  · cases e
theorem rt_tru {t : TE} {f : Rho → Sto → R D} (h : RE K mg W t f) : RT K mg W (fun σ H Q => t σ H fun x H' => ∃ k, TruV K x H' k ∧ Q k H') (fTru f) := by
  intro αs T σ ρ H st Q R E q
  refine h αs T σ ρ H st _ R E (PostG.bind q fun d st1 αs1 H1 R1 F1 h1 x rx => ?_)
  cases e : tru st1 d with
  | none => rw [e] at h1; exact h1.elim
  | some b =>
    rw [e] at h1
    exact ⟨b, tru_ok' R1 rx e, h1 αs1 H1 R1 .refl⟩
theorem rt_b {t : TE} {f : Rho → Sto → R D} (h : RE K mg W t f) : RT K mg W (tTest t) (fB f) := by
  intro αs T σ ρ H st Q R E q
  refine h αs T σ ρ H st _ R E (PostG.bind q fun d st1 αs1 H1 R1 F1 h1 x rx => ?_)
  split at h1
  · rename_i b
    exact ⟨b, rep_bl.mp rx, h1 αs1 H1 R1 .refl⟩
  · exact h1.elim
theorem rt_not {t : TT} {f : Rho → Sto → R Bool} (h : RT K mg W t f) : RT K mg W (tNot t) (fNot f) := by
  intro αs T σ ρ H st Q R E q
  exact h αs T σ ρ H st _ R E (PostG.bind q fun d st1 αs1 H1 R1 F1 h1 => h1 αs1 H1 R1 .refl)
theorem rt_and {t u : TT} {f g : Rho → Sto → R Bool} (h : RT K mg W t f) (h' : RT K mg W u g) : RT K mg W (tAnd t u) (fAnd f g) := by
  intro αs T σ ρ H st Q R E q
  refine h αs T σ ρ H st _ R E (PostG.bind q fun b st1 αs1 H1 R1 F1 h1 => ?_)
  cases b with
  | true => exact iteT (h' αs1 T σ ρ H1 st1 _ R1 (E.fr F1) h1)
  | false => exact iteF (h1 αs1 H1 R1 .refl)
theorem rt_or {t u : TT} {f g : Rho → Sto → R Bool} (h : RT K mg W t f) (h' : RT K mg W u g) : RT K mg W (tOr t u) (fOr f g) := by
  intro αs T σ ρ H st Q R E q
  refine h αs T σ ρ H st _ R E (PostG.bind q fun b st1 αs1 H1 R1 F1 h1 => ?_)
  cases b with
  | true => exact iteT (h1 αs1 H1 R1 .refl)
  | false => exact iteF (h' αs1 T σ ρ H1 st1 _ R1 (E.fr F1) h1)
theorem re_andT {t u : TE} {f g : Rho → Sto → R D} (h : RE K mg W t f) (h' : RE K mg W u g) : RE K mg W (tAndT K t u) (fAndV f g) := by
  intro αs T σ ρ H st Q R E q
  refine h αs T σ ρ H st _ R E (PostG.bind q fun d st1 αs1 H1 R1 F1 h1 x rx => ?_)
  split at h1
  · rename_i e
    refine ⟨true, tru_ok' R1 rx e, ?_⟩
    exact iteT (h' αs1 T σ ρ H1 st1 _ R1 (E.fr F1) h1)
  · rename_i e
    refine ⟨false, tru_ok' R1 rx e, ?_⟩
    exact iteF (h1 αs1 H1 R1 .refl x rx)
  · exact h1.elim
theorem re_orT {t u : TE} {f g : Rho → Sto → R D} (h : RE K mg W t f) (h' : RE K mg W u g) : RE K mg W (tOrT K t u) (fOrV f g) := by
  intro αs T σ ρ H st Q R E q
  refine h αs T σ ρ H st _ R E (PostG.bind q fun d st1 αs1 H1 R1 F1 h1 x rx => ?_)
  split at h1
  · rename_i e
    refine ⟨true, tru_ok' R1 rx e, ?_⟩
    exact iteT (h1 αs1 H1 R1 .refl x rx)
  · rename_i e
    refine ⟨false, tru_ok' R1 rx e, ?_⟩
    exact iteF (h' αs1 T σ ρ H1 st1 _ R1 (E.fr F1) h1)
  · exact h1.elim
theorem re_notT {t : TE} {f : Rho → Sto → R D} (h : RE K mg W t f) : RE K mg W (tNotT K t) (fNotV f) := by
  intro αs T σ ρ H st Q R E q
  refine h αs T σ ρ H st _ R E (PostG.bind q fun d st1 αs1 H1 R1 F1 h1 x rx => ?_)
  cases e : tru st1 d with
  | none => rw [e] at h1; exact h1.elim
  | some b =>
    rw [e] at h1
    exact ⟨b, tru_ok' R1 rx e, h1 αs1 H1 R1 .refl _ (rep_bl.mpr rfl)⟩
theorem re_if {c : TT} {t u : TE} {fc : Rho → Sto → R Bool} {f g : Rho → Sto → R D} (hc : RT K mg W c fc) (h : RE K mg W t f) (h' : RE K mg W u g) : RE K mg W (tIf c t u) (fIf fc f g) := by
  intro αs T σ ρ H st Q R E q
  refine hc αs T σ ρ H st _ R E (PostG.bind q fun b st1 αs1 H1 R1 F1 h1 => ?_)
  cases b with
  | true => exact iteT (h αs1 T σ ρ H1 st1 _ R1 (E.fr F1) h1)
  | false => exact iteF (h' αs1 T σ ρ H1 st1 _ R1 (E.fr F1) h1)
theorem re_chain {r r' : R2} {g g' : Sto → D → D → Option D} {ta tb tc : TE} {fa fb fc : Rho → Sto → R D} (hr : RV2 K mg r g) (hr' : RV2 K mg r' g') (ha : RE K mg W ta fa) (hb : RE K mg W tb fb) (hc : RE K mg W tc fc) :
    RE K mg W (tChain r r' ta tb tc) (fChain g g' fa fb fc) := by
  intro αs T σ ρ H st Q R E h
  refine ha αs T σ ρ H st _ R E (PostG.bind h fun a st1 αs1 H1 R1 F1 h1 x rx => ?_)
  refine hb αs1 T σ ρ H1 st1 _ R1 (E.fr F1) (PostG.bind h1 fun b st2 αs2 H2 R2 F2 h2 y ry => ?_)
  split at h2
  · rename_i e
    refine hr αs2 T H2 st2 a b x y _ _ R2 (rx.fr F2) ry e fun v H3 R3 F3 r3 => ⟨true, rep_bl.mp r3, ?_⟩
    rw [if_pos rfl]
    refine hc αs2 T σ ρ H3 st2 _ R3 ((E.fr (F1.trans F2)).fr F3) (PostG.bind (h2.step F3) fun c st4 αs4 H4 R4 F4 h4 z rz => ?_)
    cases e : g' st4 b c with
    | none => rw [e] at h4; exact h4.elim
    | some d =>
      rw [e] at h4
      exact hr' αs4 T H4 st4 b c y z Q d R4 ((ry.fr F3).fr F4) rz e fun v H' R5 F5 r5 => h4 αs4 H' R5 F5 v r5
  · rename_i e
    refine hr αs2 T H2 st2 a b x y _ _ R2 (rx.fr F2) ry e fun v H3 R3 F3 r3 => ⟨false, rep_bl.mp r3, ?_⟩
    rw [if_neg Bool.false_ne_true]
    exact h2 αs2 H3 R3 F3 _ (rep_bl.mpr rfl)
  · exact h2.elim
end
/-! ### items, slices -/
def gIx (st : Sto) (a i : D) : Option D := match i with
  | .int i => match a with
    | .str x => if lineOk x.length then (match atI x.cps.toList i with | some c => some (.str ⟨#[c]⟩) | none => none) else none
    | a => match seqOf st a with
      | some ds => atI ds i
      | none => none
  | _ => none
theorem atI_reps {K : PySem.W.Frag} {mg : Str → Option Value} {αs T : List Addr} {H : Hp} {ds : List D} {xs : List V} {i : Int} {d : D} (h : Reps K mg αs T H ds xs) (e : atI ds i = some d) : ∃ v, atI xs i = some v ∧ Rep K mg αs T H d v := by
  unfold atI at e ⊢
  rw [h.len]
  cases q : ixN ds.length i with
  | none => rw [q] at e; cases e
  | some j =>
    rw [q] at e
    exact h.get e
theorem rv_ix {K : PySem.W.Frag} {mg : Str → Option Value} : RV2 K mg (rIx K) gIx := by
  intro αs T H st a b x y Q d R ra rb e q
  unfold gIx at e
  split at e
  · rename_i i
    rw [rep_int.mp rb]
    split at e
    · rename_i s
      split at e
      · rename_i hl
        split at e
        · rename_i c hc
          cases e
          rw [rep_str.mp ra]
          exact .inr (.inr ⟨s, i, c, rfl, rfl, lineOk_iff hl, hc, q _ H R .refl (rep_str.mpr rfl)⟩)
        · cases e
      · cases e
    · split at e
      · rename_i ds hs
        obtain ⟨p, xs, rfl, h1, h2⟩ := seqOf_ok R ra hs
        obtain ⟨v, e1, r1⟩ := atI_reps h2 e
        rcases h1 with h1 | h1
        · exact .inl ⟨p, xs, i, v, rfl, rfl, h1, e1, q v H R .refl r1⟩
        · exact .inr (.inl ⟨p, xs, i, v, rfl, rfl, h1, e1, q v H R .refl r1⟩)
      · cases e
  · cases e
def cutD {α : Type} (xs : List α) (lo hi : Option Int) : List α := (xs.drop (HT.sIx xs.length 0 lo)).take (HT.sIx xs.length xs.length hi - HT.sIx xs.length 0 lo)
def gSl (st : Sto) (a : D) (lo hi : Option Int) : Option D := match a with
  | .tup ds => some (.tup (cutD ds lo hi))
  | .frz ds => some (.lst (cutD ds lo hi))
  | a => match lstOf st a with
    | some ds => some (.lst (cutD ds lo hi))
    | none => none
abbrev RO := Rho → Sto → R (Option Int)
def fNoPart : RO := fun _ st => .ok none st
def fPart (f : Rho → Sto → R D) : RO := fun ρ st => (f ρ st).bind fun d st => match d with
  | .int i => .ok (some i) st
  | _ => .bad
def fSl (f : Rho → Sto → R D) (l h : RO) : Rho → Sto → R D := fun ρ st => (f ρ st).bind fun a st => (l ρ st).bind fun lo st => (h ρ st).bind fun hi st => .of (gSl st a lo hi) st
def ROk (K : PySem.W.Frag) (mg : Str → Option Value) (W : WX) (t : TO) (f : RO) : Prop := ∀ αs T σ ρ H st Q, Rel K mg αs T H st → EnvR K mg αs T H σ ρ → PostG K mg W αs T σ H (f ρ st) (fun o _ _ H' => Q o H') → t σ H Q
def rSlD (K : PySem.W.Frag) : V → Option Int → Option Int → Hp → VK → Prop := fun x lo hi H Q => rSlA K x lo hi H Q ∨ rSlL K x lo hi H Q
theorem sl_D {X : Cx} : SlR X (rSlD X.K) := sl_tupA.or sl_list
section
variable {K : PySem.W.Frag} {mg : Str → Option Value} {W : WX}
theorem ro_none : ROk K mg W tNoPart fNoPart := fun αs T σ ρ H st Q R E h => h αs H R .refl
theorem ro_some {t : TE} {f : Rho → Sto → R D} (h : RE K mg W t f) : ROk K mg W (tPart t) (fPart f) := by
  intro αs T σ ρ H st Q R E q
  refine h αs T σ ρ H st _ R E (PostG.bind q fun d st1 αs1 H1 R1 F1 h1 x rx => ?_)
  split at h1
  · rename_i i
    exact ⟨i, rep_int.mp rx, h1 αs1 H1 R1 .refl⟩
  · exact h1.elim
theorem cut_reps {αs T : List Addr} {H : Hp} {ds : List D} {xs : List V} (h : Reps K mg αs T H ds xs) (lo hi : Option Int) : Reps K mg αs T H (cutD ds lo hi) (cutV xs lo hi) := by
  unfold cutD cutV
  rw [h.len]
  exact (h.drop _).take _
theorem re_sl {t : TE} {l u : TO} {f : Rho → Sto → R D} {fl fu : RO} (h : RE K mg W t f) (hl : ROk K mg W l fl) (hu : ROk K mg W u fu) : RE K mg W (tSl (rSlD K) t l u) (fSl f fl fu) := by
  intro αs T σ ρ H st Q R E q
  refine h αs T σ ρ H st _ R E (PostG.bind q fun d st1 αs1 H1 R1 F1 h1 x rx => ?_)
  refine hl αs1 T σ ρ H1 st1 _ R1 (E.fr F1) (PostG.bind h1 fun lo st2 αs2 H2 R2 F2 h2 => ?_)
  refine hu αs2 T σ ρ H2 st2 _ R2 (E.fr (F1.trans F2)) (PostG.bind h2 fun hi st3 αs3 H3 R3 F3 h3 => ?_)
  have rx3 := (rx.fr F2).fr F3
  cases e : gSl st3 d lo hi with
  | none => rw [e] at h3; exact h3.elim
  | some c =>
    rw [e] at h3
    unfold gSl at e
    split at e
    · rename_i ds
      cases e
      obtain ⟨p, xs, rfl, g1, g2⟩ := rep_tup.mp rx3
      refine .inl ⟨p, xs, rfl, g1.sq, fun hw => ?_, fun _ t ht => ?_⟩
      · have e2 : cutD ds lo hi = ds := by
          unfold cutD
          rw [← g2.len, hw.1, hw.2, List.drop_zero, Nat.sub_zero, g2.len, List.take_length]
        rw [e2] at h3
        exact h3 αs3 H3 R3 .refl _ rx3
      · obtain ⟨a, b, c⟩ := newTup R3 (cut_reps g2 lo hi) ht
        exact h3 αs3 _ a b _ c
    · rename_i ds
      cases e
      obtain ⟨p, xs, rfl, g1, g2⟩ := rep_frz.mp rx3
      refine .inr ⟨p, xs, rfl, g1.sq, fun t ht => ?_⟩
      obtain ⟨a, b, c⟩ := newLst R3 (cut_reps g2 lo hi) ht
      exact h3 αs3 _ a b _ c
    · split at e
      · rename_i ds hd
        cases e
        obtain ⟨p, xs, rfl, g1, g2⟩ := lstOf_ok R3 rx3 hd
        refine .inr ⟨p, xs, rfl, .of g1, fun t ht => ?_⟩
        obtain ⟨a, b, c⟩ := newLst R3 (cut_reps g2 lo hi) ht
        exact h3 αs3 _ a b _ c
      · cases e
end
end DL
namespace DL
open PySem PySem.Spec PyProof.Rows L2
/-! ### what leaves a def: handles that it made are forgotten -/
def hdl (b : Bool) (n : Nat) : D := match b with
  | true => .dhn n
  | false => .hnd n
mutual
def mapH (h : Bool → Nat → Option D) : D → Option D
  | .tup ds => match mapHs h ds with
    | some es => some (.tup es)
    | none => none
  | .lst ds => match mapHs h ds with
    | some es => some (.lst es)
    | none => none
  | .hnd n => h false n
  | .dhn n => h true n
  | .dic ks vs => match mapHs h vs with
    | some es => some (.dic ks es)
    | none => none
  | .dk ks => some (.dk ks)
  | .non => some .non
  | .bl b => some (.bl b)
  | .int i => some (.int i)
  | .str x => some (.str x)
  | .fn x => some (.fn x)
  | .frz ds => match mapHs h ds with
    | some es => some (.frz es)
    | none => none
def mapHs (h : Bool → Nat → Option D) : List D → Option (List D)
  | [] => some []
  | d :: ds => match mapH h d with
    | none => none
    | some e => match mapHs h ds with
      | none => none
      | some es => some (e :: es)
end
def lowH (n0 : Nat) (b : Bool) (n : Nat) : Option D := if Nat.blt n n0 then some (hdl b n) else none
def frzOf (b : Bool) (ds : List D) : Option D := match b with
  | false => some (.lst ds)
  | true => match ds with
    | .dk ks :: vs => some (.dic ks vs)
    | _ => none
def frzH (n0 : Nat) (st : Sto) : Nat → Bool → Nat → Option D
  | 0, b, n => lowH n0 b n
  | f + 1, b, n => if Nat.blt n n0 then some (hdl b n) else match st[n]? with
    | none => none
    | some ds => match mapHs (frzH n0 st f) ds with
      | some es => frzOf b es
      | none => none
def lowAll (n0 : Nat) : Sto → Option Sto
  | [] => some []
  | c :: st => match mapHs (lowH n0) c with
    | none => none
    | some e => match lowAll n0 st with
      | none => none
      | some r => some (e :: r)
def leave (n0 : Nat) (d : D) (st : Sto) : R D := if Nat.ble st.length n0 then .ok d st else match lowAll n0 (st.take n0) with
  | none => .bad
  | some st' => match mapH (frzH n0 st 4) d with
    | some e => .ok e st'
    | none => .bad
def leaveX (n0 : Nat) (c : Str) (p : D) (st : Sto) : R D := if Nat.ble st.length n0 then .exc c p st else match lowAll n0 (st.take n0) with
  | none => .bad
  | some st' => .exc c p st'
def runDef (np n : Nat) (body : Rho → Sto → R Fl) (ds : List D) (st : Sto) : R D := if Nat.beq ds.length np then (match body (ds.map some ++ List.replicate (n - ds.length) none) st with
  | .ok (.rt d) st' => leave st.length d st'
  | .ok (.nx _) st' => leave st.length .non st'
  | .ok (.bk _) _ => .bad
  | .ok (.ct _) _ => .bad
  | .exc c p st' => leaveX st.length c p st'
  | .bad => .bad) else .bad
def leaveK (n0 : Nat) (d : D) (st : Sto) : R D := match d with
  | .hnd n => if Nat.blt n n0 then leave n0 d st else match lowAll n0 (st.take n0) with
    | none => .bad
    | some st' => match st[n]? with
      | none => .bad
      | some ds => match mapHs (lowH n0) ds with
        | some es => .ok (.hnd n0) (st' ++ [es])
        | none => .bad
  | d => leave n0 d st
/-- a def whose new list is told as a cell -/
def runDefK (np n : Nat) (body : Rho → Sto → R Fl) (ds : List D) (st : Sto) : R D := if Nat.beq ds.length np then (match body (ds.map some ++ List.replicate (n - ds.length) none) st with
  | .ok (.rt d) st' => leaveK st.length d st'
  | .ok (.nx _) st' => leave st.length .non st'
  | .ok (.bk _) _ => .bad
  | .ok (.ct _) _ => .bad
  | .exc c p st' => leaveX st.length c p st'
  | .bad => .bad) else .bad
section
variable {K : PySem.W.Frag} {mg : Str → Option Value} {αs αs1 αs2 more T : List Addr} {H : Hp} {st : Sto}
mutual
theorem mapH_ok {h : Bool → Nat → Option D} (hs : ∀ b ∈ αs2, b ∈ αs1) (hh : ∀ b n e v, h b n = some e → Rep K mg αs1 T H (hdl b n) v → Rep K mg αs2 T H e v) : ∀ {d e : D} {v : V}, Rep K mg αs1 T H d v → mapH h d = some e → Rep K mg αs2 T H e v
  | .non, _, _, r, e => by simp only [mapH] at e; cases e; rw [rep_non] at r ⊢; exact r
  | .bl _, _, _, r, e => by simp only [mapH] at e; cases e; rw [rep_bl] at r ⊢; exact r
  | .int _, _, _, r, e => by simp only [mapH] at e; cases e; rw [rep_int] at r ⊢; exact r
  | .str _, _, _, r, e => by simp only [mapH] at e; cases e; rw [rep_str] at r ⊢; exact r
  | .fn _, _, _, r, e => by simp only [mapH] at e; cases e; simpa only [Rep] using r
  | .hnd n, _, _, r, e => by simp only [mapH] at e; exact hh false n _ _ e r
  | .dhn n, _, _, r, e => by simp only [mapH] at e; exact hh true n _ _ e r
  | .dk _, _, _, r, e => by simp only [Rep] at r
  | .dic ks vs, _, _, r, e => by
    simp only [mapH] at e
    cases q : mapHs h vs with
    | none => rw [q] at e; cases e
    | some es =>
      rw [q] at e
      cases e
      obtain ⟨a, xs, rfl, h1, h2, h3, h4⟩ := rep_dic.mp r
      exact rep_dic.mpr ⟨a, xs, rfl, h1, fun z => h2 (hs _ z), h3, mapHs_ok hs hh h4 q⟩
  | .tup ds, _, _, r, e => by
    simp only [mapH] at e
    cases q : mapHs h ds with
    | none => rw [q] at e; cases e
    | some es =>
      rw [q] at e
      cases e
      obtain ⟨a, xs, rfl, h1, h2⟩ := rep_tup.mp r
      refine rep_tup.mpr ⟨a, xs, rfl, ?_, mapHs_ok hs hh h2 q⟩
      rcases h1 with h1 | h1
      · exact .inl ⟨h1.1, fun z => h1.2 (hs _ z)⟩
      · exact .inr h1
  | .lst ds, _, _, r, e => by
    simp only [mapH] at e
    cases q : mapHs h ds with
    | none => rw [q] at e; cases e
    | some es =>
      rw [q] at e
      cases e
      obtain ⟨a, xs, rfl, h1, h2⟩ := rep_lst.mp r
      exact rep_lst.mpr ⟨a, xs, rfl, ⟨h1.1, fun z => h1.2.1 (hs _ z), h1.2.2⟩, mapHs_ok hs hh h2 q⟩
  | .frz ds, _, _, r, e => by
    simp only [mapH] at e
    cases q : mapHs h ds with
    | none => rw [q] at e; cases e
    | some es =>
      rw [q] at e
      cases e
      obtain ⟨a, xs, rfl, h1, h2⟩ := rep_frz.mp r
      refine rep_frz.mpr ⟨a, xs, rfl, ?_, mapHs_ok hs hh h2 q⟩
      rcases h1 with ⟨o, h1, h3⟩ | h1
      · exact .inl ⟨o, h1, fun z => h3 (hs _ z)⟩
      · exact .inr h1
theorem mapHs_ok {h : Bool → Nat → Option D} (hs : ∀ b ∈ αs2, b ∈ αs1) (hh : ∀ b n e v, h b n = some e → Rep K mg αs1 T H (hdl b n) v → Rep K mg αs2 T H e v) : ∀ {ds es : List D} {vs : List V}, Reps K mg αs1 T H ds vs → mapHs h ds = some es → Reps K mg αs2 T H es vs
  | [], _, _, r, e => by simp only [mapHs] at e; cases e; rw [r.isNil]; exact .nil
  | d :: ds, _, _, r, e => by
    simp only [Reps] at r
    obtain ⟨v, rr, e1, h1, h2⟩ := r
    subst e1
    simp only [mapHs] at e
    cases q : mapH h d with
    | none => rw [q] at e; cases e
    | some p =>
      rw [q] at e
      dsimp only at e
      cases q2 : mapHs h ds with
      | none => rw [q2] at e; cases e
      | some ps => rw [q2] at e; cases e; exact .cons (mapH_ok hs hh h1 q) (mapHs_ok hs hh h2 q2)
end
theorem memL {α : Type} {xs ys : List α} : ∀ b ∈ xs, b ∈ xs ++ ys := fun _ h => List.mem_append_left _ h
theorem cell_map {h : Bool → Nat → Option D} (hs : ∀ b ∈ αs2, b ∈ αs1) (hh : ∀ b n e v, h b n = some e → Rep K mg αs1 T H (hdl b n) v → Rep K mg αs2 T H e v) {a : Addr} {ds es : List D} (c : CellAt K mg αs1 T H a ds) (e : mapHs h ds = some es) : CellAt K mg αs2 T H a es := by
  rcases c with ⟨xs, q, r⟩ | ⟨ks, vs, xs, rfl, q, r⟩ | c
  · exact .inl ⟨xs, q, mapHs_ok hs hh r e⟩
  · simp only [mapHs, mapH] at e
    cases q2 : mapHs h vs with
    | none => rw [q2] at e; cases e
    | some ps => rw [q2] at e; cases e; exact .inr (.inl ⟨ks, ps, xs, rfl, q, mapHs_ok hs hh r q2⟩)
  · exact .inr (.inr c)
theorem rep_hdl {b : Bool} {n : Nat} {v : V} : Rep K mg αs T H (hdl b n) v ↔ ∃ a, v = .ref a ∧ αs[n]? = some a ∧ (if b then IsDic H a else IsLst H a) := by
  cases b
  · exact rep_hnd
  · exact rep_dhn
theorem lowH_ok {b : Bool} {n : Nat} {e : D} {v : V} (h : lowH αs.length b n = some e) (r : Rep K mg (αs ++ more) T H (hdl b n) v) : Rep K mg αs T H e v := by
  unfold lowH at h
  split at h
  · rename_i hl
    cases h
    obtain ⟨a, rfl, h1, h2⟩ := rep_hdl.mp r
    have hl' : n < αs.length := by simpa [Nat.blt_eq] using hl
    rw [List.getElem?_append_left hl'] at h1
    exact rep_hdl.mpr ⟨a, rfl, h1, h2⟩
  · cases h
theorem frzH_ok (R : Rel K mg (αs ++ more) T H st) : ∀ (f : Nat) (b : Bool) (n : Nat) (e : D) (v : V), frzH αs.length st f b n = some e → Rep K mg (αs ++ more) T H (hdl b n) v → Rep K mg αs T H e v
  | 0, b, n, e, v, h, r => lowH_ok h r
  | f + 1, b, n, e, v, h, r => by
    unfold frzH at h
    split at h
    · rename_i hl
      exact lowH_ok (by unfold lowH; rw [if_pos hl]; exact h) r
    · rename_i hl
      have hl' : αs.length ≤ n := by
        rw [Nat.blt_eq] at hl
        omega
      cases q : st[n]? with
      | none => rw [q] at h; cases h
      | some ds =>
        rw [q] at h
        dsimp only at h
        cases q2 : mapHs (frzH αs.length st f) ds with
        | none => rw [q2] at h; cases h
        | some es =>
          rw [q2] at h
          obtain ⟨a, rfl, h1, hk⟩ := rep_hdl.mp r
          have na : a ∉ αs := fun z => by
            have h2 := h1
            rw [List.getElem?_append_right hl'] at h2
            exact (List.nodup_append.mp R.nd).2.2 a z a (List.mem_of_getElem? h2) rfl
          have nT : a ∉ T := fun z => (R.tmp a z).1 (List.mem_of_getElem? h1)
          have c := cell_map (αs2 := αs) memL (frzH_ok R f) (R.cell n a ds h1 q) q2
          cases b with
          | false =>
            simp only [frzOf] at h
            cases h
            obtain ⟨xs, h2, h3⟩ := c.lst hk
            exact rep_lst.mpr ⟨a, xs, rfl, ⟨h2, na, nT⟩, h3⟩
          | true =>
            obtain ⟨ks, vs, xs, rfl, h2, h3⟩ := c.dic hk
            simp only [frzOf] at h
            cases h
            exact rep_dic.mpr ⟨a, xs, rfl, h2, na, nT, h3⟩
theorem lowAll_len {n0 : Nat} : ∀ {s s' : Sto}, lowAll n0 s = some s' → s'.length = s.length
  | [], _, e => by simp only [lowAll] at e; cases e; rfl
  | c :: s, _, e => by
    simp only [lowAll] at e
    cases q : mapHs (lowH n0) c with
    | none => rw [q] at e; cases e
    | some p =>
      rw [q] at e
      dsimp only at e
      cases q2 : lowAll n0 s with
      | none => rw [q2] at e; cases e
      | some ps => rw [q2] at e; cases e; rw [List.length_cons, List.length_cons, lowAll_len q2]
theorem lowAll_get {n0 : Nat} : ∀ {s s' : Sto} {i : Nat} {ds : List D}, lowAll n0 s = some s' → s'[i]? = some ds → ∃ c, s[i]? = some c ∧ mapHs (lowH n0) c = some ds
  | [], _, i, _, e, h => by simp only [lowAll] at e; cases e; simp at h
  | c :: s, _, i, ds, e, h => by
    simp only [lowAll] at e
    cases q : mapHs (lowH n0) c with
    | none => rw [q] at e; cases e
    | some p =>
      rw [q] at e
      dsimp only at e
      cases q2 : lowAll n0 s with
      | none => rw [q2] at e; cases e
      | some ps =>
        rw [q2] at e
        cases e
        cases i with
        | zero => simp at h; subst h; exact ⟨c, rfl, q⟩
        | succ i => exact lowAll_get (i := i) q2 (by simpa using h)
theorem lowAll_rel (R : Rel K mg (αs ++ more) T H st) {st' : Sto} (h : lowAll αs.length (st.take αs.length) = some st') : Rel K mg αs T H st' := by
  have hl : αs.length ≤ st.length := by rw [← R.len, List.length_append]; omega
  refine ⟨(List.nodup_append.mp R.nd).1, ?_, fun n a ds h1 h2 => ?_, fun t ht => ⟨fun z => (R.tmp t ht).1 (List.mem_append_left _ z), (R.tmp t ht).2⟩⟩
  · rw [lowAll_len h, List.length_take]; omega
  · obtain ⟨c, q, m⟩ := lowAll_get h h2
    have hn := (List.getElem?_eq_some_iff.mp h1).1
    rw [List.getElem?_take, if_pos hn] at q
    exact cell_map memL (fun b n e v => lowH_ok) (R.cell n a c (by rw [List.getElem?_append_left hn]; exact h1) q) m
end
/-- behind a call -/
def PostF (K : PySem.W.Frag) (mg : Str → Option Value) (αs T : List Addr) (H : Hp) (Q : VK) (E : XK) (r : R D) : Prop := match r with
  | .ok d st' => ∀ v αs' H', Rel K mg αs' T H' st' → Rep K mg αs' T H' d v → Fr αs H αs' H' → Q v H'
  | .exc c p st' => ∀ cls od H', XRep mg c p cls od H' → Rel K mg αs T H' st' → Fr αs H αs H' → E cls od H'
  | .bad => False
/-- what a def promises: f tells all -/
def spF (K : PySem.W.Frag) (mg : Str → Option Value) (np : Nat) (f : List D → Sto → R D) : Sp := fun vs H Q E => ∃ αs T st ds, ds.length = np ∧ Rel K mg αs T H st ∧ Reps K mg αs T H ds vs ∧ PostF K mg αs T H Q E (f ds st)
abbrev Wf (E : XK) : WX := fun cls d _ H => E cls d H
theorem Fr.drop {αs more : List Addr} {H H' : Hp} (f : Fr αs H (αs ++ more) H') : Fr αs H αs H' := ⟨⟨[], by simp, by simp⟩, f.keep, f.kdL, f.kdD, f.fz⟩
theorem EnvR.start {K : PySem.W.Frag} {mg : Str → Option Value} {αs T : List Addr} {H : Hp} {ds : List D} {vs : List V} (h : Reps K mg αs T H ds vs) (N : List Str) : EnvR K mg αs T H (L2.start N vs) (ds.map some ++ List.replicate (N.length - ds.length) none) := by
  unfold L2.start
  refine ⟨by simp [h.len], fun i d e => ?_⟩
  by_cases hi : i < ds.length
  · rw [List.getElem?_append_left (by simpa using hi), List.getElem?_map] at e
    rw [List.getElem?_append_left (by rw [List.length_map, h.len]; exact hi), List.getElem?_map]
    cases q : ds[i]? with
    | none => rw [q] at e; cases e
    | some c =>
      rw [q] at e
      simp at e
      subst e
      obtain ⟨v, e1, r1⟩ := h.get q
      exact ⟨v, by rw [e1]; rfl, r1⟩
  · rw [List.getElem?_append_right (by simpa using Nat.le_of_not_lt hi), List.getElem?_replicate] at e
    split at e
    · cases e
    · cases e
section
variable {P : Program} {w : World} {K : PySem.W.Frag} {mg : Str → Option Value} {base : Heap}
theorem leave_ok {αs T : List Addr} {H H' : Hp} {st st' : Sto} {αs' : List Addr} {Q : VK} {E : XK} {d : D} {v : V} (R : Rel K mg αs T H st) (R' : Rel K mg αs' T H' st') (F' : Fr αs H αs' H') (q : PostF K mg αs T H Q E (leave st.length d st')) (rv : Rep K mg αs' T H' d v) : Q v H' := by
  obtain ⟨⟨more, e1, h1⟩, kp, kpL, kpD, kpZ⟩ := id F'
  subst e1
  have la : αs.length = st.length := R.len
  unfold leave at q
  split at q
  · rename_i hle
    have hm : more = [] := by
      have := R'.len
      rw [List.length_append] at this
      have h2 := Nat.le_of_ble_eq_true hle
      exact List.eq_nil_of_length_eq_zero (by omega)
    subst hm
    rw [List.append_nil] at R' F' rv
    exact q v αs H' R' rv F'
  · split at q
    · exact q.elim
    · rename_i st2 e2
      rw [← la] at e2 q
      split at q
      · rename_i e3 e4
        exact q v αs H' (lowAll_rel R' e2) (mapH_ok memL (fun b n e v => frzH_ok R' 4 b n e v) rv e4) F'.drop
      · exact q.elim
theorem leaveK_ok {αs T : List Addr} {H H' : Hp} {st st' : Sto} {αs' : List Addr} {Q : VK} {E : XK} {d : D} {v : V} (R : Rel K mg αs T H st) (R' : Rel K mg αs' T H' st') (F' : Fr αs H αs' H') (q : PostF K mg αs T H Q E (leaveK st.length d st')) (rv : Rep K mg αs' T H' d v) : Q v H' := by
  unfold leaveK at q
  split at q
  · rename_i n
    split at q
    · exact leave_ok R R' F' q rv
    · rename_i hl
      obtain ⟨⟨more, e1, h1⟩, kp, kpL, kpD, kpZ⟩ := id F'
      subst e1
      have la : αs.length = st.length := R.len
      split at q
      · exact q.elim
      · rename_i st2 e2
        split at q
        · exact q.elim
        · rename_i ds e3
          split at q
          · rename_i es e4
            obtain ⟨a, rfl, ha, hla⟩ := rep_hnd.mp rv
            obtain ⟨xs, h2, h3⟩ := R'.lc ⟨ha, hla⟩ e3
            have hl' : αs.length ≤ n := by
              rw [Nat.blt_eq] at hl
              omega
            have hmem : a ∈ more := by
              rw [List.getElem?_append_right hl'] at ha
              exact List.mem_of_getElem? ha
            rw [← la] at e2 e4 q
            have R2 := lowAll_rel R' e2
            have sub : ∀ b ∈ αs ++ [a], b ∈ αs ++ more := fun b hb => by
              rcases List.mem_append.mp hb with z | z
              · exact List.mem_append_left _ z
              · exact List.mem_append_right _ (by rw [show b = a by simpa using z]; exact hmem)
            have low : ∀ b n e v, lowH αs.length b n = some e → Rep K mg (αs ++ more) T H' (hdl b n) v → Rep K mg (αs ++ [a]) T H' e v := fun b n e v e1 r => by
              have r1 := lowH_ok e1 r
              unfold lowH at e1
              split at e1
              · cases e1
                obtain ⟨c, rfl, hb, hk⟩ := rep_hdl.mp r1
                exact rep_hdl.mpr ⟨c, rfl, by rw [List.getElem?_append_left (List.getElem?_eq_some_iff.mp hb).1]; exact hb, hk⟩
              · cases e1
            refine q _ (αs ++ [a]) H' ⟨?_, ?_, fun m b cs g1 g2 => ?_, fun t ht => ⟨fun z => (R'.tmp t ht).1 (sub t z), (R'.tmp t ht).2⟩⟩ (rep_hnd.mpr ⟨a, rfl, by rw [List.getElem?_append_right (Nat.le_refl _), Nat.sub_self]; rfl, hla⟩) ⟨⟨[a], rfl, fun p hp => ?_⟩, kp, kpL, kpD, kpZ⟩
            · have nd := List.nodup_append.mp R'.nd
              rw [List.nodup_append]
              exact ⟨nd.1, by simp, fun x hx y hy e => nd.2.2 x hx a hmem (by rw [e]; simpa using hy)⟩
            · simp [← R2.len]
            · by_cases hm : m < αs.length
              · rw [List.getElem?_append_left hm] at g1
                rw [List.getElem?_append_left (by rw [← R2.len]; exact hm)] at g2
                obtain ⟨c, q1, m1⟩ := lowAll_get e2 g2
                rw [List.getElem?_take, if_pos hm] at q1
                exact cell_map sub low (R'.cell m b c (by rw [List.getElem?_append_left hm]; exact g1) q1) m1
              · have hm2 : αs.length ≤ m := Nat.le_of_not_lt hm
                rw [List.getElem?_append_right hm2] at g1
                rw [List.getElem?_append_right (by rw [← R2.len]; exact hm2), ← R2.len] at g2
                cases em : m - αs.length with
                | zero =>
                  rw [em] at g1 g2
                  simp at g1 g2
                  subst g1 g2
                  exact .inl ⟨xs, h2, mapHs_ok sub low h3 e4⟩
                | succ k => rw [em] at g1; simp at g1
            · rw [show p = a by simpa using hp]
              exact h1 a hmem
          · exact q.elim
  · exact leave_ok R R' F' q rv
theorem leaveX_ok {αs T : List Addr} {H H' : Hp} {st st' : Sto} {αs' : List Addr} {Q : VK} {E : XK} {c : Str} {p : D} {cls : Value} {od : Option Addr} (R : Rel K mg αs T H st) (R' : Rel K mg αs' T H' st') (F' : Fr αs H αs' H') (x : XRep mg c p cls od H') (h : PostF K mg αs T H Q E (leaveX st.length c p st')) : E cls od H' := by
  obtain ⟨⟨more, e1, h1⟩, kp, kpL, kpD, kpZ⟩ := id F'
  subst e1
  have la : αs.length = st.length := R.len
  unfold leaveX at h
  split at h
  · rename_i hle
    have hm : more = [] := by
      have := R'.len
      rw [List.length_append] at this
      have h2 := Nat.le_of_ble_eq_true hle
      exact List.eq_nil_of_length_eq_zero (by omega)
    subst hm
    rw [List.append_nil] at R' F'
    exact h cls od H' x R' F'
  · split at h
    · exact h.elim
    · rename_i st2 e2
      rw [← la] at e2
      exact h cls od H' x (lowAll_rel R' e2) F'.drop
theorem okD {x qual : Str} {s : Stmt} {f : Addr} {fd : FuncData} {N ps : List Str} {k : Nat} {body : Rho → Sto → R Fl} (F : Fun K x qual s f fd) (S : FnScope N ps (defScope s))
    (hb : ∀ (cdv : Value) (A : Around) (outer : List Env) (s0 : Shared) (H : Hp) (E : XK), Room k (A.deeper (envOfC qual (defScope s) s0.heap.objs.size f cdv)) →
      ∃ t, DSs (cxOf (L2.CX P w) P w K mg base N qual (defScope s) f cdv A outer s0 H E) (Wf E) (defBody s) t body) : FnOk P w K mg base (L2.CX P w) (k + 1) f fd ps (spF K mg ps.length (runDef ps.length N.length body)) := by
  refine F.okX S (fun vs H Q E h => ?_) (fun cdv A outer s0 H vs Q E hr h => ?_)
  · obtain ⟨αs, T, st, ds, hl, R, r, _⟩ := h
    rw [r.len, hl]
  · obtain ⟨t, b⟩ := hb cdv A outer s0 H E hr
    refine ⟨t, b.p, ?_⟩
    obtain ⟨αs, T, st, ds, hl, R, r, h⟩ := h
    unfold runDef at h
    rw [if_pos (by rw [hl]; exact Nat.beq_refl _)] at h
    refine b.r αs T (L2.start N vs) _ H st _ R (EnvR.start r N) fun σ => ?_
    cases eb : body (ds.map some ++ List.replicate (N.length - ds.length) none) st with
    | bad => rw [eb] at h; exact h
    | exc c p st' => rw [eb] at h; exact fun cls od αs' H' x R' F' => leaveX_ok R R' F' x h
    | ok fl st' =>
      rw [eb] at h
      intro αs' H' R' F'
      cases fl with
      | rt d => exact fun v rv => leave_ok R R' F' h rv
      | nx ρ => exact fun σ' _ => leave_ok R R' F' h (rep_non.mpr rfl)
      | bk ρ => exact h.elim
      | ct ρ => exact h.elim
theorem okDK {x qual : Str} {s : Stmt} {f : Addr} {fd : FuncData} {N ps : List Str} {k : Nat} {body : Rho → Sto → R Fl} (F : Fun K x qual s f fd) (S : FnScope N ps (defScope s))
    (hb : ∀ (cdv : Value) (A : Around) (outer : List Env) (s0 : Shared) (H : Hp) (E : XK), Room k (A.deeper (envOfC qual (defScope s) s0.heap.objs.size f cdv)) →
      ∃ t, DSs (cxOf (L2.CX P w) P w K mg base N qual (defScope s) f cdv A outer s0 H E) (Wf E) (defBody s) t body) : FnOk P w K mg base (L2.CX P w) (k + 1) f fd ps (spF K mg ps.length (runDefK ps.length N.length body)) := by
  refine F.okX S (fun vs H Q E h => ?_) (fun cdv A outer s0 H vs Q E hr h => ?_)
  · obtain ⟨αs, T, st, ds, hl, R, r, _⟩ := h
    rw [r.len, hl]
  · obtain ⟨t, b⟩ := hb cdv A outer s0 H E hr
    refine ⟨t, b.p, ?_⟩
    obtain ⟨αs, T, st, ds, hl, R, r, h⟩ := h
    unfold runDefK at h
    rw [if_pos (by rw [hl]; exact Nat.beq_refl _)] at h
    refine b.r αs T (L2.start N vs) _ H st _ R (EnvR.start r N) fun σ => ?_
    cases eb : body (ds.map some ++ List.replicate (N.length - ds.length) none) st with
    | bad => rw [eb] at h; exact h
    | exc c p st' => rw [eb] at h; exact fun cls od αs' H' x R' F' => leaveX_ok R R' F' x h
    | ok fl st' =>
      rw [eb] at h
      intro αs' H' R' F'
      cases fl with
      | rt d => exact fun v rv => leaveK_ok R R' F' h rv
      | nx ρ => exact fun σ' _ => leave_ok R R' F' h (rep_non.mpr rfl)
      | bk ρ => exact h.elim
      | ct ρ => exact h.elim
end
/-! ### calls of defs -/
def fCall (np : Nat) (g : List D → Sto → R D) (fa : Rho → Sto → R (List D)) : Rho → Sto → R D := fun ρ st => (fa ρ st).bind fun ds st => if Nat.beq ds.length np then g ds st else .bad
theorem re_call {K : PySem.W.Frag} {mg : Str → Option Value} {W : WX} {np : Nat} {g : List D → Sto → R D} {t : TA} {fa : Rho → Sto → R (List D)} (h : RA K mg W t fa) : RE K mg W (tCallS (spF K mg np g) (WE W) t) (fCall np g fa) := by
  intro αs T σ ρ H st Q R E q
  refine h αs T σ ρ H st _ R E (PostG.bind q fun ds st1 αs1 H1 R1 F1 h1 vs rx => ?_)
  split at h1
  · rename_i hn
    refine ⟨αs1, T, st1, ds, Nat.eq_of_beq_eq_true hn, R1, rx, ?_⟩
    cases e : g ds st1 with
    | ok d st2 => rw [e] at h1; exact fun v αs' H' R' r' F' => h1 αs' H' R' F' v r'
    | exc c p st2 => rw [e] at h1; exact fun cls od H' x R' F' => h1 cls od αs1 H' x R' F'
    | bad => rw [e] at h1; exact h1
  · exact h1.elim
section
variable {X : Cx} {W : WX} {k : Nat} {f : Addr} {fd : FuncData} {ps : List Str} {x : Str} {p pos : Pos} {e : Expr} {es : List Expr} {g : List D → Sto → R D} {np : Nat} {t : TA} {fa : Rho → Sto → R (List D)}
theorem de_call (F : FnOk X.prog X.w X.K X.mg X.base (L2.CX X.prog X.w) k f fd ps (spF X.K X.mg np g)) (hr : Room k X.A) (hg : Gl X x) (hm : X.mg x = some (.ref f)) (hk : PySem.W.keepIn X.K (.ref f) = true) (hb : Binds X.K fd ps []) (tk : Takes X W) (ha : DA X W (e :: es) t fa)
    (hdb : (x == ("__debug__" : Str)) = false := by decide) (he : starEach (e :: es) X.env = (false, eval e X.env) :: starEach es X.env := by rfl) (hpl : (backTo pos (starEach es X.env)).any (·.1) = false := by rfl) :
    DE X W (.Call (.Name x p) (e :: es) [] pos) (tCallS (spF X.K X.mg np g) (WE W) t) (fCall np g fa) :=
  ⟨pe_callS F hr hg hm hk hb (fun σ => passAt tk σ) ha.p hdb he hpl, re_call ha.r⟩
end
end DL
namespace DL
open PySem PySem.Spec PyProof.Rows L2
/-! ### new lists, cells -/
section
variable {K : PySem.W.Frag} {mg : Str → Option Value} {αs T : List Addr} {H : Hp} {st : Sto} {W : WX}
theorem TupAt.push {a p : Addr} {xs : List V} (h : TupAt K αs H a xs) (hp : IsLst H p ∨ IsDic H p) : TupAt K (αs ++ [p]) H a xs := by
  rcases h with ⟨h1, h2⟩ | h
  · refine .inl ⟨h1, fun z => ?_⟩
    rcases List.mem_append.mp z with z | z
    · exact h2 z
    · have e : a = p := by simpa using z
      rw [e] at h1
      rcases hp with ⟨_, hp⟩ | ⟨_, hp⟩ <;> (rw [hp] at h1; cases h1)
  · exact .inr h
mutual
theorem Rep.push {p : Addr} (hp : IsLst H p ∨ IsDic H p) : ∀ {d : D} {v : V}, Rep K mg αs (p :: T) H d v → Rep K mg (αs ++ [p]) T H d v
  | .non, _, h => by simpa only [Rep] using h
  | .bl _, _, h => by simpa only [Rep] using h
  | .int _, _, h => by simpa only [Rep] using h
  | .str _, _, h => by simpa only [Rep] using h
  | .fn _, _, h => by simpa only [Rep] using h
  | .frz ds, v, h => by
    obtain ⟨a, xs, e, ha, hs⟩ := rep_frz.mp h
    refine rep_frz.mpr ⟨a, xs, e, ?_, Reps.push hp hs⟩
    rcases ha with ⟨o, h1, h2⟩ | ha
    · refine .inl ⟨o, h1, fun z => ?_⟩
      rcases List.mem_append.mp z with z | z
      · exact h2 z
      · have e : a = p := by simpa using z
        rw [e] at h1
        rcases hp with ⟨_, hp⟩ | ⟨_, hp⟩ <;> (rw [hp] at h1; cases h1)
    · exact .inr ha
  | .tup ds, v, h => by
    obtain ⟨a, xs, e, ha, hs⟩ := rep_tup.mp h
    exact rep_tup.mpr ⟨a, xs, e, ha.push hp, Reps.push hp hs⟩
  | .lst ds, v, h => by
    obtain ⟨a, xs, e, ⟨h1, h2, h3⟩, hs⟩ := rep_lst.mp h
    refine rep_lst.mpr ⟨a, xs, e, ⟨h1, fun z => ?_, fun z => h3 (List.mem_cons_of_mem _ z)⟩, Reps.push hp hs⟩
    rcases List.mem_append.mp z with z | z
    · exact h2 z
    · have e : a = p := by simpa using z
      exact h3 (by rw [e]; exact List.mem_cons_self)
  | .hnd n, v, h => by
    obtain ⟨a, e, h, l⟩ := rep_hnd.mp h
    exact rep_hnd.mpr ⟨a, e, by rw [List.getElem?_append_left (List.getElem?_eq_some_iff.mp h).1]; exact h, l⟩
  | .dhn n, v, h => by
    obtain ⟨a, e, h, l⟩ := rep_dhn.mp h
    exact rep_dhn.mpr ⟨a, e, by rw [List.getElem?_append_left (List.getElem?_eq_some_iff.mp h).1]; exact h, l⟩
  | .dk _, v, h => by simp only [Rep] at h
  | .dic ks vs, v, h => by
    obtain ⟨a, xs, e, h1, h2, h3, hs⟩ := rep_dic.mp h
    refine rep_dic.mpr ⟨a, xs, e, h1, fun z => ?_, fun z => h3 (List.mem_cons_of_mem _ z), Reps.push hp hs⟩
    rcases List.mem_append.mp z with z | z
    · exact h2 z
    · have e : a = p := by simpa using z
      exact h3 (by rw [e]; exact List.mem_cons_self)
theorem Reps.push {p : Addr} (hp : IsLst H p ∨ IsDic H p) : ∀ {ds : List D} {vs : List V}, Reps K mg αs (p :: T) H ds vs → Reps K mg (αs ++ [p]) T H ds vs
  | [], _, h => by rw [h.isNil]; exact .nil
  | d :: ds, vs, h => by
    simp only [Reps] at h
    obtain ⟨v, r, e, h1, h2⟩ := h
    subst e
    exact .cons (Rep.push hp h1) (Reps.push hp h2)
end
theorem Reps.mono {ds : List D} {vs : List V} {T' : List Addr} (h : Reps K mg αs T H ds vs) (hT : ∀ t ∈ T', t ∈ T) : Reps K mg αs T' H ds vs := h.mv .refl fun t z => .inl (hT t z)
theorem CellAt.push {a p : Addr} {ds : List D} (h : CellAt K mg αs (p :: T) H a ds) (hp : IsLst H p ∨ IsDic H p) : CellAt K mg (αs ++ [p]) T H a ds := h.imp (fun _ e => e) fun ds vs r => r.push hp
theorem Rel.pushC {p : Addr} {ds : List D} (R : Rel K mg αs (p :: T) H st) (hp : IsLst H p ∨ IsDic H p) (hn : p ∉ αs) (hT : p ∉ T) (c : CellAt K mg αs (p :: T) H p ds) : Rel K mg (αs ++ [p]) T H (st ++ [ds]) := by
  refine ⟨?_, by simp [R.len], fun n a es h1 h2 => ?_, fun t ht => ⟨fun z => ?_, (R.tmp t (List.mem_cons_of_mem _ ht)).2⟩⟩
  · rw [List.nodup_append]
    refine ⟨R.nd, by simp, fun a ha b hb e => ?_⟩
    have h3 : b = p := by simpa using hb
    exact hn (by rw [← h3, ← e]; exact ha)
  · by_cases hl : n < αs.length
    · rw [List.getElem?_append_left hl] at h1
      rw [List.getElem?_append_left (by rw [← R.len]; exact hl)] at h2
      exact (R.cell n a es h1 h2).push hp
    · have hl2 : αs.length ≤ n := Nat.le_of_not_lt hl
      rw [List.getElem?_append_right hl2] at h1
      rw [List.getElem?_append_right (by rw [← R.len]; exact hl2), ← R.len] at h2
      cases e : n - αs.length with
      | zero =>
        rw [e] at h1 h2
        simp at h1 h2
        subst h1 h2
        exact c.push hp
      | succ m => rw [e] at h1; simp at h1
  · rcases List.mem_append.mp z with z | z
    · exact (R.tmp t (List.mem_cons_of_mem _ ht)).1 z
    · have e : t = p := by simpa using z
      exact hT (by rw [← e]; exact ht)
theorem Rel.push {p : Addr} {ds : List D} {xs : List V} (R : Rel K mg αs (p :: T) H st) (hp : H p = some (.lst xs)) (hn : p ∉ αs) (hT : p ∉ T) (r : Reps K mg αs (p :: T) H ds xs) : Rel K mg (αs ++ [p]) T H (st ++ [ds]) := R.pushC (.inl ⟨xs, hp⟩) hn hT (.inl ⟨xs, hp, r⟩)
theorem Rel.weakT {T' : List Addr} (R : Rel K mg αs T H st) (hT : ∀ t ∈ T', t ∈ T) : Rel K mg αs T' H st :=
  ⟨R.nd, R.len, fun n a ds h1 h2 => (R.cell n a ds h1 h2).imp (fun _ e => e) fun ds vs r => r.mono hT, fun t ht => R.tmp t (hT t ht)⟩
/-- a cell is written -/
theorem Rel.wrG {n : Nat} {a : Addr} {ds : List D} {o : HO} (R : Rel K mg αs T H st) (ha : αs[n]? = some a) (f : Fr αs H αs (upd H a o)) (c : CellAt K mg αs T (upd H a o) a ds) : Rel K mg αs T (upd H a o) (st.set n ds) := by
  refine ⟨R.nd, by simp [R.len], fun m b es h1 h2 => ?_, fun t ht => ⟨(R.tmp t ht).1, ?_⟩⟩
  · by_cases e : n = m
    · subst e
      rw [ha] at h1; cases h1
      have hl : n < st.length := by rw [← R.len]; exact (List.getElem?_eq_some_iff.mp ha).1
      rw [List.getElem?_set_self hl] at h2
      cases h2
      exact c
    · rw [List.getElem?_set_ne e] at h2
      refine (R.cell m b es h1 h2).imp (fun o q => ?_) fun ds vs r => r.fr f
      rw [upd_ne (fun z => ?_)]
      · exact q
      · subst z
        exact e ((List.getElem?_inj (List.getElem?_eq_some_iff.mp ha).1 R.nd).mp (ha.trans h1.symm))
  · by_cases e : t = a
    · rw [e, upd_same]; simp
    · rw [upd_ne e]; exact (R.tmp t ht).2
theorem Rel.wr {n : Nat} {a : Addr} {ds : List D} {xs : List V} (R : Rel K mg αs T H st) (ha : αs[n]? = some a ∧ IsLst H a) (r : Reps K mg αs T H ds xs) : Rel K mg αs T (upd H a (.lst xs)) (st.set n ds) ∧ Fr αs H αs (upd H a (.lst xs)) := by
  have f : Fr αs H αs (upd H a (.lst xs)) := Fr.cell (List.mem_of_getElem? ha.1) ha.2
  exact ⟨R.wrG ha.1 f (.inl ⟨xs, upd_same, r.fr f⟩), f⟩
/-- a list that is new: G tells of it before anybody may hold it -/
def RF (K : PySem.W.Frag) (mg : Str → Option Value) (W : WX) (t : TE) (f : Rho → Sto → R (List D)) : Prop := ∀ αs T σ ρ H st Q, Rel K mg αs T H st → EnvR K mg αs T H σ ρ →
  PostG K mg W αs T σ H (f ρ st) (fun ds st' αs' H' => ∀ p xs, H p = none → p ∉ αs' → H' p = some (.lst xs) → Rel K mg αs' (p :: T) H' st' → Reps K mg αs' (p :: T) H' ds xs → Q (.ref p) H') → t σ H Q
def fFresh (f : Rho → Sto → R (List D)) : Rho → Sto → R D := fun ρ st => (f ρ st).bind fun ds st => .ok (.lst ds) st
def fThaw (f : Rho → Sto → R (List D)) : Rho → Sto → R D := fun ρ st => (f ρ st).bind fun ds st => .ok (.hnd st.length) (st ++ [ds])
theorem re_fresh {t : TE} {f : Rho → Sto → R (List D)} (h : RF K mg W t f) : RE K mg W t (fFresh f) := by
  intro αs T σ ρ H st Q R E q
  refine h αs T σ ρ H st _ R E (PostG.bind q fun ds st1 αs1 H1 R1 F1 h1 p xs hp hn hx R2 r2 => ?_)
  refine h1 αs1 H1 R1 .refl _ (rep_lst.mpr ⟨p, xs, rfl, ⟨hx, hn, R.freshT hp⟩, r2.mono fun t z => List.mem_cons_of_mem _ z⟩)
theorem re_thaw {t : TE} {f : Rho → Sto → R (List D)} (h : RF K mg W t f) : RE K mg W t (fThaw f) := by
  intro αs T σ ρ H st Q R E q
  refine h αs T σ ρ H st _ R E ?_
  unfold fThaw at q
  cases e : f ρ st with
  | bad => rw [e] at q; exact q
  | exc c p st1 => rw [e] at q; exact q
  | ok ds st1 =>
    rw [e] at q
    intro αs1 H1 R1 F1 p xs hp hn hx R2 r2
    have R3 := R2.push hx hn (R.freshT hp) r2
    obtain ⟨⟨more, e1, k1⟩, kp, kpL, kpD, kpZ⟩ := id F1
    have F3 : Fr αs H (αs1 ++ [p]) H1 := ⟨⟨more ++ [p], by rw [e1, List.append_assoc], fun b hb => by
      rcases List.mem_append.mp hb with hb | hb
      · exact k1 b hb
      · have e : b = p := by simpa using hb
        rw [e]
        exact ⟨fun z => hn (by rw [e1]; exact List.mem_append_left _ z), hp⟩⟩, kp, kpL, kpD, kpZ⟩
    exact q (αs1 ++ [p]) H1 R3 F3 _ (rep_hnd.mpr ⟨p, rfl, by rw [← R1.len, List.getElem?_append_right (Nat.le_refl _), Nat.sub_self]; rfl, ⟨xs, hx⟩⟩)
/-- from a rule that lays a list whose items are known ahead -/
theorem freshen {αs αs1 T : List Addr} {H H1 : Hp} {st1 : Sto} {ds : List D} {xs : List V} {p : Addr} (F : Fr αs H αs1 H1) (R0 : Rel K mg αs T H st) (R1 : Rel K mg αs1 T H1 st1) (r : Reps K mg αs1 T H1 ds xs) (hp : H1 p = none) :
    H p = none ∧ p ∉ αs1 ∧ (upd H1 p (.lst xs)) p = some (.lst xs) ∧ Rel K mg αs1 (p :: T) (upd H1 p (.lst xs)) st1 ∧ Reps K mg αs1 (p :: T) (upd H1 p (.lst xs)) ds xs ∧ Rel K mg αs1 T (upd H1 p (.lst xs)) st1 ∧ Fr αs1 H1 αs1 (upd H1 p (.lst xs)) := by
  have hn := R1.fresh hp
  have f : Fr αs1 H1 αs1 (upd H1 p (.lst xs)) := Fr.new hp
  have hT : ∀ t ∈ (p :: T), t ∈ T ∨ H1 t = none := fun t ht => by
    rcases List.mem_cons.mp ht with e | e
    · exact .inr (by rw [e]; exact hp)
    · exact .inl e
  have R2 : Rel K mg αs1 T (upd H1 p (.lst xs)) st1 := R1.new hp
  refine ⟨?_, hn, upd_same, ⟨R1.nd, R1.len, fun n a es h1 h2 => ?_, fun t ht => ?_⟩, r.mv f hT, R2, f⟩
  · cases q : H p with
    | none => rfl
    | some o =>
      have hna : p ∉ αs := fun z => by
        obtain ⟨⟨more, e1, _⟩, _⟩ := F
        exact hn (by rw [e1]; exact List.mem_append_left _ z)
      rw [F.keep p o hna q] at hp; cases hp
  · have ha : a ∈ αs1 := List.mem_of_getElem? h1
    exact (R1.cell n a es h1 h2).imp (fun o q => by rw [upd_ne (fun z => hn (by rw [← z]; exact ha))]; exact q) fun ds vs r => r.mv f hT
  · rcases List.mem_cons.mp ht with e | e
    · rw [e]; exact ⟨hn, by rw [upd_same]; simp⟩
    · exact R2.tmp t e
def fLine (f : Rho → Sto → R (List D)) : Rho → Sto → R (List D) := fun ρ st => (f ρ st).bind fun ds st => if lineOk ds.length then .ok ds st else .bad
theorem rf_lst {t : TA} {f : Rho → Sto → R (List D)} (h : RA K mg W t f) : RF K mg W (tLst t) (fLine f) := by
  intro αs T σ ρ H st Q R E q
  refine h αs T σ ρ H st _ R E ?_
  unfold fLine at q
  cases e : f ρ st with
  | bad => rw [e] at q; exact q
  | exc c p st1 => rw [e] at q; exact q
  | ok ds st1 =>
    rw [e] at q
    intro αs1 H1 R1 F1 xs rx
    have q : PostG K mg W αs T σ H (if lineOk ds.length then DL.R.ok ds st1 else .bad) _ := q
    split at q
    · rename_i hl
      refine ⟨by rw [rx.len]; exact lineOk_iff hl, fun p hp => ?_⟩
      obtain ⟨a1, a2, a3, a4, a5, a6, a7⟩ := freshen F1 R R1 rx hp
      exact q αs1 _ a6 (F1.trans a7) p xs a1 a2 a3 a4 a5
    · exact q.elim
end
/-! ### statements -/
def fSeq (f g : Rho → Sto → R Fl) : Rho → Sto → R Fl := fun ρ st => (f ρ st).bind fun fl st => match fl with
  | .nx ρ => g ρ st
  | .rt d => .ok (.rt d) st
  | .bk ρ => .ok (.bk ρ) st
  | .ct ρ => .ok (.ct ρ) st
def fNext : Rho → Sto → R Fl := fun ρ st => .ok (.nx ρ) st
def fBrk : Rho → Sto → R Fl := fun ρ st => .ok (.bk ρ) st
def fCnt : Rho → Sto → R Fl := fun ρ st => .ok (.ct ρ) st
def fRet (f : Rho → Sto → R D) : Rho → Sto → R Fl := fun ρ st => (f ρ st).bind fun d st => .ok (.rt d) st
def fRetN : Rho → Sto → R Fl := fun _ st => .ok (.rt .non) st
def fDrop (f : Rho → Sto → R D) : Rho → Sto → R Fl := fun ρ st => (f ρ st).bind fun _ st => .ok (.nx ρ) st
def fSet (i : Nat) (f : Rho → Sto → R D) : Rho → Sto → R Fl := fun ρ st => (f ρ st).bind fun d st => .ok (.nx (ρ.set i (some d))) st
def fIfS (c : Rho → Sto → R Bool) (f g : Rho → Sto → R Fl) : Rho → Sto → R Fl := fun ρ st => (c ρ st).bind fun b st => match b with
  | true => f ρ st
  | false => g ρ st
def fPar (i j : Nat) (f : Rho → Sto → R (List D)) : Rho → Sto → R Fl := fun ρ st => (f ρ st).bind fun ds st => match ds with
  | [a, b] => .ok (.nx ((ρ.set i (some a)).set j (some b))) st
  | _ => .bad
def fNever : Rho → Sto → R Fl := fun _ _ => .bad
section
variable {K : PySem.W.Frag} {mg : Str → Option Value} {W : WX} {αs T : List Addr} {H : Hp} {st : Sto}
theorem PostS.bind {α : Type} {r : R α} {k : α → Sto → R Fl} {Dn : Ends} (h : PostS K mg W αs T H (r.bind k) Dn) (σ : L2.St) : PostG K mg W αs T σ H r (fun a st αs' H' => PostS K mg W αs' T H' (k a st) Dn) := by
  cases r with
  | ok a st => exact fun αs' H' R F σ3 => PostG.step (h σ3) F
  | exc c p st => exact h σ
  | bad => exact h σ
theorem rs_seq {t u : TS} {f g : Rho → Sto → R Fl} (h : RS K mg W t f) (h' : RS K mg W u g) : RS K mg W (tSeq t u) (fSeq f g) := by
  intro αs T σ ρ H st Dn R E q
  refine h αs T σ ρ H st _ R E fun σ' => PostG.imp (PostS.bind q σ') fun fl st1 αs1 H1 R1 F1 p => ?_
  cases fl with
  | nx ρ1 => exact fun σ1 E1 => h' αs1 T σ1 ρ1 H1 st1 Dn R1 E1 p
  | rt d => exact fun v rv => (p σ') αs1 H1 R1 .refl v rv
  | bk ρ1 => exact fun σ1 E1 => (p σ') αs1 H1 R1 .refl σ1 E1
  | ct ρ1 => exact fun σ1 E1 => (p σ') αs1 H1 R1 .refl σ1 E1
theorem rs_next : RS K mg W tNext fNext := fun αs T σ ρ H st Dn R E q => (q σ) αs H R .refl σ E
theorem rs_brk : RS K mg W tBreak fBrk := fun αs T σ ρ H st Dn R E q => (q σ) αs H R .refl σ E
theorem rs_cnt : RS K mg W tCont fCnt := fun αs T σ ρ H st Dn R E q => (q σ) αs H R .refl σ E
theorem rs_never : RS K mg W tNever fNever := fun αs T σ ρ H st Dn R E q => q σ
theorem rs_retN : RS K mg W tRetN fRetN := fun αs T σ ρ H st Dn R E q => (q σ) αs H R .refl .non (rep_non.mpr rfl)
theorem rs_ret {t : TE} {f : Rho → Sto → R D} (h : RE K mg W t f) : RS K mg W (tRet t) (fRet f) := by
  intro αs T σ ρ H st Dn R E q
  exact h αs T σ ρ H st _ R E (PostG.imp (PostS.bind q σ) fun d st1 αs1 H1 R1 F1 p v rv => (p σ) αs1 H1 R1 .refl v rv)
theorem rs_drop {t : TE} {f : Rho → Sto → R D} (h : RE K mg W t f) : RS K mg W (tDrop t) (fDrop f) := by
  intro αs T σ ρ H st Dn R E q
  exact h αs T σ ρ H st _ R E (PostG.imp (PostS.bind q σ) fun d st1 αs1 H1 R1 F1 p v rv => (p σ) αs1 H1 R1 .refl σ (E.fr F1))
theorem rs_set {i : Nat} {t : TE} {f : Rho → Sto → R D} (h : RE K mg W t f) : RS K mg W (tAsg t (gName i)) (fSet i f) := by
  intro αs T σ ρ H st Dn R E q
  exact h αs T σ ρ H st _ R E (PostG.imp (PostS.bind q σ) fun d st1 αs1 H1 R1 F1 p v rv => (p σ) αs1 H1 R1 .refl _ ((E.fr F1).set rv))
theorem rs_if {c : TT} {t u : TS} {fc : Rho → Sto → R Bool} {f g : Rho → Sto → R Fl} (hc : RT K mg W c fc) (h : RS K mg W t f) (h' : RS K mg W u g) : RS K mg W (tIfS c t u) (fIfS fc f g) := by
  intro αs T σ ρ H st Dn R E q
  refine hc αs T σ ρ H st _ R E (PostG.imp (PostS.bind q σ) fun b st1 αs1 H1 R1 F1 p => ?_)
  cases b with
  | true => exact iteT (h αs1 T σ ρ H1 st1 Dn R1 (E.fr F1) p)
  | false => exact iteF (h' αs1 T σ ρ H1 st1 Dn R1 (E.fr F1) p)
theorem rs_par {i j : Nat} {t : TA} {f : Rho → Sto → R (List D)} (h : RA K mg W t f) : RS K mg W (tPar i j t) (fPar i j f) := by
  intro αs T σ ρ H st Dn R E q
  refine h αs T σ ρ H st _ R E (PostG.imp (PostS.bind q σ) fun ds st1 αs1 H1 R1 F1 p vs rv => ?_)
  match ds, p, rv with
  | [a, b], p, rv =>
    simp only [Reps] at rv
    obtain ⟨v, r, e1, h1, w, r2, e2, h2, e3⟩ := rv
    subst e3 e2 e1
    exact ⟨v, w, rfl, (p σ) αs1 H1 R1 .refl _ (((E.fr F1).set h1).set h2)⟩
  | [], p, _ => exact (p σ).elim
  | [_], p, _ => exact (p σ).elim
  | _ :: _ :: _ :: _, p, _ => exact (p σ).elim
end
/-! ### targets -/
abbrev Set1 := D → Rho → Option Rho
/-- is: the slots that are stored -/
def RG (K : PySem.W.Frag) (mg : Str → Option Value) (g : TG) (s : Set1) (is : List Nat) : Prop := ∀ αs T σ ρ H st d v ρ' (Q : L2.St → Hp → Prop), Rel K mg αs T H st → EnvR K mg αs T H σ ρ → Rep K mg αs T H d v → s d ρ = some ρ' →
  (∀ σ', EnvR K mg αs T H σ' ρ' → (∀ vs, (∀ i ∈ is, i ∈ vs) → wipe σ' vs = wipe σ vs) → Q σ' H) → g v σ H Q
def RGs (K : PySem.W.Frag) (mg : Str → Option Value) (g : TGs) (s : List D → Rho → Option Rho) (is : List Nat) : Prop := ∀ αs T σ ρ H st d v ρ' (Q : L2.St → Hp → Prop), Rel K mg αs T H st → EnvR K mg αs T H σ ρ → Reps K mg αs T H d v → s d ρ = some ρ' →
  (∀ σ', EnvR K mg αs T H σ' ρ' → (∀ vs, (∀ i ∈ is, i ∈ vs) → wipe σ' vs = wipe σ vs) → Q σ' H) → g v σ H Q
def sName (i : Nat) : Set1 := fun d ρ => some (ρ.set i (some d))
def sNil : List D → Rho → Option Rho := fun ds ρ => match ds with
  | [] => some ρ
  | _ => none
def sCons (s : Set1) (r : List D → Rho → Option Rho) : List D → Rho → Option Rho := fun ds ρ => match ds with
  | d :: ds => match s d ρ with
    | some ρ => r ds ρ
    | none => none
  | [] => none
def sTup (n : Nat) (r : List D → Rho → Option Rho) : Set1 := fun d ρ => match d with
  | .tup ds => if Nat.beq ds.length n then r ds ρ else none
  | _ => none
theorem wipe_set {i : Nat} {v : Option V} : ∀ {vs : List Nat} {σ : L2.St}, i ∈ vs → wipe (σ.set i v) vs = wipe σ vs
  | [], _, h => by cases h
  | j :: vs, σ, h => by
    by_cases e : i ∈ vs
    · show (wipe (σ.set i v) vs).set j none = (wipe σ vs).set j none
      rw [wipe_set e]
    · have hj : i = j := by
        rcases List.mem_cons.mp h with z | z
        · exact z
        · exact absurd z e
      subst hj
      show (wipe (σ.set i v) vs).set i none = (wipe σ vs).set i none
      apply List.ext_getElem?
      intro k
      by_cases hk : i = k
      · subst hk
        simp [List.getElem?_set, wipe_length, List.length_set]
      · rw [List.getElem?_set_ne hk, List.getElem?_set_ne hk]
        have key : ∀ (vs : List Nat) (σ : L2.St), (wipe (σ.set i v) vs)[k]? = (wipe σ vs)[k]? := by
          intro vs
          induction vs with
          | nil => intro σ; exact List.getElem?_set_ne hk
          | cons a r ih =>
            intro σ
            show ((wipe (σ.set i v) r).set a none)[k]? = ((wipe σ r).set a none)[k]?
            simp only [List.getElem?_set, wipe_length, List.length_set, ih]
        exact key vs σ
theorem wipe_wipe (σ : L2.St) : ∀ vs : List Nat, wipe (wipe σ vs) vs = wipe σ vs := by
  intro vs
  have key : ∀ (ws : List Nat) (τ : L2.St), (∀ i ∈ ws, i ∈ vs) → wipe (wipe τ ws) vs = wipe τ vs := by
    intro ws
    induction ws with
    | nil => intro τ _; rfl
    | cons a r ih =>
      intro τ h
      show wipe ((wipe τ r).set a none) vs = wipe τ vs
      rw [wipe_set (h a List.mem_cons_self), ih τ fun i hi => h i (List.mem_cons_of_mem _ hi)]
  exact key vs σ fun _ h => h
section
variable {K : PySem.W.Frag} {mg : Str → Option Value}
theorem rg_name {i : Nat} : RG K mg (gName i) (sName i) [i] := by
  intro αs T σ ρ H st d v ρ' Q R E r e q
  cases e
  exact q _ (E.set r) fun vs h => wipe_set (h i (by simp))
theorem rgs_nil : RGs K mg gNil sNil [] := by
  intro αs T σ ρ H st d v ρ' Q R E r e q
  unfold sNil at e
  split at e
  · cases e
    exact ⟨r.isNil, q σ E fun _ _ => rfl⟩
  · cases e
theorem rgs_cons {g : TG} {u : TGs} {s : Set1} {s' : List D → Rho → Option Rho} {is js : List Nat} (h : RG K mg g s is) (h' : RGs K mg u s' js) : RGs K mg (gCons g u) (sCons s s') (is ++ js) := by
  intro αs T σ ρ H st d v ρ' Q R E r e q
  unfold sCons at e
  split at e
  · rename_i a as
    split at e
    · rename_i ρ1 e1
      simp only [Reps] at r
      obtain ⟨x, xs, ev, r1, r2⟩ := r
      refine ⟨x, xs, ev, h αs T σ ρ H st a x ρ1 _ R E r1 e1 fun σ1 E1 w1 => ?_⟩
      refine h' αs T σ1 ρ1 H st as xs ρ' _ R E1 r2 e fun σ2 E2 w2 => q σ2 E2 fun vs hv => ?_
      rw [w2 vs fun i hi => hv i (List.mem_append_right _ hi), w1 vs fun i hi => hv i (List.mem_append_left _ hi)]
    · cases e
  · cases e
theorem rg_tup {u : TGs} {s' : List D → Rho → Option Rho} {js : List Nat} {n : Nat} (h' : RGs K mg u s' js) : RG K mg (gTup K n u) (sTup n s') js := by
  intro αs T σ ρ H st d v ρ' Q R E r e q
  unfold sTup at e
  split at e
  · rename_i ds
    split at e
    · rename_i hn
      obtain ⟨a, xs, e1, h1, h2⟩ := rep_tup.mp r
      refine ⟨a, xs, e1, h1.sq, by rw [h2.len]; exact Nat.eq_of_beq_eq_true hn, h' αs T σ ρ H st ds xs ρ' Q R E h2 e q⟩
    · cases e
  · cases e
end
def fAsg (s : Set1) (f : Rho → Sto → R D) : Rho → Sto → R Fl := fun ρ st => (f ρ st).bind fun d st => match s d ρ with
  | some ρ => .ok (.nx ρ) st
  | none => .bad
theorem rs_asg {K : PySem.W.Frag} {mg : Str → Option Value} {W : WX} {g : TG} {s : Set1} {is : List Nat} {t : TE} {f : Rho → Sto → R D} (h : RE K mg W t f) (hg : RG K mg g s is) : RS K mg W (tAsg t g) (fAsg s f) := by
  intro αs T σ ρ H st Dn R E q
  refine h αs T σ ρ H st _ R E (PostG.imp (PostS.bind q σ) fun d st1 αs1 H1 R1 F1 p v rv => ?_)
  cases e : s d ρ with
  | none => rw [e] at p; exact (p σ).elim
  | some ρ' =>
    rw [e] at p
    exact hg αs1 T σ ρ H1 st1 d v ρ' _ R1 (E.fr F1) rv e fun σ' E' _ => (p σ) αs1 H1 R1 .refl σ' E'
end DL
namespace DL
open PySem PySem.Spec PyProof.Rows L2
/-! ### what a loop walks -/
inductive Src where
  | sq (ds : List D) | hd (n : Nat) | z2 (a b : D) | z3 (a b c : D) | en (a : D)
def nth (st : Sto) (a : D) (i : Nat) : Option D := match seqOf st a with
  | some ds => ds[i]?
  | none => none
def lenOf (st : Sto) (a : D) : Nat := match seqOf st a with
  | some ds => ds.length
  | none => 0
def pr2 (x y : Option D) : Option D := match x, y with
  | some x, some y => some (.tup [x, y])
  | _, _ => none
def pr3 (x y z : Option D) : Option D := match x, y, z with
  | some x, some y, some z => some (.tup [x, y, z])
  | _, _, _ => none
def prE (i : Nat) (x : Option D) : Option D := match x with
  | some x => some (.tup [.int i, x])
  | _ => none
def itemAt (st : Sto) (s : Src) (i : Nat) : Option D := match s with
  | .sq ds => ds[i]?
  | .hd n => nth st (.hnd n) i
  | .z2 a b => pr2 (nth st a i) (nth st b i)
  | .z3 a b c => pr3 (nth st a i) (nth st b i) (nth st c i)
  | .en a => prE i (nth st a i)
/-- how many turns at most -/
def turns (st : Sto) (s : Src) : Nat := match s with
  | .sq ds => ds.length
  | .hd n => lenOf st (.hnd n)
  | .z2 a _ => lenOf st a
  | .z3 a _ _ => lenOf st a
  | .en a => lenOf st a
/-- at the end nothing has shrunk -/
def endOk (st : Sto) (s : Src) (i : Nat) : Bool := match s with
  | .sq ds => Nat.ble i ds.length
  | .hd _ => true
  | .z2 a b => Nat.ble i (lenOf st a) && Nat.ble i (lenOf st b)
  | .z3 a b c => Nat.ble i (lenOf st a) && Nat.ble i (lenOf st b) && Nat.ble i (lenOf st c)
  | .en a => Nat.ble i (lenOf st a)
/-- locked dicts stay -/
def Zk (H H2 : Hp) : Prop := ∀ b o u, H b = some (.frz o (.dT u)) → H2 b = some (.frz o (.dT u))
theorem Fr.zk {αs αs' : List Addr} {H H' : Hp} (F : Fr αs H αs' H') : Zk H H' := fun b o u e => F.fz b o _ e
def SrcOk (K : PySem.W.Frag) (mg : Str → Option Value) (αs T : List Addr) (H : Hp) (J : It) (s : Src) : Prop :=
  ∀ αs' T' H2 st i, Zk H H2 → (∀ d v, Rep K mg αs T H d v → Rep K mg αs' T' H2 d v) → Rel K mg αs' T' H2 st → (itemAt st s i = none → endOk st s i = true → J.stop i H2) ∧
    ∀ d, itemAt st s i = some d → J.go i H2 ∧ ∀ x H3, J.yld i H2 x H3 → Rep K mg αs' T' H3 d x ∧ Rel K mg αs' T' H3 st ∧ Fr αs' H2 αs' H3 ∧ ∀ b o, H2 b = some o → H3 b = some o
def RI (K : PySem.W.Frag) (mg : Str → Option Value) (W : WX) (wi : TI) (f : Rho → Sto → R Src) : Prop := ∀ αs T σ ρ H st (Q : It → Hp → Prop), Rel K mg αs T H st → EnvR K mg αs T H σ ρ →
  PostG K mg W αs T σ H (f ρ st) (fun s _ αs' H' => ∀ J, SrcOk K mg αs' T H' J s → Q J H') → wi σ H Q
structure DI (X : Cx) (W : WX) (tg iter : Expr) (wi : TI) (f : Rho → Sto → R Src) : Prop where
  p : PI X tg iter wi
  r : RI X.K X.mg W wi f
structure DG (X : Cx) (tg : Expr) (g : TG) (s : Set1) (is : List Nat) : Prop where
  p : PG X tg g
  r : RG X.K X.mg g s is
/-! ### for -/
def forL (s : Set1) (body : Rho → Sto → R Fl) : List D → Rho → Sto → R Fl
  | [], ρ, st => .ok (.nx ρ) st
  | d :: ds, ρ, st => match s d ρ with
    | none => .bad
    | some ρ => (body ρ st).bind fun fl st => match fl with
      | .nx ρ => forL s body ds ρ st
      | .ct ρ => forL s body ds ρ st
      | .bk ρ => .ok (.nx ρ) st
      | .rt d => .ok (.rt d) st
def forH (z : Src) (s : Set1) (body : Rho → Sto → R Fl) : Nat → Nat → Rho → Sto → R Fl
  | 0, _, _, _ => .bad
  | f + 1, i, ρ, st => match itemAt st z i with
    | none => if endOk st z i then .ok (.nx ρ) st else .bad
    | some d => match s d ρ with
      | none => .bad
      | some ρ => (body ρ st).bind fun fl st => match fl with
        | .nx ρ => forH z s body f (i + 1) ρ st
        | .ct ρ => forH z s body f (i + 1) ρ st
        | .bk ρ => .ok (.nx ρ) st
        | .rt d => .ok (.rt d) st
def fFor (src : Rho → Sto → R Src) (s : Set1) (body : Rho → Sto → R Fl) : Rho → Sto → R Fl := fun ρ st => (src ρ st).bind fun z st => match z with
  | .sq ds => forL s body ds ρ st
  | z => forH z s body (turns st z + 1) 0 ρ st
section
variable {K : PySem.W.Frag} {mg : Str → Option Value} {W : WX}
theorem rs_for {wi : TI} {src : Rho → Sto → R Src} {g : TG} {s : Set1} {is : List Nat} {tb : TS} {body : Rho → Sto → R Fl} (hi : RI K mg W wi src) (hg : RG K mg g s is) (hb : RS K mg W tb body) : RS K mg W (tFor wi g tb) (fFor src s body) := by
  intro αs T σ ρ H st Dn R E q
  refine hi αs T σ ρ H st _ R E (PostG.imp (PostS.bind q σ) fun z st1 αs1 H1 R1 F1 p J hJ => ?_)
  -- one turn, what is left told by k
  have turn : ∀ (i : Nat) (k : Rho → Sto → DL.R Fl) (αs2 : List Addr) (H2 : Hp) (st2 : Sto) (σ2 : L2.St) (ρ2 : Rho) (d : D) (N : L2.St → Hp → Prop), Rel K mg αs2 T H2 st2 → EnvR K mg αs2 T H2 σ2 ρ2 → Fr αs1 H1 αs2 H2 → itemAt st2 z i = some d →
      (∀ σ3 ρ3 αs3 H3 st3, Rel K mg αs3 T H3 st3 → EnvR K mg αs3 T H3 σ3 ρ3 → Fr αs1 H1 αs3 H3 → PostS K mg W αs3 T H3 (k ρ3 st3) Dn → N σ3 H3) →
      PostS K mg W αs2 T H2 (match s d ρ2 with
        | none => .bad
        | some ρ => (body ρ st2).bind fun fl st => match fl with
          | .nx ρ => k ρ st
          | .ct ρ => k ρ st
          | .bk ρ => .ok (.nx ρ) st
          | .rt d => .ok (.rt d) st) Dn →
      J.go i H2 ∧ ∀ x H3, J.yld i H2 x H3 → g x σ2 H3 fun σ3 H4 => tb { Dn with nx := N, ct := N, bk := Dn.nx } σ3 H4 := by
    intro i k αs2 H2 st2 σ2 ρ2 d N R2 E2 F2 e hN P
    obtain ⟨go, yl⟩ := (hJ αs2 T H2 st2 i F2.zk (fun _ _ r => r.fr F2) R2).2 d e
    refine ⟨go, fun x H3 hy => ?_⟩
    obtain ⟨rx, R3, F3, _⟩ := yl x H3 hy
    cases es : s d ρ2 with
    | none => rw [es] at P; exact (P σ).elim
    | some ρ3 =>
      rw [es] at P
      refine hg αs2 T σ2 ρ2 H3 st2 d x ρ3 _ R3 (E2.fr F3) rx es fun σ3 E3 _ => ?_
      refine hb αs2 T σ3 ρ3 H3 st2 _ R3 E3 fun σ' => PostG.imp ((PostS.bind P σ').step F3) fun fl st4 αs4 H4 R4 F4 p4 => ?_
      cases fl with
      | nx ρ4 => exact fun σ4 E4 => hN σ4 ρ4 αs4 H4 st4 R4 E4 ((F2.trans F3).trans F4) p4
      | ct ρ4 => exact fun σ4 E4 => hN σ4 ρ4 αs4 H4 st4 R4 E4 ((F2.trans F3).trans F4) p4
      | bk ρ4 => exact fun σ4 E4 => (p4 σ4) αs4 H4 R4 .refl σ4 E4
      | rt d => exact fun v rv => (p4 σ) αs4 H4 R4 .refl v rv
  have live : PostS K mg W αs1 T H1 (forH z s body (turns st1 z + 1) 0 ρ st1) Dn → ∃ I : Nat → Nat → L2.St → Hp → Prop, (∃ m, I 0 m σ H1) ∧ ∀ i m σ H, I i m σ H →
      (J.stop i H ∧ Dn.nx σ H) ∨ (J.go i H ∧ ∃ N : L2.St → Hp → Prop, (∀ σ' H', N σ' H' → ∃ m', m' < m ∧ I (i + 1) m' σ' H') ∧ ∀ x H', J.yld i H x H' → g x σ H' fun σ2 H2 => tb { Dn with nx := N, ct := N, bk := Dn.nx } σ2 H2) := by
    intro p
    refine ⟨fun i m σ2 H2 => ∃ αs2 ρ2 st2, Rel K mg αs2 T H2 st2 ∧ EnvR K mg αs2 T H2 σ2 ρ2 ∧ Fr αs1 H1 αs2 H2 ∧ PostS K mg W αs2 T H2 (forH z s body m i ρ2 st2) Dn,
      ⟨_, αs1, ρ, st1, R1, E.fr F1, .refl, p⟩, ?_⟩
    rintro i m σ2 H2 ⟨αs2, ρ2, st2, R2, E2, F2, P⟩
    cases m with
    | zero => exact (P σ).elim
    | succ m =>
      unfold forH at P
      cases e : itemAt st2 z i with
      | none =>
        rw [e] at P
        have P : PostS K mg W αs2 T H2 (if endOk st2 z i then .ok (.nx ρ2) st2 else .bad) Dn := P
        split at P
        · rename_i ee
          exact .inl ⟨(hJ αs2 T H2 st2 i F2.zk (fun _ _ r => r.fr F2) R2).1 e ee, (P σ2) αs2 H2 R2 .refl σ2 E2⟩
        · exact (P σ).elim
      | some d =>
        rw [e] at P
        obtain ⟨t1, t2⟩ := turn i (fun ρ st => forH z s body m (i + 1) ρ st) αs2 H2 st2 σ2 ρ2 d (fun σ3 H3 => ∃ αs3 ρ3 st3, Rel K mg αs3 T H3 st3 ∧ EnvR K mg αs3 T H3 σ3 ρ3 ∧ Fr αs1 H1 αs3 H3 ∧ PostS K mg W αs3 T H3 (forH z s body m (i + 1) ρ3 st3) Dn)
          R2 E2 F2 e (fun σ3 ρ3 αs3 H3 st3 a b c d => ⟨αs3, ρ3, st3, a, b, c, d⟩) P
        exact .inr ⟨t1, _, fun σ3 H3 ⟨αs3, ρ3, st3, a, b, c, d⟩ => ⟨m, Nat.lt_succ_self m, αs3, ρ3, st3, a, b, c, d⟩, t2⟩
  cases z with
  | hd n => exact live p
  | z2 a b => exact live p
  | z3 a b c => exact live p
  | en a => exact live p
  | sq ds =>
    refine ⟨fun i m σ2 H2 => ∃ αs2 ρ2 st2, (m = ds.length - i ∧ i ≤ ds.length) ∧ Rel K mg αs2 T H2 st2 ∧ EnvR K mg αs2 T H2 σ2 ρ2 ∧ Fr αs1 H1 αs2 H2 ∧ PostS K mg W αs2 T H2 (forL s body (ds.drop i) ρ2 st2) Dn,
      ⟨_, αs1, ρ, st1, ⟨rfl, Nat.zero_le _⟩, R1, E.fr F1, .refl, p⟩, ?_⟩
    rintro i m σ2 H2 ⟨αs2, ρ2, st2, ⟨rfl, hil⟩, R2, E2, F2, P⟩
    cases e : ds[i]? with
    | none =>
      have hl : ds.length ≤ i := List.getElem?_eq_none_iff.mp e
      refine .inl ⟨(hJ αs2 T H2 st2 i F2.zk (fun _ _ r => r.fr F2) R2).1 e (Nat.ble_eq_true_of_le hil), ?_⟩
      rw [List.drop_eq_nil_of_le hl] at P
      exact (P σ2) αs2 H2 R2 .refl σ2 E2
    | some d =>
      have hl : i < ds.length := (List.getElem?_eq_some_iff.mp e).1
      have ed : ds.drop i = d :: ds.drop (i + 1) := by
        rw [List.drop_eq_getElem_cons hl]
        congr 1
        have := List.getElem?_eq_getElem hl
        rw [e] at this
        exact (Option.some.inj this).symm
      rw [ed] at P
      obtain ⟨t1, t2⟩ := turn i (fun ρ st => forL s body (ds.drop (i + 1)) ρ st) αs2 H2 st2 σ2 ρ2 d (fun σ3 H3 => ∃ αs3 ρ3 st3, Rel K mg αs3 T H3 st3 ∧ EnvR K mg αs3 T H3 σ3 ρ3 ∧ Fr αs1 H1 αs3 H3 ∧ PostS K mg W αs3 T H3 (forL s body (ds.drop (i + 1)) ρ3 st3) Dn)
        R2 E2 F2 e (fun σ3 ρ3 αs3 H3 st3 a b c d => ⟨αs3, ρ3, st3, a, b, c, d⟩) P
      exact .inr ⟨t1, _, fun σ3 H3 ⟨αs3, ρ3, st3, a, b, c, d⟩ => ⟨ds.length - (i + 1), by omega, αs3, ρ3, st3, ⟨rfl, hl⟩, a, b, c, d⟩, t2⟩
end
/-! ### while, with a bound on its turns -/
def whileN (c : Rho → Sto → R Bool) (body : Rho → Sto → R Fl) : Nat → Rho → Sto → R Fl
  | 0, _, _ => .bad
  | n + 1, ρ, st => (c ρ st).bind fun b st => match b with
    | false => .ok (.nx ρ) st
    | true => (body ρ st).bind fun fl st => match fl with
      | .nx ρ => whileN c body n ρ st
      | .ct ρ => whileN c body n ρ st
      | .bk ρ => .ok (.nx ρ) st
      | .rt d => .ok (.rt d) st
theorem rs_while {K : PySem.W.Frag} {mg : Str → Option Value} {W : WX} {n : Nat} {tc : TT} {tb : TS} {c : Rho → Sto → R Bool} {body : Rho → Sto → R Fl} (hc : RT K mg W tc c) (hb : RS K mg W tb body) : RS K mg W (tWhile tc tb) (whileN c body n) := by
  intro αs T σ ρ H st Dn R E q
  refine ⟨fun m σ2 H2 => ∃ αs2 ρ2 st2, Rel K mg αs2 T H2 st2 ∧ EnvR K mg αs2 T H2 σ2 ρ2 ∧ Fr αs H αs2 H2 ∧ PostS K mg W αs2 T H2 (whileN c body m ρ2 st2) Dn, ⟨n, αs, ρ, st, R, E, .refl, q⟩, ?_⟩
  rintro m σ2 H2 ⟨αs2, ρ2, st2, R2, E2, F2, P⟩
  cases m with
  | zero => exact (P σ).elim
  | succ m =>
    unfold whileN at P
    refine hc αs2 T σ2 ρ2 H2 st2 _ R2 E2 (PostG.imp (PostS.bind P σ2) fun b st3 αs3 H3 R3 F3 p3 => ?_)
    cases b with
    | false => exact iteF ((p3 σ2) αs3 H3 R3 .refl σ2 (E2.fr F3))
    | true =>
      refine iteT ⟨fun σ4 H4 => ∃ αs4 ρ4 st4, Rel K mg αs4 T H4 st4 ∧ EnvR K mg αs4 T H4 σ4 ρ4 ∧ Fr αs H αs4 H4 ∧ PostS K mg W αs4 T H4 (whileN c body m ρ4 st4) Dn, fun σ4 H4 h => ⟨m, Nat.lt_succ_self m, h⟩, ?_⟩
      refine hb αs3 T σ2 ρ2 H3 st3 _ R3 (E2.fr F3) fun σ' => PostG.imp (PostS.bind p3 σ') fun fl st4 αs4 H4 R4 F4 p4 => ?_
      cases fl with
      | nx ρ4 => exact fun σ4 E4 => ⟨αs4, ρ4, st4, R4, E4, (F2.trans F3).trans F4, p4⟩
      | ct ρ4 => exact fun σ4 E4 => ⟨αs4, ρ4, st4, R4, E4, (F2.trans F3).trans F4, p4⟩
      | bk ρ4 => exact fun σ4 E4 => (p4 σ4) αs4 H4 R4 .refl σ4 E4
      | rt d => exact fun v rv => (p4 σ) αs4 H4 R4 .refl v rv
/-! ### comprehensions -/
def wipeR (ρ : Rho) : List Nat → Rho
  | [] => ρ
  | v :: vs => (wipeR ρ vs).set v none
/-- within a comprehension nothing is raised -/
@[reducible] def nox {α : Type} (r : R α) : R α := match r with
  | .ok a st => .ok a st
  | .exc _ _ _ => .bad
  | .bad => .bad
def fYes : Rho → Sto → R Bool := fun _ st => .ok true st
def lcL (s : Set1) (tt : Rho → Sto → R Bool) (te : Rho → Sto → R D) (ρ : Rho) : List D → Sto → Option (List D × Sto)
  | [], st => some ([], st)
  | d :: ds, st => match s d ρ with
    | none => none
    | some ρ1 => match tt ρ1 st with
      | .ok false st => lcL s tt te ρ ds st
      | .ok true st => match te ρ1 st with
        | .ok x st => match lcL s tt te ρ ds st with
          | some (xs, st) => some (x :: xs, st)
          | none => none
        | .exc _ _ _ => none
        | .bad => none
      | .exc _ _ _ => none
      | .bad => none
def lcH (z : Src) (s : Set1) (tt : Rho → Sto → R Bool) (te : Rho → Sto → R D) (ρ : Rho) : Nat → Nat → Sto → Option (List D × Sto)
  | 0, _, _ => none
  | f + 1, i, st => match itemAt st z i with
    | none => if endOk st z i then some ([], st) else none
    | some d => match s d ρ with
      | none => none
      | some ρ1 => match tt ρ1 st with
        | .ok false st => lcH z s tt te ρ f (i + 1) st
        | .ok true st => match te ρ1 st with
          | .ok x st => match lcH z s tt te ρ f (i + 1) st with
            | some (xs, st) => some (x :: xs, st)
            | none => none
          | .exc _ _ _ => none
          | .bad => none
        | .exc _ _ _ => none
        | .bad => none
def lcEnd (o : Option (List D × Sto)) : R (List D) := match o with
  | some (xs, st) => if lineOk xs.length then .ok xs st else .bad
  | none => .bad
def fLc (src : Rho → Sto → R Src) (s : Set1) (tt : Rho → Sto → R Bool) (te : Rho → Sto → R D) (vs : List Nat) : Rho → Sto → R (List D) := fun ρ st => (src ρ st).bind fun z st => match z with
  | .sq ds => lcEnd (lcL s tt te (wipeR ρ vs) ds st)
  | z => lcEnd (lcH z s tt te (wipeR ρ vs) (turns st z + 1) 0 st)
abbrev W0 : WX := fun _ _ _ _ => False
section
variable {K : PySem.W.Frag} {mg : Str → Option Value} {W : WX}
theorem rt_yes : RT K mg W tYes fYes := fun αs T σ ρ H st Q R E h => h αs H R .refl
theorem wipeR_length (ρ : Rho) : ∀ vs : List Nat, (wipeR ρ vs).length = ρ.length
  | [] => rfl
  | v :: vs => by unfold wipeR; rw [List.length_set, wipeR_length ρ vs]
theorem EnvR.wipe {αs T : List Addr} {H : Hp} {σ : L2.St} {ρ : Rho} (E : EnvR K mg αs T H σ ρ) : ∀ vs : List Nat, EnvR K mg αs T H (L2.wipe σ vs) (wipeR ρ vs)
  | [] => E
  | v :: vs => by
    have ih := EnvR.wipe E vs
    refine ⟨by unfold L2.wipe wipeR; rw [List.length_set, List.length_set]; exact ih.1, fun i d h => ?_⟩
    unfold wipeR at h
    unfold L2.wipe
    by_cases e : v = i
    · subst e
      rw [List.getElem?_set] at h
      simp only [if_true] at h
      split at h <;> cases h
    · rw [List.getElem?_set_ne e] at h ⊢
      exact ih.2 i d h
theorem EnvR.tmp {αs T T' : List Addr} {H : Hp} {σ : L2.St} {ρ : Rho} (E : EnvR K mg αs T H σ ρ) {αs' : List Addr} {H' : Hp} (f : Fr αs H αs' H') (hT : ∀ t ∈ T', t ∈ T ∨ H t = none) : EnvR K mg αs' T' H' σ ρ :=
  ⟨E.1, fun i d h => let ⟨v, h1, h2⟩ := E.2 i d h; ⟨v, h1, h2.mv f hT⟩⟩
mutual
theorem Rep.tmpw {αs T : List Addr} {H : Hp} {D0 : Addr} {acc ys : List V} (hD : H D0 = some (.lst acc)) (hT : D0 ∈ T) : ∀ {d : D} {v : V}, Rep K mg αs T H d v → Rep K mg αs T (upd H D0 (.lst ys)) d v
  | .non, _, h => by simpa only [Rep] using h
  | .bl _, _, h => by simpa only [Rep] using h
  | .int _, _, h => by simpa only [Rep] using h
  | .str _, _, h => by simpa only [Rep] using h
  | .fn _, _, h => by simpa only [Rep] using h
  | .frz ds, v, h => by
    obtain ⟨a, xs, e, ha, hs⟩ := rep_frz.mp h
    refine rep_frz.mpr ⟨a, xs, e, ?_, Reps.tmpw hD hT hs⟩
    rcases ha with ⟨o, h1, h2⟩ | ha
    · exact .inl ⟨o, by rw [upd_ne (ne_of h1 hD (by intro z; cases z))]; exact h1, h2⟩
    · exact .inr ha
  | .hnd _, _, h => by
    obtain ⟨a, e, h1, ⟨xs, h2⟩⟩ := rep_hnd.mp h
    exact rep_hnd.mpr ⟨a, e, h1, by
      by_cases z : a = D0
      · rw [z]; exact ⟨ys, upd_same⟩
      · exact ⟨xs, by rw [upd_ne z]; exact h2⟩⟩
  | .dhn _, _, h => by
    obtain ⟨a, e, h1, ⟨xs, h2⟩⟩ := rep_dhn.mp h
    exact rep_dhn.mpr ⟨a, e, h1, ⟨xs, by rw [upd_ne (ne_of h2 hD (by intro z; cases z))]; exact h2⟩⟩
  | .dk _, _, h => by simp only [Rep] at h
  | .dic ks vs, v, h => by
    obtain ⟨a, xs, e, h1, h2, h3, hs⟩ := rep_dic.mp h
    exact rep_dic.mpr ⟨a, xs, e, ⟨by rw [upd_ne (fun z => h3 (by rw [z]; exact hT))]; exact h1.1, h1.2⟩, h2, h3, Reps.tmpw hD hT hs⟩
  | .tup ds, v, h => by
    obtain ⟨a, xs, e, ha, hs⟩ := rep_tup.mp h
    refine rep_tup.mpr ⟨a, xs, e, ?_, Reps.tmpw hD hT hs⟩
    rcases ha with ⟨h1, h2⟩ | ha
    · exact .inl ⟨by rw [upd_ne (ne_of h1 hD (by intro z; cases z))]; exact h1, h2⟩
    · exact .inr ha
  | .lst ds, v, h => by
    obtain ⟨a, xs, e, ⟨h1, h2, h3⟩, hs⟩ := rep_lst.mp h
    exact rep_lst.mpr ⟨a, xs, e, ⟨by rw [upd_ne (fun z => h3 (by rw [z]; exact hT))]; exact h1, h2, h3⟩, Reps.tmpw hD hT hs⟩
theorem Reps.tmpw {αs T : List Addr} {H : Hp} {D0 : Addr} {acc ys : List V} (hD : H D0 = some (.lst acc)) (hT : D0 ∈ T) : ∀ {ds : List D} {vs : List V}, Reps K mg αs T H ds vs → Reps K mg αs T (upd H D0 (.lst ys)) ds vs
  | [], _, h => by rw [h.isNil]; exact .nil
  | d :: ds, vs, h => by
    simp only [Reps] at h
    obtain ⟨v, r, e, h1, h2⟩ := h
    subst e
    exact .cons (Rep.tmpw hD hT h1) (Reps.tmpw hD hT h2)
end
theorem Rel.tmpw {αs T : List Addr} {H : Hp} {st : Sto} {D0 : Addr} {acc : List V} (R : Rel K mg αs T H st) (hD : H D0 = some (.lst acc)) (hT : D0 ∈ T) (ys : List V) : Rel K mg αs T (upd H D0 (.lst ys)) st := by
  refine ⟨R.nd, R.len, fun n a es h1 h2 => ?_, fun t ht => ⟨(R.tmp t ht).1, ?_⟩⟩
  · exact (R.cell n a es h1 h2).imp (fun o q => by rw [upd_ne (fun z => (R.tmp D0 hT).1 (by rw [← z]; exact List.mem_of_getElem? h1))]; exact q) fun ds vs r => r.tmpw hD hT
  · by_cases e : t = D0
    · rw [e, upd_same]; simp
    · rw [upd_ne e]; exact (R.tmp t ht).2
theorem lc_at {wi : TI} {src : Rho → Sto → R Src} {g : TG} {s : Set1} {is vs : List Nat} {tt : TT} {ft : Rho → Sto → R Bool} {te : TE} {fe : Rho → Sto → R D} (hg : RG K mg g s is) (ht : RT K mg W0 tt ft) (he : RE K mg W0 te fe) (his : ∀ i ∈ is, i ∈ vs)
    (αs T : List Addr) (σ : L2.St) (ρ : Rho) (H : Hp) (st : Sto) (Q : VK) (R : Rel K mg αs T H st) (E : EnvR K mg αs T H σ ρ) (hi : ∀ Q : It → Hp → Prop, PostG K mg W αs T σ H (src ρ st) (fun s _ αs' H' => ∀ J, SrcOk K mg αs' T H' J s → Q J H') → wi σ H Q)
    (q : PostG K mg W αs T σ H (fLc src s ft fe vs ρ st) (fun ds st' αs' H' => ∀ p xs, H p = none → p ∉ αs' → H' p = some (.lst xs) → Rel K mg αs' (p :: T) H' st' → Reps K mg αs' (p :: T) H' ds xs → Q (.ref p) H')) : tLc wi g tt te vs σ H Q := by
  refine hi _ ?_
  unfold fLc at q
  cases e : src ρ st with
  | bad => rw [e] at q; exact q
  | exc c p st1 => rw [e] at q; exact q
  | ok z st1 =>
    rw [e] at q
    intro αs1 H1 R1 F1 J hJ D0 hD
    obtain ⟨a1, a2, a3, a4, a5, a6, a7⟩ := freshen (ds := []) (xs := []) F1 R R1 .nil hD
    -- what is left to be made
    let Res : List D → Option (List D × Sto) → Prop := fun acc o => ∃ xs st3, o = some (xs, st3) ∧ lineOk (acc ++ xs).length = true ∧ PostG K mg W αs T σ H (DL.R.ok (acc ++ xs) st3) (fun ds st' αs' H' => ∀ p xs, H p = none → p ∉ αs' → H' p = some (.lst xs) → Rel K mg αs' (p :: T) H' st' → Reps K mg αs' (p :: T) H' ds xs → Q (.ref p) H')
    -- one turn
    have turn : ∀ (i : Nat) (k : Sto → Option (List D × Sto)) (αs2 : List Addr) (H2 : Hp) (st2 : Sto) (acc : List V) (accD : List D) (d : D) (N : Hp → Prop), H2 D0 = some (.lst acc) → Rel K mg αs2 (D0 :: T) H2 st2 → Reps K mg αs2 (D0 :: T) H2 accD acc → Fr αs1 H1 αs2 H2 → itemAt st2 z i = some d →
        (∀ αs3 H3 st3 acc3 accD3, H3 D0 = some (.lst acc3) → Rel K mg αs3 (D0 :: T) H3 st3 → Reps K mg αs3 (D0 :: T) H3 accD3 acc3 → Fr αs1 H1 αs3 H3 → Res accD3 (k st3) → N H3) →
        Res accD (match s d (wipeR ρ vs) with
          | none => none
          | some ρ1 => match ft ρ1 st2 with
            | .ok false st => k st
            | .ok true st => match fe ρ1 st with
              | .ok x st => match k st with
                | some (xs, st) => some (x :: xs, st)
                | none => none
              | .exc _ _ _ => none
              | .bad => none
            | .exc _ _ _ => none
            | .bad => none) →
        J.go i H2 ∧ ∀ x H', J.yld i H2 x H' → g x (L2.wipe σ vs) H' fun σ2 H2 => L2.wipe σ2 vs = L2.wipe σ vs ∧ tt σ2 H2 fun b H3 =>
          if b = true then te σ2 H3 fun y H4 => ∃ acc, H4 D0 = some (.lst acc) ∧ acc.length < sizeLine ∧ N (upd H4 D0 (.lst (acc ++ [y]))) else N H3 := by
      intro i k αs2 H2 st2 acc accD d N hx R2 r2 F2 ei hN P
      have hT0 : ∀ t ∈ (D0 :: T), t ∈ T ∨ H1 t = none := fun t ht => by
        rcases List.mem_cons.mp ht with e | e
        · exact .inr (by rw [e]; exact hD)
        · exact .inl e
      have hT1 : ∀ t ∈ (D0 :: T), t ∈ T ∨ H t = none := fun t ht => by
        rcases List.mem_cons.mp ht with e | e
        · exact .inr (by rw [e]; exact a1)
        · exact .inl e
      obtain ⟨go, yl⟩ := (hJ αs2 (D0 :: T) H2 st2 i F2.zk (fun _ _ r => r.mv F2 hT0) R2).2 d ei
      refine ⟨go, fun x H3 hy => ?_⟩
      obtain ⟨rx, R3, F3, K3⟩ := yl x H3 hy
      cases es : s d (wipeR ρ vs) with
      | none => rw [es] at P; obtain ⟨_, _, z, _⟩ := P; cases z
      | some ρ1 =>
        rw [es] at P
        have E3 : EnvR K mg αs2 (D0 :: T) H3 (L2.wipe σ vs) (wipeR ρ vs) := (E.wipe vs).tmp ((F1.trans F2).trans F3) hT1
        refine hg αs2 (D0 :: T) _ _ H3 st2 d x ρ1 _ R3 E3 rx es fun σ2 E4 w4 => ⟨(w4 vs his).trans (wipe_wipe σ vs), ?_⟩
        refine ht αs2 (D0 :: T) σ2 ρ1 H3 st2 _ R3 E4 ?_
        dsimp only at P
        cases et : ft ρ1 st2 with
        | bad => rw [et] at P; obtain ⟨_, _, z, _⟩ := P; cases z
        | exc c p st => rw [et] at P; obtain ⟨_, _, z, _⟩ := P; cases z
        | ok b st5 =>
          rw [et] at P
          intro αs5 H5 R5 F5
          have hx5 : H5 D0 = some (.lst acc) := F5.keep D0 _ (R3.tmp D0 List.mem_cons_self).1 (K3 D0 _ hx)
          have r5 := (r2.fr F3).fr F5
          cases b with
          | false => exact iteF (hN αs5 H5 st5 acc accD hx5 R5 r5 ((F2.trans F3).trans F5) P)
          | true =>
            refine iteT (he αs5 (D0 :: T) σ2 ρ1 H5 st5 _ R5 (E4.fr F5) ?_)
            dsimp only at P
            cases ee : fe ρ1 st5 with
            | bad => rw [ee] at P; obtain ⟨_, _, z, _⟩ := P; cases z
            | exc c p st => rw [ee] at P; obtain ⟨_, _, z, _⟩ := P; cases z
            | ok y st6 =>
              rw [ee] at P
              intro αs6 H6 R6 F6 v rv
              have hx6 : H6 D0 = some (.lst acc) := F6.keep D0 _ (R5.tmp D0 List.mem_cons_self).1 hx5
              dsimp only at P
              cases ek : k st6 with
              | none => rw [ek] at P; obtain ⟨_, _, z, _⟩ := P; cases z
              | some pr =>
                obtain ⟨xs, st7⟩ := pr
                rw [ek] at P
                obtain ⟨xs', st', ex, hl, pq⟩ := P
                cases ex
                have r6 := r5.fr F6
                have hlen : acc.length < sizeLine := by
                  have := lineOk_iff hl
                  rw [List.length_append, List.length_cons] at this
                  have h2 := r6.len
                  omega
                refine ⟨acc, hx6, hlen, hN αs6 _ st6 _ (accD ++ [y]) upd_same (R6.tmpw hx6 List.mem_cons_self _) ((r6.app (.one rv)).tmpw hx6 List.mem_cons_self) ?_ ?_⟩
                · have F7 := ((F2.trans F3).trans F5).trans F6
                  exact F7.updn hD
                · refine ⟨xs, st7, ek, ?_, ?_⟩
                  · rw [List.append_assoc]; exact hl
                  · rw [List.append_assoc]; exact pq
    -- the end
    have fin : ∀ (αs2 : List Addr) (H2 : Hp) (st2 : Sto) (acc : List V) (accD : List D), H2 D0 = some (.lst acc) → Rel K mg αs2 (D0 :: T) H2 st2 → Reps K mg αs2 (D0 :: T) H2 accD acc → Fr αs1 H1 αs2 H2 → Res accD (some ([], st2)) → Q (.ref D0) H2 := by
      intro αs2 H2 st2 acc accD hx R2 r2 F2 P
      obtain ⟨xs, st3, ex, _, pq⟩ := P
      cases ex
      rw [List.append_nil] at pq
      exact pq αs2 H2 (R2.weakT fun t h => List.mem_cons_of_mem _ h) (F1.trans F2) D0 acc a1 (R2.tmp D0 List.mem_cons_self).1 hx R2 r2
    have F0 : Fr αs1 H1 αs1 (upd H1 D0 (.lst [])) := Fr.new hD
    have ends : ∀ o : Option (List D × Sto), PostG K mg W αs T σ H (lcEnd o) (fun ds st' αs' H' => ∀ p xs, H p = none → p ∉ αs' → H' p = some (.lst xs) → Rel K mg αs' (p :: T) H' st' → Reps K mg αs' (p :: T) H' ds xs → Q (.ref p) H') → Res [] o := by
      intro o h
      cases o with
      | none => exact h.elim
      | some pr =>
        obtain ⟨xs, st3⟩ := pr
        unfold lcEnd at h
        dsimp only at h
        split at h
        · rename_i hl
          exact ⟨xs, st3, rfl, hl, h⟩
        · exact h.elim
    have live : PostG K mg W αs T σ H (lcEnd (lcH z s ft fe (wipeR ρ vs) (turns st1 z + 1) 0 st1)) (fun ds st' αs' H' => ∀ p xs, H p = none → p ∉ αs' → H' p = some (.lst xs) → Rel K mg αs' (p :: T) H' st' → Reps K mg αs' (p :: T) H' ds xs → Q (.ref p) H') →
        ∃ N : Nat → Nat → Hp → Prop, (∃ m, N 0 m (upd H1 D0 (.lst []))) ∧ ∀ i m H2, N i m H2 → (J.stop i H2 ∧ Q (.ref D0) H2) ∨ (J.go i H2 ∧ ∃ N' : Hp → Prop, (∀ H', N' H' → ∃ m', m' < m ∧ N (i + 1) m' H') ∧ ∀ x H', J.yld i H2 x H' → g x (L2.wipe σ vs) H' fun σ2 H2 => L2.wipe σ2 vs = L2.wipe σ vs ∧ tt σ2 H2 fun b H3 =>
          if b = true then te σ2 H3 fun y H4 => ∃ acc, H4 D0 = some (.lst acc) ∧ acc.length < sizeLine ∧ N' (upd H4 D0 (.lst (acc ++ [y]))) else N' H3) := by
      intro q
      have q0 := ends _ q
      refine ⟨fun i m H2 => ∃ αs2 st2 acc accD, H2 D0 = some (.lst acc) ∧ Rel K mg αs2 (D0 :: T) H2 st2 ∧ Reps K mg αs2 (D0 :: T) H2 accD acc ∧ Fr αs1 H1 αs2 H2 ∧ Res accD (lcH z s ft fe (wipeR ρ vs) m i st2),
        ⟨_, αs1, st1, [], [], upd_same, a4, .nil, F0, q0⟩, ?_⟩
      rintro i m H2 ⟨αs2, st2, acc, accD, hx, R2, r2, F2, P⟩
      cases m with
      | zero => obtain ⟨_, _, z, _⟩ := P; cases z
      | succ m =>
        unfold lcH at P
        cases ei : itemAt st2 z i with
        | none =>
          rw [ei] at P
          have P : Res accD (if endOk st2 z i then some ([], st2) else none) := P
          have hT0 : ∀ t ∈ (D0 :: T), t ∈ T ∨ H1 t = none := fun t ht => by
            rcases List.mem_cons.mp ht with e | e
            · exact .inr (by rw [e]; exact hD)
            · exact .inl e
          split at P
          · rename_i ee
            exact .inl ⟨(hJ αs2 (D0 :: T) H2 st2 i F2.zk (fun _ _ r => r.mv F2 hT0) R2).1 ei ee, fin αs2 H2 st2 acc accD hx R2 r2 F2 P⟩
          · obtain ⟨_, _, z, _⟩ := P; cases z
        | some d =>
          rw [ei] at P
          obtain ⟨t1, t2⟩ := turn i (fun st => lcH z s ft fe (wipeR ρ vs) m (i + 1) st) αs2 H2 st2 acc accD d (fun H3 => ∃ αs2 st2 acc accD, H3 D0 = some (.lst acc) ∧ Rel K mg αs2 (D0 :: T) H3 st2 ∧ Reps K mg αs2 (D0 :: T) H3 accD acc ∧ Fr αs1 H1 αs2 H3 ∧ Res accD (lcH z s ft fe (wipeR ρ vs) m (i + 1) st2))
            hx R2 r2 F2 ei (fun αs3 H3 st3 acc3 accD3 a b c d e => ⟨αs3, st3, acc3, accD3, a, b, c, d, e⟩) P
          exact .inr ⟨t1, _, fun H3 ⟨αs3, st3, acc3, accD3, a, b, c, d, e⟩ => ⟨m, Nat.lt_succ_self m, αs3, st3, acc3, accD3, a, b, c, d, e⟩, t2⟩
    cases z with
    | hd n => exact live q
    | z2 a b => exact live q
    | z3 a b c => exact live q
    | en a => exact live q
    | sq ds =>
      have q0 := ends _ q
      refine ⟨fun i m H2 => ∃ αs2 st2 acc accD, (m = ds.length - i ∧ i ≤ ds.length) ∧ H2 D0 = some (.lst acc) ∧ Rel K mg αs2 (D0 :: T) H2 st2 ∧ Reps K mg αs2 (D0 :: T) H2 accD acc ∧ Fr αs1 H1 αs2 H2 ∧ Res accD (lcL s ft fe (wipeR ρ vs) (ds.drop i) st2),
        ⟨_, αs1, st1, [], [], ⟨rfl, Nat.zero_le _⟩, upd_same, a4, .nil, F0, q0⟩, ?_⟩
      rintro i m H2 ⟨αs2, st2, acc, accD, ⟨rfl, hil⟩, hx, R2, r2, F2, P⟩
      cases ei : ds[i]? with
      | none =>
        have hl : ds.length ≤ i := List.getElem?_eq_none_iff.mp ei
        rw [List.drop_eq_nil_of_le hl] at P
        have hT0 : ∀ t ∈ (D0 :: T), t ∈ T ∨ H1 t = none := fun t ht => by
          rcases List.mem_cons.mp ht with e | e
          · exact .inr (by rw [e]; exact hD)
          · exact .inl e
        exact .inl ⟨(hJ αs2 (D0 :: T) H2 st2 i F2.zk (fun _ _ r => r.mv F2 hT0) R2).1 ei (Nat.ble_eq_true_of_le hil), fin αs2 H2 st2 acc accD hx R2 r2 F2 P⟩
      | some d =>
        have hl : i < ds.length := (List.getElem?_eq_some_iff.mp ei).1
        have ed : ds.drop i = d :: ds.drop (i + 1) := by
          rw [List.drop_eq_getElem_cons hl]
          congr 1
          have := List.getElem?_eq_getElem hl
          rw [ei] at this
          exact (Option.some.inj this).symm
        rw [ed] at P
        obtain ⟨t1, t2⟩ := turn i (fun st => lcL s ft fe (wipeR ρ vs) (ds.drop (i + 1)) st) αs2 H2 st2 acc accD d (fun H3 => ∃ αs2 st2 acc accD, H3 D0 = some (.lst acc) ∧ Rel K mg αs2 (D0 :: T) H3 st2 ∧ Reps K mg αs2 (D0 :: T) H3 accD acc ∧ Fr αs1 H1 αs2 H3 ∧ Res accD (lcL s ft fe (wipeR ρ vs) (ds.drop (i + 1)) st2))
          hx R2 r2 F2 ei (fun αs3 H3 st3 acc3 accD3 a b c d e => ⟨αs3, st3, acc3, accD3, a, b, c, d, e⟩) P
        exact .inr ⟨t1, _, fun H3 ⟨αs3, st3, acc3, accD3, a, b, c, d, e⟩ => ⟨ds.length - (i + 1), by omega, αs3, st3, acc3, accD3, ⟨rfl, hl⟩, a, b, c, d, e⟩, t2⟩
theorem rf_lc {wi : TI} {src : Rho → Sto → R Src} {g : TG} {s : Set1} {is vs : List Nat} {tt : TT} {ft : Rho → Sto → R Bool} {te : TE} {fe : Rho → Sto → R D} (hi : RI K mg W wi src) (hg : RG K mg g s is) (ht : RT K mg W0 tt ft) (he : RE K mg W0 te fe) (his : ∀ i ∈ is, i ∈ vs) :
    RF K mg W (tLc wi g tt te vs) (fLc src s ft fe vs) := fun αs T σ ρ H st Q R E q => lc_at hg ht he his αs T σ ρ H st Q R E (fun Q => hi αs T σ ρ H st Q R E) q
end
end DL
namespace DL
open PySem PySem.Spec PyProof.Rows L2
/-! ### lists and tuples alike -/
inductive Kd where
  | l | t
def KSeq (K : PySem.W.Frag) (H : Hp) : Kd → Addr → List V → Prop
  | .l, a, xs => SqL K H a xs
  | .t, a, xs => SqT K H a xs
def KIter (h : Heap) : Kd → Addr → Addr → Nat → Prop
  | .l, it, a, i => h.IsListIter it a i
  | .t, it, a, i => h.IsTupleIter it a i
def KAt (h : Heap) : Kd → Addr → Array Value → Prop
  | .l, a, xs => h.IsList a xs
  | .t, a, xs => h.IsTuple a xs
def kObj : Kd → Addr → Obj
  | .l, a => { cls := .type "list_iterator", data := .fields #[.ref a, .int 0 0] }
  | .t, a => { cls := .type "tuple_iterator", data := .fields #[.ref a, .int 0 0] }
theorem kBegins : ∀ (k : Kd) (a : Addr) (its : Array Value), Begins (.ref a) (kObj k a) fun h => KAt h k a its
  | .l, a, its => begins_list a its
  | .t, a, its => begins_tuple a its
theorem kDraws {prog : Program} {w : World} {A : Around} (hh : A.handled = none) : ∀ (k : Kd) (it a : Addr) (hne : a ≠ it) (its : Array Value), Draws prog w A it [it, a] its.size (fun i v => its[i]? = some v) (fun i h => KIter h k it a i ∧ KAt h k a its)
  | .l, it, a, hne, its => Draws.list hh it a hne its
  | .t, it, a, hne, its => Draws.tuple hh it a hne its
theorem KIter.ob {h : Heap} : ∀ {k : Kd} {it a : Addr} {i : Nat}, KIter h k it a i → ∃ o, h.get? it = some o ∧ ∀ v, o.data ≠ .cell v
  | .l, _, _, _, ⟨o, e, _, d⟩ => ⟨o, e, fun v z => by rw [d] at z; cases z⟩
  | .t, _, _, _, ⟨o, e, _, d⟩ => ⟨o, e, fun v z => by rw [d] at z; cases z⟩
theorem KIter.at {h h' : Heap} : ∀ {k : Kd} {it a : Addr} {i : Nat}, KIter h k it a i → (∀ o, h.get? it = some o → h'.get? it = some o) → KIter h' k it a i
  | .l, _, _, _, x, f => Heap.IsListIter.at x f
  | .t, _, _, _, ⟨o, e, c, d⟩, f => ⟨o, f o e, c, d⟩
theorem KIter.zero {h : Heap} : ∀ {k : Kd} {it a : Addr}, h.get? it = some (kObj k a) → KIter h k it a 0
  | .l, _, _, e => ⟨_, e, rfl, rfl⟩
  | .t, _, _, e => ⟨_, e, rfl, rfl⟩
section
variable {X : Cx} {pins : List (Addr × Obj)} {σ : L2.St} {H : Hp} {s : Shared}
theorem kAt (I : Inv X pins σ H s) : ∀ {k : Kd} {a : Addr} {xs : List V}, KSeq X.K H k a xs → ∃ its : List Value, Vals xs its ∧ KAt s.heap k a its.toArray ∧ a < s.heap.objs.size
  | .l, a, xs, h => by
    obtain ⟨its, rv, p, _⟩ := I.list h
    exact ⟨its, rv, p.isList, p.lt⟩
  | .t, a, xs, h => by
    obtain ⟨its, rv, p, _⟩ := I.tuple h
    exact ⟨its, rv, p, p.lt⟩
theorem kInj (I : Inv X pins σ H s) : ∀ {k : Kd} {a : Addr} {xs ys : List V}, KSeq X.K H k a xs → KSeq X.K H k a ys → xs = ys
  | .l, _, _, _, h, h' => I.list_inj h h'
  | .t, _, _, _, h, h' => I.tuple_inj h h'
end
/-! ### zip of two, of three; enumerate -/
def ItzK (K : PySem.W.Frag) (k1 k2 : Kd) (a b : Addr) : It :=
  ⟨fun i H => ∃ (xs ys : List V) (x y : V), KSeq K H k1 a xs ∧ KSeq K H k2 b ys ∧ xs[i]? = some x ∧ ys[i]? = some y,
    fun i H v H' => ∃ T x y, v = .ref T ∧ H T = none ∧ H' = upd H T (.tup [x, y]) ∧ (∀ xs, KSeq K H k1 a xs → xs[i]? = some x) ∧ ∀ ys, KSeq K H k2 b ys → ys[i]? = some y,
    fun i H => ∃ xs ys : List V, KSeq K H k1 a xs ∧ KSeq K H k2 b ys ∧ i ≤ xs.length ∧ i ≤ ys.length ∧ (i = xs.length ∨ i = ys.length)⟩
def ItzK3 (K : PySem.W.Frag) (k1 k2 k3 : Kd) (a b c : Addr) : It :=
  ⟨fun i H => ∃ (xs ys zs : List V) (x y z : V), KSeq K H k1 a xs ∧ KSeq K H k2 b ys ∧ KSeq K H k3 c zs ∧ xs[i]? = some x ∧ ys[i]? = some y ∧ zs[i]? = some z,
    fun i H v H' => ∃ T x y z, v = .ref T ∧ H T = none ∧ H' = upd H T (.tup [x, y, z]) ∧ (∀ xs, KSeq K H k1 a xs → xs[i]? = some x) ∧ (∀ ys, KSeq K H k2 b ys → ys[i]? = some y) ∧ ∀ zs, KSeq K H k3 c zs → zs[i]? = some z,
    fun i H => ∃ xs ys zs : List V, KSeq K H k1 a xs ∧ KSeq K H k2 b ys ∧ KSeq K H k3 c zs ∧ i ≤ xs.length ∧ i ≤ ys.length ∧ i ≤ zs.length ∧ (i = xs.length ∨ i = ys.length ∨ i = zs.length)⟩
def IteK (K : PySem.W.Frag) (k : Kd) (a : Addr) : It :=
  ⟨fun i H => ∃ (xs : List V) (x : V), KSeq K H k a xs ∧ xs[i]? = some x, fun i H v H' => ∃ T x, v = .ref T ∧ H T = none ∧ H' = upd H T (.tup [.int (i : Nat), x]) ∧ ∀ xs, KSeq K H k a xs → xs[i]? = some x,
    fun i H => ∃ xs : List V, KSeq K H k a xs ∧ i = xs.length⟩
theorem turn_zipK3 {P : Program} {w : World} {K : PySem.W.Frag} {elts : List Expr} {kk : Nat} {tpos : Pos} {k1 k2 k3 : Kd} {a b c z TI TO i1 i2 i3 : Addr} (hn : [z, TI, TO, i1, i2, i3].Nodup) :
    Turn P w K (.Tuple elts kk tpos) (ItzK3 K k1 k2 k3 a b c) [z, TI, TO, i1, i2, i3] z (fun i h => IsZip h z TI TO .none ∧ IsTupOf3 h TI (.ref i1) (.ref i2) (.ref i3) ∧ (∃ x y z, IsTupOf3 h TO x y z) ∧ (KIter h k1 i1 a i ∧ KIter h k2 i2 b i ∧ KIter h k3 i3 c i) ∧ a ∉ [z, TI, TO, i1, i2, i3] ∧ b ∉ [z, TI, TO, i1, i2, i3] ∧ c ∉ [z, TI, TO, i1, i2, i3]) where
  mem := by simp
  obj := fun i h st d hd => by
    obtain ⟨hz, hTI, ⟨x, y, w, hTO⟩, ⟨h1, h2, h3⟩, _⟩ := st
    have e' : d = z ∨ d = TI ∨ d = TO ∨ d = i1 ∨ d = i2 ∨ d = i3 := by simpa using hd
    rcases e' with q | q | q | q | q | q
    · rw [q]; exact ⟨_, hz, fun v q => nomatch q⟩
    · rw [q]; exact ⟨_, hTI, fun v q => nomatch q⟩
    · rw [q]; exact ⟨_, hTO, fun v q => nomatch q⟩
    · rw [q]; exact h1.ob
    · rw [q]; exact h2.ob
    · rw [q]; exact h3.ob
  keep := fun i h h' st k => by
    obtain ⟨hz, hTI, ⟨x, y, w, hTO⟩, ⟨h1, h2, h3⟩, r⟩ := st
    exact ⟨k z (by simp) _ hz, k TI (by simp) _ hTI, ⟨x, y, w, k TO (by simp) _ hTO⟩, ⟨h1.at fun o q => k i1 (by simp) o q, h2.at fun o q => k i2 (by simp) o q, h3.at fun o q => k i3 (by simp) o q⟩, r⟩
  item := by
    intro X hP hw hK hc i pins s σ H E I hf st hg
    subst hP hw hK
    obtain ⟨hz, hTI, ⟨x0, y0, w0, hTO⟩, ⟨h1, h2, h3⟩, na, nb, nc⟩ := id st
    obtain ⟨xs, ys, zs, x, y, w, hqx, hqy, hqz, hx, hy, hw⟩ := hg
    obtain ⟨its, rv, p, la⟩ := kAt I hqx
    obtain ⟨its2, rv2, p2, lb⟩ := kAt I hqy
    obtain ⟨its3, rv3, p3, lc⟩ := kAt I hqz
    obtain ⟨u, hu, ru⟩ := rv.get hx
    obtain ⟨u2, hu2, ru2⟩ := rv2.get hy
    obtain ⟨u3, hu3, ru3⟩ := rv3.get hw
    have hzl : z < s.heap.objs.size := Heap.lt_size hz
    simp only [List.nodup_cons, List.mem_cons, List.not_mem_nil, or_false, not_or, List.nodup_nil, and_true] at hn na nb nc
    obtain ⟨⟨n1, n2, n3, n4, n5⟩, ⟨n6, n7, n8, n9⟩, ⟨n10, n11, n12⟩, ⟨n13, n14⟩, n15, _⟩ := hn
    obtain ⟨na1, na2, na3, na4, na5, na6⟩ := na
    obtain ⟨nb1, nb2, nb3, nb4, nb5, nb6⟩ := nb
    obtain ⟨nc1, nc2, nc3, nc4, nc5, nc6⟩ := nc
    have hh : X.A.in1.handled = none := I.ok.hd hc
    have S : ZipSep3 z TI TO i1 i2 i3 [i1, a] [i2, b] [i3, c] := ⟨Ne.symm n1, Ne.symm n2, n6, n7, by simp, by simp [n3, Ne.symm na1], by simp [n10, Ne.symm na3], n8, by simp, by simp [n4, Ne.symm nb1], by simp [n11, Ne.symm nb3],
      n9, by simp, by simp [n5, Ne.symm nc1], by simp [n12, Ne.symm nc3], by simp [n13, Ne.symm nb4], by simp [n14, Ne.symm nc4], by simp [Ne.symm n13, Ne.symm na5], by simp [n15, Ne.symm nc5], by simp [Ne.symm n14, Ne.symm na6], by simp [Ne.symm n15, Ne.symm nb6]⟩
    have lt1 : i < its.toArray.size := by simp; exact (List.getElem?_eq_some_iff.mp hu).1
    have lt2 : i < its2.toArray.size := by simp; exact (List.getElem?_eq_some_iff.mp hu2).1
    have lt3 : i < its3.toArray.size := by simp; exact (List.getElem?_eq_some_iff.mp hu3).1
    refine wpAny_pyNext_zipD3_item S (kDraws hh k1 i1 a na4 its.toArray) (kDraws hh k2 i2 b nb5 its2.toArray) (kDraws hh k3 i3 c nc6 its3.toArray) hz hTI hTO ⟨h1, p⟩ ⟨h2, p2⟩ ⟨h3, p3⟩ lt1 lt2 lt3
      fun v1 v2 v3 h' tk q1 q2 q3 z' TO' s1 s2 s3 hT hsz hk => ?_
    have e1 : v1 = u := Option.some.inj (q1.symm.trans (by simpa using hu))
    have e2 : v2 = u2 := Option.some.inj (q2.symm.trans (by simpa using hu2))
    have e3 : v3 = u3 := Option.some.inj (q3.symm.trans (by simpa using hu3))
    subst e1 e2 e3
    refine ⟨_, rfl, wpAny_letOwnedTupleGo_zip (s := { s with heap := h', toks := tk }) z' fun h'' z'' sb => ?_⟩
    have hT2 : h''.get? s.heap.objs.size = some { cls := .type "tuple", data := .seq #[v1, v2, v3] } := (sb.2 _ (Nat.ne_of_gt hzl)).trans hT
    have new : ObjOk X.prog X.w (upd H s.heap.objs.size (.tup [x, y, w])) h'' s.heap.objs.size (.tup [x, y, w]) :=
      ⟨by show 3 ≤ sizeLine; decide, [v1, v2, v3], .cons ru (.cons ru2 (.cons ru3 .nil)), ⟨_, hT2, rfl, _, rfl⟩⟩
    have I1 : Inv X pins σ (upd H s.heap.objs.size (.tup [x, y, w])) { s with heap := h'', toks := tk } :=
      I.turnedNew (t' := tk) (ch := [z, TI, TO, i1, i2, i3]) (fun d o hb q => (sb.2 d (fun q' => hb (by simp [q']))).trans (hk d o (fun q' => hb (by simp [q'])) (fun q' => hb (by simp [q'])) (fun q' => hb (by simp [q'])) (fun q' => hb (by simp [q'])) (fun q' => hb (by simp [q'])) q)) hf (Nat.le_refl _) new
    refine ⟨.ref s.heap.objs.size, _, I1, rfl, ⟨_, x, y, w, rfl, I.hok.fresh (Nat.le_refl _), rfl, fun l hl => by rw [kInj I hl hqx]; exact hx, fun l hl => by rw [kInj I hl hqy]; exact hy, fun l hl => by rw [kInj I hl hqz]; exact hw⟩, ⟨z'', ?_, ⟨v1, v2, v3, ?_⟩, ⟨?_, ?_, ?_⟩, st.2.2.2.2⟩, fun d hdm => ?_⟩
    · exact (sb.2 _ (Ne.symm n1)).trans (hk _ _ (Ne.symm n1) n6 n7 n8 n9 hTI)
    · exact (sb.2 _ (Ne.symm n2)).trans TO'
    · exact s1.1.at fun o q => (sb.2 _ (Ne.symm n3)).trans q
    · exact s2.1.at fun o q => (sb.2 _ (Ne.symm n4)).trans q
    · exact s3.1.at fun o q => (sb.2 _ (Ne.symm n5)).trans q
    · have hlt : d < s.heap.objs.size := by
        have e' : d = z ∨ d = TI ∨ d = TO ∨ d = i1 ∨ d = i2 ∨ d = i3 := by simpa using hdm
        rcases e' with q | q | q | q | q | q
        · rw [q]; exact hzl
        · rw [q]; exact Heap.lt_size hTI
        · rw [q]; exact Heap.lt_size hTO
        · rw [q]; obtain ⟨_, e1, _⟩ := h1.ob; exact Heap.lt_size e1
        · rw [q]; obtain ⟨_, e2, _⟩ := h2.ob; exact Heap.lt_size e2
        · rw [q]; obtain ⟨_, e2, _⟩ := h3.ob; exact Heap.lt_size e2
      rw [upd_ne (Nat.ne_of_lt hlt)]
      exact (hf d hdm).1
  done := by
    intro X hP hw hK hc i pins s σ H E I hf st hg
    subst hP hw hK
    obtain ⟨hz, hTI, ⟨x0, y0, w0, hTO⟩, ⟨h1, h2, h3⟩, na, nb, nc⟩ := id st
    obtain ⟨xs, ys, zs, hqx, hqy, hqz, l1, l2, l3, hend⟩ := hg
    obtain ⟨its, rv, p, la⟩ := kAt I hqx
    obtain ⟨its2, rv2, p2, lb⟩ := kAt I hqy
    obtain ⟨its3, rv3, p3, lc⟩ := kAt I hqz
    rw [rv.length] at l1 hend
    rw [rv2.length] at l2 hend
    rw [rv3.length] at l3 hend
    simp only [List.nodup_cons, List.mem_cons, List.not_mem_nil, or_false, not_or, List.nodup_nil, and_true] at hn na nb nc
    obtain ⟨⟨n1, n2, n3, n4, n5⟩, ⟨n6, n7, n8, n9⟩, ⟨n10, n11, n12⟩, ⟨n13, n14⟩, n15, _⟩ := hn
    obtain ⟨na1, na2, na3, na4, na5, na6⟩ := na
    obtain ⟨nb1, nb2, nb3, nb4, nb5, nb6⟩ := nb
    obtain ⟨nc1, nc2, nc3, nc4, nc5, nc6⟩ := nc
    have hh : X.A.in1.handled = none := I.ok.hd hc
    have S : ZipSep3 z TI TO i1 i2 i3 [i1, a] [i2, b] [i3, c] := ⟨Ne.symm n1, Ne.symm n2, n6, n7, by simp, by simp [n3, Ne.symm na1], by simp [n10, Ne.symm na3], n8, by simp, by simp [n4, Ne.symm nb1], by simp [n11, Ne.symm nb3],
      n9, by simp, by simp [n5, Ne.symm nc1], by simp [n12, Ne.symm nc3], by simp [n13, Ne.symm nb4], by simp [n14, Ne.symm nc4], by simp [Ne.symm n13, Ne.symm na5], by simp [n15, Ne.symm nc5], by simp [Ne.symm n14, Ne.symm na6], by simp [Ne.symm n15, Ne.symm nb6]⟩
    exact wpAny_pyNext_zipD3_end S (kDraws hh k1 i1 a na4 its.toArray) (kDraws hh k2 i2 b nb5 its2.toArray) (kDraws hh k3 i3 c nc6 its3.toArray) hz hTI hTO ⟨h1, p⟩ ⟨h2, p2⟩ ⟨h3, p3⟩ (by simpa using l1) (by simpa using l2) (by simpa using l3) (by simpa using hend)
      fun h' tk hk => ⟨rfl, I.turnedL (t' := tk) (ch := [z, TI, TO, i1, i2, i3]) (fun d o hb q => hk d o (fun q' => hb (by simp [q'])) (fun q' => hb (by simp [q'])) (fun q' => hb (by simp [q'])) (fun q' => hb (by simp [q'])) (fun q' => hb (by simp [q'])) q) hf⟩
  self := fun A i s Q E st h => wpAny_pyIter_zip st.1 h
theorem turn_zipK {P : Program} {w : World} {K : PySem.W.Frag} {elts : List Expr} {kk : Nat} {tpos : Pos} {k1 k2 : Kd} {a b z TI TO i1 i2 : Addr} (hn : [z, TI, TO, i1, i2].Nodup) :
    Turn P w K (.Tuple elts kk tpos) (ItzK K k1 k2 a b) [z, TI, TO, i1, i2] z (fun i h => IsZip h z TI TO .none ∧ IsTupOf2 h TI (.ref i1) (.ref i2) ∧ (∃ x y, IsTupOf2 h TO x y) ∧ (KIter h k1 i1 a i ∧ KIter h k2 i2 b i) ∧ a ∉ [z, TI, TO, i1, i2] ∧ b ∉ [z, TI, TO, i1, i2]) where
  mem := by simp
  obj := fun i h st d hd => by
    obtain ⟨hz, hTI, ⟨x, y, hTO⟩, ⟨h1, h2⟩, _⟩ := st
    have e' : d = z ∨ d = TI ∨ d = TO ∨ d = i1 ∨ d = i2 := by simpa using hd
    rcases e' with q | q | q | q | q
    · rw [q]; exact ⟨_, hz, fun v q => nomatch q⟩
    · rw [q]; exact ⟨_, hTI, fun v q => nomatch q⟩
    · rw [q]; exact ⟨_, hTO, fun v q => nomatch q⟩
    · rw [q]; exact h1.ob
    · rw [q]; exact h2.ob
  keep := fun i h h' st k => by
    obtain ⟨hz, hTI, ⟨x, y, hTO⟩, ⟨h1, h2⟩, r⟩ := st
    exact ⟨k z (by simp) _ hz, k TI (by simp) _ hTI, ⟨x, y, k TO (by simp) _ hTO⟩, ⟨h1.at fun o q => k i1 (by simp) o q, h2.at fun o q => k i2 (by simp) o q⟩, r⟩
  item := by
    intro X hP hw hK hc i pins s σ H E I hf st hg
    subst hP hw hK
    obtain ⟨hz, hTI, ⟨x0, y0, hTO⟩, ⟨h1, h2⟩, na, nb⟩ := id st
    obtain ⟨xs, ys, x, y, hqx, hqy, hx, hy⟩ := hg
    obtain ⟨its, rv, p, la⟩ := kAt I hqx
    obtain ⟨its2, rv2, p2, lb⟩ := kAt I hqy
    obtain ⟨u, hu, ru⟩ := rv.get hx
    obtain ⟨u2, hu2, ru2⟩ := rv2.get hy
    have hzl : z < s.heap.objs.size := Heap.lt_size hz
    simp only [List.nodup_cons, List.mem_cons, List.not_mem_nil, or_false, not_or, List.nodup_nil, and_true] at hn na nb
    obtain ⟨⟨n1, n2, n3, n4⟩, ⟨n6, n7, n8⟩, ⟨n10, n11⟩, n13, _⟩ := hn
    obtain ⟨na1, na2, na3, na4, na5⟩ := na
    obtain ⟨nb1, nb2, nb3, nb4, nb5⟩ := nb
    have hh : X.A.in1.handled = none := I.ok.hd hc
    have S : ZipSep2 z TI TO i1 i2 [i1, a] [i2, b] := ⟨Ne.symm n1, Ne.symm n2, n6, n7, by simp, by simp [n3, Ne.symm na1], by simp [n10, Ne.symm na3], n8, by simp, by simp [n4, Ne.symm nb1], by simp [n11, Ne.symm nb3],
      by simp [n13, Ne.symm nb4], by simp [Ne.symm n13, Ne.symm na5]⟩
    have lt1 : i < its.toArray.size := by simp; exact (List.getElem?_eq_some_iff.mp hu).1
    have lt2 : i < its2.toArray.size := by simp; exact (List.getElem?_eq_some_iff.mp hu2).1
    refine wpAny_pyNext_zipD2_item S (kDraws hh k1 i1 a na4 its.toArray) (kDraws hh k2 i2 b nb5 its2.toArray) hz hTI hTO ⟨h1, p⟩ ⟨h2, p2⟩ lt1 lt2
      fun v1 v2 h' tk q1 q2 z' TO' s1 s2 hT hsz hk => ?_
    have e1 : v1 = u := Option.some.inj (q1.symm.trans (by simpa using hu))
    have e2 : v2 = u2 := Option.some.inj (q2.symm.trans (by simpa using hu2))
    subst e1 e2
    refine ⟨_, rfl, wpAny_letOwnedTupleGo_zip (s := { s with heap := h', toks := tk }) z' fun h'' z'' sb => ?_⟩
    have hT2 : h''.get? s.heap.objs.size = some { cls := .type "tuple", data := .seq #[v1, v2] } := (sb.2 _ (Nat.ne_of_gt hzl)).trans hT
    have new : ObjOk X.prog X.w (upd H s.heap.objs.size (.tup [x, y])) h'' s.heap.objs.size (.tup [x, y]) :=
      ⟨by show 2 ≤ sizeLine; decide, [v1, v2], .cons ru (.cons ru2 .nil), ⟨_, hT2, rfl, _, rfl⟩⟩
    have I1 : Inv X pins σ (upd H s.heap.objs.size (.tup [x, y])) { s with heap := h'', toks := tk } :=
      I.turnedNew (t' := tk) (ch := [z, TI, TO, i1, i2]) (fun d o hb q => (sb.2 d (fun q' => hb (by simp [q']))).trans (hk d o (fun q' => hb (by simp [q'])) (fun q' => hb (by simp [q'])) (fun q' => hb (by simp [q'])) (fun q' => hb (by simp [q'])) q)) hf (Nat.le_refl _) new
    refine ⟨.ref s.heap.objs.size, _, I1, rfl, ⟨_, x, y, rfl, I.hok.fresh (Nat.le_refl _), rfl, fun l hl => by rw [kInj I hl hqx]; exact hx, fun l hl => by rw [kInj I hl hqy]; exact hy⟩, ⟨z'', ?_, ⟨v1, v2, ?_⟩, ⟨?_, ?_⟩, st.2.2.2.2⟩, fun d hdm => ?_⟩
    · exact (sb.2 _ (Ne.symm n1)).trans (hk _ _ (Ne.symm n1) n6 n7 n8 hTI)
    · exact (sb.2 _ (Ne.symm n2)).trans TO'
    · exact s1.1.at fun o q => (sb.2 _ (Ne.symm n3)).trans q
    · exact s2.1.at fun o q => (sb.2 _ (Ne.symm n4)).trans q
    · have hlt : d < s.heap.objs.size := by
        have e' : d = z ∨ d = TI ∨ d = TO ∨ d = i1 ∨ d = i2 := by simpa using hdm
        rcases e' with q | q | q | q | q
        · rw [q]; exact hzl
        · rw [q]; exact Heap.lt_size hTI
        · rw [q]; exact Heap.lt_size hTO
        · rw [q]; obtain ⟨_, e1, _⟩ := h1.ob; exact Heap.lt_size e1
        · rw [q]; obtain ⟨_, e2, _⟩ := h2.ob; exact Heap.lt_size e2
      rw [upd_ne (Nat.ne_of_lt hlt)]
      exact (hf d hdm).1
  done := by
    intro X hP hw hK hc i pins s σ H E I hf st hg
    subst hP hw hK
    obtain ⟨hz, hTI, ⟨x0, y0, hTO⟩, ⟨h1, h2⟩, na, nb⟩ := id st
    obtain ⟨xs, ys, hqx, hqy, l1, l2, hend⟩ := hg
    obtain ⟨its, rv, p, la⟩ := kAt I hqx
    obtain ⟨its2, rv2, p2, lb⟩ := kAt I hqy
    rw [rv.length] at l1 hend
    rw [rv2.length] at l2 hend
    simp only [List.nodup_cons, List.mem_cons, List.not_mem_nil, or_false, not_or, List.nodup_nil, and_true] at hn na nb
    obtain ⟨⟨n1, n2, n3, n4⟩, ⟨n6, n7, n8⟩, ⟨n10, n11⟩, n13, _⟩ := hn
    obtain ⟨na1, na2, na3, na4, na5⟩ := na
    obtain ⟨nb1, nb2, nb3, nb4, nb5⟩ := nb
    have hh : X.A.in1.handled = none := I.ok.hd hc
    have S : ZipSep2 z TI TO i1 i2 [i1, a] [i2, b] := ⟨Ne.symm n1, Ne.symm n2, n6, n7, by simp, by simp [n3, Ne.symm na1], by simp [n10, Ne.symm na3], n8, by simp, by simp [n4, Ne.symm nb1], by simp [n11, Ne.symm nb3],
      by simp [n13, Ne.symm nb4], by simp [Ne.symm n13, Ne.symm na5]⟩
    exact wpAny_pyNext_zipD2_end S (kDraws hh k1 i1 a na4 its.toArray) (kDraws hh k2 i2 b nb5 its2.toArray) hz hTI hTO ⟨h1, p⟩ ⟨h2, p2⟩ (by simpa using l1) (by simpa using l2) (by simpa using hend)
      fun h' tk hk => ⟨rfl, I.turnedL (t' := tk) (ch := [z, TI, TO, i1, i2]) (fun d o hb q => hk d o (fun q' => hb (by simp [q'])) (fun q' => hb (by simp [q'])) (fun q' => hb (by simp [q'])) (fun q' => hb (by simp [q'])) q) hf⟩
  self := fun A i s Q E st h => wpAny_pyIter_zip st.1 h
def iZipK (K : PySem.W.Frag) (ta : TA) : TI := fun σ H R => ta σ H fun vs H1 => ∃ k1 k2 a b xs ys, vs = [.ref a, .ref b] ∧ KSeq K H1 k1 a xs ∧ KSeq K H1 k2 b ys ∧ R (ItzK K k1 k2 a b) H1
def iZipK3 (K : PySem.W.Frag) (ta : TA) : TI := fun σ H R => ta σ H fun vs H1 => ∃ k1 k2 k3 a b c xs ys zs, vs = [.ref a, .ref b, .ref c] ∧ KSeq K H1 k1 a xs ∧ KSeq K H1 k2 b ys ∧ KSeq K H1 k3 c zs ∧ R (ItzK3 K k1 k2 k3 a b c) H1
theorem pi_zipK {X : Cx} {e e2 : Expr} {ta : TA} {p pos tpos : Pos} {elts : List Expr} {kk : Nat} (hg : Gl X "zip") (hm : X.mg "zip" = none) (ha : PA X [e, e2] ta)
    (hs : starEach [e, e2] X.env = (false, eval e X.env) :: starEach [e2] X.env := by rfl) (hpl : (backTo pos (starEach [e2] X.env)).any (·.1) = false := by rfl) :
    PI X (.Tuple elts kk tpos) (.Call (.Name "zip" p) [e, e2] [] pos) (iZipK X.K ta) := by
  refine ⟨fun pins s σ H R I h => ?_⟩
  refine Call_ (ld_blt I hg hm PyProof.Rows.boot_zip (PyProof.Rows.callWith_type1 (thn (ha.run pos pins s σ H _ I h) fun us s1 ⟨vs, H1, I1, r1, q1⟩ => ?_) hs hpl))
  obtain ⟨k1, k2, a, b, xs, ys, ex, hqx, hqy, q⟩ := q1
  subst ex
  obtain ⟨u1, u2, rfl, r1, r2⟩ := vals2 r1
  cases r1
  cases r2
  obtain ⟨its, rv, p1, la⟩ := kAt I1 hqx
  obtain ⟨its2, rv2, p2, lb⟩ := kAt I1 hqy
  refine zip_begins2 (kBegins k1 a its.toArray) (kBegins k2 b its2.toArray) p1 p2 fun h' hz hTI hTO h1 h2 hsz hk => wpAny_pyIter_zip hz ?_
  have I2 : Inv X pins σ H1 { s1 with heap := h' } := I1.kept (t' := s1.toks) hk
  refine ⟨s1.heap.objs.size + 4, [s1.heap.objs.size + 4, s1.heap.objs.size + 2, s1.heap.objs.size + 3, s1.heap.objs.size, s1.heap.objs.size + 1], _, _, H1, rfl, I2, turn_zipK (k1 := k1) (k2 := k2) (a := a) (b := b) (TI := s1.heap.objs.size + 2) (TO := s1.heap.objs.size + 3) (i1 := s1.heap.objs.size) (i2 := s1.heap.objs.size + 1) ?_, ⟨hz, hTI, ⟨_, _, hTO⟩, ⟨KIter.zero h1, KIter.zero h2⟩, ?_, ?_⟩, fun c hcm => ?_, q⟩
  · simp
  · simp only [List.mem_cons, List.not_mem_nil, or_false, not_or]
    have la' := la
    refine ⟨?_, ?_, ?_, ?_, ?_⟩ <;> first | exact Nat.ne_of_lt la | exact Nat.ne_of_lt (Nat.lt_of_lt_of_le la (Nat.le_add_right _ _))
  · simp only [List.mem_cons, List.not_mem_nil, or_false, not_or]
    have lb' := lb
    refine ⟨?_, ?_, ?_, ?_, ?_⟩ <;> first | exact Nat.ne_of_lt lb | exact Nat.ne_of_lt (Nat.lt_of_lt_of_le lb (Nat.le_add_right _ _))
  · have e' : c = s1.heap.objs.size + 4 ∨ c = s1.heap.objs.size + 2 ∨ c = s1.heap.objs.size + 3 ∨ c = s1.heap.objs.size ∨ c = s1.heap.objs.size + 1 := by simpa using hcm
    have hle : s1.heap.objs.size ≤ c := by
      rcases e' with z | z | z | z | z <;> rw [z] <;> first | exact Nat.le_add_right _ _ | exact Nat.le_refl _
    exact I1.fpOk hle (I1.hok.fresh hle)
theorem vals3 {x y z : V} {us : List Value} (r : Vals [x, y, z] us) : ∃ u v w, us = [u, v, w] ∧ RelV x u ∧ RelV y v ∧ RelV z w := by
  cases r with
  | cons r1 r => cases r with
    | cons r2 r => cases r with
      | cons r3 r => cases r; exact ⟨_, _, _, rfl, r1, r2, r3⟩
theorem pi_zipK3 {X : Cx} {e e2 e3 : Expr} {ta : TA} {p pos tpos : Pos} {elts : List Expr} {kk : Nat} (hg : Gl X "zip") (hm : X.mg "zip" = none) (ha : PA X [e, e2, e3] ta)
    (hs : starEach [e, e2, e3] X.env = (false, eval e X.env) :: starEach [e2, e3] X.env := by rfl) (hpl : (backTo pos (starEach [e2, e3] X.env)).any (·.1) = false := by rfl) :
    PI X (.Tuple elts kk tpos) (.Call (.Name "zip" p) [e, e2, e3] [] pos) (iZipK3 X.K ta) := by
  refine ⟨fun pins s σ H R I h => ?_⟩
  refine Call_ (ld_blt I hg hm PyProof.Rows.boot_zip (PyProof.Rows.callWith_type1 (thn (ha.run pos pins s σ H _ I h) fun us s1 ⟨vs, H1, I1, r1, q1⟩ => ?_) hs hpl))
  obtain ⟨k1, k2, k3, a, b, c, xs, ys, zs, ex, hqx, hqy, hqz, q⟩ := q1
  subst ex
  obtain ⟨u1, u2, u3, rfl, r1, r2, r3⟩ := vals3 r1
  cases r1
  cases r2
  cases r3
  obtain ⟨its, rv, p1, la⟩ := kAt I1 hqx
  obtain ⟨its2, rv2, p2, lb⟩ := kAt I1 hqy
  obtain ⟨its3, rv3, p3, lc⟩ := kAt I1 hqz
  refine zip_begins3 (kBegins k1 a its.toArray) (kBegins k2 b its2.toArray) (kBegins k3 c its3.toArray) p1 p2 p3 fun h' hz hTI hTO h1 h2 h3 hsz hk => wpAny_pyIter_zip hz ?_
  have I2 : Inv X pins σ H1 { s1 with heap := h' } := I1.kept (t' := s1.toks) hk
  refine ⟨s1.heap.objs.size + 5, [s1.heap.objs.size + 5, s1.heap.objs.size + 3, s1.heap.objs.size + 4, s1.heap.objs.size, s1.heap.objs.size + 1, s1.heap.objs.size + 2], _, _, H1, rfl, I2, turn_zipK3 (k1 := k1) (k2 := k2) (k3 := k3) (a := a) (b := b) (c := c) (TI := s1.heap.objs.size + 3) (TO := s1.heap.objs.size + 4) (i1 := s1.heap.objs.size) (i2 := s1.heap.objs.size + 1) (i3 := s1.heap.objs.size + 2) ?_, ⟨hz, hTI, ⟨_, _, _, hTO⟩, ⟨KIter.zero h1, KIter.zero h2, KIter.zero h3⟩, ?_, ?_, ?_⟩, fun c hcm => ?_, q⟩
  · simp
  · simp only [List.mem_cons, List.not_mem_nil, or_false, not_or]
    have la' := la
    refine ⟨?_, ?_, ?_, ?_, ?_, ?_⟩ <;> first | exact Nat.ne_of_lt la | exact Nat.ne_of_lt (Nat.lt_of_lt_of_le la (Nat.le_add_right _ _))
  · simp only [List.mem_cons, List.not_mem_nil, or_false, not_or]
    have lb' := lb
    refine ⟨?_, ?_, ?_, ?_, ?_, ?_⟩ <;> first | exact Nat.ne_of_lt lb | exact Nat.ne_of_lt (Nat.lt_of_lt_of_le lb (Nat.le_add_right _ _))
  · simp only [List.mem_cons, List.not_mem_nil, or_false, not_or]
    have lc' := lc
    refine ⟨?_, ?_, ?_, ?_, ?_, ?_⟩ <;> first | exact Nat.ne_of_lt lc | exact Nat.ne_of_lt (Nat.lt_of_lt_of_le lc (Nat.le_add_right _ _))
  · have e' : c = s1.heap.objs.size + 5 ∨ c = s1.heap.objs.size + 3 ∨ c = s1.heap.objs.size + 4 ∨ c = s1.heap.objs.size ∨ c = s1.heap.objs.size + 1 ∨ c = s1.heap.objs.size + 2 := by simpa using hcm
    have hle : s1.heap.objs.size ≤ c := by
      rcases e' with z | z | z | z | z | z <;> rw [z] <;> first | exact Nat.le_add_right _ _ | exact Nat.le_refl _
    exact I1.fpOk hle (I1.hok.fresh hle)

theorem turn_enumK {P : Program} {w : World} {K : PySem.W.Frag} {elts : List Expr} {kk : Nat} {tpos : Pos} {k : Kd} (a e it : Addr) :
    Turn P w K (.Tuple elts kk tpos) (IteK K k a) [e, it] e (fun i h => (∃ old, IsEnum h e it ((i : Nat) : Int) old) ∧ KIter h k it a i ∧ e ≠ it ∧ a ≠ it ∧ e ≠ a) where
  mem := by simp
  obj := fun i h st b hb => by
    obtain ⟨⟨old, he⟩, hi, _⟩ := st
    have e' : b = e ∨ b = it := by simpa using hb
    rcases e' with z | z
    · rw [z]; exact ⟨_, he, fun v q => nomatch q⟩
    · rw [z]; exact hi.ob
  keep := fun i h h' st k => let ⟨⟨old, he⟩, hi, hne⟩ := st; ⟨⟨old, k e (by simp) _ he⟩, hi.at fun o q => k it (by simp) o q, hne⟩
  item := by
    intro X hP hw hK hc i pins s σ H E I hf st hg
    subst hP hw hK
    obtain ⟨⟨old, he⟩, hit, hne, hn2, hn3⟩ := st
    obtain ⟨xs, x, hq, hx⟩ := hg
    obtain ⟨its, rv, p, hz⟩ := kAt I hq
    obtain ⟨u, hu, ru⟩ := rv.get hx
    have hel : e < s.heap.objs.size := Heap.lt_size he
    have hil : it < s.heap.objs.size := by obtain ⟨_, q, _⟩ := hit.ob; exact Heap.lt_size q
    have hh : X.A.in1.handled = none := I.ok.hd hc
    have lt1 : i < its.toArray.size := by simp; exact (List.getElem?_eq_some_iff.mp hu).1
    refine wpAny_pyNext_enum_itemD (kDraws hh k it a hn2 its.toArray) he ⟨hit, p⟩ lt1 hne (by simp [hne, hn3]) fun v h' tk q1 ho hit' hT hsz hk => ?_
    have e1 : v = u := Option.some.inj (q1.symm.trans (by simpa using hu))
    subst e1
    refine ⟨_, rfl, wpAny_letOwnedTupleGo_enum (s := { s with heap := h', toks := tk + 1 }) ho fun h'' he' sb => ?_⟩
    have hT2 := (sb.2 _ (Nat.ne_of_gt hel)).trans hT
    have new : ObjOk X.prog X.w (upd H s.heap.objs.size (.tup [.int (i : Nat), x])) h'' s.heap.objs.size (.tup [.int (i : Nat), x]) :=
      ⟨by show 2 ≤ sizeLine; decide, [.int i tk, v], .cons ⟨_, rfl⟩ (.cons ru .nil), ⟨_, hT2, rfl, _, rfl⟩⟩
    have I1 : Inv X pins σ (upd H s.heap.objs.size (.tup [.int (i : Nat), x])) { s with heap := h'', toks := tk + 1 } :=
      I.turnedNew (ch := [e, it]) (fun b ob hb q => (sb.2 b (fun z => hb (by simp [z]))).trans (hk b ob (fun z => hb (by simp [z])) (fun z => hb (by simp [z])) q)) hf (Nat.le_refl _) new
    refine ⟨.ref s.heap.objs.size, _, I1, rfl, ⟨_, x, rfl, I.hok.fresh (Nat.le_refl _), rfl, fun ys hy => by rw [kInj I hy hq]; exact hx⟩, ⟨⟨v, ?_⟩, hit'.1.at fun o q => (sb.2 it (Ne.symm hne)).trans q, hne, hn2, hn3⟩, fun b hb => ?_⟩
    · have e1 : ((i + 1 : Nat) : Int) = (i : Int) + 1 := by omega
      rw [e1]; exact he'
    · have hb' : b < s.heap.objs.size := by
        have e' : b = e ∨ b = it := by simpa using hb
        rcases e' with z | z
        · rw [z]; exact hel
        · rw [z]; exact hil
      rw [upd_ne (Nat.ne_of_lt hb')]
      exact (hf b hb).1
  done := by
    intro X hP hw hK hc i pins s σ H E I hf st hg
    subst hP hw hK
    obtain ⟨⟨old, he⟩, hit, hne, hn2, hn3⟩ := st
    obtain ⟨xs, hq, hx⟩ := hg
    obtain ⟨its, rv, p, hz⟩ := kAt I hq
    have hl := rv.length
    have hh : X.A.in1.handled = none := I.ok.hd hc
    have ei : i = its.toArray.size := by simp; omega
    subst ei
    exact wpAny_pyNext_enum_endD (kDraws hh k it a hn2 its.toArray) he ⟨hit, p⟩ fun h' hk => ⟨rfl, I.turnedL (t' := s.toks) (ch := [e, it]) (fun d o hb q => hk d o (fun q1 => hb (by simp [q1])) q) hf⟩
  self := fun A i s Q E st h => let ⟨⟨_, he⟩, _⟩ := st; wpAny_pyIter_enum he h
end DL
namespace DL
open PySem PySem.Spec PyProof.Rows L2
/-! ### zip of two lists, handed to one name: the pair that was given out first may live or not -/
/-- the zip's record: f0 tells the pair that is out (none: no pair), f1 a flag -/
abbrev ZRec (h : Heap) (z TI TO : Addr) (f0 f1 : Value) : Prop := h.get? z = some { cls := .type "zip", dict := none, data := .fields #[f0, f1, .bool false, .ref TI, .ref TO], slots := #[] }
/-- what f0, f1 may be -/
def ZOut (f0 f1 : Value) : Prop := (f0 = .none ∧ f1 = .bool false) ∨ ∃ (T : Addr) (f : Bool), f0 = rawInt T ∧ f1 = .bool f
section
variable {prog : Program} {w : World} {A : Around} {E : Value → Shared → Prop} {s : Shared} {z TI TO i1 i2 : Addr} {f0 f1 : Value}
theorem zfree {Q : Bool → Shared → Prop} (o : ZOut f0 f1) (hz : ZRec s.heap z TI TO f0 f1) (hd : ∀ T : Addr, f0 = rawInt T → s.heap.get? T = none) (h : Q true s) : wpAny (model prog w) A (Builtin.SmallTypes.ownedTupleIsFree (.ref z)) Q E s := by
  unfold Builtin.SmallTypes.ownedTupleIsFree
  rcases o with ⟨rfl, rfl⟩ | ⟨T, f, rfl, rfl⟩
  · exact wpAny_bind (wpAny_field hz rfl (x := .none) rfl (wpAny_pure h))
  · refine wpAny_bind (wpAny_field hz rfl (x := rawInt T) rfl ?_)
    show wpAny _ _ (loadIfAlive ((T : Int).toNat) >>= _) _ _ _
    rw [Int.toNat_natCast]
    have q : wpAny (model prog w) A (loadIfAlive T) (fun o s' => o = none ∧ s' = s) E s := fun _ _ _ => ⟨hd T rfl, rfl⟩
    refine wpAny_bind (thn q fun o s' ⟨e1, e2⟩ => ?_)
    subst e1 e2
    exact wpAny_pure h
/-- next where no pair is out that lives -/
theorem znext_free {fp1 fp2 : List Addr} {n1 n2 i : Nat} {P1 P2 : Nat → Value → Prop} {St1 St2 : Nat → Heap → Prop} {a1 a2 : Value} {Q : Value → Shared → Prop} (S : ZipSep2 z TI TO i1 i2 fp1 fp2) (D1 : Draws prog w A i1 fp1 n1 P1 St1) (D2 : Draws prog w A i2 fp2 n2 P2 St2)
    (o : ZOut f0 f1) (hz : ZRec s.heap z TI TO f0 f1) (hd : ∀ T : Addr, f0 = rawInt T → s.heap.get? T = none) (hTI : IsTupOf2 s.heap TI (.ref i1) (.ref i2)) (hTO : IsTupOf2 s.heap TO a1 a2) (st1 : St1 i s.heap) (st2 : St2 i s.heap) (l1 : i < n1) (l2 : i < n2)
    (hQ : ∀ x1 x2 h' tk, P1 i x1 → P2 i x2 → ZRec h' z TI TO (rawInt s.heap.objs.size) (.bool false) → IsTupOf2 h' TO x1 x2 → St1 (i + 1) h' → St2 (i + 1) h' → IsTupOf2 h' s.heap.objs.size x1 x2 → h'.objs.size = s.heap.objs.size + 1 →
      (∀ c o, c ≠ z → c ≠ TO → c ≠ i1 → c ≠ i2 → s.heap.get? c = some o → h'.get? c = some o) → Q (.ref s.heap.objs.size) { s with heap := h', toks := tk }) :
    wpAny (model prog w) A (Builtin.«zip.__next__» ⟨[.ref z], []⟩) (fun fin s' => ∃ v, fin = .done (.ret v) ∧ Q v s') E s := by
  obtain ⟨hp, g, d, tk0, os⟩ := s
  show wpAny _ _ (field (.ref z) 2 >>= _) _ _ _
  refine wpAny_bind (wpAny_field hz rfl (x := .bool false) rfl ?_)
  show wpAny _ _ (field (.ref z) 3 >>= _) _ _ _
  refine wpAny_bind (wpAny_field hz rfl (x := .ref TI) rfl (wpAny_bind (wpAny_seqItems hTI rfl ?_)))
  show wpAny _ _ (Builtin.SmallTypes.ownedTupleIsFree (.ref z) >>= _) _ _ _
  refine wpAny_bind (zfree (s := ⟨hp, g, d, tk0, os⟩) o hz hd ?_)
  simp only [if_true]
  refine wpAny_bind (wpAny_rule (wpAny_bind (wpAny_field hz rfl (x := .ref TO) rfl (wpAny_bind (wpAny_setField_rec hz (by simp) fun g0 hz0 hs0 => ?_)))))
  have hz0 : ZRec g0 z TI TO .ellipsis f1 := hz0
  have hs0 : Heap.SameBut z hp g0 := hs0
  refine wpAny_bind ?_
  simp only [List.zipIdx_cons, List.zipIdx_nil, List.forIn_cons, List.forIn_nil]
  refine wpAny_bind (wpAny_bind (wpAny_onRaise ?_))
  show wpAny _ _ (Builtin.SmallTypes.nextOf (.ref i1) >>= _) _ _ ⟨g0, g, d, tk0, os⟩
  refine wpAny_bind (D1.item i _ _ _ l1 (D1.over st1 hs0 S.zf1) fun x1 p1 tk1 hx1 sn1 hp1 => wpAny_pure ?_)
  have hp1 : Heap.SameBut i1 g0 p1 := hp1
  have u1 : IsTupOf2 p1 TO a1 a2 := hp1.extBut _ _ S.Ti1 (hs0.extBut _ _ S.TOz hTO)
  refine wpAny_bind (wpAny_seqItems (s := ⟨p1, g, d, tk1, os⟩) u1 rfl (wpAny_bind (updateSeq_IsTupOf2 (s := ⟨p1, g, d, tk1, os⟩) u1 fun g1 hT1 hs1 => ?_)))
  have hT1 : IsTupOf2 g1 TO x1 a2 := hT1
  have hs1 : Heap.SameBut TO p1 g1 := hs1
  refine wpAny_bind (wpAny_letGo (wpAny_pure (wpAny_bind (wpAny_bind (wpAny_onRaise ?_)))))
  show wpAny _ _ (Builtin.SmallTypes.nextOf (.ref i2) >>= _) _ _ ⟨g1, g, d, tk1, os⟩
  refine wpAny_bind (D2.item i _ _ _ l2 (D2.over (D2.over (D2.over st2 hs0 S.zf2) hp1 S.sep1_2) hs1 S.Tf2) fun x2 p2 tk2 hx2 sn2 hp2 => wpAny_pure ?_)
  have hp2 : Heap.SameBut i2 g1 p2 := hp2
  have u2 : IsTupOf2 p2 TO x1 a2 := hp2.extBut _ _ S.Ti2 hT1
  refine wpAny_bind (wpAny_seqItems (s := ⟨p2, g, d, tk2, os⟩) u2 rfl (wpAny_bind (updateSeq_IsTupOf2 (s := ⟨p2, g, d, tk2, os⟩) u2 fun g2 hT2 hs2 => ?_)))
  have hT2 : IsTupOf2 g2 TO x1 x2 := hT2
  have hs2 : Heap.SameBut TO p2 g2 := hs2
  refine wpAny_bind (wpAny_letGo (wpAny_pure (wpAny_pure (wpAny_bind (wpAny_seqItems (s := ⟨g2, g, d, tk2, os⟩) hT2 rfl (wpAny_bind (wpAny_newTuple ?_)))))))
  have size : g2.objs.size = hp.objs.size := by rw [hs2.1, hp2.1, hs1.1, hp1.1, hs0.1]
  have rec2 : ZRec g2 z TI TO .ellipsis f1 := hs2.extBut _ _ S.TOz.symm (hp2.extBut _ _ S.zi2 (hs1.extBut _ _ S.TOz.symm (hp1.extBut _ _ S.zi1 hz0)))
  have keep2 : ∀ c o, c ≠ z → c ≠ TO → c ≠ i1 → c ≠ i2 → hp.get? c = some o → g2.get? c = some o := fun c o cz cT c1 c2 e =>
    hs2.extBut _ _ cT (hp2.extBut _ _ c2 (hs1.extBut _ _ cT (hp1.extBut _ _ c1 (hs0.extBut _ _ cz e))))
  have j1 : St1 (i + 1) g2 := D1.over (D1.over (D1.over sn1 hs1 S.Tf1) hp2 S.sep2_1) hs2 S.Tf1
  have j2 : St2 (i + 1) g2 := D2.over sn2 hs2 S.Tf2
  have zlt : z < g2.objs.size := Heap.lt_size rec2
  show wpAny _ _ (Builtin.SmallTypes.ownedTupleHandOut (.ref z) (.ref g2.objs.size) >>= _) _ _ ⟨g2.push { cls := .type "tuple", data := .seq #[x1, x2] }, g, d, tk2, os⟩
  refine wpAny_bind ?_
  unfold Builtin.SmallTypes.ownedTupleHandOut
  have rec3 : ZRec (g2.push { cls := .type "tuple", data := .seq #[x1, x2] }) z TI TO .ellipsis f1 := Heap.get?_push_of_some _ rec2
  refine wpAny_bind (wpAny_setField_rec rec3 (by simp) fun h7 rec7 hs7 => ?_)
  have rec7 : ZRec h7 z TI TO (rawInt g2.objs.size) f1 := rec7
  refine wpAny_setField_rec rec7 (by simp) fun h8 rec8 hs8 => ?_
  have rec8 : ZRec h8 z TI TO (rawInt g2.objs.size) (.bool false) := rec8
  have hs7 : Heap.SameBut z (g2.push { cls := .type "tuple", data := .seq #[x1, x2] }) h7 := hs7
  have hs8 : Heap.SameBut z h7 h8 := hs8
  have up : ∀ c o, c ≠ z → g2.get? c = some o → h8.get? c = some o := fun c o c1 e => hs8.extBut _ _ c1 (hs7.extBut _ _ c1 (Heap.get?_push_of_some _ e))
  have t8 : IsTupOf2 h8 g2.objs.size x1 x2 := hs8.extBut _ _ (Nat.ne_of_gt zlt) (hs7.extBut _ _ (Nat.ne_of_gt zlt) (Heap.get?_push_size _ rfl))
  have s8 : h8.objs.size = g2.objs.size + 1 := by rw [hs8.1, hs7.1, Heap.size_push]
  rw [size] at rec8 t8 s8
  refine wpAny_pure ⟨_, rfl, ?_⟩
  show Q (.ref g2.objs.size) ⟨h8, g, d, tk2, os⟩
  rw [size]
  exact hQ x1 x2 h8 tk2 hx1 hx2 rec8 (up _ _ S.TOz hT2) (D1.frame _ _ _ j1 fun b hb o e => up b o (fun q => S.zf1 (q ▸ hb)) e) (D2.frame _ _ _ j2 fun b hb o e => up b o (fun q => S.zf2 (q ▸ hb)) e) t8 s8 fun c o cz cT c1 c2 e => up c o cz (keep2 c o cz cT c1 c2 e)
/-- .. and at its end (the first list, then the second one may end) -/
theorem znext_free_end {fp1 fp2 : List Addr} {n1 n2 i : Nat} {P1 P2 : Nat → Value → Prop} {St1 St2 : Nat → Heap → Prop} {a1 a2 : Value} {Q : Fin → Shared → Prop} (S : ZipSep2 z TI TO i1 i2 fp1 fp2) (D1 : Draws prog w A i1 fp1 n1 P1 St1) (D2 : Draws prog w A i2 fp2 n2 P2 St2)
    (o : ZOut f0 f1) (hz : ZRec s.heap z TI TO f0 f1) (hd : ∀ T : Addr, f0 = rawInt T → s.heap.get? T = none) (hTI : IsTupOf2 s.heap TI (.ref i1) (.ref i2)) (hTO : IsTupOf2 s.heap TO a1 a2) (st1 : St1 i s.heap) (st2 : St2 i s.heap) (l1 : i ≤ n1) (l2 : i ≤ n2) (le : i = n1 ∨ i = n2)
    (hE : ∀ h' tk e, (∀ c o, c ≠ z → c ≠ TO → c ≠ i1 → c ≠ i2 → s.heap.get? c = some o → h'.get? c = some o) → (∃ o, h'.get? e = some o ∧ o.cls = .type "StopIteration") → E (.ref e) { s with heap := h', toks := tk }) :
    wpAny (model prog w) A (Builtin.«zip.__next__» ⟨[.ref z], []⟩) Q E s := by
  obtain ⟨hp, g, d, tk0, os⟩ := s
  show wpAny _ _ (field (.ref z) 2 >>= _) _ _ _
  refine wpAny_bind (wpAny_field hz rfl (x := .bool false) rfl ?_)
  show wpAny _ _ (field (.ref z) 3 >>= _) _ _ _
  refine wpAny_bind (wpAny_field hz rfl (x := .ref TI) rfl (wpAny_bind (wpAny_seqItems hTI rfl ?_)))
  show wpAny _ _ (Builtin.SmallTypes.ownedTupleIsFree (.ref z) >>= _) _ _ _
  refine wpAny_bind (zfree (s := ⟨hp, g, d, tk0, os⟩) o hz hd ?_)
  simp only [if_true]
  refine wpAny_bind (wpAny_rule (wpAny_bind (wpAny_field hz rfl (x := .ref TO) rfl (wpAny_bind (wpAny_setField_rec hz (by simp) fun g0 hz0 hs0 => ?_)))))
  have hz0 : ZRec g0 z TI TO .ellipsis f1 := hz0
  have hs0 : Heap.SameBut z hp g0 := hs0
  refine wpAny_bind ?_
  simp only [List.zipIdx_cons, List.zipIdx_nil, List.forIn_cons, List.forIn_nil]
  refine wpAny_bind (wpAny_bind (wpAny_onRaise ?_))
  show wpAny _ _ (Builtin.SmallTypes.nextOf (.ref i1) >>= _) _ _ ⟨g0, g, d, tk0, os⟩
  by_cases hlt : i < n1
  · refine wpAny_bind (D1.item i _ _ _ hlt (D1.over st1 hs0 S.zf1) fun x1 p1 tk1 hx1 sn1 hp1 => wpAny_pure ?_)
    have hp1 : Heap.SameBut i1 g0 p1 := hp1
    have u1 : IsTupOf2 p1 TO a1 a2 := hp1.extBut _ _ S.Ti1 (hs0.extBut _ _ S.TOz hTO)
    refine wpAny_bind (wpAny_seqItems (s := ⟨p1, g, d, tk1, os⟩) u1 rfl (wpAny_bind (updateSeq_IsTupOf2 (s := ⟨p1, g, d, tk1, os⟩) u1 fun g1 hT1 hs1 => ?_)))
    have hT1 : IsTupOf2 g1 TO x1 a2 := hT1
    have hs1 : Heap.SameBut TO p1 g1 := hs1
    refine wpAny_bind (wpAny_letGo (wpAny_pure (wpAny_bind (wpAny_bind (wpAny_onRaise ?_)))))
    show wpAny _ _ (Builtin.SmallTypes.nextOf (.ref i2) >>= _) _ _ ⟨g1, g, d, tk1, os⟩
    have e2 : i = n2 := by omega
    refine wpAny_bind (D2.done ⟨g1, g, d, tk1, os⟩ _ _ (by rw [← e2]; exact (D2.over (D2.over (D2.over st2 hs0 S.zf2) hp1 S.sep1_2) hs1 S.Tf2)) fun q e hq he => ?_)
    have hq : Heap.ExtBut i2 g1 q := hq
    obtain ⟨oe, hoe, hce⟩ := he
    have hoe : q.get? e = some oe := hoe
    have rq : ZRec q z TI TO .ellipsis f1 := hq _ _ S.zi2 (hs1.extBut _ _ S.TOz.symm (hp1.extBut _ _ S.zi1 hz0))
    have nez : e ≠ z := fun x => by subst x; rw [rq] at hoe; cases hoe; simp at hce
    refine wpAny_setField_rec (s := ⟨q, g, d, tk1, os⟩) rq (by simp) fun q' _ hq' => ?_
    have hq' : Heap.SameBut z q q' := hq'
    exact hE q' tk1 e (fun c o cz cT c1 c2 x => hq'.extBut _ _ cz (hq _ _ c2 (hs1.extBut _ _ cT (hp1.extBut _ _ c1 (hs0.extBut _ _ cz x))))) ⟨oe, hq'.extBut _ _ nez hoe, hce⟩
  · have e1 : i = n1 := by omega
    refine wpAny_bind (D1.done ⟨g0, g, d, tk0, os⟩ _ _ (by rw [← e1]; exact (D1.over st1 hs0 S.zf1)) fun q e hq he => ?_)
    have hq : Heap.ExtBut i1 g0 q := hq
    obtain ⟨oe, hoe, hce⟩ := he
    have hoe : q.get? e = some oe := hoe
    have rq : ZRec q z TI TO .ellipsis f1 := hq _ _ S.zi1 hz0
    have nez : e ≠ z := fun x => by subst x; rw [rq] at hoe; cases hoe; simp at hce
    refine wpAny_setField_rec (s := ⟨q, g, d, tk0, os⟩) rq (by simp) fun q' _ hq' => ?_
    have hq' : Heap.SameBut z q q' := hq'
    exact hE q' tk0 e (fun c o cz cT c1 c2 x => hq'.extBut _ _ cz (hq _ _ c1 (hs0.extBut _ _ cz x))) ⟨oe, hq'.extBut _ _ nez hoe, hce⟩
end
/-- the lists at a and b, their pairs to one name -/
theorem turn_zipN {P : Program} {w : World} {K : PySem.W.Frag} {x0 : Str} {tpos : Pos} {a b z TI TO i1 i2 : Addr} (D : ZipApart z TI TO i1 i2 a b) :
    Turn P w K (.Name x0 tpos) (ItzK K .l .l a b) [z, TI, TO, i1, i2] z (fun i h => (∃ f0 f1, ZOut f0 f1 ∧ ZRec h z TI TO f0 f1) ∧ IsTupOf2 h TI (.ref i1) (.ref i2) ∧ (∃ x y, IsTupOf2 h TO x y) ∧ h.IsListIter i1 a i ∧ h.IsListIter i2 b i) where
  mem := by simp
  obj := fun i h st d hd => by
    obtain ⟨⟨f0, f1, _, hz⟩, hTI, ⟨x, y, hTO⟩, h1, h2⟩ := st
    have e' : d = z ∨ d = TI ∨ d = TO ∨ d = i1 ∨ d = i2 := by simpa using hd
    rcases e' with q | q | q | q | q
    · rw [q]; exact ⟨_, hz, fun v q => nomatch q⟩
    · rw [q]; exact ⟨_, hTI, fun v q => nomatch q⟩
    · rw [q]; exact ⟨_, hTO, fun v q => nomatch q⟩
    · rw [q]; exact KIter.ob (k := .l) h1
    · rw [q]; exact KIter.ob (k := .l) h2
  keep := fun i h h' st k => by
    obtain ⟨⟨f0, f1, zo, hz⟩, hTI, ⟨x, y, hTO⟩, h1, h2⟩ := st
    exact ⟨⟨f0, f1, zo, k z (by simp) _ hz⟩, k TI (by simp) _ hTI, ⟨x, y, k TO (by simp) _ hTO⟩, h1.at fun o q => k i1 (by simp) o q, h2.at fun o q => k i2 (by simp) o q⟩
  item := by
    intro X hP hw hK hc i pins s σ H E I hf st hg
    subst hP hw hK
    obtain ⟨⟨f0, f1, zo, hz⟩, hTI, ⟨v0, w0, hTO⟩, h1, h2⟩ := id st
    obtain ⟨xs, ys, x, y, hqx, hqy, hx, hy⟩ := hg
    obtain ⟨its, rv, p, _⟩ := I.list hqx
    obtain ⟨its2, rv2, p2, _⟩ := I.list hqy
    obtain ⟨u, hu, ru⟩ := rv.get hx
    obtain ⟨u2, hu2, ru2⟩ := rv2.get hy
    have hzl : z < s.heap.objs.size := Heap.lt_size hz
    have hh : X.A.in1.handled = none := I.ok.hd hc
    have hTy : s.TypeIs (.ref z) "zip" := ⟨_, hz, rfl⟩
    -- what holds of the next pair
    have fin : ∀ (f0' f1' : Value) (h' : Heap) (tk : Nat) (x' y' : Value), ZOut f0' f1' → ZRec h' z TI TO f0' f1' → IsTupOf2 h' TO x' y' → h'.IsListIter i1 a (i + 1) → h'.IsListIter i2 b (i + 1) → IsTupOf2 h' s.heap.objs.size u u2 → (∀ c o, c ≠ z → c ≠ TO → c ≠ i1 → c ≠ i2 → s.heap.get? c = some o → h'.get? c = some o) →
        wpAny (model X.prog X.w) X.A (letOwnedTupleGo (.Name x0 tpos) (.ref z) (.ref s.heap.objs.size)) (fun _ s2 => ∃ v H', Inv X pins σ H' s2 ∧ RelV v (.ref s.heap.objs.size) ∧ (ItzK X.K .l .l a b).yld i H v H' ∧
          ((∃ f0 f1, ZOut f0 f1 ∧ ZRec s2.heap z TI TO f0 f1) ∧ IsTupOf2 s2.heap TI (.ref i1) (.ref i2) ∧ (∃ x y, IsTupOf2 s2.heap TO x y) ∧ s2.heap.IsListIter i1 a (i + 1) ∧ s2.heap.IsListIter i2 b (i + 1)) ∧ ∀ b_1 ∈ [z, TI, TO, i1, i2], H' b_1 = none) E { s with heap := h', toks := tk } := by
      intro f0' f1' h' tk x' y' zo' z' TO' s1 s2 hT hk
      refine wpAny_pure ?_
      have new : ObjOk X.prog X.w (upd H s.heap.objs.size (.tup [x, y])) h' s.heap.objs.size (.tup [x, y]) :=
        ⟨by show 2 ≤ sizeLine; decide, [u, u2], .cons ru (.cons ru2 .nil), ⟨_, hT, rfl, _, rfl⟩⟩
      have I1 : Inv X pins σ (upd H s.heap.objs.size (.tup [x, y])) { s with heap := h', toks := tk } :=
        I.turnedNew (t' := tk) (ch := [z, TI, TO, i1, i2]) (fun d o hb q => hk d o (fun q' => hb (by simp [q'])) (fun q' => hb (by simp [q'])) (fun q' => hb (by simp [q'])) (fun q' => hb (by simp [q'])) q) hf (Nat.le_refl _) new
      refine ⟨.ref s.heap.objs.size, _, I1, rfl, ⟨_, x, y, rfl, I.hok.fresh (Nat.le_refl _), rfl, fun l hl => by rw [I.list_inj hl hqx]; exact hx, fun l hl => by rw [I.list_inj hl hqy]; exact hy⟩, ⟨⟨f0', f1', zo', z'⟩, hk _ _ D.TIz D.TITO D.TIi1 D.TIi2 hTI, ⟨x', y', TO'⟩, s1, s2⟩, fun d hdm => ?_⟩
      have hlt : d < s.heap.objs.size := by
        have e' : d = z ∨ d = TI ∨ d = TO ∨ d = i1 ∨ d = i2 := by simpa using hdm
        rcases e' with q | q | q | q | q
        · rw [q]; exact hzl
        · rw [q]; exact Heap.lt_size hTI
        · rw [q]; exact Heap.lt_size hTO
        · rw [q]; obtain ⟨_, e1, _⟩ := h1; exact Heap.lt_size e1
        · rw [q]; obtain ⟨_, e2, _⟩ := h2; exact Heap.lt_size e2
      rw [upd_ne (Nat.ne_of_lt hlt)]
      exact (hf d hdm).1
    -- does the pair that is out live?
    by_cases hd : ∀ T : Addr, f0 = rawInt T → s.heap.get? T = none
    · have S : ZipSep2 z TI TO i1 i2 [i1, a] [i2, b] := ⟨D.TIz, D.TOz, D.TITO, D.TIi1, by simp, by simp [Ne.symm D.i1z, Ne.symm D.l1z], by simp [D.TOi1, Ne.symm D.l1TO], D.TIi2, by simp, by simp [Ne.symm D.i2z, Ne.symm D.l2z], by simp [D.TOi2, Ne.symm D.l2TO],
        by simp [D.i12, Ne.symm D.l2i1], by simp [Ne.symm D.i12, Ne.symm D.l1i2]⟩
      have lt1 : i < its.toArray.size := by simp; exact (List.getElem?_eq_some_iff.mp hu).1
      have lt2 : i < its2.toArray.size := by simp; exact (List.getElem?_eq_some_iff.mp hu2).1
      unfold pyNext
      refine wpAny_bind (wpAny_attempt (wpAny_callSpecial?_slot (name := Str.ofString "__next__") hTy F.slot_zip_next (wpAny_call_entry F.slot_zip_next hTy F.entry_zip_next ?_ (F.args_zip_next_1 _))))
      refine znext_free S (Draws.list hh i1 a D.l1i1 its.toArray) (Draws.list hh i2 b D.l2i2 its2.toArray) zo hz hd hTI hTO ⟨h1, p.isList⟩ ⟨h2, p2.isList⟩ lt1 lt2 fun v1 v2 h' tk q1 q2 z' TO' s1 s2 hT hsz hk => wpAny_pure ⟨_, rfl, ?_⟩
      have e1 : v1 = u := Option.some.inj (q1.symm.trans (by simpa using hu))
      have e2 : v2 = u2 := Option.some.inj (q2.symm.trans (by simpa using hu2))
      subst e1 e2
      exact fin _ _ h' tk v1 v2 (.inr ⟨_, _, rfl, rfl⟩) z' TO' s1.1 s2.1 hT hk
    · obtain ⟨T, hd⟩ := Classical.not_forall.mp hd
      obtain ⟨e0, hT0⟩ := Classical.not_imp.mp hd
      obtain ⟨oT, hoT⟩ : ∃ oT, s.heap.get? T = some oT := by
        cases q : s.heap.get? T with
        | none => exact absurd q hT0
        | some oT => exact ⟨oT, rfl⟩
      rcases zo with ⟨z1, _⟩ | ⟨T', f, z1, z2⟩
      · rw [z1] at e0; cases e0
      · subst e0 z2
        refine PySem.wpAny_pyNext_zip_item_held D hz hoT hTI h1 h2 p.isList p2.isList (x := u) (y := u2) (by simpa using hu) (by simpa using hu2) fun h' z' s1 s2 hT hsz hk => ⟨_, rfl, ?_⟩
        exact fin _ _ h' s.toks v0 w0 (.inr ⟨_, _, rfl, rfl⟩) z' (hk _ _ D.TOz D.TOi1 D.TOi2 hTO) s1 s2 hT fun c o cz _ c1 c2 e => hk c o cz c1 c2 e
  done := by
    intro X hP hw hK hc i pins s σ H E I hf st hg
    subst hP hw hK
    obtain ⟨⟨f0, f1, zo, hz⟩, hTI, ⟨v0, w0, hTO⟩, h1, h2⟩ := id st
    obtain ⟨xs, ys, hqx, hqy, l1, l2, hend⟩ := hg
    obtain ⟨its, rv, p, _⟩ := I.list hqx
    obtain ⟨its2, rv2, p2, _⟩ := I.list hqy
    rw [rv.length] at l1 hend
    rw [rv2.length] at l2 hend
    have hh : X.A.in1.handled = none := I.ok.hd hc
    have hTy : s.TypeIs (.ref z) "zip" := ⟨_, hz, rfl⟩
    by_cases hd : ∀ T : Addr, f0 = rawInt T → s.heap.get? T = none
    · have S : ZipSep2 z TI TO i1 i2 [i1, a] [i2, b] := ⟨D.TIz, D.TOz, D.TITO, D.TIi1, by simp, by simp [Ne.symm D.i1z, Ne.symm D.l1z], by simp [D.TOi1, Ne.symm D.l1TO], D.TIi2, by simp, by simp [Ne.symm D.i2z, Ne.symm D.l2z], by simp [D.TOi2, Ne.symm D.l2TO],
        by simp [D.i12, Ne.symm D.l2i1], by simp [Ne.symm D.i12, Ne.symm D.l1i2]⟩
      unfold pyNext
      refine wpAny_bind (wpAny_attempt (wpAny_callSpecial?_slot (name := Str.ofString "__next__") hTy F.slot_zip_next (wpAny_call_entry F.slot_zip_next hTy F.entry_zip_next ?_ (F.args_zip_next_1 _))))
      refine znext_free_end S (Draws.list hh i1 a D.l1i1 its.toArray) (Draws.list hh i2 b D.l2i2 its2.toArray) zo hz hd hTI hTO ⟨h1, p.isList⟩ ⟨h2, p2.isList⟩ (by simpa using l1) (by simpa using l2) (by simpa using hend) fun h' tk e hk he => ?_
      obtain ⟨o, ho, hcl⟩ := he
      refine wpAny_bind (wpAny_isInstance (T := "StopIteration") (b := true) ⟨o, ho, hcl⟩ isSubtype_stop (wpAny_pure ⟨rfl, ?_⟩))
      exact I.turnedL (t' := tk) (ch := [z, TI, TO, i1, i2]) (fun d o hb q => hk d o (fun q' => hb (by simp [q'])) (fun q' => hb (by simp [q'])) (fun q' => hb (by simp [q'])) (fun q' => hb (by simp [q'])) q) hf
    · obtain ⟨T, hd⟩ := Classical.not_forall.mp hd
      obtain ⟨e0, hT0⟩ := Classical.not_imp.mp hd
      obtain ⟨oT, hoT⟩ : ∃ oT, s.heap.get? T = some oT := by
        cases q : s.heap.get? T with
        | none => exact absurd q hT0
        | some oT => exact ⟨oT, rfl⟩
      rcases zo with ⟨z1, _⟩ | ⟨T', f, z1, z2⟩
      · rw [z1] at e0; cases e0
      · subst e0 z2
        have he : its.toArray[i]? = none ∨ its2.toArray[i]? = none := by
          rcases hend with q | q
          · exact .inl (by simp; omega)
          · exact .inr (by simp; omega)
        exact PySem.wpAny_pyNext_zip_end_held (I.ok.hd hc) D hz hoT hTI h1 h2 p.isList p2.isList he fun h' hk => ⟨rfl, I.turnedL (t' := s.toks) (ch := [z, TI, TO, i1, i2]) (fun d o hb q => hk d o (fun q' => hb (by simp [q'])) (fun q' => hb (by simp [q'])) (fun q' => hb (by simp [q'])) q) hf⟩
  self := fun A i s Q E st h => by
    obtain ⟨⟨f0, f1, zo, hz⟩, _⟩ := st
    have hT : s.TypeIs (.ref z) "zip" := ⟨_, hz, rfl⟩
    refine wpAny_pyIter_slot hT F.slot_zip_iter (wpAny_call_entry F.slot_zip_iter hT F.entry_zip_iter ?_ (F.args_zip_iter_1 _))
    show wpAny _ _ (ret (.ref z)) _ _ s
    exact wpAny_pure ⟨_, rfl, "zip", _, hT, F.slot_zip_next.lookup, h⟩
end DL
namespace DL
open PySem PySem.Spec PyProof.Rows L2
/-! ### what may be walked -/
def isSq : D → Bool
  | .lst _ => true
  | .tup _ => true
  | .frz _ => true
  | .hnd _ => true
  | _ => false
def statOf : D → Option (List D)
  | .lst ds => some ds
  | .tup ds => some ds
  | .frz ds => some ds
  | _ => none
def srcOf : D → Option Src
  | .lst ds => some (.sq ds)
  | .tup ds => some (.sq ds)
  | .frz ds => some (.sq ds)
  | .hnd n => some (.hd n)
  | .str x => some (.sq (x.cps.toList.map fun c => .str ⟨#[c]⟩))
  | _ => none
def zip2 : List D → List D → List D
  | x :: xs, y :: ys => .tup [x, y] :: zip2 xs ys
  | _, _ => []
def zip3 : List D → List D → List D → List D
  | x :: xs, y :: ys, z :: zs => .tup [x, y, z] :: zip3 xs ys zs
  | _, _, _ => []
def enumD : Nat → List D → List D
  | _, [] => []
  | i, x :: xs => .tup [.int i, x] :: enumD (i + 1) xs
def rangeD : Int → Nat → List D
  | _, 0 => []
  | lo, n + 1 => .int lo :: rangeD (lo + 1) n
def fAny (f : Rho → Sto → R D) : Rho → Sto → R Src := fun ρ st => (f ρ st).bind fun d st => .of (srcOf d) st
def zsrc2 (a b : D) : Option Src := match statOf a, statOf b with
  | some xs, some ys => some (.sq (zip2 xs ys))
  | _, _ => if isSq a && isSq b then some (.z2 a b) else none
def zsrc3 (a b c : D) : Option Src := match statOf a, statOf b, statOf c with
  | some xs, some ys, some zs => some (.sq (zip3 xs ys zs))
  | _, _, _ => if isSq a && isSq b && isSq c then some (.z3 a b c) else none
def esrc (a : D) : Option Src := match statOf a with
  | some xs => some (.sq (enumD 0 xs))
  | _ => if isSq a then some (.en a) else none
def fZip2 (f : Rho → Sto → R (List D)) : Rho → Sto → R Src := fun ρ st => (f ρ st).bind fun ds st => match ds with
  | [a, b] => .of (zsrc2 a b) st
  | _ => .bad
def fZip3 (f : Rho → Sto → R (List D)) : Rho → Sto → R Src := fun ρ st => (f ρ st).bind fun ds st => match ds with
  | [a, b, c] => .of (zsrc3 a b c) st
  | _ => .bad
def fEnum (f : Rho → Sto → R (List D)) : Rho → Sto → R Src := fun ρ st => (f ρ st).bind fun ds st => match ds with
  | [a] => .of (esrc a) st
  | _ => .bad
def isLst : D → Bool
  | .lst _ => true
  | .frz _ => true
  | .hnd _ => true
  | _ => false
def fZipN (f : Rho → Sto → R (List D)) : Rho → Sto → R Src := fun ρ st => (f ρ st).bind fun ds st => match ds with
  | [a, b] => if isLst a && isLst b then .of (zsrc2 a b) st else .bad
  | _ => .bad
def rngOk (j : Int) : Bool := Nat.blt j.natAbs 4611686018427387904
theorem rngOk_iff {j : Int} (h : rngOk j = true) : -(2 ^ 62) ≤ j ∧ j < 2 ^ 62 := by
  unfold rngOk at h
  rw [Nat.blt_eq] at h
  omega
def fRng1 (f : Rho → Sto → R (List D)) : Rho → Sto → R Src := fun ρ st => (f ρ st).bind fun ds st => match ds with
  | [.int j] => if rngOk j then .ok (.sq (rangeD 0 j.toNat)) st else .bad
  | _ => .bad
def fRng2 (f : Rho → Sto → R (List D)) : Rho → Sto → R Src := fun ρ st => (f ρ st).bind fun ds st => match ds with
  | [.int i, .int j] => if rngOk i && rngOk j then .ok (.sq (rangeD i (j - i).toNat)) st else .bad
  | _ => .bad
theorem zip2_get : ∀ (xs ys : List D) (i : Nat), (zip2 xs ys)[i]? = pr2 xs[i]? ys[i]?
  | [], _, i => by simp [zip2, pr2]
  | x :: xs, [], i => by
    simp only [zip2, List.getElem?_nil]
    cases (x :: xs)[i]? <;> rfl
  | x :: xs, y :: ys, 0 => by simp [zip2, pr2]
  | x :: xs, y :: ys, i + 1 => by
    simp only [zip2, List.getElem?_cons_succ]
    exact zip2_get xs ys i
theorem zip3_get : ∀ (xs ys zs : List D) (i : Nat), (zip3 xs ys zs)[i]? = pr3 xs[i]? ys[i]? zs[i]?
  | [], _, _, i => by simp [zip3, pr3]
  | x :: xs, [], zs, i => by
    simp only [zip3, List.getElem?_nil]
    cases (x :: xs)[i]? <;> cases zs[i]? <;> rfl
  | x :: xs, y :: ys, [], i => by
    simp only [zip3, List.getElem?_nil]
    cases (x :: xs)[i]? <;> cases (y :: ys)[i]? <;> rfl
  | x :: xs, y :: ys, z :: zs, 0 => by simp [zip3, pr3]
  | x :: xs, y :: ys, z :: zs, i + 1 => by
    simp only [zip3, List.getElem?_cons_succ]
    exact zip3_get xs ys zs i
theorem enum_get : ∀ (xs : List D) (k i : Nat), (enumD k xs)[i]? = prE (k + i) xs[i]?
  | [], k, i => by simp [enumD, prE]
  | x :: xs, k, 0 => by simp [enumD, prE]
  | x :: xs, k, i + 1 => by
    simp only [enumD, List.getElem?_cons_succ]
    rw [enum_get xs (k + 1) i, show k + 1 + i = k + (i + 1) by omega]
theorem range_get : ∀ (n : Nat) (lo : Int) (i : Nat), (rangeD lo n)[i]? = if i < n then some (.int (lo + i)) else none
  | 0, lo, i => by simp [rangeD]
  | n + 1, lo, 0 => by simp [rangeD]
  | n + 1, lo, i + 1 => by
    simp only [rangeD, List.getElem?_cons_succ]
    rw [range_get n (lo + 1) i, show lo + 1 + (i : Int) = lo + ((i + 1 : Nat) : Int) by omega]
    simp
section
variable {K : PySem.W.Frag} {mg : Str → Option Value} {W : WX} {αs T : List Addr} {H : Hp} {st : Sto}
/-- a datum that may be walked, as it stands later -/
def SeqAll (K : PySem.W.Frag) (mg : Str → Option Value) (αs T : List Addr) (H : Hp) (k : Kd) (a : Addr) (d : D) : Prop :=
  ∀ αs' T' H2 st, (∀ d v, Rep K mg αs T H d v → Rep K mg αs' T' H2 d v) → Rel K mg αs' T' H2 st → ∃ ds xs, seqOf st d = some ds ∧ KSeq K H2 k a xs ∧ Reps K mg αs' T' H2 ds xs
theorem kseq_l {a : Addr} {xs : List V} (h : SqL K H a xs) : KSeq K H .l a xs := h
theorem kseq_t {a : Addr} {xs : List V} (h : SqT K H a xs) : KSeq K H .t a xs := h
theorem seq_l {d : D} {v : V} (h : Rep K mg αs T H d v) (e : isLst d = true) : ∃ a, v = .ref a ∧ SeqAll K mg αs T H .l a d := by
  cases d <;> simp only [isLst] at e <;> try (cases e; done)
  · rename_i ds
    obtain ⟨a, xs, rfl, _⟩ := rep_lst.mp h
    refine ⟨a, rfl, fun αs' T' H2 st f R => ?_⟩
    obtain ⟨a2, xs2, e2, h1, h2⟩ := rep_lst.mp (f _ _ h)
    cases e2
    exact ⟨ds, xs2, rfl, kseq_l h1.sq, h2⟩
  · rename_i n
    obtain ⟨a, rfl, ha⟩ := rep_hnd.mp h
    refine ⟨a, rfl, fun αs' T' H2 st f R => ?_⟩
    have ha2 : αs'[n]? = some a ∧ DL.IsLst H2 a := by
      obtain ⟨b, e1, e2⟩ := rep_hnd.mp (f _ _ h)
      cases e1
      exact e2
    have hl : n < st.length := by rw [← R.len]; exact (List.getElem?_eq_some_iff.mp ha2.1).1
    obtain ⟨xs, h2, h3⟩ := R.lc ha2 (List.getElem?_eq_getElem hl)
    exact ⟨_, xs, List.getElem?_eq_getElem hl, kseq_l (.of h2), h3⟩
  · rename_i ds
    obtain ⟨a, xs, rfl, _⟩ := rep_frz.mp h
    refine ⟨a, rfl, fun αs' T' H2 st f R => ?_⟩
    obtain ⟨a2, xs2, e2, h1, h2⟩ := rep_frz.mp (f _ _ h)
    cases e2
    exact ⟨ds, xs2, rfl, kseq_l h1.sq, h2⟩
theorem seq_all {d : D} {v : V} (h : Rep K mg αs T H d v) (e : isSq d = true) : ∃ k a, v = .ref a ∧ SeqAll K mg αs T H k a d := by
  cases d <;> simp only [isSq] at e <;> try (cases e; done)
  · rename_i ds
    obtain ⟨a, xs, rfl, _⟩ := rep_tup.mp h
    refine ⟨.t, a, rfl, fun αs' T' H2 st f R => ?_⟩
    obtain ⟨a2, xs2, e2, h1, h2⟩ := rep_tup.mp (f _ _ h)
    cases e2
    exact ⟨ds, xs2, rfl, kseq_t h1.sq, h2⟩
  · obtain ⟨a, e1, q⟩ := seq_l h (by rfl); exact ⟨.l, a, e1, q⟩
  · obtain ⟨a, e1, q⟩ := seq_l h (by rfl); exact ⟨.l, a, e1, q⟩
  · obtain ⟨a, e1, q⟩ := seq_l h (by rfl); exact ⟨.l, a, e1, q⟩
theorem stat_seq {d : D} {ds : List D} (e : statOf d = some ds) (st : Sto) : seqOf st d = some ds := by
  cases d <;> simp only [statOf] at e <;> first | (cases e; rfl) | cases e
theorem stat_sq {d : D} {ds : List D} (e : statOf d = some ds) : isSq d = true := by
  cases d <;> simp only [statOf] at e <;> first | rfl | cases e
theorem SeqAll.now (q : SeqAll K mg αs T H k a d) (R : Rel K mg αs T H st) : ∃ xs, KSeq K H k a xs := let ⟨_, xs, _, h, _⟩ := q αs T H st (fun _ _ h => h) R; ⟨xs, h⟩
/-- the same source as a known line -/
theorem SrcOk.line {J : It} {z : Src} {ds : List D} (h : SrcOk K mg αs T H J z) (hi : ∀ st i, itemAt st z i = ds[i]?) (he : ∀ st i, ds[i]? = none → i ≤ ds.length → endOk st z i = true) : SrcOk K mg αs T H J (.sq ds) := by
  intro αs' T' H2 st i F f R
  obtain ⟨h1, h2⟩ := h αs' T' H2 st i F f R
  rw [hi st i] at h1 h2
  exact ⟨fun e q => h1 e (he st i e (Nat.le_of_ble_eq_true q)), h2⟩
theorem src_list {a : Addr} {d : D} {z : Src} (q : SeqAll K mg αs T H .l a d) (hz : ∀ st i, itemAt st z i = nth st d i) : SrcOk K mg αs T H (Itl K a) z := by
  intro αs' T' H2 st i F f R
  obtain ⟨ds, xs, e, h1, h2⟩ := q αs' T' H2 st f R
  have en : nth st d i = ds[i]? := by unfold nth; rw [e]
  rw [hz st i, en]
  refine ⟨fun e1 _ => ⟨xs, h1, by rw [h2.len]; exact List.getElem?_eq_none_iff.mp e1⟩, fun c hc => ?_⟩
  obtain ⟨v, e2, r⟩ := h2.get hc
  refine ⟨⟨xs, v, h1, e2⟩, fun x H3 hy => ?_⟩
  obtain ⟨rfl, hx⟩ := hy
  have := (hx xs h1).symm.trans e2
  cases this
  exact ⟨r, R, .refl, fun _ _ h => h⟩
theorem src_tup {a : Addr} {d : D} {z : Src} (q : SeqAll K mg αs T H .t a d) (hz : ∀ st i, itemAt st z i = nth st d i) : SrcOk K mg αs T H (Itt K a) z := by
  intro αs' T' H2 st i F f R
  obtain ⟨ds, xs, e, h1, h2⟩ := q αs' T' H2 st f R
  have en : nth st d i = ds[i]? := by unfold nth; rw [e]
  rw [hz st i, en]
  refine ⟨fun e1 _ => ⟨xs, h1, by rw [h2.len]; exact List.getElem?_eq_none_iff.mp e1⟩, fun c hc => ?_⟩
  obtain ⟨v, e2, r⟩ := h2.get hc
  refine ⟨⟨xs, v, h1, e2⟩, fun x H3 hy => ?_⟩
  obtain ⟨rfl, hx⟩ := hy
  have := (hx xs h1).symm.trans e2
  cases this
  exact ⟨r, R, .refl, fun _ _ h => h⟩
theorem src_range {lo : Int} {n : Nat} : SrcOk K mg αs T H (Itr lo n) (.sq (rangeD lo n)) := by
  intro αs' T' H2 st i F f R
  show ((rangeD lo n)[i]? = none → _) ∧ ∀ d, (rangeD lo n)[i]? = some d → _
  rw [range_get]
  by_cases hi : i < n
  · simp only [if_pos hi]
    refine ⟨fun e => (by cases e), fun d e => ?_⟩
    cases e
    refine ⟨hi, fun x H3 hy => ?_⟩
    obtain ⟨rfl, rfl⟩ := hy
    exact ⟨rep_int.mpr rfl, R, .refl, fun _ _ h => h⟩
  · simp only [if_neg hi]
    exact ⟨fun _ _ => Nat.le_of_not_lt hi, fun d e => (by cases e)⟩
theorem src_str {x : Str} : SrcOk K mg αs T H (Its x) (.sq (x.cps.toList.map fun c => .str ⟨#[c]⟩)) := by
  intro αs' T' H2 st i F f R
  show ((x.cps.toList.map fun c => D.str ⟨#[c]⟩)[i]? = none → _) ∧ ∀ d, (x.cps.toList.map fun c => D.str ⟨#[c]⟩)[i]? = some d → _
  rw [List.getElem?_map]
  refine ⟨fun e _ => ?_, fun d e => ?_⟩
  · have : x.cps.toList[i]? = none := by
      cases q : x.cps.toList[i]? with
      | none => rfl
      | some c => rw [q] at e; cases e
    have := List.getElem?_eq_none_iff.mp this
    show x.cps.size ≤ i
    simpa using this
  · cases q : x.cps.toList[i]? with
    | none => rw [q] at e; cases e
    | some c =>
      rw [q] at e
      cases e
      have hq : x.cps[i]? = some c := by simpa using q
      have hl : i < x.cps.size := by
        have := (List.getElem?_eq_some_iff.mp q).1
        simpa using this
      refine ⟨hl, fun y H3 hy => ?_⟩
      obtain ⟨rfl, c2, e2, rfl⟩ := hy
      rw [hq] at e2
      cases e2
      exact ⟨rep_str.mpr rfl, R, .refl, fun _ _ h => h⟩
theorem nth_of {d : D} {ds : List D} {i : Nat} (e : seqOf st d = some ds) : nth st d i = ds[i]? := by unfold nth; rw [e]
theorem len_of {d : D} {ds : List D} (e : seqOf st d = some ds) : lenOf st d = ds.length := by unfold lenOf; rw [e]
theorem src_zip2 {k1 k2 : Kd} {a b : Addr} {da db : D} (qa : SeqAll K mg αs T H k1 a da) (qb : SeqAll K mg αs T H k2 b db) : SrcOk K mg αs T H (ItzK K k1 k2 a b) (.z2 da db) := by
  intro αs' T' H2 st i F f R
  obtain ⟨ds, xs, e, h1, h2⟩ := qa αs' T' H2 st f R
  obtain ⟨es, ys, e', g1, g2⟩ := qb αs' T' H2 st f R
  have ei : itemAt st (.z2 da db) i = pr2 ds[i]? es[i]? := by
    show pr2 (nth st da i) (nth st db i) = _
    rw [nth_of e, nth_of e']
  rw [ei]
  refine ⟨fun e1 hend => ?_, fun c hc => ?_⟩
  · unfold endOk at hend
    simp only [len_of e, len_of e', Bool.and_eq_true] at hend
    have l1 := Nat.le_of_ble_eq_true hend.1
    have l2 := Nat.le_of_ble_eq_true hend.2
    refine ⟨xs, ys, h1, g1, by rw [h2.len]; exact l1, by rw [g2.len]; exact l2, ?_⟩
    rw [h2.len, g2.len]
    cases qx : ds[i]? with
    | none => have := List.getElem?_eq_none_iff.mp qx; omega
    | some x =>
      cases qy : es[i]? with
      | none => have := List.getElem?_eq_none_iff.mp qy; omega
      | some y => rw [qx, qy] at e1; cases e1
  · cases qx : ds[i]? with
    | none => rw [qx] at hc; cases hc
    | some x =>
      cases qy : es[i]? with
      | none => rw [qx, qy] at hc; cases hc
      | some y =>
        rw [qx, qy] at hc
        cases hc
        obtain ⟨v, e2, r⟩ := h2.get qx
        obtain ⟨w, e3, r3⟩ := g2.get qy
        refine ⟨⟨xs, ys, v, w, h1, g1, e2, e3⟩, fun u H3 hy => ?_⟩
        obtain ⟨t, v', w', rfl, hn, rfl, f1, f2⟩ := hy
        have := (f1 xs h1).symm.trans e2
        cases this
        have := (f2 ys g1).symm.trans e3
        cases this
        obtain ⟨z1, z2, z3⟩ := newTup R (.cons r (.one r3)) hn
        exact ⟨z3, z1, z2, fun b o q => by rw [upd_ne (ne_of_none q hn)]; exact q⟩
theorem src_zip3 {k1 k2 k3 : Kd} {a b c : Addr} {da db dc : D} (qa : SeqAll K mg αs T H k1 a da) (qb : SeqAll K mg αs T H k2 b db) (qc : SeqAll K mg αs T H k3 c dc) : SrcOk K mg αs T H (ItzK3 K k1 k2 k3 a b c) (.z3 da db dc) := by
  intro αs' T' H2 st i F f R
  obtain ⟨ds, xs, e, h1, h2⟩ := qa αs' T' H2 st f R
  obtain ⟨es, ys, e', g1, g2⟩ := qb αs' T' H2 st f R
  obtain ⟨fs, zs, e'', k1, k2⟩ := qc αs' T' H2 st f R
  have ei : itemAt st (.z3 da db dc) i = pr3 ds[i]? es[i]? fs[i]? := by
    show pr3 (nth st da i) (nth st db i) (nth st dc i) = _
    rw [nth_of e, nth_of e', nth_of e'']
  rw [ei]
  refine ⟨fun e1 hend => ?_, fun c hc => ?_⟩
  · unfold endOk at hend
    simp only [len_of e, len_of e', len_of e'', Bool.and_eq_true] at hend
    have l1 := Nat.le_of_ble_eq_true hend.1.1
    have l2 := Nat.le_of_ble_eq_true hend.1.2
    have l3 := Nat.le_of_ble_eq_true hend.2
    refine ⟨xs, ys, zs, h1, g1, k1, by rw [h2.len]; exact l1, by rw [g2.len]; exact l2, by rw [k2.len]; exact l3, ?_⟩
    rw [h2.len, g2.len, k2.len]
    cases qx : ds[i]? with
    | none => have := List.getElem?_eq_none_iff.mp qx; omega
    | some x =>
      cases qy : es[i]? with
      | none => have := List.getElem?_eq_none_iff.mp qy; omega
      | some y =>
        cases qz : fs[i]? with
        | none => have := List.getElem?_eq_none_iff.mp qz; omega
        | some z => rw [qx, qy, qz] at e1; cases e1
  · cases qx : ds[i]? with
    | none => rw [qx] at hc; cases hc
    | some x =>
      cases qy : es[i]? with
      | none => rw [qx, qy] at hc; cases hc
      | some y =>
        cases qz : fs[i]? with
        | none => rw [qx, qy, qz] at hc; cases hc
        | some z =>
          rw [qx, qy, qz] at hc
          cases hc
          obtain ⟨v, e2, r⟩ := h2.get qx
          obtain ⟨w, e3, r3⟩ := g2.get qy
          obtain ⟨w2, e4, r4⟩ := k2.get qz
          refine ⟨⟨xs, ys, zs, v, w, w2, h1, g1, k1, e2, e3, e4⟩, fun u H3 hy => ?_⟩
          obtain ⟨t, v', w', w2', rfl, hn, rfl, f1, f2, f3⟩ := hy
          have := (f1 xs h1).symm.trans e2
          cases this
          have := (f2 ys g1).symm.trans e3
          cases this
          have := (f3 zs k1).symm.trans e4
          cases this
          obtain ⟨z1, z2, z3⟩ := newTup R (.cons r (.cons r3 (.one r4))) hn
          exact ⟨z3, z1, z2, fun b o q => by rw [upd_ne (ne_of_none q hn)]; exact q⟩
theorem src_enum {k : Kd} {a : Addr} {da : D} (qa : SeqAll K mg αs T H k a da) : SrcOk K mg αs T H (IteK K k a) (.en da) := by
  intro αs' T' H2 st i F f R
  obtain ⟨ds, xs, e, h1, h2⟩ := qa αs' T' H2 st f R
  have ei : itemAt st (.en da) i = prE i ds[i]? := by
    show prE i (nth st da i) = _
    rw [nth_of e]
  rw [ei]
  refine ⟨fun e1 hend => ?_, fun c hc => ?_⟩
  · unfold endOk at hend
    simp only [len_of e] at hend
    have l1 := Nat.le_of_ble_eq_true hend
    refine ⟨xs, h1, ?_⟩
    rw [h2.len]
    cases qx : ds[i]? with
    | none => have := List.getElem?_eq_none_iff.mp qx; omega
    | some x => rw [qx] at e1; cases e1
  · cases qx : ds[i]? with
    | none => rw [qx] at hc; cases hc
    | some x =>
      rw [qx] at hc
      cases hc
      obtain ⟨v, e2, r⟩ := h2.get qx
      refine ⟨⟨xs, v, h1, e2⟩, fun u H3 hy => ?_⟩
      obtain ⟨t, v', rfl, hn, rfl, f1⟩ := hy
      have := (f1 xs h1).symm.trans e2
      cases this
      obtain ⟨z1, z2, z3⟩ := newTup R (.cons (rep_int.mpr rfl) (.one r)) hn
      exact ⟨z3, z1, z2, fun b o q => by rw [upd_ne (ne_of_none q hn)]; exact q⟩
end
/-! ### the walks' beginnings -/
def iAny (K : PySem.W.Frag) (t : TE) : TI := fun σ H R => t σ H fun x H1 => (∃ a, x = .ref a ∧ (∃ xs, SqL K H1 a xs) ∧ R (Itl K a) H1) ∨ ((∃ a, x = .ref a ∧ (∃ xs, SqT K H1 a xs) ∧ R (Itt K a) H1) ∨ ∃ y, x = .str y ∧ R (Its y) H1)
theorem pi_any {X : Cx} {tg l : Expr} {tl : TE} (hl : PE X l tl) : PI X tg l (iAny X.K tl) := by
  refine ⟨fun pins s σ H R I h => ?_⟩
  refine thn (hl.run pins s σ H _ I h) fun v s1 ⟨x, H1, I1, r1, q1⟩ => ?_
  rcases q1 with ⟨a, e, ⟨xs, hq⟩, q⟩ | ⟨a, e, ⟨xs, hq⟩, q⟩ | ⟨y, ex, q⟩
  · subst e
    cases r1
    obtain ⟨its, rv, p, hz⟩ := I1.list hq
    exact wpAny_pyIter_list p.isList (pi_one (tk := s1.toks) I1 _ (turn_list a _) ⟨_, Heap.get?_push_size _ rfl, rfl, rfl⟩ q)
  · subst e
    cases r1
    obtain ⟨its, rv, p, hz⟩ := I1.tuple hq
    exact wpAny_pyIter_tuple (show s1.heap.IsTuple a its.toArray from p) (pi_one (tk := s1.toks) I1 _ (turn_tuple a _) ⟨_, Heap.get?_push_size _ rfl, rfl, rfl⟩ q)
  · subst ex
    obtain ⟨t, rfl⟩ := r1
    cases ha : y.cps.all (· < 128)
    · exact wpAny_pyIter_wide ha (pi_one (tk := s1.toks) I1 _ (turn_str _ y t "str_iterator" (.inr rfl)) ⟨_, Heap.get?_push_size _ rfl, rfl, rfl⟩ q)
    · exact wpAny_pyIter_ascii ha (pi_one (tk := s1.toks) I1 _ (turn_str _ y t "str_ascii_iterator" (.inl rfl)) ⟨_, Heap.get?_push_size _ rfl, rfl, rfl⟩ q)
theorem meets_enum1 {v : Value} {o : Obj} {H : Heap → Prop} (B : Begins v o H) :
    Meets (Builtin.«enumerate.__new__» ⟨[.type "enumerate", v], []⟩) (fun _ R s => H s.heap ∧
      R (.ok (.ret (.ref (s.heap.push o).objs.size))) { s with heap := (s.heap.push o).push { cls := .type "enumerate", data := .fields #[.none, .bool false, .ref s.heap.objs.size, rawInt 0, .none, .none] } }) :=
  .of_wp fun prog w A R s h => by
    obtain ⟨hp, g, d, tk, os⟩ := s; obtain ⟨h1, h⟩ := h
    have hsub := sub_enumerate
    have q1 : ∀ {A' : Around} {E : Value → Shared → Prop} {Q : Value → Shared → Prop}, Q (.ref hp.objs.size) ⟨hp.push o, g, d, tk, os⟩ → wpAny (model prog w) A' (pyIter v) Q E ⟨hp, g, d, tk, os⟩ :=
      fun q => B.iter prog w _ _ ⟨hp, g, d, tk, os⟩ _ h1 q
    wp_walk using q1
    refine wpAny_stack_any fun st => wpAny_pure ?_
    split
    · rename_i c _ _ _ _ _
      cases (c == Value.type "enumerate")
      · wp_walk using q1
        exact ⟨_, rfl, h⟩
      · wp_walk using q1
        exact ⟨_, rfl, h⟩
    · wp_walk using q1
      exact ⟨_, rfl, h⟩
theorem enum_begins1 {prog : Program} {w : World} {A : Around} {E : Value → Shared → Prop} {s : Shared} {v : Value} {o : Obj} {H : Heap → Prop} {Q : Value → Shared → Prop} (B : Begins v o H) (h1 : H s.heap)
    (h : ∀ h', IsEnum h' (s.heap.objs.size + 1) s.heap.objs.size 0 .none → h'.get? s.heap.objs.size = some o → h'.objs.size = s.heap.objs.size + 2 →
      (∀ b o, s.heap.get? b = some o → h'.get? b = some o) → Q (.ref (s.heap.objs.size + 1)) { s with heap := h' }) :
    wpAny (model prog w) A (call (.type "enumerate") [v]) Q E s := by
  refine callType_new F.called_enumerate (by decide) (F.typeCall_enumerate_1 _) (F.newCall_enumerate_1 _) (fun obj => F.args_object_init_2 obj _) F.entry_enumerate_new
    (meets_enum1 B) ⟨h1, ?_⟩
  have hz : (s.heap.push o).objs.size = s.heap.objs.size + 1 := Heap.size_push ..
  show _ ∧ _
  rw [hz]
  have he : IsEnum ((s.heap.push o).push { cls := .type "enumerate", data := .fields #[.none, .bool false, .ref s.heap.objs.size, rawInt 0, .none, .none] }) (s.heap.objs.size + 1) s.heap.objs.size 0 .none := by
    have := Heap.get?_push_size (s.heap.push o) (o := { cls := .type "enumerate", data := .fields #[.none, .bool false, .ref s.heap.objs.size, rawInt 0, .none, .none] }) rfl
    rw [hz] at this; exact this
  refine ⟨⟨_, he, rfl⟩, h _ he (Heap.get?_push_of_some _ (Heap.get?_push_size _ B.free)) (by rw [Heap.size_push, hz]) fun b o x => Heap.get?_push_of_some _ (Heap.get?_push_of_some _ x)⟩
def iEnumK (K : PySem.W.Frag) (ta : TA) : TI := fun σ H R => ta σ H fun vs H1 => ∃ k a xs, vs = [.ref a] ∧ KSeq K H1 k a xs ∧ R (IteK K k a) H1
theorem pi_enumK {X : Cx} {e : Expr} {ta : TA} {p pos tpos : Pos} {elts : List Expr} {kk : Nat} (hg : Gl X "enumerate") (hm : X.mg "enumerate" = none) (ha : PA X [e] ta) (hs : starEach [e] X.env = [(false, eval e X.env)] := by rfl) :
    PI X (.Tuple elts kk tpos) (.Call (.Name "enumerate" p) [e] [] pos) (iEnumK X.K ta) := by
  refine ⟨fun pins s σ H R I h => ?_⟩
  refine Call_ (ld_blt I hg hm boot_enumerate (PyProof.Rows.callWith_type1 (thn (ha.run pos pins s σ H _ I h) fun us s1 ⟨vs, H1, I1, r1, q1⟩ => ?_) hs rfl))
  obtain ⟨k, a, xs, ex, hq, q⟩ := q1
  subst ex
  cases r1 with
  | cons r rr =>
    cases rr
    cases r
    obtain ⟨its, rv, p', hz⟩ := kAt I1 hq
    refine enum_begins1 (kBegins k a its.toArray) p' fun h' he hit hsz hk => wpAny_pyIter_enum he ?_
    have I2 : Inv X pins σ H1 { s1 with heap := h' } := I1.kept (t' := s1.toks) hk
    refine ⟨s1.heap.objs.size + 1, [s1.heap.objs.size + 1, s1.heap.objs.size], _, _, H1, rfl, I2, turn_enumK a (s1.heap.objs.size + 1) s1.heap.objs.size, ⟨⟨.none, he⟩, KIter.zero hit, Nat.succ_ne_self _, Nat.ne_of_lt hz, Nat.ne_of_gt (Nat.lt_succ_of_lt hz)⟩, fun b hb => ?_, q⟩
    have e' : b = s1.heap.objs.size + 1 ∨ b = s1.heap.objs.size := by simpa using hb
    have hle : s1.heap.objs.size ≤ b := by
      rcases e' with z | z
      · rw [z]; exact Nat.le_add_right _ _
      · rw [z]; exact Nat.le_refl _
    exact I1.fpOk hle (I1.hok.fresh hle)
def iZipN (K : PySem.W.Frag) (ta : TA) : TI := fun σ H R => ta σ H fun vs H1 => ∃ a b xs ys, vs = [.ref a, .ref b] ∧ SqL K H1 a xs ∧ SqL K H1 b ys ∧ R (ItzK K .l .l a b) H1
theorem pi_zipN {X : Cx} {e e2 : Expr} {ta : TA} {p pos tpos : Pos} {x0 : Str} (hg : Gl X "zip") (hm : X.mg "zip" = none) (ha : PA X [e, e2] ta)
    (hs : starEach [e, e2] X.env = (false, eval e X.env) :: starEach [e2] X.env := by rfl) (hpl : (backTo pos (starEach [e2] X.env)).any (·.1) = false := by rfl) :
    PI X (.Name x0 tpos) (.Call (.Name "zip" p) [e, e2] [] pos) (iZipN X.K ta) := by
  refine ⟨fun pins s σ H R I h => ?_⟩
  refine Call_ (ld_blt I hg hm PyProof.Rows.boot_zip (PyProof.Rows.callWith_type1 (thn (ha.run pos pins s σ H _ I h) fun us s1 ⟨vs, H1, I1, r1, q1⟩ => ?_) hs hpl))
  obtain ⟨a, b, xs, ys, ex, hqx, hqy, q⟩ := q1
  subst ex
  obtain ⟨u1, u2, rfl, r1, r2⟩ := vals2 r1
  cases r1
  cases r2
  obtain ⟨its, rv, p1, _⟩ := I1.list hqx
  obtain ⟨its2, rv2, p2, _⟩ := I1.list hqy
  have la : a < s1.heap.objs.size := p1.lt
  have lb : b < s1.heap.objs.size := p2.lt
  refine call_zip_2 p1.isList p2.isList fun h' hz hTI hTO h1 h2 hsz hk => wpAny_pyIter_zip hz ?_
  have I2 : Inv X pins σ H1 { s1 with heap := h' } := I1.kept (t' := s1.toks) hk
  refine ⟨s1.heap.objs.size + 4, [s1.heap.objs.size + 4, s1.heap.objs.size + 2, s1.heap.objs.size + 3, s1.heap.objs.size, s1.heap.objs.size + 1], _, _, H1, rfl, I2, turn_zipN (PySem.W.ktu_apart s1.heap.objs.size a b la lb), ⟨⟨_, _, .inl ⟨rfl, rfl⟩, hz⟩, hTI, ⟨_, _, hTO⟩, h1, h2⟩, fun c hcm => ?_, q⟩
  have e' : c = s1.heap.objs.size + 4 ∨ c = s1.heap.objs.size + 2 ∨ c = s1.heap.objs.size + 3 ∨ c = s1.heap.objs.size ∨ c = s1.heap.objs.size + 1 := by simpa using hcm
  have hle : s1.heap.objs.size ≤ c := by
    rcases e' with z | z | z | z | z <;> rw [z] <;> first | exact Nat.le_add_right _ _ | exact Nat.le_refl _
  exact I1.fpOk hle (I1.hok.fresh hle)
section
variable {K : PySem.W.Frag} {mg : Str → Option Value} {W : WX}
theorem sq_ex {k : Kd} {a : Addr} {d : D} {αs T : List Addr} {H : Hp} {st : Sto} (q : SeqAll K mg αs T H k a d) (R : Rel K mg αs T H st) : ∃ xs, KSeq K H k a xs := let ⟨_, xs, _, h, _⟩ := q αs T H st (fun _ _ h => h) R; ⟨xs, h⟩
theorem ri_any {t : TE} {f : Rho → Sto → R D} (h : RE K mg W t f) : RI K mg W (iAny K t) (fAny f) := by
  intro αs T σ ρ H st Q R E q
  refine h αs T σ ρ H st _ R E (PostG.bind q fun d st1 αs1 H1 R1 F1 h1 x rx => ?_)
  cases e : srcOf d with
  | none => rw [e] at h1; exact h1.elim
  | some z =>
    rw [e] at h1
    have h1 := h1 αs1 H1 R1 .refl
    cases d <;> simp only [srcOf] at e <;> try (cases e; done)
    · cases e
      rw [rep_str.mp rx]
      exact .inr (.inr ⟨_, rfl, h1 _ src_str⟩)
    · cases e
      obtain ⟨k, a, ex, qa⟩ := seq_all rx (by rfl)
      obtain ⟨a2, xs, e2, h3, _⟩ := rep_tup.mp rx
      subst ex
      cases e2
      have qt : SeqAll K mg αs1 T H1 .t a (.tup ‹List D›) := fun αs' T' H2 st f R => by
        obtain ⟨a2, xs2, e2, h1, h2⟩ := rep_tup.mp (f _ _ rx)
        cases e2
        exact ⟨_, xs2, rfl, kseq_t h1.sq, h2⟩
      exact .inr (.inl ⟨a, rfl, ⟨xs, h3.sq⟩, h1 _ (src_tup qt fun st i => rfl)⟩)
    · cases e
      obtain ⟨a, ex, qa⟩ := seq_l rx (by rfl)
      exact .inl ⟨a, ex, sq_ex qa R1, h1 _ (src_list qa fun st i => rfl)⟩
    · cases e
      obtain ⟨a, ex, qa⟩ := seq_l rx (by rfl)
      exact .inl ⟨a, ex, sq_ex qa R1, h1 _ (src_list qa fun st i => rfl)⟩
    · cases e
      obtain ⟨a, ex, qa⟩ := seq_l rx (by rfl)
      exact .inl ⟨a, ex, sq_ex qa R1, h1 _ (src_list qa fun st i => rfl)⟩
theorem ri_rng1 {t : TA} {f : Rho → Sto → R (List D)} (h : RA K mg W t f) : RI K mg W (iRng1 t) (fRng1 f) := by
  intro αs T σ ρ H st Q R E q
  refine h αs T σ ρ H st _ R E (PostG.bind q fun ds st1 αs1 H1 R1 F1 h1 vs rx => ?_)
  split at h1
  · rename_i j
    split at h1
    · rename_i hj
      have hj := rngOk_iff hj
      simp only [Reps] at rx
      obtain ⟨v, r, e1, r1, e2⟩ := rx
      subst e2 e1
      refine ⟨j, by rw [rep_int.mp r1], hj.1, hj.2, h1 αs1 H1 R1 .refl _ src_range⟩
    · exact h1.elim
  · exact h1.elim
theorem ri_rng2 {t : TA} {f : Rho → Sto → R (List D)} (h : RA K mg W t f) : RI K mg W (iRng2 t) (fRng2 f) := by
  intro αs T σ ρ H st Q R E q
  refine h αs T σ ρ H st _ R E (PostG.bind q fun ds st1 αs1 H1 R1 F1 h1 vs rx => ?_)
  split at h1
  · rename_i i j
    split at h1
    · rename_i hj
      simp only [Bool.and_eq_true] at hj
      have hj := And.intro (rngOk_iff hj.1) (rngOk_iff hj.2)
      simp only [Reps] at rx
      obtain ⟨v, r, e1, r1, w, r2, e2, r3, e3⟩ := rx
      subst e3 e2 e1
      refine ⟨i, j, by rw [rep_int.mp r1, rep_int.mp r3], ⟨hj.1.1, hj.1.2, hj.2.1, hj.2.2⟩, h1 αs1 H1 R1 .refl _ src_range⟩
    · exact h1.elim
  · exact h1.elim
theorem zsrc2_ok {αs T : List Addr} {H : Hp} {k1 k2 : Kd} {a b : Addr} {da db : D} {z : Src} (e : zsrc2 da db = some z) (qa : SeqAll K mg αs T H k1 a da) (qb : SeqAll K mg αs T H k2 b db) : SrcOk K mg αs T H (ItzK K k1 k2 a b) z := by
  unfold zsrc2 at e
  split at e
  · rename_i xs ys ea eb
    cases e
    refine (src_zip2 qa qb).line (fun st i => ?_) (fun st i e1 hl => ?_)
    · show pr2 (nth st da i) (nth st db i) = _
      rw [nth_of (stat_seq ea st), nth_of (stat_seq eb st), zip2_get]
    · show (Nat.ble i (lenOf st da) && Nat.ble i (lenOf st db)) = true
      rw [len_of (stat_seq ea st), len_of (stat_seq eb st)]
      have : ∀ (xs ys : List D), (zip2 xs ys).length ≤ xs.length ∧ (zip2 xs ys).length ≤ ys.length := by
        intro xs
        induction xs with
        | nil => intro ys; simp [zip2]
        | cons x xs ih =>
          intro ys
          cases ys with
          | nil => simp [zip2]
          | cons y ys => simp only [zip2, List.length_cons]; have := ih ys; omega
      have := this xs ys
      simp only [Bool.and_eq_true]
      exact ⟨Nat.ble_eq_true_of_le (by omega), Nat.ble_eq_true_of_le (by omega)⟩
  · split at e
    · cases e; exact src_zip2 qa qb
    · cases e
theorem zsrc2_sq {da db : D} {z : Src} (e : zsrc2 da db = some z) : isSq da = true ∧ isSq db = true := by
  unfold zsrc2 at e
  split at e
  · rename_i xs ys ea eb; exact ⟨stat_sq ea, stat_sq eb⟩
  · split at e
    · rename_i h; simpa using h
    · cases e
theorem ri_zip2 {t : TA} {f : Rho → Sto → R (List D)} (h : RA K mg W t f) : RI K mg W (iZipK K t) (fZip2 f) := by
  intro αs T σ ρ H st Q R E q
  refine h αs T σ ρ H st _ R E (PostG.bind q fun ds st1 αs1 H1 R1 F1 h1 vs rx => ?_)
  split at h1
  · rename_i da db
    cases e : zsrc2 da db with
    | none => rw [e] at h1; exact h1.elim
    | some z =>
      rw [e] at h1
      simp only [Reps] at rx
      obtain ⟨v, r, e1, r1, w, r2, e2, r3, e3⟩ := rx
      subst e3 e2 e1
      obtain ⟨s1, s2⟩ := zsrc2_sq e
      obtain ⟨k1, a, rfl, qa⟩ := seq_all r1 s1
      obtain ⟨k2, b, rfl, qb⟩ := seq_all r3 s2
      obtain ⟨xs, hx⟩ := sq_ex qa R1
      obtain ⟨ys, hy⟩ := sq_ex qb R1
      exact ⟨k1, k2, a, b, xs, ys, rfl, hx, hy, h1 αs1 H1 R1 .refl _ (zsrc2_ok e qa qb)⟩
  · exact h1.elim
theorem ri_zipN {t : TA} {f : Rho → Sto → R (List D)} (h : RA K mg W t f) : RI K mg W (iZipN K t) (fZipN f) := by
  intro αs T σ ρ H st Q R E q
  refine h αs T σ ρ H st _ R E (PostG.bind q fun ds st1 αs1 H1 R1 F1 h1 vs rx => ?_)
  split at h1
  · rename_i da db
    split at h1
    · rename_i hl
      simp only [Bool.and_eq_true] at hl
      cases e : zsrc2 da db with
      | none => rw [e] at h1; exact h1.elim
      | some z =>
        rw [e] at h1
        simp only [Reps] at rx
        obtain ⟨v, r, e1, r1, w, r2, e2, r3, e3⟩ := rx
        subst e3 e2 e1
        obtain ⟨a, rfl, qa⟩ := seq_l r1 hl.1
        obtain ⟨b, rfl, qb⟩ := seq_l r3 hl.2
        obtain ⟨xs, hx⟩ := sq_ex qa R1
        obtain ⟨ys, hy⟩ := sq_ex qb R1
        exact ⟨a, b, xs, ys, rfl, hx, hy, h1 αs1 H1 R1 .refl _ (zsrc2_ok e qa qb)⟩
    · exact h1.elim
  · exact h1.elim
theorem ri_zip3 {t : TA} {f : Rho → Sto → R (List D)} (h : RA K mg W t f) : RI K mg W (iZipK3 K t) (fZip3 f) := by
  intro αs T σ ρ H st Q R E q
  refine h αs T σ ρ H st _ R E (PostG.bind q fun ds st1 αs1 H1 R1 F1 h1 vs rx => ?_)
  split at h1
  · rename_i da db dc
    cases e : zsrc3 da db dc with
    | none => rw [e] at h1; exact h1.elim
    | some z =>
      rw [e] at h1
      simp only [Reps] at rx
      obtain ⟨v, r, e1, r1, w, r2, e2, r3, u, r4, e4, r5, e5⟩ := rx
      subst e5 e4 e2 e1
      have sq : isSq da = true ∧ isSq db = true ∧ isSq dc = true := by
        unfold zsrc3 at e
        split at e
        · rename_i xs ys zs ea eb ec; exact ⟨stat_sq ea, stat_sq eb, stat_sq ec⟩
        · split at e
          · rename_i h; simp only [Bool.and_eq_true] at h; exact ⟨h.1.1, h.1.2, h.2⟩
          · cases e
      obtain ⟨k1, a, rfl, qa⟩ := seq_all r1 sq.1
      obtain ⟨k2, b, rfl, qb⟩ := seq_all r3 sq.2.1
      obtain ⟨k3, c, rfl, qc⟩ := seq_all r5 sq.2.2
      obtain ⟨xs, hx⟩ := sq_ex qa R1
      obtain ⟨ys, hy⟩ := sq_ex qb R1
      obtain ⟨zs, hz⟩ := sq_ex qc R1
      refine ⟨k1, k2, k3, a, b, c, xs, ys, zs, rfl, hx, hy, hz, h1 αs1 H1 R1 .refl _ ?_⟩
      unfold zsrc3 at e
      split at e
      · rename_i xs ys zs ea eb ec
        cases e
        refine (src_zip3 qa qb qc).line (fun st i => ?_) (fun st i e1 hl => ?_)
        · show pr3 (nth st da i) (nth st db i) (nth st dc i) = _
          rw [nth_of (stat_seq ea st), nth_of (stat_seq eb st), nth_of (stat_seq ec st), zip3_get]
        · show (Nat.ble i (lenOf st da) && Nat.ble i (lenOf st db) && Nat.ble i (lenOf st dc)) = true
          rw [len_of (stat_seq ea st), len_of (stat_seq eb st), len_of (stat_seq ec st)]
          have : ∀ (xs ys zs : List D), (zip3 xs ys zs).length ≤ xs.length ∧ (zip3 xs ys zs).length ≤ ys.length ∧ (zip3 xs ys zs).length ≤ zs.length := by
            intro xs
            induction xs with
            | nil => intro ys zs; simp [zip3]
            | cons x xs ih =>
              intro ys zs
              cases ys with
              | nil => simp [zip3]
              | cons y ys =>
                cases zs with
                | nil => simp [zip3]
                | cons z zs => simp only [zip3, List.length_cons]; have := ih ys zs; omega
          have := this xs ys zs
          simp only [Bool.and_eq_true]
          exact ⟨⟨Nat.ble_eq_true_of_le (by omega), Nat.ble_eq_true_of_le (by omega)⟩, Nat.ble_eq_true_of_le (by omega)⟩
      · split at e
        · cases e; exact src_zip3 qa qb qc
        · cases e
  · exact h1.elim
theorem ri_enum {t : TA} {f : Rho → Sto → R (List D)} (h : RA K mg W t f) : RI K mg W (iEnumK K t) (fEnum f) := by
  intro αs T σ ρ H st Q R E q
  refine h αs T σ ρ H st _ R E (PostG.bind q fun ds st1 αs1 H1 R1 F1 h1 vs rx => ?_)
  split at h1
  · rename_i da
    cases e : esrc da with
    | none => rw [e] at h1; exact h1.elim
    | some z =>
      rw [e] at h1
      simp only [Reps] at rx
      obtain ⟨v, r, e1, r1, e2⟩ := rx
      subst e2 e1
      have sq : isSq da = true := by
        unfold esrc at e
        split at e
        · rename_i xs ea; exact stat_sq ea
        · split at e
          · rename_i h; exact h
          · cases e
      obtain ⟨k, a, rfl, qa⟩ := seq_all r1 sq
      obtain ⟨xs, hx⟩ := sq_ex qa R1
      refine ⟨k, a, xs, rfl, hx, h1 αs1 H1 R1 .refl _ ?_⟩
      unfold esrc at e
      split at e
      · rename_i xs ea
        cases e
        refine (src_enum qa).line (fun st i => ?_) (fun st i e1 hl => ?_)
        · show prE i (nth st da i) = _
          rw [nth_of (stat_seq ea st), enum_get, Nat.zero_add]
        · show Nat.ble i (lenOf st da) = true
          rw [len_of (stat_seq ea st)]
          have : ∀ (xs : List D) (k : Nat), (enumD k xs).length = xs.length := by
            intro xs
            induction xs with
            | nil => intro k; rfl
            | cons x xs ih => intro k; simp only [enumD, List.length_cons]; rw [ih]
          rw [this] at hl
          exact Nat.ble_eq_true_of_le hl
      · split at e
        · cases e; exact src_enum qa
        · rename_i hn; exact absurd sq hn
  · exact h1.elim
end
end DL
namespace DL
open PySem PySem.Spec PyProof.Rows L2
/-! ### built-ins by values -/
def fCB (g : Sto → List D → Option D) (f : Rho → Sto → R (List D)) : Rho → Sto → R D := fun ρ st => (f ρ st).bind fun ds st => .of (g st ds) st
/-- the same, a new list -/
def fCBn (g : Sto → List D → Option (List D)) (f : Rho → Sto → R (List D)) : Rho → Sto → R (List D) := fun ρ st => (f ρ st).bind fun ds st => .of (g st ds) st
def fOpn (g : Sto → D → D → Option (List D)) (fa fb : Rho → Sto → R D) : Rho → Sto → R (List D) := fun ρ st => (fa ρ st).bind fun a st => (fb ρ st).bind fun b st => .of (g st a b) st
def RVLn (K : PySem.W.Frag) (mg : Str → Option Value) (r : List V → Hp → VK → Prop) (g : Sto → List D → Option (List D)) : Prop :=
  ∀ αs T H st a x Q ds, Rel K mg αs T H st → Reps K mg αs T H a x → g st a = some ds →
    (∀ xs p, Reps K mg αs T H ds xs → H p = none → Q (.ref p) (upd H p (.lst xs))) → r x H Q
def RV2n (K : PySem.W.Frag) (mg : Str → Option Value) (r : R2) (g : Sto → D → D → Option (List D)) : Prop :=
  ∀ αs T H st a b x y Q ds, Rel K mg αs T H st → Rep K mg αs T H a x → Rep K mg αs T H b y → g st a b = some ds →
    (∀ xs p, Reps K mg αs T H ds xs → H p = none → Q (.ref p) (upd H p (.lst xs))) → r x y H Q
def asLst (g : Sto → List D → Option (List D)) : Sto → List D → Option D := fun st a => match g st a with
  | some ds => some (.lst ds)
  | none => none
section
variable {K : PySem.W.Frag} {mg : Str → Option Value} {W : WX}
theorem re_cb {r : List V → Hp → VK → Prop} {g : Sto → List D → Option D} {t : TA} {f : Rho → Sto → R (List D)} (hr : RVL K mg r g) (h : RA K mg W t f) : RE K mg W (tCB r t) (fCB g f) := by
  intro αs T σ ρ H st Q R E q
  refine h αs T σ ρ H st _ R E (PostG.bind q fun ds st1 αs1 H1 R1 F1 h1 vs rx => ?_)
  cases e : g st1 ds with
  | none => rw [e] at h1; exact h1.elim
  | some d =>
    rw [e] at h1
    exact hr αs1 T H1 st1 ds vs Q d R1 rx e fun v H' R2 F2 r2 => h1 αs1 H' R2 F2 v r2
theorem rvl_new {r : List V → Hp → VK → Prop} {g : Sto → List D → Option (List D)} (h : RVLn K mg r g) : RVL K mg r (asLst g) := by
  intro αs T H st a x Q d R rx e q
  unfold asLst at e
  split at e
  · rename_i ds hd
    cases e
    refine h αs T H st a x Q ds R rx hd fun xs p rr hp => ?_
    obtain ⟨a1, b1, c1⟩ := newLst R rr hp
    exact q _ _ a1 b1 c1
  · cases e
theorem rf_cb {r : List V → Hp → VK → Prop} {g : Sto → List D → Option (List D)} {t : TA} {f : Rho → Sto → R (List D)} (hr : RVLn K mg r g) (h : RA K mg W t f) : RF K mg W (tCB r t) (fCBn g f) := by
  intro αs T σ ρ H st Q R E q
  refine h αs T σ ρ H st _ R E ?_
  unfold fCBn at q
  cases e : f ρ st with
  | bad => rw [e] at q; exact q
  | exc c p st1 => rw [e] at q; exact q
  | ok ds st1 =>
    rw [e] at q
    intro αs1 H1 R1 F1 vs rx
    have q : PostG K mg W αs T σ H (DL.R.of (g st1 ds) st1) _ := q
    cases eg : g st1 ds with
    | none => rw [eg] at q; exact q.elim
    | some es =>
      rw [eg] at q
      refine hr αs1 T H1 st1 ds vs Q es R1 rx eg fun xs p rr hp => ?_
      obtain ⟨a1, a2, a3, a4, a5, a6, a7⟩ := freshen F1 R R1 rr hp
      exact q αs1 _ a6 (F1.trans a7) p xs a1 a2 a3 a4 a5
theorem rf_op {r : R2} {g : Sto → D → D → Option (List D)} {ta tb : TE} {fa fb : Rho → Sto → R D} (hr : RV2n K mg r g) (ha : RE K mg W ta fa) (hb : RE K mg W tb fb) : RF K mg W (tOp r ta tb) (fOpn g fa fb) := by
  intro αs T σ ρ H st Q R E q
  refine ha αs T σ ρ H st _ R E ?_
  unfold fOpn at q
  cases e : fa ρ st with
  | bad => rw [e] at q; exact q
  | exc c p st1 => rw [e] at q; exact q
  | ok a st1 =>
    rw [e] at q
    intro αs1 H1 R1 F1 x rx
    refine hb αs1 T σ ρ H1 st1 _ R1 (E.fr F1) ?_
    have q : PostG K mg W αs T σ H ((fb ρ st1).bind fun b st => .of (g st a b) st) _ := q
    cases e2 : fb ρ st1 with
    | bad => rw [e2] at q; exact q
    | exc c p st2 => rw [e2] at q; exact PostG.step q F1
    | ok b st2 =>
      rw [e2] at q
      intro αs2 H2 R2 F2 y ry
      have q : PostG K mg W αs T σ H (DL.R.of (g st2 a b) st2) _ := q
      cases eg : g st2 a b with
      | none => rw [eg] at q; exact q.elim
      | some es =>
        rw [eg] at q
        refine hr αs2 T H2 st2 a b x y Q es R2 (rx.fr F2) ry eg fun xs p rr hp => ?_
        obtain ⟨a1, a2, a3, a4, a5, a6, a7⟩ := freshen (F1.trans F2) R R2 rr hp
        exact q αs2 _ a6 ((F1.trans F2).trans a7) p xs a1 a2 a3 a4 a5
/-- a or b, both new lists -/
def fOrF (f g : Rho → Sto → R (List D)) : Rho → Sto → R (List D) := fun ρ st => (f ρ st).bind fun ds st => match ds with
  | [] => g ρ st
  | ds => .ok ds st
theorem rf_or {t u : TE} {f g : Rho → Sto → R (List D)} (h : RF K mg W t f) (h' : RF K mg W u g) : RF K mg W (tOrT K t u) (fOrF f g) := by
  intro αs T σ ρ H st Q R E q
  refine h αs T σ ρ H st _ R E ?_
  unfold fOrF at q
  cases e : f ρ st with
  | bad => rw [e] at q; exact q
  | exc c p st1 => rw [e] at q; exact q
  | ok ds st1 =>
    rw [e] at q
    intro αs1 H1 R1 F1 p xs hp hn hx R2 r2
    cases ds with
    | nil =>
      refine ⟨false, .inl ⟨xs, .of hx, by rw [r2.isNil]; rfl⟩, ?_⟩
      refine iteF (h' αs1 T σ ρ H1 st1 Q R1 (E.fr F1) ?_)
      have q : PostG K mg W αs T σ H (g ρ st1) _ := q
      refine PostG.imp (q.step F1) fun ds st2 αs2 H2 R3 F3 k p2 xs2 n2 m2 => k p2 xs2 ?_ m2
      cases q2 : H p2 with
      | none => rfl
      | some o =>
        have hna : p2 ∉ αs := fun z => m2 (by
          obtain ⟨⟨m1, e1, _⟩, _⟩ := F1
          obtain ⟨⟨m3, e3, _⟩, _⟩ := F3
          rw [e3, e1]; exact List.mem_append_left _ (List.mem_append_left _ z))
        rw [F1.keep p2 o hna q2] at n2; cases n2
    | cons d ds =>
      refine ⟨true, .inl ⟨xs, .of hx, ?_⟩, ?_⟩
      · have := r2.len
        cases xs with
        | nil => simp at this
        | cons x xs => rfl
      · exact iteT (q αs1 H1 R1 F1 p xs hp hn hx R2 r2)
end
/-! len, abs, int, list, tuple -/
def gLen (st : Sto) (a : List D) : Option D := match a with
  | [.str x] => if lineOk x.length then some (.int x.length) else none
  | [d] => match seqOf st d with
    | some ds => some (.int ds.length)
    | none => none
  | _ => none
def gAbs (_ : Sto) (a : List D) : Option D := match a with
  | [.int i] => some (.int (if i < 0 then -i else i))
  | _ => none
def gInt (_ : Sto) (a : List D) : Option D := match a with
  | [.int i] => some (.int i)
  | [.bl b] => some (.int (if b then 1 else 0))
  | _ => none
def gStrI (_ : Sto) (a : List D) : Option D := match a with
  | [.int i] => if Nat.blt i.natAbs.log2 1920 then some (.str (toString i)) else none
  | _ => none
def gListN (st : Sto) (a : List D) : Option (List D) := match a with
  | [d] => seqOf st d
  | _ => none
def gTuple (st : Sto) (a : List D) : Option D := match a with
  | [.lst ds] => some (.tup ds)
  | [.tup ds] => some (.tup ds)
  | [.frz ds] => some (.tup ds)
  | [.hnd n] => match st[n]? with
    | some ds => some (.tup ds)
    | none => none
  | _ => none
def intsOf : List D → Option (List Int)
  | [] => some []
  | .int i :: ds => match intsOf ds with
    | some r => some (i :: r)
    | none => none
  | _ :: _ => none
def boolsOf : List D → Option (List Bool)
  | [] => some []
  | .bl i :: ds => match boolsOf ds with
    | some r => some (i :: r)
    | none => none
  | _ :: _ => none
def minI : Int → List Int → Int
  | m, [] => m
  | m, x :: xs => minI (if x < m then x else m) xs
def maxI : Int → List Int → Int
  | m, [] => m
  | m, x :: xs => maxI (if m < x then x else m) xs
def sumI : List Int → Int
  | [] => 0
  | x :: xs => x + sumI xs
def gL1 {α : Type} (of : List D → Option (List α)) (k : List α → Option D) (st : Sto) (a : List D) : Option D := match a with
  | [d] => match lstOrFrz st d with
    | some ds => match of ds with
      | some r => k r
      | none => none
    | none => none
  | _ => none
where lstOrFrz (st : Sto) (d : D) : Option (List D) := match d with
  | .lst ds => some ds
  | .frz ds => some ds
  | .hnd n => st[n]?
  | _ => none
def gSum : Sto → List D → Option D := gL1 intsOf fun ns => some (.int (sumI ns))
def gMin : Sto → List D → Option D := gL1 intsOf fun ns => match ns with
  | [] => none
  | n :: ns => some (.int (minI n ns))
def gMax : Sto → List D → Option D := gL1 intsOf fun ns => match ns with
  | [] => none
  | n :: ns => some (.int (maxI n ns))
def allB : List Bool → Bool
  | [] => true
  | true :: bs => allB bs
  | false :: _ => false
def anyB : List Bool → Bool
  | [] => false
  | true :: _ => true
  | false :: bs => anyB bs
def gAll : Sto → List D → Option D := gL1 boolsOf fun bs => some (.bl (allB bs))
def gAny : Sto → List D → Option D := gL1 boolsOf fun bs => some (.bl (anyB bs))
theorem allB_eq : ∀ bs : List Bool, allB bs = bs.all id
  | [] => rfl
  | true :: bs => by simp [allB, allB_eq bs]
  | false :: bs => by simp [allB]
theorem anyB_eq : ∀ bs : List Bool, anyB bs = bs.any id
  | [] => rfl
  | true :: bs => by simp [anyB]
  | false :: bs => by simp [anyB, anyB_eq bs]
theorem sumI_eq : ∀ xs : List Int, sumI xs = xs.sum
  | [] => rfl
  | x :: xs => by rw [List.sum_cons, ← sumI_eq xs]; rfl
theorem minI_ok : ∀ (m : Int) (xs : List Int), minI m xs ∈ m :: xs ∧ ∀ y ∈ m :: xs, minI m xs ≤ y
  | m, [] => ⟨by simp [minI], fun y hy => by simp at hy; subst hy; exact Int.le_refl _⟩
  | m, x :: xs => by
    unfold minI
    by_cases h : x < m
    · rw [if_pos h]
      obtain ⟨h1, h2⟩ := minI_ok x xs
      refine ⟨List.mem_cons_of_mem _ h1, fun y hy => ?_⟩
      rcases List.mem_cons.mp hy with e | e
      · have := h2 x List.mem_cons_self
        omega
      · exact h2 y e
    · rw [if_neg h]
      obtain ⟨h1, h2⟩ := minI_ok m xs
      refine ⟨?_, fun y hy => ?_⟩
      · rcases List.mem_cons.mp h1 with e | e
        · rw [e]; exact List.mem_cons_self
        · exact List.mem_cons_of_mem _ (List.mem_cons_of_mem _ e)
      · rcases List.mem_cons.mp hy with e | e
        · exact h2 y (by rw [e]; exact List.mem_cons_self)
        · rcases List.mem_cons.mp e with e | e
          · have := h2 m List.mem_cons_self
            omega
          · exact h2 y (List.mem_cons_of_mem _ e)
theorem maxI_ok : ∀ (m : Int) (xs : List Int), maxI m xs ∈ m :: xs ∧ ∀ y ∈ m :: xs, y ≤ maxI m xs
  | m, [] => ⟨by simp [maxI], fun y hy => by simp at hy; subst hy; exact Int.le_refl _⟩
  | m, x :: xs => by
    unfold maxI
    by_cases h : m < x
    · rw [if_pos h]
      obtain ⟨h1, h2⟩ := maxI_ok x xs
      refine ⟨List.mem_cons_of_mem _ h1, fun y hy => ?_⟩
      rcases List.mem_cons.mp hy with e | e
      · have := h2 x List.mem_cons_self
        omega
      · exact h2 y e
    · rw [if_neg h]
      obtain ⟨h1, h2⟩ := maxI_ok m xs
      refine ⟨?_, fun y hy => ?_⟩
      · rcases List.mem_cons.mp h1 with e | e
        · rw [e]; exact List.mem_cons_self
        · exact List.mem_cons_of_mem _ (List.mem_cons_of_mem _ e)
      · rcases List.mem_cons.mp hy with e | e
        · exact h2 y (by rw [e]; exact List.mem_cons_self)
        · rcases List.mem_cons.mp e with e | e
          · have := h2 m List.mem_cons_self
            omega
          · exact h2 y (List.mem_cons_of_mem _ e)
section
variable {K : PySem.W.Frag} {mg : Str → Option Value}
theorem reps1 {αs T : List Addr} {H : Hp} {d : D} {x : List V} (r : Reps K mg αs T H [d] x) : ∃ v, x = [v] ∧ Rep K mg αs T H d v := by
  simp only [Reps] at r
  obtain ⟨v, r, e, h, e2⟩ := r
  subst e2
  exact ⟨v, e, h⟩
theorem ints_ok {αs T : List Addr} {H : Hp} : ∀ {ds : List D} {xs : List V} {ns : List Int}, Reps K mg αs T H ds xs → intsOf ds = some ns → xs = ns.map V.int
  | [], _, _, r, e => by rw [r.isNil]; cases e; rfl
  | d :: ds, _, ns, r, e => by
    simp only [Reps] at r
    obtain ⟨v, r, e1, h1, h2⟩ := r
    subst e1
    unfold intsOf at e
    split at e
    · rename_i e0; cases e0
    · rename_i i ds' e0
      cases e0
      split at e
      · rename_i q; cases e; rw [rep_int.mp h1, ints_ok h2 q]; rfl
      · cases e
    · cases e
theorem bools_ok {αs T : List Addr} {H : Hp} : ∀ {ds : List D} {xs : List V} {ns : List Bool}, Reps K mg αs T H ds xs → boolsOf ds = some ns → xs = ns.map V.bl
  | [], _, _, r, e => by rw [r.isNil]; cases e; rfl
  | d :: ds, _, ns, r, e => by
    simp only [Reps] at r
    obtain ⟨v, r, e1, h1, h2⟩ := r
    subst e1
    unfold boolsOf at e
    split at e
    · rename_i e0; cases e0
    · rename_i i ds' e0
      cases e0
      split at e
      · rename_i q; cases e; rw [rep_bl.mp h1, bools_ok h2 q]; rfl
      · cases e
    · cases e
theorem lf_ok {αs T : List Addr} {H : Hp} {st : Sto} (R : Rel K mg αs T H st) {d : D} {v : V} {ds : List D} (h : Rep K mg αs T H d v) (e : gL1.lstOrFrz st d = some ds) : ∃ a xs, v = .ref a ∧ SqL K H a xs ∧ Reps K mg αs T H ds xs := by
  cases d <;> simp only [gL1.lstOrFrz] at e <;> try (cases e; done)
  · cases e
    obtain ⟨a, xs, e1, h1, h2⟩ := rep_lst.mp h
    exact ⟨a, xs, e1, h1.sq, h2⟩
  · obtain ⟨a, e1, h1⟩ := rep_hnd.mp h
    obtain ⟨xs, h2, h3⟩ := R.lc h1 e
    exact ⟨a, xs, e1, .of h2, h3⟩
  · cases e
    obtain ⟨a, xs, e1, h1, h2⟩ := rep_frz.mp h
    exact ⟨a, xs, e1, h1.sq, h2⟩
theorem l1_ok {αs T : List Addr} {H : Hp} {st : Sto} {α : Type} {of : List D → Option (List α)} {k : List α → Option D} {a : List D} {x : List V} {d : D} (R : Rel K mg αs T H st) (r : Reps K mg αs T H a x) (e : gL1 of k st a = some d) :
    ∃ p xs ds as, x = [.ref p] ∧ SqL K H p xs ∧ Reps K mg αs T H ds xs ∧ of ds = some as ∧ k as = some d := by
  unfold gL1 at e
  split at e
  · obtain ⟨v, rfl, h⟩ := reps1 r
    split at e
    · rename_i ds hd
      obtain ⟨p, xs, rfl, h1, h2⟩ := lf_ok R h hd
      split at e
      · rename_i as ha
        exact ⟨p, xs, ds, as, rfl, h1, h2, ha, e⟩
      · cases e
    · cases e
  · cases e
theorem rvl_len : RVL K mg (rLen K) gLen := by
  intro αs T H st a x Q d R r e q
  unfold gLen at e
  split at e
  · rename_i s
    split at e
    · rename_i hl
      cases e
      obtain ⟨v, rfl, h⟩ := reps1 r
      rw [rep_str.mp h]
      exact ⟨_, _, rfl, ⟨lineOk_iff hl, rfl⟩, q _ H R .refl (rep_int.mpr rfl)⟩
    · cases e
  · split at e
    · rename_i ds hd
      cases e
      obtain ⟨v, rfl, h⟩ := reps1 r
      obtain ⟨p, xs, rfl, h1, h2⟩ := seqOf_ok R h hd
      refine ⟨_, _, rfl, ?_, q _ H R .refl (rep_int.mpr rfl)⟩
      rcases h1 with h1 | h1
      · exact .inl ⟨xs, h1, h2.len.symm⟩
      · exact .inr ⟨xs, h1, h2.len.symm⟩
    · cases e
  · cases e
theorem rvl_abs : RVL K mg (fun xs H Q => ∃ i, xs = [.int i] ∧ Q (.int (if i < 0 then -i else i)) H) gAbs := by
  intro αs T H st a x Q d R r e q
  unfold gAbs at e
  split at e
  · cases e
    obtain ⟨v, rfl, h⟩ := reps1 r
    rw [rep_int.mp h]
    exact ⟨_, rfl, q _ H R .refl (rep_int.mpr rfl)⟩
  · cases e
theorem rvl_int : RVL K mg (fun xs H Q => (∃ i, xs = [.int i] ∧ Q (.int i) H) ∨ ∃ k, xs = [.bl k] ∧ Q (.int (if k then 1 else 0)) H) gInt := by
  intro αs T H st a x Q d R r e q
  unfold gInt at e
  split at e
  · cases e
    obtain ⟨v, rfl, h⟩ := reps1 r
    rw [rep_int.mp h]
    exact .inl ⟨_, rfl, q _ H R .refl (rep_int.mpr rfl)⟩
  · cases e
    obtain ⟨v, rfl, h⟩ := reps1 r
    rw [rep_bl.mp h]
    exact .inr ⟨_, rfl, q _ H R .refl (rep_int.mpr rfl)⟩
  · cases e
theorem rvl_strI : RVL K mg (fun xs H Q => ∃ i, xs = [.int i] ∧ i.natAbs.log2 < 1920 ∧ Q (.str (toString i)) H) gStrI := by
  intro αs T H st a x Q d R r e q
  unfold gStrI at e
  split at e
  · split at e
    · rename_i hl
      cases e
      obtain ⟨v, rfl, h⟩ := reps1 r
      rw [rep_int.mp h]
      exact ⟨_, rfl, by simpa [Nat.blt_eq] using hl, q _ H R .refl (rep_str.mpr rfl)⟩
    · cases e
  · cases e
theorem rvn_list : RVLn K mg (fun xs H Q => ∃ p ys, xs = [.ref p] ∧ (SqL K H p ys ∨ SqT K H p ys) ∧ ∀ l, H l = none → Q (.ref l) (upd H l (.lst ys))) gListN := by
  intro αs T H st a x Q ds R r e q
  unfold gListN at e
  split at e
  · obtain ⟨v, rfl, h⟩ := reps1 r
    obtain ⟨p, xs, rfl, h1, h2⟩ := seqOf_ok R h e
    exact ⟨p, xs, rfl, h1, fun l hl => q xs l h2 hl⟩
  · cases e
theorem rvl_tuple : RVL K mg (fun xs H Q => ∃ p ys, xs = [.ref p] ∧ ((SqL K H p ys ∧ ∀ l, H l = none → Q (.ref l) (upd H l (.tup ys))) ∨ (SqT K H p ys ∧ Q (.ref p) H))) gTuple := by
  intro αs T H st a x Q d R r e q
  have lst : ∀ {d0 : D} {ds : List D} {v : V}, Rep K mg αs T H d0 v → gL1.lstOrFrz st d0 = some ds → d = .tup ds → ∃ p ys, [v] = [V.ref p] ∧ ((SqL K H p ys ∧ ∀ l, H l = none → Q (.ref l) (upd H l (.tup ys))) ∨ (SqT K H p ys ∧ Q (.ref p) H)) := by
    intro d0 ds v h e1 e2
    subst e2
    obtain ⟨p, xs, rfl, h1, h2⟩ := lf_ok R h e1
    refine ⟨p, xs, rfl, .inl ⟨h1, fun l hl => ?_⟩⟩
    obtain ⟨a1, b1, c1⟩ := newTup R h2 hl
    exact q _ _ a1 b1 c1
  unfold gTuple at e
  split at e
  · cases e
    obtain ⟨v, rfl, h⟩ := reps1 r
    exact lst h rfl rfl
  · cases e
    obtain ⟨v, rfl, h⟩ := reps1 r
    obtain ⟨p, xs, rfl, h1, h2⟩ := rep_tup.mp h
    exact ⟨p, xs, rfl, .inr ⟨h1.sq, q _ H R .refl h⟩⟩
  · cases e
    obtain ⟨v, rfl, h⟩ := reps1 r
    exact lst h rfl rfl
  · split at e
    · rename_i n ds hd
      cases e
      obtain ⟨v, rfl, h⟩ := reps1 r
      exact lst h hd rfl
    · cases e
  · cases e
theorem rvl_sum : RVL K mg (rSum K) gSum := by
  intro αs T H st a x Q d R r e q
  obtain ⟨p, xs, ds, ns, rfl, h1, h2, h3, h4⟩ := l1_ok R r e
  cases h4
  rw [ints_ok h2 h3] at h1
  exact ⟨p, ns, rfl, h1, by rw [← sumI_eq]; exact q _ H R .refl (rep_int.mpr rfl)⟩
theorem rvl_min : RVL K mg (rMin K) gMin := by
  intro αs T H st a x Q d R r e q
  obtain ⟨p, xs, ds, ns, rfl, h1, h2, h3, h4⟩ := l1_ok R r e
  rw [ints_ok h2 h3] at h1
  cases ns with
  | nil => cases h4
  | cons n ns =>
    cases h4
    refine ⟨p, n :: ns, rfl, h1, by simp, fun m hm hle => ?_⟩
    obtain ⟨k1, k2⟩ := minI_ok n ns
    have : m = minI n ns := Int.le_antisymm (hle _ k1) (k2 _ hm)
    rw [this]
    exact q _ H R .refl (rep_int.mpr rfl)
theorem rvl_max : RVL K mg (rMax K) gMax := by
  intro αs T H st a x Q d R r e q
  obtain ⟨p, xs, ds, ns, rfl, h1, h2, h3, h4⟩ := l1_ok R r e
  rw [ints_ok h2 h3] at h1
  cases ns with
  | nil => cases h4
  | cons n ns =>
    cases h4
    refine ⟨p, n :: ns, rfl, h1, by simp, fun m hm hle => ?_⟩
    obtain ⟨k1, k2⟩ := maxI_ok n ns
    have : m = maxI n ns := Int.le_antisymm (k2 _ hm) (hle _ k1)
    rw [this]
    exact q _ H R .refl (rep_int.mpr rfl)
theorem rvl_all : RVL K mg (rAll K) gAll := by
  intro αs T H st a x Q d R r e q
  obtain ⟨p, xs, ds, ns, rfl, h1, h2, h3, h4⟩ := l1_ok R r e
  cases h4
  rw [bools_ok h2 h3] at h1
  exact ⟨p, ns, rfl, h1, by rw [← allB_eq]; exact q _ H R .refl (rep_bl.mpr rfl)⟩
theorem rvl_any : RVL K mg (rAny K) gAny := by
  intro αs T H st a x Q d R r e q
  obtain ⟨p, xs, ds, ns, rfl, h1, h2, h3, h4⟩ := l1_ok R r e
  cases h4
  rw [bools_ok h2 h3] at h1
  exact ⟨p, ns, rfl, h1, by rw [← anyB_eq]; exact q _ H R .refl (rep_bl.mpr rfl)⟩
end
/-! new lists by operators -/
def gMulN (st : Sto) (a b : D) : Option (List D) := match b with
  | .int k => match lstOf st a with
    | some xs => if small63 k && lineOk (xs.length * k.toNat) then some (List.replicate k.toNat xs).flatten else none
    | none => none
  | _ => none
def gAddN (st : Sto) (a b : D) : Option (List D) := match lstOf st a, lstOf st b with
  | some xs, some ys => if lineOk (xs.length + ys.length) then some (xs ++ ys) else none
  | _, _ => none
section
variable {K : PySem.W.Frag} {mg : Str → Option Value}
theorem rvn_mul : RV2n K mg (rMulD K) gMulN := by
  intro αs T H st a b x y Q d R ra rb e q
  unfold gMulN at e
  split at e
  · rename_i k
    cases e1 : lstOf st a with
    | none => rw [e1] at e; cases e
    | some ds =>
      rw [e1] at e
      dsimp only at e
      split at e
      · rename_i hl
        cases e
        simp only [Bool.and_eq_true] at hl
        obtain ⟨l0, l3⟩ := hl
        obtain ⟨l1, l2⟩ := small63_iff l0
        obtain ⟨p, xs, rfl, h1, h2⟩ := lstOf_ok R ra e1
        rw [rep_int.mp rb]
        exact .inr (.inr ⟨p, k, xs, rfl, rfl, h1, l1, l2, by rw [h2.len]; exact lineOk_iff l3, fun t ht => q _ t (h2.rep _) ht⟩)
      · cases e
  · cases e
theorem rvn_add : RV2n K mg (rAddD K) gAddN := by
  intro αs T H st a b x y Q d R ra rb e q
  unfold gAddN at e
  cases e1 : lstOf st a with
  | none => rw [e1] at e; cases e
  | some ds =>
    rw [e1] at e
    cases e2 : lstOf st b with
    | none => rw [e2] at e; cases e
    | some es =>
      rw [e2] at e
      dsimp only at e
      split at e
      · rename_i hl
        cases e
        obtain ⟨p, xs, rfl, h1, h2⟩ := lstOf_ok R ra e1
        obtain ⟨p2, ys, rfl, g1, g2⟩ := lstOf_ok R rb e2
        exact .inr (.inr (.inr ⟨p, p2, xs, ys, rfl, rfl, h1, g1, by rw [h2.len, g2.len]; exact lineOk_iff hl, fun t ht => q _ t (h2.app g2) ht⟩))
      · cases e
end
/-! isinstance -/
inductive Ty where
  | int | bool | str | tup | lst | dict
def Ty.nm : Ty → String
  | .int => "int" | .bool => "bool" | .str => "str" | .tup => "tuple" | .lst => "list" | .dict => "dict"
def isTy : Ty → D → Option Bool
  | .int, .int _ => some true
  | .int, .bl _ => some true
  | .bool, .bl _ => some true
  | .str, .str _ => some true
  | .tup, .tup _ => some true
  | .lst, .lst _ => some true
  | .lst, .frz _ => some true
  | .lst, .hnd _ => some true
  | .dict, .dhn _ => some true
  | .dict, .dic _ _ => some true
  | _, .fn _ => none
  | _, _ => some false
def isAny : List Ty → D → Option Bool
  | [], _ => some false
  | t :: ts, d => match isTy t d with
    | some true => some true
    | some false => isAny ts d
    | none => none
def fIsi (ty : Ty) (f : Rho → Sto → R D) : Rho → Sto → R D := fun ρ st => (f ρ st).bind fun d st => match isTy ty d with
  | some b => .ok (.bl b) st
  | none => .bad
def fIsiT (tys : List Ty) (f : Rho → Sto → R D) : Rho → Sto → R D := fun ρ st => (f ρ st).bind fun d st => match isAny tys d with
  | some b => .ok (.bl b) st
  | none => .bad
def tTys : List Ty → TA
  | [] => tNil
  | t :: ts => tCons (tC (.ty t.nm)) (tTys ts)
section
variable {K : PySem.W.Frag} {mg : Str → Option Value} {W : WX} {αs T : List Addr} {H : Hp} {st : Sto}
def isFn : D → Bool
  | .fn _ => true
  | _ => false
theorem typ_of (R : Rel K mg αs T H st) {d : D} {v : V} (h : Rep K mg αs T H d v) (hf : isFn d = false) : ∃ t, TyX K H v t ∧ ∀ ty b, isTy ty d = some b → PySem.W.kitOne K t (.type ty.nm) = some b := by
  cases d with
  | non => rw [rep_non.mp h]; exact ⟨_, .base .non, fun ty b e => kit_ty (by cases ty <;> cases e <;> decide +kernel)⟩
  | bl b => rw [rep_bl.mp h]; exact ⟨_, .base (.bl _), fun ty b e => kit_ty (by cases ty <;> cases e <;> decide +kernel)⟩
  | int b => rw [rep_int.mp h]; exact ⟨_, .base (.int _), fun ty b e => kit_ty (by cases ty <;> cases e <;> decide +kernel)⟩
  | str b => rw [rep_str.mp h]; exact ⟨_, .base (.str _), fun ty b e => kit_ty (by cases ty <;> cases e <;> decide +kernel)⟩
  | tup ds =>
    obtain ⟨a, xs, rfl, h1, _⟩ := rep_tup.mp h
    refine ⟨.type "tuple", ?_, fun ty b e => kit_ty (by cases ty <;> cases e <;> decide +kernel)⟩
    rcases h1 with ⟨h1, _⟩ | h1
    · exact .base (.tup h1)
    · exact h1.1.elim
  | lst ds =>
    obtain ⟨a, xs, rfl, h1, _⟩ := rep_lst.mp h
    exact ⟨.type "list", .base (.lst h1.1), fun ty b e => kit_ty (by cases ty <;> cases e <;> decide +kernel)⟩
  | hnd n =>
    obtain ⟨a, rfl, h1, xs, hx⟩ := rep_hnd.mp h
    exact ⟨.type "list", .base (.lst hx), fun ty b e => kit_ty (by cases ty <;> cases e <;> decide +kernel)⟩
  | fn x => cases hf
  | dk ks => simp only [Rep] at h
  | dhn n =>
    obtain ⟨a, rfl, h1, xs, hx⟩ := rep_dhn.mp h
    exact ⟨.type "dict", .base (.dT hx), fun ty b e => kit_ty (by cases ty <;> cases e <;> decide +kernel)⟩
  | dic ks vs =>
    obtain ⟨a, xs, rfl, hx, _⟩ := rep_dic.mp h
    exact ⟨.type "dict", .base (.dT hx.1), fun ty b e => kit_ty (by cases ty <;> cases e <;> decide +kernel)⟩
  | frz ds =>
    obtain ⟨a, xs, rfl, h1, _⟩ := rep_frz.mp h
    refine ⟨.type "list", ?_, fun ty b e => kit_ty (by cases ty <;> cases e <;> decide +kernel)⟩
    rcases h1 with ⟨o, h1, _⟩ | ⟨o, its, n, h1, h2, _⟩
    · exact .base (.frz h1)
    · exact .kList h1 h2
theorem isTy_fn {ty : Ty} {d : D} {b : Bool} (e : isTy ty d = some b) : isFn d = false := by
  cases d with
  | fn x => cases ty <;> cases e
  | _ => rfl
theorem re_isi {ty : Ty} {t : TE} {f : Rho → Sto → R D} (h : RE K mg W t f) : RE K mg W (tCB (rIsi K) (tCons t (tCons (tC (.ty ty.nm)) tNil))) (fIsi ty f) := by
  intro αs T σ ρ H st Q R E q
  refine h αs T σ ρ H st _ R E (PostG.bind q fun d st1 αs1 H1 R1 F1 h1 x rx => ?_)
  cases e : isTy ty d with
  | none => rw [e] at h1; exact h1.elim
  | some b =>
    rw [e] at h1
    obtain ⟨t, h2, h3⟩ := typ_of R1 rx (isTy_fn e)
    exact ⟨x, _, t, _, b, rfl, .ty ty.nm, h2, h3 ty b e, h1 αs1 H1 R1 .refl _ (rep_bl.mpr rfl)⟩
theorem tTys_ok : ∀ (tys : List Ty) (σ : L2.St) (H : Hp) (Q : List V → Hp → Prop), Q (tys.map fun ty => V.ty ty.nm) H → tTys tys σ H Q
  | [], σ, H, Q, h => h
  | t :: ts, σ, H, Q, h => tTys_ok ts σ H (fun r H1 => Q (.ty t.nm :: r) H1) h
theorem isAny_ok {d : D} {t : Value} (hk : ∀ ty b, isTy ty d = some b → PySem.W.kitOne K t (.type ty.nm) = some b) : ∀ {tys : List Ty} {b : Bool}, isAny tys d = some b → PySem.W.kitAny K t (tys.map fun ty => Value.type ty.nm) = some b
  | [], b, e => by cases e; exact kitAny_nil
  | ty :: tys, b, e => by
    unfold isAny at e
    split at e
    · rename_i e1
      cases e
      exact kitAny_cons (hk _ _ e1) (fun z => by cases z) fun _ => rfl
    · rename_i e1
      exact kitAny_cons (hk _ _ e1) (fun _ => isAny_ok hk e) fun z => by cases z
    · cases e
theorem clsV_all : ∀ tys : List Ty, Paired ClsV (tys.map fun ty => V.ty ty.nm) (tys.map fun ty => Value.type ty.nm)
  | [] => .nil
  | t :: ts => .cons (.ty _) (clsV_all ts)
theorem re_isiT {ty : Ty} {tys : List Ty} {t : TE} {f : Rho → Sto → R D} (hl : lineOk (tys.length + 1) = true) (h : RE K mg W t f) : RE K mg W (tCB (rIsiT K) (tCons t (tCons (tTup (tTys (ty :: tys))) tNil))) (fIsiT (ty :: tys) f) := by
  intro αs T σ ρ H st Q R E q
  refine h αs T σ ρ H st _ R E (PostG.bind q fun d st1 αs1 H1 R1 F1 h1 x rx => ?_)
  cases e : isAny (ty :: tys) d with
  | none => rw [e] at h1; exact h1.elim
  | some b =>
    rw [e] at h1
    refine tTys_ok _ _ _ _ ⟨?_, fun p hp => ?_⟩
    · simp only [List.length_map, List.length_cons]; exact lineOk_iff hl
    have F2 : Fr αs1 H1 αs1 (upd H1 p (.tup ((ty :: tys).map fun ty => V.ty ty.nm))) := Fr.new hp
    have hf : isFn d = false := by
      unfold isAny at e
      split at e
      · rename_i e1; exact isTy_fn e1
      · rename_i e1; exact isTy_fn e1
      · cases e
    have R2 : Rel K mg αs1 T (upd H1 p (.tup ((ty :: tys).map fun ty => V.ty ty.nm))) st1 := R1.new hp
    obtain ⟨t, h2, h3⟩ := typ_of R2 (rx.fr F2) hf
    exact ⟨x, p, _, t, _, b, rfl, upd_same, clsV_all _, h2, isAny_ok h3 e, h1 αs1 _ R2 F2 _ (rep_bl.mpr rfl)⟩
end
/-- a built-in type's name -/
theorem pe_tyn {X : Cx} {x : Str} {n : String} {p : Pos} (hg : Gl X x) (hm : X.mg x = none) (hv : bootBuiltins x = some (.type n)) (hn : x ≠ "__name__" := by decide) (hdb : (x == ("__debug__" : Str)) = false := by decide) : PE X (.Name x p) (tC (.ty n)) :=
  ⟨fun pins s σ H Q I h => ld_blt I hg hm hv ⟨.ty n, H, I, rfl, h⟩ hn hdb⟩
/-! ### x in y -/
def gInP (neg : Bool) (st : Sto) (a b : D) : Option D := match toP st a, seqOf st b with
  | some p, some ds => match toPs st ds with
    | some ps => if PyData.plain p && PyData.plainAll ps && Nat.ble p.depth 60 then some (.bl (if neg then !(ps.any fun y => PyData.eqv y p) else ps.any fun y => PyData.eqv y p)) else none
    | none => none
  | _, _ => none
def rInD (K : PySem.W.Frag) (neg : Bool) : R2 := fun x y H Q => ∃ (p : PyData) (ps : List PyData) (a : Addr) (xs : List V), Dp K H x p ∧ y = .ref a ∧ (SqL K H a xs ∨ SqT K H a xs) ∧ DpAll K H xs ps ∧ PyData.plain p = true ∧ PyData.plainAll ps = true ∧ p.depth ≤ 60 ∧
  Q (.bl (if neg then !(ps.any fun y => PyData.eqv y p) else ps.any fun y => PyData.eqv y p)) H
theorem op_inD {X : Cx} (hu : X.A.units + 64 < cLine) : OpR X (compareOp .In) (rInD X.K false) := by
  intro pins s σ H x y v u Q I rx ry h
  obtain ⟨p, ps, a, xs, hp, rfl, hs, hps, c1, c2, c3, q⟩ := h
  obtain ⟨as, r1⟩ := Dp.reads I p x v hp rx
  have hb : X.A.units + 1 + min (PyData.depthAll ps) p.depth < cLine := by
    have := Nat.min_le_right (PyData.depthAll ps) p.depth
    omega
  rcases hs with hs | hs
  · obtain ⟨bs, r2⟩ := Dp.reads I (.list ps) (.ref a) u (.lst hs hps) ry
    exact SeqAt.in_list_data r2 r1 c2 c1 hb ⟨.bl _, H, I, rfl, q⟩
  · obtain ⟨bs, r2⟩ := Dp.reads I (.tuple ps) (.ref a) u (.tup hs hps) ry
    exact SeqAt.in_tuple_data r2 r1 c2 c1 hb ⟨.bl _, H, I, rfl, q⟩
theorem op_notInD {X : Cx} (hu : X.A.units + 64 < cLine) : OpR X (compareOp .NotIn) (rInD X.K true) := by
  intro pins s σ H x y v u Q I rx ry h
  obtain ⟨p, ps, a, xs, hp, rfl, hs, hps, c1, c2, c3, q⟩ := h
  obtain ⟨as, r1⟩ := Dp.reads I p x v hp rx
  have hb : X.A.units + 1 + min (PyData.depthAll ps) p.depth < cLine := by
    have := Nat.min_le_right (PyData.depthAll ps) p.depth
    omega
  rcases hs with hs | hs
  · obtain ⟨bs, r2⟩ := Dp.reads I (.list ps) (.ref a) u (.lst hs hps) ry
    exact SeqAt.notIn_list_data r2 r1 c2 c1 hb ⟨.bl _, H, I, rfl, q⟩
  · obtain ⟨bs, r2⟩ := Dp.reads I (.tuple ps) (.ref a) u (.tup hs hps) ry
    exact SeqAt.notIn_tuple_data r2 r1 c2 c1 hb ⟨.bl _, H, I, rfl, q⟩
theorem rv_in {K : PySem.W.Frag} {mg : Str → Option Value} {neg : Bool} : RV2 K mg (rInD K neg) (gInP neg) := by
  intro αs T H st a b x y Q d R ra rb e q
  unfold gInP at e
  split at e
  · rename_i p ds e1 e2
    split at e
    · rename_i ps e3
      split at e
      · rename_i hc
        cases e
        simp only [Bool.and_eq_true] at hc
        obtain ⟨p1, xs, rfl, h1, h2⟩ := seqOf_ok R rb e2
        exact ⟨p, ps, p1, xs, toP_ok ra e1, rfl, h1, toPs_ok h2 e3, hc.1.1, hc.1.2, Nat.le_of_ble_eq_true hc.2, q _ H R .refl (rep_bl.mpr rfl)⟩
      · cases e
    · cases e
  · cases e
end DL
namespace DL
open PySem PySem.Spec PyProof.Rows L2
/-! ### sorted -/
/-- what an item looks like: an int, a text, a tuple of such, a pair -/
inductive Sh where
  | i | s | h (t : Sh) | q (a b : Sh)
mutual
def hasTy : D → Sh → Bool
  | .int _, .i => true
  | .str _, .s => true
  | .tup ds, .h t => hasAll ds t
  | .tup ds, .q a b => hasTwo ds a b
  | _, _ => false
def hasAll : List D → Sh → Bool
  | [], _ => true
  | d :: ds, t => hasTy d t && hasAll ds t
def hasTwo : List D → Sh → Sh → Bool
  | [], _, _ => false
  | d :: ds, a, b => hasTy d a && hasOne ds b
def hasOne : List D → Sh → Bool
  | [], _ => false
  | d :: ds, b => hasTy d b && ds.isEmpty
end
def Sh.depth : Sh → Nat
  | .i => 0
  | .s => 0
  | .h t => t.depth + 1
  | .q a b => max a.depth b.depth + 1
mutual
def pv : D → PyData
  | .int i => .int i
  | .str x => .str x
  | .tup ds => .tuple (pvs ds)
  | _ => .none
def pvs : List D → List PyData
  | [] => []
  | d :: ds => pv d :: pvs ds
end
theorem pvs_map : ∀ ds : List D, pvs ds = ds.map pv
  | [] => rfl
  | d :: ds => by rw [pvs, pvs_map ds]; rfl
mutual
theorem hasTy_alike : ∀ (d e : D) (t : Sh), hasTy d t = true → hasTy e t = true → PySem.W.alike (pv d) (pv e) = true
  | .int _, e, .i, _, h => by cases e <;> simp only [hasTy] at h <;> first | (cases h; done) | simp only [pv, PySem.W.alike]
  | .str _, e, .s, _, h => by cases e <;> simp only [hasTy] at h <;> first | (cases h; done) | simp only [pv, PySem.W.alike]
  | .tup ds, e, .h t, h, h' => by
    cases e <;> simp only [hasTy] at h' <;> try (cases h'; done)
    simp only [hasTy] at h
    simp only [pv, PySem.W.alike]
    exact hasAll_alike ds _ t h h'
  | .tup ds, e, .q a b, h, h' => by
    cases e <;> simp only [hasTy] at h' <;> try (cases h'; done)
    simp only [hasTy] at h
    simp only [pv, PySem.W.alike]
    exact hasTwo_alike ds _ a b h h'
  | .int _, _, .s, h, _ => by simp only [hasTy] at h; cases h
  | .int _, _, .h _, h, _ => by simp only [hasTy] at h; cases h
  | .int _, _, .q _ _, h, _ => by simp only [hasTy] at h; cases h
  | .str _, _, .i, h, _ => by simp only [hasTy] at h; cases h
  | .str _, _, .h _, h, _ => by simp only [hasTy] at h; cases h
  | .str _, _, .q _ _, h, _ => by simp only [hasTy] at h; cases h
  | .tup _, _, .i, h, _ => by simp only [hasTy] at h; cases h
  | .tup _, _, .s, h, _ => by simp only [hasTy] at h; cases h
  | .non, _, t, h, _ => by cases t <;> simp only [hasTy] at h <;> cases h
  | .bl _, _, t, h, _ => by cases t <;> simp only [hasTy] at h <;> cases h
  | .lst _, _, t, h, _ => by cases t <;> simp only [hasTy] at h <;> cases h
  | .hnd _, _, t, h, _ => by cases t <;> simp only [hasTy] at h <;> cases h
  | .fn _, _, t, h, _ => by cases t <;> simp only [hasTy] at h <;> cases h
  | .frz _, _, t, h, _ => by cases t <;> simp only [hasTy] at h <;> cases h
  | .dhn _, _, t, h, _ => by cases t <;> simp only [hasTy] at h <;> cases h
  | .dic _ _, _, t, h, _ => by cases t <;> simp only [hasTy] at h <;> cases h
  | .dk _, _, t, h, _ => by cases t <;> simp only [hasTy] at h <;> cases h
theorem hasAll_alike : ∀ (ds es : List D) (t : Sh), hasAll ds t = true → hasAll es t = true → PySem.W.alikeAll (pvs ds) (pvs es) = true
  | [], _, _, _, _ => by simp only [pvs, PySem.W.alikeAll]
  | d :: ds, [], _, _, _ => by simp only [pvs, PySem.W.alikeAll]
  | d :: ds, e :: es, t, h, h' => by
    simp only [hasAll, Bool.and_eq_true] at h h'
    simp only [pvs, PySem.W.alikeAll, Bool.and_eq_true]
    exact ⟨hasTy_alike d e t h.1 h'.1, hasAll_alike ds es t h.2 h'.2⟩
theorem hasTwo_alike : ∀ (ds es : List D) (a b : Sh), hasTwo ds a b = true → hasTwo es a b = true → PySem.W.alikeAll (pvs ds) (pvs es) = true
  | [], _, _, _, _, _ => by simp only [pvs, PySem.W.alikeAll]
  | d :: ds, [], _, _, _, _ => by simp only [pvs, PySem.W.alikeAll]
  | d :: ds, e :: es, a, b, h, h' => by
    simp only [hasTwo, Bool.and_eq_true] at h h'
    simp only [pvs, PySem.W.alikeAll, Bool.and_eq_true]
    exact ⟨hasTy_alike d e a h.1 h'.1, hasOne_alike ds es b h.2 h'.2⟩
theorem hasOne_alike : ∀ (ds es : List D) (b : Sh), hasOne ds b = true → hasOne es b = true → PySem.W.alikeAll (pvs ds) (pvs es) = true
  | [], _, _, _, _ => by simp only [pvs, PySem.W.alikeAll]
  | d :: ds, [], _, _, _ => by simp only [pvs, PySem.W.alikeAll]
  | d :: ds, e :: es, b, h, h' => by
    simp only [hasOne, Bool.and_eq_true] at h h'
    have e1 : ds = [] := by simpa using h.2
    subst e1
    simp only [pvs, PySem.W.alikeAll, Bool.and_eq_true]
    exact ⟨hasTy_alike d e b h.1 h'.1, trivial⟩
end
mutual
theorem hasTy_depth : ∀ (d : D) (t : Sh), hasTy d t = true → (pv d).depth ≤ t.depth
  | .int _, t, _ => by simp only [pv, PyData.depth]; exact Nat.zero_le _
  | .str _, t, _ => by simp only [pv, PyData.depth]; exact Nat.zero_le _
  | .non, t, _ => by simp only [pv, PyData.depth]; exact Nat.zero_le _
  | .bl _, t, _ => by simp only [pv, PyData.depth]; exact Nat.zero_le _
  | .lst _, t, _ => by simp only [pv, PyData.depth]; exact Nat.zero_le _
  | .hnd _, t, _ => by simp only [pv, PyData.depth]; exact Nat.zero_le _
  | .fn _, t, _ => by simp only [pv, PyData.depth]; exact Nat.zero_le _
  | .frz _, t, _ => by simp only [pv, PyData.depth]; exact Nat.zero_le _
  | .dhn _, t, _ => by simp only [pv, PyData.depth]; exact Nat.zero_le _
  | .dic _ _, t, _ => by simp only [pv, PyData.depth]; exact Nat.zero_le _
  | .dk _, t, _ => by simp only [pv, PyData.depth]; exact Nat.zero_le _
  | .tup ds, .h t, h => by
    simp only [hasTy] at h
    simp only [pv, PyData.depth, Sh.depth]
    have := hasAll_depth ds t h
    omega
  | .tup ds, .q a b, h => by
    simp only [hasTy] at h
    simp only [pv, PyData.depth, Sh.depth]
    have := hasTwo_depth ds a b h
    omega
  | .tup ds, .i, h => by simp only [hasTy] at h; cases h
  | .tup ds, .s, h => by simp only [hasTy] at h; cases h
theorem hasAll_depth : ∀ (ds : List D) (t : Sh), hasAll ds t = true → PyData.depthAll (pvs ds) ≤ t.depth
  | [], _, _ => by simp only [pvs, PyData.depthAll]; exact Nat.zero_le _
  | d :: ds, t, h => by
    simp only [hasAll, Bool.and_eq_true] at h
    simp only [pvs, PyData.depthAll]
    exact Nat.max_le.mpr ⟨hasTy_depth d t h.1, hasAll_depth ds t h.2⟩
theorem hasTwo_depth : ∀ (ds : List D) (a b : Sh), hasTwo ds a b = true → PyData.depthAll (pvs ds) ≤ max a.depth b.depth
  | [], _, _, h => by simp only [hasTwo] at h; cases h
  | d :: ds, a, b, h => by
    simp only [hasTwo, Bool.and_eq_true] at h
    simp only [pvs, PyData.depthAll]
    have h1 := hasTy_depth d a h.1
    have h2 := hasOne_depth ds b h.2
    omega
theorem hasOne_depth : ∀ (ds : List D) (b : Sh), hasOne ds b = true → PyData.depthAll (pvs ds) ≤ b.depth
  | [], _, h => by simp only [hasOne] at h; cases h
  | d :: ds, b, h => by
    simp only [hasOne, Bool.and_eq_true] at h
    have e1 : ds = [] := by simpa using h.2
    subst e1
    simp only [pvs, PyData.depthAll]
    have h1 := hasTy_depth d b h.1
    omega
end
section
variable {K : PySem.W.Frag} {mg : Str → Option Value} {αs T : List Addr} {H : Hp}
mutual
theorem hasTy_dp : ∀ (d : D) (t : Sh) (v : V), hasTy d t = true → Rep K mg αs T H d v → Dp K H v (pv d)
  | .int i, _, _, _, r => by rw [rep_int.mp r]; simp only [pv]; exact .int i
  | .str x, _, _, _, r => by rw [rep_str.mp r]; simp only [pv]; exact .str x
  | .tup ds, t, v, h, r => by
    obtain ⟨a, xs, rfl, h1, h2⟩ := rep_tup.mp r
    simp only [pv]
    refine .tup h1.sq ?_
    cases t with
    | h t => simp only [hasTy] at h; exact hasAll_dp ds t xs h h2
    | q a b => simp only [hasTy] at h; exact hasTwo_dp ds a b xs h h2
    | i => simp only [hasTy] at h; cases h
    | s => simp only [hasTy] at h; cases h
  | .non, t, _, h, _ => by cases t <;> simp only [hasTy] at h <;> cases h
  | .bl _, t, _, h, _ => by cases t <;> simp only [hasTy] at h <;> cases h
  | .lst _, t, _, h, _ => by cases t <;> simp only [hasTy] at h <;> cases h
  | .hnd _, t, _, h, _ => by cases t <;> simp only [hasTy] at h <;> cases h
  | .fn _, t, _, h, _ => by cases t <;> simp only [hasTy] at h <;> cases h
  | .frz _, t, _, h, _ => by cases t <;> simp only [hasTy] at h <;> cases h
  | .dhn _, t, _, h, _ => by cases t <;> simp only [hasTy] at h <;> cases h
  | .dic _ _, t, _, h, _ => by cases t <;> simp only [hasTy] at h <;> cases h
  | .dk _, t, _, h, _ => by cases t <;> simp only [hasTy] at h <;> cases h
theorem hasAll_dp : ∀ (ds : List D) (t : Sh) (vs : List V), hasAll ds t = true → Reps K mg αs T H ds vs → DpAll K H vs (pvs ds)
  | [], _, _, _, r => by rw [r.isNil]; simp only [pvs]; exact .nil
  | d :: ds, t, _, h, r => by
    simp only [hasAll, Bool.and_eq_true] at h
    simp only [Reps] at r
    obtain ⟨v, vs, rfl, h1, h2⟩ := r
    simp only [pvs]
    exact .cons (hasTy_dp d t v h.1 h1) (hasAll_dp ds t vs h.2 h2)
theorem hasTwo_dp : ∀ (ds : List D) (a b : Sh) (vs : List V), hasTwo ds a b = true → Reps K mg αs T H ds vs → DpAll K H vs (pvs ds)
  | [], _, _, _, h, _ => by simp only [hasTwo] at h; cases h
  | d :: ds, a, b, _, h, r => by
    simp only [hasTwo, Bool.and_eq_true] at h
    simp only [Reps] at r
    obtain ⟨v, vs, rfl, h1, h2⟩ := r
    simp only [pvs]
    exact .cons (hasTy_dp d a v h.1 h1) (hasOne_dp ds b vs h.2 h2)
theorem hasOne_dp : ∀ (ds : List D) (b : Sh) (vs : List V), hasOne ds b = true → Reps K mg αs T H ds vs → DpAll K H vs (pvs ds)
  | [], _, _, h, _ => by simp only [hasOne] at h; cases h
  | d :: ds, b, _, h, r => by
    simp only [hasOne, Bool.and_eq_true] at h
    have e1 : ds = [] := by simpa using h.2
    subst e1
    simp only [Reps] at r
    obtain ⟨v, vs, rfl, h1, h2⟩ := r
    subst h2
    simp only [pvs]
    exact .cons (hasTy_dp d b v h.1 h1) .nil
end
end
/-! insertion -/
def ins1 {α : Type} (le : α → α → Bool) (x : α) : List α → List α
  | [] => [x]
  | y :: ys => match le x y with
    | true => x :: y :: ys
    | false => y :: ins1 le x ys
def isort {α : Type} (le : α → α → Bool) : List α → List α
  | [] => []
  | x :: xs => ins1 le x (isort le xs)
section
variable {α β : Type} {le : α → α → Bool}
theorem ins1_perm (x : α) : ∀ ys : List α, (ins1 le x ys).Perm (x :: ys)
  | [] => .refl _
  | y :: ys => by
    unfold ins1
    split
    · exact .refl _
    · exact ((ins1_perm x ys).cons y).trans (.swap x y ys)
theorem isort_perm : ∀ xs : List α, (isort le xs).Perm xs
  | [] => .refl _
  | x :: xs => (ins1_perm x _).trans ((isort_perm xs).cons x)
theorem ins1_sorted (h : PySem.W.TotalLe le) (x : α) : ∀ {ys : List α}, ys.Pairwise (fun a b => le a b = true) → (ins1 le x ys).Pairwise (fun a b => le a b = true)
  | [], _ => List.pairwise_singleton _ _
  | y :: ys, hp => by
    unfold ins1
    have hp' := List.pairwise_cons.mp hp
    cases q : le x y with
    | true =>
      refine List.pairwise_cons.mpr ⟨fun z hz => ?_, hp⟩
      rcases List.mem_cons.mp hz with e | e
      · rw [e]; exact q
      · exact h.trans _ _ _ q (hp'.1 z e)
    | false =>
      refine List.pairwise_cons.mpr ⟨fun z hz => ?_, ins1_sorted h x hp'.2⟩
      have hz := (ins1_perm x ys).mem_iff.mp hz
      rcases List.mem_cons.mp hz with e | e
      · rw [e]
        rcases h.total x y with k | k
        · rw [q] at k; cases k
        · exact k
      · exact hp'.1 z e
theorem isort_sorted (h : PySem.W.TotalLe le) : ∀ xs : List α, (isort le xs).Pairwise (fun a b => le a b = true)
  | [] => .nil
  | x :: xs => ins1_sorted h x (isort_sorted h xs)
theorem ins1_filter (h : PySem.W.TotalLe le) (c x : α) : ∀ ys : List α, (ins1 le x ys).filter (PySem.W.sameRank le c) = (x :: ys).filter (PySem.W.sameRank le c)
  | [] => rfl
  | y :: ys => by
    unfold ins1
    cases q : le x y with
    | true => rfl
    | false =>
      show List.filter (PySem.W.sameRank le c) (y :: ins1 le x ys) = _
      rw [List.filter_cons, List.filter_cons, List.filter_cons, ins1_filter h c x ys, List.filter_cons]
      cases sx : PySem.W.sameRank le c x with
      | false => rfl
      | true =>
        cases sy : PySem.W.sameRank le c y with
        | false => rfl
        | true =>
          simp only [PySem.W.sameRank, Bool.and_eq_true] at sx sy
          have := h.trans _ _ _ sx.2 sy.1
          rw [q] at this; cases this
theorem isort_filter (h : PySem.W.TotalLe le) (c : α) : ∀ xs : List α, (isort le xs).filter (PySem.W.sameRank le c) = xs.filter (PySem.W.sameRank le c)
  | [] => rfl
  | x :: xs => by
    unfold isort
    rw [ins1_filter h, List.filter_cons, List.filter_cons, isort_filter h c xs]
theorem isort_merge (h : PySem.W.TotalLe le) (xs : List α) : isort le xs = xs.mergeSort le := PySem.W.sort_unique h (isort_sorted h xs) fun c => isort_filter h c xs
theorem ins1_map {le' : β → β → Bool} {f : α → β} (h : ∀ a b, le a b = le' (f a) (f b)) (x : α) : ∀ ys : List α, (ins1 le x ys).map f = ins1 le' (f x) (ys.map f)
  | [] => rfl
  | y :: ys => by
    unfold ins1
    rw [h]
    cases q : le' (f x) (f y) with
    | true => simp only [List.map_cons, q]
    | false => simp only [List.map_cons, q, ins1_map h x ys]
theorem isort_map {le' : β → β → Bool} {f : α → β} (h : ∀ a b, le a b = le' (f a) (f b)) : ∀ xs : List α, (isort le xs).map f = isort le' (xs.map f)
  | [] => rfl
  | x :: xs => by rw [isort, ins1_map h, isort_map h xs]; rfl
end
def leD (rev : Bool) (a b : D) : Bool := match rev with
  | true => !PySem.W.dataLt (pv a) (pv b)
  | false => !PySem.W.dataLt (pv b) (pv a)
def neTup : D → Bool
  | .tup (_ :: _) => true
  | _ => false
def allNe : List D → Bool
  | [] => true
  | d :: ds => neTup d && allNe ds
def topOk (t : Sh) (ds : List D) : Bool := match t with
  | .i => true
  | .s => true
  | .h _ => allNe ds
  | .q _ _ => allNe ds
def shOk (t : Sh) (ds : List D) : Bool := hasAll ds t && topOk t ds && Nat.ble t.depth 50
def anySh : List Sh → List D → Bool
  | [], _ => false
  | t :: ts, ds => shOk t ds || anySh ts ds
/-- ts: the shapes that the items may have -/
def gSortN (rev : Bool) (ts : List Sh) (st : Sto) (a : List D) : Option (List D) := match a with
  | [d] => match gL1.lstOrFrz st d with
    | some ds => if anySh ts ds then some (isort (leD rev) ds) else none
    | none => none
  | _ => none
structure Good (ds : List D) : Prop where
  al : PySem.W.AllAlike (ds.map pv)
  so : PySem.W.Sortable (ds.map pv)
  dp : ∀ d ∈ ds, (pv d).depth ≤ 50
theorem hasAll_mem {t : Sh} : ∀ {ds : List D}, hasAll ds t = true → ∀ d ∈ ds, hasTy d t = true
  | d :: ds, h, c, hc => by
    simp only [hasAll, Bool.and_eq_true] at h
    rcases List.mem_cons.mp hc with e | e
    · rw [e]; exact h.1
    · exact hasAll_mem h.2 c e
theorem allNe_mem : ∀ {ds : List D}, allNe ds = true → ∀ d ∈ ds, ∃ c cs, d = .tup (c :: cs)
  | d :: ds, h, c, hc => by
    simp only [allNe, Bool.and_eq_true] at h
    rcases List.mem_cons.mp hc with e | e
    · rw [e]
      cases d <;> simp only [neTup] at h <;> try (cases h.1; done)
      rename_i cs
      cases cs with
      | nil => cases h.1
      | cons c cs => exact ⟨c, cs, rfl⟩
    · exact allNe_mem h.2 c e
theorem shOk_good {t : Sh} {ds : List D} (h : shOk t ds = true) : Good ds ∧ hasAll ds t = true := by
  simp only [shOk, Bool.and_eq_true] at h
  obtain ⟨⟨h1, h2⟩, h3⟩ := h
  refine ⟨⟨fun p hp q hq => ?_, ?_, fun d hd => Nat.le_trans (hasTy_depth d t (hasAll_mem h1 d hd)) (Nat.le_of_ble_eq_true h3)⟩, h1⟩
  · obtain ⟨d, hd, rfl⟩ := List.mem_map.mp hp
    obtain ⟨e, he, rfl⟩ := List.mem_map.mp hq
    exact hasTy_alike d e t (hasAll_mem h1 d hd) (hasAll_mem h1 e he)
  · have tup : allNe ds = true → PySem.W.Sortable (ds.map pv) := fun h => .inl fun p hp => by
      obtain ⟨d, hd, rfl⟩ := List.mem_map.mp hp
      obtain ⟨c, cs, rfl⟩ := allNe_mem h d hd
      exact ⟨pv c, pvs cs, by simp only [pv, pvs]⟩
    cases t with
    | i =>
      refine .inr fun p hp => ?_
      obtain ⟨d, hd, rfl⟩ := List.mem_map.mp hp
      have := hasAll_mem h1 d hd
      cases d <;> simp only [hasTy] at this <;> try (cases this; done)
      simp only [pv]
      exact ⟨(fun z => by cases z), (fun xs z => by cases z)⟩
    | s =>
      refine .inr fun p hp => ?_
      obtain ⟨d, hd, rfl⟩ := List.mem_map.mp hp
      have := hasAll_mem h1 d hd
      cases d <;> simp only [hasTy] at this <;> try (cases this; done)
      simp only [pv]
      exact ⟨(fun z => by cases z), (fun xs z => by cases z)⟩
    | h t => exact tup h2
    | q a b => exact tup h2
theorem anySh_ok {ds : List D} : ∀ {ts : List Sh}, anySh ts ds = true → ∃ t, shOk t ds = true
  | t :: ts, h => by
    simp only [anySh, Bool.or_eq_true] at h
    rcases h with h | h
    · exact ⟨t, h⟩
    · exact anySh_ok h
def le2 (rev : Bool) (p q : V × D) : Bool := leD rev p.2 q.2
theorem le2_eq (rev : Bool) : le2 rev = PySem.W.dataLe rev (fun p : V × D => pv p.2) := by
  rw [PySem.W.dataLe_eq]
  funext a b
  cases rev <;> rfl
/-- sorted(xs), sorted(xs, reverse=b) -/
def rSortD (K : PySem.W.Frag) (rev : Bool) : List V → Hp → VK → Prop := fun vs H Q => ∃ (a : Addr) (xs : List V) (ds : List D), vs = [.ref a] ∧ SqL K H a xs ∧ DpAll K H xs (pvs ds) ∧ Good ds ∧
  ∀ p, H p = none → Q (.ref p) (upd H p (.lst ((isort (le2 rev) (xs.zip ds)).map (·.1))))
def rSortDK (K : PySem.W.Frag) : List V → List V → Hp → VK → Prop := fun vs zs H Q => ∃ b, zs = [.bl b] ∧ rSortD K b vs H Q
theorem each_zip {R : Value → V × D → Prop} : ∀ {xs : List V} {its : List Value} {ds : List D}, Vals xs its → xs.length = ds.length → (∀ v u d, RelV v u → (v, d) ∈ xs.zip ds → R u (v, d)) → PySem.W.EachIs R its (xs.zip ds)
  | _, _, [], .nil, _, _ => .nil
  | x :: xs, u :: us, d :: ds, .cons r t, h, f => .cons (f x u d r List.mem_cons_self) (each_zip t (by simpa using h) fun v u d r m => f v u d r (List.mem_cons_of_mem _ m))
  | _ :: _, _ :: _, [], .cons _ _, h, _ => by simp at h
theorem each_vals : ∀ {out : List Value} {ys : List (V × D)}, PySem.W.EachIs (fun u p => RelV p.1 u) out ys → Vals (ys.map (·.1)) out
  | _, _, .nil => .nil
  | _, _, .cons h t => .cons h (each_vals t)
theorem dp_zip {K : PySem.W.Frag} {H : Hp} : ∀ {xs : List V} {ds : List D}, DpAll K H xs (pvs ds) → xs.length = ds.length ∧ ∀ v d, (v, d) ∈ xs.zip ds → Dp K H v (pv d)
  | _, [], h => by simp only [pvs] at h; cases h; exact ⟨rfl, fun v d m => by simp at m⟩
  | _, d :: ds, h => by
    simp only [pvs] at h
    cases h with
    | cons h1 h2 =>
      obtain ⟨e, k⟩ := dp_zip h2
      refine ⟨by simp [e], fun v c m => ?_⟩
      rw [List.zip_cons_cons] at m
      rcases List.mem_cons.mp m with z | z
      · cases z; exact h1
      · exact k v c z
theorem zip_snd : ∀ {xs : List V} {ds : List D}, xs.length = ds.length → (xs.zip ds).map (·.2) = ds
  | [], [], _ => rfl
  | x :: xs, d :: ds, h => by rw [List.zip_cons_cons, List.map_cons, zip_snd (by simpa using h)]
  | [], _ :: _, h => by simp at h
  | _ :: _, [], h => by simp at h
theorem sortD_run {X : Cx} {rev : Bool} (hu : X.A.units + 64 < cLine) {pins : List (Addr × Obj)} {s : Shared} {σ : L2.St} {H : Hp} {vs : List V} {us : List Value} {Q : VK} (I : Inv X pins σ H s) (r : Vals vs us) (h : rSortD X.K rev vs H Q) :
    ∃ (l : Addr) (its : List Value) (bs : List (V × D)), us = [.ref l] ∧ s.heap.IsList l its.toArray ∧ PySem.W.EachIs (fun u p => RelV p.1 u) its bs ∧ PySem.W.EachIs (fun v b => ∃ as, Reads s.heap v ((fun p : V × D => pv p.2) b) as) its bs ∧ PySem.W.AllAlike (bs.map fun p => pv p.2) ∧ PySem.W.Sortable (bs.map fun p => pv p.2) ∧ bs.length ≤ sizeLine ∧
      (∀ b, b ∈ bs → X.A.units + 2 + (pv b.2).depth < cLine) ∧ ∀ out, out.length = bs.length → PySem.W.EachIs (fun u p => RelV p.1 u) out (bs.mergeSort (PySem.W.dataLe rev fun p => pv p.2)) → EP X pins σ Q (.ref (s.heap.objs.size + 1)) { s with heap := sortedAll s.heap its (List.toArray out) } := by
  obtain ⟨a, xs, ds, rfl, hs, hd, g, q⟩ := h
  obtain ⟨its, rv, hl, hz⟩ := I.list hs
  obtain ⟨hlen, hdp⟩ := dp_zip hd
  have hm : (xs.zip ds).map (fun p => pv p.2) = ds.map pv := by rw [show (fun p : V × D => pv p.2) = pv ∘ (·.2) from rfl, ← List.map_map, zip_snd hlen]
  have hL : (xs.zip ds).length = xs.length := by rw [List.length_zip, hlen, Nat.min_self]
  refine ⟨a, its, xs.zip ds, Vals.ref1 r, hl.isList, each_zip rv hlen fun v u d r _ => r, each_zip rv hlen fun v u d r m => Dp.reads I _ _ _ (hdp v d m) r, by rw [hm]; exact g.al, by rw [hm]; exact g.so, by rw [hL]; exact hz, fun b hb => ?_, fun out h1 h2 => ?_⟩
  · have := g.dp b.2 (List.of_mem_zip (a := b.1) (b := b.2) hb).2
    omega
  · rw [← le2_eq, ← isort_merge (by rw [le2_eq]; exact PySem.W.sortLe_total _ _ _)] at h2
    obtain ⟨ep, he'⟩ := PyProof.Rows.sortedAll_at s.heap its out.toArray
    refine ⟨.ref _, upd H (s.heap.objs.size + 1) (.lst ((isort (le2 rev) (xs.zip ds)).map (·.1))), I.laid (t' := s.toks) (fun _ _ => PyProof.Rows.sortedAll_old) (Nat.le_succ _) ⟨?_, out, ep, each_vals h2, he'⟩, rfl, q _ (I.hok.fresh (Nat.le_succ _))⟩
    rw [List.length_map, (isort_perm _).length_eq, hL]
    exact hz
theorem cr_sortD {X : Cx} (hu : X.A.units + 64 < cLine) : CallR X (.builtin "sorted") (rSortD X.K false) := by
  intro pins s σ H vs us Q I r h
  obtain ⟨l, its, bs, rfl, h1, h2, h3, h4, h5, h6, h7, h8⟩ := sortD_run hu I r h
  exact PySem.W.sorted_data (enc := fun p : V × D => pv p.2) h1 h2 h3 h4 h5 h6 h7 h8
theorem crk_sortD {X : Cx} (hu : X.A.units + 64 < cLine) : CallRK X (.builtin "sorted") [("reverse" : Str)] (rSortDK X.K) := by
  intro pins s σ H vs zs us ws Q I r rz h
  obtain ⟨b, rfl, h⟩ := h
  obtain ⟨w, rfl, rw⟩ := vals1 rz
  cases rw
  obtain ⟨l, its, bs, rfl, h1, h2, h3, h4, h5, h6, h7, h8⟩ := sortD_run hu I r h
  exact PySem.W.sorted_rev_data (enc := fun p : V × D => pv p.2) h1 h2 h3 h4 h5 h6 h7 h8
section
variable {K : PySem.W.Frag} {mg : Str → Option Value} {W : WX}
theorem reps_pairs {αs T : List Addr} {H : Hp} : ∀ {ys : List (V × D)}, (∀ p ∈ ys, Rep K mg αs T H p.2 p.1) → Reps K mg αs T H (ys.map (·.2)) (ys.map (·.1))
  | [], _ => .nil
  | y :: ys, h => .cons (h y List.mem_cons_self) (reps_pairs fun p hp => h p (List.mem_cons_of_mem _ hp))
theorem reps_zip {αs T : List Addr} {H : Hp} : ∀ {ds : List D} {xs : List V}, Reps K mg αs T H ds xs → ∀ p ∈ xs.zip ds, Rep K mg αs T H p.2 p.1
  | [], _, r, p, hp => by rw [r.isNil] at hp; cases hp
  | d :: ds, _, r, p, hp => by
    simp only [Reps] at r
    obtain ⟨v, vs, rfl, h1, h2⟩ := r
    rw [List.zip_cons_cons] at hp
    rcases List.mem_cons.mp hp with e | e
    · rw [e]; exact h1
    · exact reps_zip h2 p e
theorem rvn_sort {rev : Bool} {ts : List Sh} : RVLn K mg (rSortD K rev) (gSortN rev ts) := by
  intro αs T H st a x Q ds R r e q
  unfold gSortN at e
  split at e
  · obtain ⟨v, rfl, h⟩ := reps1 r
    split at e
    · rename_i es he
      split at e
      · rename_i hc
        cases e
        obtain ⟨p, xs, rfl, h1, h2⟩ := lf_ok R h he
        obtain ⟨t, ht⟩ := anySh_ok hc
        obtain ⟨g, hty⟩ := shOk_good ht
        refine ⟨p, xs, es, rfl, h1, hasAll_dp es t xs hty h2, g, fun l hl => q _ l ?_ hl⟩
        have hm : (isort (le2 rev) (xs.zip es)).map (·.2) = isort (leD rev) es := by
          rw [isort_map (le := le2 rev) (le' := leD rev) (f := fun p : V × D => p.2) (fun _ _ => rfl), zip_snd h2.len]
        rw [← hm]
        exact reps_pairs fun p hp => reps_zip h2 p ((isort_perm _).mem_iff.mp hp)
      · cases e
    · cases e
  · cases e
/-- with reverse= -/
def fSortK (ts : List Sh) (f k : Rho → Sto → R (List D)) : Rho → Sto → R (List D) := fun ρ st => (f ρ st).bind fun ds st => (k ρ st).bind fun zs st => match zs with
  | [.bl b] => .of (gSortN b ts st ds) st
  | _ => .bad
theorem rf_sortK {ts : List Sh} {t tk : TA} {f k : Rho → Sto → R (List D)} (h : RA K mg W t f) (hk : RA K mg W tk k) : RF K mg W (tCKw (rSortDK K) t tk) (fSortK ts f k) := by
  intro αs T σ ρ H st Q R E q
  refine h αs T σ ρ H st _ R E ?_
  unfold fSortK at q
  cases e : f ρ st with
  | bad => rw [e] at q; exact q
  | exc c p st1 => rw [e] at q; exact q
  | ok ds st1 =>
    rw [e] at q
    intro αs1 H1 R1 F1 x rx
    refine hk αs1 T σ ρ H1 st1 _ R1 (E.fr F1) ?_
    have q : PostG K mg W αs T σ H ((k ρ st1).bind fun zs st => match zs with | [.bl b] => .of (gSortN b ts st ds) st | _ => .bad) _ := q
    cases e2 : k ρ st1 with
    | bad => rw [e2] at q; exact q
    | exc c p st2 => rw [e2] at q; exact PostG.step q F1
    | ok zs st2 =>
      rw [e2] at q
      intro αs2 H2 R2 F2 y ry
      have q : PostG K mg W αs T σ H (match zs with | [.bl b] => DL.R.of (gSortN b ts st2 ds) st2 | _ => .bad) _ := q
      match zs, q, ry with
      | [.bl b], q, ry =>
        have q : PostG K mg W αs T σ H (DL.R.of (gSortN b ts st2 ds) st2) _ := q
        obtain ⟨v, rfl, hv⟩ := reps1 ry
        cases eg : gSortN b ts st2 ds with
        | none => rw [eg] at q; exact q.elim
        | some es =>
          rw [eg] at q
          refine ⟨b, by rw [rep_bl.mp hv], rvn_sort αs2 T H2 st2 ds x Q es R2 (rx.fr F2) eg fun xs p rr hp => ?_⟩
          obtain ⟨a1, a2, a3, a4, a5, a6, a7⟩ := freshen (F1.trans F2) R R2 rr hp
          exact q αs2 _ a6 ((F1.trans F2).trans a7) p xs a1 a2 a3 a4 a5
end
end DL
namespace DL
open PySem PySem.Spec PyProof.Rows L2
/-! ### tuple * k, any small k; t[::-1] -/
theorem tuple_mulSame (l : Addr) (items : Array Value) (n : Nat) (dd : Option Addr) (sl : Array (Option Value)) (x : Int) (u : Tok) (c0 : (decide (x < -(2 ^ 63)) || decide (x ≥ 2 ^ 63)) = false) (c1 : (items.isEmpty || x == 1) = true) :
    Meets (Builtin.«tuple.__mul__» ⟨[.ref l, .int x u], []⟩) (fun _ R s => s.heap.get? l = some { cls := .type "tuple", dict := dd, data := .seq items n, slots := sl } ∧
      R (.ok (.ret (Value.ref l))) s) :=
  .of_wp fun prog w A R s h => by
    obtain ⟨hp, g, d, tk, os⟩ := s
    obtain ⟨hl, h⟩ := h
    have f1 := AutoSeq1.idx_int
    wp_walk using wpAny_loadPart' hl
    repeat (first
      | (refine wpAny_ite_false (decide_eq_false (by rw [c0]; exact Bool.false_ne_true)) ?_; wp_walk using wpAny_loadPart' hl)
      | (refine wpAny_ite_true (decide_eq_true (by rw [c1])) ?_; wp_walk using wpAny_loadPart' hl))
    exact ⟨_, rfl, h⟩
theorem tuple_mulNone (l : Addr) (items : Array Value) (n : Nat) (dd : Option Addr) (sl : Array (Option Value)) (x : Int) (u : Tok) (c0 : (decide (x < -(2 ^ 63)) || decide (x ≥ 2 ^ 63)) = false) (c1 : (items.isEmpty || x == 1) = false) (c2 : (decide (x ≤ 0) || items.isEmpty) = true) :
    Meets (Builtin.«tuple.__mul__» ⟨[.ref l, .int x u], []⟩) (fun _ R s => s.heap.get? l = some { cls := .type "tuple", dict := dd, data := .seq items n, slots := sl } ∧
      R (.ok (.ret (Value.ref s.heap.objs.size))) { s with heap := s.heap.push { cls := Value.type "tuple", data := Data.seq #[] }, toks := s.toks }) :=
  .of_wp fun prog w A R s h => by
    obtain ⟨hp, g, d, tk, os⟩ := s
    obtain ⟨hl, h⟩ := h
    have f1 := AutoSeq1.idx_int
    wp_walk using wpAny_loadPart' hl
    repeat (first
      | (refine wpAny_ite_false (decide_eq_false (by rw [c0]; exact Bool.false_ne_true)) ?_; wp_walk using wpAny_loadPart' hl)
      | (refine wpAny_ite_false (decide_eq_false (by rw [c1]; exact Bool.false_ne_true)) ?_; wp_walk using wpAny_loadPart' hl)
      | (refine wpAny_ite_true (decide_eq_true (by rw [c2])) ?_; wp_walk using wpAny_loadPart' hl))
    exact ⟨_, rfl, h⟩
/-- a tuple times an int, where nothing is to be copied -/
def rRepS (K : PySem.W.Frag) : R2 := fun x y H Q => ∃ l k xs, x = .ref l ∧ y = .int k ∧ SqT K H l xs ∧ -1000 ≤ k ∧ k ≤ 1000 ∧
  (((xs = [] ∨ k = 1) ∧ Q (.ref l) H) ∨ (xs ≠ [] ∧ k ≤ 0 ∧ ∀ p, H p = none → Q (.ref p) (upd H p (.tup []))))
theorem op_repS {X : Cx} : OpR X (binaryOp .Mult) (rRepS X.K) := by
  intro pins s σ H x y v u Q I rx ry h
  obtain ⟨l, k, xs, rfl, rfl, hT, h1, h2, q⟩ := h
  cases rx
  obtain ⟨t, rfl⟩ := ry
  obtain ⟨its, r, ⟨⟨cls, dd, data, sl⟩, ho, hc, n, hd⟩, hs⟩ := I.tuple hT
  simp only at hc hd
  subst hc hd
  have hle : its.length = xs.length := r.length.symm
  have c0 : (decide (k < -(2 ^ 63)) || decide (k ≥ 2 ^ 63)) = false := by
    rw [decide_eq_false (by omega), decide_eq_false (by omega)] <;> rfl
  rcases q with ⟨hq, q⟩ | ⟨hne, hk, q⟩
  · have c1 : (its.toArray.isEmpty || k == 1) = true := by
      rcases hq with e | e
      · have : its = [] := by
          rw [e] at hle
          exact List.eq_nil_of_length_eq_zero hle
        subst this; rfl
      · subst e; simp
    exact wpAny_binaryOp_repeat_ref (T := "tuple") (U := "int") (by decide) ⟨_, ho, rfl⟩ (fun s' => typeIs_int s' k t) noFill_tuple_mul F.fills_int_mul F.slot_int_rmul repeat_tuple F.slot_int_index.lookup
      (call_meets F.slot_int_rmul (typeIs_int s k t) F.entry_int_rmul (F.args_int_rmul_2 _ _) (int_rmul_tuple k t l its.toArray n dd sl)
        ⟨ho, rfl, ⟨_, ho, rfl⟩, call_meets F.slot_tuple_mul ⟨_, ho, rfl⟩ F.entry_tuple_mul (F.args_tuple_mul_2 _ _) (tuple_mulSame l its.toArray n dd sl k t c0 c1) ⟨ho, ⟨.ref l, H, I, rfl, q⟩⟩⟩)
  · have hi : its.toArray.isEmpty = false := by
      cases its with
      | nil => exact absurd (List.eq_nil_of_length_eq_zero (by simpa using hle.symm)) hne
      | cons a b => rfl
    have c1 : (its.toArray.isEmpty || k == 1) = false := by
      rw [hi, Bool.false_or]
      exact beq_eq_false_iff_ne.mpr (by omega)
    have c2 : (decide (k ≤ 0) || its.toArray.isEmpty) = true := by
      rw [decide_eq_true hk]; rfl
    refine wpAny_binaryOp_repeat_ref (T := "tuple") (U := "int") (by decide) ⟨_, ho, rfl⟩ (fun s' => typeIs_int s' k t) noFill_tuple_mul F.fills_int_mul F.slot_int_rmul repeat_tuple F.slot_int_index.lookup
      (call_meets F.slot_int_rmul (typeIs_int s k t) F.entry_int_rmul (F.args_int_rmul_2 _ _) (int_rmul_tuple k t l its.toArray n dd sl)
        ⟨ho, rfl, ⟨_, ho, rfl⟩, call_meets F.slot_tuple_mul ⟨_, ho, rfl⟩ F.entry_tuple_mul (F.args_tuple_mul_2 _ _) (tuple_mulNone l its.toArray n dd sl k t c0 c1 c2) ⟨ho, ?_⟩⟩)
    refine ⟨.ref s.heap.objs.size, _, I.laid (t' := s.toks) (o := .tup []) (fun b ob q => Heap.get?_push_of_some _ q) (Nat.le_refl _) ?_, rfl, q _ (I.hok.fresh (Nat.le_refl _))⟩
    exact ⟨Nat.zero_le _, [], .nil, IsTup.new _ _⟩
def rMulE (K : PySem.W.Frag) : R2 := fun x y H Q => rMulD K x y H Q ∨ rRepS K x y H Q
theorem op_mulE {X : Cx} : OpR X (binaryOp .Mult) (rMulE X.K) := op_mulD.or op_repS
def repT (xs : List D) : Nat → List D
  | 0 => []
  | k + 1 => xs ++ repT xs k
theorem repT_eq (xs : List D) : ∀ k, repT xs k = (List.replicate k xs).flatten
  | 0 => rfl
  | k + 1 => by rw [repT, repT_eq xs k, List.replicate_succ, List.flatten_cons]
def gMulE (st : Sto) (a b : D) : Option D := match a, b with
  | .int i, .int j => if small64 i || small64 j then some (.int (i * j)) else none
  | .tup xs, .int k => if decide (-1000 ≤ k) && decide (k ≤ 1000) && Nat.ble xs.length 1000 then some (.tup (repT xs k.toNat)) else none
  | a, b => match gMulN st a b with
    | some ds => some (.lst ds)
    | none => none
theorem rv_mulE {K : PySem.W.Frag} {mg : Str → Option Value} : RV2 K mg (rMulE K) gMulE := by
  intro αs T H st a b x y Q d R ra rb e q
  unfold gMulE at e
  split at e
  · refine .inl (rv_mul αs T H st _ _ x y Q d R ra rb ?_ q)
    exact e
  · rename_i xs k
    split at e
    · rename_i hl
      cases e
      simp only [Bool.and_eq_true, decide_eq_true_eq] at hl
      obtain ⟨⟨l1, l2⟩, l3⟩ := hl
      have l3 := Nat.le_of_ble_eq_true l3
      rw [repT_eq] at q
      obtain ⟨p, vs, rfl, h1, h2⟩ := rep_tup.mp ra
      rw [rep_int.mp rb]
      by_cases hn : xs = []
      · subst hn
        rw [h2.isNil] at h1
        refine .inr ⟨p, k, [], rfl, rfl, h1.sq, l1, l2, .inl ⟨.inl rfl, ?_⟩⟩
        have : (List.replicate k.toNat ([] : List D)).flatten = [] := by
          rw [← repT_eq]
          generalize k.toNat = m
          induction m with
          | zero => rfl
          | succ m ih => rw [repT, ih]; rfl
        rw [this] at q
        exact q _ H R .refl (rep_tup.mpr ⟨p, [], rfl, h1, .nil⟩)
      · have hv : vs ≠ [] := fun z => hn (by rw [z] at h2; exact List.eq_nil_of_length_eq_zero h2.len.symm)
        by_cases h0 : k ≤ 0
        · refine .inr ⟨p, k, vs, rfl, rfl, h1.sq, l1, l2, .inr ⟨hv, h0, fun t ht => ?_⟩⟩
          have : k.toNat = 0 := by omega
          rw [this] at q
          obtain ⟨a, b, c⟩ := newTup R (ds := []) (xs := []) .nil ht
          exact q _ _ a b c
        · by_cases hk : k = 1
          · subst hk
            refine .inr ⟨p, 1, vs, rfl, rfl, h1.sq, l1, l2, .inl ⟨.inr rfl, ?_⟩⟩
            have : (List.replicate (1 : Int).toNat xs).flatten = xs := by simp
            rw [this] at q
            exact q _ H R .refl ra
          · refine .inl (.inr (.inl ⟨p, k, vs, rfl, rfl, h1.sq, hv, by omega, l2, by rw [h2.len]; exact l3, fun t ht => ?_⟩))
            obtain ⟨a, b, c⟩ := newTup R (h2.rep _) ht
            exact q _ _ a b c
    · cases e
  · split at e
    · rename_i ds hd
      cases e
      refine .inl (rvn_mul αs T H st a b x y Q ds R ra rb hd fun xs p rr hp => ?_)
      obtain ⟨a1, b1, c1⟩ := newLst R rr hp
      exact q _ _ a1 b1 c1
    · cases e
theorem rvn_mulE {K : PySem.W.Frag} {mg : Str → Option Value} : RV2n K mg (rMulE K) gMulN := fun αs T H st a b x y Q ds R ra rb e q => .inl (rvn_mul αs T H st a b x y Q ds R ra rb e q)
/-! t[::-1] -/
theorem adjust_rev (n : Nat) : Builtin.Slice.sliceAdjust none none (-1) (n : Int) = ((n : Int) - 1, -1) := by
  unfold Builtin.Slice.sliceAdjust
  have h1 : (-1 : Int) < 0 := by decide
  simp only [h1, if_true]
theorem places_rev (n : Nat) : Builtin.Slice.slicePlaces ((n : Int) - 1) (-1) (-1) = n := by
  unfold Builtin.Slice.slicePlaces
  have h1 : ¬ ((-1 : Int) > 0) := by decide
  simp only [h1, if_false]
  by_cases h : (n : Int) - 1 > -1
  · rw [if_pos h, show (- -1 : Int) = 1 by decide, Int.ediv_one]; omega
  · rw [if_neg h]; omega
theorem fm_congr {α β : Type} {f g : α → Option β} : ∀ {l : List α}, (∀ m ∈ l, f m = g m) → l.filterMap f = l.filterMap g
  | [], _ => rfl
  | a :: l, h => by rw [List.filterMap_cons, List.filterMap_cons, h a List.mem_cons_self, fm_congr fun m hm => h m (List.mem_cons_of_mem _ hm)]
theorem pick_rev (xs : Array Value) : ((List.range xs.size).filterMap fun (m : Nat) => xs[(((xs.size : Int) - 1) + (m : Int) * -1).toNat]?) = xs.toList.reverse := by
  have e : ∀ m ∈ List.range xs.size, xs[(((xs.size : Int) - 1) + (m : Int) * -1).toNat]? = (fun k => xs[k]?) (xs.size - 1 - m) := fun m hm => by
    have := List.mem_range.mp hm
    have e1 : (((xs.size : Int) - 1) + (m : Int) * -1).toNat = xs.size - 1 - m := by omega
    rw [e1]
  have h1 : ((List.range xs.size).filterMap fun (m : Nat) => xs[(((xs.size : Int) - 1) + (m : Int) * -1).toNat]?) = ((List.range xs.size).map fun m => xs.size - 1 - m).filterMap fun k => xs[k]? := by
    rw [List.filterMap_map]
    exact fm_congr e
  rw [h1, PySem.W.krv_range, List.filterMap_reverse, PySem.W.krv_all]
theorem getItem_tuple_rev {prog : Program} {w : World} {A : Around} {E : Value → Shared → Prop} {s : Shared} {t sl : Addr} {items : Array Value} {vs : Value} {Q : Value → Shared → Prop} (ht : IsTup s.heap t items) (hs : s.heap.IsSliceOf sl .none .none vs) (pu : IsPart vs (some (-1)))
    (h : Q (.ref s.heap.objs.size) { s with heap := s.heap.push { cls := .type "tuple", data := .seq items.toList.reverse.toArray } })
    (hsz : items.size ≤ sizeLine) : wpAny (model prog w) A (getItem (.ref t) (.ref sl)) Q E s := by
  have htake : sizeOk (.seq items.toList.reverse.toArray) := by
    show items.toList.reverse.toArray.size ≤ sizeLine
    simpa using hsz
  obtain ⟨os, hos, hcs, hds⟩ := id hs
  have hTs : s.TypeIs (.ref sl) "slice" := ⟨os, hos, hcs⟩
  unfold getItem
  try with_reducible refine wpAny_holding ?_
  first | refine wpAny_bind (wpAny_pure ?_) | skip
  refine wpAny_bind (wpAny_sequenceKey ht.typeIs (by decide) ?_)
  refine wpAny_bind (wpAny_callSpecial?_slot (name := Str.ofString "__getitem__") ht.typeIs PyProof.Rows.slot_tuple_getitem
    (wpAny_call_entry PyProof.Rows.slot_tuple_getitem ht.typeIs entry_tuple_getitem ?_ (args_tuple_getitem _ _)))
  show wpAny _ _ (Builtin.Tuple.tupleItemsOf (.ref t) >>= _) _ _ s
  refine wpAny_bind (tupleItemsOf_ ht ?_)
  refine wpAny_bind (wpAny_typeOf hTs ?_)
  rw [if_pos (by decide)]
  refine wpAny_bind ?_
  · unfold Builtin.Slice.sliceApplied Builtin.Slice.sliceFields
    refine wpAny_bind (wpAny_bind (wpAny_field hos hds (x := .none) rfl (wpAny_bind (wpAny_field hos hds (x := .none) rfl (wpAny_bind (wpAny_field hos hds (x := vs) rfl (wpAny_pure ?_)))))))
    refine wpAny_bind (HT.slicePart_ pu ?_)
    show wpAny _ _ (if ((-1 : Int) == 0) = true then _ else _) _ _ s
    rw [if_neg (by decide)]
    refine wpAny_bind (slicePart_none (wpAny_bind (slicePart_none (wpAny_bind (wpAny_pure ?_)))))
    show wpAny _ _ (match Builtin.Slice.sliceAdjust none none (-1) (items.size : Int) with | (lo, hi) => pure (lo, (-1 : Int), Builtin.Slice.slicePlaces lo hi (-1))) _ _ s
    rw [adjust_rev]
    show wpAny _ _ (pure ((items.size : Int) - 1, (-1 : Int), Builtin.Slice.slicePlaces ((items.size : Int) - 1) (-1) (-1))) _ _ s
    rw [places_rev]
    refine wpAny_pure ?_
    show wpAny _ _ (if (((items.size : Int) - 1) == 0 && (-1 : Int) == 1 && items.size == items.size) = true then _ else _) _ _ s
    rw [if_neg (by simp), pick_rev]
    first
      | exact wpAny_bind (m := Builtin.Tuple.tupleExact _) (wpAny_newObj_type (wpAny_pure ⟨_, rfl, wpAny_pure h⟩) htake)
      | exact wpAny_bind (m := Builtin.Tuple.tupleExact _) (wpAny_newObj_type (wpAny_bind (wpAny_pure (wpAny_pure ⟨_, rfl, wpAny_pure h⟩))) htake)
      | exact wpAny_bind (wpAny_bind (m := Builtin.Tuple.tupleExact _) (wpAny_newObj_type (wpAny_pure (wpAny_pure ⟨_, rfl, wpAny_pure h⟩)) htake))
      | exact wpAny_bind (wpAny_bind (m := Builtin.Tuple.tupleExact _) (wpAny_newObj_type (wpAny_pure ⟨_, rfl, wpAny_pure h⟩) htake))
def tRevS (K : PySem.W.Frag) (te : TE) : TE := fun σ H Q => te σ H fun x H1 => ∃ a xs, x = .ref a ∧ ((SqL K H1 a xs ∧ ∀ p, H1 p = none → Q (.ref p) (upd H1 p (.lst xs.reverse))) ∨ (SqT K H1 a xs ∧ ∀ p, H1 p = none → Q (.ref p) (upd H1 p (.tup xs.reverse))))
theorem pe_revS {X : Cx} {e : Expr} {te : TE} {k : Nat} {p1 p2 p3 pos : Pos} (he : PE X e te) : PE X (.Subscript e (.Slice none none (some (.UnaryOp .USub (.Constant (.int 1) k p1) p2)) p3) pos) (tRevS X.K te) := by
  refine ⟨fun pins s σ H Q I h => ?_⟩
  refine Subscript_ (thn (he.run pins s σ H _ I h) fun v s1 ⟨x, H1, I1, r1, q1⟩ => ?_)
  obtain ⟨a, xs, ex, hx⟩ := q1
  subst ex
  cases r1
  have hst : PO X (some (.UnaryOp .USub (.Constant (.int 1) k p1) p2)) (tPart (tUn (rU fun i => .int (-i)) (tC (.int 1)))) := po_some (pe_un un_neg pe_int)
  refine wpAny_Slice (thn (po_none.run pins s1 σ H1 (fun o H2 => o = none ∧ H2 = H1) I1 ⟨rfl, rfl⟩) fun vl s2 ⟨l, H2, I2, pl, el, e2⟩ => ?_)
  subst el e2
  refine thn (po_none.run pins s2 σ H2 (fun o H3 => o = none ∧ H3 = H2) I2 ⟨rfl, rfl⟩) fun vu s3 ⟨u, H3, I3, pu, eu, e3⟩ => ?_
  subst eu e3
  refine thn (hst.run pins s3 σ H3 (fun o H4 => o = some (-1) ∧ H4 = H3) I3 ⟨1, rfl, -1, rfl, rfl, rfl⟩) fun vs s4 ⟨o, H4, I4, ps, eo, e4⟩ => ?_
  subst eo e4
  have I5 : Inv X pins σ H4 { s4 with heap := s4.heap.push { cls := .type "slice", data := .fields #[vl, vu, vs] } } := I4.kept (t' := s4.toks) fun b ob q => Heap.get?_push_of_some _ q
  rcases hx with ⟨hx, q⟩ | ⟨hx, q⟩
  · obtain ⟨its, r, ht, hz⟩ := I5.list hx
    have hlen := r.length
    show wpAny (model X.prog X.w) X.A (subscriptTail e (.Slice none none (some (.UnaryOp .USub (.Constant (.int 1) k p1) p2)) p3) (.ref a) (.ref s4.heap.objs.size)) (EP X pins σ Q) X.xe { s4 with heap := s4.heap.push { cls := .type "slice", data := .fields #[vl, vu, vs] } }
    refine tail_any (ops := [.ref a, .ref s4.heap.objs.size]) ht.isList.typeIs (PySem.slot_list_getitem.lookup) ?_ (by with_unfolding_all rfl)
    refine wpAny_getItem_list_slice ht.isList (Heap.IsSliceOf.new _ vl vu vs) pl pu ps (by decide) ?_ (by rw [List.size_toArray]; omega)
    rw [PySem.W.krv_pick]
    refine ⟨.ref _, _, I5.laid (t' := s4.toks) (o := .lst xs.reverse) (fun b ob q => Heap.get?_push_of_some _ q) (Nat.le_refl _) ?_, rfl, q _ (I5.hok.fresh (Nat.le_refl _))⟩
    exact ⟨by rw [List.length_reverse]; exact hz, _, 0, r.reverse, Heap.get?_push_size _ rfl⟩
  · obtain ⟨its, r, ht, hz⟩ := I5.tuple hx
    have hlen := r.length
    cases pl
    cases pu
    show wpAny (model X.prog X.w) X.A (subscriptTail e (.Slice none none (some (.UnaryOp .USub (.Constant (.int 1) k p1) p2)) p3) (.ref a) (.ref s4.heap.objs.size)) (EP X pins σ Q) X.xe { s4 with heap := s4.heap.push { cls := .type "slice", data := .fields #[.none, .none, vs] } }
    refine tail_any (ops := [.ref a, .ref s4.heap.objs.size]) ht.typeIs (PyProof.Rows.slot_tuple_getitem.lookup) ?_ (by with_unfolding_all rfl)
    refine getItem_tuple_rev ht (Heap.IsSliceOf.new _ .none .none vs) ps ?_ (by rw [List.size_toArray]; omega)
    refine ⟨.ref _, _, I5.laid (t' := s4.toks) (o := .tup xs.reverse) (fun b ob q => Heap.get?_push_of_some _ q) (Nat.le_refl _) ?_, rfl, q _ (I5.hok.fresh (Nat.le_refl _))⟩
    exact ⟨by rw [List.length_reverse]; exact hz, _, r.reverse, IsTup.new _ _⟩
def revD (st : Sto) (a : D) : Option D := match a with
  | .tup ds => some (.tup ds.reverse)
  | a => match gL1.lstOrFrz st a with
    | some ds => some (.lst ds.reverse)
    | none => none
def fRev (f : Rho → Sto → R D) : Rho → Sto → R D := fun ρ st => (f ρ st).bind fun d st => .of (revD st d) st
theorem re_rev {K : PySem.W.Frag} {mg : Str → Option Value} {W : WX} {t : TE} {f : Rho → Sto → R D} (h : RE K mg W t f) : RE K mg W (tRevS K t) (fRev f) := by
  intro αs T σ ρ H st Q R E q
  refine h αs T σ ρ H st _ R E (PostG.bind q fun d st1 αs1 H1 R1 F1 h1 x rx => ?_)
  cases e : revD st1 d with
  | none => rw [e] at h1; exact h1.elim
  | some c =>
    rw [e] at h1
    unfold revD at e
    split at e
    · cases e
      obtain ⟨a, xs, rfl, k1, k2⟩ := rep_tup.mp rx
      refine ⟨a, xs, rfl, .inr ⟨k1.sq, fun p hp => ?_⟩⟩
      obtain ⟨a1, b1, c1⟩ := newTup R1 k2.rev hp
      exact h1 αs1 _ a1 b1 _ c1
    · split at e
      · rename_i ds hd
        cases e
        obtain ⟨a, xs, rfl, k1, k2⟩ := lf_ok R1 rx hd
        refine ⟨a, xs, rfl, .inl ⟨k1, fun p hp => ?_⟩⟩
        obtain ⟨a1, b1, c1⟩ := newLst R1 k2.rev hp
        exact h1 αs1 _ a1 b1 _ c1
      · cases e
end DL
namespace DL
open PySem PySem.Spec PyProof.Rows L2
/-! ### the rules in one: what the text does, what it computes -/
theorem bt_len : bootBuiltins "len" = some (.builtin "len") := by decide +kernel
theorem bt_abs : bootBuiltins "abs" = some (.builtin "abs") := by decide +kernel
theorem bt_isinstance : bootBuiltins "isinstance" = some (.builtin "isinstance") := by decide +kernel
theorem bt_sorted : bootBuiltins "sorted" = some (.builtin "sorted") := by decide +kernel
theorem bt_max : bootBuiltins "max" = some (.builtin "max") := by decide +kernel
theorem bt_min : bootBuiltins "min" = some (.builtin "min") := by decide +kernel
theorem bt_sum : bootBuiltins "sum" = some (.builtin "sum") := by decide +kernel
theorem bt_all : bootBuiltins "all" = some (.builtin "all") := by decide +kernel
theorem bt_any : bootBuiltins "any" = some (.builtin "any") := by decide +kernel
theorem bt_int : bootBuiltins "int" = some (.type "int") := by decide +kernel
theorem bt_bool : bootBuiltins "bool" = some (.type "bool") := by decide +kernel
theorem bt_str : bootBuiltins "str" = some (.type "str") := by decide +kernel
theorem bt_list : bootBuiltins "list" = some (.type "list") := by decide +kernel
theorem bt_tuple : bootBuiltins "tuple" = some (.type "tuple") := by decide +kernel
theorem bt_dict : bootBuiltins "dict" = some (.type "dict") := by decide +kernel
/-- a context with its written part and names told -/
def Cy (K : PySem.W.Frag) (mg : Str → Option Value) : Type := { X : Cx // X.K = K ∧ X.mg = mg }
abbrev Cy.blk {K : PySem.W.Frag} {mg : Str → Option Value} (Y : Cy K mg) (s : Shared) (H : Hp) (scope : Scope) (cenv : Env) (fp : List Addr) : Cy K mg := ⟨Y.1.blk s H scope cenv fp, Y.2⟩
namespace Y
section
variable {K : PySem.W.Frag} {mg : Str → Option Value}
structure DE (Y : Cy K mg) (W : WX) (e : Expr) (t : TE) (f : Rho → Sto → R D) : Prop where
  p : PE Y.1 e t
  r : RE K mg W t f
structure DA (Y : Cy K mg) (W : WX) (es : List Expr) (t : TA) (f : Rho → Sto → R (List D)) : Prop where
  p : PA Y.1 es t
  r : RA K mg W t f
structure DT (Y : Cy K mg) (W : WX) (e : Expr) (t : TT) (f : Rho → Sto → R Bool) : Prop where
  p : PT Y.1 e t
  r : RT K mg W t f
structure DS (Y : Cy K mg) (W : WX) (s : Stmt) (t : TS) (f : Rho → Sto → R Fl) : Prop where
  p : PS Y.1 s t
  r : RS K mg W t f
structure DSs (Y : Cy K mg) (W : WX) (s : List Stmt) (t : TS) (f : Rho → Sto → R Fl) : Prop where
  p : PSs Y.1 s t
  r : RS K mg W t f
structure DI (Y : Cy K mg) (W : WX) (tg iter : Expr) (wi : TI) (f : Rho → Sto → R Src) : Prop where
  p : PI Y.1 tg iter wi
  r : RI K mg W wi f
structure DG (Y : Cy K mg) (tg : Expr) (g : TG) (s : Set1) (is : List Nat) : Prop where
  p : PG Y.1 tg g
  r : RG K mg g s is
/-- a new list -/
structure DF (Y : Cy K mg) (W : WX) (e : Expr) (t : TE) (f : Rho → Sto → R (List D)) : Prop where
  p : PE Y.1 e t
  r : RF K mg W t f
structure DO (Y : Cy K mg) (W : WX) (e : Option Expr) (t : TO) (f : RO) : Prop where
  p : PO Y.1 e t
  r : ROk K mg W t f
structure DW (Y : Cy K mg) (W : WX) (e : Expr) (t : TT) (f : Rho → Sto → R Bool) : Prop where
  p : PW Y.1 e t
  r : RT K mg W t f
structure DGs (Y : Cy K mg) (ts : List Expr) (g : TGs) (s : List D → Rho → Option Rho) (is : List Nat) : Prop where
  p : PGs Y.1 ts g
  r : RGs K mg g s is
structure DTs (Y : Cy K mg) (W : WX) (ifs : List Expr) (t : TT) (f : Rho → Sto → R Bool) : Prop where
  p : PTs Y.1 ifs t
  r : RT K mg W t f
structure DK (Y : Cy K mg) (W : WX) (kws : List Keyword) (t : TA) (f : Rho → Sto → R (List D)) : Prop where
  p : PK Y.1 kws t
  r : RA K mg W t f
end
section
variable {K : PySem.W.Frag} {mg : Str → Option Value} {Y : Cy K mg} {W : WX} {a b c e : Expr} {es rest : List Expr} {ta tb tc te : TE} {t u : TA} {fa fb fc : Rho → Sto → R D} {fs gs : Rho → Sto → R (List D)} {pos p p2 : Pos}
theorem de_var (i : Nat) {x : Str} (hN : Y.1.N[i]? = some x := by rfl) (hv : Vis Y.1.env.scope x := by first | exact Or.inl rfl | exact Or.inr (Or.inl rfl) | exact Or.inr (Or.inr rfl)) (hd : (x == ("__debug__" : Str)) = false := by decide)
    (hcd : (x == ("__classdict__" : Str)) = false := by decide) : DE Y W (.Name x pos) (tVar i) (fVar i) := by
  obtain ⟨X, rfl, rfl⟩ := Y
  exact ⟨pe_var hN hv hd hcd, re_var⟩
theorem de_int {i : Int} {j : Nat} : DE Y W (.Constant (.int i) j pos) (tC (.int i)) (fC (.int i)) := by
  obtain ⟨X, rfl, rfl⟩ := Y
  exact ⟨pe_int, re_c fun _ _ _ => rep_int.mpr rfl⟩
theorem de_bl {b : Bool} {j : Nat} : DE Y W (.Constant (.bool b) j pos) (tC (.bl b)) (fC (.bl b)) := by
  obtain ⟨X, rfl, rfl⟩ := Y
  exact ⟨pe_bl, re_c fun _ _ _ => rep_bl.mpr rfl⟩
theorem de_non {j : Nat} : DE Y W (.Constant .none j pos) (tC .non) (fC .non) := by
  obtain ⟨X, rfl, rfl⟩ := Y
  exact ⟨pe_non, re_c fun _ _ _ => rep_non.mpr rfl⟩
theorem de_str {x : Str} {j : Nat} : DE Y W (.Constant (.str x) j pos) (tC (.str x)) (fC (.str x)) := by
  obtain ⟨X, rfl, rfl⟩ := Y
  exact ⟨pe_str, re_c fun _ _ _ => rep_str.mpr rfl⟩
/-- a constant of the module -/
def IntC (mg : Str → Option Value) (x : Str) (i : Int) : Prop := ∃ t, mg x = some (.int i t)
theorem de_constI {x : Str} {i : Int} (h : IntC mg x i) (hg : Gl Y.1 x := by rfl) (hd : (x == ("__debug__" : Str)) = false := by decide) : DE Y W (.Name x pos) (tC (.int i)) (fC (.int i)) := by
  obtain ⟨X, rfl, rfl⟩ := Y
  exact let ⟨t, h⟩ := h
  ⟨pe_glob hg h ⟨t, rfl⟩ hd, re_c fun _ _ _ => rep_int.mpr rfl⟩
theorem de_op {op : Operator} {r : R2} {g : Sto → D → D → Option D} (hr : RV2 K mg r g) (ho : OpR Y.1 (binaryOp op) r) (ha : DE Y W a ta fa) (hb : DE Y W b tb fb) : DE Y W (.BinOp a op b pos) (tOp r ta tb) (fOp g fa fb) := by
  obtain ⟨X, rfl, rfl⟩ := Y
  exact ⟨pe_op ho ha.p hb.p, re_op hr ha.r hb.r⟩
theorem df_op {op : Operator} {r : R2} {g : Sto → D → D → Option (List D)} (hr : RV2n K mg r g) (ho : OpR Y.1 (binaryOp op) r) (ha : DE Y W a ta fa) (hb : DE Y W b tb fb) : DF Y W (.BinOp a op b pos) (tOp r ta tb) (fOpn g fa fb) := by
  obtain ⟨X, rfl, rfl⟩ := Y
  exact ⟨pe_op ho ha.p hb.p, rf_op hr ha.r hb.r⟩
theorem de_neg (ha : DE Y W a ta fa) : DE Y W (.UnaryOp .USub a pos) (tUn (rU fun i => .int (-i)) ta) (fUn gNeg fa) := by
  obtain ⟨X, rfl, rfl⟩ := Y
  exact ⟨pe_un un_neg ha.p, re_un rv_neg ha.r⟩
theorem de_cmp {op : CmpOp} {r : R2} {g : Sto → D → D → Option D} (hr : RV2 K mg r g) (ho : OpR Y.1 (compareOp op) r) (ha : DE Y W a ta fa) (hb : DE Y W b tb fb) (hm : behindInMarks op b = false) : DE Y W (.Compare a [op] [b] pos) (tOp r ta tb) (fOp g fa fb) := by
  obtain ⟨X, rfl, rfl⟩ := Y
  exact ⟨pe_cmpR ho ha.p hb.p hm, re_op hr ha.r hb.r⟩
theorem dt_cmp {op : CmpOp} {r : R2} {g : Sto → D → D → Option D} (hr : RV2 K mg r g) (ho : OpR Y.1 (compareOp op) r) (ha : DE Y W a ta fa) (hb : DE Y W b tb fb) (hm : behindInMarks op b = false) : DT Y W (.Compare a [op] [b] pos) (tTest (tOp r ta tb)) (fB (fOp g fa fb)) := by
  obtain ⟨X, rfl, rfl⟩ := Y
  exact ⟨pt_cmpR ho ha.p hb.p hm, rt_b (re_op hr ha.r hb.r)⟩
theorem de_chain {op op' : CmpOp} {r r' : R2} {g g' : Sto → D → D → Option D} (hr : RV2 K mg r g) (ho : OpR Y.1 (compareOp op) r) (hr' : RV2 K mg r' g') (ho' : OpR Y.1 (compareOp op') r') (ha : DE Y W a ta fa) (hb : DE Y W b tb fb) (hc : DE Y W c tc fc)
    (hm : lastMarks [op, op'] [b, c] = false := by with_unfolding_all rfl) : DE Y W (.Compare a [op, op'] [b, c] pos) (tChain r r' ta tb tc) (fChain g g' fa fb fc) := by
  obtain ⟨X, rfl, rfl⟩ := Y
  exact ⟨pe_chain ho ho' ha.p hb.p hc.p hm, re_chain hr hr' ha.r hb.r hc.r⟩
theorem dt_chain {op op' : CmpOp} {r r' : R2} {g g' : Sto → D → D → Option D} (hr : RV2 K mg r g) (ho : OpR Y.1 (compareOp op) r) (hr' : RV2 K mg r' g') (ho' : OpR Y.1 (compareOp op') r') (ha : DE Y W a ta fa) (hb : DE Y W b tb fb) (hc : DE Y W c tc fc)
    (hm : lastMarks [op, op'] [b, c] = false := by with_unfolding_all rfl) : DT Y W (.Compare a [op, op'] [b, c] pos) (tTest (tChain r r' ta tb tc)) (fB (fChain g g' fa fb fc)) := by
  obtain ⟨X, rfl, rfl⟩ := Y
  exact ⟨pt_chain ho ho' ha.p hb.p hc.p hm, rt_b (re_chain hr hr' ha.r hb.r hc.r)⟩
theorem dt_tru (ha : DE Y W a ta fa) (he : ∀ whole, isTrue a Y.1.env whole = (do let v ← whole; standAt a.pos; holding [v] (truthy v)) := by intro _; rfl) : DT Y W a (fun σ H Q => ta σ H fun x H' => ∃ k, TruV K x H' k ∧ Q k H') (fTru fa) := by
  obtain ⟨X, rfl, rfl⟩ := Y
  exact ⟨pt_truth ha.p he, rt_tru ha.r⟩
theorem dt_not {tA : TT} {f : Rho → Sto → R Bool} (ha : DT Y W a tA f) : DT Y W (.UnaryOp .Not a pos) (tNot tA) (fNot f) := by
  obtain ⟨X, rfl, rfl⟩ := Y
  exact ⟨pt_not ha.p, rt_not ha.r⟩
theorem dw_and1 {tA : TT} {f : Rho → Sto → R Bool} (ha : DT Y W a tA f) : DW Y W (.BoolOp .And [a] pos) tA f := by
  obtain ⟨X, rfl, rfl⟩ := Y
  exact ⟨pw_and1 ha.p, ha.r⟩
theorem dw_or1 {tA : TT} {f : Rho → Sto → R Bool} (ha : DT Y W a tA f) : DW Y W (.BoolOp .Or [a] pos) tA f := by
  obtain ⟨X, rfl, rfl⟩ := Y
  exact ⟨pw_or1 ha.p, ha.r⟩
theorem dw_and {tA tB : TT} {f g : Rho → Sto → R Bool} (ha : DT Y W a tA f) (hb : DW Y W (.BoolOp .And (b :: rest) pos) tB g) : DW Y W (.BoolOp .And (a :: b :: rest) pos) (tAnd tA tB) (fAnd f g) := by
  obtain ⟨X, rfl, rfl⟩ := Y
  exact ⟨pw_and ha.p hb.p, rt_and ha.r hb.r⟩
theorem dw_or {tA tB : TT} {f g : Rho → Sto → R Bool} (ha : DT Y W a tA f) (hb : DW Y W (.BoolOp .Or (b :: rest) pos) tB g) : DW Y W (.BoolOp .Or (a :: b :: rest) pos) (tOr tA tB) (fOr f g) := by
  obtain ⟨X, rfl, rfl⟩ := Y
  exact ⟨pw_or ha.p hb.p, rt_or ha.r hb.r⟩
theorem dt_w {tA : TT} {f : Rho → Sto → R Bool} (h : DW Y W a tA f) : DT Y W a tA f := by
  obtain ⟨X, rfl, rfl⟩ := Y
  exact ⟨h.p.pt, h.r⟩
theorem de_one {op : BoolOp} (h : DE Y W a ta fa) : DE Y W (.BoolOp op [a] pos) ta fa := by
  obtain ⟨X, rfl, rfl⟩ := Y
  exact ⟨pe_one h.p, h.r⟩
theorem de_and (ha : DE Y W a ta fa) (hb : DE Y W (.BoolOp .And (b :: rest) pos) tb fb) : DE Y W (.BoolOp .And (a :: b :: rest) pos) (tAndT K ta tb) (fAndV fa fb) := by
  obtain ⟨X, rfl, rfl⟩ := Y
  exact ⟨pe_andT ha.p hb.p, re_andT ha.r hb.r⟩
theorem de_or (ha : DE Y W a ta fa) (hb : DE Y W (.BoolOp .Or (b :: rest) pos) tb fb) : DE Y W (.BoolOp .Or (a :: b :: rest) pos) (tOrT K ta tb) (fOrV fa fb) := by
  obtain ⟨X, rfl, rfl⟩ := Y
  exact ⟨pe_orT ha.p hb.p, re_orT ha.r hb.r⟩
theorem df_one {op : BoolOp} (h : DF Y W a ta fs) : DF Y W (.BoolOp op [a] pos) ta fs := by
  obtain ⟨X, rfl, rfl⟩ := Y
  exact ⟨pe_one h.p, h.r⟩
theorem df_or (ha : DF Y W a ta fs) (hb : DF Y W (.BoolOp .Or (b :: rest) pos) tb gs) : DF Y W (.BoolOp .Or (a :: b :: rest) pos) (tOrT K ta tb) (fOrF fs gs) := by
  obtain ⟨X, rfl, rfl⟩ := Y
  exact ⟨pe_orT ha.p hb.p, rf_or ha.r hb.r⟩
theorem de_not (ha : DE Y W a ta fa) : DE Y W (.UnaryOp .Not a pos) (tNotT K ta) (fNotV fa) := by
  obtain ⟨X, rfl, rfl⟩ := Y
  exact ⟨pe_notT ha.p, re_notT ha.r⟩
theorem de_if {c : Expr} {tA : TT} {f : Rho → Sto → R Bool} (hc : DT Y W c tA f) (ha : DE Y W a ta fa) (hb : DE Y W b tb fb) : DE Y W (.IfExp c a b pos) (tIf tA ta tb) (fIf f fa fb) := by
  obtain ⟨X, rfl, rfl⟩ := Y
  exact ⟨pe_ifExp hc.p ha.p hb.p, re_if hc.r ha.r hb.r⟩
theorem da_nil : DA Y W [] tNil fNil := by
  obtain ⟨X, rfl, rfl⟩ := Y
  exact ⟨pa_nil, ra_nil⟩
theorem da_cons (ha : DE Y W e te fa) (hr : DA Y W es t fs) (hs : starEach (e :: es) Y.1.env = (false, eval e Y.1.env) :: starEach es Y.1.env := by rfl) : DA Y W (e :: es) (tCons te t) (fCons fa fs) := by
  obtain ⟨X, rfl, rfl⟩ := Y
  exact ⟨pa_cons ha.p hr.p hs, ra_cons ha.r hr.r⟩
theorem de_tup {x1 : Nat} (h : DA Y W es t fs) : DE Y W (.Tuple es x1 pos) (tTup t) (fTup fs) := by
  obtain ⟨X, rfl, rfl⟩ := Y
  exact ⟨pe_tup h.p, re_tup h.r⟩
theorem de_lst (h : DA Y W es t fs) : DE Y W (.List es pos) (tLst t) (fLst fs) := by
  obtain ⟨X, rfl, rfl⟩ := Y
  exact ⟨pe_lst h.p, re_lst h.r⟩
theorem df_lst (h : DA Y W es t fs) : DF Y W (.List es pos) (tLst t) (fLine fs) := by
  obtain ⟨X, rfl, rfl⟩ := Y
  exact ⟨pe_lst h.p, rf_lst h.r⟩
theorem de_fresh (h : DF Y W e te fs) : DE Y W e te (fFresh fs) := by
  obtain ⟨X, rfl, rfl⟩ := Y
  exact ⟨h.p, re_fresh h.r⟩
theorem de_thaw (h : DF Y W e te fs) : DE Y W e te (fThaw fs) := by
  obtain ⟨X, rfl, rfl⟩ := Y
  exact ⟨h.p, re_thaw h.r⟩
theorem de_ix (ha : DE Y W a ta fa) (hb : DE Y W b tb fb) (hs : PlainIx b := by exact fun _ _ => rfl) : DE Y W (.Subscript a b pos) (tOp (rIx K) ta tb) (fOp gIx fa fb) := by
  obtain ⟨X, rfl, rfl⟩ := Y
  exact ⟨pe_ix ix_seq ha.p hb.p hs, re_op rv_ix ha.r hb.r⟩
theorem do_none : DO Y W none tNoPart fNoPart := by
  obtain ⟨X, rfl, rfl⟩ := Y
  exact ⟨po_none, ro_none⟩
theorem do_some (h : DE Y W e te fa) : DO Y W (some e) (tPart te) (fPart fa) := by
  obtain ⟨X, rfl, rfl⟩ := Y
  exact ⟨po_some h.p, ro_some h.r⟩
theorem de_sl {lo hi : Option Expr} {tl th : TO} {fl fh : RO} (he : DE Y W e te fa) (hl : DO Y W lo tl fl) (hu : DO Y W hi th fh) : DE Y W (.Subscript e (.Slice lo hi none p2) pos) (tSl (rSlD K) te tl th) (fSl fa fl fh) := by
  obtain ⟨X, rfl, rfl⟩ := Y
  exact ⟨pe_slice sl_D he.p hl.p hu.p, re_sl he.r hl.r hu.r⟩
theorem de_rev {k : Nat} {p1 p3 : Pos} (he : DE Y W e te fa) : DE Y W (.Subscript e (.Slice none none (some (.UnaryOp .USub (.Constant (.int 1) k p1) p2)) p3) pos) (tRevS K te) (fRev fa) := by
  obtain ⟨X, rfl, rfl⟩ := Y
  exact ⟨pe_revS he.p, re_rev he.r⟩
/-! built-ins -/
theorem de_cb {x : Str} {id : String} {r : List V → Hp → VK → Prop} {g : Sto → List D → Option D} (hr : RVL K mg r g) (hc : CallR Y.1 (.builtin id) r) (hm : mg x = none) (hv : bootBuiltins x = some (.builtin id)) (ha : DA Y W (e :: es) t fs) (hg : Gl Y.1 x := by rfl) (hn : x ≠ "__name__" := by decide) (hdb : (x == ("__debug__" : Str)) = false := by decide)
    (he : starEach (e :: es) Y.1.env = (false, eval e Y.1.env) :: starEach es Y.1.env := by rfl) (hpl : (backTo pos (starEach es Y.1.env)).any (·.1) = false := by rfl) : DE Y W (.Call (.Name x p) (e :: es) [] pos) (tCB r t) (fCB g fs) := by
  obtain ⟨X, rfl, rfl⟩ := Y
  exact ⟨pe_callB hc hg hm hv ha.p hn hdb he hpl, re_cb hr ha.r⟩
theorem df_cb {x : Str} {id : String} {r : List V → Hp → VK → Prop} {g : Sto → List D → Option (List D)} (hr : RVLn K mg r g) (hc : CallR Y.1 (.builtin id) r) (hm : mg x = none) (hv : bootBuiltins x = some (.builtin id)) (ha : DA Y W (e :: es) t fs) (hg : Gl Y.1 x := by rfl) (hn : x ≠ "__name__" := by decide) (hdb : (x == ("__debug__" : Str)) = false := by decide)
    (he : starEach (e :: es) Y.1.env = (false, eval e Y.1.env) :: starEach es Y.1.env := by rfl) (hpl : (backTo pos (starEach es Y.1.env)).any (·.1) = false := by rfl) : DF Y W (.Call (.Name x p) (e :: es) [] pos) (tCB r t) (fCBn g fs) := by
  obtain ⟨X, rfl, rfl⟩ := Y
  exact ⟨pe_callB hc hg hm hv ha.p hn hdb he hpl, rf_cb hr ha.r⟩
theorem de_ct {x : Str} {T : String} {r : List V → Hp → VK → Prop} {g : Sto → List D → Option D} (hr : RVL K mg r g) (hc : CallR Y.1 (.type T) r) (hm : mg x = none) (hv : bootBuiltins x = some (.type T)) (ha : DA Y W (e :: es) t fs) (hg : Gl Y.1 x := by rfl) (hn : x ≠ "__name__" := by decide) (hdb : (x == ("__debug__" : Str)) = false := by decide)
    (he : starEach (e :: es) Y.1.env = (false, eval e Y.1.env) :: starEach es Y.1.env := by rfl) (hpl : (backTo pos (starEach es Y.1.env)).any (·.1) = false := by rfl) : DE Y W (.Call (.Name x p) (e :: es) [] pos) (tCB r t) (fCB g fs) := by
  obtain ⟨X, rfl, rfl⟩ := Y
  exact ⟨pe_callTy hc hg hm hv ha.p hn hdb he hpl, re_cb hr ha.r⟩
theorem df_ct {x : Str} {T : String} {r : List V → Hp → VK → Prop} {g : Sto → List D → Option (List D)} (hr : RVLn K mg r g) (hc : CallR Y.1 (.type T) r) (hm : mg x = none) (hv : bootBuiltins x = some (.type T)) (ha : DA Y W (e :: es) t fs) (hg : Gl Y.1 x := by rfl) (hn : x ≠ "__name__" := by decide) (hdb : (x == ("__debug__" : Str)) = false := by decide)
    (he : starEach (e :: es) Y.1.env = (false, eval e Y.1.env) :: starEach es Y.1.env := by rfl) (hpl : (backTo pos (starEach es Y.1.env)).any (·.1) = false := by rfl) : DF Y W (.Call (.Name x p) (e :: es) [] pos) (tCB r t) (fCBn g fs) := by
  obtain ⟨X, rfl, rfl⟩ := Y
  exact ⟨pe_callTy hc hg hm hv ha.p hn hdb he hpl, rf_cb hr ha.r⟩
theorem pa_tys {X : Cx} {es : List Expr} {x : Str} {ty : Ty} {tys : List Ty} {p : Pos} (h : PE X (.Name x p) (tC (.ty ty.nm))) (hr : PA X es (tTys tys)) (hs : starEach (.Name x p :: es) X.env = (false, eval (.Name x p) X.env) :: starEach es X.env := by rfl) : PA X (.Name x p :: es) (tTys (ty :: tys)) := pa_cons h hr hs
theorem de_isi {y : Str} {py : Pos} (ty : Ty) (hm : mg "isinstance" = none) (hmy : mg y = none) (hv : bootBuiltins y = some (.type ty.nm)) (ha : DE Y W e te fa) (hg : Gl Y.1 "isinstance" := by rfl) (hgy : Gl Y.1 y := by rfl) (hn : y ≠ "__name__" := by decide) (hdb : (y == ("__debug__" : Str)) = false := by decide)
    (he : starEach (e :: [.Name y py]) Y.1.env = (false, eval e Y.1.env) :: starEach [.Name y py] Y.1.env := by rfl) (hpl : (backTo pos (starEach [.Name y py] Y.1.env)).any (·.1) = false := by rfl) : DE Y W (.Call (.Name "isinstance" p) [e, .Name y py] [] pos) (tCB (rIsi K) (tCons te (tCons (tC (.ty ty.nm)) tNil))) (fIsi ty fa) := by
  obtain ⟨X, rfl, rfl⟩ := Y
  exact ⟨pe_callB call_isi hg hm bt_isinstance (pa_cons ha.p (pa_cons (pe_tyn hgy hmy hv hn hdb) pa_nil) he) (by decide) (by decide) he hpl, re_isi ha.r⟩
theorem de_isiT {k : Nat} {py : Pos} {ts : List Expr} (ty : Ty) (tys : List Ty) (hm : mg "isinstance" = none) (ht : PA Y.1 ts (tTys (ty :: tys))) (ha : DE Y W e te fa) (hl : lineOk (tys.length + 1) = true := by rfl) (hg : Gl Y.1 "isinstance" := by rfl)
    (he : starEach (e :: [.Tuple ts k py]) Y.1.env = (false, eval e Y.1.env) :: starEach [.Tuple ts k py] Y.1.env := by rfl) (hpl : (backTo pos (starEach [.Tuple ts k py] Y.1.env)).any (·.1) = false := by rfl) : DE Y W (.Call (.Name "isinstance" p) [e, .Tuple ts k py] [] pos) (tCB (rIsiT K) (tCons te (tCons (tTup (tTys (ty :: tys))) tNil))) (fIsiT (ty :: tys) fa) := by
  obtain ⟨X, rfl, rfl⟩ := Y
  exact ⟨pe_callB call_isiT hg hm bt_isinstance (pa_cons ha.p (pa_cons (pe_tup ht) pa_nil) he) (by decide) (by decide) he hpl, re_isiT hl ha.r⟩
theorem dk_nil : DK Y W [] tNil fNil := by
  obtain ⟨X, rfl, rfl⟩ := Y
  exact ⟨pk_nil, ra_nil⟩
theorem dk_cons {kws : List Keyword} {nm : Option Str} {kpos : Pos} (ha : DE Y W e te fa) (hr : DK Y W kws t fs) : DK Y W (⟨nm, e, kpos⟩ :: kws) (tCons te t) (fCons fa fs) := by
  obtain ⟨X, rfl, rfl⟩ := Y
  exact ⟨pk_cons ha.p hr.p, ra_cons ha.r hr.r⟩
theorem df_sortK {kws : List Keyword} {ts : List Sh} (hu : Y.1.A.units + 64 < cLine) (hm : mg "sorted" = none) (ha : DA Y W (e :: es) t fs) (hk : DK Y W kws u gs) (hg : Gl Y.1 "sorted" := by rfl)
    (he : backTo pos (starEach (e :: es) Y.1.env) = (false, eval e Y.1.env) :: backTo pos (starEach es Y.1.env) := by rfl) (hpl : (backTo pos (starEach (e :: es) Y.1.env)).any (·.1) = false := by rfl)
    (hall : (backToKw pos (keywordEach kws Y.1.env)).all (·.1.isSome) = true := by rfl) (hnone : (backToKw pos (keywordEach kws Y.1.env)).any (·.1.isNone) = false := by rfl) (hks : (backToKw pos (keywordEach kws Y.1.env)).filterMap (·.1) = [("reverse" : Str)] := by rfl) :
    DF Y W (.Call (.Name "sorted" p) (e :: es) kws pos) (tCKw (rSortDK K) t u) (fSortK ts fs gs) := by
  obtain ⟨X, rfl, rfl⟩ := Y
  exact ⟨pe_callBK (crk_sortD hu) hg hm bt_sorted ha.p hk.p (by decide) (by decide) he hpl hall hnone hks, rf_sortK ha.r hk.r⟩
end
/-! calls of the text's own defs -/
/-- the def x of the text, which computes m -/
structure Has (P : Program) (w : World) (K : PySem.W.Frag) (mg : Str → Option Value) (base : Heap) (k : Nat) (x : Str) (ps : List Str) (m : List D → Sto → R D) : Prop where
  ex : ∃ (f : Addr) (fd : FuncData), FnOk P w K mg base (L2.CX P w) k f fd ps (spF K mg ps.length m) ∧ mg x = some (.ref f) ∧ PySem.W.keepIn K (.ref f) = true ∧ Binds K fd ps [] ∧
    ∀ (ks : List Str) (n : Nat), ps.drop n = ks → n + ks.length = ps.length → ∀ (s : Shared) (us ws : List Value), us.length = n → ws.length = ks.length → BindsTo s fd ⟨us, ks.zip ws⟩ (ps.zip (us ++ ws))
theorem fnOk_up {P : Program} {w : World} {K : PySem.W.Frag} {mg : Str → Option Value} {base : Heap} {CX : CXT} {k k' : Nat} {f : Addr} {fd : FuncData} {ps : List Str} {sp : Sp} (h : FnOk P w K mg base CX k f fd ps sp) (hk : k ≤ k') : FnOk P w K mg base CX k' f fd ps sp :=
  ⟨h.len, fun A outer s H args us vs Q E hr => h.run A outer s H args us vs Q E (hr.mono hk)⟩
theorem Has.up {P : Program} {w : World} {K : PySem.W.Frag} {mg : Str → Option Value} {base : Heap} {k k' : Nat} {x : Str} {ps : List Str} {m : List D → Sto → R D} (h : Has P w K mg base k x ps m) (hk : k ≤ k') : Has P w K mg base k' x ps m :=
  let ⟨f, fd, h1, h2⟩ := h.ex
  ⟨f, fd, fnOk_up h1 hk, h2⟩
def gKw (n m : Nat) {α : Type} (us ws : List α) : List α := if us.length = n ∧ ws.length = m then us ++ ws else []
theorem kbinds {K : PySem.W.Frag} {fd : FuncData} {ps ks : List Str} {n : Nat} (hp : ps ≠ []) (h : ∀ (s : Shared) (us ws : List Value), us.length = n → ws.length = ks.length → BindsTo s fd ⟨us, ks.zip ws⟩ (ps.zip (us ++ ws))) : KBinds K fd ps ks (gKw n ks.length) (gKw n ks.length) := by
  refine ⟨fun s us ws _ hl => ?_, fun {vs us zs ws} r rz => ?_⟩
  · unfold gKw at hl ⊢
    split at hl
    · rename_i hc
      rw [if_pos hc]
      exact h s us ws hc.1 hc.2
    · exact absurd (List.eq_nil_of_length_eq_zero hl.symm) hp
  · unfold gKw
    rw [r.length, rz.length]
    split
    · exact r.append rz
    · exact .nil
def tCallKS (sp : Sp) (gV : List V → List V → List V) (E : L2.St → XK) (t tk : TA) : TE := fun σ H Q => t σ H fun vs H1 => tk σ H1 fun zs H2 => sp (gV vs zs) H2 Q (E σ)
section
variable {X : Cx} {CX : CXT} {k : Nat} {f C : Addr} {fd : FuncData} {ps ks : List Str} {sp : Sp} {E : L2.St → XK} {x m : Str} {p pos apos kpos : Pos} {e o : Expr} {es : List Expr} {kws : List Keyword} {te ta : TE} {t tk : TA} {nm : Option Str} {g : List Value → List Value → List Value} {gV : List V → List V → List V}
theorem run_fnkS {pins : List (Addr × Obj)} {σ : L2.St} {H : Hp} {s : Shared} {Q : VK} {us ws : List Value} {vs zs : List V} (F : FnOk X.prog X.w X.K X.mg X.base CX k f fd ps sp) (hr : Room k X.A) (hb : KBinds X.K fd ps ks g gV) (hx : PassesAt CX X σ (E σ))
    (I : Inv X pins σ H s) (r : Vals vs us) (rz : Vals zs ws) (h : sp (gV vs zs) H Q (E σ)) : wpAny (model X.prog X.w) X.A (call (.ref f) us (ks.zip ws)) (EP X pins σ Q) X.xe s := by
  have r2 := hb.rel r rz
  have hl : (g us ws).length = ps.length := by rw [← r2.length]; exact F.len _ _ _ _ h
  refine wpAny_call (codeAny_mono (F.run X.A X.stack s H ⟨us, ks.zip ws⟩ (g us ws) (gV vs zs) Q (E σ) hr I.env0 (hb.to s us ws I.kIn hl) r2 h) fun r s' hq => ?_)
  cases r with
  | error e => exact hx pins H s e s' I hq
  | ok fl =>
    cases fl with
    | ret u => exact I.after hq
    | next => exact False.elim hq
    | brk => exact False.elim hq
    | cont => exact False.elim hq
theorem pe_callKS (F : FnOk X.prog X.w X.K X.mg X.base CX k f fd ps sp) (hr : Room k X.A) (hg : Gl X x) (hm : X.mg x = some (.ref f)) (hk : PySem.W.keepIn X.K (.ref f) = true) (hb : KBinds X.K fd ps ks g gV) (hx : ∀ σ, PassesAt CX X σ (E σ))
    (ha : PA X (e :: es) t) (hkw : PK X kws tk) (hall : (backToKw pos (keywordEach kws X.env)).all (·.1.isSome) = true) (hks : (backToKw pos (keywordEach kws X.env)).filterMap (·.1) = ks)
    (hdb : (x == ("__debug__" : Str)) = false) (he : starEach (e :: es) X.env = (false, eval e X.env) :: starEach es X.env)
    (hpl : ((backTo pos (starEach (e :: es) X.env)).any (·.1) || (backToKw pos (keywordEach kws X.env)).any (·.1.isNone)) = false) :
    PE X (.Call (.Name x p) (e :: es) kws pos) (tCallKS sp gV E t tk) := by
  refine ⟨fun pins s σ H Q I h => ?_⟩
  refine wpAny_Call_Name_kw (ld_glob I hg hm ?_ hdb)
  refine PySem.W.callWith_KW (h₀ := X.base) I.ok.mod.kin hk hall (thn (ha.run pos pins s σ H _ I h) fun us s1 ⟨vs, H1, I1, r, q⟩ => ?_) hpl he
  refine thn (hkw.run pos pins s1 σ H1 _ I1 q) fun ws s2 ⟨zs, H2, I2, rz, q2⟩ => ⟨I2.kIn, ?_⟩
  rw [hks]
  exact run_fnkS F hr hb (hx σ) I2 r rz q2
theorem pe_callKS0 (F : FnOk X.prog X.w X.K X.mg X.base CX k f fd ps sp) (hr : Room k X.A) (hg : Gl X x) (hm : X.mg x = some (.ref f)) (hk : PySem.W.keepIn X.K (.ref f) = true) (hb : KBinds X.K fd ps ks g gV) (hx : ∀ σ, PassesAt CX X σ (E σ))
    (hkw : PK X kws tk) (hall : (backToKw pos (keywordEach kws X.env)).all (·.1.isSome) = true) (hks : (backToKw pos (keywordEach kws X.env)).filterMap (·.1) = ks)
    (hdb : (x == ("__debug__" : Str)) = false)
    (hpl : ((backTo pos (starEach [] X.env)).any (·.1) || (backToKw pos (keywordEach kws X.env)).any (·.1.isNone)) = false) :
    PE X (.Call (.Name x p) [] kws pos) (tCallKS sp gV E tNil tk) := by
  refine ⟨fun pins s σ H Q I h => ?_⟩
  refine wpAny_Call_Name_kw (ld_glob I hg hm ?_ hdb)
  refine PySem.W.callWith_KW0 (h₀ := X.base) I.ok.mod.kin hk hall ?_ hpl
  refine thn (hkw.run pos pins s σ H _ I h) fun ws s2 ⟨zs, H2, I2, rz, q2⟩ => ⟨I2.kIn, ?_⟩
  rw [hks]
  exact run_fnkS (us := []) (vs := []) F hr hb (hx σ) I2 .nil rz q2
end
/-- positional values, then by names -/
def fCallK (n m np : Nat) (g : List D → Sto → R D) (fa fk : Rho → Sto → R (List D)) : Rho → Sto → R D := fun ρ st => (fa ρ st).bind fun ds st => (fk ρ st).bind fun es st => if Nat.beq ds.length n && Nat.beq es.length m && Nat.beq (n + m) np then g (ds ++ es) st else .bad
theorem re_callK {K : PySem.W.Frag} {mg : Str → Option Value} {W : WX} {n m np : Nat} {g : List D → Sto → R D} {t tk : TA} {fa fk : Rho → Sto → R (List D)} (h : RA K mg W t fa) (hk : RA K mg W tk fk) : RE K mg W (tCallKS (spF K mg np g) (gKw n m) (WE W) t tk) (fCallK n m np g fa fk) := by
  intro αs T σ ρ H st Q R E q
  refine h αs T σ ρ H st _ R E (PostG.bind q fun ds st1 αs1 H1 R1 F1 h1 vs rx => ?_)
  refine hk αs1 T σ ρ H1 st1 _ R1 (E.fr F1) (PostG.bind h1 fun es st2 αs2 H2 R2 F2 h2 zs rz => ?_)
  split at h2
  · rename_i hn
    simp only [Bool.and_eq_true] at hn
    have n1 := Nat.eq_of_beq_eq_true hn.1.1
    have n2 := Nat.eq_of_beq_eq_true hn.1.2
    have n3 := Nat.eq_of_beq_eq_true hn.2
    have e1 : gKw n m vs zs = vs ++ zs := by
      unfold gKw
      rw [if_pos ⟨by rw [rx.len]; exact n1, by rw [rz.len]; exact n2⟩]
    show spF K mg np g (gKw n m vs zs) H2 Q (WE W σ)
    rw [e1]
    refine ⟨αs2, T, st2, ds ++ es, by rw [List.length_append, n1, n2]; exact n3, R2, (rx.fr F2).app rz, ?_⟩
    cases e : g (ds ++ es) st2 with
    | ok d st3 => rw [e] at h2; exact fun v αs' H' R' r' F' => h2 αs' H' R' F' v r'
    | exc c p st3 => rw [e] at h2; exact fun cls od H' x R' F' => h2 cls od αs2 H' x R' F'
    | bad => rw [e] at h2; exact h2
  · exact h2.elim
section
variable {K : PySem.W.Frag} {mg : Str → Option Value} {Y : Cy K mg} {W : WX} {k : Nat} {ps : List Str} {x : Str} {p pos : Pos} {e : Expr} {es : List Expr} {kws : List Keyword} {m : List D → Sto → R D} {t tk : TA} {fa fk : Rho → Sto → R (List D)}
theorem de_fn {np : Nat} (h : Has Y.1.prog Y.1.w K mg Y.1.base k x ps m) (hr : Room k Y.1.A) (tk : Takes Y.1 W) (ha : DA Y W (e :: es) t fa) (hnp : ps.length = np := by rfl) (hg : Gl Y.1 x := by rfl)
    (hdb : (x == ("__debug__" : Str)) = false := by decide) (he : starEach (e :: es) Y.1.env = (false, eval e Y.1.env) :: starEach es Y.1.env := by rfl) (hpl : (backTo pos (starEach es Y.1.env)).any (·.1) = false := by rfl) :
    DE Y W (.Call (.Name x p) (e :: es) [] pos) (tCallS (spF K mg np m) (WE W) t) (fCall np m fa) := by
  obtain ⟨X, rfl, rfl⟩ := Y
  subst hnp
  exact let ⟨f, fd, h1, h2, h3, h4, _⟩ := h.ex
  ⟨pe_callS h1 hr hg h2 h3 h4 (fun σ => passAt tk σ) ha.p hdb he hpl, re_call ha.r⟩
theorem de_fnK {np nk : Nat} (h : Has Y.1.prog Y.1.w K mg Y.1.base k x ps m) (hr : Room k Y.1.A) (tk : Takes Y.1 W) {n : Nat} {ks : List Str} (hn : ps.drop n = ks) (hl : n + ks.length = ps.length) (hp : ps ≠ []) (ha : DA Y W (e :: es) t fa) {tkw : TA} (hk : DK Y W kws tkw fk) (hnp : ps.length = np := by rfl) (hnk : ks.length = nk := by rfl) (hg : Gl Y.1 x := by rfl)
    (hall : (backToKw pos (keywordEach kws Y.1.env)).all (·.1.isSome) = true := by rfl) (hks : (backToKw pos (keywordEach kws Y.1.env)).filterMap (·.1) = ks := by rfl)
    (hdb : (x == ("__debug__" : Str)) = false := by decide) (he : starEach (e :: es) Y.1.env = (false, eval e Y.1.env) :: starEach es Y.1.env := by rfl)
    (hpl : ((backTo pos (starEach (e :: es) Y.1.env)).any (·.1) || (backToKw pos (keywordEach kws Y.1.env)).any (·.1.isNone)) = false := by rfl) :
    DE Y W (.Call (.Name x p) (e :: es) kws pos) (tCallKS (spF K mg np m) (gKw n nk) (WE W) t tkw) (fCallK n nk np m fa fk) := by
  obtain ⟨X, rfl, rfl⟩ := Y
  subst hnp hnk
  exact let ⟨f, fd, h1, h2, h3, _, h5⟩ := h.ex
  ⟨pe_callKS h1 hr hg h2 h3 (kbinds hp (h5 ks n hn hl)) (fun σ => passAt tk σ) ha.p hk.p hall hks hdb he hpl, re_callK ha.r hk.r⟩
theorem de_fnK0 {np : Nat} (h : Has Y.1.prog Y.1.w K mg Y.1.base k x ps m) (hr : Room k Y.1.A) (tk : Takes Y.1 W) (hp : ps ≠ []) {tkw : TA} (hk : DK Y W kws tkw fk) (hnp : ps.length = np := by rfl) (hg : Gl Y.1 x := by rfl)
    (hall : (backToKw pos (keywordEach kws Y.1.env)).all (·.1.isSome) = true := by rfl) (hks : (backToKw pos (keywordEach kws Y.1.env)).filterMap (·.1) = ps := by rfl)
    (hdb : (x == ("__debug__" : Str)) = false := by decide)
    (hpl : ((backTo pos (starEach [] Y.1.env)).any (·.1) || (backToKw pos (keywordEach kws Y.1.env)).any (·.1.isNone)) = false := by rfl) :
    DE Y W (.Call (.Name x p) [] kws pos) (tCallKS (spF K mg np m) (gKw 0 np) (WE W) tNil tkw) (fCallK 0 np np m fNil fk) := by
  obtain ⟨X, rfl, rfl⟩ := Y
  subst hnp
  exact let ⟨f, fd, h1, h2, h3, _, h5⟩ := h.ex
  ⟨pe_callKS0 h1 hr hg h2 h3 (kbinds hp (h5 ps 0 rfl (by simp))) (fun σ => passAt tk σ) hk.p hall hks hdb hpl, re_callK ra_nil hk.r⟩
end
/-! statements -/
def appendTo (n : Nat) (d : D) (st : Sto) : R D := match st[n]? with
  | some ds => if lineOk (ds.length + 1) then .ok .non (st.set n (ds ++ [d])) else .bad
  | none => .bad
def extendTo (n : Nat) (d : D) (st : Sto) : R D := match st[n]?, lstOf st d with
  | some ds, some es => if lineOk (ds.length + es.length) then .ok .non (st.set n (ds ++ es)) else .bad
  | _, _ => .bad
def setTo (n : Nat) (k : Int) (d : D) (ρ : Rho) (st : Sto) : R Fl := match st[n]? with
  | some ds => match ixN ds.length k with
    | some j => .ok (.nx ρ) (st.set n (ds.set j d))
    | none => .bad
  | none => .bad
def fAppend (fo fe : Rho → Sto → R D) : Rho → Sto → R D := fun ρ st => (fo ρ st).bind fun o st => match o with
  | .hnd n => (fe ρ st).bind fun d st => appendTo n d st
  | _ => .bad
def fExtend (fo fe : Rho → Sto → R D) : Rho → Sto → R D := fun ρ st => (fo ρ st).bind fun o st => match o with
  | .hnd n => (fe ρ st).bind fun d st => extendTo n d st
  | _ => .bad
def fSetIx (fe fo fi : Rho → Sto → R D) : Rho → Sto → R Fl := fun ρ st => (fe ρ st).bind fun d st => (fo ρ st).bind fun o st => (fi ρ st).bind fun i st => match o with
  | .hnd n => match i with
    | .int k => setTo n k d ρ st
    | _ => .bad
  | _ => .bad
section
variable {K : PySem.W.Frag} {mg : Str → Option Value} {W : WX}
theorem hnd_seq {αs T : List Addr} {H : Hp} {st : Sto} (R : Rel K mg αs T H st) {n : Nat} {v : V} (h : Rep K mg αs T H (.hnd n) v) : tyV K "list" v H := by
  obtain ⟨a, rfl, ha, xs, hx⟩ := rep_hnd.mp h
  exact .inl ⟨rfl, xs, .of hx⟩
theorem re_append {to te : TE} {fo fe : Rho → Sto → R D} (ho : RE K mg W to fo) (he : RE K mg W te fe) : RE K mg W (tBM K "list" rAppend to (tCons te tNil)) (fAppend fo fe) := by
  intro αs T σ ρ H st Q R E q
  refine ho αs T σ ρ H st _ R E (PostG.bind q fun o st1 αs1 H1 R1 F1 h1 x rx => ?_)
  split at h1
  · rename_i n
    refine ⟨hnd_seq R1 rx, he αs1 T σ ρ H1 st1 _ R1 (E.fr F1) (PostG.bind h1 fun d st2 αs2 H2 R2 F2 h2 y ry => ?_)⟩
    obtain ⟨a, rfl, ha⟩ := rep_hnd.mp (rx.fr F2)
    unfold appendTo at h2
    split at h2
    · rename_i ds e
      split at h2
      · rename_i hl
        obtain ⟨xs, hx, rr⟩ := R2.lc ha e
        obtain ⟨R3, F3⟩ := R2.wr ha (rr.app (.one ry))
        refine ⟨a, xs, y, rfl, rfl, hx, ?_, h2 αs2 _ R3 F3 .non (rep_non.mpr rfl)⟩
        have := lineOk_iff hl
        rw [rr.len]; omega
      · exact h2.elim
    · exact h2.elim
  · exact h1.elim
theorem re_extend {to te : TE} {fo fe : Rho → Sto → R D} (ho : RE K mg W to fo) (he : RE K mg W te fe) : RE K mg W (tBM K "list" rExtend to (tCons te tNil)) (fExtend fo fe) := by
  intro αs T σ ρ H st Q R E q
  refine ho αs T σ ρ H st _ R E (PostG.bind q fun o st1 αs1 H1 R1 F1 h1 x rx => ?_)
  split at h1
  · rename_i n
    refine ⟨hnd_seq R1 rx, he αs1 T σ ρ H1 st1 _ R1 (E.fr F1) (PostG.bind h1 fun d st2 αs2 H2 R2 F2 h2 y ry => ?_)⟩
    obtain ⟨a, rfl, ha⟩ := rep_hnd.mp (rx.fr F2)
    unfold extendTo at h2
    split at h2
    · rename_i ds es e e2
      split at h2
      · rename_i hl
        obtain ⟨xs, hx, rr⟩ := R2.lc ha e
        obtain ⟨b, zs, rfl, hz, rz⟩ := lstOf_ok R2 ry e2
        obtain ⟨R3, F3⟩ := R2.wr ha (rr.app rz)
        refine ⟨a, b, xs, zs, rfl, rfl, hx, hz, ?_, h2 αs2 _ R3 F3 .non (rep_non.mpr rfl)⟩
        rw [rr.len, rz.len]
        exact lineOk_iff hl
      · exact h2.elim
    · exact h2.elim
  · exact h1.elim
theorem rs_setIx {te to ti : TE} {fe fo fi : Rho → Sto → R D} (he : RE K mg W te fe) (ho : RE K mg W to fo) (hi : RE K mg W ti fi) : RS K mg W (tAsg te (L2.gSub to ti rSetL)) (fSetIx fe fo fi) := by
  intro αs T σ ρ H st Dn R E q
  refine he αs T σ ρ H st _ R E (PostG.bind (q σ) fun d st1 αs1 H1 R1 F1 h1 x rx => ?_)
  refine ho αs1 T σ ρ H1 st1 _ R1 (E.fr F1) (PostG.bind h1 fun o st2 αs2 H2 R2 F2 h2 y ry => ?_)
  refine hi αs2 T σ ρ H2 st2 _ R2 (E.fr (F1.trans F2)) (PostG.bind h2 fun i st3 αs3 H3 R3 F3 h3 z rz => ?_)
  split at h3
  · rename_i n
    split at h3
    · rename_i k
      unfold setTo at h3
      split at h3
      · rename_i ds e
        split at h3
        · rename_i j hj
          obtain ⟨a, rfl, ha⟩ := rep_hnd.mp (ry.fr F3)
          obtain ⟨xs, hx, rr⟩ := R3.lc ha e
          obtain ⟨R4, F4⟩ := R3.wr ha (rr.set ((rx.fr F2).fr F3) j)
          refine ⟨a, xs, k, j, rfl, rep_int.mp rz, hx, by rw [rr.len]; exact hj, h3 αs3 _ R4 F4 σ ?_⟩
          exact (((E.fr F1).fr F2).fr F3).fr F4
        · exact h3.elim
      · exact h3.elim
    · exact h3.elim
  · exact h3.elim
end
section
variable {K : PySem.W.Frag} {mg : Str → Option Value} {Y : Cy K mg} {W : WX} {a b c e o : Expr} {es rest : List Expr} {ta tb tc te to : TE} {t u : TA} {fa fb fc fe fo : Rho → Sto → R D} {fs gs : Rho → Sto → R (List D)} {pos p p2 apos cpos : Pos}
theorem de_append (ho : DE Y W o to fo) (he : DE Y W e te fe)
    (hbase : attributeBase o "append" Y.1.env (eval o Y.1.env) = eval o Y.1.env := by rfl)
    (hfew : ((backTo cpos (starEach [e] Y.1.env)).all (fun x => !x.1) && (backToKw cpos (keywordEach [] Y.1.env)).all (fun x => x.1.isSome)
      && decide (([e]).length + ([] : List Keyword).length + (if ([] : List Keyword).isEmpty then 0 else 1) < 30)) = true := by rfl)
    (hline : (apos.endLine == cpos.line) = true := by rfl) (hs : starEach [e] Y.1.env = (false, eval e Y.1.env) :: starEach [] Y.1.env := by rfl) (hplain : (backTo cpos (starEach [] Y.1.env)).any (·.1) = false := by rfl) :
    DE Y W (.Call (.Attribute o "append" apos) [e] [] cpos) (tBM K "list" rAppend to (tCons te tNil)) (fAppend fo fe) := by
  obtain ⟨X, rfl, rfl⟩ := Y
  exact ⟨pe_bm PySem.F.plainAttrs_list PySem.F.slot_list_append PySem.F.type_list_append mt_append ho.p (pa_cons he.p pa_nil hs) hbase hfew hline hs hplain, re_append ho.r he.r⟩
theorem de_extend (ho : DE Y W o to fo) (he : DE Y W e te fe)
    (hbase : attributeBase o "extend" Y.1.env (eval o Y.1.env) = eval o Y.1.env := by rfl)
    (hfew : ((backTo cpos (starEach [e] Y.1.env)).all (fun x => !x.1) && (backToKw cpos (keywordEach [] Y.1.env)).all (fun x => x.1.isSome)
      && decide (([e]).length + ([] : List Keyword).length + (if ([] : List Keyword).isEmpty then 0 else 1) < 30)) = true := by rfl)
    (hline : (apos.endLine == cpos.line) = true := by rfl) (hs : starEach [e] Y.1.env = (false, eval e Y.1.env) :: starEach [] Y.1.env := by rfl) (hplain : (backTo cpos (starEach [] Y.1.env)).any (·.1) = false := by rfl) :
    DE Y W (.Call (.Attribute o "extend" apos) [e] [] cpos) (tBM K "list" rExtend to (tCons te tNil)) (fExtend fo fe) := by
  obtain ⟨X, rfl, rfl⟩ := Y
  exact ⟨pe_bm PySem.F.plainAttrs_list PySem.F.slot_list_extend PySem.F.type_list_extend mt_extend ho.p (pa_cons he.p pa_nil hs) hbase hfew hline hs hplain, re_extend ho.r he.r⟩
theorem ds_setIx {i : Expr} {ti : TE} {fi : Rho → Sto → R D} {spos : Pos} (he : DE Y W e te fe) (ho : DE Y W o to fo) (hi : DE Y W i ti fi) (hg : PG Y.1 (.Subscript o i spos) (L2.gSub to ti rSetL)) (hs : swapsWithSole [.Subscript o i spos] e pos.line Y.1.env = pure false := by rfl) (hw : swappedStores [.Subscript o i spos] e Y.1.env = pure none := by rfl)
    (h1 : (assignEach [.Subscript o i spos] Y.1.env).map (·.2) = [assign (.Subscript o i spos) Y.1.env] := by rfl) : DS Y W (.Assign [.Subscript o i spos] e pos) (tAsg te (L2.gSub to ti rSetL)) (fSetIx fe fo fi) := by
  obtain ⟨X, rfl, rfl⟩ := Y
  exact ⟨ps_asg he.p hg hs hw h1, rs_setIx he.r ho.r hi.r⟩
theorem ds_expr (he : DE Y W e te fe) (hs : swapsWith e none pos.line Y.1.env = pure false := by rfl) : DS Y W (.Expr e pos) (tDrop te) (fDrop fe) := by
  obtain ⟨X, rfl, rfl⟩ := Y
  exact ⟨ps_expr he.p hs, rs_drop he.r⟩
theorem ds_ret (he : DE Y W e te fe) : DS Y W (.Return (some e) pos) (tRet te) (fRet fe) := by
  obtain ⟨X, rfl, rfl⟩ := Y
  exact ⟨ps_ret he.p, rs_ret he.r⟩
theorem ds_retN : DS Y W (.Return none pos) tRetN fRetN := by
  obtain ⟨X, rfl, rfl⟩ := Y
  exact ⟨ps_retN, rs_retN⟩
theorem ds_pass : DS Y W (.Pass pos) tNext fNext := by
  obtain ⟨X, rfl, rfl⟩ := Y
  exact ⟨ps_pass, rs_next⟩
theorem ds_break : DS Y W (.Break pos) tBreak fBrk := by
  obtain ⟨X, rfl, rfl⟩ := Y
  exact ⟨ps_break, rs_brk⟩
theorem ds_continue : DS Y W (.Continue pos) tCont fCnt := by
  obtain ⟨X, rfl, rfl⟩ := Y
  exact ⟨ps_continue, rs_cnt⟩
theorem ds_never {s : Stmt} : DS Y W s tNever fNever := by
  obtain ⟨X, rfl, rfl⟩ := Y
  exact ⟨⟨fun _ _ _ _ _ _ h => h.elim⟩, rs_never⟩
theorem ds_set (i : Nat) {x : Str} {px : Pos} (nd : Y.1.N.Nodup) (he : DE Y W e te fe) (hi : Y.1.N[i]? = some x := by rfl) (hx : Loc Y.1.env.scope x := by first | exact Or.inl rfl | exact Or.inr rfl) (hs : swapsWith e (some (.Name x px)) pos.line Y.1.env = pure false := by rfl) (hf : Y.1.fn x = true ∨ Y.1.env.scope.names.lookup x = some .local := by first | exact .inl rfl | exact .inr rfl | assumption) :
    DS Y W (.Assign [.Name x px] e pos) (tAsg te (gName i)) (fSet i fe) := by
  obtain ⟨X, rfl, rfl⟩ := Y
  exact ⟨ps_set nd hi hx he.p hs hf, rs_set he.r⟩
theorem ds_par (i j : Nat) {x y : Str} {px py pt : Pos} {kt k2 : Nat} {pt2 : Pos} (nd : Y.1.N.Nodup) (ha : DA Y W [a, b] t fs) (hc : Y.1.calm = true := by rfl) (hi : Y.1.N[i]? = some x := by rfl) (hj : Y.1.N[j]? = some y := by rfl) (hij : i ≠ j := by decide)
    (hx : Y.1.env.scope.names.lookup x = some .local := by rfl) (hy : Y.1.env.scope.names.lookup y = some .local := by rfl)
    (hw : swappedStores [.Tuple [.Name x px, .Name y py] kt pt] (.Tuple [a, b] k2 pt2) Y.1.env = pure (some [x, y]) := by rfl)
    (hs : swapsWithSole [.Tuple [.Name x px, .Name y py] kt pt] (.Tuple [a, b] k2 pt2) pos.line Y.1.env = pure false := by rfl) :
    DS Y W (.Assign [.Tuple [.Name x px, .Name y py] kt pt] (.Tuple [a, b] k2 pt2) pos) (tPar i j t) (fPar i j fs) := by
  obtain ⟨X, rfl, rfl⟩ := Y
  exact ⟨ps_par hc nd hi hj hij hx hy ha.p hw hs, rs_par ha.r⟩
theorem dg_name (i : Nat) {x : Str} {px : Pos} (nd : Y.1.N.Nodup) (hi : Y.1.N[i]? = some x := by rfl) (hx : Loc Y.1.env.scope x := by first | exact Or.inl rfl | exact Or.inr rfl) (hf : Y.1.fn x = true ∨ Y.1.env.scope.names.lookup x = some .local := by first | exact .inl rfl | exact .inr rfl | assumption) : DG Y (.Name x px) (gName i) (sName i) [i] := by
  obtain ⟨X, rfl, rfl⟩ := Y
  exact ⟨pg_name nd hi hx hf, rg_name⟩
theorem dgs_nil : DGs Y [] gNil sNil [] := by
  obtain ⟨X, rfl, rfl⟩ := Y
  exact ⟨pgs_nil, rgs_nil⟩
theorem dgs_cons {g : TG} {u : TGs} {s : Set1} {s' : List D → Rho → Option Rho} {is js : List Nat} (h1 : DG Y e g s is) (h2 : DGs Y es u s' js) (hs : (assignEach (e :: es) Y.1.env).map (·.2) = assign e Y.1.env :: (assignEach es Y.1.env).map (·.2) := by rfl) : DGs Y (e :: es) (gCons g u) (sCons s s') (is ++ js) := by
  obtain ⟨X, rfl, rfl⟩ := Y
  exact ⟨pgs_cons h1.p h2.p hs, rgs_cons h1.r h2.r⟩
theorem dg_tup {k n : Nat} {u : TGs} {s' : List D → Rho → Option Rho} {js : List Nat} (h : DGs Y es u s' js) (hc : Y.1.calm = true := by rfl) (hn : (assignEach es Y.1.env).length = n := by rfl) (hst : (assignEach es Y.1.env).findIdx? (·.1) = none := by rfl) : DG Y (.Tuple es k pos) (gTup K n u) (sTup n s') js := by
  obtain ⟨X, rfl, rfl⟩ := Y
  exact ⟨pg_tup hc h.p hn hst, rg_tup h.r⟩
theorem ds_asg {g : TG} {s : Set1} {is : List Nat} {tg : Expr} (he : DE Y W e te fe) (hg : DG Y tg g s is) (hs : swapsWithSole [tg] e pos.line Y.1.env = pure false := by rfl) (hw : swappedStores [tg] e Y.1.env = pure none := by rfl)
    (h1 : (assignEach [tg] Y.1.env).map (·.2) = [assign tg Y.1.env] := by rfl) : DS Y W (.Assign [tg] e pos) (tAsg te g) (fAsg s fe) := by
  obtain ⟨X, rfl, rfl⟩ := Y
  exact ⟨ps_asg he.p hg.p hs hw h1, rs_asg he.r hg.r⟩
theorem ds_if {c : Expr} {A B : List Stmt} {tc : TT} {t u : TS} {fc : Rho → Sto → R Bool} {f g : Rho → Sto → R Fl} (hc : DT Y W c tc fc) (ha : DSs Y W A t f) (hb : DSs Y W B u g) : DS Y W (.If c A B pos) (tIfS tc t u) (fIfS fc f g) := by
  obtain ⟨X, rfl, rfl⟩ := Y
  exact ⟨ps_if hc.p ha.p hb.p, rs_if hc.r ha.r hb.r⟩
theorem ds_while (n : Nat) {c : Expr} {B : List Stmt} {tc : TT} {tb : TS} {fc : Rho → Sto → R Bool} {f : Rho → Sto → R Fl} (hp : PassesOwn (model Y.1.prog Y.1.w) Y.1.A Y.1.env Y.1.xe) (hc : DT Y W c tc fc) (hb : DSs Y W B tb f) : DS Y W (.While c B [] pos) (tWhile tc tb) (whileN fc f n) := by
  obtain ⟨X, rfl, rfl⟩ := Y
  exact ⟨ps_while hp hc.p hb.p, rs_while hc.r hb.r⟩
theorem ds_for {tg iter : Expr} {B : List Stmt} {wi : TI} {g : TG} {tb : TS} {src : Rho → Sto → R Src} {s : Set1} {is : List Nat} {f : Rho → Sto → R Fl} (hp : PassesOwn (model Y.1.prog Y.1.w) Y.1.A Y.1.env Y.1.xe) (hi : DI Y W tg iter wi src) (hg : DG Y tg g s is) (hb : DSs Y W B tb f) (hc : Y.1.calm = true := by rfl)
    (hs : ∀ x, foldedSetIterable iter Y.1.env x = pure x := by intro _; rfl) : DS Y W (.For tg iter B [] pos) (tFor wi g tb) (fFor src s f) := by
  obtain ⟨X, rfl, rfl⟩ := Y
  exact ⟨ps_for hp hc hi.p hg.p hb.p hs, rs_for hi.r hg.r hb.r⟩
theorem dss_nil : DSs Y W [] tNext fNext := by
  obtain ⟨X, rfl, rfl⟩ := Y
  exact ⟨pss_nil, rs_next⟩
theorem dss_one {s : Stmt} {t : TS} {f : Rho → Sto → R Fl} (h : DS Y W s t f) : DSs Y W [s] t f := by
  obtain ⟨X, rfl, rfl⟩ := Y
  exact ⟨pss_one h.p, h.r⟩
theorem dss_cons {s : Stmt} {r : List Stmt} {t u : TS} {f g : Rho → Sto → R Fl} (h : DS Y W s t f) (h' : DSs Y W r u g) : DSs Y W (s :: r) (tSeq t u) (fSeq f g) := by
  obtain ⟨X, rfl, rfl⟩ := Y
  exact ⟨pss_cons h.p h'.p, rs_seq h.r h'.r⟩
theorem dss_never {s : List Stmt} : DSs Y W s tNever fNever := by
  obtain ⟨X, rfl, rfl⟩ := Y
  exact ⟨⟨fun _ _ _ _ _ _ h => h.elim⟩, rs_never⟩
/-! walks -/
theorem di_any {tg : Expr} (h : DE Y W e te fe) : DI Y W tg e (iAny K te) (fAny fe) := by
  obtain ⟨X, rfl, rfl⟩ := Y
  exact ⟨pi_any h.p, ri_any h.r⟩
theorem di_zip2 {elts : List Expr} {kk : Nat} {tpos : Pos} (hm : mg "zip" = none) (ha : DA Y W [a, b] t fs) (hg : Gl Y.1 "zip" := by rfl)
    (hs : starEach [a, b] Y.1.env = (false, eval a Y.1.env) :: starEach [b] Y.1.env := by rfl) (hpl : (backTo pos (starEach [b] Y.1.env)).any (·.1) = false := by rfl) : DI Y W (.Tuple elts kk tpos) (.Call (.Name "zip" p) [a, b] [] pos) (iZipK K t) (fZip2 fs) := by
  obtain ⟨X, rfl, rfl⟩ := Y
  exact ⟨pi_zipK hg hm ha.p hs hpl, ri_zip2 ha.r⟩
theorem di_zipN {x0 : Str} {tpos : Pos} (hm : mg "zip" = none) (ha : DA Y W [a, b] t fs) (hg : Gl Y.1 "zip" := by rfl)
    (hs : starEach [a, b] Y.1.env = (false, eval a Y.1.env) :: starEach [b] Y.1.env := by rfl) (hpl : (backTo pos (starEach [b] Y.1.env)).any (·.1) = false := by rfl) : DI Y W (.Name x0 tpos) (.Call (.Name "zip" p) [a, b] [] pos) (iZipN K t) (fZipN fs) := by
  obtain ⟨X, rfl, rfl⟩ := Y
  exact ⟨pi_zipN hg hm ha.p hs hpl, ri_zipN ha.r⟩
theorem di_zip3 {elts : List Expr} {kk : Nat} {tpos : Pos} (hm : mg "zip" = none) (ha : DA Y W [a, b, c] t fs) (hg : Gl Y.1 "zip" := by rfl)
    (hs : starEach [a, b, c] Y.1.env = (false, eval a Y.1.env) :: starEach [b, c] Y.1.env := by rfl) (hpl : (backTo pos (starEach [b, c] Y.1.env)).any (·.1) = false := by rfl) : DI Y W (.Tuple elts kk tpos) (.Call (.Name "zip" p) [a, b, c] [] pos) (iZipK3 K t) (fZip3 fs) := by
  obtain ⟨X, rfl, rfl⟩ := Y
  exact ⟨pi_zipK3 hg hm ha.p hs hpl, ri_zip3 ha.r⟩
theorem di_enum {elts : List Expr} {kk : Nat} {tpos : Pos} (hm : mg "enumerate" = none) (ha : DA Y W [a] t fs) (hg : Gl Y.1 "enumerate" := by rfl)
    (hs : starEach [a] Y.1.env = [(false, eval a Y.1.env)] := by rfl) : DI Y W (.Tuple elts kk tpos) (.Call (.Name "enumerate" p) [a] [] pos) (iEnumK K t) (fEnum fs) := by
  obtain ⟨X, rfl, rfl⟩ := Y
  exact ⟨pi_enumK hg hm ha.p hs, ri_enum ha.r⟩
theorem di_rng1 {tg : Expr} (hm : mg "range" = none) (ha : DA Y W [a] t fs) (hg : Gl Y.1 "range" := by rfl) (hs : starEach [a] Y.1.env = [(false, eval a Y.1.env)] := by rfl) : DI Y W tg (.Call (.Name "range" p) [a] [] pos) (iRng1 t) (fRng1 fs) := by
  obtain ⟨X, rfl, rfl⟩ := Y
  exact ⟨pi_range1 hg hm ha.p hs, ri_rng1 ha.r⟩
theorem di_rng2 {tg : Expr} (hm : mg "range" = none) (ha : DA Y W [a, b] t fs) (hg : Gl Y.1 "range" := by rfl) (hs : starEach [a, b] Y.1.env = [(false, eval a Y.1.env), (false, eval b Y.1.env)] := by rfl) (hs2 : starEach [b] Y.1.env = [(false, eval b Y.1.env)] := by rfl) : DI Y W tg (.Call (.Name "range" p) [a, b] [] pos) (iRng2 t) (fRng2 fs) := by
  obtain ⟨X, rfl, rfl⟩ := Y
  exact ⟨pi_range2 hg hm ha.p hs hs2, ri_rng2 ha.r⟩
theorem dts_nil : DTs Y W [] tYes fYes := by
  obtain ⟨X, rfl, rfl⟩ := Y
  exact ⟨pts_nil, rt_yes⟩
theorem dts_one {tA : TT} {f : Rho → Sto → R Bool} (h : DT Y W c tA f) : DTs Y W [c] tA f := by
  obtain ⟨X, rfl, rfl⟩ := Y
  exact ⟨pts_one h.p, h.r⟩
/-- [elt for tg in iter if ..] -/
theorem df_lc {elt tg iter : Expr} {ifs : List Expr} {scope : Scope} {wi : TI} {src : Rho → Sto → R Src} {g : TG} {s : Set1} {is : List Nat} {tt : TT} {ft : Rho → Sto → R Bool} {vs : List Nat} (own : List (Str × Nat)) (nd : Y.1.N.Nodup) (hi : DI Y W tg iter wi src) (ok : BlkOk Y.1.N Y.1.env.scope scope own)
    (hg : ∀ (s0 : Shared) (H : Hp) (C : Addr) (cl : List (Str × Addr)) (fp : List Addr), DG (Y.blk s0 H scope (compEnvC scope cl C Y.1.env) fp) tg g s is) (ht : ∀ (s0 : Shared) (H : Hp) (C : Addr) (cl : List (Str × Addr)) (fp : List Addr), DTs (Y.blk s0 H scope (compEnvC scope cl C Y.1.env) fp) W0 ifs tt ft)
    (he : ∀ (s0 : Shared) (H : Hp) (C : Addr) (cl : List (Str × Addr)) (fp : List Addr), DE (Y.blk s0 H scope (compEnvC scope cl C Y.1.env) fp) W0 elt te fe) (hvs : own.map (·.2) = vs := by rfl) (his : ∀ i ∈ is, i ∈ vs := by decide) (hc : Y.1.calm = true := by rfl) (hs : ∀ x, foldedSetIterable iter Y.1.env x = pure x := by intro _; rfl) :
    DF Y W (.ListComp elt [⟨tg, iter, ifs, 0⟩] scope pos) (tLc wi g tt te vs) (fLc src s ft fe vs) := by
  obtain ⟨X, rfl, rfl⟩ := Y
  subst hvs
  exact ⟨pe_lc hc nd hi.p ok (fun s0 H C cl fp => (hg s0 H C cl fp).p) (fun s0 H C cl fp => (ht s0 H C cl fp).p) (fun s0 H C cl fp => (he s0 H C cl fp).p) hs,
    rf_lc hi.r (hg X.s_0 X.H_0 0 [] []).r (ht X.s_0 X.H_0 0 [] []).r (he X.s_0 X.H_0 0 [] []).r his⟩
/-- name = [..]: what is computed, by how it is kept -/
theorem ds_setLc {elt tg iter : Expr} {ifs : List Expr} {scope : Scope} {wi : TI} {src : Rho → Sto → R Src} {g : TG} {s : Set1} {is : List Nat} {tt : TT} {ft : Rho → Sto → R Bool} {y : Str} {py spos : Pos} {ff : (Rho → Sto → R (List D)) → Rho → Sto → R D} (hff : ∀ {t : TE} {f : Rho → Sto → R (List D)}, RF K mg W t f → RE K mg W t (ff f)) {vs : List Nat} (i : Nat) (own : List (Str × Nat)) (nd : Y.1.N.Nodup) (hi : DI Y W tg iter wi src) (ok : BlkOk Y.1.N Y.1.env.scope scope own)
    (hg : ∀ (s0 : Shared) (H : Hp) (C : Addr) (cl : List (Str × Addr)) (fp : List Addr), DG (Y.blk s0 H scope (compEnvC scope cl C Y.1.env) fp) tg g s is) (ht : ∀ (s0 : Shared) (H : Hp) (C : Addr) (cl : List (Str × Addr)) (fp : List Addr), DTs (Y.blk s0 H scope (compEnvC scope cl C Y.1.env) fp) W0 ifs tt ft)
    (he : ∀ (s0 : Shared) (H : Hp) (C : Addr) (cl : List (Str × Addr)) (fp : List Addr), DE (Y.blk s0 H scope (compEnvC scope cl C Y.1.env) fp) W0 elt te fe) (hsw : swapsWith (.ListComp elt [⟨tg, iter, ifs, 0⟩] scope pos) (some (.Name y py)) spos.line Y.1.env = pure true)
    (hvs : own.map (·.2) = vs := by rfl) (his : ∀ i ∈ is, i ∈ vs := by decide) (hy : Y.1.N[i]? = some y := by rfl) (hyl : Y.1.env.scope.names.lookup y = some .local := by rfl) (hc : Y.1.calm = true := by rfl) (hs : ∀ x, foldedSetIterable iter Y.1.env x = pure x := by intro _; rfl) :
    DS Y W (.Assign [.Name y py] (.ListComp elt [⟨tg, iter, ifs, 0⟩] scope pos) spos) (tAsg (tLc wi g tt te vs) (gName i)) (fSet i (ff (fLc src s ft fe vs))) := by
  obtain ⟨X, rfl, rfl⟩ := Y
  subst hvs
  exact ⟨ps_setLc hc nd hy hyl hsw hi.p ok (fun s0 H C cl fp => (hg s0 H C cl fp).p) (fun s0 H C cl fp => (ht s0 H C cl fp).p) (fun s0 H C cl fp => (he s0 H C cl fp).p) hs,
    rs_set (hff (rf_lc hi.r (hg X.s_0 X.H_0 0 [] []).r (ht X.s_0 X.H_0 0 [] []).r (he X.s_0 X.H_0 0 [] []).r his))⟩
end
end Y
end DL
namespace DL
open PySem PySem.Spec PyProof.Rows L2
/-! ### comprehensions with two walks; both walk lines that do not change -/
def lc2L (s : Set1) (tt : Rho → Sto → R Bool) (src1 : Rho → Sto → R Src) (s1 : Set1) (tt1 : Rho → Sto → R Bool) (te : Rho → Sto → R D) (vs1 : List Nat) (ρ : Rho) : List D → Sto → Option (List D × Sto)
  | [], st => some ([], st)
  | d :: ds, st => match s d ρ with
    | none => none
    | some ρ1 => match tt ρ1 st with
      | .ok false st => lc2L s tt src1 s1 tt1 te vs1 ρ ds st
      | .ok true st => match src1 ρ1 st with
        | .ok (.sq es) st => match lcL s1 tt1 te (wipeR ρ1 vs1) es st with
          | some (xs, st) => match lc2L s tt src1 s1 tt1 te vs1 ρ ds st with
            | some (ys, st) => some (xs ++ ys, st)
            | none => none
          | none => none
        | _ => none
      | .exc _ _ _ => none
      | .bad => none
def fLc2 (src : Rho → Sto → R Src) (s : Set1) (tt : Rho → Sto → R Bool) (src1 : Rho → Sto → R Src) (s1 : Set1) (tt1 : Rho → Sto → R Bool) (te : Rho → Sto → R D) (vs vs1 : List Nat) : Rho → Sto → R (List D) := fun ρ st => (src ρ st).bind fun z st => match z with
  | .sq ds => lcEnd (lc2L s tt src1 s1 tt1 te vs1 (wipeR ρ vs) ds st)
  | _ => .bad
theorem EnvR.mvR {K : PySem.W.Frag} {mg : Str → Option Value} {αs αs' T T' : List Addr} {H H' : Hp} {σ : L2.St} {ρ : Rho} (E : EnvR K mg αs T H σ ρ) (f : ∀ d v, Rep K mg αs T H d v → Rep K mg αs' T' H' d v) : EnvR K mg αs' T' H' σ ρ :=
  ⟨E.1, fun i d h => let ⟨v, h1, h2⟩ := E.2 i d h; ⟨v, h1, f _ _ h2⟩⟩
section
variable {K : PySem.W.Frag} {mg : Str → Option Value} {W : WX}
theorem rf_lc2 {wi wi1 : TI} {src src1 : Rho → Sto → R Src} {g g1 : TG} {s s1 : Set1} {is is1 vs vs1 : List Nat} {tt tt1 : TT} {ft ft1 : Rho → Sto → R Bool} {te : TE} {fe : Rho → Sto → R D} (hi : RI K mg W wi src) (hg : RG K mg g s is) (ht : RT K mg W0 tt ft)
    (hi1 : RI K mg W0 wi1 src1) (hg1 : RG K mg g1 s1 is1) (ht1 : RT K mg W0 tt1 ft1) (he : RE K mg W0 te fe) (his : ∀ i ∈ is, i ∈ vs) (his1 : ∀ i ∈ is1, i ∈ vs1) :
    RF K mg W (tLc2 wi g tt wi1 g1 tt1 te vs vs1) (fLc2 src s ft src1 s1 ft1 fe vs vs1) := by
  intro αs T σ ρ H st Q R E q
  refine hi αs T σ ρ H st _ R E ?_
  unfold fLc2 at q
  cases e : src ρ st with
  | bad => rw [e] at q; exact q
  | exc c p st1 => rw [e] at q; exact q
  | ok z st1 =>
    rw [e] at q
    intro αs1 H1 R1 F1 J hJ D0 hD
    obtain ⟨a1, a2, a3, a4, a5, a6, a7⟩ := freshen (ds := []) (xs := []) F1 R R1 .nil hD
    let Res : List D → Option (List D × Sto) → Prop := fun acc o => ∃ xs st3, o = some (xs, st3) ∧ lineOk (acc ++ xs).length = true ∧ PostG K mg W αs T σ H (DL.R.ok (acc ++ xs) st3) (fun ds st' αs' H' => ∀ p xs, H p = none → p ∉ αs' → H' p = some (.lst xs) → Rel K mg αs' (p :: T) H' st' → Reps K mg αs' (p :: T) H' ds xs → Q (.ref p) H')
    let Acc : List Addr → Hp → Sto → List V → List D → Prop := fun αs2 H2 st2 acc accD => H2 D0 = some (.lst acc) ∧ Rel K mg αs2 (D0 :: T) H2 st2 ∧ Reps K mg αs2 (D0 :: T) H2 accD acc ∧ Fr αs1 H1 αs2 H2
    have hT0 : ∀ t ∈ (D0 :: T), t ∈ T ∨ H1 t = none := fun t ht => by
      rcases List.mem_cons.mp ht with e | e
      · exact .inr (by rw [e]; exact hD)
      · exact .inl e
    have hT1 : ∀ t ∈ (D0 :: T), t ∈ T ∨ H t = none := fun t ht => by
      rcases List.mem_cons.mp ht with e | e
      · exact .inr (by rw [e]; exact a1)
      · exact .inl e
    have fin : ∀ (αs2 : List Addr) (H2 : Hp) (st2 : Sto) (acc : List V) (accD : List D), Acc αs2 H2 st2 acc accD → Res accD (some ([], st2)) → Q (.ref D0) H2 := by
      rintro αs2 H2 st2 acc accD ⟨hx, R2, r2, F2⟩ P
      obtain ⟨xs, st3, ex, _, pq⟩ := P
      cases ex
      rw [List.append_nil] at pq
      exact pq αs2 H2 (R2.weakT fun t h => List.mem_cons_of_mem _ h) (F1.trans F2) D0 acc a1 (R2.tmp D0 List.mem_cons_self).1 hx R2 r2
    have F0 : Fr αs1 H1 αs1 (upd H1 D0 (.lst [])) := Fr.new hD
    have ends : ∀ o : Option (List D × Sto), PostG K mg W αs T σ H (lcEnd o) (fun ds st' αs' H' => ∀ p xs, H p = none → p ∉ αs' → H' p = some (.lst xs) → Rel K mg αs' (p :: T) H' st' → Reps K mg αs' (p :: T) H' ds xs → Q (.ref p) H') → Res [] o := by
      intro o h
      cases o with
      | none => exact h.elim
      | some pr =>
        obtain ⟨xs, st3⟩ := pr
        unfold lcEnd at h
        dsimp only at h
        split at h
        · rename_i hl
          exact ⟨xs, st3, rfl, hl, h⟩
        · exact h.elim
    cases z with
    | hd n => exact q.elim
    | z2 a b => exact q.elim
    | z3 a b c => exact q.elim
    | en a => exact q.elim
    | sq ds =>
      have q0 := ends _ q
      refine ⟨fun i m H2 => ∃ αs2 st2 acc accD, (m = ds.length - i ∧ i ≤ ds.length) ∧ Acc αs2 H2 st2 acc accD ∧ Res accD (lc2L s ft src1 s1 ft1 fe vs1 (wipeR ρ vs) (ds.drop i) st2),
        ⟨_, αs1, st1, [], [], ⟨rfl, Nat.zero_le _⟩, ⟨upd_same, a4, .nil, F0⟩, q0⟩, ?_⟩
      rintro i m H2 ⟨αs2, st2, acc, accD, ⟨rfl, hil⟩, hA, P⟩
      obtain ⟨hx, R2, r2, F2⟩ := id hA
      cases ei : ds[i]? with
      | none =>
        have hl : ds.length ≤ i := List.getElem?_eq_none_iff.mp ei
        rw [List.drop_eq_nil_of_le hl] at P
        exact .inl ⟨(hJ αs2 (D0 :: T) H2 st2 i F2.zk (fun _ _ r => r.mv F2 hT0) R2).1 ei (Nat.ble_eq_true_of_le hil), fin αs2 H2 st2 acc accD hA P⟩
      | some d =>
        have hl : i < ds.length := (List.getElem?_eq_some_iff.mp ei).1
        have ed : ds.drop i = d :: ds.drop (i + 1) := by
          rw [List.drop_eq_getElem_cons hl]
          congr 1
          have := List.getElem?_eq_getElem hl
          rw [ei] at this
          exact (Option.some.inj this).symm
        rw [ed] at P
        obtain ⟨go, yl⟩ := (hJ αs2 (D0 :: T) H2 st2 i F2.zk (fun _ _ r => r.mv F2 hT0) R2).2 d ei
        refine .inr ⟨go, fun H3 => ∃ αs2 st2 acc accD, Acc αs2 H3 st2 acc accD ∧ Res accD (lc2L s ft src1 s1 ft1 fe vs1 (wipeR ρ vs) (ds.drop (i + 1)) st2), fun H3 ⟨αs3, st3, acc3, accD3, a, b⟩ => ⟨ds.length - (i + 1), by omega, αs3, st3, acc3, accD3, ⟨rfl, hl⟩, a, b⟩, fun x H3 hy => ?_⟩
        obtain ⟨rx, R3, F3, K3⟩ := yl x H3 hy
        unfold lc2L at P
        cases es : s d (wipeR ρ vs) with
        | none => rw [es] at P; obtain ⟨_, _, z, _⟩ := P; cases z
        | some ρ1 =>
          rw [es] at P
          have E3 : EnvR K mg αs2 (D0 :: T) H3 (L2.wipe σ vs) (wipeR ρ vs) := (E.wipe vs).tmp ((F1.trans F2).trans F3) hT1
          refine hg αs2 (D0 :: T) _ _ H3 st2 d x ρ1 _ R3 E3 rx es fun σ2 E4 w4 => ⟨(w4 vs his).trans (wipe_wipe σ vs), ?_⟩
          refine ht αs2 (D0 :: T) σ2 ρ1 H3 st2 _ R3 E4 ?_
          dsimp only at P
          cases et : ft ρ1 st2 with
          | bad => rw [et] at P; obtain ⟨_, _, z, _⟩ := P; cases z
          | exc c p st => rw [et] at P; obtain ⟨_, _, z, _⟩ := P; cases z
          | ok b st5 =>
            rw [et] at P
            intro αs5 H5 R5 F5
            have hx5 : H5 D0 = some (.lst acc) := F5.keep D0 _ (R3.tmp D0 List.mem_cons_self).1 (K3 D0 _ hx)
            have r5 := (r2.fr F3).fr F5
            cases b with
            | false => exact iteF ⟨αs5, st5, acc, accD, ⟨hx5, R5, r5, (F2.trans F3).trans F5⟩, P⟩
            | true =>
              refine iteT (hi1 αs5 (D0 :: T) σ2 ρ1 H5 st5 _ R5 (E4.fr F5) ?_)
              dsimp only at P
              cases e1 : src1 ρ1 st5 with
              | bad => rw [e1] at P; obtain ⟨_, _, z, _⟩ := P; cases z
              | exc c p st => rw [e1] at P; obtain ⟨_, _, z, _⟩ := P; cases z
              | ok z1 st6 =>
                rw [e1] at P
                intro αs6 H6 R6 F6 J1 hJ1
                have hx6 : H6 D0 = some (.lst acc) := F6.keep D0 _ (R5.tmp D0 List.mem_cons_self).1 hx5
                have r6 := r5.fr F6
                have F16 : Fr αs1 H1 αs6 H6 := ((F2.trans F3).trans F5).trans F6
                cases z1 with
                | hd n => obtain ⟨_, _, z, _⟩ := P; cases z
                | z2 a b => obtain ⟨_, _, z, _⟩ := P; cases z
                | z3 a b c => obtain ⟨_, _, z, _⟩ := P; cases z
                | en a => obtain ⟨_, _, z, _⟩ := P; cases z
                | sq es2 =>
                  -- what is left behind the inner walk
                  let After : Option (List D × Sto) → Option (List D × Sto) := fun o => match o with
                    | some (xs, st) => match lc2L s ft src1 s1 ft1 fe vs1 (wipeR ρ vs) (ds.drop (i + 1)) st with
                      | some (ys, st) => some (xs ++ ys, st)
                      | none => none
                    | none => none
                  have P : Res accD (After (lcL s1 ft1 fe (wipeR ρ1 vs1) es2 st6)) := P
                  have E6 : EnvR K mg αs6 (D0 :: T) H6 σ2 ρ1 := (E4.fr F5).fr F6
                  refine ⟨fun j k H7 => ∃ αs7 st7 acc7 accD7, (k = es2.length - j ∧ j ≤ es2.length) ∧ (Acc αs7 H7 st7 acc7 accD7 ∧ (Zk H6 H7 ∧ ∀ d v, Rep K mg αs6 (D0 :: T) H6 d v → Rep K mg αs7 (D0 :: T) H7 d v)) ∧ Res accD7 (After (lcL s1 ft1 fe (wipeR ρ1 vs1) (es2.drop j) st7)),
                    ⟨_, αs6, st6, acc, accD, ⟨rfl, Nat.zero_le _⟩, ⟨⟨hx6, R6, r6, F16⟩, fun _ _ _ h => h, fun _ _ h => h⟩, P⟩, ?_⟩
                  rintro j k H7 ⟨αs7, st7, acc7, accD7, ⟨rfl, hjl⟩, ⟨hA7, F67⟩, P7⟩
                  obtain ⟨hx7, R7, r7, F17⟩ := id hA7
                  cases ej : es2[j]? with
                  | none =>
                    have hl2 : es2.length ≤ j := List.getElem?_eq_none_iff.mp ej
                    rw [List.drop_eq_nil_of_le hl2] at P7
                    refine .inl ⟨(hJ1 αs7 (D0 :: T) H7 st7 j F67.1 F67.2 R7).1 ej (Nat.ble_eq_true_of_le hjl), αs7, st7, acc7, accD7, hA7, ?_⟩
                    have P7 : Res accD7 (match lc2L s ft src1 s1 ft1 fe vs1 (wipeR ρ vs) (ds.drop (i + 1)) st7 with
                      | some (ys, st) => some ([] ++ ys, st)
                      | none => none) := P7
                    cases el : lc2L s ft src1 s1 ft1 fe vs1 (wipeR ρ vs) (ds.drop (i + 1)) st7 with
                    | none => rw [el] at P7; exact P7
                    | some pr => obtain ⟨ys, st8⟩ := pr; rw [el] at P7; exact P7
                  | some d2 =>
                    have hl2 : j < es2.length := (List.getElem?_eq_some_iff.mp ej).1
                    have ed2 : es2.drop j = d2 :: es2.drop (j + 1) := by
                      rw [List.drop_eq_getElem_cons hl2]
                      congr 1
                      have := List.getElem?_eq_getElem hl2
                      rw [ej] at this
                      exact (Option.some.inj this).symm
                    rw [ed2] at P7
                    obtain ⟨go1, yl1⟩ := (hJ1 αs7 (D0 :: T) H7 st7 j F67.1 F67.2 R7).2 d2 ej
                    refine .inr ⟨go1, fun H8 => ∃ αs7 st7 acc7 accD7, (Acc αs7 H8 st7 acc7 accD7 ∧ (Zk H6 H8 ∧ ∀ d v, Rep K mg αs6 (D0 :: T) H6 d v → Rep K mg αs7 (D0 :: T) H8 d v)) ∧ Res accD7 (After (lcL s1 ft1 fe (wipeR ρ1 vs1) (es2.drop (j + 1)) st7)), fun H8 ⟨αs8, st8, acc8, accD8, a, b⟩ => ⟨es2.length - (j + 1), by omega, αs8, st8, acc8, accD8, ⟨rfl, hl2⟩, a, b⟩, fun y H8 hy8 => ?_⟩
                    obtain ⟨ry, R8, F8, K8⟩ := yl1 y H8 hy8
                    unfold lcL at P7
                    cases es3 : s1 d2 (wipeR ρ1 vs1) with
                    | none => rw [es3] at P7; obtain ⟨_, _, z, _⟩ := P7; cases z
                    | some ρ2 =>
                      rw [es3] at P7
                      have E8 : EnvR K mg αs7 (D0 :: T) H8 (L2.wipe σ2 vs1) (wipeR ρ1 vs1) := ((E6.wipe vs1).mvR F67.2).fr F8
                      refine hg1 αs7 (D0 :: T) _ _ H8 st7 d2 y ρ2 _ R8 E8 ry es3 fun σ3 E9 w9 => ⟨(w9 vs1 his1).trans (wipe_wipe σ2 vs1), ?_⟩
                      refine ht1 αs7 (D0 :: T) σ3 ρ2 H8 st7 _ R8 E9 ?_
                      dsimp only at P7
                      cases et1 : ft1 ρ2 st7 with
                      | bad => rw [et1] at P7; obtain ⟨_, _, z, _⟩ := P7; cases z
                      | exc c p st => rw [et1] at P7; obtain ⟨_, _, z, _⟩ := P7; cases z
                      | ok b1 st9 =>
                        rw [et1] at P7
                        intro αs9 H9 R9 F9
                        have hx9 : H9 D0 = some (.lst acc7) := F9.keep D0 _ (R8.tmp D0 List.mem_cons_self).1 (K8 D0 _ hx7)
                        have r9 := (r7.fr F8).fr F9
                        cases b1 with
                        | false => exact iteF ⟨αs9, st9, acc7, accD7, ⟨⟨hx9, R9, r9, (F17.trans F8).trans F9⟩, fun b o u e => F9.zk b o u (F8.zk b o u (F67.1 b o u e)), fun d v r => ((F67.2 d v r).fr F8).fr F9⟩, P7⟩
                        | true =>
                          refine iteT (he αs9 (D0 :: T) σ3 ρ2 H9 st9 _ R9 (E9.fr F9) ?_)
                          dsimp only at P7
                          cases ee : fe ρ2 st9 with
                          | bad => rw [ee] at P7; obtain ⟨_, _, z, _⟩ := P7; cases z
                          | exc c p st => rw [ee] at P7; obtain ⟨_, _, z, _⟩ := P7; cases z
                          | ok x2 st10 =>
                            rw [ee] at P7
                            intro αs10 H10 R10 F10 v rv
                            have hx10 : H10 D0 = some (.lst acc7) := F10.keep D0 _ (R9.tmp D0 List.mem_cons_self).1 hx9
                            have r10 := r9.fr F10
                            dsimp only at P7
                            cases ek : lcL s1 ft1 fe (wipeR ρ1 vs1) (es2.drop (j + 1)) st10 with
                            | none => rw [ek] at P7; obtain ⟨_, _, z, _⟩ := P7; cases z
                            | some pr =>
                              obtain ⟨xs, st11⟩ := pr
                              rw [ek] at P7
                              have P7 : Res accD7 (match lc2L s ft src1 s1 ft1 fe vs1 (wipeR ρ vs) (ds.drop (i + 1)) st11 with
                                | some (ys, st) => some ((x2 :: xs) ++ ys, st)
                                | none => none) := P7
                              cases el : lc2L s ft src1 s1 ft1 fe vs1 (wipeR ρ vs) (ds.drop (i + 1)) st11 with
                              | none => rw [el] at P7; obtain ⟨_, _, z, _⟩ := P7; cases z
                              | some pr =>
                                obtain ⟨ys, st12⟩ := pr
                                rw [el] at P7
                                obtain ⟨xs', st', ex, hll, pq⟩ := P7
                                cases ex
                                have hlen : acc7.length < sizeLine := by
                                  have := lineOk_iff hll
                                  rw [List.length_append, List.length_append, List.length_cons] at this
                                  have h2 := r10.len
                                  omega
                                have F710 : ∀ d v, Rep K mg αs6 (D0 :: T) H6 d v → Rep K mg αs10 (D0 :: T) H10 d v := fun d v r => (((F67.2 d v r).fr F8).fr F9).fr F10
                                have F110 := ((F17.trans F8).trans F9).trans F10
                                have nD : ∀ {αsx : List Addr} {Hx : Hp}, Fr αsx Hx αs10 H10 → Hx D0 = none → Fr αsx Hx αs10 (upd H10 D0 (.lst (acc7 ++ [v]))) := fun F h => F.updn h
                                refine ⟨acc7, hx10, hlen, αs10, st10, acc7 ++ [v], accD7 ++ [x2], ⟨⟨upd_same, R10.tmpw hx10 List.mem_cons_self _, (r10.app (.one rv)).tmpw hx10 List.mem_cons_self, nD F110 hD⟩, ?_⟩, ?_⟩
                                · exact ⟨fun b o u e => by
                                    have e2 := F10.zk b o u (F9.zk b o u (F8.zk b o u (F67.1 b o u e)))
                                    rw [upd_ne (ne_of e2 hx10 (by intro z; cases z))]
                                    exact e2, fun d w r => (F710 d w r).tmpw hx10 List.mem_cons_self⟩
                                · refine ⟨xs ++ ys, st12, ?_, ?_, ?_⟩
                                  · show After (lcL s1 ft1 fe (wipeR ρ1 vs1) (es2.drop (j + 1)) st10) = _
                                    rw [ek]
                                    show (match lc2L s ft src1 s1 ft1 fe vs1 (wipeR ρ vs) (ds.drop (i + 1)) st11 with
                                      | some (ys, st) => some (xs ++ ys, st)
                                      | none => none) = _
                                    rw [el]
                                  · rw [List.append_assoc]; exact hll
                                  · rw [List.append_assoc]; exact pq
end
namespace Y
section
variable {K : PySem.W.Frag} {mg : Str → Option Value} {Y : Cy K mg} {W : WX}
/-- [elt for .. for ..] -/
theorem df_lc2 {elt tg iter tg1 iter1 : Expr} {ifs ifs1 : List Expr} {scope : Scope} {pos : Pos} {wi wi1 : TI} {src src1 : Rho → Sto → R Src} {g g1 : TG} {s s1 : Set1} {is is1 : List Nat} {tt tt1 : TT} {ft ft1 : Rho → Sto → R Bool} {te : TE} {fe : Rho → Sto → R D} {vs : List Nat} (own : List (Str × Nat)) (vs1 : List Nat) (nd : Y.1.N.Nodup) (hi : DI Y W tg iter wi src) (ok : BlkOk Y.1.N Y.1.env.scope scope own)
    (hg : ∀ (s0 : Shared) (H : Hp) (C : Addr) (cl : List (Str × Addr)) (fp : List Addr), DG (Y.blk s0 H scope (compEnvC scope cl C Y.1.env) fp) tg g s is) (ht : ∀ (s0 : Shared) (H : Hp) (C : Addr) (cl : List (Str × Addr)) (fp : List Addr), DTs (Y.blk s0 H scope (compEnvC scope cl C Y.1.env) fp) W0 ifs tt ft)
    (hi1 : ∀ (s0 : Shared) (H : Hp) (C : Addr) (cl : List (Str × Addr)) (fp : List Addr), DI (Y.blk s0 H scope (compEnvC scope cl C Y.1.env) fp) W0 tg1 iter1 wi1 src1)
    (hg1 : ∀ (s0 : Shared) (H : Hp) (C : Addr) (cl : List (Str × Addr)) (fp : List Addr), DG (Y.blk s0 H scope (compEnvC scope cl C Y.1.env) fp) tg1 g1 s1 is1) (ht1 : ∀ (s0 : Shared) (H : Hp) (C : Addr) (cl : List (Str × Addr)) (fp : List Addr), DTs (Y.blk s0 H scope (compEnvC scope cl C Y.1.env) fp) W0 ifs1 tt1 ft1)
    (he : ∀ (s0 : Shared) (H : Hp) (C : Addr) (cl : List (Str × Addr)) (fp : List Addr), DE (Y.blk s0 H scope (compEnvC scope cl C Y.1.env) fp) W0 elt te fe) (hvs : own.map (·.2) = vs := by rfl) (hv : ∀ i ∈ vs1, i ∈ vs := by decide) (his : ∀ i ∈ is, i ∈ vs := by decide) (his1 : ∀ i ∈ is1, i ∈ vs1 := by decide) (hc : Y.1.calm = true := by rfl)
    (hs : ∀ x, foldedSetIterable iter Y.1.env x = pure x := by intro _; rfl) (hs1 : ∀ env x, foldedSetIterable iter1 env x = pure x := by intro _ _; rfl) :
    DF Y W (.ListComp elt [⟨tg, iter, ifs, 0⟩, ⟨tg1, iter1, ifs1, 0⟩] scope pos) (tLc2 wi g tt wi1 g1 tt1 te vs vs1) (fLc2 src s ft src1 s1 ft1 fe vs vs1) := by
  obtain ⟨X, rfl, rfl⟩ := Y
  subst hvs
  exact ⟨pe_lc2 hc nd hi.p ok hv (fun s0 H C cl fp => (hg s0 H C cl fp).p) (fun s0 H C cl fp => (ht s0 H C cl fp).p) (fun s0 H C cl fp => (hi1 s0 H C cl fp).p) (fun s0 H C cl fp => (hg1 s0 H C cl fp).p) (fun s0 H C cl fp => (ht1 s0 H C cl fp).p) (fun s0 H C cl fp => (he s0 H C cl fp).p) hs hs1,
    rf_lc2 hi.r (hg X.s_0 X.H_0 0 [] []).r (ht X.s_0 X.H_0 0 [] []).r (hi1 X.s_0 X.H_0 0 [] []).r (hg1 X.s_0 X.H_0 0 [] []).r (ht1 X.s_0 X.H_0 0 [] []).r (he X.s_0 X.H_0 0 [] []).r his his1⟩
theorem ds_setLc2 {elt tg iter tg1 iter1 : Expr} {ifs ifs1 : List Expr} {scope : Scope} {pos : Pos} {wi wi1 : TI} {src src1 : Rho → Sto → R Src} {g g1 : TG} {s s1 : Set1} {is is1 : List Nat} {tt tt1 : TT} {ft ft1 : Rho → Sto → R Bool} {te : TE} {fe : Rho → Sto → R D} {y : Str} {py spos : Pos} {ff : (Rho → Sto → R (List D)) → Rho → Sto → R D} (hff : ∀ {t : TE} {f : Rho → Sto → R (List D)}, RF K mg W t f → RE K mg W t (ff f)) {vs : List Nat} (i : Nat) (own : List (Str × Nat)) (vs1 : List Nat) (nd : Y.1.N.Nodup) (hi : DI Y W tg iter wi src) (ok : BlkOk Y.1.N Y.1.env.scope scope own)
    (hg : ∀ (s0 : Shared) (H : Hp) (C : Addr) (cl : List (Str × Addr)) (fp : List Addr), DG (Y.blk s0 H scope (compEnvC scope cl C Y.1.env) fp) tg g s is) (ht : ∀ (s0 : Shared) (H : Hp) (C : Addr) (cl : List (Str × Addr)) (fp : List Addr), DTs (Y.blk s0 H scope (compEnvC scope cl C Y.1.env) fp) W0 ifs tt ft)
    (hi1 : ∀ (s0 : Shared) (H : Hp) (C : Addr) (cl : List (Str × Addr)) (fp : List Addr), DI (Y.blk s0 H scope (compEnvC scope cl C Y.1.env) fp) W0 tg1 iter1 wi1 src1)
    (hg1 : ∀ (s0 : Shared) (H : Hp) (C : Addr) (cl : List (Str × Addr)) (fp : List Addr), DG (Y.blk s0 H scope (compEnvC scope cl C Y.1.env) fp) tg1 g1 s1 is1) (ht1 : ∀ (s0 : Shared) (H : Hp) (C : Addr) (cl : List (Str × Addr)) (fp : List Addr), DTs (Y.blk s0 H scope (compEnvC scope cl C Y.1.env) fp) W0 ifs1 tt1 ft1)
    (he : ∀ (s0 : Shared) (H : Hp) (C : Addr) (cl : List (Str × Addr)) (fp : List Addr), DE (Y.blk s0 H scope (compEnvC scope cl C Y.1.env) fp) W0 elt te fe) (hsw : swapsWith (.ListComp elt [⟨tg, iter, ifs, 0⟩, ⟨tg1, iter1, ifs1, 0⟩] scope pos) (some (.Name y py)) spos.line Y.1.env = pure true)
    (hvs : own.map (·.2) = vs := by rfl) (hv : ∀ i ∈ vs1, i ∈ vs := by decide) (his : ∀ i ∈ is, i ∈ vs := by decide) (his1 : ∀ i ∈ is1, i ∈ vs1 := by decide) (hy : Y.1.N[i]? = some y := by rfl) (hyl : Y.1.env.scope.names.lookup y = some .local := by rfl) (hc : Y.1.calm = true := by rfl)
    (hs : ∀ x, foldedSetIterable iter Y.1.env x = pure x := by intro _; rfl) (hs1 : ∀ env x, foldedSetIterable iter1 env x = pure x := by intro _ _; rfl) :
    DS Y W (.Assign [.Name y py] (.ListComp elt [⟨tg, iter, ifs, 0⟩, ⟨tg1, iter1, ifs1, 0⟩] scope pos) spos) (tAsg (tLc2 wi g tt wi1 g1 tt1 te vs vs1) (gName i)) (fSet i (ff (fLc2 src s ft src1 s1 ft1 fe vs vs1))) := by
  obtain ⟨X, rfl, rfl⟩ := Y
  subst hvs
  exact ⟨ps_setLc2 hc nd hy hyl hsw hi.p ok hv (fun s0 H C cl fp => (hg s0 H C cl fp).p) (fun s0 H C cl fp => (ht s0 H C cl fp).p) (fun s0 H C cl fp => (hi1 s0 H C cl fp).p) (fun s0 H C cl fp => (hg1 s0 H C cl fp).p) (fun s0 H C cl fp => (ht1 s0 H C cl fp).p) (fun s0 H C cl fp => (he s0 H C cl fp).p) hs hs1,
    rs_set (hff (rf_lc2 hi.r (hg X.s_0 X.H_0 0 [] []).r (ht X.s_0 X.H_0 0 [] []).r (hi1 X.s_0 X.H_0 0 [] []).r (hg1 X.s_0 X.H_0 0 [] []).r (ht1 X.s_0 X.H_0 0 [] []).r (he X.s_0 X.H_0 0 [] []).r his his1))⟩
end
end Y
def fPar3 (i j l : Nat) (f : Rho → Sto → R (List D)) : Rho → Sto → R Fl := fun ρ st => (f ρ st).bind fun ds st => match ds with
  | [a, b, c] => .ok (.nx (((ρ.set i (some a)).set j (some b)).set l (some c))) st
  | _ => .bad
theorem rs_par3 {K : PySem.W.Frag} {mg : Str → Option Value} {W : WX} {i j l : Nat} {t : TA} {f : Rho → Sto → R (List D)} (h : RA K mg W t f) : RS K mg W (tPar3 i j l t) (fPar3 i j l f) := by
  intro αs T σ ρ H st Dn R E q
  refine h αs T σ ρ H st _ R E (PostG.imp (PostS.bind q σ) fun ds st1 αs1 H1 R1 F1 p vs rv => ?_)
  match ds, p, rv with
  | [a, b, c], p, rv =>
    simp only [Reps] at rv
    obtain ⟨v, r, e1, h1, w, r2, e2, h2, u, r3, e3, h3, e4⟩ := rv
    subst e4 e3 e2 e1
    exact ⟨v, w, u, rfl, (p σ) αs1 H1 R1 .refl _ ((((E.fr F1).set h1).set h2).set h3)⟩
  | [], p, _ => exact (p σ).elim
  | [_], p, _ => exact (p σ).elim
  | [_, _], p, _ => exact (p σ).elim
  | _ :: _ :: _ :: _ :: _, p, _ => exact (p σ).elim
namespace Y
section
variable {K : PySem.W.Frag} {mg : Str → Option Value} {Y : Cy K mg} {W : WX}
theorem ds_par3 (i j l : Nat) {x y z : Str} {a b c : Expr} {px py pz pt pos : Pos} {kt k2 : Nat} {pt2 : Pos} {t : TA} {fs : Rho → Sto → R (List D)} (nd : Y.1.N.Nodup) (ha : DA Y W [a, b, c] t fs) (hc : Y.1.calm = true := by rfl) (hi : Y.1.N[i]? = some x := by rfl) (hj : Y.1.N[j]? = some y := by rfl) (hl : Y.1.N[l]? = some z := by rfl) (hij : i ≠ j := by decide) (hil : i ≠ l := by decide) (hjl : j ≠ l := by decide)
    (hx : Y.1.env.scope.names.lookup x = some .local := by rfl) (hy : Y.1.env.scope.names.lookup y = some .local := by rfl) (hz : Y.1.env.scope.names.lookup z = some .local := by rfl)
    (hw : swappedStores [.Tuple [.Name x px, .Name y py, .Name z pz] kt pt] (.Tuple [a, b, c] k2 pt2) Y.1.env = pure (some [x, y, z]) := by rfl)
    (hs : swapsWithSole [.Tuple [.Name x px, .Name y py, .Name z pz] kt pt] (.Tuple [a, b, c] k2 pt2) pos.line Y.1.env = pure false := by rfl) :
    DS Y W (.Assign [.Tuple [.Name x px, .Name y py, .Name z pz] kt pt] (.Tuple [a, b, c] k2 pt2) pos) (tPar3 i j l t) (fPar3 i j l fs) := by
  obtain ⟨X, rfl, rfl⟩ := Y
  exact ⟨ps_par3 hc nd hi hj hl hij hil hjl hx hy hz ha.p hw hs, rs_par3 ha.r⟩
end
end Y
end DL
namespace DL
open PySem PySem.Spec PyProof.Rows L2 DL.Y
/-! ### defs of a text -/
abbrev FnP (K : PySem.W.Frag) (x : Str) (st : Stmt) (f : Addr) (fd : FuncData) : Prop := FunD K x x (defArgs st) (defBody st) (defScope st) [] [] f fd
/-- the def x stands in the text as st -/
def At (K : PySem.W.Frag) (mg : Str → Option Value) (x : Str) (st : Stmt) : Prop := ∃ f fd, FnP K x st f fd ∧ mg x = some (.ref f)
def KB (fd : FuncData) (ps : List Str) : Prop := ∀ (ks : List Str) (n : Nat), ps.drop n = ks → n + ks.length = ps.length → ∀ (s : Shared) (us ws : List Value), us.length = n → ws.length = ks.length → BindsTo s fd ⟨us, ks.zip ws⟩ (ps.zip (us ++ ws))
def KBs (x : Str) (st : Stmt) (ps : List Str) : Prop := ∀ (kV doc pm : Value) (an : Option Addr) (cdv ct : Value), KB (PySem.W.fnOf x x (defArgs st) (defBody st) (defScope st) .none kV doc pm an cdv ct) ps
theorem fun_of {K : PySem.W.Frag} {x : Str} {st : Stmt} {f : Addr} {fd : FuncData} (F : FnP K x st f fd) : Fun K x x st f fd ∧ ∃ (kV doc pm : Value) (an : Option Addr) (cdv ct : Value), fd = PySem.W.fnOf x x (defArgs st) (defBody st) (defScope st) .none kV doc pm an cdv ct := by
  obtain ⟨oc, od, dV, kV, doc, pm, an, cdv, ct, osl, e, lk, hcd, hD, hK⟩ := F.ex
  rcases hD with ⟨_, rfl⟩ | ⟨h, _⟩
  · exact ⟨⟨⟨oc, od, kV, doc, pm, an, cdv, ct, osl, e, lk, hcd⟩, F.kp⟩, kV, doc, pm, an, cdv, ct, e⟩
  · exact absurd rfl h
section
variable {P : Program} {w : World} {K : PySem.W.Frag} {mg : Str → Option Value} {base : Heap} {x : Str} {st : Stmt} {N ps : List Str} {k : Nat} {body : Rho → Sto → R Fl}
theorem has_fin {f : Addr} {fd : FuncData} {m : List D → Sto → R D} (F : FnP K x st f fd) (gf : mg x = some (.ref f)) (hbd : KBs x st ps) (h : FnOk P w K mg base (L2.CX P w) k f fd ps (spF K mg ps.length m)) : Has P w K mg base k x ps m := by
  obtain ⟨_, kV, doc, pm, an, cdv, ct, e⟩ := fun_of F
  have kb : KB fd ps := by rw [e]; exact hbd kV doc pm an cdv ct
  refine ⟨f, fd, h, gf, F.kp, fun s us _ hl => ?_, kb⟩
  rw [List.append_nil] at hl
  have := kb [] ps.length (List.drop_length ..) (by simp) s us [] hl rfl
  rw [List.append_nil] at this ⊢
  exact this
theorem has_mk {np nN : Nat} (A : At K mg x st) (S : FnScope N ps (defScope st)) (hbd : KBs x st ps) (e1 : ps.length = np) (e2 : N.length = nN)
    (hb : ∀ (f : Addr) (cdv : Value) (A : Around) (outer : List Env) (s0 : Shared) (H : Hp) (E : XK), Room k (A.deeper (envOfC x (defScope st) s0.heap.objs.size f cdv)) →
      ∃ t, Y.DSs (⟨cxOf (L2.CX P w) P w K mg base N x (defScope st) f cdv A outer s0 H E, rfl, rfl⟩ : Cy K mg) (Wf E) (defBody st) t body) : Has P w K mg base (k + 1) x ps (runDef np nN body) := by
  subst e1 e2
  exact let ⟨f, _, F, gf⟩ := A
  has_fin F gf hbd (okD (fun_of F).1 S fun cdv A outer s0 H E hr => let ⟨t, h⟩ := hb f cdv A outer s0 H E hr; ⟨t, h.p, h.r⟩)
theorem has_mkK {np nN : Nat} (A : At K mg x st) (S : FnScope N ps (defScope st)) (hbd : KBs x st ps) (e1 : ps.length = np) (e2 : N.length = nN)
    (hb : ∀ (f : Addr) (cdv : Value) (A : Around) (outer : List Env) (s0 : Shared) (H : Hp) (E : XK), Room k (A.deeper (envOfC x (defScope st) s0.heap.objs.size f cdv)) →
      ∃ t, Y.DSs (⟨cxOf (L2.CX P w) P w K mg base N x (defScope st) f cdv A outer s0 H E, rfl, rfl⟩ : Cy K mg) (Wf E) (defBody st) t body) : Has P w K mg base (k + 1) x ps (runDefK np nN body) := by
  subst e1 e2
  exact let ⟨f, _, F, gf⟩ := A
  has_fin F gf hbd (okDK (fun_of F).1 S fun cdv A outer s0 H E hr => let ⟨t, h⟩ := hb f cdv A outer s0 H E hr; ⟨t, h.p, h.r⟩)
theorem has_no {np nN : Nat} (A : At K mg x st) (S : FnScope N ps (defScope st)) (hbd : KBs x st ps) (e1 : ps.length = np) (e2 : N.length = nN) : Has P w K mg base (k + 1) x ps (runDef np nN fNever) := has_mk A S hbd e1 e2 fun _ _ _ _ _ _ _ _ => ⟨_, Y.dss_never⟩
end
end DL
namespace DL
open PySem PySem.Spec PyProof.Rows L2 DL.Y
/-! ### the law's own def -/
section
variable {P : Program} {w : World} {K : PySem.W.Frag} {mg : Str → Option Value} {base : Heap} {x : Str} {st : Stmt} {N ps : List Str} {k : Nat} {body : Rho → Sto → R Fl}
theorem fn_mk {np nN : Nat} {f : Addr} {fd : FuncData} (F : FnP K x st f fd) (S : FnScope N ps (defScope st)) (e1 : ps.length = np) (e2 : N.length = nN)
    (hb : ∀ (f : Addr) (cdv : Value) (A : Around) (outer : List Env) (s0 : Shared) (H : Hp) (E : XK), Room k (A.deeper (envOfC x (defScope st) s0.heap.objs.size f cdv)) →
      ∃ t, Y.DSs (⟨cxOf (L2.CX P w) P w K mg base N x (defScope st) f cdv A outer s0 H E, rfl, rfl⟩ : Cy K mg) (Wf E) (defBody st) t body) : FnOk P w K mg base (L2.CX P w) (k + 1) f fd ps (spF K mg np (runDef np nN body)) := by
  subst e1 e2
  exact okD (fun_of F).1 S fun cdv A outer s0 H E hr => let ⟨t, h⟩ := hb f cdv A outer s0 H E hr; ⟨t, h.p, h.r⟩
theorem fnOk0 {f : Addr} {fd : FuncData} {sp : Sp} (F : FnOk P w K mg base (L2.CX P w) k f fd ps sp) : FnOk P w K mg base L2.CX0 k f fd ps (fun vs H Q _ => sp vs H Q fun _ _ _ => False) := by
  refine ⟨fun vs H Q E h => F.len _ _ _ _ h, fun A outer s H args us vs Q E hr he hb hv hs => codeAny_mono (F.run A outer s H args us vs Q (fun _ _ _ => False) hr he hb hv hs) fun r s' hq => ?_⟩
  cases r with
  | error e =>
    obtain ⟨_, _, _, _, _, _, _, _, _, _, _, _, h⟩ := hq
    exact h.elim
  | ok fl =>
    cases fl with
    | ret u => exact hq
    | next => exact hq
    | brk => exact hq
    | cont => exact hq
theorem reps_ints {αs T : List Addr} {H : Hp} : ∀ ns : List Int, Reps K mg αs T H (ns.map D.int) (ns.map V.int)
  | [] => .nil
  | n :: ns => .cons (rep_int.mpr rfl) (reps_ints ns)
theorem law_sp {m : List D → Sto → R D} {H : Hp} {a : Addr} {ns : List Int} (hO : Only H) (hS : SqL K H a (ns.map V.int)) (h : ∃ st', m [.frz (ns.map D.int)] [] = .ok (.bl true) st') :
    spF K mg 1 m [.ref a] H (fun v _ => v = .bl true) fun _ _ _ => False := by
  obtain ⟨st', h⟩ := h
  refine ⟨[], [], [], [.frz (ns.map D.int)], rfl, ⟨.nil, rfl, fun n a ds h1 h2 => by simp at h1, fun t ht => by cases ht⟩, .one (rep_frz.mpr ⟨a, _, rfl, ?_, reps_ints ns⟩), ?_⟩
  · rcases hS with (h | ⟨o, h⟩) | h
    · rcases hO a with e | ⟨o, xs, e⟩
      · rw [e] at h; cases h
      · rw [e] at h; cases h
    · exact .inl ⟨o, h, by simp⟩
    · exact .inr h
  · rw [h]
    exact fun v αs' H' _ r _ => rep_bl.mp r
end
end DL
namespace DL
open PySem PySem.Spec PyProof.Rows L2
/-! ### the order of data -/
def ltI : List D → List D → Option Bool
  | [], [] => some false
  | .int i :: xs, .int j :: ys => match ltI xs ys with
    | some r => some (if i == j then r else decide (i < j))
    | none => none
  | _, _ => none
def isNonP : PyData → Bool
  | .none => true
  | _ => false
def ltS (st : Sto) (a b : D) : Option Bool := match toP st a, toP st b with
  | some p, some q => if PySem.W.alike p q && !isNonP p && Nat.ble p.depth 50 then some (PySem.W.dataLt p q) else none
  | _, _ => none
def ltB (st : Sto) (a b : D) : Option Bool := match a, b with
  | .int i, .int j => some (decide (i < j))
  | .tup xs, .tup ys => match ltI xs ys with
    | some r => some r
    | none => ltS st (.tup xs) (.tup ys)
  | a, b => ltS st a b
def gLtD (st : Sto) (a b : D) : Option D := match ltB st a b with
  | some r => some (.bl r)
  | none => none
def gGtD (st : Sto) (a b : D) : Option D := match ltB st b a with
  | some r => some (.bl r)
  | none => none
def gLeD (st : Sto) (a b : D) : Option D := match ltB st b a with
  | some r => some (.bl (!r))
  | none => none
def gGeD (st : Sto) (a b : D) : Option D := match ltB st a b with
  | some r => some (.bl (!r))
  | none => none
theorem ltI_ok (st : Sto) : ∀ {xs ys : List D} {r : Bool}, ltI xs ys = some r → ∃ ps qs, toPs st xs = some ps ∧ toPs st ys = some qs ∧ PySem.W.alikeAll ps qs = true ∧ PyData.depthAll ps = 0 ∧ PyProof.Rows.lexLt PyProof.Rows.itemOrd (PySem.W.keyToksAll ps) (PySem.W.keyToksAll qs) = r
  | [], [], r, e => by
    simp only [ltI] at e
    cases e
    exact ⟨[], [], rfl, rfl, by simp only [PySem.W.alikeAll], by simp only [PyData.depthAll], rfl⟩
  | .int i :: xs, .int j :: ys, r, e => by
    simp only [ltI] at e
    cases q : ltI xs ys with
    | none => rw [q] at e; cases e
    | some r' =>
      rw [q] at e
      cases e
      obtain ⟨ps, qs, h1, h2, h3, h4, h5⟩ := ltI_ok st q
      have al : PySem.W.alike (.int i) (.int j) = true := by simp only [PySem.W.alike]
      refine ⟨.int i :: ps, .int j :: qs, by simp only [toPs, toP, h1], by simp only [toPs, toP, h2], by simp only [PySem.W.alikeAll, al, h3, Bool.and_self], by simp only [PyData.depthAll, PyData.depth, h4, Nat.max_self], ?_⟩
      have ee : PyData.eqv (.int i) (.int j) = (i == j) := by simp only [PyData.eqv]
      cases hij : i == j with
      | true => rw [PySem.W.dataLt_all_yes al (by rw [ee, hij]), h5]; rfl
      | false =>
        rw [PySem.W.dataLt_all_no al (by rw [ee, hij]), PySem.W.dataLt_int]
        rfl
  | [], _ :: _, _, e => by simp only [ltI] at e; cases e
  | .int _ :: _, [], _, e => by simp only [ltI] at e; cases e
  | .int _ :: _, .non :: _, _, e => by simp only [ltI] at e; cases e
  | .int _ :: _, .bl _ :: _, _, e => by simp only [ltI] at e; cases e
  | .int _ :: _, .str _ :: _, _, e => by simp only [ltI] at e; cases e
  | .int _ :: _, .tup _ :: _, _, e => by simp only [ltI] at e; cases e
  | .int _ :: _, .lst _ :: _, _, e => by simp only [ltI] at e; cases e
  | .int _ :: _, .hnd _ :: _, _, e => by simp only [ltI] at e; cases e
  | .int _ :: _, .fn _ :: _, _, e => by simp only [ltI] at e; cases e
  | .int _ :: _, .frz _ :: _, _, e => by simp only [ltI] at e; cases e
  | .int _ :: _, .dhn _ :: _, _, e => by simp only [ltI] at e; cases e
  | .int _ :: _, .dic _ _ :: _, _, e => by simp only [ltI] at e; cases e
  | .int _ :: _, .dk _ :: _, _, e => by simp only [ltI] at e; cases e
  | .non :: _, _, _, e => by simp only [ltI] at e; cases e
  | .bl _ :: _, _, _, e => by simp only [ltI] at e; cases e
  | .str _ :: _, _, _, e => by simp only [ltI] at e; cases e
  | .tup _ :: _, _, _, e => by simp only [ltI] at e; cases e
  | .lst _ :: _, _, _, e => by simp only [ltI] at e; cases e
  | .hnd _ :: _, _, _, e => by simp only [ltI] at e; cases e
  | .fn _ :: _, _, _, e => by simp only [ltI] at e; cases e
  | .frz _ :: _, _, _, e => by simp only [ltI] at e; cases e
  | .dhn _ :: _, _, _, e => by simp only [ltI] at e; cases e
  | .dic _ _ :: _, _, _, e => by simp only [ltI] at e; cases e
  | .dk _ :: _, _, _, e => by simp only [ltI] at e; cases e
def LtOk (st : Sto) (a b : D) (r : Bool) : Prop := ∃ p q, toP st a = some p ∧ toP st b = some q ∧ PySem.W.alike p q = true ∧ p ≠ .none ∧ p.depth ≤ 50 ∧ PySem.W.dataLt p q = r
theorem ltS_ok {st : Sto} {a b : D} {r : Bool} (e : ltS st a b = some r) : LtOk st a b r := by
  unfold ltS at e
  cases ha : toP st a with
  | none => rw [ha] at e; cases e
  | some p =>
    cases hb : toP st b with
    | none => rw [ha, hb] at e; cases e
    | some q =>
      rw [ha, hb] at e
      dsimp only at e
      split at e
      · rename_i hc
        cases e
        simp only [Bool.and_eq_true] at hc
        refine ⟨p, q, ha, hb, hc.1.1, fun z => ?_, Nat.le_of_ble_eq_true hc.2, rfl⟩
        have := hc.1.2
        rw [z] at this
        cases this
      · cases e
theorem ltB_ok {st : Sto} {a b : D} {r : Bool} (e : ltB st a b = some r) : LtOk st a b r := by
  unfold ltB at e
  split at e
  · cases e
    exact ⟨_, _, by simp only [toP], by simp only [toP], by simp only [PySem.W.alike], (fun z => by cases z), by simp only [PyData.depth]; omega, PySem.W.dataLt_int _ _⟩
  · rename_i xs ys
    split at e
    · rename_i r' hr
      cases e
      obtain ⟨ps, qs, h1, h2, h3, h4, h5⟩ := ltI_ok st hr
      refine ⟨.tuple ps, .tuple qs, by simp only [toP, h1], by simp only [toP, h2], by simp only [PySem.W.alike, h3], (fun z => by cases z), by simp only [PyData.depth, h4]; omega, ?_⟩
      rw [PySem.W.dataLt_tuple, h5]
    · exact ltS_ok e
  · exact ltS_ok e
/-- an order by values -/
def rCmp (K : PySem.W.Frag) (f : PyData → PyData → Bool) : R2 := fun x y H Q => ∃ p q, Dp K H x p ∧ Dp K H y q ∧ PySem.W.alike p q = true ∧ p ≠ .none ∧ min p.depth q.depth ≤ 50 ∧ Q (.bl (f p q)) H
section
variable {X : Cx}
theorem op_ltD (hu : X.A.units + 64 < cLine) : OpR X (compareOp .Lt) (rCmp X.K fun p q => PySem.W.dataLt p q) := by
  intro pins s σ H x y v u Q I rx ry ⟨p, q, hp, hq, al, hn, hd, hQ⟩
  obtain ⟨as, ra⟩ := Dp.reads I _ _ _ hp rx
  obtain ⟨bs, rb⟩ := Dp.reads I _ _ _ hq ry
  exact PySem.W.lt_data ra rb al hn (by omega) ⟨.bl _, H, I, rfl, hQ⟩
theorem op_gtD (hu : X.A.units + 64 < cLine) : OpR X (compareOp .Gt) (rCmp X.K fun p q => PySem.W.dataLt q p) := by
  intro pins s σ H x y v u Q I rx ry ⟨p, q, hp, hq, al, hn, hd, hQ⟩
  obtain ⟨as, ra⟩ := Dp.reads I _ _ _ hp rx
  obtain ⟨bs, rb⟩ := Dp.reads I _ _ _ hq ry
  exact PySem.W.gt_data ra rb al hn (by omega) ⟨.bl _, H, I, rfl, hQ⟩
theorem op_leD (hu : X.A.units + 64 < cLine) : OpR X (compareOp .LtE) (rCmp X.K fun p q => !PySem.W.dataLt q p) := by
  intro pins s σ H x y v u Q I rx ry ⟨p, q, hp, hq, al, hn, hd, hQ⟩
  obtain ⟨as, ra⟩ := Dp.reads I _ _ _ hp rx
  obtain ⟨bs, rb⟩ := Dp.reads I _ _ _ hq ry
  exact PySem.W.le_data ra rb al hn (by omega) ⟨.bl _, H, I, rfl, hQ⟩
theorem op_geD (hu : X.A.units + 64 < cLine) : OpR X (compareOp .GtE) (rCmp X.K fun p q => !PySem.W.dataLt p q) := by
  intro pins s σ H x y v u Q I rx ry ⟨p, q, hp, hq, al, hn, hd, hQ⟩
  obtain ⟨as, ra⟩ := Dp.reads I _ _ _ hp rx
  obtain ⟨bs, rb⟩ := Dp.reads I _ _ _ hq ry
  exact PySem.W.ge_data ra rb al hn (by omega) ⟨.bl _, H, I, rfl, hQ⟩
end
section
variable {K : PySem.W.Frag} {mg : Str → Option Value} {W : WX}
theorem rv_cmp {f : PyData → PyData → Bool} {g : Sto → D → D → Option D} (h : ∀ st a b d, g st a b = some d → ∃ p q, toP st a = some p ∧ toP st b = some q ∧ PySem.W.alike p q = true ∧ p ≠ .none ∧ min p.depth q.depth ≤ 50 ∧ d = .bl (f p q)) : RV2 K mg (rCmp K f) g := by
  intro αs T H st a b x y Q d R ra rb e q
  obtain ⟨p, p', e1, e2, al, hn, hd, rfl⟩ := h _ _ _ _ e
  exact ⟨p, p', toP_ok ra e1, toP_ok rb e2, al, hn, hd, q _ _ R .refl (rep_bl.mpr rfl)⟩
theorem rv_ltD : RV2 K mg (rCmp K fun p q => PySem.W.dataLt p q) gLtD := rv_cmp fun st a b d e => by
  unfold gLtD at e
  split at e
  · rename_i r hr
    cases e
    obtain ⟨p, q, h1, h2, h3, h4, h5, h6⟩ := ltB_ok hr
    exact ⟨p, q, h1, h2, h3, h4, by omega, by rw [h6]⟩
  · cases e
theorem rv_geD : RV2 K mg (rCmp K fun p q => !PySem.W.dataLt p q) gGeD := rv_cmp fun st a b d e => by
  unfold gGeD at e
  split at e
  · rename_i r hr
    cases e
    obtain ⟨p, q, h1, h2, h3, h4, h5, h6⟩ := ltB_ok hr
    exact ⟨p, q, h1, h2, h3, h4, by omega, by rw [h6]⟩
  · cases e
theorem rv_gtD : RV2 K mg (rCmp K fun p q => PySem.W.dataLt q p) gGtD := rv_cmp fun st a b d e => by
  unfold gGtD at e
  split at e
  · rename_i r hr
    cases e
    obtain ⟨p, q, h1, h2, h3, h4, h5, h6⟩ := ltB_ok hr
    exact ⟨q, p, h2, h1, by rw [PySem.W.alike_comm]; exact h3, PySem.W.ne_none_both h3 h4, by omega, by rw [h6]⟩
  · cases e
theorem rv_leD : RV2 K mg (rCmp K fun p q => !PySem.W.dataLt q p) gLeD := rv_cmp fun st a b d e => by
  unfold gLeD at e
  split at e
  · rename_i r hr
    cases e
    obtain ⟨p, q, h1, h2, h3, h4, h5, h6⟩ := ltB_ok hr
    exact ⟨q, p, h2, h1, by rw [PySem.W.alike_comm]; exact h3, PySem.W.ne_none_both h3 h4, by omega, by rw [h6]⟩
  · cases e
end
end DL
namespace DL
open PySem PySem.Spec PyProof.Rows L2
/-! ### sorted(set(xs)), the items tuples of as many ints, each in 0 .. 63 -/
def intsT : List D → Option (List Int)
  | [] => some []
  | d :: r => match d with
    | .int i => match intsT r with
      | some l => some (i :: l)
      | none => none
    | _ => none
def tupInts : D → Option (List Int)
  | .tup ds => intsT ds
  | _ => none
def keysOf : List D → Option (List (List Int))
  | [] => some []
  | d :: r => match tupInts d with
    | some k => match keysOf r with
      | some l => some (k :: l)
      | none => none
    | none => none
def lxI : List Int → List Int → Bool
  | i :: r, j :: q => if i == j then lxI r q else decide (i < j)
  | _, _ => false
def insP (k : List Int) : List (List Int) → List (List Int)
  | [] => [k]
  | y :: r => if lxI k y then k :: y :: r else if lxI y k then y :: insP k r else y :: r
def sdk : List (List Int) → List (List Int)
  | [] => []
  | k :: r => insP k (sdk r)
def okInt (i : Int) : Bool := decide (0 ≤ i) && decide (i < 64)
def okKey (d : Nat) (k : List Int) : Bool := Nat.beq k.length d && k.all okInt
def okKeys (ks : List (List Int)) : Bool := match ks with
  | [] => true
  | k :: r => Nat.blt 0 k.length && (k :: r).all (okKey k.length)
def keyD (k : List Int) : D := .tup (k.map .int)
def gSetN (st : Sto) (a : List D) : Option (List D) := match a with
  | [x] => match gL1.lstOrFrz st x with
    | some ds => match keysOf ds with
      | some ks => if Nat.blt ks.length 64 && okKeys ks then some ((sdk ks).map keyD) else none
      | none => none
    | none => none
  | _ => none
def Good1 (d : Nat) (k : List Int) : Prop := k.length = d ∧ TS.Bd 64 k
theorem okKey_good {d : Nat} {k : List Int} (h : okKey d k = true) : Good1 d k := by
  simp only [okKey, Bool.and_eq_true] at h
  refine ⟨Nat.eq_of_beq_eq_true h.1, fun m hm => ?_⟩
  have := List.all_eq_true.mp h.2 m hm
  simp only [okInt, Bool.and_eq_true, decide_eq_true_eq] at this
  exact this
theorem lx_code : ∀ {r q : List Int}, r.length = q.length → TS.Bd 64 r → TS.Bd 64 q → lxI r q = decide (TS.code 64 r < TS.code 64 q)
  | [], [], _, _, _ => by simp [lxI, TS.code]
  | [], _ :: _, h, _, _ => by simp at h
  | _ :: _, [], h, _, _ => by simp at h
  | i :: r, j :: q, h, hr, hq => by
    have hl : r.length = q.length := by simpa using h
    unfold lxI
    by_cases e : i = j
    · subst e
      rw [if_pos (beq_self_eq_true i), lx_code hl hr.tail hq.tail]
      exact decide_eq_decide.mpr (TS.code_same hl).symm
    · rw [if_neg (by simpa using e)]
      rcases Int.lt_or_gt_of_ne e with c | c
      · rw [decide_eq_true c, decide_eq_true (TS.code_lt hl hr.tail hq.tail c)]
      · have := TS.code_lt hl.symm hq.tail hr.tail c
        rw [decide_eq_false (by omega), decide_eq_false (by omega)]
theorem code_inj : ∀ {r q : List Int}, r.length = q.length → TS.Bd 64 r → TS.Bd 64 q → TS.code 64 r = TS.code 64 q → r = q
  | [], [], _, _, _, _ => rfl
  | [], _ :: _, h, _, _, _ => by simp at h
  | _ :: _, [], h, _, _, _ => by simp at h
  | i :: r, j :: q, h, hr, hq, e => by
    have hl : r.length = q.length := by simpa using h
    rcases Int.lt_trichotomy i j with c | c | c
    · have := TS.code_lt hl hr.tail hq.tail c; omega
    · subst c
      have a1 := (TS.code_same (B := 64) (d := i) hl).mpr
      have a2 := (TS.code_same (B := 64) (d := i) hl.symm).mpr
      have : TS.code 64 r = TS.code 64 q := by
        rcases Int.lt_trichotomy (TS.code 64 r) (TS.code 64 q) with z | z | z
        · have := a1 z; omega
        · exact z
        · have := a2 z; omega
      rw [code_inj hl hr.tail hq.tail this]
    · have := TS.code_lt hl.symm hq.tail hr.tail c; omega
theorem lt_uniq {α : Type} (f : α → Int) : ∀ {l m : List α}, l.Pairwise (fun a b => f a < f b) → m.Pairwise (fun a b => f a < f b) → (∀ x, x ∈ l ↔ x ∈ m) → l = m
  | [], [], _, _, _ => rfl
  | [], b :: m, _, _, h => absurd ((h b).mpr List.mem_cons_self) (by simp)
  | a :: l, [], _, _, h => absurd ((h a).mp List.mem_cons_self) (by simp)
  | a :: l, b :: m, hl, hm, h => by
    have pl := List.pairwise_cons.mp hl
    have pm := List.pairwise_cons.mp hm
    have e : a = b := by
      rcases List.mem_cons.mp ((h a).mp List.mem_cons_self) with z | z
      · exact z
      · rcases List.mem_cons.mp ((h b).mpr List.mem_cons_self) with y | y
        · exact y.symm
        · have := pm.1 a z; have := pl.1 b y; omega
    subst e
    rw [lt_uniq f pl.2 pm.2 fun x => ⟨fun hx => ?_, fun hx => ?_⟩]
    · rcases List.mem_cons.mp ((h x).mp (List.mem_cons_of_mem _ hx)) with z | z
      · have := pl.1 x hx; rw [z] at this; omega
      · exact z
    · rcases List.mem_cons.mp ((h x).mpr (List.mem_cons_of_mem _ hx)) with z | z
      · have := pm.1 x hx; rw [z] at this; omega
      · exact z
abbrev cLt (a b : List Int) : Prop := TS.code 64 a < TS.code 64 b
theorem insP_mem {d : Nat} {k : List Int} (hk : Good1 d k) : ∀ {l : List (List Int)}, (∀ x ∈ l, Good1 d x) → ∀ x, x ∈ insP k l ↔ x = k ∨ x ∈ l
  | [], _, x => by simp [insP]
  | y :: r, h, x => by
    have hy := h y List.mem_cons_self
    have ih := insP_mem hk (l := r) (fun x hx => h x (List.mem_cons_of_mem _ hx)) x
    unfold insP
    split
    · simp
    · rename_i c1
      split
      · rw [List.mem_cons, ih, List.mem_cons]
        constructor
        · rintro (z | z | z)
          · exact .inr (.inl z)
          · exact .inl z
          · exact .inr (.inr z)
        · rintro (z | z | z)
          · exact .inr (.inl z)
          · exact .inl z
          · exact .inr (.inr z)
      · rename_i c2
        rw [lx_code (hk.1.trans hy.1.symm) hk.2 hy.2] at c1
        rw [lx_code (hy.1.trans hk.1.symm) hy.2 hk.2] at c2
        simp only [decide_eq_true_eq] at c1 c2
        have e : k = y := code_inj (hk.1.trans hy.1.symm) hk.2 hy.2 (by omega)
        rw [e]
        simp
theorem insP_lt {d : Nat} {k : List Int} (hk : Good1 d k) : ∀ {l : List (List Int)}, (∀ x ∈ l, Good1 d x) → l.Pairwise cLt → (insP k l).Pairwise cLt
  | [], _, _ => by simp [insP]
  | y :: r, h, hp => by
    have hy := h y List.mem_cons_self
    have hr : ∀ x ∈ r, Good1 d x := fun x hx => h x (List.mem_cons_of_mem _ hx)
    have pp := List.pairwise_cons.mp hp
    unfold insP
    split
    · rename_i c1
      rw [lx_code (hk.1.trans hy.1.symm) hk.2 hy.2, decide_eq_true_eq] at c1
      refine List.pairwise_cons.mpr ⟨fun x hx => ?_, hp⟩
      rcases List.mem_cons.mp hx with z | z
      · rw [z]; exact c1
      · exact Int.lt_trans c1 (pp.1 x z)
    · split
      · rename_i c2
        rw [lx_code (hy.1.trans hk.1.symm) hy.2 hk.2, decide_eq_true_eq] at c2
        refine List.pairwise_cons.mpr ⟨fun x hx => ?_, insP_lt hk hr pp.2⟩
        rcases (insP_mem hk hr x).mp hx with z | z
        · rw [z]; exact c2
        · exact pp.1 x z
      · exact hp
theorem sdk_mem {d : Nat} : ∀ {ks : List (List Int)}, (∀ x ∈ ks, Good1 d x) → ∀ x, x ∈ sdk ks ↔ x ∈ ks
  | [], _, x => by simp [sdk]
  | k :: r, h, x => by
    have hr : ∀ x ∈ r, Good1 d x := fun x hx => h x (List.mem_cons_of_mem _ hx)
    have ih := sdk_mem hr
    unfold sdk
    rw [insP_mem (h k List.mem_cons_self) (fun x hx => hr x ((ih x).mp hx)) x, ih x, List.mem_cons]
theorem sdk_lt {d : Nat} : ∀ {ks : List (List Int)}, (∀ x ∈ ks, Good1 d x) → (sdk ks).Pairwise cLt
  | [], _ => by simp [sdk]
  | k :: r, h => by
    have hr : ∀ x ∈ r, Good1 d x := fun x hx => h x (List.mem_cons_of_mem _ hx)
    unfold sdk
    exact insP_lt (h k List.mem_cons_self) (fun x hx => hr x ((sdk_mem hr x).mp hx)) (sdk_lt hr)
theorem okKeys_good {ks : List (List Int)} (h : okKeys ks = true) : ∃ d, 1 ≤ d ∧ ∀ x ∈ ks, Good1 d x := by
  unfold okKeys at h
  split at h
  · exact ⟨1, Nat.le_refl _, by simp⟩
  · rename_i k r
    rw [Bool.and_eq_true] at h
    exact ⟨k.length, Nat.blt_eq.mp h.1, fun x hx => okKey_good (List.all_eq_true.mp h.2 x hx)⟩
theorem lt_of_le {l : List (List Int)} {d : Nat} (hg : ∀ x ∈ l, Good1 d x) (hn : l.Nodup) (hp : l.Pairwise (fun a b => TS.code 64 a ≤ TS.code 64 b)) : l.Pairwise cLt := by
  have h3 := hn.imp_of_mem (S := fun a b => TS.code 64 a ≠ TS.code 64 b) (fun {a b} ha hb ne e => ne (code_inj ((hg a ha).1.trans (hg b hb).1.symm) (hg a ha).2 (hg b hb).2 e))
  exact (hp.and h3).imp fun ⟨a, b⟩ => Int.lt_iff_le_and_ne.mpr ⟨a, b⟩
section
variable {K : PySem.W.Frag} {mg : Str → Option Value} {W : WX}
theorem intsT_ok {αs T : List Addr} {H : Hp} : ∀ {ds : List D} {vs : List V} {ns : List Int}, Reps K mg αs T H ds vs → intsT ds = some ns → vs = ns.map V.int ∧ ds = ns.map D.int
  | [], _, ns, r, e => by
    simp only [intsT] at e
    cases e
    exact ⟨r.isNil, rfl⟩
  | d :: ds, _, ns, r, e => by
    simp only [Reps] at r
    obtain ⟨v, vs, rfl, h1, h2⟩ := r
    unfold intsT at e
    split at e
    · split at e
      · rename_i q
        cases e
        obtain ⟨a, b⟩ := intsT_ok h2 q
        rw [a, b, rep_int.mp h1]
        exact ⟨rfl, rfl⟩
      · cases e
    · cases e
theorem keysOf_ok {αs T : List Addr} {H : Hp} : ∀ {ds : List D} {vs : List V} {ks : List (List Int)}, Reps K mg αs T H ds vs → keysOf ds = some ks →
    ∃ ps : List (Addr × List Int), vs = ps.map (fun p => V.ref p.1) ∧ ps.map (·.2) = ks ∧ ds = ks.map keyD ∧ ∀ p ∈ ps, TupAt K αs H p.1 (p.2.map V.int)
  | [], _, ks, r, e => by
    simp only [keysOf] at e
    cases e
    exact ⟨[], r.isNil, rfl, rfl, by simp⟩
  | d :: ds, _, ks, r, e => by
    simp only [Reps] at r
    obtain ⟨v, vs, rfl, h1, h2⟩ := r
    unfold keysOf at e
    split at e
    · rename_i k hk
      split at e
      · rename_i l hl
        cases e
        obtain ⟨ps, e1, e2, e3, e4⟩ := keysOf_ok h2 hl
        cases d <;> simp only [tupInts] at hk <;> try (cases hk; done)
        rename_i es
        obtain ⟨a, xs, rfl, ha, hs⟩ := rep_tup.mp h1
        obtain ⟨f1, f2⟩ := intsT_ok hs hk
        subst f1 f2 e1 e2 e3
        refine ⟨(a, k) :: ps, rfl, rfl, rfl, fun p hp => ?_⟩
        rcases List.mem_cons.mp hp with z | z
        · rw [z]; exact ha
        · exact e4 p z
      · cases e
    · cases e
theorem reps_keys {αs T : List Addr} {H : Hp} : ∀ {ps : List (Addr × List Int)}, (∀ p ∈ ps, TupAt K αs H p.1 (p.2.map V.int)) → Reps K mg αs T H ((ps.map (·.2)).map keyD) (ps.map fun p => V.ref p.1)
  | [], _ => .nil
  | p :: ps, h => by
    have hi : ∀ l : List Int, Reps K mg αs T H (l.map D.int) (l.map V.int) := fun l => by
      induction l with
      | nil => exact .nil
      | cons i l ih => exact .cons (rep_int.mpr rfl) ih
    exact .cons (rep_tup.mpr ⟨p.1, _, rfl, h p List.mem_cons_self, hi _⟩) (reps_keys fun q hq => h q (List.mem_cons_of_mem _ hq))
def tSetS (K : PySem.W.Frag) (P : Program) (w : World) (t : TA) : TE := tCB (rSortedT K P w) (tCons (tCB (rSetOfT K P w) t) tNil)
theorem rf_setS {P : Program} {w : World} {t : TA} {f : Rho → Sto → R (List D)} (h : RA K mg W t f) : RF K mg W (tSetS K P w t) (fCBn gSetN f) := by
  intro αs T σ ρ H st Q R E q
  refine h αs T σ ρ H st _ R E ?_
  unfold fCBn at q
  cases e : f ρ st with
  | bad => rw [e] at q; exact q
  | exc c p st1 => rw [e] at q; exact q
  | ok ds st1 =>
    rw [e] at q
    intro αs1 H1 R1 F1 vs rx
    have q : PostG K mg W αs T σ H (DL.R.of (gSetN st1 ds) st1) _ := q
    cases eg : gSetN st1 ds with
    | none => rw [eg] at q; exact q.elim
    | some es =>
      rw [eg] at q
      unfold gSetN at eg
      split at eg
      · rename_i x
        split at eg
        · rename_i cs hcs
          split at eg
          · rename_i ks hks
            split at eg
            · rename_i hc
              cases eg
              rw [Bool.and_eq_true] at hc
              obtain ⟨v, rfl, hv⟩ := reps1 rx
              obtain ⟨l, xs, rfl, hl, hx⟩ := lf_ok R1 hv hcs
              obtain ⟨ps, rfl, rfl, e3, hp⟩ := keysOf_ok hx hks
              obtain ⟨d, hd, hg⟩ := okKeys_good hc.2
              refine ⟨l, ps, rfl, hl, fun p m => (hp p m).sq, by have := Nat.blt_eq.mp hc.1; simpa using this, fun a L ha hsub hall => ?_⟩
              have f : Fr αs1 H1 αs1 (upd H1 a (SetTO P w a L)) := Fr.new ha
              have hgL : ∀ p ∈ L, Good1 d p.2 := fun p m => hg p.2 (List.mem_map.mpr ⟨p, hsub p m, rfl⟩)
              have tl : ∀ p ∈ L, TupAt K αs1 (upd H1 a (SetTO P w a L)) p.1 (p.2.map V.int) := fun p m => by
                rcases hp p (hsub p m) with ⟨k1, k2⟩ | k
                · exact .inl ⟨f.keep _ _ k2 k1, k2⟩
                · exact .inr k
              refine ⟨a, L, d, 64, rfl, upd_same, fun p m => (tl p m).sq, hd, fun p m => ⟨(hgL p m).1, (hgL p m).2⟩, fun L' p pm nd hl64 pw hpn => ?_⟩
              have hmem : ∀ p ∈ L', p ∈ L := fun p m => pm.mem_iff.mp m
              have hkeys : L'.map (·.2) = sdk (ps.map (·.2)) := by
                have hg' : ∀ x ∈ L'.map (·.2), Good1 d x := fun x m => by
                  obtain ⟨p, m1, rfl⟩ := List.mem_map.mp m
                  exact hgL p (hmem p m1)
                refine lt_uniq (TS.code 64) (lt_of_le hg' nd (List.pairwise_map.mpr pw)) (sdk_lt hg) fun x => ?_
                rw [sdk_mem hg]
                constructor
                · intro m
                  obtain ⟨p, m1, rfl⟩ := List.mem_map.mp m
                  exact List.mem_map.mpr ⟨p, hsub p (hmem p m1), rfl⟩
                · intro m
                  obtain ⟨p, m1, rfl⟩ := List.mem_map.mp m
                  obtain ⟨q, m2, e2⟩ := List.mem_map.mp (hall p m1)
                  exact List.mem_map.mpr ⟨q, pm.mem_iff.mpr m2, e2⟩
              have rr : Reps K mg αs1 T (upd H1 a (SetTO P w a L)) ((sdk (ps.map (·.2))).map keyD) (L'.map fun p => V.ref p.1) := by
                rw [← hkeys]
                exact reps_keys fun p m => tl p (hmem p m)
              have R2 : Rel K mg αs1 T (upd H1 a (SetTO P w a L)) st1 := R1.new ha
              obtain ⟨a1, a2, a3, a4, a5, a6, a7⟩ := freshen (F1.trans f) R R2 rr hpn
              exact q αs1 _ a6 ((F1.trans f).trans a7) p _ a1 a2 a3 a4 a5
            · cases eg
          · cases eg
        · cases eg
      · cases eg
end
theorem bt_set : bootBuiltins "set" = some (.type "set") := by decide +kernel
namespace Y
variable {K : PySem.W.Frag} {mg : Str → Option Value} {Y : Cy K mg} {W : WX} {e : Expr} {es : List Expr} {t : TA} {fs : Rho → Sto → R (List D)} {pos pos2 p p2 : Pos}
theorem df_setS (hu : Y.1.A.units + 64 < cLine) (hm : mg "sorted" = none) (hm2 : mg "set" = none) (ha : DA Y W [e] t fs) (hc : Y.1.calm = true := by rfl) (hg : Gl Y.1 "sorted" := by rfl) (hg2 : Gl Y.1 "set" := by rfl)
    (he : starEach [e] Y.1.env = (false, eval e Y.1.env) :: starEach [] Y.1.env := by rfl) (he2 : starEach [.Call (.Name "set" p2) [e] [] pos2] Y.1.env = (false, eval (.Call (.Name "set" p2) [e] [] pos2) Y.1.env) :: starEach [] Y.1.env := by rfl) :
    DF Y W (.Call (.Name "sorted" p) [.Call (.Name "set" p2) [e] [] pos2] [] pos) (tSetS K Y.1.prog Y.1.w t) (fCBn gSetN fs) := by
  obtain ⟨X, rfl, rfl⟩ := Y
  exact ⟨pe_callB (cr_sortedT hc) hg hm bt_sorted (pa_cons (pe_callTy (cr_setOfT hc hu) hg2 hm2 bt_set ha.p (by decide) (by decide) he rfl) pa_nil) (by decide) (by decide) he2 rfl, rf_setS ha.r⟩
end Y
end DL
namespace DL
open PySem PySem.Spec PyProof.Rows L2
/-! ### several clauses with names -/
/-- what the clauses 'except x as n' wish: each its class, its slot, its suite -/
def wAsM (K : PySem.W.Frag) (Wo : WX) (Dn : Ends) : List (Value × Nat × (Addr → Value → Option Addr → TS)) → WX
  | [] => Wo
  | c :: r => fun cls d σ H => ∃ b, PySem.W.exmOne K cls c.1 = some b ∧ (b = true → ∀ a, H a = none → c.2.2 a cls d { nx := fun τ G => Dn.nx (τ.set c.2.1 none) G, rt := Dn.rt, bk := fun τ G => Dn.bk (τ.set c.2.1 none) G, ct := fun τ G => Dn.ct (τ.set c.2.1 none) G } (σ.set c.2.1 (some (.ref a))) H) ∧
    (b = false → wAsM K Wo Dn r cls d σ H)
inductive AsOk (X : Cx) : List ExceptHandler → List (Value × Nat × (Addr → Value → Option Addr → TS)) → Prop
  | nil : AsOk X [] []
  | cons {x n : Str} {c : Value} {i : Nat} {ts : Addr → Value → Option Addr → TS} {b₀ : Stmt} {suite : List Stmt} {p1 p2 : Pos} {hds : List ExceptHandler} {l : List (Value × Nat × (Addr → Value → Option Addr → TS))} (hc : Names X x c) (hi : X.N[i]? = some n) (hl : X.env.kindOf n = some .local)
      (hsu : ∀ (a : Addr) (oe : Obj) (cls : Value) (d : Option Addr) (pn : List (Addr × Obj)), Zc cls d oe → (∃ vs, oe.data = .fields vs) → PSs (X.suite a ((a, oe) :: pn)) (b₀ :: suite) (ts a cls d)) (r : AsOk X hds l) :
      AsOk X (.ExceptHandler (some (.Name x p1)) (some n) (b₀ :: suite) p2 :: hds) ((c, i, ts) :: l)
section
variable {X : Cx} {body : List Stmt} {h₀ : ExceptHandler} {hds : List ExceptHandler} {l : List (Value × Nat × (Addr → Value → Option Addr → TS))} {pos : Pos} {tb : WX → TS} {Wo : WX}
theorem ps_try_asM (hst : X.stack = X.env :: X.outer) (hfr : X.env.frame = some X.env.locals) (nd : X.N.Nodup) (tk : Takes X Wo)
    (hb : ∀ (W : WX) (pn : List (Addr × Obj)) (xe : Value → Shared → Prop), Takes (X.tr pn xe) W → PassesOwn (model X.prog X.w) X.A X.env xe → PSs (X.tr pn xe) body (tb W))
    (hh : AsOk X (h₀ :: hds) l) : PS X (.Try body (h₀ :: hds) [] [] pos) (fun Dn σ H => tb (wAsM X.K Wo Dn l) Dn σ H) := by
  refine ⟨fun pins s σ H Dn I hw => ?_⟩
  have okX := I.ok
  have frX : X.A.frames = some (X.env :: X.outer) := by rw [okX.frames, hst]
  refine wpAny_Try_except (wpAny_mono ((hb (wAsM X.K Wo Dn l) (X.pn ++ pins) (fun e s₁ => wpAny (model X.prog X.w) X.A (noteFrame e X.env) (fun _ s₂ => wpAny (model X.prog X.w) X.A (setFlight e none) (fun _ s₃ => wpAny (model X.prog X.w) X.A (handleBy e X.env (h₀ :: hds)) (SP X pins Dn) X.xe s₃) X.xe s₂) X.xe s₁)
    (fun u s' xx => ?_) PassesOwn.looking).run [] s σ H Dn (I.toTry _) hw) (fun f s1 hsp => ?_) (fun e s1 he => he))
  · obtain ⟨a, B, sI, pins2, σ2, H2, cls, d, rfl, J0, nb, up, sky, na, os, ag, w⟩ := xx
    have J : Inv X pins σ2 H2 sI := J0.ofTry okX
    show wpAny (model X.prog X.w) X.A (noteFrame (.ref a) X.env) _ _ _
    refine Sky.land Zc.steady frX hfr (hst ▸ sky) fun h3 fl3 up3 => ?_
    have J3 : Inv X pins σ2 H2 { s' with heap := h3 } := J.landed nb fl3.1 (up.trans up3) os ag
    obtain ⟨oe3, vs3, he3, hz3, hd3⟩ := fl3.there
    have notIn : ∀ {h : Heap} {o : Obj} {vs : Array Value}, h.FunFrames B (X.env :: X.outer) → h.get? a = some o → o.data = .fields vs → a ∉ frs (X.env :: X.outer) := fun {h o vs} ff e dd hm => by
      obtain ⟨_, o2, e2, hnf⟩ := ff.mem hm
      rw [e] at e2; cases e2; exact hnf _ dd
    have apart := notIn fl3.2.2.1 he3 hd3
    have nL : a ≠ X.env.locals := fun z => apart (List.mem_filterMap.mpr ⟨X.env, List.mem_cons_self, by rw [hfr, z]⟩)
    have nF : a ∉ X.fs := fun hm => let ⟨e, he, q⟩ := List.mem_filterMap.mp hm; apart (List.mem_filterMap.mpr ⟨e, List.mem_cons_of_mem _ he, q⟩)
    have S3 := J3.suite he3 hd3 na nL nF
    have LT : PySem.W.Looks (model X.prog X.w) h3 (typeOf (.ref a)) cls := fun A Q E s k q => wpAny_typeOf_ref (k _ _ he3) (by rw [hz3.1]; exact q)
    have go : ∀ {hs : List ExceptHandler} {ls : List (Value × Nat × (Addr → Value → Option Addr → TS))}, AsOk X hs ls → wAsM X.K Wo Dn ls cls d σ2 H2 → wpAny (model X.prog X.w) X.A (handleBy (.ref a) X.env hs) (SP X pins Dn) X.xe { s' with heap := h3 } := by
      intro hs ls hk
      induction hk with
      | nil =>
        intro w
        refine wpAny_handleBy_nil ?_
        obtain ⟨k1, k2, k3, oe, vs, T, oT, ts2, he, hz, hd, h1, hr⟩ := id fl3
        unfold PySem.passOn
        refine wpAny_bind (wpAny_field he hd h1 ?_)
        rw [if_neg (show ¬ ((Value.ref T == Value.none) = true) from by simp)]
        have out : wpAny (model X.prog X.w) X.A (setFlight (.ref a) X.env.frame) (fun _ s4 => wpAny (model X.prog X.w) X.A (throw (.ref a) : Sem Flow) (SP X pins Dn) X.xe s4) X.xe { s' with heap := h3 } := by
          rw [hfr]; refine HandSPX.setFlight_upZ fl3 fun h4 hh4 up4 => wpAny_throw (tk _ _ ⟨a, B, sI, pins, σ2, H2, cls, d, rfl, J, nb, (up.trans up3).trans up4, .inr (.inr (by rw [hst]; exact hh4)), na, os, ag, w⟩)
        first | exact wpAny_bind (wpAny_pure (wpAny_bind out)) | exact wpAny_bind out
      | @cons x n c i ts b₀ suite p1 p2 hds2 l2 hc hi hl hsu r ih =>
        intro w
        obtain ⟨b, hb1, hyes, hno⟩ := w
        refine wpAny_handleBy_cons (codeAny_handlers_test ?_) (fun q => by cases q)
        have named : ∀ {Q : Value → Shared → Prop} {E : Value → Shared → Prop}, Q c { s' with heap := h3 } → wpAny (model X.prog X.w) (X.A.mark (some (.ref a))) (eval (.Name x p1) X.env) Q E { s' with heap := h3 } := fun {Q E} q => by
          rcases hc with ⟨hg, hdbg, hm | ⟨hm, hv, hnn⟩⟩
          · exact ld_glob (X := X.suite a ((a, oe3) :: (X.pn ++ pins))) S3 hg hm q hdbg
          · exact ld_blt (X := X.suite a ((a, oe3) :: (X.pn ++ pins))) S3 hg hm hv q hnn hdbg
        refine named ((PySem.W.exm_one (M := model X.prog X.w) J3.kIn LT hb1).here ?_)
        cases b with
        | true =>
          refine codeAny_handlers_suite_as (HandSPX.lands_againZ fl3 fun h4 fl4 up4 => ?_)
          have J4 : Inv X pins σ2 H2 { s' with heap := h4 } := J.landed nb fl4.1 ((up.trans up3).trans up4) os ag
          obtain ⟨oe4, vs4, he4, hz4, hd4⟩ := fl4.there
          refine store_ok (X := X.suite a ((a, oe4) :: (X.pn ++ pins))) (v := .ref a) (J4.suite he4 hd4 na nL nF) nd hi (.inl hl) rfl (fun s5 S5 => ?_) (.inr hl)
          refine wpAny_mono ((hsu a oe4 cls d (X.pn ++ pins) hz4 ⟨_, hd4⟩).run [] s5 _ H2 _ S5 (hyes rfl a na)) (fun f s6 q6 => ?_) (fun _ _ z => False.elim z)
          have fin : ∀ {σ6 : L2.St} {H6 : Hp} {Q : Shared → Prop}, Inv (X.suite a ((a, oe4) :: (X.pn ++ pins))) [] σ6 H6 s6 → (∀ s7, Inv X pins (σ6.set i none) H6 s7 → Q s7) → wpAny (model X.prog X.w) X.A (do bindName X.env n .none; unbindBehindTheSuite X.env n p2) (fun _ s7 => Q s7) X.xe s6 := fun {σ6 H6 Q} S6 hq => gone_ok (S6.unsuite okX) nd hi hl hq
          cases f with
          | next => obtain ⟨σ6, H6, S6, q6⟩ := q6; exact fin S6 fun s7 J7 => ⟨_, _, J7, q6⟩
          | brk => obtain ⟨σ6, H6, S6, q6⟩ := q6; exact fin S6 fun s7 J7 => ⟨_, _, J7, q6⟩
          | cont => obtain ⟨σ6, H6, S6, q6⟩ := q6; exact fin S6 fun s7 J7 => ⟨_, _, J7, q6⟩
          | ret u => obtain ⟨v6, σ6, H6, S6, r6, q6⟩ := q6; exact fin S6 fun s7 J7 => ⟨_, _, _, J7, r6, q6⟩
        | false =>
          show wpAny _ X.A (handleBy (.ref a) X.env hds2) _ _ _
          exact ih (hno rfl)
    exact go hh w
  · cases f with
    | next => obtain ⟨σ2, H2, J2, q⟩ := hsp; exact wpAny_execs_nil ⟨σ2, H2, J2.ofTry okX, q⟩
    | brk => obtain ⟨σ2, H2, J2, q⟩ := hsp; exact ⟨σ2, H2, J2.ofTry okX, q⟩
    | cont => obtain ⟨σ2, H2, J2, q⟩ := hsp; exact ⟨σ2, H2, J2.ofTry okX, q⟩
    | ret u => obtain ⟨v, σ2, H2, J2, r, q⟩ := hsp; exact ⟨v, σ2, H2, J2.ofTry okX, r, q⟩
/-- X() of an own class -/
theorem pmk_own0 {C : Addr} {bmB : List Value} {B newId initId : String} {x : Str} {p pos : Pos} (F : ExcBaseFacts B newId initId bmB) (q : PySem.W.excIn X.K C bmB newId = true) (gC : X.mg x = some (.ref C)) (kC : PySem.W.keepIn X.K (.ref C) = true) (r : Raises X (.ref C)) (hg : Gl X x) (hdb : (x == ("__debug__" : Str)) = false := by decide) :
    PMk X (.Call (.Name x p) [] [] pos) (fun _ H Q => Q (.ref C) none H) := by
  intro pins s σ H Q I hw
  refine wpAny_Call_Name_kw (ld_glob I hg gC (PySem.W.callWith_K0 I.kIn kC ?_) hdb)
  show wpAny _ _ (call (.ref C) []) _ _ _
  obtain ⟨bm, N, nm, qn, bs, hdct, sn, sub, ab, col, dd, k0, k1, k2, k3, k5, mN, hC, hN, hni, T⟩ := exc_obj I.kIn q
  exact wpAny_call_exc_subT F T hC hN hni (fun h' e hm => mk_of I hm r hw (I.hok.gone hm.new)) (Nat.zero_le _)
end
/-! ### the text's exceptions -/
/-- x is an own exception over ValueError, without a method of its own -/
structure ExcX (K : PySem.W.Frag) (mg : Str → Option Value) (x : Str) : Prop where
  ex : ∃ C, mg x = some (.ref C) ∧ PySem.W.excIn K C He.veBase "ValueError.__new__" = true ∧ PySem.W.keepIn K (.ref C) = true ∧ PySem.W.subIn K (.ref C) (.type "BaseException") = some true ∧ PySem.W.typeIn K (.ref C) = some (.type "type") ∧ ExcC K C ∧ PySem.W.kitOne K (.ref C) (.type "ValueError") = some true
def ExmX (K : PySem.W.Frag) (mg : Str → Option Value) (x y : Str) (b : Bool) : Prop := ∃ C D, mg x = some (.ref C) ∧ mg y = some (.ref D) ∧ PySem.W.exmOne K (.ref C) (.ref D) = some b
def xcB (K : PySem.W.Frag) (x : Str) : Bool :=
  decide (PySem.W.findIn K (.ref (He.ga K x)) "__getattribute__" = some (some (.builtin "BaseException.__getattribute__"))) && (decide (PySem.W.findIn K (.ref (He.ga K x)) "__getattr__" = some none) && (PySem.W.hasDictIn K (He.ga K x) &&
  (decide (PySem.W.findIn K (.ref (He.ga K x)) "__class__" = some (some (.builtin "object.__class__"))) && (decide (PySem.W.specialIn K (.builtin "object.__class__") "__get__" = some (some (.builtin "getset_descriptor.__get__"))) &&
  (decide (PySem.W.takesIn K (.builtin "object.__class__") = some true) && (decide (PySem.W.mroIn K (He.ga K x) (.type "object") = some true) && decide (PySem.W.kitOne K (.ref (He.ga K x)) (.type "ValueError") = some true)))))))
theorem xc_ok {K : PySem.W.Frag} {h : Heap} {mg : Str → Option Value} (X : K.In h) (G : h.Ns mainGlobals mg) {x : Str} (c1 : (He.Fa.glo x).ok K = true) (c2 : (He.Fa.exc x).ok K = true) (c3 : xcB K x = true) : ExcX K mg x := by
  obtain ⟨e1, e2, e3, e4⟩ := He.exc_ok c2
  simp only [xcB, Bool.and_eq_true, decide_eq_true_eq] at c3
  obtain ⟨f1, f2, f3, f4, f5, f6, f7, f8⟩ := c3
  exact ⟨He.ga K x, He.glo_ok X G c1, e1, e2, e3, e4, ⟨f1, f2, e3, f3, f4, f5, f6, f7⟩, f8⟩
theorem xm_ok {K : PySem.W.Frag} {h : Heap} {mg : Str → Option Value} (X : K.In h) (G : h.Ns mainGlobals mg) {x y : Str} {b : Bool} (c1 : (He.Fa.glo x).ok K = true) (c2 : (He.Fa.glo y).ok K = true) (c3 : (He.Fa.exm x y b).ok K = true) : ExmX K mg x y b :=
  ⟨_, _, He.glo_ok X G c1, He.glo_ok X G c2, He.exm_ok c3⟩
/-- the hook, with the exceptions -/
def hookX (n : Nat) (fa : List He.Fa) (fn : List He.DefD) (xs : List Str) : PySem.W.Hook where
  α := He.AlD × Bool
  obs := fun s => (He.obsDG n fa fn s.heap.get?, xs.all (xcB (He.frG s.heap.get? (He.asD s.heap.get? n))))
  val := fun _ => (He.valD fn, true)
  says := fun _ h => ∃ K : PySem.W.Frag, K.In h ∧ He.SaysD fa fn K ∧ xs.all (xcB K) = true
  of := fun _ _ e => ⟨_, He.frG_in, congrArg Prod.fst e, congrArg Prod.snd e⟩
  keeps := fun _ _ _ ⟨K, hK, c⟩ k => ⟨K, PySem.W.Frag.In.keeps hK k, c⟩
def obX (n : Nat) (fa : List He.Fa) (fn : List He.DefD) (xs : List Str) (g : Addr → Option Obj) : He.AlD × Bool := (He.obsDG n fa fn g, xs.all (xcB (He.frG g (He.asD g n))))
theorem obX_eq {n : Nat} {fa : List He.Fa} {fn : List He.DefD} {xs : List Str} {g : Addr → Option Obj} {s : Shared} (h : ∀ a, g a = s.heap.get? a) : obX n fa fn xs g = (hookX n fa fn xs).obs s := by
  have e : g = s.heap.get? := funext h
  rw [e]; rfl
end DL
namespace DL
open PySem PySem.Spec PyProof.Rows L2
/-! ### defs as values, calls of a local name -/
def tFn (mg : Str → Option Value) (x : Str) : TE := fun _ H Q => ∃ f, mg x = some (.ref f) ∧ Q (.ref f) H
theorem pe_fnv {X : Cx} {x : Str} {pos : Pos} (hg : Gl X x) (hd : (x == ("__debug__" : Str)) = false := by decide) : PE X (.Name x pos) (tFn X.mg x) :=
  ⟨fun pins s σ H Q I ⟨f, hf, q⟩ => (pe_glob (v := .ref f) hg hf rfl hd).run pins s σ H Q I q⟩
abbrev Tbl := List (Str × Nat × (List D → Sto → R D))
def Tbl.look (x : Str) : Tbl → Option (Nat × (List D → Sto → R D))
  | [] => none
  | e :: r => if decide (e.1 = x) then some e.2 else Tbl.look x r
theorem Tbl.look_mem {x : Str} {np : Nat} {g : List D → Sto → R D} : ∀ {t : Tbl}, Tbl.look x t = some (np, g) → (x, np, g) ∈ t
  | [], e => by simp [Tbl.look] at e
  | (y, np', g') :: r, e => by
    unfold Tbl.look at e
    split at e
    · rename_i h
      cases e
      have := of_decide_eq_true h
      subst this
      exact List.mem_cons_self
    · exact List.mem_cons_of_mem _ (Tbl.look_mem e)
def fCallV (i : Nat) (tbl : Tbl) (fa : Rho → Sto → R (List D)) : Rho → Sto → R D := fun ρ st => match ρ[i]? with
  | some (some (.fn x)) => match Tbl.look x tbl with
    | some g => (fa ρ st).bind fun ds st => if Nat.beq ds.length g.1 then g.2 ds st else .bad
    | none => .bad
  | _ => .bad
/-- the promise goes with the address -/
def HeldV (K : PySem.W.Frag) (mg : Str → Option Value) (tbl : Tbl) (f : Addr) (sp : Sp) : Prop := ∃ e ∈ tbl, mg e.1 = some (.ref f) ∧ sp = spF K mg e.2.1 e.2.2
def tCallV (S : Addr → Sp → Prop) (i : Nat) (E : L2.St → XK) (t : TA) : TE := fun σ H Q => ∃ f sp, σ[i]? = some (some (.ref f)) ∧ S f sp ∧ t σ H fun vs H1 => sp vs H1 Q (E σ)
theorem pe_callV {X : Cx} {k i : Nat} {x : Str} {p pos : Pos} {e : Expr} {es : List Expr} {t : TA} {S : Addr → Sp → Prop} {E : L2.St → XK}
    (hS : ∀ f sp, S f sp → ∃ (fd : FuncData) (ps : List Str), FnOk X.prog X.w X.K X.mg X.base (L2.CX X.prog X.w) k f fd ps sp ∧ PySem.W.keepIn X.K (.ref f) = true ∧ Binds X.K fd ps []) (hr : Room k X.A) (hN : X.N[i]? = some x) (hv : Vis X.env.scope x)
    (hx : ∀ σ, PassesAt (L2.CX X.prog X.w) X σ (E σ)) (ha : PA X (e :: es) t) (hdb : (x == ("__debug__" : Str)) = false := by decide) (hcd : (x == ("__classdict__" : Str)) = false := by decide)
    (he : starEach (e :: es) X.env = (false, eval e X.env) :: starEach es X.env := by rfl) (hpl : (backTo pos (starEach es X.env)).any (·.1) = false := by rfl) : PE X (.Call (.Name x p) (e :: es) [] pos) (tCallV S i E t) := by
  refine ⟨fun pins s σ H Q I ⟨f, sp, hs, h1, ht⟩ => ?_⟩
  obtain ⟨fd, ps, F, hk, hb⟩ := hS f sp h1
  refine wpAny_Call_Name_kw (thn ((pe_var (pos := p) hN hv hdb hcd).run pins s σ H (fun v G => v = .ref f ∧ G = H) I ⟨.ref f, hs, rfl, rfl⟩) fun u s1 ⟨v, G, I1, r1, e1, e2⟩ => ?_)
  subst e1 e2
  cases r1
  exact PySem.W.callWith_K (h₀ := X.base) I.ok.mod.kin hk (thn (ha.run pos pins s1 σ _ _ I1 ht) fun us s2 ⟨vs, G2, I2, r, q⟩ => ⟨I2.kIn, run_fnS F hr hb (hx σ) I2 r q⟩) he hpl
section
variable {K : PySem.W.Frag} {mg : Str → Option Value} {W : WX}
theorem re_fnv {x : Str} (h : ∃ f, mg x = some (.ref f)) : RE K mg W (tFn mg x) (fC (.fn x)) := by
  intro αs T σ ρ H st Q R E q
  obtain ⟨f, hf⟩ := h
  exact ⟨f, hf, PostG.okD q R (by simp only [Rep]; exact ⟨f, rfl, hf⟩)⟩
theorem re_callV {i : Nat} {tbl : Tbl} {t : TA} {fa : Rho → Sto → R (List D)} (h : RA K mg W t fa) : RE K mg W (tCallV (HeldV K mg tbl) i (WE W) t) (fCallV i tbl fa) := by
  intro αs T σ ρ H st Q R E q
  unfold fCallV at q
  split at q
  · rename_i x hx
    split at q
    · rename_i g hg
      obtain ⟨np, g⟩ := g
      obtain ⟨v, h1, h2⟩ := E.2 i _ hx
      simp only [Rep] at h2
      obtain ⟨f, rfl, hf⟩ := h2
      refine ⟨f, _, h1, ⟨(x, np, g), Tbl.look_mem hg, hf, rfl⟩, ?_⟩
      exact re_call (np := np) (g := g) h αs T σ ρ H st Q R E q
    · exact q.elim
  · exact q.elim
end
/-! ### raise -/
def tRaise (mg : Str → Option Value) (W : WX) (x : Str) : TS := fun _ σ H => ∃ C, mg x = some (.ref C) ∧ W (.ref C) none σ H
def fRaise (x : Str) : Rho → Sto → R Fl := fun _ st => .exc x .non st
theorem rs_raise {K : PySem.W.Frag} {mg : Str → Option Value} {W : WX} {x : Str} (h : ∃ C, mg x = some (.ref C)) (hx : x ≠ "BadText") : RS K mg W (tRaise mg W x) (fRaise x) := by
  intro αs T σ ρ H st Dn R E q
  obtain ⟨C, hC⟩ := h
  exact ⟨C, hC, q σ (.ref C) none αs H ⟨C, hC, rfl, fun _ => rfl, fun z => absurd z hx⟩ R .refl⟩
/-! ### what a call slips on -/
def clsOf (mg : Str → Option Value) (x : Str) : Addr := match mg x with
  | some (.ref C) => C
  | _ => 0
abbrev Hd := Str × Nat × Str × Str
/-- return a if isinstance(n, ValueError) else b -/
def tIsVE (K : PySem.W.Frag) (i : Nat) (A B : Str) (a : Addr) (cls : Value) (d : Option Addr) : TS := fun Dn σ H => d = none ∧ ∃ C, cls = .ref C ∧ ExcC K C ∧
  tRet (tIf (fun σ H Q => tCB (rIsE K C a) (tCons (tVar i) (tCons (tC (.ty "ValueError")) tNil)) σ H fun x H' => ∃ k, TruV K x H' k ∧ Q k H') (tC (.str A)) (tC (.str B))) Dn σ H
def hdV (K : PySem.W.Frag) (mg : Str → Option Value) (h : Hd) : Value × Nat × (Addr → Value → Option Addr → TS) := (.ref (clsOf mg h.1), h.2.1, tIsVE K h.2.1 h.2.2.1 h.2.2.2)
def slipTo : List Hd → Str → D → Rho → Sto → R Fl
  | [], c, p, _, st => .exc c p st
  | h :: r, c, p, ρ, st => if decide (c = h.1) then (if Nat.blt h.2.1 ρ.length then .ok (.rt (.str h.2.2.1)) st else .bad) else slipTo r c p ρ st
def knows (known : List Str) (c : Str) : Bool := known.any fun x => decide (x = c)
def fSlip (fe : Rho → Sto → R D) (known : List Str) (hds : List Hd) : Rho → Sto → R Fl := fun ρ st => match fe ρ st with
  | .ok _ st => .ok (.nx ρ) st
  | .exc c p st => if knows known c then slipTo hds c p ρ st else .bad
  | .bad => .bad
def tSlip (K : PySem.W.Frag) (mg : Str → Option Value) (W : WX) (te : WX → TE) (hds : List Hd) : TS := fun Dn σ H => tDrop (te (wAsM K W Dn (hds.map (hdV K mg)))) Dn σ H
theorem rs_slip {K : PySem.W.Frag} {mg : Str → Option Value} {W : WX} {te : WX → TE} {fe : Rho → Sto → R D} {known : List Str} {hds : List Hd} (he : ∀ W, RE K mg W (te W) fe) (hx : ∀ c ∈ known, ExcX K mg c ∧ c ≠ "BadText")
    (hm : ∀ c ∈ known, ∀ h ∈ hds, ExmX K mg c h.1 (decide (c = h.1))) : RS K mg W (tSlip K mg W te hds) (fSlip fe known hds) := by
  intro αs T σ ρ H st Dn R E q
  refine he _ αs T σ ρ H st _ R E ?_
  have q := q σ
  unfold fSlip at q
  cases e : fe ρ st with
  | bad => rw [e] at q; exact q
  | ok d st1 =>
    rw [e] at q
    intro αs1 H1 R1 F1 v rv
    exact q αs1 H1 R1 F1 σ (E.fr F1)
  | exc c p st1 =>
    rw [e] at q
    intro cls od αs1 H1 xr R1 F1
    have q : PostG K mg W αs T σ H (if knows known c then slipTo hds c p ρ st1 else .bad) (GS K mg T Dn) := q
    split at q
    · rename_i hk
      obtain ⟨x, hx1, hx2⟩ := List.any_eq_true.mp hk
      have := of_decide_eq_true hx2
      subst this
      obtain ⟨⟨C, gC, k1, k2, k3, k4, kC, kv⟩, nb⟩ := hx x hx1
      replace hm := hm x hx1
      obtain ⟨C', g1, rfl, od0, bt⟩ := id xr
      rw [gC] at g1
      cases g1
      have od0 := od0 nb
      subst od0
      suffices key : ∀ l : List Hd, (∀ h ∈ l, ExmX K mg x h.1 (decide (x = h.1))) → PostG K mg W αs T σ H (slipTo l x p ρ st1) (GS K mg T Dn) → wAsM K W Dn (l.map (hdV K mg)) (.ref C) none σ H1 from key hds hm q
      intro l
      induction l with
      | nil => exact fun _ q => q _ _ αs1 H1 xr R1 F1
      | cons h r ih =>
        intro hm q
        obtain ⟨A, B, g1, g2, g3⟩ := hm h List.mem_cons_self
        rw [gC] at g1
        cases g1
        have hcls : clsOf mg h.1 = B := by unfold clsOf; rw [g2]
        refine ⟨decide (x = h.1), by show PySem.W.exmOne K (.ref C) (.ref (clsOf mg h.1)) = _; rw [hcls]; exact g3, fun hb a ha => ?_, fun hb => ?_⟩
        · unfold slipTo at q
          rw [if_pos hb] at q
          split at q
          · rename_i hi
            have hi := Nat.blt_eq.mp hi
            rw [← E.1] at hi
            exact ⟨rfl, C, rfl, kC, ⟨.ref a, List.getElem?_set_self hi, .ty "ValueError", .type "ValueError", true, rfl, (fun u z => z), kv, true, rfl, q αs1 H1 R1 F1 (.str h.2.2.1) (rep_str.mpr rfl)⟩⟩
          · exact q.elim
        · unfold slipTo at q
          rw [if_neg (by rw [hb]; simp)] at q
          exact ih (fun h hh => hm h (List.mem_cons_of_mem _ hh)) q
    · exact q.elim
end DL
namespace DL
open PySem PySem.Spec PyProof.Rows L2
theorem bt_ValueError : bootBuiltins "ValueError" = some (.type "ValueError") := by decide +kernel
abbrev Cy.tr {K : PySem.W.Frag} {mg : Str → Option Value} (Y : Cy K mg) (pn : List (Addr × Obj)) (xe : Value → Shared → Prop) : Cy K mg := ⟨Y.1.tr pn xe, Y.2⟩
namespace Y
section
variable {P : Program} {w : World} {K : PySem.W.Frag} {mg : Str → Option Value} {base : Heap} {k : Nat} {x : Str} {ps : List Str} {m : List D → Sto → R D}
theorem Has.fn (h : Has P w K mg base k x ps m) : ∃ f, mg x = some (.ref f) := let ⟨f, _, _, gf, _⟩ := h.ex; ⟨f, gf⟩
/-- the defs that a local name may hold -/
inductive TblOk (P : Program) (w : World) (K : PySem.W.Frag) (mg : Str → Option Value) (base : Heap) (k : Nat) : Tbl → Prop
  | nil : TblOk P w K mg base k []
  | cons {x : Str} {np : Nat} {ps : List Str} {m : List D → Sto → R D} {t : Tbl} (h : Has P w K mg base k x ps m) (e : ps.length = np) (r : TblOk P w K mg base k t) : TblOk P w K mg base k ((x, np, m) :: t)
theorem TblOk.held {t : Tbl} (h : TblOk P w K mg base k t) : ∀ f sp, HeldV K mg t f sp → ∃ (fd : FuncData) (ps : List Str), FnOk P w K mg base (L2.CX P w) k f fd ps sp ∧ PySem.W.keepIn K (.ref f) = true ∧ Binds K fd ps [] := by
  induction h with
  | nil => exact fun f sp ⟨e, he, _⟩ => nomatch he
  | @cons x np ps m t h e r ih =>
    rintro f sp ⟨c, hc, g, rfl⟩
    rcases List.mem_cons.mp hc with z | z
    · subst z
      obtain ⟨f', fd, F, gf, kf, bf, _⟩ := h.ex
      rw [gf] at g
      cases g
      subst e
      exact ⟨fd, ps, F, kf, bf⟩
    · exact ih f _ ⟨c, z, g, rfl⟩
end
section
variable {K : PySem.W.Frag} {mg : Str → Option Value} {Y : Cy K mg} {W : WX} {e : Expr} {es : List Expr} {t : TA} {fa : Rho → Sto → R (List D)} {pos p p2 pos2 : Pos}
theorem de_fnv {x : Str} (h : ∃ f, mg x = some (.ref f)) (hg : Gl Y.1 x := by rfl) (hd : (x == ("__debug__" : Str)) = false := by decide) : DE Y W (.Name x pos) (tFn mg x) (fC (.fn x)) := by
  obtain ⟨X, rfl, rfl⟩ := Y
  exact ⟨pe_fnv hg hd, re_fnv h⟩
theorem de_callV {k : Nat} {tbl : Tbl} (i : Nat) {x : Str} (h : TblOk Y.1.prog Y.1.w K mg Y.1.base k tbl) (hr : Room k Y.1.A) (tk : Takes Y.1 W) (ha : DA Y W (e :: es) t fa) (hN : Y.1.N[i]? = some x := by rfl)
    (hv : Vis Y.1.env.scope x := by first | exact Or.inl rfl | exact Or.inr (Or.inl rfl) | exact Or.inr (Or.inr rfl)) (hdb : (x == ("__debug__" : Str)) = false := by decide) (hcd : (x == ("__classdict__" : Str)) = false := by decide)
    (he : starEach (e :: es) Y.1.env = (false, eval e Y.1.env) :: starEach es Y.1.env := by rfl) (hpl : (backTo pos (starEach es Y.1.env)).any (·.1) = false := by rfl) :
    DE Y W (.Call (.Name x p) (e :: es) [] pos) (tCallV (HeldV K mg tbl) i (WE W) t) (fCallV i tbl fa) := by
  obtain ⟨X, rfl, rfl⟩ := Y
  exact ⟨pe_callV h.held hr hN hv (fun σ => passAt tk σ) ha.p hdb hcd he hpl, re_callV ha.r⟩
theorem ds_raise {x : Str} (h : ExcX K mg x) (nb : x ≠ "BadText") (tk : Takes Y.1 W) (hc : Y.1.calm = true := by rfl) (hg : Gl Y.1 x := by rfl) (hdb : (x == ("__debug__" : Str)) = false := by decide) : DS Y W (.Raise (some (.Call (.Name x p) [] [] pos)) none pos2) (tRaise mg W x) (fRaise x) := by
  obtain ⟨X, rfl, rfl⟩ := Y
  obtain ⟨C, g, q, kC, b, ty, _⟩ := h.ex
  refine ⟨⟨fun pins s σ H Dn I ⟨C', g', hw⟩ => ?_⟩, rs_raise ⟨C, g⟩ nb⟩
  rw [g] at g'
  cases g'
  exact (ps_raise hc tk (pmk_own0 PySem.F.excBase_ValueError q g kC (raises_own b ty) hg hdb)).run pins s σ H Dn I hw
/-- the clauses -/
structure HdOk (Y : Cy K mg) (hds : List ExceptHandler) (l : List Hd) : Prop where
  p : AsOk Y.1 hds (l.map (hdV K mg))
theorem hd_nil : HdOk Y [] [] := ⟨.nil⟩
theorem hd_cons {x n : Str} {A B : Str} {hds : List ExceptHandler} {l : List Hd} {p1 p3 p4 p5 p6 p7 p8 p9 pA : Pos} {j1 j2 : Nat} (i : Nat) (h : ExcX K mg x) (hmi : mg "isinstance" = none) (hmv : mg "ValueError" = none) (r : HdOk Y hds l) (hg : Gl Y.1 x := by rfl) (hdb : (x == ("__debug__" : Str)) = false := by decide)
    (hi : Y.1.N[i]? = some n := by rfl) (hl : Y.1.env.kindOf n = some .local := by rfl) (hv : Vis Y.1.env.scope n := by first | exact Or.inl rfl | exact Or.inr (Or.inl rfl) | exact Or.inr (Or.inr rfl)) (hdn : (n == ("__debug__" : Str)) = false := by decide) (hcd : (n == ("__classdict__" : Str)) = false := by decide)
    (hgi : Gl Y.1 "isinstance" := by rfl) (hgv : Gl Y.1 "ValueError" := by rfl)
    (he : starEach [.Name n p3, .Name "ValueError" p4] Y.1.env = (false, eval (.Name n p3) Y.1.env) :: starEach [.Name "ValueError" p4] Y.1.env := by rfl)
    (he2 : starEach [.Name "ValueError" p4] Y.1.env = (false, eval (.Name "ValueError" p4) Y.1.env) :: starEach [] Y.1.env := by rfl) :
    HdOk Y (.ExceptHandler (some (.Name x p1)) (some n) [.Return (some (.IfExp (.Call (.Name "isinstance" p5) [.Name n p3, .Name "ValueError" p4] [] p6) (.Constant (.str A) j1 p7) (.Constant (.str B) j2 p8) p9)) pA] p2 :: hds) ((x, i, A, B) :: l) := by
  obtain ⟨X, rfl, rfl⟩ := Y
  obtain ⟨C, g, _⟩ := h.ex
  have hcls : clsOf X.mg x = C := by unfold clsOf; rw [g]
  refine ⟨.cons (c := .ref (clsOf X.mg x)) ⟨hg, hdb, .inl (by rw [hcls]; exact g)⟩ hi hl (fun a oe cls d pn hz hf => ⟨fun pins s σ H Dn I hw => ?_⟩) r.p⟩
  obtain ⟨rfl, C2, rfl, kC, hw⟩ := hw
  exact (pss_one (ps_ret (pe_ifExp (pt_truth (pe_callB (call_isE kC hz hf) hgi hmi bt_isinstance (pa_cons (pe_var hi hv hdn hcd) (pa_cons (pe_tyn hgv hmv bt_ValueError) pa_nil he2) he)) (fun _ => rfl)) pe_str pe_str))).run pins s σ H Dn I hw
theorem ds_slip {known : List Str} {h₀ : ExceptHandler} {hds : List ExceptHandler} {l : List Hd} {te : WX → TE} {fe : Rho → Sto → R D} {p1 : Pos} (tk : Takes Y.1 W) (nd : Y.1.N.Nodup)
    (hb : ∀ (W' : WX) (pn : List (Addr × Obj)) (xe : Value → Shared → Prop), Takes (Y.1.tr pn xe) W' → DE (Cy.tr Y pn xe) W' e (te W') fe) (hh : HdOk Y (h₀ :: hds) l)
    (hx : ∀ c ∈ known, ExcX K mg c ∧ c ≠ "BadText") (hm : ∀ c ∈ known, ∀ h ∈ l, ExmX K mg c h.1 (decide (c = h.1)))
    (hs : ∀ pn xe, swapsWith e none p1.line (Y.1.tr pn xe).env = pure false := by intro _ _; rfl) (hst : Y.1.stack = Y.1.env :: Y.1.outer := by rfl) (hfr : Y.1.env.frame = some Y.1.env.locals := by rfl) :
    DS Y W (.Try [.Expr e p1] (h₀ :: hds) [] [] pos) (tSlip K mg W te l) (fSlip fe known l) := by
  obtain ⟨X, rfl, rfl⟩ := Y
  exact ⟨ps_try_asM hst hfr nd tk (fun W' pn xe tk' _ => pss_one (ps_expr (hb W' pn xe tk').p (hs pn xe))) hh.p, rs_slip (fun W' => (hb W' [] (fun _ _ => True) fun _ _ _ => trivial).r) hx hm⟩
end
end Y
end DL
namespace DL
open PySem PySem.Spec PyProof.Rows L2
/-! ### dicts with lines of ints as keys -/
def eqK : List Int → List Int → Bool
  | [], [] => true
  | i :: r, j :: q => i == j && eqK r q
  | _, _ => false
theorem eqK_iff : ∀ {r q : List Int}, eqK r q = true ↔ r = q
  | [], [] => by simp [eqK]
  | [], _ :: _ => by simp [eqK]
  | _ :: _, [] => by simp [eqK]
  | i :: r, j :: q => by simp [eqK, eqK_iff (r := r) (q := q)]
def dget : List (List Int) → List D → List Int → Option D
  | k' :: ks, v :: vs, k => if eqK k' k then some v else dget ks vs k
  | _, _, _ => none
def hasK (ks : List (List Int)) (k : List Int) : Bool := ks.any fun x => eqK x k
def mapV : List (List Int) → List D → List Int → D → List D
  | k' :: ks, v :: vs, k, d => (if eqK k' k then d else v) :: mapV ks vs k d
  | _, vs, _, _ => vs
def dputK (ks : List (List Int)) (k : List Int) : List (List Int) := if hasK ks k then ks else ks ++ [k]
def dputV (ks : List (List Int)) (vs : List D) (k : List Int) (d : D) : List D := if hasK ks k then mapV ks vs k d else vs ++ [d]
theorem kyI_inj {k q : List Int} : kyI k = kyI q ↔ k = q := by
  constructor
  · intro h
    have := congrArg (List.filterMap (fun x : Key => match x with | .inl i => some i | .inr _ => none)) h
    simpa [kyI, List.filterMap_map, Function.comp_def] using this
  · rintro rfl; rfl
theorem dec_ky {k q : List Int} : decide (kyI k = kyI q) = eqK k q := by
  cases h : eqK k q with
  | true => exact decide_eq_true (kyI_inj.mpr (eqK_iff.mp h))
  | false => exact decide_eq_false fun z => by rw [eqK_iff.mpr (kyI_inj.mp z)] at h; cases h
section
variable {K : PySem.W.Frag} {mg : Str → Option Value} {αs T : List Addr} {H : Hp} {st : Sto} {W : WX}
theorem dget_ok : ∀ {ks : List (List Int)} {vs : List D} {xs : List V} {k : List Int}, Reps K mg αs T H vs xs → xs.length = ks.length →
    (∀ d, dget ks vs k = some d → ∃ v, valV ((ks.map kyI).zip xs) (kyI k) = some v ∧ Rep K mg αs T H d v) ∧ (dget ks vs k = none → valV ((ks.map kyI).zip xs) (kyI k) = none)
  | [], vs, xs, k, r, hl => by
    have e : xs = [] := List.eq_nil_of_length_eq_zero hl
    subst e
    exact ⟨fun d h => by cases vs <;> simp [dget] at h, fun _ => rfl⟩
  | k' :: ks, [], xs, k, r, hl => by rw [r.isNil] at hl; simp at hl
  | k' :: ks, d' :: vs, xs, k, r, hl => by
    simp only [Reps] at r
    obtain ⟨v, ys, rfl, h1, h2⟩ := r
    obtain ⟨g1, g2⟩ := dget_ok (k := k) h2 (by simpa using hl)
    rw [List.map_cons, List.zip_cons_cons]
    unfold dget
    by_cases e : eqK k' k = true
    · rw [if_pos e, valV_pos (kyI_inj.mpr (eqK_iff.mp e))]
      exact ⟨fun d h => by cases h; exact ⟨v, rfl, h1⟩, fun h => by cases h⟩
    · rw [if_neg e, valV_neg (fun z => e (eqK_iff.mpr (kyI_inj.mp z)))]
      exact ⟨g1, g2⟩
theorem any_ky {k : List Int} : ∀ {ks : List (List Int)} {xs : List V}, xs.length = ks.length → (((ks.map kyI).zip xs).any fun kv => decide (kv.1 = kyI k)) = hasK ks k
  | [], _, _ => rfl
  | k' :: ks, [], h => by simp at h
  | k' :: ks, x :: xs, h => by
    rw [List.map_cons, List.zip_cons_cons, List.any_cons, any_ky (by simpa using h), dec_ky]
    rfl
theorem map_ky {k : List Int} {v : V} {d : D} (hv : Rep K mg αs T H d v) : ∀ {ks : List (List Int)} {vs : List D} {xs : List V}, Reps K mg αs T H vs xs → xs.length = ks.length →
    ∃ ys, ((ks.map kyI).zip xs).map (fun kv => if kv.1 = kyI k then (kv.1, v) else kv) = (ks.map kyI).zip ys ∧ ys.length = ks.length ∧ Reps K mg αs T H (mapV ks vs k d) ys
  | [], vs, xs, r, h => by
    have e : xs = [] := List.eq_nil_of_length_eq_zero h
    subst e
    refine ⟨[], rfl, rfl, ?_⟩
    cases vs with
    | nil => exact .nil
    | cons a b => have := r.len; simp at this
  | k' :: ks, [], xs, r, h => by rw [r.isNil] at h; simp at h
  | k' :: ks, d' :: vs, xs, r, h => by
    simp only [Reps] at r
    obtain ⟨w, zs, rfl, h1, h2⟩ := r
    obtain ⟨ys, e1, e2, e3⟩ := map_ky (ks := ks) hv h2 (by simpa using h)
    rw [List.map_cons, List.zip_cons_cons, List.map_cons, e1]
    unfold mapV
    by_cases e : eqK k' k = true
    · rw [if_pos (kyI_inj.mpr (eqK_iff.mp e)), if_pos e]
      exact ⟨v :: ys, rfl, by simp [e2], .cons hv e3⟩
    · rw [if_neg (fun z => e (eqK_iff.mpr (kyI_inj.mp z))), if_neg e]
      exact ⟨w :: ys, rfl, by simp [e2], .cons h1 e3⟩
theorem put_ky {k : List Int} {v : V} {d : D} (hv : Rep K mg αs T H d v) {ks : List (List Int)} {vs : List D} {xs : List V} (r : Reps K mg αs T H vs xs) (hl : xs.length = ks.length) :
    ∃ ys, putK ((ks.map kyI).zip xs) (kyI k) v = ((dputK ks k).map kyI).zip ys ∧ ys.length = (dputK ks k).length ∧ Reps K mg αs T H (dputV ks vs k d) ys := by
  unfold putK dputK dputV
  rw [any_ky hl]
  by_cases e : hasK ks k = true
  · rw [if_pos e, if_pos e, if_pos e]
    exact map_ky hv r hl
  · rw [if_neg e, if_neg e, if_neg e]
    refine ⟨xs ++ [v], ?_, by simp [hl], r.app (.one hv)⟩
    rw [List.map_append, List.zip_append (by simp [hl])]
    rfl
/-- a dict's keys and values -/
def dicOf (st : Sto) : D → Option (List (List Int) × List D)
  | .dhn n => match st[n]? with
    | some (.dk ks :: vs) => some (ks, vs)
    | _ => none
  | .dic ks vs => some (ks, vs)
  | _ => none
theorem dicOf_ok (R : Rel K mg αs T H st) {d : D} {v : V} {ks : List (List Int)} {vs : List D} (h : Rep K mg αs T H d v) (e : dicOf st d = some (ks, vs)) : ∃ a xs, v = .ref a ∧ DctAt H a ks xs ∧ Reps K mg αs T H vs xs := by
  cases d <;> simp only [dicOf] at e <;> try (cases e; done)
  · obtain ⟨a, rfl, h1, h2⟩ := rep_dhn.mp h
    split at e
    · rename_i q
      cases e
      obtain ⟨ks', vs', xs, e1, h3, h4⟩ := (R.cell _ _ _ h1 q).dic h2
      cases e1
      exact ⟨a, xs, rfl, h3, h4⟩
    · cases e
  · cases e
    obtain ⟨a, xs, rfl, h1, _, _, h4⟩ := rep_dic.mp h
    exact ⟨a, xs, rfl, h1, h4⟩
/-- a line of ints stands in the heap -/
theorem key_ok {d : D} {v : V} {k : List Int} (h : Rep K mg αs T H d v) (e : tupInts d = some k) : ∃ b, v = .ref b ∧ H b = some (.tup ((kyI k).map kV)) := by
  cases d <;> simp only [tupInts] at e <;> try (cases e; done)
  obtain ⟨a, xs, rfl, ha, hs⟩ := rep_tup.mp h
  obtain ⟨e1, _⟩ := intsT_ok hs e
  rcases ha with ⟨ha, _⟩ | ha
  · refine ⟨a, rfl, ?_⟩
    rw [ha, e1]
    simp [kyI, kV, Function.comp_def]
  · exact ha.1.elim
theorem dGet_ok (R : Rel K mg αs T H st) {a b : D} {x y : V} {ks : List (List Int)} {vs : List D} {k : List Int} (ha : Rep K mg αs T H a x) (hb : Rep K mg αs T H b y) (e : dicOf st a = some (ks, vs)) (ek : tupInts b = some k) :
    ∃ p o, x = .ref p ∧ DGet H p y o ∧ (∀ d, dget ks vs k = some d → ∃ v, o = some v ∧ Rep K mg αs T H d v) ∧ (dget ks vs k = none → o = none) := by
  obtain ⟨p, xs, rfl, h1, h2⟩ := dicOf_ok R ha e
  obtain ⟨q, rfl, hq⟩ := key_ok hb ek
  obtain ⟨g1, g2⟩ := dget_ok (k := k) h2 h1.2
  exact ⟨p, _, rfl, DGet.t h1.1 hq, g1, g2⟩
end
/-! reading -/
def rDG : R2 := fun x y H Q => ∃ a v, x = .ref a ∧ DGet H a y (some v) ∧ Q v H
def rDI (neg : Bool) : R2 := fun y x H Q => ∃ a o, x = .ref a ∧ DGet H a y o ∧ Q (.bl (if neg then !o.isSome else o.isSome)) H
section
variable {X : Cx}
theorem ix_dic (hu : X.A.units + 64 < cLine) : IxR X rDG := by
  intro value slice pins s σ H x y v u Q I rx ry ⟨a, z, ex, g, q⟩ hs
  subst ex
  cases (show v = Value.ref a from rx)
  have hT := dict_typeIs I g
  have run : wpAny (model X.prog X.w) X.A (subscripted slice false (.ref a) u) (fun r s₃ => wpAny (model X.prog X.w) X.A (letTemporaryGo value (.ref a) r >>= fun _ => pure r) (EP X pins σ Q) X.xe s₃) X.xe s := by
    rw [hs]; exact wpAny_operating (wpAny_mono (d_getItem (by omega) I g ry fun w' s' I' rw' => (⟨z, H, I', rw', q⟩ : EP X pins σ Q w' s')) (fun r s₃ h₃ => wpAny_bind (wpAny_letTemporaryGo (wpAny_pure h₃))) fun _ _ x => x)
  unfold subscriptTail; refine wpAny_bind ?_; rw [getitemInPython_of_ne hT.not_modules]; refine wpAny_bind (wpAny_specialOf hT PySem.F.slot_dict_getitem.lookup ?_)
  first | exact wpAny_pure (wpAny_bind run) | exact wpAny_bind (wpAny_pure (wpAny_bind run)) | exact wpAny_bind run
theorem op_dIn (hu : X.A.units + 64 < cLine) : OpR X (compareOp .In) (rDI false) := by
  intro pins s σ H y x v u Q I ry rx ⟨a, o, ex, g, q⟩
  subst ex
  cases (show u = Value.ref a from rx)
  exact d_in (by omega) I g ry fun s' I' => ⟨.bl _, H, I', rfl, q⟩
theorem op_dNotIn (hu : X.A.units + 64 < cLine) : OpR X (compareOp .NotIn) (rDI true) := by
  intro pins s σ H y x v u Q I ry rx ⟨a, o, ex, g, q⟩
  subst ex
  cases (show u = Value.ref a from rx)
  exact d_notIn (by omega) I g ry fun s' I' => ⟨.bl _, H, I', rfl, q⟩
theorem OpR.or {f : Value → Value → Sem Value} {r r' : R2} (h : OpR X f r) (h' : OpR X f r') : OpR X f (fun x y H Q => r x y H Q ∨ r' x y H Q) := by
  intro pins s σ H x y v u Q I rx ry q
  rcases q with q | q
  · exact h pins s σ H x y v u Q I rx ry q
  · exact h' pins s σ H x y v u Q I rx ry q
end
/-- a[i], a a sequence or a dict -/
def gIxX (st : Sto) (a i : D) : Option D := match dicOf st a with
  | some (ks, vs) => match tupInts i with
    | some k => dget ks vs k
    | none => none
  | none => gIx st a i
def gInX (neg : Bool) (st : Sto) (a b : D) : Option D := match dicOf st b with
  | some (ks, vs) => match tupInts a with
    | some k => some (.bl (if neg then !(dget ks vs k).isSome else (dget ks vs k).isSome))
    | none => none
  | none => gInP neg st a b
section
variable {K : PySem.W.Frag} {mg : Str → Option Value} {W : WX}
theorem rv_ixX : RV2 K mg (fun x y H Q => rIx K x y H Q ∨ rDG x y H Q) gIxX := by
  intro αs T H st a b x y Q d R ra rb e q
  unfold gIxX at e
  split at e
  · rename_i ks vs hd
    split at e
    · rename_i k hk
      obtain ⟨p, o, rfl, g, g1, _⟩ := dGet_ok R ra rb hd hk
      obtain ⟨v, rfl, rv⟩ := g1 d e
      exact .inr ⟨p, v, rfl, g, q v H R .refl rv⟩
    · cases e
  · exact .inl (rv_ix αs T H st a b x y Q d R ra rb e q)
theorem rv_inX {neg : Bool} : RV2 K mg (fun x y H Q => rInD K neg x y H Q ∨ rDI neg x y H Q) (gInX neg) := by
  intro αs T H st a b x y Q d R ra rb e q
  unfold gInX at e
  split at e
  · rename_i ks vs hd
    split at e
    · rename_i k hk
      cases e
      obtain ⟨p, o, rfl, g, g1, g2⟩ := dGet_ok R rb ra hd hk
      refine .inr ⟨p, o, rfl, g, ?_⟩
      have e : o.isSome = (dget ks vs k).isSome := by
        cases h : dget ks vs k with
        | none => rw [g2 h]; rfl
        | some z => obtain ⟨v, rfl, _⟩ := g1 z h; rfl
      rw [e]
      exact q _ H R .refl (rep_bl.mpr rfl)
    · cases e
  · exact .inl (rv_in αs T H st a b x y Q d R ra rb e q)
/-! a new dict -/
def fDicN : Rho → Sto → R D := fun _ st => .ok (.dhn st.length) (st ++ [[.dk []]])
theorem re_dicN : RE K mg W tDNewT fDicN := by
  intro αs T σ ρ H st Q R E q p hp
  have f : Fr αs H αs (upd H p (.dT [])) := Fr.new hp
  have hn := R.fresh hp
  have hT : ∀ t ∈ (p :: T), t ∈ T ∨ H t = none := fun t ht => by
    rcases List.mem_cons.mp ht with e | e
    · exact .inr (by rw [e]; exact hp)
    · exact .inl e
  have R1 : Rel K mg αs (p :: T) (upd H p (.dT [])) st := ⟨R.nd, R.len, fun n a es h1 h2 => (R.cell n a es h1 h2).imp (fun o e => by rw [upd_ne (ne_of_none e hp)]; exact e) fun ds vs r => r.mv f hT, fun t ht => by
    rcases List.mem_cons.mp ht with e | e
    · rw [e]; exact ⟨hn, by rw [upd_same]; simp⟩
    · exact ⟨(R.tmp t e).1, by
        obtain ⟨o, ho⟩ := Option.ne_none_iff_exists'.mp (R.tmp t e).2
        rw [upd_ne (ne_of_none ho hp)]; exact (R.tmp t e).2⟩⟩
  have R2 := R1.pushC (ds := [.dk []]) (.inr ⟨[], upd_same⟩) hn (R.freshT hp) (.inr (.inl ⟨[], [], [], rfl, ⟨upd_same, rfl⟩, .nil⟩))
  have F2 : Fr αs H (αs ++ [p]) (upd H p (.dT [])) := ⟨⟨[p], rfl, fun b hb => by
    have e : b = p := by simpa using hb
    rw [e]; exact ⟨hn, hp⟩⟩, f.keep, f.kdL, f.kdD, f.fz⟩
  exact q (αs ++ [p]) _ R2 F2 _ (rep_dhn.mpr ⟨p, rfl, by rw [← R.len, List.getElem?_append_right (Nat.le_refl _), Nat.sub_self]; rfl, ⟨[], upd_same⟩⟩)
/-! storing -/
def fSetX (fe fo fi : Rho → Sto → R D) : Rho → Sto → R Fl := fun ρ st => (fe ρ st).bind fun d st => (fo ρ st).bind fun o st => (fi ρ st).bind fun i st => match o with
  | .hnd n => match i with
    | .int k => DL.Y.setTo n k d ρ st
    | _ => .bad
  | .dhn n => match tupInts i with
    | some k => match st[n]? with
      | some (.dk ks :: vs) => if lineOk (ks.length + 1) then .ok (.nx ρ) (st.set n (.dk (dputK ks k) :: dputV ks vs k d)) else .bad
      | _ => .bad
    | none => .bad
  | _ => .bad
def rSetX : TSet := fun o i v H Q => rSetL o i v H Q ∨ rSetD o i v H Q
theorem set_X {X : Cx} (hu : X.A.units + 64 < cLine) : PSet X rSetX := by
  intro pins s σ H o i v ov iv u Q I ro ri rv h
  rcases h with h | h
  · exact set_list pins s σ H o i v ov iv u Q I ro ri rv h
  · exact set_dict (by omega) pins s σ H o i v ov iv u Q I ro ri rv h
theorem rs_setX {te to ti : TE} {fe fo fi : Rho → Sto → R D} (he : RE K mg W te fe) (ho : RE K mg W to fo) (hi : RE K mg W ti fi) : RS K mg W (tAsg te (L2.gSub to ti rSetX)) (fSetX fe fo fi) := by
  intro αs T σ ρ H st Dn R E q
  refine he αs T σ ρ H st _ R E (PostG.bind (q σ) fun d st1 αs1 H1 R1 F1 h1 x rx => ?_)
  refine ho αs1 T σ ρ H1 st1 _ R1 (E.fr F1) (PostG.bind h1 fun o st2 αs2 H2 R2 F2 h2 y ry => ?_)
  refine hi αs2 T σ ρ H2 st2 _ R2 ((E.fr F1).fr F2) (PostG.bind h2 fun i st3 αs3 H3 R3 F3 h3 z rz => ?_)
  split at h3
  · rename_i n
    split at h3
    · rename_i k
      unfold DL.Y.setTo at h3
      split at h3
      · rename_i ds e
        split at h3
        · rename_i j hj
          obtain ⟨a, rfl, ha⟩ := rep_hnd.mp (ry.fr F3)
          obtain ⟨xs, hx, rr⟩ := R3.lc ha e
          obtain ⟨R4, F4⟩ := R3.wr ha (rr.set ((rx.fr F2).fr F3) j)
          exact .inl ⟨a, xs, k, j, rfl, rep_int.mp rz, hx, by rw [rr.len]; exact hj, h3 αs3 _ R4 F4 σ ((((E.fr F1).fr F2).fr F3).fr F4)⟩
        · exact h3.elim
      · exact h3.elim
    · exact h3.elim
  · rename_i n
    split at h3
    · rename_i k hk
      split at h3
      · rename_i ks vs e
        split at h3
        · rename_i hl
          obtain ⟨a, rfl, ha, hd⟩ := rep_dhn.mp (ry.fr F3)
          obtain ⟨ks', vs', xs, e1, h4, h5⟩ := (R3.cell n a _ ha e).dic hd
          cases e1
          obtain ⟨b, rfl, hb⟩ := key_ok rz hk
          obtain ⟨ys, e2, e3, e4⟩ := put_ky (k := k) ((rx.fr F2).fr F3) h5 h4.2
          have F4 : Fr αs3 H3 αs3 (upd H3 a (.dT (((dputK ks k).map kyI).zip ys))) := Fr.cellD (List.mem_of_getElem? ha) hd
          have R4 := R3.wrG (ds := .dk (dputK ks k) :: dputV ks vs k d) ha F4 (.inr (.inl ⟨_, _, ys, rfl, ⟨upd_same, e3⟩, e4.fr F4⟩))
          refine .inr ⟨a, _, rfl, DPut.t h4.1 hb ?_, ?_⟩
          · rw [List.length_zip, List.length_map, h4.2, Nat.min_self]
            have := lineOk_iff hl
            omega
          · rw [e2]
            exact h3 αs3 _ R4 F4 σ ((((E.fr F1).fr F2).fr F3).fr F4)
        · exact h3.elim
      · exact h3.elim
    · exact h3.elim
  · exact h3.elim
end
namespace Y
section
variable {K : PySem.W.Frag} {mg : Str → Option Value} {Y : Cy K mg} {W : WX} {a b e o : Expr} {ta tb te to : TE} {fa fb fe fo : Rho → Sto → R D} {pos : Pos}
theorem de_ixX (hu : Y.1.A.units + 64 < cLine) (ha : DE Y W a ta fa) (hb : DE Y W b tb fb) (hs : PlainIx b := by exact fun _ _ => rfl) : DE Y W (.Subscript a b pos) (tOp (fun x y H Q => rIx K x y H Q ∨ rDG x y H Q) ta tb) (fOp gIxX fa fb) := by
  obtain ⟨X, rfl, rfl⟩ := Y
  exact ⟨pe_ix (ix_seq.or (ix_dic hu)) ha.p hb.p hs, re_op rv_ixX ha.r hb.r⟩
theorem de_dicN : DE Y W (.Dict [] [] pos) tDNewT fDicN := by
  obtain ⟨X, rfl, rfl⟩ := Y
  exact ⟨pe_dnewT, re_dicN⟩
theorem ds_setX {i : Expr} {ti : TE} {fi : Rho → Sto → R D} {spos : Pos} (he : DE Y W e te fe) (ho : DE Y W o to fo) (hi : DE Y W i ti fi) (hg : PG Y.1 (.Subscript o i spos) (L2.gSub to ti rSetX)) (hs : swapsWithSole [.Subscript o i spos] e pos.line Y.1.env = pure false := by rfl) (hw : swappedStores [.Subscript o i spos] e Y.1.env = pure none := by rfl)
    (h1 : (assignEach [.Subscript o i spos] Y.1.env).map (·.2) = [assign (.Subscript o i spos) Y.1.env] := by rfl) : DS Y W (.Assign [.Subscript o i spos] e pos) (tAsg te (L2.gSub to ti rSetX)) (fSetX fe fo fi) := by
  obtain ⟨X, rfl, rfl⟩ := Y
  exact ⟨ps_asg he.p hg hs hw h1, rs_setX he.r ho.r hi.r⟩
end
theorem op_inX {X : Cx} (hu : X.A.units + 64 < cLine) : OpR X (compareOp .In) (fun x y H Q => rInD X.K false x y H Q ∨ rDI false x y H Q) := OpR.or (op_inD hu) (op_dIn hu)
theorem op_notInX {X : Cx} (hu : X.A.units + 64 < cLine) : OpR X (compareOp .NotIn) (fun x y H Q => rInD X.K true x y H Q ∨ rDI true x y H Q) := OpR.or (op_notInD hu) (op_dNotIn hu)
end Y
end DL
namespace DL
open PySem PySem.Spec PyProof.Rows L2
/-! ### the items of a locked dict with tuples as keys -/
section
variable {X : Cx} {pins : List (Addr × Obj)} {σ : L2.St} {H : Hp} {s : Shared} {d : Addr} {o : Obj}
theorem frz_ent {kvs : List (List Key × V)} (I : Inv X pins σ H s) (h : H d = some (.frz o (.dT kvs))) : ∃ (es : Array DictEntry) (ep : Nat), (d == sysModules) = false ∧ DT.Raw s.heap d es ep ∧ o.data = .dict es ep ∧ es.size = kvs.length ∧
    ∀ (i : Nat) (k : List Key) (v : V), kvs[i]? = some (k, v) → ∃ (en : DictEntry) (q : Addr), es[i]? = some en ∧ en.key = .ref q ∧ RelV v en.val ∧ H q = some (.tup (k.map kV)) := by
  obtain ⟨g1, z, g2, xs, pr, o2, es, ep, g3, g4, g5, g6, _⟩ := I.hok d _ h
  rw [g1] at g3
  cases g3
  refine ⟨es, ep, g2, ⟨o, g1, g4, g5⟩, g5, ?_, fun i k v e => ?_⟩
  · have l1 : es.size = xs.length := size_of_entries g6
    have l2 : kvs.length = xs.length := Paired.length pr
    rw [l1, l2]
  · obtain ⟨b, hb, e1, e2, e3⟩ := L2.paired_get pr e
    have q := entry_at g6 i
    rw [hb] at q
    exact ⟨_, b.2.1, q, rfl, e3, e2⟩
end
/-- the pairs, each a new tuple of the key's own tuple and the value -/
def ItiT (d : Addr) (o : Obj) (kvs : List (List Key × V)) : It :=
  ⟨fun i H => H d = some (.frz o (.dT kvs)) ∧ i < kvs.length, fun i H x H' => ∃ T k v q, kvs[i]? = some (k, v) ∧ x = .ref T ∧ H T = none ∧ H q = some (.tup (k.map kV)) ∧ H' = upd H T (.tup [.ref q, v]), fun i H => H d = some (.frz o (.dT kvs)) ∧ kvs.length ≤ i⟩
section
variable {P : Program} {w : World} {K : PySem.W.Frag} {d : Addr} {o : Obj} {es : Array DictEntry} {ep : Nat}
theorem turn_itT {kvs : List (List Key × V)} {elts : List Expr} {kk : Nat} {tpos : Pos} (it : Addr) (hes : o.data = .dict es ep) :
    Turn P w K (.Tuple elts kk tpos) (ItiT d o kvs) [it] it (fun i h => ∃ k0 v0, IsItemIter h it d i es.size ep k0 v0) where
  mem := by simp
  obj := fun i h ⟨k0, v0, e⟩ b hb => by rw [show b = it by simpa using hb]; exact ⟨_, e, fun v z => nomatch z⟩
  keep := fun i h h' ⟨k0, v0, e⟩ k => ⟨k0, v0, k it (by simp) _ e⟩
  item := by
    intro X hP hw hK hc i pins s σ H E I hf ⟨k0, v0, he⟩ ⟨hd, hi⟩
    subst hP hw hK
    obtain ⟨es', ep', hs, hraw, hdt, hsz, ent⟩ := frz_ent I hd
    rw [hes] at hdt
    cases hdt
    obtain ⟨⟨k, v⟩, hkv⟩ : ∃ p, kvs[i]? = some p := ⟨kvs[i], List.getElem?_eq_getElem hi⟩
    obtain ⟨en, q, hen, hkey, rv, hq⟩ := ent i k v hkv
    have hi2 : i < es.size := by rw [hsz]; exact hi
    have een : es[i] = en := by
      rw [Array.getElem?_eq_getElem hi2] at hen
      exact Option.some.inj hen
    have low : it < s.heap.objs.size := Heap.lt_size he
    refine DT.nextI he hraw hi2 fun h1 ho hT hz hk => ⟨_, rfl, wpAny_letOwnedTupleGo_items (s := { s with heap := h1 }) ho fun h2 he2 sb => ?_⟩
    rw [een] at hT he2
    have hT2 := (sb.2 _ (Nat.ne_of_gt low)).trans hT
    have new : ObjOk X.prog X.w (upd H s.heap.objs.size (.tup [.ref q, v])) h2 s.heap.objs.size (.tup [.ref q, v]) :=
      ⟨by show 2 ≤ sizeLine; rw [sizeLine_eq]; omega, [en.key, en.val], .cons (by rw [hkey]; rfl) (.cons rv .nil), ⟨_, hT2, rfl, _, rfl⟩⟩
    have I2 := I.turnedNew (t' := s.toks) (ch := [it]) (fun b ob hb e => (sb.2 b (by simpa using hb)).trans (hk b ob (by simpa using hb) e)) hf (Nat.le_refl _) new
    refine ⟨.ref s.heap.objs.size, _, I2, rfl, ⟨_, k, v, q, hkv, rfl, I.hok.fresh (Nat.le_refl _), hq, rfl⟩, ⟨_, _, he2⟩, fun b hb => ?_⟩
    rw [show b = it by simpa using hb, upd_ne (Nat.ne_of_lt low)]
    exact (hf it (by simp)).1
  done := by
    intro X hP hw hK hc i pins s σ H E I hf ⟨k0, v0, he⟩ ⟨hd, hi⟩
    subst hP hw hK
    have g := hf it (by simp)
    obtain ⟨es', ep', hs, hraw, hdt, hsz, ent⟩ := frz_ent I hd
    rw [hes] at hdt
    cases hdt
    exact DT.endI (I.ok.hd hc) he hraw (by rw [hsz]; exact hi) fun h1 eb => ⟨rfl, I.turned (t' := s.toks) (fun b ob hb e => eb b ob hb e) g.1 g.2.1 g.2.2.2.1 g.2.2.2.2.1 g.2.2.2.2.2⟩
  self := fun A i s Q E ⟨_, _, e⟩ h => PySem.W.kcp_self e h
end
def iItT (td : TE) : TI := fun σ H R => td σ H fun x H1 => ∃ d o kvs, x = .ref d ∧ H1 d = some (.frz o (.dT kvs)) ∧ R (ItiT d o kvs) H1
theorem pi_itT {X : Cx} {e : Expr} {td : TE} {apos cpos tpos : Pos} {elts : List Expr} {kk : Nat} (he : PE X e td) (hbase : attributeBase e "items" X.env (eval e X.env) = eval e X.env := by rfl) (hline : (apos.endLine == cpos.line) = true := by rfl) :
    PI X (.Tuple elts kk tpos) (.Call (.Attribute e "items" apos) [] [] cpos) (iItT td) := by
  refine ⟨fun pins s σ H R I hw => wpAny_Call_method (T := "dict") (id := "dict.items") hbase rfl hline F.plainAttrs_dict F.slot_dict_items F.type_dict_items (thn (he.run pins s σ H _ I hw) fun u s1 ⟨x, H1, I1, rx, d, o, kvs, ex, hd, q⟩ => ?_)⟩
  subst ex
  cases (show u = Value.ref d from rx)
  obtain ⟨es, ep, hs, hraw, hdt, hsz, ent⟩ := frz_ent I1 hd
  obtain ⟨od, hod, hx, hda⟩ := id hraw
  refine ⟨hraw.typeIs, fun b hb => ⟨od, by cases hb; exact hod, hx.2.1⟩, ?_⟩
  have I2 : Inv X pins σ H1 { s1 with heap := s1.heap.push { cls := .type "dict_items", data := .fields #[.ref d] } } := I1.kept (t' := s1.toks) fun b ob q => Heap.get?_push_of_some _ q
  have go : wpAny (model X.prog X.w) X.A (pyIter (.ref s1.heap.objs.size)) (PIE X pins σ (.Tuple elts kk tpos) R) X.xe { s1 with heap := s1.heap.push { cls := .type "dict_items", data := .fields #[.ref d] } } :=
    DT.iterI (d := d) ⟨_, Heap.get?_push_size _ rfl, rfl, rfl⟩ (hraw.push _) (pi_one (tk := s1.toks) I2 _ (turn_itT _ hdt) ⟨.none, .none, Heap.get?_push_size _ rfl⟩ q)
  show wpAny _ _ (callWith cpos (.builtin "dict.items") [.ref d] [] []) _ X.xe s1
  exact method_meetsIn F.slot_dict_items F.entry_dict_items rfl (PySem.evalArgs_none ⟨rfl, hraw.typeIs, F.args_dict_items_1 _, _, DT.meetsItems (es := es) (ep := ep) hs, ⟨hraw, go⟩⟩)
end DL
namespace DL
open PySem PySem.Spec PyProof.Rows L2
/-! ### a comprehension over the items of a dict, which is locked meanwhile -/
mutual
/-- no dict of the store in it -/
def clean : D → Bool
  | .dhn _ => false
  | .tup ds => cleans ds
  | .lst ds => cleans ds
  | .frz ds => cleans ds
  | .dic _ vs => cleans vs
  | .dk _ => true
  | _ => true
def cleans : List D → Bool
  | [] => true
  | d :: ds => clean d && cleans ds
end
def cleanR : Rho → Bool
  | [] => true
  | none :: r => cleanR r
  | some d :: r => clean d && cleanR r
def cleanS : Nat → Sto → Bool
  | _, [] => true
  | 0, _ :: r => r.all cleans
  | n + 1, c :: r => cleans c && cleanS n r
def keepR (keep : List Nat) : Nat → Rho → Rho
  | _, [] => []
  | i, d :: r => (if keep.any (Nat.beq i) then d else none) :: keepR keep (i + 1) r
def itemsD : List (List Int) → List D → List D
  | k :: ks, v :: vs => .tup [keyD k, v] :: itemsD ks vs
  | _, _ => []
section
variable {K : PySem.W.Frag} {mg : Str → Option Value} {αs T : List Addr} {H : Hp} {st : Sto} {W : WX}
mutual
theorem Rep.sw {d : Addr} {o : HO} (hα : d ∈ αs) (h1 : ∀ xs, H d ≠ some (.tup xs)) (h2 : ∀ xs, H d ≠ some (.lst xs)) (h3 : ∀ z xs, H d ≠ some (.frz z (.lst xs))) : ∀ {c : D} {v : V}, (clean c = true ∨ ¬ IsDic H d) → Rep K mg αs T H c v → Rep K mg αs T (upd H d o) c v
  | .non, _, _, h => by simpa only [Rep] using h
  | .bl _, _, _, h => by simpa only [Rep] using h
  | .int _, _, _, h => by simpa only [Rep] using h
  | .str _, _, _, h => by simpa only [Rep] using h
  | .fn _, _, _, h => by simpa only [Rep] using h
  | .dk _, _, _, h => by simp only [Rep] at h
  | .tup ds, _, c, h => by
    obtain ⟨a, xs, e, ha, hs⟩ := rep_tup.mp h
    refine rep_tup.mpr ⟨a, xs, e, ?_, Reps.sw hα h1 h2 h3 (by simpa only [clean] using c) hs⟩
    rcases ha with ⟨g1, g2⟩ | ha
    · exact .inl ⟨by rw [upd_ne (fun z => h1 xs (by rw [← z]; exact g1))]; exact g1, g2⟩
    · exact ha.1.elim
  | .lst ds, _, c, h => by
    obtain ⟨a, xs, e, ⟨g1, g2, g3⟩, hs⟩ := rep_lst.mp h
    exact rep_lst.mpr ⟨a, xs, e, ⟨by rw [upd_ne (fun z => h2 xs (by rw [← z]; exact g1))]; exact g1, g2, g3⟩, Reps.sw hα h1 h2 h3 (by simpa only [clean] using c) hs⟩
  | .frz ds, _, c, h => by
    obtain ⟨a, xs, e, ha, hs⟩ := rep_frz.mp h
    refine rep_frz.mpr ⟨a, xs, e, ?_, Reps.sw hα h1 h2 h3 (by simpa only [clean] using c) hs⟩
    rcases ha with ⟨z, g1, g2⟩ | ha
    · exact .inl ⟨z, by rw [upd_ne (fun y => h3 z xs (by rw [← y]; exact g1))]; exact g1, g2⟩
    · exact .inr ha
  | .hnd n, _, _, h => by
    obtain ⟨a, e, g1, xs, g2⟩ := rep_hnd.mp h
    exact rep_hnd.mpr ⟨a, e, g1, xs, by rw [upd_ne (fun z => h2 xs (by rw [← z]; exact g2))]; exact g2⟩
  | .dhn n, _, c, h => by
    obtain ⟨a, e, g1, g2⟩ := rep_dhn.mp h
    rcases c with c | c
    · simp only [clean] at c; cases c
    · obtain ⟨xs, g3⟩ := g2
      exact rep_dhn.mpr ⟨a, e, g1, xs, by rw [upd_ne (fun z => c ⟨xs, by rw [← z]; exact g3⟩)]; exact g3⟩
  | .dic ks vs, _, c, h => by
    obtain ⟨a, xs, e, g1, g2, g3, hs⟩ := rep_dic.mp h
    exact rep_dic.mpr ⟨a, xs, e, ⟨by rw [upd_ne (fun z => g2 (by rw [z]; exact hα))]; exact g1.1, g1.2⟩, g2, g3, Reps.sw hα h1 h2 h3 (by simpa only [clean] using c) hs⟩
theorem Reps.sw {d : Addr} {o : HO} (hα : d ∈ αs) (h1 : ∀ xs, H d ≠ some (.tup xs)) (h2 : ∀ xs, H d ≠ some (.lst xs)) (h3 : ∀ z xs, H d ≠ some (.frz z (.lst xs))) : ∀ {cs : List D} {vs : List V}, (cleans cs = true ∨ ¬ IsDic H d) → Reps K mg αs T H cs vs → Reps K mg αs T (upd H d o) cs vs
  | [], _, _, h => by rw [h.isNil]; exact .nil
  | c :: cs, _, hc, h => by
    simp only [Reps] at h
    obtain ⟨v, r, rfl, g1, g2⟩ := h
    refine .cons (Rep.sw hα h1 h2 h3 ?_ g1) (Reps.sw hα h1 h2 h3 ?_ g2)
    · rcases hc with hc | hc
      · simp only [cleans, Bool.and_eq_true] at hc; exact .inl hc.1
      · exact .inr hc
    · rcases hc with hc | hc
      · simp only [cleans, Bool.and_eq_true] at hc; exact .inl hc.2
      · exact .inr hc
end
theorem cleanS_get : ∀ {st : Sto} {n m : Nat} {c : List D}, cleanS n st = true → m ≠ n → st[m]? = some c → cleans c = true
  | [], _, _, _, _, _, e => by simp at e
  | a :: r, 0, 0, _, _, ne, _ => absurd rfl ne
  | a :: r, 0, m + 1, c, h, _, e => by
    simp only [cleanS] at h
    exact List.all_eq_true.mp h c (List.mem_of_getElem? (by simpa using e))
  | a :: r, n + 1, 0, c, h, _, e => by
    simp only [cleanS, Bool.and_eq_true] at h
    simp at e
    rw [← e]; exact h.1
  | a :: r, n + 1, m + 1, c, h, ne, e => by
    simp only [cleanS, Bool.and_eq_true] at h
    exact cleanS_get h.2 (fun z => ne (congrArg Nat.succ z)) (by simpa using e)
theorem keepR_len (keep : List Nat) : ∀ (i : Nat) (ρ : Rho), (keepR keep i ρ).length = ρ.length
  | _, [] => rfl
  | i, d :: r => by simp [keepR, keepR_len keep (i + 1) r]
theorem keepR_get (keep : List Nat) : ∀ (i : Nat) (ρ : Rho) (j : Nat) (d : D), (keepR keep i ρ)[j]? = some (some d) → ρ[j]? = some (some d)
  | _, [], _, _, h => by simp [keepR] at h
  | i, c :: r, 0, d, h => by
    simp only [keepR, List.getElem?_cons_zero] at h ⊢
    split at h
    · exact h
    · cases h
  | i, c :: r, j + 1, d, h => by
    simp only [keepR, List.getElem?_cons_succ] at h ⊢
    exact keepR_get keep (i + 1) r j d h
theorem cleanR_get : ∀ {ρ : Rho} {j : Nat} {d : D}, cleanR ρ = true → ρ[j]? = some (some d) → clean d = true
  | [], _, _, _, e => by simp at e
  | none :: r, 0, _, _, e => by simp at e
  | none :: r, j + 1, d, h, e => cleanR_get (ρ := r) (by simpa only [cleanR] using h) (by simpa using e)
  | some c :: r, 0, d, h, e => by
    simp only [cleanR, Bool.and_eq_true] at h
    simp at e
    rw [← e]; exact h.1
  | some c :: r, j + 1, d, h, e => by
    simp only [cleanR, Bool.and_eq_true] at h
    exact cleanR_get h.2 (by simpa using e)
theorem itemsD_get : ∀ {ks : List (List Int)} {vs : List D} {xs : List V} {i : Nat}, Reps K mg αs T H vs xs → xs.length = ks.length →
    (itemsD ks vs).length = ks.length ∧ ∀ c, (itemsD ks vs)[i]? = some c → ∃ k d v, c = .tup [keyD k, d] ∧ ((ks.map kyI).zip xs)[i]? = some (kyI k, v) ∧ Rep K mg αs T H d v
  | [], vs, xs, i, r, hl => by
    have e : itemsD [] vs = [] := by cases vs <;> rfl
    rw [e]
    exact ⟨rfl, fun c h => by simp at h⟩
  | k :: ks, [], xs, i, r, hl => by rw [r.isNil] at hl; simp at hl
  | k :: ks, d :: vs, xs, i, r, hl => by
    simp only [Reps] at r
    obtain ⟨v, ys, rfl, g1, g2⟩ := r
    have hl2 : ys.length = ks.length := by simpa using hl
    refine ⟨by simp [itemsD, (itemsD_get (i := 0) g2 hl2).1], fun c h => ?_⟩
    cases i with
    | zero =>
      simp [itemsD] at h
      exact ⟨k, d, v, h.symm, rfl, g1⟩
    | succ i =>
      simp [itemsD] at h
      obtain ⟨k', d', v', e1, e2, e3⟩ := (itemsD_get (i := i) g2 hl2).2 c h
      exact ⟨k', d', v', e1, by simpa using e2, e3⟩
/-- the turns over a locked dict -/
theorem src_itT {d : Addr} {od : Obj} {ks : List (List Int)} {vs : List D} {xs : List V} (hd : H d = some (.frz od (.dT ((ks.map kyI).zip xs)))) (hl : xs.length = ks.length) (r : Reps K mg αs T H vs xs) : SrcOk K mg αs T H (ItiT d od ((ks.map kyI).zip xs)) (.sq (itemsD ks vs)) := by
  intro αs' T' H2 st i Z f R
  have hd2 := Z d od _ hd
  have hz : ((ks.map kyI).zip xs).length = ks.length := by simp [hl]
  obtain ⟨hn, hg⟩ := itemsD_get (i := i) r hl
  refine ⟨fun e _ => ⟨hd2, ?_⟩, fun c e => ?_⟩
  · have e : (itemsD ks vs)[i]? = none := e
    rw [hz, ← hn]
    exact List.getElem?_eq_none_iff.mp e
  · have e : (itemsD ks vs)[i]? = some c := e
    obtain ⟨k, dv, v, rfl, e2, rv⟩ := hg c e
    refine ⟨⟨hd2, (List.getElem?_eq_some_iff.mp e2).1⟩, fun x H3 hy => ?_⟩
    obtain ⟨p, k', v', q, e3, rfl, hp, hq, rfl⟩ := hy
    rw [e2] at e3
    cases e3
    have hq2 : H2 q = some (.tup (k.map V.int)) := by rw [hq]; simp [kyI, kV, Function.comp_def]
    have nq : q ∉ αs' := fun z => by
      obtain ⟨n, hn, e⟩ := List.getElem_of_mem z
      have hn' : n < st.length := by rw [← R.len]; exact hn
      exact (R.cell n q st[n] (by rw [List.getElem?_eq_getElem hn, e]) (List.getElem?_eq_getElem hn')).notTup hq2
    have hi : ∀ l : List Int, Reps K mg αs' T' H2 (l.map D.int) (l.map V.int) := fun l => by
      induction l with
      | nil => exact .nil
      | cons i l ih => exact .cons (rep_int.mpr rfl) ih
    have rk : Rep K mg αs' T' H2 (keyD k) (.ref q) := rep_tup.mpr ⟨q, _, rfl, .inl ⟨hq2, nq⟩, hi k⟩
    obtain ⟨R3, F3, r3⟩ := newTup R (.cons rk (.one (f _ _ rv))) hp
    exact ⟨r3, R3, F3, fun b o e => by rw [upd_ne (ne_of_none e hp)]; exact e⟩
def fLcI (i : Nat) (keep : List Nat) (s : Set1) (ft : Rho → Sto → R Bool) (fe : Rho → Sto → R D) (vs : List Nat) : Rho → Sto → R (List D) := fun ρ st => match ρ[i]? with
  | some (some (.dhn n)) => match st[n]? with
    | some (.dk ks :: dvs) => if cleanR (keepR keep 0 ρ) && cleanS n st && cleans dvs then (fLc (fun _ st => .ok (.sq (itemsD ks dvs)) st) s ft fe vs (keepR keep 0 ρ) st).bind fun ds st' => .ok ds (st'.set n (.dk ks :: dvs)) else .bad
    | _ => .bad
  | _ => .bad
theorem lc_noexc {ds : List D} {s : Set1} {ft : Rho → Sto → R Bool} {fe : Rho → Sto → R D} {vs : List Nat} {ρ : Rho} {c : Str} {p : D} {st1 : Sto} (e : fLc (fun _ st => .ok (.sq ds) st) s ft fe vs ρ st = .exc c p st1) : False := by
  have e : lcEnd (lcL s ft fe (wipeR ρ vs) ds st) = .exc c p st1 := e
  unfold lcEnd at e
  split at e
  · split at e <;> cases e
  · cases e
theorem rf_lcI {i : Nat} {keep : List Nat} {g : TG} {s : Set1} {is vs : List Nat} {tt : TT} {ft : Rho → Sto → R Bool} {te : TE} {fe : Rho → Sto → R D} (hg : RG K mg g s is) (ht : RT K mg W0 tt ft) (he : RE K mg W0 te fe) (his : ∀ i ∈ is, i ∈ vs) :
    RF K mg W (tLockE (tLc (iItT (tVar i)) g tt te vs)) (fLcI i keep s ft fe vs) := by
  intro αs T σ ρ H st Q R E q
  unfold fLcI at q
  split at q
  · rename_i n hρ
    split at q
    · rename_i ks dvs hst
      split at q
      · rename_i hc
        simp only [Bool.and_eq_true] at hc
        obtain ⟨⟨c1, c2⟩, c3⟩ := hc
        obtain ⟨v, hσ, hv⟩ := E.2 i _ hρ
        obtain ⟨d, rfl, hn, hD⟩ := rep_dhn.mp hv
        obtain ⟨ks', dvs', xs, e1, hd, hr⟩ := (R.cell n d _ hn hst).dic hD
        cases e1
        have hmem : d ∈ αs := List.mem_of_getElem? hn
        refine ⟨d, _, hd.1, trivial, fun od => ?_⟩
        have k1 : ∀ xs, H d ≠ some (.tup xs) := fun xs z => by rw [hd.1] at z; cases z
        have k2 : ∀ xs, H d ≠ some (.lst xs) := fun xs z => by rw [hd.1] at z; cases z
        have k3 : ∀ z xs, H d ≠ some (.frz z (.lst xs)) := fun z xs y => by rw [hd.1] at y; cases y
        have hL : (upd H d (.frz od (.dT ((ks.map kyI).zip xs)))) d = some (.frz od (.dT ((ks.map kyI).zip xs))) := upd_same
        have lock : ∀ {ds : List D} {vs : List V}, cleans ds = true → Reps K mg αs T H ds vs → Reps K mg αs T (upd H d (.frz od (.dT ((ks.map kyI).zip xs)))) ds vs := fun hc r => r.sw hmem k1 k2 k3 (.inl hc)
        have RL : Rel K mg αs T (upd H d (.frz od (.dT ((ks.map kyI).zip xs)))) st := by
          refine ⟨R.nd, R.len, fun m a ds h1 h2 => ?_, fun t ht => ⟨(R.tmp t ht).1, ?_⟩⟩
          · by_cases em : m = n
            · subst em
              rw [hn] at h1
              cases h1
              exact .inr (.inr ⟨_, _, hL⟩)
            · have na : a ≠ d := fun z => em ((List.getElem?_inj (List.getElem?_eq_some_iff.mp h1).1 R.nd).mp (by rw [h1, hn, z]))
              have cl := cleanS_get c2 em h2
              rcases R.cell m a ds h1 h2 with ⟨ys, g1, g2⟩ | ⟨ks2, vs2, ys, rfl, g1, g2⟩ | ⟨o, u, g1⟩
              · exact .inl ⟨ys, by rw [upd_ne na]; exact g1, lock cl g2⟩
              · simp only [cleans, clean, Bool.true_and] at cl
                exact .inr (.inl ⟨ks2, vs2, ys, rfl, ⟨by rw [upd_ne na]; exact g1.1, g1.2⟩, lock cl g2⟩)
              · exact .inr (.inr ⟨o, u, by rw [upd_ne na]; exact g1⟩)
          · rw [upd_ne (fun z => (R.tmp t ht).1 (by rw [z]; exact hmem))]; exact (R.tmp t ht).2
        have EL : EnvR K mg αs T (upd H d (.frz od (.dT ((ks.map kyI).zip xs)))) σ (keepR keep 0 ρ) := by
          refine ⟨by rw [keepR_len]; exact E.1, fun j c hj => ?_⟩
          obtain ⟨w, g1, g2⟩ := E.2 j c (keepR_get keep 0 ρ j c hj)
          exact ⟨w, g1, g2.sw hmem k1 k2 k3 (.inl (cleanR_get c1 hj))⟩
        have rL := lock c3 hr
        refine lc_at (W := W) (src := fun _ st => .ok (.sq (itemsD ks dvs)) st) hg ht he his αs T σ _ _ st _ RL EL (fun Q2 p2 => ?_) ?_
        · exact ⟨.ref d, hσ, d, od, _, rfl, hL, p2 αs _ RL .refl _ (src_itT hL hd.2 rL)⟩
        · have bk : ∀ {αs' : List Addr} {H' : Hp}, Fr αs (upd H d (.frz od (.dT ((ks.map kyI).zip xs)))) αs' H' → Fr αs H αs' (upd H' d (.dT ((ks.map kyI).zip xs))) := fun {αs' H'} F => by
            obtain ⟨⟨more, e1, h1⟩, f1, f2, f3, f4⟩ := F
            refine ⟨⟨more, e1, fun p hp => ?_⟩, fun b o hb e => ?_, fun b ⟨ys, e⟩ => ?_, fun b ⟨ys, e⟩ => ?_, fun b o u e => ?_⟩
            · obtain ⟨m1, m2⟩ := h1 p hp
              exact ⟨m1, by rw [upd_ne (fun z => m1 (by rw [z]; exact hmem))] at m2; exact m2⟩
            · have nb : b ≠ d := fun z => hb (by rw [z]; exact hmem)
              rw [upd_ne nb]
              exact f1 b o hb (by rw [upd_ne nb]; exact e)
            · have nb : b ≠ d := fun z => k2 ys (by rw [← z]; exact e)
              obtain ⟨zs, e2⟩ := f2 b ⟨ys, by rw [upd_ne nb]; exact e⟩
              exact ⟨zs, by rw [upd_ne nb]; exact e2⟩
            · by_cases nb : b = d
              · rw [nb]; exact ⟨_, upd_same⟩
              · obtain ⟨zs, e2⟩ := f3 b ⟨ys, by rw [upd_ne nb]; exact e⟩
                exact ⟨zs, by rw [upd_ne nb]; exact e2⟩
            · have nb : b ≠ d := fun z => by rw [z, hd.1] at e; cases e
              rw [upd_ne nb]
              exact f4 b o u (by rw [upd_ne nb]; exact e)
          have unl : ∀ {αs' T' : List Addr} {H' : Hp} {st' : Sto}, Fr αs (upd H d (.frz od (.dT ((ks.map kyI).zip xs)))) αs' H' → (∀ t ∈ T', t ∈ T ∨ (upd H d (.frz od (.dT ((ks.map kyI).zip xs)))) t = none) → Rel K mg αs' T' H' st' →
              Rel K mg αs' T' (upd H' d (.dT ((ks.map kyI).zip xs))) (st'.set n (.dk ks :: dvs)) ∧ ∀ {ds : List D} {vs : List V}, Reps K mg αs' T' H' ds vs → Reps K mg αs' T' (upd H' d (.dT ((ks.map kyI).zip xs))) ds vs := fun {αs' T' H' st'} F hT R' => by
            have hd' := F.fz d _ _ hL
            have j1 : ∀ xs, H' d ≠ some (.tup xs) := fun xs z => by rw [hd'] at z; cases z
            have j2 : ∀ xs, H' d ≠ some (.lst xs) := fun xs z => by rw [hd'] at z; cases z
            have j3 : ∀ z xs, H' d ≠ some (.frz z (.lst xs)) := fun z xs y => by rw [hd'] at y; cases y
            have j4 : ¬ IsDic H' d := fun ⟨ys, z⟩ => by rw [hd'] at z; cases z
            have hn' := F.at hn
            have hm' : d ∈ αs' := List.mem_of_getElem? hn'
            have un : ∀ {ds : List D} {vs : List V}, Reps K mg αs' T' H' ds vs → Reps K mg αs' T' (upd H' d (.dT ((ks.map kyI).zip xs))) ds vs := fun r => r.sw hm' j1 j2 j3 (.inr j4)
            refine ⟨⟨R'.nd, by simp [R'.len], fun m a ds h1 h2 => ?_, fun t ht => ⟨(R'.tmp t ht).1, ?_⟩⟩, un⟩
            · by_cases em : n = m
              · subst em
                rw [hn'] at h1
                cases h1
                have hlt : n < st'.length := by rw [← R'.len]; exact (List.getElem?_eq_some_iff.mp hn').1
                rw [List.getElem?_set_self hlt] at h2
                cases h2
                exact .inr (.inl ⟨ks, dvs, xs, rfl, ⟨upd_same, hd.2⟩, un (rL.mv F hT)⟩)
              · rw [List.getElem?_set_ne em] at h2
                have na : a ≠ d := fun z => em ((List.getElem?_inj (List.getElem?_eq_some_iff.mp hn').1 R'.nd).mp (by rw [h1, hn', z]))
                exact (R'.cell m a ds h1 h2).imp (fun o e => by rw [upd_ne na]; exact e) fun ds vs r => un r
            · rw [upd_ne (fun z => (R'.tmp t ht).1 (by rw [z]; exact hm'))]; exact (R'.tmp t ht).2
          cases ef : fLc (fun _ st => .ok (.sq (itemsD ks dvs)) st) s ft fe vs (keepR keep 0 ρ) st with
          | bad => rw [ef] at q; exact q
          | exc c p st1 =>
            rw [ef] at q
            intro cls o αs' H' xr R' F'
            exact False.elim (lc_noexc ef)
          | ok ds st1 =>
            rw [ef] at q
            intro αs' H' R' F' p ys hp hnp hx R2 r2
            refine ⟨F'.fz d _ _ hL, ?_⟩
            have npd : p ≠ d := fun z => hnp (by rw [z]; exact List.mem_of_getElem? (F'.at hn))
            have hp0 : H p = none := by rw [upd_ne npd] at hp; exact hp
            obtain ⟨u1, _⟩ := unl F' (fun t ht => .inl ht) R'
            obtain ⟨u2, u3⟩ := unl F' (fun t ht => by
              rcases List.mem_cons.mp ht with z | z
              · exact .inr (by rw [z]; exact hp)
              · exact .inl z) R2
            exact q αs' _ u1 (bk F') p ys hp0 hnp (by rw [upd_ne npd]; exact hx) u2 (u3 r2)
      · exact q.elim
    · exact q.elim
  · exact q.elim
end
end DL
namespace DL
open PySem PySem.Spec PyProof.Rows L2
/-! ### x is None, x is True -/
def rIsB (f : Bool → Bool) : R2 := fun x y H Q => ∃ a b, x = .bl a ∧ y = .bl b ∧ Q (.bl (f (decide (a = b)))) H
def gIsX (st : Sto) (a b : D) : Option D := match a, b with
  | .bl x, .bl y => some (.bl (decide (x = y)))
  | a, b => gIsN st a b
def gNotX (st : Sto) (a b : D) : Option D := match a, b with
  | .bl x, .bl y => some (.bl (!decide (x = y)))
  | a, b => gNotN st a b
theorem op_isX {X : Cx} : OpR X (compareOp .Is) (fun x y H Q => (y = .non ∧ Q (.bl (decide (x = .non))) H) ∨ rIsB (fun b => b) x y H Q) := OpR.or op_isN op_is_bl
theorem op_notX {X : Cx} : OpR X (compareOp .IsNot) (fun x y H Q => (y = .non ∧ Q (.bl (!decide (x = .non))) H) ∨ rIsB (fun b => !b) x y H Q) := OpR.or op_notN op_isnot_bl
theorem rv_isX {K : PySem.W.Frag} {mg : Str → Option Value} : RV2 K mg (fun x y H Q => (y = .non ∧ Q (.bl (decide (x = .non))) H) ∨ rIsB (fun b => b) x y H Q) gIsX := by
  intro αs T H st a b x y Q d R ra rb e q
  unfold gIsX at e
  split at e
  · cases e
    exact .inr ⟨_, _, rep_bl.mp ra, rep_bl.mp rb, q _ H R .refl (rep_bl.mpr rfl)⟩
  · exact .inl (rv_isN αs T H st _ _ x y Q d R ra rb e q)
theorem rv_notX {K : PySem.W.Frag} {mg : Str → Option Value} : RV2 K mg (fun x y H Q => (y = .non ∧ Q (.bl (!decide (x = .non))) H) ∨ rIsB (fun b => !b) x y H Q) gNotX := by
  intro αs T H st a b x y Q d R ra rb e q
  unfold gNotX at e
  split at e
  · cases e
    exact .inr ⟨_, _, rep_bl.mp ra, rep_bl.mp rb, q _ H R .refl (rep_bl.mpr rfl)⟩
  · exact .inl (rv_notN αs T H st _ _ x y Q d R ra rb e q)
theorem xmOf {K : PySem.W.Frag} {mg : Str → Option Value} {c x : Str} {b : Bool} (h : ExmX K mg c x b) (e : decide (c = x) = b := by decide +kernel) : ExmX K mg c x (decide (c = x)) := e ▸ h
theorem allM {α : Type} {P : α → Prop} {a : α} {l : List α} (h : P a) (r : ∀ c ∈ l, P c) : ∀ c ∈ a :: l, P c := List.forall_mem_cons.mpr ⟨h, r⟩
theorem allN {α : Type} {P : α → Prop} : ∀ c ∈ ([] : List α), P c := fun _ h => nomatch h
namespace Y
section
variable {K : PySem.W.Frag} {mg : Str → Option Value} {Y : Cy K mg} {W : WX}
theorem TblOk.up {P : Program} {w : World} {base : Heap} {k k' : Nat} {t : Tbl} (h : TblOk P w K mg base k t) (hk : k ≤ k') : TblOk P w K mg base k' t := by
  induction h with
  | nil => exact .nil
  | cons h e r ih => exact .cons (h.up hk) e ih
theorem df_lcI {elt : Expr} {elts : List Expr} {kk : Nat} {tpos p apos cpos pos : Pos} {x : Str} {ifs : List Expr} {scope : Scope} {g : TG} {s : Set1} {is : List Nat} {tt : TT} {ft : Rho → Sto → R Bool} {te : TE} {fe : Rho → Sto → R D} {vs : List Nat} (own : List (Str × Nat)) (i : Nat) (keep : List Nat) (nd : Y.1.N.Nodup) (ok : BlkOk Y.1.N Y.1.env.scope scope own)
    (hg : ∀ (s0 : Shared) (H : Hp) (C : Addr) (cl : List (Str × Addr)) (fp : List Addr), DG (Y.blk s0 H scope (compEnvC scope cl C Y.1.env) fp) (.Tuple elts kk tpos) g s is) (ht : ∀ (s0 : Shared) (H : Hp) (C : Addr) (cl : List (Str × Addr)) (fp : List Addr), DTs (Y.blk s0 H scope (compEnvC scope cl C Y.1.env) fp) W0 ifs tt ft)
    (he : ∀ (s0 : Shared) (H : Hp) (C : Addr) (cl : List (Str × Addr)) (fp : List Addr), DE (Y.blk s0 H scope (compEnvC scope cl C Y.1.env) fp) W0 elt te fe) (hvs : own.map (·.2) = vs := by rfl) (his : ∀ i ∈ is, i ∈ vs := by decide) (hc : Y.1.calm = true := by rfl) (hs : ∀ z, foldedSetIterable (.Call (.Attribute (.Name x p) "items" apos) [] [] cpos) Y.1.env z = pure z := by intro _; rfl)
    (hN : Y.1.N[i]? = some x := by rfl) (hv : Vis Y.1.env.scope x := by first | exact Or.inl rfl | exact Or.inr (Or.inl rfl) | exact Or.inr (Or.inr rfl)) (hdb : (x == ("__debug__" : Str)) = false := by decide) (hcd : (x == ("__classdict__" : Str)) = false := by decide)
    (hbase : attributeBase (.Name x p) "items" Y.1.env (eval (.Name x p) Y.1.env) = eval (.Name x p) Y.1.env := by rfl) (hline : (apos.endLine == cpos.line) = true := by rfl) :
    DF Y W (.ListComp elt [⟨.Tuple elts kk tpos, .Call (.Attribute (.Name x p) "items" apos) [] [] cpos, ifs, 0⟩] scope pos) (tLockE (tLc (iItT (tVar i)) g tt te vs)) (fLcI i keep s ft fe vs) := by
  obtain ⟨X, rfl, rfl⟩ := Y
  subst hvs
  exact ⟨pe_lock (pe_lc hc nd (pi_itT (pe_var hN hv hdb hcd) hbase hline) ok (fun s0 H C cl fp => (hg s0 H C cl fp).p) (fun s0 H C cl fp => (ht s0 H C cl fp).p) (fun s0 H C cl fp => (he s0 H C cl fp).p) hs),
    rf_lcI (hg X.s_0 X.H_0 0 [] []).r (ht X.s_0 X.H_0 0 [] []).r (he X.s_0 X.H_0 0 [] []).r his⟩
end
end Y
end DL
namespace DL
open PySem PySem.Spec PyProof.Rows L2
/-! ### sets of tuples, nested: the data side -/
mutual
def isKy : D → Bool
  | .int _ => true
  | .tup ds => isKys ds
  | _ => false
def isKys : List D → Bool
  | [] => true
  | d :: ds => isKy d && isKys ds
end
mutual
def nkD : D → NestedKey
  | .int i => .num i
  | .tup ds => .tup (nkDs ds)
  | _ => .none
def nkDs : List D → List NestedKey
  | [] => []
  | d :: ds => nkD d :: nkDs ds
end
mutual
def dkN : NestedKey → D
  | .num i => .int i
  | .tup ks => .tup (dkNs ks)
  | _ => .non
def dkNs : List NestedKey → List D
  | [] => []
  | k :: ks => dkN k :: dkNs ks
end
mutual
def cmpQ : D → D → Ordering
  | .int i, .int j => if i < j then .lt else if i == j then .eq else .gt
  | .tup xs, .tup ys => cmpQs xs ys
  | _, _ => .eq
def cmpQs : List D → List D → Ordering
  | [], [] => .eq
  | [], _ :: _ => .lt
  | _ :: _, [] => .gt
  | x :: xs, y :: ys => match cmpQ x y with
    | .eq => cmpQs xs ys
    | .lt => .lt
    | .gt => .gt
end
def insQ (d : D) : List D → List D
  | [] => [d]
  | y :: r => match cmpQ d y with
    | .lt => d :: y :: r
    | .eq => y :: r
    | .gt => y :: insQ d r
def sdQ : List D → List D
  | [] => []
  | d :: r => insQ d (sdQ r)
def seqQ (st : Sto) (x : D) : Option (List D) := match x with
  | .tup ds => some ds
  | x => gL1.lstOrFrz st x
/-- the shapes that the items of a set may have -/
def kSh : List Sh := [.h .i, .h (.h .i), .q (.h .i) .i, .q (.h .i) (.h .i), .h (.h (.h .i))]
def okSh (ds : List D) (t : Sh) : Bool := hasAll ds t
def okSet (ds : List D) : Bool := isKys ds && allNe ds && kSh.any (okSh ds)
def gSetQ (st : Sto) (a : List D) : Option (List D) := match a with
  | [x] => match seqQ st x with
    | some ds => if okSet ds then (match sdQ ds with
      | rs => if Nat.ble rs.length 75 then some rs else none) else none
    | none => none
  | _ => none
/-- len(set(xs)) -/
def gLenQ (st : Sto) (a : List D) : Option D := match a with
  | [x] => match seqQ st x with
    | some ds => if okSet ds then (match (sdQ ds).length with
      | n => if Nat.ble n 75 then some (.int n) else none) else none
    | none => none
  | _ => none
mutual
theorem dk_nk : ∀ d : D, isKy d = true → dkN (nkD d) = d ∧ (nkD d).data = pv d
  | .int i, _ => by simp only [nkD, dkN, NestedKey.data, pv, and_self]
  | .tup ds, h => by
    simp only [isKy] at h
    simp only [nkD, dkN, NestedKey.data, pv, (dks_nks ds h).1, (dks_nks ds h).2, and_self]
  | .non, h | .bl _, h | .str _, h | .lst _, h | .hnd _, h | .fn _, h | .frz _, h | .dhn _, h | .dic _ _, h | .dk _, h => by simp only [isKy] at h; cases h
theorem dks_nks : ∀ ds : List D, isKys ds = true → dkNs (nkDs ds) = ds ∧ NestedKey.datas (nkDs ds) = pvs ds
  | [], _ => by simp only [nkDs, dkNs, NestedKey.datas, pvs, and_self]
  | d :: ds, h => by
    simp only [isKys, Bool.and_eq_true] at h
    simp only [nkDs, dkNs, NestedKey.datas, pvs, (dk_nk d h.1).1, (dk_nk d h.1).2, (dks_nks ds h.2).1, (dks_nks ds h.2).2, and_self]
end
mutual
theorem nk_rep {K : PySem.W.Frag} {mg : Str → Option Value} {αs T : List Addr} {H : Hp} : ∀ (d : D) (v : V), isKy d = true → Rep K mg αs T H d v → DS.Nk K H (nkD d) v
  | .int i, v, _, r => by simp only [nkD, DS.Nk]; exact rep_int.mp r
  | .tup ds, v, h, r => by
    simp only [isKy] at h
    obtain ⟨a, xs, e, h1, h2⟩ := rep_tup.mp r
    simp only [nkD, DS.Nk]
    exact ⟨a, xs, e, h1.sq, nks_rep ds xs h h2⟩
  | .non, _, h, _ | .bl _, _, h, _ | .str _, _, h, _ | .lst _, _, h, _ | .hnd _, _, h, _ | .fn _, _, h, _ | .frz _, _, h, _ | .dhn _, _, h, _ | .dic _ _, _, h, _ | .dk _, _, h, _ => by simp only [isKy] at h; cases h
theorem nks_rep {K : PySem.W.Frag} {mg : Str → Option Value} {αs T : List Addr} {H : Hp} : ∀ (ds : List D) (vs : List V), isKys ds = true → Reps K mg αs T H ds vs → DS.Nks K H (nkDs ds) vs
  | [], vs, _, r => by simp only [nkDs, DS.Nks]; exact r.isNil
  | d :: ds, vs, h, r => by
    simp only [isKys, Bool.and_eq_true] at h
    simp only [Reps] at r
    obtain ⟨v, ws, e, h1, h2⟩ := r
    simp only [nkDs, DS.Nks]
    exact ⟨v, ws, e, nk_rep d v h.1 h1, nks_rep ds ws h.2 h2⟩
end
mutual
theorem nk_depth : ∀ d : D, (nkD d).depth = (nkD d).data.depth
  | .int i => by simp only [nkD, NestedKey.depth, NestedKey.data, PyData.depth]
  | .tup ds => by simp only [nkD, NestedKey.depth, NestedKey.data, PyData.depth, nks_depth ds]
  | .non | .bl _ | .str _ | .lst _ | .hnd _ | .fn _ | .frz _ | .dhn _ | .dic _ _ | .dk _ => by simp only [nkD, NestedKey.depth, NestedKey.data, PyData.depth]
theorem nks_depth : ∀ ds : List D, NestedKey.depthAll (nkDs ds) = PyData.depthAll (NestedKey.datas (nkDs ds))
  | [] => by simp only [nkDs, NestedKey.depthAll, NestedKey.datas, PyData.depthAll]
  | d :: ds => by simp only [nkDs, NestedKey.depthAll, NestedKey.datas, PyData.depthAll, nk_depth d, nks_depth ds]
end
/-! ### the order -/
theorem le_total : PySem.W.TotalLe (PySem.W.dataLe false fun p : PyData => p) := PySem.W.sortLe_total _ _ _
theorem le_lt (p q : PyData) : PySem.W.dataLe false (fun p : PyData => p) p q = !PySem.W.dataLt q p := rfl
theorem lt_asym {p q : PyData} (h : PySem.W.dataLt p q = true) : PySem.W.dataLt q p = false := by
  have t := le_total.total p q
  simp only [le_lt, Bool.not_eq_true', h] at t
  rcases t with t | t
  · exact t
  · cases t
theorem lt_trans {p q r : PyData} (h : PySem.W.dataLt p q = true) (k : PySem.W.dataLt q r = true) : PySem.W.dataLt p r = true := by
  cases c : PySem.W.dataLt p r with
  | true => rfl
  | false =>
    have h1 : PySem.W.dataLe false (fun p : PyData => p) r p = true := by rw [le_lt, c]; rfl
    have h2 : PySem.W.dataLe false (fun p : PyData => p) p q = true := by rw [le_lt, lt_asym h]; rfl
    have h3 := le_total.trans _ _ _ h1 h2
    rw [le_lt, k] at h3
    cases h3
theorem eqv_no {p q : PyData} (a : PySem.W.alike p q = true) (h : PySem.W.dataLt p q = true) : PyData.eqv p q = false := by
  cases c : PyData.eqv p q with
  | false => rfl
  | true =>
    have e := (PySem.W.toks_eqv p q a).1 c
    unfold PySem.W.dataLt at h
    rw [e] at h
    have := PyProof.Rows.lex_irrefl (O := itemOrd) (PySem.W.keyToks q)
    rw [this] at h
    cases h
theorem nil_lt (y : PyData) (ys : List PyData) : PyProof.Rows.lexLt itemOrd (PySem.W.keyToksAll []) (PySem.W.keyToksAll (y :: ys)) = true := by
  rw [PySem.W.toks_all_cons]
  simp only [PySem.W.keyToksAll]
  rw [lex_diff (O := itemOrd) (by simp)]
  rfl
mutual
theorem cmp_ok : ∀ d e : D, isKy d = true → isKy e = true → PySem.W.alike (pv d) (pv e) = true → PySem.W.alike (pv e) (pv d) = true →
    (cmpQ d e = .eq → d = e) ∧ (cmpQ d e = .lt → PySem.W.dataLt (pv d) (pv e) = true) ∧ (cmpQ d e = .gt → PySem.W.dataLt (pv e) (pv d) = true)
  | .int i, .int j, _, _, _, _ => by
    simp only [cmpQ, pv, PySem.W.dataLt_int, decide_eq_true_eq, D.int.injEq, beq_iff_eq]
    by_cases h : i < j
    · rw [if_pos h]
      exact ⟨fun e => (by cases e), fun _ => h, fun e => (by cases e)⟩
    · rw [if_neg h]
      by_cases h2 : i = j
      · rw [if_pos h2]
        exact ⟨fun _ => h2, fun e => (by cases e), fun e => (by cases e)⟩
      · rw [if_neg h2]
        exact ⟨fun e => (by cases e), fun e => (by cases e), fun _ => by omega⟩
  | .tup xs, .tup ys, h1, h2, h3, h4 => by
    simp only [isKy] at h1 h2
    simp only [pv, PySem.W.alike] at h3 h4
    have := cmps_ok xs ys h1 h2 h3 h4
    simp only [cmpQ, pv, PySem.W.dataLt_tuple, D.tup.injEq]
    exact this
  | .int _, .tup _, _, _, h, _ => by simp [pv, PySem.W.alike] at h
  | .tup _, .int _, _, _, h, _ => by simp [pv, PySem.W.alike] at h
  | .non, _, h, _, _, _ | .bl _, _, h, _, _, _ | .str _, _, h, _, _, _ | .lst _, _, h, _, _, _ | .hnd _, _, h, _, _, _ | .fn _, _, h, _, _, _ | .frz _, _, h, _, _, _ | .dhn _, _, h, _, _, _ | .dic _ _, _, h, _, _, _ | .dk _, _, h, _, _, _ => by simp only [isKy] at h; cases h
  | .int _, .non, _, h, _, _ | .int _, .bl _, _, h, _, _ | .int _, .str _, _, h, _, _ | .int _, .lst _, _, h, _, _ | .int _, .hnd _, _, h, _, _ | .int _, .fn _, _, h, _, _ | .int _, .frz _, _, h, _, _ | .int _, .dhn _, _, h, _, _ | .int _, .dic _ _, _, h, _, _ | .int _, .dk _, _, h, _, _ => by simp only [isKy] at h; cases h
  | .tup _, .non, _, h, _, _ | .tup _, .bl _, _, h, _, _ | .tup _, .str _, _, h, _, _ | .tup _, .lst _, _, h, _, _ | .tup _, .hnd _, _, h, _, _ | .tup _, .fn _, _, h, _, _ | .tup _, .frz _, _, h, _, _ | .tup _, .dhn _, _, h, _, _ | .tup _, .dic _ _, _, h, _, _ | .tup _, .dk _, _, h, _, _ => by simp only [isKy] at h; cases h
theorem cmps_ok : ∀ xs ys : List D, isKys xs = true → isKys ys = true → PySem.W.alikeAll (pvs xs) (pvs ys) = true → PySem.W.alikeAll (pvs ys) (pvs xs) = true →
    (cmpQs xs ys = .eq → xs = ys) ∧ (cmpQs xs ys = .lt → PyProof.Rows.lexLt itemOrd (PySem.W.keyToksAll (pvs xs)) (PySem.W.keyToksAll (pvs ys)) = true) ∧ (cmpQs xs ys = .gt → PyProof.Rows.lexLt itemOrd (PySem.W.keyToksAll (pvs ys)) (PySem.W.keyToksAll (pvs xs)) = true)
  | [], [], _, _, _, _ => by
    simp only [cmpQs]
    exact ⟨fun _ => (by first | rfl | trivial), fun e => (by cases e), fun e => (by cases e)⟩
  | [], y :: ys, _, _, _, _ => by
    simp only [cmpQs, pvs]
    exact ⟨fun e => (by cases e), fun _ => nil_lt _ _, fun e => (by cases e)⟩
  | x :: xs, [], _, _, _, _ => by
    simp only [cmpQs, pvs]
    exact ⟨fun e => (by cases e), fun e => (by cases e), fun _ => nil_lt _ _⟩
  | x :: xs, y :: ys, h1, h2, h3, h4 => by
    simp only [isKys, Bool.and_eq_true] at h1 h2
    simp only [pvs, PySem.W.alikeAll, Bool.and_eq_true] at h3 h4
    obtain ⟨a1, a2, a3⟩ := cmp_ok x y h1.1 h2.1 h3.1 h4.1
    obtain ⟨b1, b2, b3⟩ := cmps_ok xs ys h1.2 h2.2 h3.2 h4.2
    simp only [cmpQs, pvs]
    cases c : cmpQ x y with
    | eq =>
      have e := a1 c
      subst e
      have r := PySem.W.eqv_refl_alike _ h3.1
      rw [PySem.W.dataLt_all_yes h3.1 r, PySem.W.dataLt_all_yes h3.1 r]
      exact ⟨fun z => by rw [b1 z], b2, b3⟩
    | lt =>
      have l := a2 c
      rw [PySem.W.dataLt_all_no h3.1 (eqv_no h3.1 l)]
      exact ⟨fun e => (by cases e), fun _ => l, fun e => (by cases e)⟩
    | gt =>
      have l := a3 c
      rw [PySem.W.dataLt_all_no h4.1 (eqv_no h4.1 l)]
      exact ⟨fun e => (by cases e), fun e => (by cases e), fun _ => l⟩
end
abbrev ltP (a b : D) : Prop := PySem.W.dataLt (pv a) (pv b) = true
/-- items that can be put in an order -/
structure Ord (ds : List D) : Prop where
  ky : ∀ d ∈ ds, isKy d = true
  al : ∀ d ∈ ds, ∀ e ∈ ds, PySem.W.alike (pv d) (pv e) = true
theorem Ord.tail {d : D} {ds : List D} (h : Ord (d :: ds)) : Ord ds := ⟨fun x hx => h.ky x (List.mem_cons_of_mem _ hx), fun x hx y hy => h.al x (List.mem_cons_of_mem _ hx) y (List.mem_cons_of_mem _ hy)⟩
theorem Ord.sub {ds es : List D} (h : Ord ds) (k : ∀ d ∈ es, d ∈ ds) : Ord es := ⟨fun x hx => h.ky x (k x hx), fun x hx y hy => h.al x (k x hx) y (k y hy)⟩
theorem Ord.cmp {ds : List D} (h : Ord ds) {d e : D} (hd : d ∈ ds) (he : e ∈ ds) : (cmpQ d e = .eq → d = e) ∧ (cmpQ d e = .lt → ltP d e) ∧ (cmpQ d e = .gt → ltP e d) := cmp_ok d e (h.ky d hd) (h.ky e he) (h.al d hd e he) (h.al e he d hd)
theorem insQ_ok {d : D} : ∀ {l : List D}, Ord (d :: l) → l.Pairwise ltP → (∀ x, x ∈ insQ d l ↔ x = d ∨ x ∈ l) ∧ (insQ d l).Pairwise ltP
  | [], _, _ => by simp [insQ]
  | y :: r, h, hp => by
    have pp := List.pairwise_cons.mp hp
    have hd : d ∈ d :: y :: r := List.mem_cons_self
    have hy : y ∈ d :: y :: r := by simp
    obtain ⟨a1, a2, a3⟩ := h.cmp hd hy
    have o : Ord (d :: r) := h.sub fun x hx => by
      rcases List.mem_cons.mp hx with e | e
      · rw [e]; exact hd
      · exact List.mem_cons_of_mem _ (List.mem_cons_of_mem _ e)
    obtain ⟨b1, b2⟩ := insQ_ok o pp.2
    unfold insQ
    cases c : cmpQ d y with
    | lt =>
      refine ⟨fun x => by simp, List.pairwise_cons.mpr ⟨fun x hx => ?_, hp⟩⟩
      rcases List.mem_cons.mp hx with z | z
      · rw [z]; exact a2 c
      · exact lt_trans (a2 c) (pp.1 x z)
    | eq =>
      have e := a1 c
      subst e
      exact ⟨fun x => by simp, hp⟩
    | gt =>
      refine ⟨fun x => ?_, List.pairwise_cons.mpr ⟨fun x hx => ?_, b2⟩⟩
      · show x ∈ y :: insQ d r ↔ _
        rw [List.mem_cons, b1, List.mem_cons]
        constructor
        · rintro (z | z | z)
          · exact .inr (.inl z)
          · exact .inl z
          · exact .inr (.inr z)
        · rintro (z | z | z)
          · exact .inr (.inl z)
          · exact .inl z
          · exact .inr (.inr z)
      · rcases (b1 x).mp hx with z | z
        · rw [z]; exact a3 c
        · exact pp.1 x z
theorem sdQ_ok : ∀ {ds : List D}, Ord ds → (∀ x, x ∈ sdQ ds ↔ x ∈ ds) ∧ (sdQ ds).Pairwise ltP
  | [], _ => by simp [sdQ]
  | d :: r, h => by
    obtain ⟨a1, a2⟩ := sdQ_ok h.tail
    have o : Ord (d :: sdQ r) := h.sub fun x hx => by
      rcases List.mem_cons.mp hx with e | e
      · rw [e]; exact List.mem_cons_self
      · exact List.mem_cons_of_mem _ ((a1 x).mp e)
    obtain ⟨b1, b2⟩ := insQ_ok o a2
    unfold sdQ
    refine ⟨fun x => ?_, b2⟩
    rw [b1, a1, List.mem_cons]
theorem ltP_uniq : ∀ {l m : List D}, l.Pairwise ltP → m.Pairwise ltP → (∀ x, x ∈ l ↔ x ∈ m) → l = m
  | [], [], _, _, _ => rfl
  | [], b :: m, _, _, h => absurd ((h b).mpr List.mem_cons_self) (by simp)
  | a :: l, [], _, _, h => absurd ((h a).mp List.mem_cons_self) (by simp)
  | a :: l, b :: m, hl, hm, h => by
    have pl := List.pairwise_cons.mp hl
    have pm := List.pairwise_cons.mp hm
    have irr : ∀ x : D, ¬ ltP x x := fun x z => by have := lt_asym z; rw [z] at this; cases this
    have asy : ∀ {x y : D}, ltP x y → ltP y x → False := fun z y => by have := lt_asym z; rw [y] at this; cases this
    have e : a = b := by
      rcases List.mem_cons.mp ((h a).mp List.mem_cons_self) with z | z
      · exact z
      · rcases List.mem_cons.mp ((h b).mpr List.mem_cons_self) with y | y
        · exact y.symm
        · exact (asy (pm.1 a z) (pl.1 b y)).elim
    subst e
    rw [ltP_uniq pl.2 pm.2 fun x => ⟨fun hx => ?_, fun hx => ?_⟩]
    · rcases List.mem_cons.mp ((h x).mp (List.mem_cons_of_mem _ hx)) with z | z
      · have := pl.1 x hx; rw [z] at this; exact (irr _ this).elim
      · exact z
    · rcases List.mem_cons.mp ((h x).mpr (List.mem_cons_of_mem _ hx)) with z | z
      · have := pm.1 x hx; rw [z] at this; exact (irr _ this).elim
      · exact z
theorem isKys_mem : ∀ {ds : List D}, isKys ds = true → ∀ d ∈ ds, isKy d = true
  | d :: ds, h, x, hx => by
    simp only [isKys, Bool.and_eq_true] at h
    rcases List.mem_cons.mp hx with e | e
    · rw [e]; exact h.1
    · exact isKys_mem h.2 x e
theorem okSet_ok {ds : List D} (h : okSet ds = true) : Ord ds ∧ (∀ d ∈ ds, ∃ c cs, d = .tup (c :: cs)) ∧ ∀ d ∈ ds, (nkD d).depth ≤ 8 := by
  simp only [okSet, Bool.and_eq_true] at h
  obtain ⟨⟨h1, h2⟩, h3⟩ := h
  obtain ⟨t, ht, h4⟩ := List.any_eq_true.mp h3
  have ky := isKys_mem h1
  have td : t.depth ≤ 8 := by
    simp only [kSh, List.mem_cons, List.not_mem_nil, or_false] at ht
    rcases ht with e | e | e | e | e <;> subst e <;> decide
  refine ⟨⟨ky, fun d hd e he => hasTy_alike d e t (hasAll_mem h4 d hd) (hasAll_mem h4 e he)⟩, allNe_mem h2, fun d hd => ?_⟩
  rw [nk_depth, (dk_nk d (ky d hd)).2]
  exact Nat.le_trans (hasTy_depth d t (hasAll_mem h4 d hd)) td
end DL
namespace DL
open PySem PySem.Spec PyProof.Rows L2
section
variable {K : PySem.W.Frag} {mg : Str → Option Value} {W : WX}
theorem seqQ_ok {αs T : List Addr} {H : Hp} {st : Sto} (R : Rel K mg αs T H st) {d : D} {v : V} {ds : List D} (h : Rep K mg αs T H d v) (e : seqQ st d = some ds) : ∃ a xs, v = .ref a ∧ (SqL K H a xs ∨ SqT K H a xs) ∧ Reps K mg αs T H ds xs := by
  unfold seqQ at e
  split at e
  · cases e
    obtain ⟨a, xs, rfl, h1, h2⟩ := rep_tup.mp h
    exact ⟨a, xs, rfl, .inr h1.sq, h2⟩
  · obtain ⟨a, xs, rfl, h1, h2⟩ := lf_ok R h e
    exact ⟨a, xs, rfl, .inl h1, h2⟩
/-- the items, with their addresses -/
theorem refs_of {αs T : List Addr} {H : Hp} : ∀ {ds : List D} {xs : List V}, Reps K mg αs T H ds xs → (∀ d ∈ ds, isKy d = true) → (∀ d ∈ ds, ∃ c cs, d = .tup (c :: cs)) →
    ∃ ps : DS.KL, xs = ps.map (fun p => V.ref p.1) ∧ ps.map (·.2) = ds.map nkD ∧ ∀ p ∈ ps, ∃ d ∈ ds, p.2 = nkD d ∧ Rep K mg αs T H d (.ref p.1)
  | [], _, r, _, _ => ⟨[], r.isNil, rfl, fun p h => by cases h⟩
  | d :: ds, _, r, hk, ht => by
    simp only [Reps] at r
    obtain ⟨v, vs, rfl, h1, h2⟩ := r
    obtain ⟨ps, e1, e2, e3⟩ := refs_of h2 (fun x hx => hk x (List.mem_cons_of_mem _ hx)) fun x hx => ht x (List.mem_cons_of_mem _ hx)
    obtain ⟨c, cs, rfl⟩ := ht d List.mem_cons_self
    obtain ⟨a, ys, rfl, -, -⟩ := rep_tup.mp h1
    refine ⟨(a, nkD (.tup (c :: cs))) :: ps, by rw [List.map_cons, e1], by rw [List.map_cons, List.map_cons, e2], fun p hp => ?_⟩
    rcases List.mem_cons.mp hp with z | z
    · rw [z]; exact ⟨_, List.mem_cons_self, rfl, h1⟩
    · obtain ⟨d, m, q⟩ := e3 p z
      exact ⟨d, List.mem_cons_of_mem _ m, q⟩
theorem reps_dk {αs T : List Addr} {H : Hp} : ∀ {L : DS.KL}, (∀ p ∈ L, Rep K mg αs T H (dkN p.2) (.ref p.1)) → Reps K mg αs T H (L.map fun p => dkN p.2) (L.map fun p => V.ref p.1)
  | [], _ => .nil
  | p :: L, h => .cons (h p List.mem_cons_self) (reps_dk fun q hq => h q (List.mem_cons_of_mem _ hq))
def tSetQ (K : PySem.W.Frag) (w : World) (t : TA) : TA := tCons (tCB (DS.rSetK K w) t) tNil
/-- what the set of some items is -/
theorem setQ_run {w : World} {αs αs1 T : List Addr} {σ : L2.St} {H H1 : Hp} {st1 : Sto} {x : D} {v : V} {ds : List D} (R : Rel K mg αs1 T H1 st1) (rx : Rep K mg αs1 T H1 x v) (e : seqQ st1 x = some ds) (ok : okSet ds = true) (few : (sdQ ds).length ≤ 75) {Q : VK}
    (q : ∀ a (L : DS.KL), H1 a = none → Fr αs1 H1 αs1 (upd H1 a (DS.SetNO w a L)) → Rel K mg αs1 T (upd H1 a (DS.SetNO w a L)) st1 → Ord ds → L.length = (sdQ ds).length → (L.map (·.2)).Nodup → (∀ p ∈ L, ∃ d ∈ ds, p.2 = nkD d ∧ Rep K mg αs1 T (upd H1 a (DS.SetNO w a L)) d (.ref p.1)) → (∀ d ∈ ds, nkD d ∈ L.map (·.2)) → Q (.ref a) (upd H1 a (DS.SetNO w a L))) :
    DS.rSetK K w [v] H1 Q := by
  obtain ⟨o, ne, dp⟩ := okSet_ok ok
  obtain ⟨l, xs, rfl, hl, hx⟩ := seqQ_ok R rx e
  obtain ⟨ps, e1, e2, e3⟩ := refs_of hx o.ky ne
  subst e1
  obtain ⟨s1, s2⟩ := sdQ_ok o
  refine ⟨l, ps, (sdQ ds).map nkD, rfl, hl, fun p hp => ?_, by rw [List.length_map]; exact few, fun p hp => ?_, fun a L ha hsub hall hnd => ?_⟩
  · obtain ⟨d, m, eq, r⟩ := e3 p hp
    rw [eq]
    exact ⟨nk_rep d _ (o.ky d m) r, dp d m⟩
  · obtain ⟨d, m, eq, r⟩ := e3 p hp
    rw [eq]
    exact List.mem_map.mpr ⟨d, (s1 d).mpr m, rfl⟩
  · have f : Fr αs1 H1 αs1 (upd H1 a (DS.SetNO w a L)) := Fr.new ha
    have all : ∀ d ∈ ds, nkD d ∈ L.map (·.2) := fun d hd => by
      have : nkD d ∈ ps.map (·.2) := by rw [e2]; exact List.mem_map.mpr ⟨d, hd, rfl⟩
      obtain ⟨p, hp, ep⟩ := List.mem_map.mp this
      rw [← ep]
      exact hall p hp
    have lp : ∀ p ∈ L, ∃ d ∈ ds, p.2 = nkD d ∧ Rep K mg αs1 T (upd H1 a (DS.SetNO w a L)) d (.ref p.1) := fun p hp => by
      obtain ⟨d, m, eq, r⟩ := e3 p (hsub p hp)
      exact ⟨d, m, eq, r.fr f⟩
    refine q a L ha f (R.new ha) o ?_ hnd lp all
    have inj : ((sdQ ds).map nkD).Nodup := by
      refine List.pairwise_map.mpr (s2.imp_of_mem fun {x y} hx hy hl e => ?_)
      have ex := (dk_nk x (o.ky x ((s1 x).mp hx))).1
      have ey := (dk_nk y (o.ky y ((s1 y).mp hy))).1
      have : x = y := by rw [← ex, ← ey, e]
      rw [this] at hl
      have z := lt_asym hl
      rw [hl] at z
      cases z
    have a1 := DS.nodup_len _ _ hnd fun k hk => by
      obtain ⟨p, hp, ep⟩ := List.mem_map.mp hk
      obtain ⟨d, m, eq, _⟩ := lp p hp
      rw [← ep, eq]
      exact List.mem_map.mpr ⟨d, (s1 d).mpr m, rfl⟩
    have a2 := DS.nodup_len _ _ inj fun k hk => by
      obtain ⟨d, hd, ed⟩ := List.mem_map.mp hk
      rw [← ed]
      exact all d ((s1 d).mp hd)
    rw [List.length_map, List.length_map] at a1 a2
    omega
def tSortQ (K : PySem.W.Frag) (w : World) (t : TA) : TE := tCB (DS.rSortK K w) (tSetQ K w t)
theorem rf_setQ {w : World} {t : TA} {f : Rho → Sto → R (List D)} (h : RA K mg W t f) : RF K mg W (tSortQ K w t) (fCBn gSetQ f) := by
  intro αs T σ ρ H st Q R E q
  refine h αs T σ ρ H st _ R E ?_
  unfold fCBn at q
  cases e : f ρ st with
  | bad => rw [e] at q; exact q
  | exc c p st1 => rw [e] at q; exact q
  | ok ds0 st1 =>
    rw [e] at q
    intro αs1 H1 R1 F1 vs rx
    have q : PostG K mg W αs T σ H (DL.R.of (gSetQ st1 ds0) st1) _ := q
    cases eg : gSetQ st1 ds0 with
    | none => rw [eg] at q; exact q.elim
    | some es =>
      rw [eg] at q
      unfold gSetQ at eg
      split at eg
      · rename_i x
        split at eg
        · rename_i ds hds
          split at eg
          · rename_i ok
            dsimp only at eg
            split at eg
            · rename_i few
              cases eg
              have few := Nat.le_of_ble_eq_true few
              obtain ⟨v, rfl, hv⟩ := reps1 rx
              refine setQ_run (w := w) (αs := αs) (σ := σ) (H := H) R1 hv hds ok few fun a L ha f R2 o hlen hnd lp all => ?_
              obtain ⟨s1, s2⟩ := sdQ_ok o
              have ne := (okSet_ok ok).2.1
              have dp := (okSet_ok ok).2.2
              have dat : ∀ p ∈ L, ∃ d ∈ ds, p.2 = nkD d ∧ p.2.data = pv d := fun p hp => by
                obtain ⟨d, m, eq, _⟩ := lp p hp
                exact ⟨d, m, eq, by rw [eq]; exact (dk_nk d (o.ky d m)).2⟩
              refine ⟨a, L, rfl, upd_same, fun p hp => ?_, by rw [hlen]; exact few, fun p hp r hr => ?_, fun p hp => ?_, fun p hp => ?_, fun L' p pm pw hpn => ?_⟩
              · obtain ⟨d, m, eq, r⟩ := lp p hp
                rw [eq]
                exact ⟨nk_rep d _ (o.ky d m) r, dp d m⟩
              · obtain ⟨d, m, _, e1⟩ := dat p hp
                obtain ⟨d', m', _, e2⟩ := dat r hr
                rw [e1, e2]
                exact o.al d m d' m'
              · obtain ⟨d, m, _, e1⟩ := dat p hp
                obtain ⟨c, cs, rfl⟩ := ne d m
                rw [e1]
                exact ⟨pv c, pvs cs, by simp only [pv, pvs]⟩
              · obtain ⟨d, m, e0, e1⟩ := dat p hp
                have := dp d m
                rw [nk_depth, (dk_nk d (o.ky d m)).2] at this
                rw [e1]
                omega
              · have mem : ∀ {p}, p ∈ L' → p ∈ L := fun hp => pm.mem_iff.mp hp
                have rk : ∀ p ∈ L', Rep K mg αs1 T (upd H1 a (DS.SetNO w a L)) (dkN p.2) (.ref p.1) ∧ dkN p.2 ∈ ds ∧ p.2.data = pv (dkN p.2) := fun p hp => by
                  obtain ⟨d, m, eq, r⟩ := lp p (mem hp)
                  rw [eq, (dk_nk d (o.ky d m)).1, (dk_nk d (o.ky d m)).2]
                  exact ⟨r, m, rfl⟩
                have key : L'.map (fun p => dkN p.2) = sdQ ds := by
                  refine ltP_uniq (List.pairwise_map.mpr ?_) s2 fun x => ?_
                  · have nd2 : (L'.map (·.2)).Nodup := (pm.map (·.2)).nodup_iff.mpr hnd
                    refine List.Pairwise.imp_of_mem (R := fun p r : Addr × NestedKey => DS.leK p r = true ∧ p.2 ≠ r.2) (fun {p r} hp hr ⟨h1, h2⟩ => ?_) (pw.and (List.pairwise_map.mp nd2))
                    obtain ⟨_, m1, d1⟩ := rk p hp
                    obtain ⟨_, m2, d2⟩ := rk r hr
                    obtain ⟨c1, c2, c3⟩ := o.cmp m1 m2
                    have h1 : (!PySem.W.dataLt r.2.data p.2.data) = true := h1
                    rw [d1, d2, Bool.not_eq_true'] at h1
                    cases c : cmpQ (dkN p.2) (dkN r.2) with
                    | lt => exact c2 c
                    | gt => have := c3 c; unfold ltP at this; rw [h1] at this; cases this
                    | eq =>
                      obtain ⟨u1, v1, w1, _⟩ := lp p (mem hp)
                      obtain ⟨u2, v2, w2, _⟩ := lp r (mem hr)
                      have z := c1 c
                      rw [w1, w2, (dk_nk u1 (o.ky u1 v1)).1, (dk_nk u2 (o.ky u2 v2)).1] at z
                      exact (h2 (by rw [w1, w2, z])).elim
                  · rw [s1]
                    constructor
                    · intro hx
                      obtain ⟨p, hp, rfl⟩ := List.mem_map.mp hx
                      exact (rk p hp).2.1
                    · intro hx
                      obtain ⟨p, hp, ep⟩ := List.mem_map.mp (all x hx)
                      refine List.mem_map.mpr ⟨p, pm.mem_iff.mpr hp, ?_⟩
                      rw [ep]
                      exact (dk_nk x (o.ky x hx)).1
                have rr : Reps K mg αs1 T (upd H1 a (DS.SetNO w a L)) (sdQ ds) (L'.map fun p => V.ref p.1) := by
                  rw [← key]
                  exact reps_dk fun p hp => (rk p hp).1
                obtain ⟨a1, a2, a3, a4, a5, a6, a7⟩ := freshen (F1.trans f) R R2 rr hpn
                exact q αs1 _ a6 ((F1.trans f).trans a7) p _ a1 a2 a3 a4 a5
            · cases eg
          · cases eg
        · cases eg
      · cases eg
def tLenQ (K : PySem.W.Frag) (w : World) (t : TA) : TE := tCB (DS.rLenK w) (tSetQ K w t)
theorem re_lenQ {w : World} {t : TA} {f : Rho → Sto → R (List D)} (h : RA K mg W t f) : RE K mg W (tLenQ K w t) (fCB gLenQ f) := by
  intro αs T σ ρ H st Q R E q
  refine h αs T σ ρ H st _ R E (PostG.bind q fun ds0 st1 αs1 H1 R1 F1 h1 vs rx => ?_)
  cases eg : gLenQ st1 ds0 with
  | none => rw [eg] at h1; exact h1.elim
  | some d =>
    rw [eg] at h1
    unfold gLenQ at eg
    split at eg
    · rename_i x
      split at eg
      · rename_i ds hds
        split at eg
        · rename_i ok
          dsimp only at eg
          split at eg
          · rename_i few
            cases eg
            have few := Nat.le_of_ble_eq_true few
            obtain ⟨v, rfl, hv⟩ := reps1 rx
            refine setQ_run (w := w) (αs := αs) (σ := σ) (H := H) R1 hv hds ok few fun a L ha f R2 o hlen hnd lp all => ?_
            refine ⟨a, L, rfl, upd_same, by rw [hlen]; exact few, ?_⟩
            rw [hlen]
            exact h1 αs1 _ R2 f _ (rep_int.mpr rfl)
          · cases eg
        · cases eg
      · cases eg
    · cases eg
end
namespace Y
variable {K : PySem.W.Frag} {mg : Str → Option Value} {Y : Cy K mg} {W : WX} {e : Expr} {es : List Expr} {t : TA} {fs : Rho → Sto → R (List D)} {pos pos2 p p2 : Pos}
theorem df_setQ (hu : Y.1.A.units + 64 < cLine) (hm : mg "sorted" = none) (hm2 : mg "set" = none) (ha : DA Y W [e] t fs) (hc : Y.1.calm = true := by rfl) (hg : Gl Y.1 "sorted" := by rfl) (hg2 : Gl Y.1 "set" := by rfl)
    (he : starEach [e] Y.1.env = (false, eval e Y.1.env) :: starEach [] Y.1.env := by rfl) (he2 : starEach [.Call (.Name "set" p2) [e] [] pos2] Y.1.env = (false, eval (.Call (.Name "set" p2) [e] [] pos2) Y.1.env) :: starEach [] Y.1.env := by rfl) :
    DF Y W (.Call (.Name "sorted" p) [.Call (.Name "set" p2) [e] [] pos2] [] pos) (tSortQ K Y.1.w t) (fCBn gSetQ fs) := by
  obtain ⟨X, rfl, rfl⟩ := Y
  exact ⟨pe_callB (DS.cr_sortK hc hu) hg hm bt_sorted (pa_cons (pe_callTy (DS.cr_setK hc hu) hg2 hm2 bt_set ha.p (by decide) (by decide) he rfl) pa_nil) (by decide) (by decide) he2 rfl, rf_setQ ha.r⟩
theorem de_lenQ (hu : Y.1.A.units + 64 < cLine) (hm : mg "len" = none) (hm2 : mg "set" = none) (ha : DA Y W [e] t fs) (hc : Y.1.calm = true := by rfl) (hg : Gl Y.1 "len" := by rfl) (hg2 : Gl Y.1 "set" := by rfl)
    (he : starEach [e] Y.1.env = (false, eval e Y.1.env) :: starEach [] Y.1.env := by rfl) (he2 : starEach [.Call (.Name "set" p2) [e] [] pos2] Y.1.env = (false, eval (.Call (.Name "set" p2) [e] [] pos2) Y.1.env) :: starEach [] Y.1.env := by rfl) :
    DE Y W (.Call (.Name "len" p) [.Call (.Name "set" p2) [e] [] pos2] [] pos) (tLenQ K Y.1.w t) (fCB gLenQ fs) := by
  obtain ⟨X, rfl, rfl⟩ := Y
  exact ⟨pe_callB DS.cr_lenK hg hm bt_len (pa_cons (pe_callTy (DS.cr_setK hc hu) hg2 hm2 bt_set ha.p (by decide) (by decide) he rfl) pa_nil) (by decide) (by decide) he2 rfl, re_lenQ ha.r⟩
end Y
end DL
namespace DL
open PySem PySem.Spec PyProof.Rows L2
/-! ### sum of a list, of a tuple -/
def rSumQ (K : PySem.W.Frag) : List V → Hp → VK → Prop := fun vs H Q => ∃ (a : Addr) (ns : List Int), vs = [V.ref a] ∧ (SqL K H a (ns.map V.int) ∨ SqT K H a (ns.map V.int)) ∧ Q (.int ns.sum) H
theorem cr_sumQ {X : Cx} (hc : X.calm = true) : CallR X (.builtin "sum") (rSumQ X.K) := by
  intro pins s σ H vs us Q I r h
  obtain ⟨a, ns, rfl, hs | hs, q⟩ := h
  · exact cr_sum hc pins s σ H _ us Q I r ⟨a, ns, rfl, hs, q⟩
  · obtain ⟨its, rv, pt, hz⟩ := I.tuple hs
    rw [Vals.ref1 r]
    have hi := rv.ints
    have hl : s.heap.IsTuple a its.toArray := pt
    obtain ⟨xs, hx⟩ := hi.allInts.items
    have hn : numsOf its.toArray.toList = ns := by rw [show its.toArray.toList = its from rfl, hi.numsOf]
    rw [hx] at hl hn
    rw [PySem.nums_intItems] at hn
    refine PySem.W.ktm_sumG (I.ok.hd hc) hl fun h' tk t' hk => ⟨.int ns.sum, H, I.kept hk, ⟨t', ?_⟩, q⟩
    rw [preSum_eq, List.take_of_length_le (by simp), hn]
def gSumQ (st : Sto) (a : List D) : Option D := match a with
  | [x] => match seqQ st x with
    | some ds => match intsOf ds with
      | some ns => some (.int (sumI ns))
      | none => none
    | none => none
  | _ => none
theorem rvl_sumQ {K : PySem.W.Frag} {mg : Str → Option Value} : RVL K mg (rSumQ K) gSumQ := by
  intro αs T H st a x Q d R r e q
  unfold gSumQ at e
  split at e
  · split at e
    · rename_i ds hds
      split at e
      · rename_i ns hns
        cases e
        obtain ⟨v, rfl, hv⟩ := reps1 r
        obtain ⟨l, xs, rfl, hl, hx⟩ := seqQ_ok R hv hds
        rw [ints_ok hx hns] at hl
        exact ⟨l, ns, rfl, hl, by rw [← sumI_eq]; exact q _ H R .refl (rep_int.mpr rfl)⟩
      · cases e
    · cases e
  · cases e
end DL
namespace G13
open PySem PySem.Spec PyProof.Rows L2 DL DL.Y
def topS (i : Nat) : Stmt := PySem.Challenge.pw_zerorows_k13_main_longest_least_rows_of.main.body.getD i (.Pass ⟨0, 0, 0, 0⟩)
def shs : List Sh := [.i, .s, .h .i, .h .s, .h (.h .i), .q .i (.h .i), .h (.h (.h .i))]
theorem de_p {K : PySem.W.Frag} {mg : Str → Option Value} {Y : Cy K mg} {W : WX} {e : Expr} {t : TE} {f : Rho → Sto → DL.R D} (h : DL.Y.DE Y W e t f) : PE Y.1 e t := h.p
abbrev s__law_size : Stmt := topS 82
abbrev s__law_cells : Stmt := topS 76
abbrev s_size_in : Stmt := topS 16
abbrev s_is_number : Stmt := topS 5
abbrev s_are_numbers : Stmt := topS 9
abbrev s_is_heap : Stmt := topS 17
abbrev s_tupled : Stmt := topS 10
abbrev s_sure_heap : Stmt := topS 18
abbrev s_common_of : Stmt := topS 11
abbrev s_order_in : Stmt := topS 26
abbrev s_is_within : Stmt := topS 6
abbrev s_is_long : Stmt := topS 8
abbrev s_is_member_in : Stmt := topS 19
abbrev s_sure_member : Stmt := topS 20
abbrev s_round_row : Stmt := topS 56
abbrev s_heap_size : Stmt := topS 31
abbrev s__law_same : Stmt := topS 78
abbrev s__law_take : Stmt := topS 75
abbrev s_plus_in : Stmt := topS 22
abbrev s_best_parts : Stmt := topS 37
abbrev s_nought_of : Stmt := topS 21
abbrev s_is_free_in : Stmt := topS 38
abbrev s_sum_in : Stmt := topS 24
abbrev s_is_least_in : Stmt := topS 49
abbrev s_is_row_in : Stmt := topS 35
abbrev s_sure_row : Stmt := topS 36
abbrev s_told_both : Stmt := topS 39
abbrev s_is_least : Stmt := topS 53
abbrev s_members_in : Stmt := topS 25
abbrev s_heap_makers : Stmt := topS 32
abbrev s__law_of : Stmt := topS 77
abbrev s__law_box : Stmt := topS 74
abbrev s_times_in : Stmt := topS 23
abbrev s_led_member : Stmt := topS 60
abbrev s_led_in : Stmt := topS 63
abbrev s_is_map_in : Stmt := topS 61
abbrev s_maps_in : Stmt := topS 62
abbrev s_map_between : Stmt := topS 65
abbrev s_small_heap : Stmt := topS 64
abbrev s_alike_by : Stmt := topS 66
abbrev s_grown : Stmt := topS 44
abbrev s_closed_row : Stmt := topS 50
abbrev s_least_of : Stmt := topS 51
abbrev s_counts_in : Stmt := topS 52
abbrev s_least_counts : Stmt := topS 55
abbrev s__law_nought : Stmt := topS 84
abbrev s_sure_within : Stmt := topS 7
abbrev s_free_in : Stmt := topS 45
abbrev s_least_rows : Stmt := topS 54
abbrev s__law_call : Stmt := topS 79
abbrev s__law_slip : Stmt := topS 80
abbrev s__law_plus : Stmt := topS 83
abbrev s__law_total : Stmt := topS 85
abbrev s__law_inverse : Stmt := topS 87
abbrev s__law_free : Stmt := topS 88
abbrev s__law_least : Stmt := topS 89
abbrev s__law_members : Stmt := topS 86
abbrev s__law_gcd : Stmt := topS 81
abbrev s__law_unit : Stmt := topS 90
abbrev s_prime_part : Stmt := topS 28
abbrev s_prime_of : Stmt := topS 27
abbrev s_primes_in : Stmt := topS 29
abbrev s_base_in : Stmt := topS 30
abbrev s_is_known : Stmt := topS 43
abbrev s_star_in : Stmt := topS 42
abbrev s_davenport : Stmt := topS 47
abbrev s_free_rows : Stmt := topS 46
abbrev s_makers_in : Stmt := topS 68
abbrev s_multiples_in : Stmt := topS 69
abbrev s_tells_in : Stmt := topS 70
abbrev s_told_number : Stmt := topS 71
abbrev s_all_makers : Stmt := topS 72
abbrev s_law : Stmt := topS 91
def dd__law_size : He.DefD := ⟨("_law_size", none), "_law_size", "_law_size", defArgs s__law_size, defBody s__law_size, defScope s__law_size, [], []⟩
def dd__law_cells : He.DefD := ⟨("_law_cells", none), "_law_cells", "_law_cells", defArgs s__law_cells, defBody s__law_cells, defScope s__law_cells, [], []⟩
def dd_size_in : He.DefD := ⟨("size_in", none), "size_in", "size_in", defArgs s_size_in, defBody s_size_in, defScope s_size_in, [], []⟩
def dd_is_number : He.DefD := ⟨("is_number", none), "is_number", "is_number", defArgs s_is_number, defBody s_is_number, defScope s_is_number, [], []⟩
def dd_are_numbers : He.DefD := ⟨("are_numbers", none), "are_numbers", "are_numbers", defArgs s_are_numbers, defBody s_are_numbers, defScope s_are_numbers, [], []⟩
def dd_is_heap : He.DefD := ⟨("is_heap", none), "is_heap", "is_heap", defArgs s_is_heap, defBody s_is_heap, defScope s_is_heap, [], []⟩
def dd_tupled : He.DefD := ⟨("tupled", none), "tupled", "tupled", defArgs s_tupled, defBody s_tupled, defScope s_tupled, [], []⟩
def dd_sure_heap : He.DefD := ⟨("sure_heap", none), "sure_heap", "sure_heap", defArgs s_sure_heap, defBody s_sure_heap, defScope s_sure_heap, [], []⟩
def dd_common_of : He.DefD := ⟨("common_of", none), "common_of", "common_of", defArgs s_common_of, defBody s_common_of, defScope s_common_of, [], []⟩
def dd_order_in : He.DefD := ⟨("order_in", none), "order_in", "order_in", defArgs s_order_in, defBody s_order_in, defScope s_order_in, [], []⟩
def dd_is_within : He.DefD := ⟨("is_within", none), "is_within", "is_within", defArgs s_is_within, defBody s_is_within, defScope s_is_within, [], []⟩
def dd_is_long : He.DefD := ⟨("is_long", none), "is_long", "is_long", defArgs s_is_long, defBody s_is_long, defScope s_is_long, [], []⟩
def dd_is_member_in : He.DefD := ⟨("is_member_in", none), "is_member_in", "is_member_in", defArgs s_is_member_in, defBody s_is_member_in, defScope s_is_member_in, [], []⟩
def dd_sure_member : He.DefD := ⟨("sure_member", none), "sure_member", "sure_member", defArgs s_sure_member, defBody s_sure_member, defScope s_sure_member, [], []⟩
def dd_round_row : He.DefD := ⟨("round_row", none), "round_row", "round_row", defArgs s_round_row, defBody s_round_row, defScope s_round_row, [], []⟩
def dd_heap_size : He.DefD := ⟨("heap_size", none), "heap_size", "heap_size", defArgs s_heap_size, defBody s_heap_size, defScope s_heap_size, [], []⟩
def dd__law_same : He.DefD := ⟨("_law_same", none), "_law_same", "_law_same", defArgs s__law_same, defBody s__law_same, defScope s__law_same, [], []⟩
def dd__law_take : He.DefD := ⟨("_law_take", none), "_law_take", "_law_take", defArgs s__law_take, defBody s__law_take, defScope s__law_take, [], []⟩
def dd_plus_in : He.DefD := ⟨("plus_in", none), "plus_in", "plus_in", defArgs s_plus_in, defBody s_plus_in, defScope s_plus_in, [], []⟩
def dd_best_parts : He.DefD := ⟨("best_parts", none), "best_parts", "best_parts", defArgs s_best_parts, defBody s_best_parts, defScope s_best_parts, [], []⟩
def dd_nought_of : He.DefD := ⟨("nought_of", none), "nought_of", "nought_of", defArgs s_nought_of, defBody s_nought_of, defScope s_nought_of, [], []⟩
def dd_is_free_in : He.DefD := ⟨("is_free_in", none), "is_free_in", "is_free_in", defArgs s_is_free_in, defBody s_is_free_in, defScope s_is_free_in, [], []⟩
def dd_sum_in : He.DefD := ⟨("sum_in", none), "sum_in", "sum_in", defArgs s_sum_in, defBody s_sum_in, defScope s_sum_in, [], []⟩
def dd_is_least_in : He.DefD := ⟨("is_least_in", none), "is_least_in", "is_least_in", defArgs s_is_least_in, defBody s_is_least_in, defScope s_is_least_in, [], []⟩
def dd_is_row_in : He.DefD := ⟨("is_row_in", none), "is_row_in", "is_row_in", defArgs s_is_row_in, defBody s_is_row_in, defScope s_is_row_in, [], []⟩
def dd_sure_row : He.DefD := ⟨("sure_row", none), "sure_row", "sure_row", defArgs s_sure_row, defBody s_sure_row, defScope s_sure_row, [], []⟩
def dd_told_both : He.DefD := ⟨("told_both", none), "told_both", "told_both", defArgs s_told_both, defBody s_told_both, defScope s_told_both, [], []⟩
def dd_is_least : He.DefD := ⟨("is_least", none), "is_least", "is_least", defArgs s_is_least, defBody s_is_least, defScope s_is_least, [], []⟩
def dd_members_in : He.DefD := ⟨("members_in", none), "members_in", "members_in", defArgs s_members_in, defBody s_members_in, defScope s_members_in, [], []⟩
def dd_heap_makers : He.DefD := ⟨("heap_makers", none), "heap_makers", "heap_makers", defArgs s_heap_makers, defBody s_heap_makers, defScope s_heap_makers, [], []⟩
def dd__law_of : He.DefD := ⟨("_law_of", none), "_law_of", "_law_of", defArgs s__law_of, defBody s__law_of, defScope s__law_of, [], []⟩
def dd__law_box : He.DefD := ⟨("_law_box", none), "_law_box", "_law_box", defArgs s__law_box, defBody s__law_box, defScope s__law_box, [], []⟩
def dd_times_in : He.DefD := ⟨("times_in", none), "times_in", "times_in", defArgs s_times_in, defBody s_times_in, defScope s_times_in, [], []⟩
def dd_led_member : He.DefD := ⟨("led_member", none), "led_member", "led_member", defArgs s_led_member, defBody s_led_member, defScope s_led_member, [], []⟩
def dd_led_in : He.DefD := ⟨("led_in", none), "led_in", "led_in", defArgs s_led_in, defBody s_led_in, defScope s_led_in, [], []⟩
def dd_is_map_in : He.DefD := ⟨("is_map_in", none), "is_map_in", "is_map_in", defArgs s_is_map_in, defBody s_is_map_in, defScope s_is_map_in, [], []⟩
def dd_maps_in : He.DefD := ⟨("maps_in", none), "maps_in", "maps_in", defArgs s_maps_in, defBody s_maps_in, defScope s_maps_in, [], []⟩
def dd_map_between : He.DefD := ⟨("map_between", none), "map_between", "map_between", defArgs s_map_between, defBody s_map_between, defScope s_map_between, [], []⟩
def dd_small_heap : He.DefD := ⟨("small_heap", none), "small_heap", "small_heap", defArgs s_small_heap, defBody s_small_heap, defScope s_small_heap, [], []⟩
def dd_alike_by : He.DefD := ⟨("alike_by", none), "alike_by", "alike_by", defArgs s_alike_by, defBody s_alike_by, defScope s_alike_by, [], []⟩
def dd_grown : He.DefD := ⟨("grown", none), "grown", "grown", defArgs s_grown, defBody s_grown, defScope s_grown, [], []⟩
def dd_closed_row : He.DefD := ⟨("closed_row", none), "closed_row", "closed_row", defArgs s_closed_row, defBody s_closed_row, defScope s_closed_row, [], []⟩
def dd_least_of : He.DefD := ⟨("least_of", none), "least_of", "least_of", defArgs s_least_of, defBody s_least_of, defScope s_least_of, [], []⟩
def dd_counts_in : He.DefD := ⟨("counts_in", none), "counts_in", "counts_in", defArgs s_counts_in, defBody s_counts_in, defScope s_counts_in, [], []⟩
def dd_least_counts : He.DefD := ⟨("least_counts", none), "least_counts", "least_counts", defArgs s_least_counts, defBody s_least_counts, defScope s_least_counts, [], []⟩
def dd__law_nought : He.DefD := ⟨("_law_nought", none), "_law_nought", "_law_nought", defArgs s__law_nought, defBody s__law_nought, defScope s__law_nought, [], []⟩
def dd_sure_within : He.DefD := ⟨("sure_within", none), "sure_within", "sure_within", defArgs s_sure_within, defBody s_sure_within, defScope s_sure_within, [], []⟩
def dd_free_in : He.DefD := ⟨("free_in", none), "free_in", "free_in", defArgs s_free_in, defBody s_free_in, defScope s_free_in, [], []⟩
def dd_least_rows : He.DefD := ⟨("least_rows", none), "least_rows", "least_rows", defArgs s_least_rows, defBody s_least_rows, defScope s_least_rows, [], []⟩
def dd__law_call : He.DefD := ⟨("_law_call", none), "_law_call", "_law_call", defArgs s__law_call, defBody s__law_call, defScope s__law_call, [], []⟩
def dd__law_slip : He.DefD := ⟨("_law_slip", none), "_law_slip", "_law_slip", defArgs s__law_slip, defBody s__law_slip, defScope s__law_slip, [], []⟩
def dd__law_plus : He.DefD := ⟨("_law_plus", none), "_law_plus", "_law_plus", defArgs s__law_plus, defBody s__law_plus, defScope s__law_plus, [], []⟩
def dd__law_total : He.DefD := ⟨("_law_total", none), "_law_total", "_law_total", defArgs s__law_total, defBody s__law_total, defScope s__law_total, [], []⟩
def dd__law_inverse : He.DefD := ⟨("_law_inverse", none), "_law_inverse", "_law_inverse", defArgs s__law_inverse, defBody s__law_inverse, defScope s__law_inverse, [], []⟩
def dd__law_free : He.DefD := ⟨("_law_free", none), "_law_free", "_law_free", defArgs s__law_free, defBody s__law_free, defScope s__law_free, [], []⟩
def dd__law_least : He.DefD := ⟨("_law_least", none), "_law_least", "_law_least", defArgs s__law_least, defBody s__law_least, defScope s__law_least, [], []⟩
def dd__law_members : He.DefD := ⟨("_law_members", none), "_law_members", "_law_members", defArgs s__law_members, defBody s__law_members, defScope s__law_members, [], []⟩
def dd__law_gcd : He.DefD := ⟨("_law_gcd", none), "_law_gcd", "_law_gcd", defArgs s__law_gcd, defBody s__law_gcd, defScope s__law_gcd, [], []⟩
def dd__law_unit : He.DefD := ⟨("_law_unit", none), "_law_unit", "_law_unit", defArgs s__law_unit, defBody s__law_unit, defScope s__law_unit, [], []⟩
def dd_prime_part : He.DefD := ⟨("prime_part", none), "prime_part", "prime_part", defArgs s_prime_part, defBody s_prime_part, defScope s_prime_part, [], []⟩
def dd_prime_of : He.DefD := ⟨("prime_of", none), "prime_of", "prime_of", defArgs s_prime_of, defBody s_prime_of, defScope s_prime_of, [], []⟩
def dd_primes_in : He.DefD := ⟨("primes_in", none), "primes_in", "primes_in", defArgs s_primes_in, defBody s_primes_in, defScope s_primes_in, [], []⟩
def dd_base_in : He.DefD := ⟨("base_in", none), "base_in", "base_in", defArgs s_base_in, defBody s_base_in, defScope s_base_in, [], []⟩
def dd_is_known : He.DefD := ⟨("is_known", none), "is_known", "is_known", defArgs s_is_known, defBody s_is_known, defScope s_is_known, [], []⟩
def dd_star_in : He.DefD := ⟨("star_in", none), "star_in", "star_in", defArgs s_star_in, defBody s_star_in, defScope s_star_in, [], []⟩
def dd_davenport : He.DefD := ⟨("davenport", none), "davenport", "davenport", defArgs s_davenport, defBody s_davenport, defScope s_davenport, [], []⟩
def dd_free_rows : He.DefD := ⟨("free_rows", none), "free_rows", "free_rows", defArgs s_free_rows, defBody s_free_rows, defScope s_free_rows, [], []⟩
def dd_makers_in : He.DefD := ⟨("makers_in", none), "makers_in", "makers_in", defArgs s_makers_in, defBody s_makers_in, defScope s_makers_in, [], []⟩
def dd_multiples_in : He.DefD := ⟨("multiples_in", none), "multiples_in", "multiples_in", defArgs s_multiples_in, defBody s_multiples_in, defScope s_multiples_in, [], []⟩
def dd_tells_in : He.DefD := ⟨("tells_in", none), "tells_in", "tells_in", defArgs s_tells_in, defBody s_tells_in, defScope s_tells_in, [], []⟩
def dd_told_number : He.DefD := ⟨("told_number", none), "told_number", "told_number", defArgs s_told_number, defBody s_told_number, defScope s_told_number, [], []⟩
def dd_all_makers : He.DefD := ⟨("all_makers", none), "all_makers", "all_makers", defArgs s_all_makers, defBody s_all_makers, defScope s_all_makers, [], []⟩
def dd_law : He.DefD := ⟨("law", none), "law", "law", defArgs s_law, defBody s_law, defScope s_law, [], []⟩
def fns : List He.DefD := [dd__law_size, dd__law_cells, dd_size_in, dd_is_number, dd_are_numbers, dd_is_heap, dd_tupled, dd_sure_heap, dd_common_of, dd_order_in, dd_is_within, dd_is_long, dd_is_member_in, dd_sure_member, dd_round_row, dd_heap_size, dd__law_same, dd__law_take, dd_plus_in, dd_best_parts, dd_nought_of, dd_is_free_in, dd_sum_in, dd_is_least_in, dd_is_row_in, dd_sure_row, dd_told_both, dd_is_least, dd_members_in, dd_heap_makers, dd__law_of, dd__law_box, dd_times_in, dd_led_member, dd_led_in, dd_is_map_in, dd_maps_in, dd_map_between, dd_small_heap, dd_alike_by, dd_grown, dd_closed_row, dd_least_of, dd_counts_in, dd_least_counts, dd__law_nought, dd_sure_within, dd_free_in, dd_least_rows, dd__law_call, dd__law_slip, dd__law_plus, dd__law_total, dd__law_inverse, dd__law_free, dd__law_least, dd__law_members, dd__law_gcd, dd__law_unit, dd_prime_part, dd_prime_of, dd_primes_in, dd_base_in, dd_is_known, dd_star_in, dd_davenport, dd_free_rows, dd_makers_in, dd_multiples_in, dd_tells_in, dd_told_number, dd_all_makers, dd_law]
def fas : List He.Fa := [.glo "_law_size", .glo "_law_cells", .glo "size_in", .glo "is_number", .glo "are_numbers", .glo "is_heap", .glo "tupled", .glo "sure_heap", .glo "common_of", .glo "order_in", .glo "is_within", .glo "is_long", .glo "is_member_in", .glo "sure_member", .glo "round_row", .glo "heap_size", .glo "_law_same", .glo "_law_take", .glo "plus_in", .glo "best_parts", .glo "nought_of", .glo "is_free_in", .glo "sum_in", .glo "is_least_in", .glo "is_row_in", .glo "sure_row", .glo "told_both", .glo "is_least", .glo "members_in", .glo "heap_makers", .glo "_law_of", .glo "_law_box", .glo "times_in", .glo "led_member", .glo "led_in", .glo "is_map_in", .glo "maps_in", .glo "map_between", .glo "small_heap", .glo "alike_by", .glo "grown", .glo "closed_row", .glo "least_of", .glo "counts_in", .glo "least_counts", .glo "_law_nought", .glo "sure_within", .glo "free_in", .glo "least_rows", .glo "_law_call", .glo "_law_slip", .glo "_law_plus", .glo "_law_total", .glo "_law_inverse", .glo "_law_free", .glo "_law_least", .glo "_law_members", .glo "_law_gcd", .glo "_law_unit", .glo "prime_part", .glo "prime_of", .glo "primes_in", .glo "base_in", .glo "is_known", .glo "star_in", .glo "davenport", .glo "free_rows", .glo "makers_in", .glo "multiples_in", .glo "tells_in", .glo "told_number", .glo "all_makers", .glo "law", .free "ValueError", .free "abs", .free "all", .free "bool", .free "enumerate", .free "int", .free "isinstance", .free "len", .free "list", .free "range", .free "set", .free "sorted", .free "str", .free "sum", .free "tuple", .free "zip", .int "MOST_FREE" (2000), .int "MOST_MAPS" (400), .int "MOST_ROUND" (60), .int "MOST_ROUNDS" (4), .int "MOST_ROW" (40), .int "MOST_SIZE" (64), .int "MOST_TURNED" (32), .glo "CanNot", .glo "TooMany", .glo "Unfit", .exc "CanNot", .exc "TooMany", .exc "Unfit", .exm "CanNot" "CanNot" true, .exm "CanNot" "TooMany" false, .exm "CanNot" "Unfit" false, .exm "TooMany" "CanNot" false, .exm "TooMany" "TooMany" true, .exm "TooMany" "Unfit" false, .exm "Unfit" "CanNot" false, .exm "Unfit" "TooMany" false, .exm "Unfit" "Unfit" true]
def names0 : List PySem.Str := ["CanNot", "TooMany", "Unfit", "is_number", "is_within", "sure_within", "is_long", "are_numbers", "tupled", "common_of", "MOST_ROUNDS", "MOST_ROUND", "MOST_SIZE", "size_in", "is_heap", "sure_heap", "is_member_in", "sure_member", "nought_of", "plus_in", "times_in", "sum_in", "members_in", "order_in", "prime_of", "prime_part", "primes_in", "base_in", "heap_size", "heap_makers"]
def names1 : List PySem.Str := ["MOST_ROW", "is_row_in", "sure_row", "best_parts", "is_free_in", "told_both", "MOST_FREE", "star_in", "is_known", "grown", "free_in", "free_rows", "davenport", "is_least_in", "closed_row", "least_of", "counts_in", "is_least", "least_rows", "least_counts", "round_row", "MOST_MAPS", "MOST_TURNED", "led_member", "is_map_in", "maps_in", "led_in", "small_heap", "map_between", "alike_by"]
def names2 : List PySem.Str := ["makers_in", "multiples_in", "tells_in", "told_number", "all_makers", "_law_box", "_law_take", "_law_cells", "_law_of", "_law_same", "_law_call", "_law_slip", "_law_gcd", "_law_size", "_law_plus", "_law_nought", "_law_total", "_law_members", "_law_inverse", "_law_free", "_law_least", "_law_unit"]
def names : List PySem.Str := names0 ++ names1 ++ names2
abbrev RR : PySem.W.OpenRow := PySem.W.OpenLaw.row PySem.Challenge.rw_zerorows_k13_main_longest_least_rows_of
def xcs : List PySem.Str := ["CanNot", "TooMany", "Unfit"]
abbrev hk : PySem.W.Hook := hookX 4 fas fns xcs
def ob (s : PySem.W.SharedT) : He.AlD × Bool := obX 4 fas fns xcs (HandSHeadRun.getT s)
theorem ob_eq (s : PySem.W.SharedT) : ob s = hk.obs s.abs := obX_eq (HandSHeadRun.getT_eq s)
theorem run (w : World) : HandSHeadRun.RunEq RR (PySem.W.view RR.prog [91]) hk ob 4000 names w := by
  intro os
  kernel_rfl
structure Ev (K : PySem.W.Frag) (mg : Str → Option Value) : Prop where
  d__law_size : At K mg "_law_size" s__law_size
  d__law_cells : At K mg "_law_cells" s__law_cells
  d_size_in : At K mg "size_in" s_size_in
  d_is_number : At K mg "is_number" s_is_number
  d_are_numbers : At K mg "are_numbers" s_are_numbers
  d_is_heap : At K mg "is_heap" s_is_heap
  d_tupled : At K mg "tupled" s_tupled
  d_sure_heap : At K mg "sure_heap" s_sure_heap
  d_common_of : At K mg "common_of" s_common_of
  d_order_in : At K mg "order_in" s_order_in
  d_is_within : At K mg "is_within" s_is_within
  d_is_long : At K mg "is_long" s_is_long
  d_is_member_in : At K mg "is_member_in" s_is_member_in
  d_sure_member : At K mg "sure_member" s_sure_member
  d_round_row : At K mg "round_row" s_round_row
  d_heap_size : At K mg "heap_size" s_heap_size
  d__law_same : At K mg "_law_same" s__law_same
  d__law_take : At K mg "_law_take" s__law_take
  d_plus_in : At K mg "plus_in" s_plus_in
  d_best_parts : At K mg "best_parts" s_best_parts
  d_nought_of : At K mg "nought_of" s_nought_of
  d_is_free_in : At K mg "is_free_in" s_is_free_in
  d_sum_in : At K mg "sum_in" s_sum_in
  d_is_least_in : At K mg "is_least_in" s_is_least_in
  d_is_row_in : At K mg "is_row_in" s_is_row_in
  d_sure_row : At K mg "sure_row" s_sure_row
  d_told_both : At K mg "told_both" s_told_both
  d_is_least : At K mg "is_least" s_is_least
  d_members_in : At K mg "members_in" s_members_in
  d_heap_makers : At K mg "heap_makers" s_heap_makers
  d__law_of : At K mg "_law_of" s__law_of
  d__law_box : At K mg "_law_box" s__law_box
  d_times_in : At K mg "times_in" s_times_in
  d_led_member : At K mg "led_member" s_led_member
  d_led_in : At K mg "led_in" s_led_in
  d_is_map_in : At K mg "is_map_in" s_is_map_in
  d_maps_in : At K mg "maps_in" s_maps_in
  d_map_between : At K mg "map_between" s_map_between
  d_small_heap : At K mg "small_heap" s_small_heap
  d_alike_by : At K mg "alike_by" s_alike_by
  d_grown : At K mg "grown" s_grown
  d_closed_row : At K mg "closed_row" s_closed_row
  d_least_of : At K mg "least_of" s_least_of
  d_counts_in : At K mg "counts_in" s_counts_in
  d_least_counts : At K mg "least_counts" s_least_counts
  d__law_nought : At K mg "_law_nought" s__law_nought
  d_sure_within : At K mg "sure_within" s_sure_within
  d_free_in : At K mg "free_in" s_free_in
  d_least_rows : At K mg "least_rows" s_least_rows
  d__law_call : At K mg "_law_call" s__law_call
  d__law_slip : At K mg "_law_slip" s__law_slip
  d__law_plus : At K mg "_law_plus" s__law_plus
  d__law_total : At K mg "_law_total" s__law_total
  d__law_inverse : At K mg "_law_inverse" s__law_inverse
  d__law_free : At K mg "_law_free" s__law_free
  d__law_least : At K mg "_law_least" s__law_least
  d__law_members : At K mg "_law_members" s__law_members
  d__law_gcd : At K mg "_law_gcd" s__law_gcd
  d__law_unit : At K mg "_law_unit" s__law_unit
  d_prime_part : At K mg "prime_part" s_prime_part
  d_prime_of : At K mg "prime_of" s_prime_of
  d_primes_in : At K mg "primes_in" s_primes_in
  d_base_in : At K mg "base_in" s_base_in
  d_is_known : At K mg "is_known" s_is_known
  d_star_in : At K mg "star_in" s_star_in
  d_davenport : At K mg "davenport" s_davenport
  d_free_rows : At K mg "free_rows" s_free_rows
  d_makers_in : At K mg "makers_in" s_makers_in
  d_multiples_in : At K mg "multiples_in" s_multiples_in
  d_tells_in : At K mg "tells_in" s_tells_in
  d_told_number : At K mg "told_number" s_told_number
  d_all_makers : At K mg "all_makers" s_all_makers
  d_law : At K mg "law" s_law
  z_ValueError : mg "ValueError" = none
  z_abs : mg "abs" = none
  z_all : mg "all" = none
  z_bool : mg "bool" = none
  z_enumerate : mg "enumerate" = none
  z_int : mg "int" = none
  z_isinstance : mg "isinstance" = none
  z_len : mg "len" = none
  z_list : mg "list" = none
  z_range : mg "range" = none
  z_set : mg "set" = none
  z_sorted : mg "sorted" = none
  z_str : mg "str" = none
  z_sum : mg "sum" = none
  z_tuple : mg "tuple" = none
  z_zip : mg "zip" = none
  c_MOST_FREE : IntC mg "MOST_FREE" (2000)
  c_MOST_MAPS : IntC mg "MOST_MAPS" (400)
  c_MOST_ROUND : IntC mg "MOST_ROUND" (60)
  c_MOST_ROUNDS : IntC mg "MOST_ROUNDS" (4)
  c_MOST_ROW : IntC mg "MOST_ROW" (40)
  c_MOST_SIZE : IntC mg "MOST_SIZE" (64)
  c_MOST_TURNED : IntC mg "MOST_TURNED" (32)
  x_CanNot : ExcX K mg "CanNot"
  x_TooMany : ExcX K mg "TooMany"
  x_Unfit : ExcX K mg "Unfit"
  m_CanNot_CanNot : ExmX K mg "CanNot" "CanNot" true
  m_CanNot_TooMany : ExmX K mg "CanNot" "TooMany" false
  m_CanNot_Unfit : ExmX K mg "CanNot" "Unfit" false
  m_TooMany_CanNot : ExmX K mg "TooMany" "CanNot" false
  m_TooMany_TooMany : ExmX K mg "TooMany" "TooMany" true
  m_TooMany_Unfit : ExmX K mg "TooMany" "Unfit" false
  m_Unfit_CanNot : ExmX K mg "Unfit" "CanNot" false
  m_Unfit_TooMany : ExmX K mg "Unfit" "TooMany" false
  m_Unfit_Unfit : ExmX K mg "Unfit" "Unfit" true
theorem sc__law_size : FnScope ["heap_so", "found", "own"] ["heap_so"] (defScope s__law_size) := ⟨rfl, rfl, rfl, by decide +kernel, rfl, by decide +kernel, by decide +kernel⟩
theorem kb__law_size : KBs "_law_size" s__law_size ["heap_so"] := by
  intro kV doc pm an cdv ct ks n e1 e2 s us ws h1 h2
  subst e1
  match n, us, ws, e2, h1, h2 with
  | 0, [], [_], _, _, _ => exact .of_eq rfl
  | 1, [_], [], _, _, _ => exact .of_eq rfl
  | n + 2, _, _, e2, _, _ => exact absurd e2 (by simp)
def b__law_size_2b : Rho → Sto → DL.R Fl :=
  (fSet 1 (fOp gMulE (fVar 1) (fVar 2)))
def b__law_size_1 : Rho → Sto → DL.R Fl :=
  (fSet 1 (fC (.int 1)))
def b__law_size_2 : Rho → Sto → DL.R Fl :=
  (fFor (fAny (fVar 0)) (sName 2) b__law_size_2b)
def b__law_size_3 : Rho → Sto → DL.R Fl :=
  (fRet (fVar 1))
def b__law_size : Rho → Sto → DL.R Fl :=
  (fSeq b__law_size_1 (fSeq b__law_size_2 b__law_size_3))
def m__law_size : List D → Sto → DL.R D := runDef 1 3 b__law_size
theorem h__law_size {P : Program} {w : World} {K : PySem.W.Frag} {mg : Str → Option Value} {base : Heap} (G : Ev K mg) : Has P w K mg base 1 "_law_size" ["heap_so"] m__law_size :=
  has_mk (k := 0) (body := b__law_size) G.d__law_size sc__law_size kb__law_size rfl rfl (fun _ cdv A outer s0 H E hr => ⟨_, by
    have nd := (sc__law_size).nd
    exact (dss_cons (ds_set 1 nd de_int)
  (dss_cons (ds_for (passes_of rfl) (di_any (de_var 0)) (dg_name 2 nd) (dss_one (ds_set 1 nd (de_op rv_mulE op_mulE (de_var 1) (de_var 2)))))
  (dss_one (ds_ret (de_var 1)))))⟩)
theorem sc__law_cells : FnScope ["script", "most_so", "cells_so", "k", "bit_so", "at_so"] ["script", "most_so"] (defScope s__law_cells) := ⟨rfl, rfl, rfl, by decide +kernel, rfl, by decide +kernel, by decide +kernel⟩
theorem kb__law_cells : KBs "_law_cells" s__law_cells ["script", "most_so"] := by
  intro kV doc pm an cdv ct ks n e1 e2 s us ws h1 h2
  subst e1
  match n, us, ws, e2, h1, h2 with
  | 0, [], [_, _], _, _, _ => exact .of_eq rfl
  | 1, [_], [_], _, _, _ => exact .of_eq rfl
  | 2, [_, _], [], _, _, _ => exact .of_eq rfl
  | n + 3, _, _, e2, _, _ => exact absurd e2 (by simp)
def b__law_cells_2b : Rho → Sto → DL.R Fl :=
  (fSeq (fSet 5 (fOp gMod (fCB gInt (fCons (fVar 3) fNil)) (fVar 1)))
  (fSetIx (fOp gAdd (fOp gIx (fVar 2) (fVar 5)) (fOp gMulE (fVar 4) (fOp gAdd (fVar 3) (fC (.int 2))))) (fVar 2) (fVar 5)))
def b__law_cells_1 : Rho → Sto → DL.R Fl :=
  (fSet 2 (fThaw (fOrF (fCBn gListN (fCons (fSl (fVar 0) fNoPart (fPart (fVar 1))) fNil)) (fLine (fCons (fC (.int 0)) fNil)))))
def b__law_cells_2 : Rho → Sto → DL.R Fl :=
  (fFor (fEnum (fCons (fSl (fVar 0) (fPart (fVar 1)) (fPart (fC (.int 63)))) fNil)) (sTup 2 (sCons (sName 3) (sCons (sName 4) sNil))) b__law_cells_2b)
def b__law_cells_3 : Rho → Sto → DL.R Fl :=
  (fRet (fVar 2))
def b__law_cells : Rho → Sto → DL.R Fl :=
  (fSeq b__law_cells_1 (fSeq b__law_cells_2 b__law_cells_3))
def m__law_cells : List D → Sto → DL.R D := runDef 2 6 b__law_cells
theorem h__law_cells {P : Program} {w : World} {K : PySem.W.Frag} {mg : Str → Option Value} {base : Heap} (G : Ev K mg) : Has P w K mg base 1 "_law_cells" ["script", "most_so"] m__law_cells :=
  has_mk (k := 0) (body := b__law_cells) G.d__law_cells sc__law_cells kb__law_cells rfl rfl (fun _ cdv A outer s0 H E hr => ⟨_, by
    have nd := (sc__law_cells).nd
    exact (dss_cons (ds_set 2 nd (de_thaw (df_or (df_ct rvn_list call_list_of G.z_list bt_list (da_cons (de_sl (de_var 0) do_none (do_some (de_var 1))) da_nil)) (df_one (df_lst (da_cons de_int da_nil))))))
  (dss_cons (ds_for (passes_of rfl) (di_enum G.z_enumerate (da_cons (de_sl (de_var 0) (do_some (de_var 1)) (do_some de_int)) da_nil)) (dg_tup (dgs_cons (dg_name 3 nd) (dgs_cons (dg_name 4 nd) dgs_nil))) (dss_cons (ds_set 5 nd (de_op rv_mod op_mod (de_ct rvl_int call_int1 G.z_int bt_int (da_cons (de_var 3) da_nil)) (de_var 1)))
  (dss_one (ds_setIx (de_op rv_add op_addD (de_ix (de_var 2) (de_var 5)) (de_op rv_mulE op_mulE (de_var 4) (de_op rv_add op_addD (de_var 3) de_int))) (de_var 2) (de_var 5) (pg_sub (de_p (W := Wf E) (de_var 2)) (de_p (W := Wf E) (de_var 5)) set_list)))))
  (dss_one (ds_ret (de_var 2)))))⟩)
theorem sc_size_in : FnScope ["heap", "found", "own"] ["heap"] (defScope s_size_in) := ⟨rfl, rfl, rfl, by decide +kernel, rfl, by decide +kernel, by decide +kernel⟩
theorem kb_size_in : KBs "size_in" s_size_in ["heap"] := by
  intro kV doc pm an cdv ct ks n e1 e2 s us ws h1 h2
  subst e1
  match n, us, ws, e2, h1, h2 with
  | 0, [], [_], _, _, _ => exact .of_eq rfl
  | 1, [_], [], _, _, _ => exact .of_eq rfl
  | n + 2, _, _, e2, _, _ => exact absurd e2 (by simp)
def b_size_in_2b : Rho → Sto → DL.R Fl :=
  (fSet 1 (fOp gMulE (fVar 1) (fVar 2)))
def b_size_in_1 : Rho → Sto → DL.R Fl :=
  (fSet 1 (fC (.int 1)))
def b_size_in_2 : Rho → Sto → DL.R Fl :=
  (fFor (fAny (fVar 0)) (sName 2) b_size_in_2b)
def b_size_in_3 : Rho → Sto → DL.R Fl :=
  (fRet (fVar 1))
def b_size_in : Rho → Sto → DL.R Fl :=
  (fSeq b_size_in_1 (fSeq b_size_in_2 b_size_in_3))
def m_size_in : List D → Sto → DL.R D := runDef 1 3 b_size_in
theorem h_size_in {P : Program} {w : World} {K : PySem.W.Frag} {mg : Str → Option Value} {base : Heap} (G : Ev K mg) : Has P w K mg base 1 "size_in" ["heap"] m_size_in :=
  has_mk (k := 0) (body := b_size_in) G.d_size_in sc_size_in kb_size_in rfl rfl (fun _ cdv A outer s0 H E hr => ⟨_, by
    have nd := (sc_size_in).nd
    exact (dss_cons (ds_set 1 nd de_int)
  (dss_cons (ds_for (passes_of rfl) (di_any (de_var 0)) (dg_name 2 nd) (dss_one (ds_set 1 nd (de_op rv_mulE op_mulE (de_var 1) (de_var 2)))))
  (dss_one (ds_ret (de_var 1)))))⟩)
theorem sc_is_number : FnScope ["thing"] ["thing"] (defScope s_is_number) := ⟨rfl, rfl, rfl, by decide +kernel, rfl, by decide +kernel, by decide +kernel⟩
theorem kb_is_number : KBs "is_number" s_is_number ["thing"] := by
  intro kV doc pm an cdv ct ks n e1 e2 s us ws h1 h2
  subst e1
  match n, us, ws, e2, h1, h2 with
  | 0, [], [_], _, _, _ => exact .of_eq rfl
  | 1, [_], [], _, _, _ => exact .of_eq rfl
  | n + 2, _, _, e2, _, _ => exact absurd e2 (by simp)
def b_is_number : Rho → Sto → DL.R Fl :=
  (fRet (fAndV (fIsi .int (fVar 0)) (fNotV (fIsi .bool (fVar 0)))))
def m_is_number : List D → Sto → DL.R D := runDef 1 1 b_is_number
theorem h_is_number {P : Program} {w : World} {K : PySem.W.Frag} {mg : Str → Option Value} {base : Heap} (G : Ev K mg) : Has P w K mg base 1 "is_number" ["thing"] m_is_number :=
  has_mk (k := 0) (body := b_is_number) G.d_is_number sc_is_number kb_is_number rfl rfl (fun _ cdv A outer s0 H E hr => ⟨_, by
    have nd := (sc_is_number).nd
    exact (dss_one (ds_ret (de_and (de_isi .int G.z_isinstance G.z_int bt_int (de_var 0)) (de_one (de_not (de_isi .bool G.z_isinstance G.z_bool bt_bool (de_var 0)))))))⟩)
theorem sc_are_numbers : FnScope ["thing", "own"] ["thing"] (defScope s_are_numbers) := ⟨rfl, rfl, rfl, by decide +kernel, rfl, by decide +kernel, by decide +kernel⟩
theorem kb_are_numbers : KBs "are_numbers" s_are_numbers ["thing"] := by
  intro kV doc pm an cdv ct ks n e1 e2 s us ws h1 h2
  subst e1
  match n, us, ws, e2, h1, h2 with
  | 0, [], [_], _, _, _ => exact .of_eq rfl
  | 1, [_], [], _, _, _ => exact .of_eq rfl
  | n + 2, _, _, e2, _, _ => exact absurd e2 (by simp)
def b_are_numbers : Rho → Sto → DL.R Fl :=
  (fRet (fAndV (fIsi .tup (fVar 0)) (fCB gAll (fCons (fFresh (fLc (fAny (fVar 0)) (sName 1) fYes (fCall 1 m_is_number (fCons (fVar 1) fNil)) [1])) fNil))))
def m_are_numbers : List D → Sto → DL.R D := runDef 1 2 b_are_numbers
theorem h_are_numbers {P : Program} {w : World} {K : PySem.W.Frag} {mg : Str → Option Value} {base : Heap} (G : Ev K mg) : Has P w K mg base 2 "are_numbers" ["thing"] m_are_numbers :=
  has_mk (k := 1) (body := b_are_numbers) G.d_are_numbers sc_are_numbers kb_are_numbers rfl rfl (fun _ cdv A outer s0 H E hr => ⟨_, by
    have nd := (sc_are_numbers).nd
    exact (dss_one (ds_ret (de_and (de_isi .tup G.z_isinstance G.z_tuple bt_tuple (de_var 0)) (de_one (de_cb rvl_all (cr_all rfl) G.z_all bt_all (da_cons (de_fresh (df_lc [("own", 1)] nd (di_any (de_var 0)) (blkOk_by (by kernel_rfl)) (fun _ _ _ _ _ => (dg_name 1 nd)) (fun _ _ _ _ _ => dts_nil) (fun _ _ _ _ _ => (de_fn ((h_is_number G).up (by decide)) hr takes0 (da_cons (de_var 1) da_nil))))) da_nil))))))⟩)
theorem sc_is_heap : FnScope ["thing", "own"] ["thing"] (defScope s_is_heap) := ⟨rfl, rfl, rfl, by decide +kernel, rfl, by decide +kernel, by decide +kernel⟩
theorem kb_is_heap : KBs "is_heap" s_is_heap ["thing"] := by
  intro kV doc pm an cdv ct ks n e1 e2 s us ws h1 h2
  subst e1
  match n, us, ws, e2, h1, h2 with
  | 0, [], [_], _, _, _ => exact .of_eq rfl
  | 1, [_], [], _, _, _ => exact .of_eq rfl
  | n + 2, _, _, e2, _, _ => exact absurd e2 (by simp)
def b_is_heap : Rho → Sto → DL.R Fl :=
  (fSeq (fIfS (fOr (fNot (fTru (fCall 1 m_are_numbers (fCons (fVar 0) fNil)))) (fNot (fB (fChain gLeD gLeD (fC (.int 1)) (fCB gLen (fCons (fVar 0) fNil)) (fC (.int (4))))))) (fRet (fC (.bl false))) fNext)
  (fRet (fAndV (fCB gAll (fCons (fFresh (fLc (fAny (fVar 0)) (sName 1) fYes (fChain gLeD gLeD (fC (.int 2)) (fVar 1) (fC (.int (60)))) [1])) fNil)) (fOp gLeD (fCall 1 m_size_in (fCons (fVar 0) fNil)) (fC (.int (64)))))))
def m_is_heap : List D → Sto → DL.R D := runDef 1 2 b_is_heap
theorem h_is_heap {P : Program} {w : World} {K : PySem.W.Frag} {mg : Str → Option Value} {base : Heap} (G : Ev K mg) : Has P w K mg base 3 "is_heap" ["thing"] m_is_heap :=
  has_mk (k := 2) (body := b_is_heap) G.d_is_heap sc_is_heap kb_is_heap rfl rfl (fun _ cdv A outer s0 H E hr => ⟨_, by
    have nd := (sc_is_heap).nd
    exact (dss_cons (ds_if (dt_w (dw_or (dt_not (dt_tru (de_fn ((h_are_numbers G).up (by decide)) hr (takes_of rfl rfl rfl rfl) (da_cons (de_var 0) da_nil)))) (dw_or1 (dt_not (dt_chain rv_leD (op_leD hr.units) rv_leD (op_leD hr.units) de_int (de_cb rvl_len call_len G.z_len bt_len (da_cons (de_var 0) da_nil)) (de_constI G.c_MOST_ROUNDS)))))) (dss_one (ds_ret de_bl)) dss_nil)
  (dss_one (ds_ret (de_and (de_cb rvl_all (cr_all rfl) G.z_all bt_all (da_cons (de_fresh (df_lc [("own", 1)] nd (di_any (de_var 0)) (blkOk_by (by kernel_rfl)) (fun _ _ _ _ _ => (dg_name 1 nd)) (fun _ _ _ _ _ => dts_nil) (fun _ _ _ _ _ => (de_chain rv_leD (op_leD hr.units) rv_leD (op_leD hr.units) de_int (de_var 1) (de_constI G.c_MOST_ROUND))))) da_nil)) (de_one (de_cmp rv_leD (op_leD hr.units) (de_fn ((h_size_in G).up (by decide)) hr (takes_of rfl rfl rfl rfl) (da_cons (de_var 0) da_nil)) (de_constI G.c_MOST_SIZE) (nomark _)))))))⟩)
theorem sc_tupled : FnScope ["value", "own"] ["value"] (defScope s_tupled) := ⟨rfl, rfl, rfl, by decide +kernel, rfl, by decide +kernel, by decide +kernel⟩
theorem kb_tupled : KBs "tupled" s_tupled ["value"] := by
  intro kV doc pm an cdv ct ks n e1 e2 s us ws h1 h2
  subst e1
  match n, us, ws, e2, h1, h2 with
  | 0, [], [_], _, _, _ => exact .of_eq rfl
  | 1, [_], [], _, _, _ => exact .of_eq rfl
  | n + 2, _, _, e2, _, _ => exact absurd e2 (by simp)
def b_tupled (r : List D → Sto → DL.R D) : Rho → Sto → DL.R Fl :=
  (fRet (fIf (fTru (fIsiT [.lst, .tup] (fVar 0))) (fCB gTuple (fCons (fFresh (fLc (fAny (fVar 0)) (sName 1) fYes (fCall 1 r (fCons (fVar 1) fNil)) [1])) fNil)) (fVar 0)))
def m_tupled : Nat → List D → Sto → DL.R D
  | 0 => runDef 1 2 fNever
  | n + 1 => runDef 1 2 (b_tupled (m_tupled n))
theorem h_tupled {P : Program} {w : World} {K : PySem.W.Frag} {mg : Str → Option Value} {base : Heap} (G : Ev K mg) : ∀ n : Nat, Has P w K mg base (1 + n) "tupled" ["value"] (m_tupled n)
  | 0 => (has_no (k := 0) G.d_tupled sc_tupled kb_tupled rfl rfl)
  | n + 1 => by
    exact has_mk (k := 1 + n) (body := b_tupled (m_tupled n)) G.d_tupled sc_tupled kb_tupled rfl rfl (fun _ cdv A outer s0 H E hr => ⟨_, by
      have nd := (sc_tupled).nd
      exact (dss_one (ds_ret (de_if (dt_tru (de_isiT .lst [.tup] G.z_isinstance (pa_tys (ty := .lst) (pe_tyn rfl G.z_list bt_list) (pa_tys (ty := .tup) (pe_tyn rfl G.z_tuple bt_tuple) pa_nil)) (de_var 0))) (de_ct rvl_tuple call_tuple_of G.z_tuple bt_tuple (da_cons (de_fresh (df_lc [("own", 1)] nd (di_any (de_var 0)) (blkOk_by (by kernel_rfl)) (fun _ _ _ _ _ => (dg_name 1 nd)) (fun _ _ _ _ _ => dts_nil) (fun _ _ _ _ _ => (de_fn (h_tupled G n) hr takes0 (da_cons (de_var 1) da_nil))))) da_nil)) (de_var 0))))⟩)
theorem sc_sure_heap : FnScope ["value", "own"] ["value"] (defScope s_sure_heap) := ⟨rfl, rfl, rfl, by decide +kernel, rfl, by decide +kernel, by decide +kernel⟩
theorem kb_sure_heap : KBs "sure_heap" s_sure_heap ["value"] := by
  intro kV doc pm an cdv ct ks n e1 e2 s us ws h1 h2
  subst e1
  match n, us, ws, e2, h1, h2 with
  | 0, [], [_], _, _, _ => exact .of_eq rfl
  | 1, [_], [], _, _, _ => exact .of_eq rfl
  | n + 2, _, _, e2, _, _ => exact absurd e2 (by simp)
def b_sure_heap_1 : Rho → Sto → DL.R Fl :=
  (fSet 1 (fCall 1 (m_tupled 6) (fCons (fVar 0) fNil)))
def b_sure_heap_2 : Rho → Sto → DL.R Fl :=
  (fIfS (fNot (fTru (fCall 1 m_is_heap (fCons (fVar 1) fNil)))) (fRaise "Unfit") fNext)
def b_sure_heap_3 : Rho → Sto → DL.R Fl :=
  (fRet (fVar 1))
def b_sure_heap : Rho → Sto → DL.R Fl :=
  (fSeq b_sure_heap_1 (fSeq b_sure_heap_2 b_sure_heap_3))
def m_sure_heap : List D → Sto → DL.R D := runDef 1 2 b_sure_heap
theorem h_sure_heap {P : Program} {w : World} {K : PySem.W.Frag} {mg : Str → Option Value} {base : Heap} (G : Ev K mg) : Has P w K mg base 8 "sure_heap" ["value"] m_sure_heap :=
  has_mk (k := 7) (body := b_sure_heap) G.d_sure_heap sc_sure_heap kb_sure_heap rfl rfl (fun _ cdv A outer s0 H E hr => ⟨_, by
    have nd := (sc_sure_heap).nd
    exact (dss_cons (ds_set 1 nd (de_fn ((h_tupled G 6).up (by decide)) hr (takes_of rfl rfl rfl rfl) (da_cons (de_var 0) da_nil)))
  (dss_cons (ds_if (dt_not (dt_tru (de_fn ((h_is_heap G).up (by decide)) hr (takes_of rfl rfl rfl rfl) (da_cons (de_var 1) da_nil)))) (dss_one (ds_raise G.x_Unfit (by decide) (takes_of rfl rfl rfl rfl) )) dss_nil)
  (dss_one (ds_ret (de_var 1)))))⟩)
theorem sc_common_of : FnScope ["one", "other"] ["one", "other"] (defScope s_common_of) := ⟨rfl, rfl, rfl, by decide +kernel, rfl, by decide +kernel, by decide +kernel⟩
theorem kb_common_of : KBs "common_of" s_common_of ["one", "other"] := by
  intro kV doc pm an cdv ct ks n e1 e2 s us ws h1 h2
  subst e1
  match n, us, ws, e2, h1, h2 with
  | 0, [], [_, _], _, _, _ => exact .of_eq rfl
  | 1, [_], [_], _, _, _ => exact .of_eq rfl
  | 2, [_, _], [], _, _, _ => exact .of_eq rfl
  | n + 3, _, _, e2, _, _ => exact absurd e2 (by simp)
def b_common_of : Rho → Sto → DL.R Fl :=
  (fSeq (whileN (fB (fOp gNe (fVar 1) (fC (.int 0)))) (fPar 0 1 (fCons (fVar 1) (fCons (fOp gMod (fVar 0) (fVar 1)) fNil))) 200)
  (fRet (fCB gAbs (fCons (fVar 0) fNil))))
def m_common_of : List D → Sto → DL.R D := runDef 2 2 b_common_of
theorem h_common_of {P : Program} {w : World} {K : PySem.W.Frag} {mg : Str → Option Value} {base : Heap} (G : Ev K mg) : Has P w K mg base 1 "common_of" ["one", "other"] m_common_of :=
  has_mk (k := 0) (body := b_common_of) G.d_common_of sc_common_of kb_common_of rfl rfl (fun _ cdv A outer s0 H E hr => ⟨_, by
    have nd := (sc_common_of).nd
    exact (dss_cons (ds_while 200 (passes_of rfl) (dt_cmp rv_ne (op_neD hr.units) (de_var 1) de_int (nomark _)) (dss_one (ds_par 0 1 nd (da_cons (de_var 1) (da_cons (de_op rv_mod op_mod (de_var 0) (de_var 1)) da_nil)))))
  (dss_one (ds_ret (de_cb rvl_abs call_abs G.z_abs bt_abs (da_cons (de_var 0) da_nil)))))⟩)
theorem sc_order_in : FnScope ["heap", "member", "found", "own", "by", "part"] ["heap", "member"] (defScope s_order_in) := ⟨rfl, rfl, rfl, by decide +kernel, rfl, by decide +kernel, by decide +kernel⟩
theorem kb_order_in : KBs "order_in" s_order_in ["heap", "member"] := by
  intro kV doc pm an cdv ct ks n e1 e2 s us ws h1 h2
  subst e1
  match n, us, ws, e2, h1, h2 with
  | 0, [], [_, _], _, _, _ => exact .of_eq rfl
  | 1, [_], [_], _, _, _ => exact .of_eq rfl
  | 2, [_, _], [], _, _, _ => exact .of_eq rfl
  | n + 3, _, _, e2, _, _ => exact absurd e2 (by simp)
def b_order_in_2b : Rho → Sto → DL.R Fl :=
  (fSeq (fSet 5 (fOp gDiv (fVar 4) (fCall 2 m_common_of (fCons (fVar 3) (fCons (fVar 4) fNil)))))
  (fSet 2 (fOp gDiv (fOp gMulE (fVar 2) (fVar 5)) (fCall 2 m_common_of (fCons (fVar 2) (fCons (fVar 5) fNil))))))
def b_order_in_1 : Rho → Sto → DL.R Fl :=
  (fSet 2 (fC (.int 1)))
def b_order_in_2 : Rho → Sto → DL.R Fl :=
  (fFor (fZip2 (fCons (fVar 1) (fCons (fVar 0) fNil))) (sTup 2 (sCons (sName 3) (sCons (sName 4) sNil))) b_order_in_2b)
def b_order_in_3 : Rho → Sto → DL.R Fl :=
  (fRet (fVar 2))
def b_order_in : Rho → Sto → DL.R Fl :=
  (fSeq b_order_in_1 (fSeq b_order_in_2 b_order_in_3))
def m_order_in : List D → Sto → DL.R D := runDef 2 6 b_order_in
theorem h_order_in {P : Program} {w : World} {K : PySem.W.Frag} {mg : Str → Option Value} {base : Heap} (G : Ev K mg) : Has P w K mg base 2 "order_in" ["heap", "member"] m_order_in :=
  has_mk (k := 1) (body := b_order_in) G.d_order_in sc_order_in kb_order_in rfl rfl (fun _ cdv A outer s0 H E hr => ⟨_, by
    have nd := (sc_order_in).nd
    exact (dss_cons (ds_set 2 nd de_int)
  (dss_cons (ds_for (passes_of rfl) (di_zip2 G.z_zip (da_cons (de_var 1) (da_cons (de_var 0) da_nil))) (dg_tup (dgs_cons (dg_name 3 nd) (dgs_cons (dg_name 4 nd) dgs_nil))) (dss_cons (ds_set 5 nd (de_op rv_div op_fdiv (de_var 4) (de_fn ((h_common_of G).up (by decide)) hr (takes_of rfl rfl rfl rfl) (da_cons (de_var 3) (da_cons (de_var 4) da_nil)))))
  (dss_one (ds_set 2 nd (de_op rv_div op_fdiv (de_op rv_mulE op_mulE (de_var 2) (de_var 5)) (de_fn ((h_common_of G).up (by decide)) hr (takes_of rfl rfl rfl rfl) (da_cons (de_var 2) (da_cons (de_var 5) da_nil))))))))
  (dss_one (ds_ret (de_var 2)))))⟩)
theorem sc_is_within : FnScope ["thing", "least", "most"] ["thing", "least", "most"] (defScope s_is_within) := ⟨rfl, rfl, rfl, by decide +kernel, rfl, by decide +kernel, by decide +kernel⟩
theorem kb_is_within : KBs "is_within" s_is_within ["thing", "least", "most"] := by
  intro kV doc pm an cdv ct ks n e1 e2 s us ws h1 h2
  subst e1
  match n, us, ws, e2, h1, h2 with
  | 0, [], [_, _, _], _, _, _ => exact .of_eq rfl
  | 1, [_], [_, _], _, _, _ => exact .of_eq rfl
  | 2, [_, _], [_], _, _, _ => exact .of_eq rfl
  | 3, [_, _, _], [], _, _, _ => exact .of_eq rfl
  | n + 4, _, _, e2, _, _ => exact absurd e2 (by simp)
def b_is_within : Rho → Sto → DL.R Fl :=
  (fRet (fAndV (fCall 1 m_is_number (fCons (fVar 0) fNil)) (fChain gLeD gLeD (fVar 1) (fVar 0) (fVar 2))))
def m_is_within : List D → Sto → DL.R D := runDef 3 3 b_is_within
theorem h_is_within {P : Program} {w : World} {K : PySem.W.Frag} {mg : Str → Option Value} {base : Heap} (G : Ev K mg) : Has P w K mg base 2 "is_within" ["thing", "least", "most"] m_is_within :=
  has_mk (k := 1) (body := b_is_within) G.d_is_within sc_is_within kb_is_within rfl rfl (fun _ cdv A outer s0 H E hr => ⟨_, by
    have nd := (sc_is_within).nd
    exact (dss_one (ds_ret (de_and (de_fn ((h_is_number G).up (by decide)) hr (takes_of rfl rfl rfl rfl) (da_cons (de_var 0) da_nil)) (de_one (de_chain rv_leD (op_leD hr.units) rv_leD (op_leD hr.units) (de_var 1) (de_var 0) (de_var 2))))))⟩)
theorem sc_is_long : FnScope ["thing", "length"] ["thing", "length"] (defScope s_is_long) := ⟨rfl, rfl, rfl, by decide +kernel, rfl, by decide +kernel, by decide +kernel⟩
theorem kb_is_long : KBs "is_long" s_is_long ["thing", "length"] := by
  intro kV doc pm an cdv ct ks n e1 e2 s us ws h1 h2
  subst e1
  match n, us, ws, e2, h1, h2 with
  | 0, [], [_, _], _, _, _ => exact .of_eq rfl
  | 1, [_], [_], _, _, _ => exact .of_eq rfl
  | 2, [_, _], [], _, _, _ => exact .of_eq rfl
  | n + 3, _, _, e2, _, _ => exact absurd e2 (by simp)
def b_is_long : Rho → Sto → DL.R Fl :=
  (fRet (fAndV (fIsi .tup (fVar 0)) (fOp gEq (fCB gLen (fCons (fVar 0) fNil)) (fVar 1))))
def m_is_long : List D → Sto → DL.R D := runDef 2 2 b_is_long
theorem h_is_long {P : Program} {w : World} {K : PySem.W.Frag} {mg : Str → Option Value} {base : Heap} (G : Ev K mg) : Has P w K mg base 1 "is_long" ["thing", "length"] m_is_long :=
  has_mk (k := 0) (body := b_is_long) G.d_is_long sc_is_long kb_is_long rfl rfl (fun _ cdv A outer s0 H E hr => ⟨_, by
    have nd := (sc_is_long).nd
    exact (dss_one (ds_ret (de_and (de_isi .tup G.z_isinstance G.z_tuple bt_tuple (de_var 0)) (de_one (de_cmp rv_eq (op_eqD hr.units) (de_cb rvl_len call_len G.z_len bt_len (da_cons (de_var 0) da_nil)) (de_var 1) (nomark _))))))⟩)
theorem sc_is_member_in : FnScope ["heap", "thing", "own", "by"] ["heap", "thing"] (defScope s_is_member_in) := ⟨rfl, rfl, rfl, by decide +kernel, rfl, by decide +kernel, by decide +kernel⟩
theorem kb_is_member_in : KBs "is_member_in" s_is_member_in ["heap", "thing"] := by
  intro kV doc pm an cdv ct ks n e1 e2 s us ws h1 h2
  subst e1
  match n, us, ws, e2, h1, h2 with
  | 0, [], [_, _], _, _, _ => exact .of_eq rfl
  | 1, [_], [_], _, _, _ => exact .of_eq rfl
  | 2, [_, _], [], _, _, _ => exact .of_eq rfl
  | n + 3, _, _, e2, _, _ => exact absurd e2 (by simp)
def b_is_member_in : Rho → Sto → DL.R Fl :=
  (fRet (fAndV (fCall 2 m_is_long (fCons (fVar 1) (fCons (fCB gLen (fCons (fVar 0) fNil)) fNil))) (fCB gAll (fCons (fFresh (fLc (fZip2 (fCons (fVar 1) (fCons (fVar 0) fNil))) (sTup 2 (sCons (sName 2) (sCons (sName 3) sNil))) fYes (fCall 3 m_is_within (fCons (fVar 2) (fCons (fC (.int 0)) (fCons (fOp gSub (fVar 3) (fC (.int 1))) fNil)))) [2, 3])) fNil))))
def m_is_member_in : List D → Sto → DL.R D := runDef 2 4 b_is_member_in
theorem h_is_member_in {P : Program} {w : World} {K : PySem.W.Frag} {mg : Str → Option Value} {base : Heap} (G : Ev K mg) : Has P w K mg base 3 "is_member_in" ["heap", "thing"] m_is_member_in :=
  has_mk (k := 2) (body := b_is_member_in) G.d_is_member_in sc_is_member_in kb_is_member_in rfl rfl (fun _ cdv A outer s0 H E hr => ⟨_, by
    have nd := (sc_is_member_in).nd
    exact (dss_one (ds_ret (de_and (de_fn ((h_is_long G).up (by decide)) hr (takes_of rfl rfl rfl rfl) (da_cons (de_var 1) (da_cons (de_cb rvl_len call_len G.z_len bt_len (da_cons (de_var 0) da_nil)) da_nil))) (de_one (de_cb rvl_all (cr_all rfl) G.z_all bt_all (da_cons (de_fresh (df_lc [("own", 2), ("by", 3)] nd (di_zip2 G.z_zip (da_cons (de_var 1) (da_cons (de_var 0) da_nil))) (blkOk_by (by kernel_rfl)) (fun _ _ _ _ _ => (dg_tup (dgs_cons (dg_name 2 nd) (dgs_cons (dg_name 3 nd) dgs_nil)))) (fun _ _ _ _ _ => dts_nil) (fun _ _ _ _ _ => (de_fn ((h_is_within G).up (by decide)) hr takes0 (da_cons (de_var 2) (da_cons de_int (da_cons (de_op rv_sub op_sub (de_var 3) de_int) da_nil))))))) da_nil))))))⟩)
theorem sc_sure_member : FnScope ["heap", "value", "own"] ["heap", "value"] (defScope s_sure_member) := ⟨rfl, rfl, rfl, by decide +kernel, rfl, by decide +kernel, by decide +kernel⟩
theorem kb_sure_member : KBs "sure_member" s_sure_member ["heap", "value"] := by
  intro kV doc pm an cdv ct ks n e1 e2 s us ws h1 h2
  subst e1
  match n, us, ws, e2, h1, h2 with
  | 0, [], [_, _], _, _, _ => exact .of_eq rfl
  | 1, [_], [_], _, _, _ => exact .of_eq rfl
  | 2, [_, _], [], _, _, _ => exact .of_eq rfl
  | n + 3, _, _, e2, _, _ => exact absurd e2 (by simp)
def b_sure_member_1 : Rho → Sto → DL.R Fl :=
  (fSet 2 (fCall 1 (m_tupled 6) (fCons (fVar 1) fNil)))
def b_sure_member_2 : Rho → Sto → DL.R Fl :=
  (fIfS (fNot (fTru (fCall 2 m_is_member_in (fCons (fVar 0) (fCons (fVar 2) fNil))))) (fRaise "Unfit") fNext)
def b_sure_member_3 : Rho → Sto → DL.R Fl :=
  (fRet (fVar 2))
def b_sure_member : Rho → Sto → DL.R Fl :=
  (fSeq b_sure_member_1 (fSeq b_sure_member_2 b_sure_member_3))
def m_sure_member : List D → Sto → DL.R D := runDef 2 3 b_sure_member
theorem h_sure_member {P : Program} {w : World} {K : PySem.W.Frag} {mg : Str → Option Value} {base : Heap} (G : Ev K mg) : Has P w K mg base 8 "sure_member" ["heap", "value"] m_sure_member :=
  has_mk (k := 7) (body := b_sure_member) G.d_sure_member sc_sure_member kb_sure_member rfl rfl (fun _ cdv A outer s0 H E hr => ⟨_, by
    have nd := (sc_sure_member).nd
    exact (dss_cons (ds_set 2 nd (de_fn ((h_tupled G 6).up (by decide)) hr (takes_of rfl rfl rfl rfl) (da_cons (de_var 1) da_nil)))
  (dss_cons (ds_if (dt_not (dt_tru (de_fn ((h_is_member_in G).up (by decide)) hr (takes_of rfl rfl rfl rfl) (da_cons (de_var 0) (da_cons (de_var 2) da_nil))))) (dss_one (ds_raise G.x_Unfit (by decide) (takes_of rfl rfl rfl rfl) )) dss_nil)
  (dss_one (ds_ret (de_var 2)))))⟩)
theorem sc_round_row : FnScope ["heap", "member", "own", "here"] ["heap", "member"] (defScope s_round_row) := ⟨rfl, rfl, rfl, by decide +kernel, rfl, by decide +kernel, by decide +kernel⟩
theorem kb_round_row : KBs "round_row" s_round_row ["heap", "member"] := by
  intro kV doc pm an cdv ct ks n e1 e2 s us ws h1 h2
  subst e1
  match n, us, ws, e2, h1, h2 with
  | 0, [], [_, _], _, _, _ => exact .of_eq rfl
  | 1, [_], [_], _, _, _ => exact .of_eq rfl
  | 2, [_, _], [], _, _, _ => exact .of_eq rfl
  | n + 3, _, _, e2, _, _ => exact absurd e2 (by simp)
def b_round_row_1 : Rho → Sto → DL.R Fl :=
  (fSet 2 (fCall 1 m_sure_heap (fCons (fVar 0) fNil)))
def b_round_row_2 : Rho → Sto → DL.R Fl :=
  (fSet 3 (fCall 2 m_sure_member (fCons (fVar 2) (fCons (fVar 1) fNil))))
def b_round_row_3 : Rho → Sto → DL.R Fl :=
  (fRet (fOp gMulE (fTup (fCons (fVar 3) fNil)) (fCall 2 m_order_in (fCons (fVar 2) (fCons (fVar 3) fNil)))))
def b_round_row : Rho → Sto → DL.R Fl :=
  (fSeq b_round_row_1 (fSeq b_round_row_2 b_round_row_3))
def m_round_row : List D → Sto → DL.R D := runDef 2 4 b_round_row
theorem h_round_row {P : Program} {w : World} {K : PySem.W.Frag} {mg : Str → Option Value} {base : Heap} (G : Ev K mg) : Has P w K mg base 9 "round_row" ["heap", "member"] m_round_row :=
  has_mk (k := 8) (body := b_round_row) G.d_round_row sc_round_row kb_round_row rfl rfl (fun _ cdv A outer s0 H E hr => ⟨_, by
    have nd := (sc_round_row).nd
    exact (dss_cons (ds_set 2 nd (de_fn ((h_sure_heap G).up (by decide)) hr (takes_of rfl rfl rfl rfl) (da_cons (de_var 0) da_nil)))
  (dss_cons (ds_set 3 nd (de_fn ((h_sure_member G).up (by decide)) hr (takes_of rfl rfl rfl rfl) (da_cons (de_var 2) (da_cons (de_var 1) da_nil))))
  (dss_one (ds_ret (de_op rv_mulE op_mulE (de_tup (da_cons (de_var 3) da_nil)) (de_fn ((h_order_in G).up (by decide)) hr (takes_of rfl rfl rfl rfl) (da_cons (de_var 2) (da_cons (de_var 3) da_nil))))))))⟩)
theorem sc_heap_size : FnScope ["heap"] ["heap"] (defScope s_heap_size) := ⟨rfl, rfl, rfl, by decide +kernel, rfl, by decide +kernel, by decide +kernel⟩
theorem kb_heap_size : KBs "heap_size" s_heap_size ["heap"] := by
  intro kV doc pm an cdv ct ks n e1 e2 s us ws h1 h2
  subst e1
  match n, us, ws, e2, h1, h2 with
  | 0, [], [_], _, _, _ => exact .of_eq rfl
  | 1, [_], [], _, _, _ => exact .of_eq rfl
  | n + 2, _, _, e2, _, _ => exact absurd e2 (by simp)
def b_heap_size : Rho → Sto → DL.R Fl :=
  (fRet (fCall 1 m_size_in (fCons (fCall 1 m_sure_heap (fCons (fVar 0) fNil)) fNil)))
def m_heap_size : List D → Sto → DL.R D := runDef 1 1 b_heap_size
theorem h_heap_size {P : Program} {w : World} {K : PySem.W.Frag} {mg : Str → Option Value} {base : Heap} (G : Ev K mg) : Has P w K mg base 9 "heap_size" ["heap"] m_heap_size :=
  has_mk (k := 8) (body := b_heap_size) G.d_heap_size sc_heap_size kb_heap_size rfl rfl (fun _ cdv A outer s0 H E hr => ⟨_, by
    have nd := (sc_heap_size).nd
    exact (dss_one (ds_ret (de_fn ((h_size_in G).up (by decide)) hr (takes_of rfl rfl rfl rfl) (da_cons (de_fn ((h_sure_heap G).up (by decide)) hr (takes_of rfl rfl rfl rfl) (da_cons (de_var 0) da_nil)) da_nil))))⟩)
theorem sc__law_same : FnScope ["got", "due", "mine", "its"] ["got", "due"] (defScope s__law_same) := ⟨rfl, rfl, rfl, by decide +kernel, rfl, by decide +kernel, by decide +kernel⟩
theorem kb__law_same : KBs "_law_same" s__law_same ["got", "due"] := by
  intro kV doc pm an cdv ct ks n e1 e2 s us ws h1 h2
  subst e1
  match n, us, ws, e2, h1, h2 with
  | 0, [], [_, _], _, _, _ => exact .of_eq rfl
  | 1, [_], [_], _, _, _ => exact .of_eq rfl
  | 2, [_, _], [], _, _, _ => exact .of_eq rfl
  | n + 3, _, _, e2, _, _ => exact absurd e2 (by simp)
def b__law_same (r : List D → Sto → DL.R D) : Rho → Sto → DL.R Fl :=
  (fSeq (fIfS (fTru (fIsiT [.lst, .tup] (fVar 1))) (fSeq (fIfS (fOr (fB (fOp gNe (fIsi .lst (fVar 0)) (fIsi .lst (fVar 1)))) (fB (fOp gNe (fIsi .tup (fVar 0)) (fIsi .tup (fVar 1))))) (fRet (fC (.bl false))) fNext)
  (fRet (fAndV (fOp gEq (fCB gLen (fCons (fVar 0) fNil)) (fCB gLen (fCons (fVar 1) fNil))) (fCB gAll (fCons (fFresh (fLc (fZip2 (fCons (fVar 0) (fCons (fVar 1) fNil))) (sTup 2 (sCons (sName 2) (sCons (sName 3) sNil))) fYes (fCall 2 r (fCons (fVar 2) (fCons (fVar 3) fNil))) [2, 3])) fNil))))) fNext)
  (fSeq (fIfS (fB (fOp gIsX (fVar 1) (fC .non))) (fRet (fOp gIsX (fVar 0) (fC .non))) fNext)
  (fSeq (fIfS (fTru (fIsiT [.bool, .str] (fVar 1))) (fRet (fAndV (fOp gEq (fIsi .bool (fVar 0)) (fIsi .bool (fVar 1))) (fAndV (fOp gEq (fIsi .str (fVar 0)) (fIsi .str (fVar 1))) (fOp gEq (fVar 0) (fVar 1))))) fNext)
  (fRet (fAndV (fIsi .int (fVar 0)) (fAndV (fNotV (fIsi .bool (fVar 0))) (fOp gEq (fVar 0) (fVar 1))))))))
def m__law_same : Nat → List D → Sto → DL.R D
  | 0 => runDef 2 4 fNever
  | n + 1 => runDef 2 4 (b__law_same (m__law_same n))
theorem h__law_same {P : Program} {w : World} {K : PySem.W.Frag} {mg : Str → Option Value} {base : Heap} (G : Ev K mg) : ∀ n : Nat, Has P w K mg base (1 + n) "_law_same" ["got", "due"] (m__law_same n)
  | 0 => (has_no (k := 0) G.d__law_same sc__law_same kb__law_same rfl rfl)
  | n + 1 => by
    exact has_mk (k := 1 + n) (body := b__law_same (m__law_same n)) G.d__law_same sc__law_same kb__law_same rfl rfl (fun _ cdv A outer s0 H E hr => ⟨_, by
      have nd := (sc__law_same).nd
      exact (dss_cons (ds_if (dt_tru (de_isiT .lst [.tup] G.z_isinstance (pa_tys (ty := .lst) (pe_tyn rfl G.z_list bt_list) (pa_tys (ty := .tup) (pe_tyn rfl G.z_tuple bt_tuple) pa_nil)) (de_var 1))) (dss_cons (ds_if (dt_w (dw_or (dt_cmp rv_ne (op_neD hr.units) (de_isi .lst G.z_isinstance G.z_list bt_list (de_var 0)) (de_isi .lst G.z_isinstance G.z_list bt_list (de_var 1)) (nomark _)) (dw_or1 (dt_cmp rv_ne (op_neD hr.units) (de_isi .tup G.z_isinstance G.z_tuple bt_tuple (de_var 0)) (de_isi .tup G.z_isinstance G.z_tuple bt_tuple (de_var 1)) (nomark _))))) (dss_one (ds_ret de_bl)) dss_nil)
  (dss_one (ds_ret (de_and (de_cmp rv_eq (op_eqD hr.units) (de_cb rvl_len call_len G.z_len bt_len (da_cons (de_var 0) da_nil)) (de_cb rvl_len call_len G.z_len bt_len (da_cons (de_var 1) da_nil)) (nomark _)) (de_one (de_cb rvl_all (cr_all rfl) G.z_all bt_all (da_cons (de_fresh (df_lc [("mine", 2), ("its", 3)] nd (di_zip2 G.z_zip (da_cons (de_var 0) (da_cons (de_var 1) da_nil))) (blkOk_by (by kernel_rfl)) (fun _ _ _ _ _ => (dg_tup (dgs_cons (dg_name 2 nd) (dgs_cons (dg_name 3 nd) dgs_nil)))) (fun _ _ _ _ _ => dts_nil) (fun _ _ _ _ _ => (de_fn (h__law_same G n) hr takes0 (da_cons (de_var 2) (da_cons (de_var 3) da_nil)))))) da_nil))))))) dss_nil)
  (dss_cons (ds_if (dt_cmp rv_isX op_isX (de_var 1) de_non (nomark _)) (dss_one (ds_ret (de_cmp rv_isX op_isX (de_var 0) de_non (nomark _)))) dss_nil)
  (dss_cons (ds_if (dt_tru (de_isiT .bool [.str] G.z_isinstance (pa_tys (ty := .bool) (pe_tyn rfl G.z_bool bt_bool) (pa_tys (ty := .str) (pe_tyn rfl G.z_str bt_str) pa_nil)) (de_var 1))) (dss_one (ds_ret (de_and (de_cmp rv_eq (op_eqD hr.units) (de_isi .bool G.z_isinstance G.z_bool bt_bool (de_var 0)) (de_isi .bool G.z_isinstance G.z_bool bt_bool (de_var 1)) (nomark _)) (de_and (de_cmp rv_eq (op_eqD hr.units) (de_isi .str G.z_isinstance G.z_str bt_str (de_var 0)) (de_isi .str G.z_isinstance G.z_str bt_str (de_var 1)) (nomark _)) (de_one (de_cmp rv_eq (op_eqD hr.units) (de_var 0) (de_var 1) (nomark _))))))) dss_nil)
  (dss_one (ds_ret (de_and (de_isi .int G.z_isinstance G.z_int bt_int (de_var 0)) (de_and (de_not (de_isi .bool G.z_isinstance G.z_bool bt_bool (de_var 0))) (de_one (de_cmp rv_eq (op_eqD hr.units) (de_var 0) (de_var 1) (nomark _))))))))))⟩)
theorem sc__law_take : FnScope ["tin", "below_so", "drawn_so", "once_so", "wide_so", "twice_so"] ["tin", "below_so"] (defScope s__law_take) := ⟨rfl, rfl, rfl, by decide +kernel, rfl, by decide +kernel, by decide +kernel⟩
theorem kb__law_take : KBs "_law_take" s__law_take ["tin", "below_so"] := by
  intro kV doc pm an cdv ct ks n e1 e2 s us ws h1 h2
  subst e1
  match n, us, ws, e2, h1, h2 with
  | 0, [], [_, _], _, _, _ => exact .of_eq rfl
  | 1, [_], [_], _, _, _ => exact .of_eq rfl
  | 2, [_, _], [], _, _, _ => exact .of_eq rfl
  | n + 3, _, _, e2, _, _ => exact absurd e2 (by simp)
def b__law_take_1 : Rho → Sto → DL.R Fl :=
  (fIfS (fB (fOp gGtD (fOp gIx (fVar 0) (fC (.int 0))) (fC (.int 0)))) (fSeq (fSet 2 (fOp gMod (fCB gInt (fCons (fOp gIx (fVar 0) (fC (.int 0))) fNil)) (fVar 1)))
  (fSeq (fSetIx (fOp gDiv (fOp gIx (fVar 0) (fC (.int 0))) (fVar 1)) (fVar 0) (fC (.int 0)))
  (fRet (fVar 2)))) fNext)
def b__law_take_2 : Rho → Sto → DL.R Fl :=
  (fSetIx (fOp gAdd (fOp gIx (fVar 0) (fC (.int 2))) (fC (.int 1))) (fVar 0) (fC (.int 2)))
def b__law_take_3 : Rho → Sto → DL.R Fl :=
  (fSet 3 (fOp gMod (fCB gInt (fCons (fOp gMulE (fOp gAdd (fOp gIx (fVar 0) (fC (.int 1))) (fOp gMulE (fC (.int 48271)) (fOp gIx (fVar 0) (fC (.int 2))))) (fOp gAdd (fC (.int 39373)) (fOp gIx (fVar 0) (fC (.int 2))))) fNil)) (fC (.int 2147483647))))
def b__law_take_4 : Rho → Sto → DL.R Fl :=
  (fSet 4 (fOp gAdd (fOp gMod (fCB gInt (fCons (fVar 3) fNil)) (fC (.int 40009))) (fC (.int 7))))
def b__law_take_5 : Rho → Sto → DL.R Fl :=
  (fSet 5 (fOp gMod (fCB gInt (fCons (fOp gMulE (fOp gAdd (fOp gAdd (fVar 3) (fOp gIx (fVar 0) (fC (.int 2)))) (fOp gDiv (fOp gIx (fVar 0) (fC (.int 1))) (fC (.int 1000003)))) (fVar 4)) fNil)) (fC (.int 2147483629))))
def b__law_take_6 : Rho → Sto → DL.R Fl :=
  (fRet (fOp gMod (fCB gInt (fCons (fOp gDiv (fOp gMod (fCB gInt (fCons (fOp gAdd (fOp gMulE (fVar 5) (fC (.int 48271))) (fVar 3)) fNil)) (fC (.int 2147483587))) (fC (.int 64))) fNil)) (fVar 1)))
def b__law_take : Rho → Sto → DL.R Fl :=
  (fSeq b__law_take_1 (fSeq b__law_take_2 (fSeq b__law_take_3 (fSeq b__law_take_4 (fSeq b__law_take_5 b__law_take_6)))))
def m__law_take : List D → Sto → DL.R D := runDef 2 6 b__law_take
theorem h__law_take {P : Program} {w : World} {K : PySem.W.Frag} {mg : Str → Option Value} {base : Heap} (G : Ev K mg) : Has P w K mg base 1 "_law_take" ["tin", "below_so"] m__law_take :=
  has_mk (k := 0) (body := b__law_take) G.d__law_take sc__law_take kb__law_take rfl rfl (fun _ cdv A outer s0 H E hr => ⟨_, by
    have nd := (sc__law_take).nd
    exact (dss_cons (ds_if (dt_cmp rv_gtD (op_gtD hr.units) (de_ix (de_var 0) de_int) de_int (nomark _)) (dss_cons (ds_set 2 nd (de_op rv_mod op_mod (de_ct rvl_int call_int1 G.z_int bt_int (da_cons (de_ix (de_var 0) de_int) da_nil)) (de_var 1)))
  (dss_cons (ds_setIx (de_op rv_div op_fdiv (de_ix (de_var 0) de_int) (de_var 1)) (de_var 0) de_int (pg_sub (de_p (W := Wf E) (de_var 0)) (de_p (W := Wf E) de_int) set_list))
  (dss_one (ds_ret (de_var 2))))) dss_nil)
  (dss_cons (ds_setIx (de_op rv_add op_addD (de_ix (de_var 0) de_int) de_int) (de_var 0) de_int (pg_sub (de_p (W := Wf E) (de_var 0)) (de_p (W := Wf E) de_int) set_list))
  (dss_cons (ds_set 3 nd (de_op rv_mod op_mod (de_ct rvl_int call_int1 G.z_int bt_int (da_cons (de_op rv_mulE op_mulE (de_op rv_add op_addD (de_ix (de_var 0) de_int) (de_op rv_mulE op_mulE de_int (de_ix (de_var 0) de_int))) (de_op rv_add op_addD de_int (de_ix (de_var 0) de_int))) da_nil)) de_int))
  (dss_cons (ds_set 4 nd (de_op rv_add op_addD (de_op rv_mod op_mod (de_ct rvl_int call_int1 G.z_int bt_int (da_cons (de_var 3) da_nil)) de_int) de_int))
  (dss_cons (ds_set 5 nd (de_op rv_mod op_mod (de_ct rvl_int call_int1 G.z_int bt_int (da_cons (de_op rv_mulE op_mulE (de_op rv_add op_addD (de_op rv_add op_addD (de_var 3) (de_ix (de_var 0) de_int)) (de_op rv_div op_fdiv (de_ix (de_var 0) de_int) de_int)) (de_var 4)) da_nil)) de_int))
  (dss_one (ds_ret (de_op rv_mod op_mod (de_ct rvl_int call_int1 G.z_int bt_int (da_cons (de_op rv_div op_fdiv (de_op rv_mod op_mod (de_ct rvl_int call_int1 G.z_int bt_int (da_cons (de_op rv_add op_addD (de_op rv_mulE op_mulE (de_var 5) de_int) (de_var 3)) da_nil)) de_int) de_int) da_nil)) (de_var 1)))))))))⟩)
theorem sc_plus_in : FnScope ["heap", "one", "other", "a", "b", "by"] ["heap", "one", "other"] (defScope s_plus_in) := ⟨rfl, rfl, rfl, by decide +kernel, rfl, by decide +kernel, by decide +kernel⟩
theorem kb_plus_in : KBs "plus_in" s_plus_in ["heap", "one", "other"] := by
  intro kV doc pm an cdv ct ks n e1 e2 s us ws h1 h2
  subst e1
  match n, us, ws, e2, h1, h2 with
  | 0, [], [_, _, _], _, _, _ => exact .of_eq rfl
  | 1, [_], [_, _], _, _, _ => exact .of_eq rfl
  | 2, [_, _], [_], _, _, _ => exact .of_eq rfl
  | 3, [_, _, _], [], _, _, _ => exact .of_eq rfl
  | n + 4, _, _, e2, _, _ => exact absurd e2 (by simp)
def b_plus_in : Rho → Sto → DL.R Fl :=
  (fRet (fCB gTuple (fCons (fFresh (fLc (fZip3 (fCons (fVar 1) (fCons (fVar 2) (fCons (fVar 0) fNil)))) (sTup 3 (sCons (sName 3) (sCons (sName 4) (sCons (sName 5) sNil)))) fYes (fOp gMod (fOp gAdd (fVar 3) (fVar 4)) (fVar 5)) [3, 4, 5])) fNil)))
def m_plus_in : List D → Sto → DL.R D := runDef 3 6 b_plus_in
theorem h_plus_in {P : Program} {w : World} {K : PySem.W.Frag} {mg : Str → Option Value} {base : Heap} (G : Ev K mg) : Has P w K mg base 1 "plus_in" ["heap", "one", "other"] m_plus_in :=
  has_mk (k := 0) (body := b_plus_in) G.d_plus_in sc_plus_in kb_plus_in rfl rfl (fun _ cdv A outer s0 H E hr => ⟨_, by
    have nd := (sc_plus_in).nd
    exact (dss_one (ds_ret (de_ct rvl_tuple call_tuple_of G.z_tuple bt_tuple (da_cons (de_fresh (df_lc [("a", 3), ("b", 4), ("by", 5)] nd (di_zip3 G.z_zip (da_cons (de_var 1) (da_cons (de_var 2) (da_cons (de_var 0) da_nil)))) (blkOk_by (by kernel_rfl)) (fun _ _ _ _ _ => (dg_tup (dgs_cons (dg_name 3 nd) (dgs_cons (dg_name 4 nd) (dgs_cons (dg_name 5 nd) dgs_nil))))) (fun _ _ _ _ _ => dts_nil) (fun _ _ _ _ _ => (de_op rv_mod op_mod (de_op rv_add op_addD (de_var 3) (de_var 4)) (de_var 5))))) da_nil))))⟩)
theorem sc_best_parts : FnScope ["heap", "row", "found", "place", "member", "rows", "own", "part"] ["heap", "row"] (defScope s_best_parts) := ⟨rfl, rfl, rfl, by decide +kernel, rfl, by decide +kernel, by decide +kernel⟩
theorem kb_best_parts : KBs "best_parts" s_best_parts ["heap", "row"] := by
  intro kV doc pm an cdv ct ks n e1 e2 s us ws h1 h2
  subst e1
  match n, us, ws, e2, h1, h2 with
  | 0, [], [_, _], _, _, _ => exact .of_eq rfl
  | 1, [_], [_], _, _, _ => exact .of_eq rfl
  | 2, [_, _], [], _, _, _ => exact .of_eq rfl
  | n + 3, _, _, e2, _, _ => exact absurd e2 (by simp)
def b_best_parts_2b : Rho → Sto → DL.R Fl :=
  (fSeq (fSet 5 (fOp gAdd (fLst (fCons (fTup (fCons (fVar 4) (fCons (fTup (fCons (fVar 3) fNil)) fNil))) fNil)) (fFresh (fLcI 2 [0, 3, 4] (sTup 2 (sCons (sName 6) (sCons (sName 7) sNil))) fYes (fTup (fCons (fCall 3 m_plus_in (fCons (fVar 0) (fCons (fVar 6) (fCons (fVar 4) fNil)))) (fCons (fOp gAdd (fVar 7) (fTup (fCons (fVar 3) fNil))) fNil))) [6, 7]))))
  (fFor (fAny (fVar 5)) (sTup 2 (sCons (sName 6) (sCons (sName 7) sNil))) (fIfS (fOr (fB (fOp (gInX true) (fVar 6) (fVar 2))) (fB (fOp gLtD (fTup (fCons (fCB gLen (fCons (fVar 7) fNil)) (fCons (fVar 7) fNil))) (fTup (fCons (fCB gLen (fCons (fOp gIxX (fVar 2) (fVar 6)) fNil)) (fCons (fOp gIxX (fVar 2) (fVar 6)) fNil)))))) (fSetX (fVar 7) (fVar 2) (fVar 6)) fNext)))
def b_best_parts_1 : Rho → Sto → DL.R Fl :=
  (fSet 2 fDicN)
def b_best_parts_2 : Rho → Sto → DL.R Fl :=
  (fFor (fEnum (fCons (fVar 1) fNil)) (sTup 2 (sCons (sName 3) (sCons (sName 4) sNil))) b_best_parts_2b)
def b_best_parts_3 : Rho → Sto → DL.R Fl :=
  (fRet (fVar 2))
def b_best_parts : Rho → Sto → DL.R Fl :=
  (fSeq b_best_parts_1 (fSeq b_best_parts_2 b_best_parts_3))
def m_best_parts : List D → Sto → DL.R D := runDef 2 8 b_best_parts
theorem h_best_parts {P : Program} {w : World} {K : PySem.W.Frag} {mg : Str → Option Value} {base : Heap} (G : Ev K mg) : Has P w K mg base 2 "best_parts" ["heap", "row"] m_best_parts :=
  has_mk (k := 1) (body := b_best_parts) G.d_best_parts sc_best_parts kb_best_parts rfl rfl (fun _ cdv A outer s0 H E hr => ⟨_, by
    have nd := (sc_best_parts).nd
    exact (dss_cons (ds_set 2 nd de_dicN)
  (dss_cons (ds_for (passes_of rfl) (di_enum G.z_enumerate (da_cons (de_var 1) da_nil)) (dg_tup (dgs_cons (dg_name 3 nd) (dgs_cons (dg_name 4 nd) dgs_nil))) (dss_cons (ds_set 5 nd (de_op rv_add op_addD (de_lst (da_cons (de_tup (da_cons (de_var 4) (da_cons (de_tup (da_cons (de_var 3) da_nil)) da_nil))) da_nil)) (de_fresh (df_lcI [("own", 6), ("part", 7)] 2 [0, 3, 4] nd (blkOk_by (by kernel_rfl)) (fun _ _ _ _ _ => (dg_tup (dgs_cons (dg_name 6 nd) (dgs_cons (dg_name 7 nd) dgs_nil)))) (fun _ _ _ _ _ => dts_nil) (fun _ _ _ _ _ => (de_tup (da_cons (de_fn ((h_plus_in G).up (by decide)) hr takes0 (da_cons (de_var 0) (da_cons (de_var 6) (da_cons (de_var 4) da_nil)))) (da_cons (de_op rv_add op_addD (de_var 7) (de_tup (da_cons (de_var 3) da_nil))) da_nil))))))))
  (dss_one (ds_for (passes_of rfl) (di_any (de_var 5)) (dg_tup (dgs_cons (dg_name 6 nd) (dgs_cons (dg_name 7 nd) dgs_nil))) (dss_one (ds_if (dt_w (dw_or (dt_cmp rv_inX (op_notInX hr.units) (de_var 6) (de_var 2) rfl) (dw_or1 (dt_cmp rv_ltD (op_ltD hr.units) (de_tup (da_cons (de_cb rvl_len call_len G.z_len bt_len (da_cons (de_var 7) da_nil)) (da_cons (de_var 7) da_nil))) (de_tup (da_cons (de_cb rvl_len call_len G.z_len bt_len (da_cons (de_ixX hr.units (de_var 2) (de_var 6)) da_nil)) (da_cons (de_ixX hr.units (de_var 2) (de_var 6)) da_nil))) (nomark _))))) (dss_one (ds_setX (de_var 7) (de_var 2) (de_var 6) (pg_sub (de_p (W := Wf E) (de_var 2)) (de_p (W := Wf E) (de_var 6)) (set_X hr.units)))) dss_nil))))))
  (dss_one (ds_ret (de_var 2)))))⟩)
theorem sc_nought_of : FnScope ["heap"] ["heap"] (defScope s_nought_of) := ⟨rfl, rfl, rfl, by decide +kernel, rfl, by decide +kernel, by decide +kernel⟩
theorem kb_nought_of : KBs "nought_of" s_nought_of ["heap"] := by
  intro kV doc pm an cdv ct ks n e1 e2 s us ws h1 h2
  subst e1
  match n, us, ws, e2, h1, h2 with
  | 0, [], [_], _, _, _ => exact .of_eq rfl
  | 1, [_], [], _, _, _ => exact .of_eq rfl
  | n + 2, _, _, e2, _, _ => exact absurd e2 (by simp)
def b_nought_of : Rho → Sto → DL.R Fl :=
  (fRet (fOp gMulE (fTup (fCons (fC (.int 0)) fNil)) (fCB gLen (fCons (fVar 0) fNil))))
def m_nought_of : List D → Sto → DL.R D := runDef 1 1 b_nought_of
theorem h_nought_of {P : Program} {w : World} {K : PySem.W.Frag} {mg : Str → Option Value} {base : Heap} (G : Ev K mg) : Has P w K mg base 1 "nought_of" ["heap"] m_nought_of :=
  has_mk (k := 0) (body := b_nought_of) G.d_nought_of sc_nought_of kb_nought_of rfl rfl (fun _ cdv A outer s0 H E hr => ⟨_, by
    have nd := (sc_nought_of).nd
    exact (dss_one (ds_ret (de_op rv_mulE op_mulE (de_tup (da_cons de_int da_nil)) (de_cb rvl_len call_len G.z_len bt_len (da_cons (de_var 0) da_nil)))))⟩)
theorem sc_is_free_in : FnScope ["heap", "row"] ["heap", "row"] (defScope s_is_free_in) := ⟨rfl, rfl, rfl, by decide +kernel, rfl, by decide +kernel, by decide +kernel⟩
theorem kb_is_free_in : KBs "is_free_in" s_is_free_in ["heap", "row"] := by
  intro kV doc pm an cdv ct ks n e1 e2 s us ws h1 h2
  subst e1
  match n, us, ws, e2, h1, h2 with
  | 0, [], [_, _], _, _, _ => exact .of_eq rfl
  | 1, [_], [_], _, _, _ => exact .of_eq rfl
  | 2, [_, _], [], _, _, _ => exact .of_eq rfl
  | n + 3, _, _, e2, _, _ => exact absurd e2 (by simp)
def b_is_free_in : Rho → Sto → DL.R Fl :=
  (fRet (fOp (gInX true) (fCall 1 m_nought_of (fCons (fVar 0) fNil)) (fCall 2 m_best_parts (fCons (fVar 0) (fCons (fVar 1) fNil)))))
def m_is_free_in : List D → Sto → DL.R D := runDef 2 2 b_is_free_in
theorem h_is_free_in {P : Program} {w : World} {K : PySem.W.Frag} {mg : Str → Option Value} {base : Heap} (G : Ev K mg) : Has P w K mg base 3 "is_free_in" ["heap", "row"] m_is_free_in :=
  has_mk (k := 2) (body := b_is_free_in) G.d_is_free_in sc_is_free_in kb_is_free_in rfl rfl (fun _ cdv A outer s0 H E hr => ⟨_, by
    have nd := (sc_is_free_in).nd
    exact (dss_one (ds_ret (de_cmp rv_inX (op_notInX hr.units) (de_fn ((h_nought_of G).up (by decide)) hr (takes_of rfl rfl rfl rfl) (da_cons (de_var 0) da_nil)) (de_fn ((h_best_parts G).up (by decide)) hr (takes_of rfl rfl rfl rfl) (da_cons (de_var 0) (da_cons (de_var 1) da_nil))) rfl)))⟩)
theorem sc_sum_in : FnScope ["heap", "members", "found", "own"] ["heap", "members"] (defScope s_sum_in) := ⟨rfl, rfl, rfl, by decide +kernel, rfl, by decide +kernel, by decide +kernel⟩
theorem kb_sum_in : KBs "sum_in" s_sum_in ["heap", "members"] := by
  intro kV doc pm an cdv ct ks n e1 e2 s us ws h1 h2
  subst e1
  match n, us, ws, e2, h1, h2 with
  | 0, [], [_, _], _, _, _ => exact .of_eq rfl
  | 1, [_], [_], _, _, _ => exact .of_eq rfl
  | 2, [_, _], [], _, _, _ => exact .of_eq rfl
  | n + 3, _, _, e2, _, _ => exact absurd e2 (by simp)
def b_sum_in_2b : Rho → Sto → DL.R Fl :=
  (fSet 2 (fCall 3 m_plus_in (fCons (fVar 0) (fCons (fVar 2) (fCons (fVar 3) fNil)))))
def b_sum_in_1 : Rho → Sto → DL.R Fl :=
  (fSet 2 (fCall 1 m_nought_of (fCons (fVar 0) fNil)))
def b_sum_in_2 : Rho → Sto → DL.R Fl :=
  (fFor (fAny (fVar 1)) (sName 3) b_sum_in_2b)
def b_sum_in_3 : Rho → Sto → DL.R Fl :=
  (fRet (fVar 2))
def b_sum_in : Rho → Sto → DL.R Fl :=
  (fSeq b_sum_in_1 (fSeq b_sum_in_2 b_sum_in_3))
def m_sum_in : List D → Sto → DL.R D := runDef 2 4 b_sum_in
theorem h_sum_in {P : Program} {w : World} {K : PySem.W.Frag} {mg : Str → Option Value} {base : Heap} (G : Ev K mg) : Has P w K mg base 2 "sum_in" ["heap", "members"] m_sum_in :=
  has_mk (k := 1) (body := b_sum_in) G.d_sum_in sc_sum_in kb_sum_in rfl rfl (fun _ cdv A outer s0 H E hr => ⟨_, by
    have nd := (sc_sum_in).nd
    exact (dss_cons (ds_set 2 nd (de_fn ((h_nought_of G).up (by decide)) hr (takes_of rfl rfl rfl rfl) (da_cons (de_var 0) da_nil)))
  (dss_cons (ds_for (passes_of rfl) (di_any (de_var 1)) (dg_name 3 nd) (dss_one (ds_set 2 nd (de_fn ((h_plus_in G).up (by decide)) hr (takes_of rfl rfl rfl rfl) (da_cons (de_var 0) (da_cons (de_var 2) (da_cons (de_var 3) da_nil)))))))
  (dss_one (ds_ret (de_var 2)))))⟩)
theorem sc_is_least_in : FnScope ["heap", "row"] ["heap", "row"] (defScope s_is_least_in) := ⟨rfl, rfl, rfl, by decide +kernel, rfl, by decide +kernel, by decide +kernel⟩
theorem kb_is_least_in : KBs "is_least_in" s_is_least_in ["heap", "row"] := by
  intro kV doc pm an cdv ct ks n e1 e2 s us ws h1 h2
  subst e1
  match n, us, ws, e2, h1, h2 with
  | 0, [], [_, _], _, _, _ => exact .of_eq rfl
  | 1, [_], [_], _, _, _ => exact .of_eq rfl
  | 2, [_, _], [], _, _, _ => exact .of_eq rfl
  | n + 3, _, _, e2, _, _ => exact absurd e2 (by simp)
def b_is_least_in : Rho → Sto → DL.R Fl :=
  (fRet (fAndV (fOp gNe (fVar 1) (fTup fNil)) (fAndV (fOp gEq (fCall 2 m_sum_in (fCons (fVar 0) (fCons (fVar 1) fNil))) (fCall 1 m_nought_of (fCons (fVar 0) fNil))) (fCall 2 m_is_free_in (fCons (fVar 0) (fCons (fSl (fVar 1) fNoPart (fPart (fUn gNeg (fC (.int 1))))) fNil))))))
def m_is_least_in : List D → Sto → DL.R D := runDef 2 2 b_is_least_in
theorem h_is_least_in {P : Program} {w : World} {K : PySem.W.Frag} {mg : Str → Option Value} {base : Heap} (G : Ev K mg) : Has P w K mg base 4 "is_least_in" ["heap", "row"] m_is_least_in :=
  has_mk (k := 3) (body := b_is_least_in) G.d_is_least_in sc_is_least_in kb_is_least_in rfl rfl (fun _ cdv A outer s0 H E hr => ⟨_, by
    have nd := (sc_is_least_in).nd
    exact (dss_one (ds_ret (de_and (de_cmp rv_ne (op_neD hr.units) (de_var 1) (de_tup da_nil) (nomark _)) (de_and (de_cmp rv_eq (op_eqD hr.units) (de_fn ((h_sum_in G).up (by decide)) hr (takes_of rfl rfl rfl rfl) (da_cons (de_var 0) (da_cons (de_var 1) da_nil))) (de_fn ((h_nought_of G).up (by decide)) hr (takes_of rfl rfl rfl rfl) (da_cons (de_var 0) da_nil)) (nomark _)) (de_one (de_fn ((h_is_free_in G).up (by decide)) hr (takes_of rfl rfl rfl rfl) (da_cons (de_var 0) (da_cons (de_sl (de_var 1) do_none (do_some (de_neg de_int))) da_nil))))))))⟩)
theorem sc_is_row_in : FnScope ["heap", "thing", "one", "other", "own"] ["heap", "thing"] (defScope s_is_row_in) := ⟨rfl, rfl, rfl, by decide +kernel, rfl, by decide +kernel, by decide +kernel⟩
theorem kb_is_row_in : KBs "is_row_in" s_is_row_in ["heap", "thing"] := by
  intro kV doc pm an cdv ct ks n e1 e2 s us ws h1 h2
  subst e1
  match n, us, ws, e2, h1, h2 with
  | 0, [], [_, _], _, _, _ => exact .of_eq rfl
  | 1, [_], [_], _, _, _ => exact .of_eq rfl
  | 2, [_, _], [], _, _, _ => exact .of_eq rfl
  | n + 3, _, _, e2, _, _ => exact absurd e2 (by simp)
def b_is_row_in : Rho → Sto → DL.R Fl :=
  (fSeq (fIfS (fOr (fNot (fTru (fIsi .tup (fVar 1)))) (fOr (fB (fOp gGtD (fCB gLen (fCons (fVar 1) fNil)) (fC (.int (40))))) (fNot (fTru (fCB gAll (fCons (fFresh (fLc (fAny (fVar 1)) (sName 4) fYes (fCall 2 m_is_member_in (fCons (fVar 0) (fCons (fVar 4) fNil))) [4])) fNil)))))) (fRet (fC (.bl false))) fNext)
  (fRet (fCB gAll (fCons (fFresh (fLc (fZip2 (fCons (fVar 1) (fCons (fSl (fVar 1) (fPart (fC (.int 1))) fNoPart) fNil))) (sTup 2 (sCons (sName 2) (sCons (sName 3) sNil))) fYes (fOp gLeD (fVar 2) (fVar 3)) [2, 3])) fNil))))
def m_is_row_in : List D → Sto → DL.R D := runDef 2 5 b_is_row_in
theorem h_is_row_in {P : Program} {w : World} {K : PySem.W.Frag} {mg : Str → Option Value} {base : Heap} (G : Ev K mg) : Has P w K mg base 4 "is_row_in" ["heap", "thing"] m_is_row_in :=
  has_mk (k := 3) (body := b_is_row_in) G.d_is_row_in sc_is_row_in kb_is_row_in rfl rfl (fun _ cdv A outer s0 H E hr => ⟨_, by
    have nd := (sc_is_row_in).nd
    exact (dss_cons (ds_if (dt_w (dw_or (dt_not (dt_tru (de_isi .tup G.z_isinstance G.z_tuple bt_tuple (de_var 1)))) (dw_or (dt_cmp rv_gtD (op_gtD hr.units) (de_cb rvl_len call_len G.z_len bt_len (da_cons (de_var 1) da_nil)) (de_constI G.c_MOST_ROW) (nomark _)) (dw_or1 (dt_not (dt_tru (de_cb rvl_all (cr_all rfl) G.z_all bt_all (da_cons (de_fresh (df_lc [("own", 4)] nd (di_any (de_var 1)) (blkOk_by (by kernel_rfl)) (fun _ _ _ _ _ => (dg_name 4 nd)) (fun _ _ _ _ _ => dts_nil) (fun _ _ _ _ _ => (de_fn ((h_is_member_in G).up (by decide)) hr takes0 (da_cons (de_var 0) (da_cons (de_var 4) da_nil)))))) da_nil)))))))) (dss_one (ds_ret de_bl)) dss_nil)
  (dss_one (ds_ret (de_cb rvl_all (cr_all rfl) G.z_all bt_all (da_cons (de_fresh (df_lc [("one", 2), ("other", 3)] nd (di_zip2 G.z_zip (da_cons (de_var 1) (da_cons (de_sl (de_var 1) (do_some de_int) do_none) da_nil))) (blkOk_by (by kernel_rfl)) (fun _ _ _ _ _ => (dg_tup (dgs_cons (dg_name 2 nd) (dgs_cons (dg_name 3 nd) dgs_nil)))) (fun _ _ _ _ _ => dts_nil) (fun _ _ _ _ _ => (de_cmp rv_leD (op_leD hr.units) (de_var 2) (de_var 3) (nomark _))))) da_nil)))))⟩)
theorem sc_sure_row : FnScope ["heap", "value", "own"] ["heap", "value"] (defScope s_sure_row) := ⟨rfl, rfl, rfl, by decide +kernel, rfl, by decide +kernel, by decide +kernel⟩
theorem kb_sure_row : KBs "sure_row" s_sure_row ["heap", "value"] := by
  intro kV doc pm an cdv ct ks n e1 e2 s us ws h1 h2
  subst e1
  match n, us, ws, e2, h1, h2 with
  | 0, [], [_, _], _, _, _ => exact .of_eq rfl
  | 1, [_], [_], _, _, _ => exact .of_eq rfl
  | 2, [_, _], [], _, _, _ => exact .of_eq rfl
  | n + 3, _, _, e2, _, _ => exact absurd e2 (by simp)
def b_sure_row_1 : Rho → Sto → DL.R Fl :=
  (fSet 2 (fCall 1 (m_tupled 6) (fCons (fVar 1) fNil)))
def b_sure_row_2 : Rho → Sto → DL.R Fl :=
  (fIfS (fNot (fTru (fCall 2 m_is_row_in (fCons (fVar 0) (fCons (fVar 2) fNil))))) (fRaise "Unfit") fNext)
def b_sure_row_3 : Rho → Sto → DL.R Fl :=
  (fRet (fVar 2))
def b_sure_row : Rho → Sto → DL.R Fl :=
  (fSeq b_sure_row_1 (fSeq b_sure_row_2 b_sure_row_3))
def m_sure_row : List D → Sto → DL.R D := runDef 2 3 b_sure_row
theorem h_sure_row {P : Program} {w : World} {K : PySem.W.Frag} {mg : Str → Option Value} {base : Heap} (G : Ev K mg) : Has P w K mg base 8 "sure_row" ["heap", "value"] m_sure_row :=
  has_mk (k := 7) (body := b_sure_row) G.d_sure_row sc_sure_row kb_sure_row rfl rfl (fun _ cdv A outer s0 H E hr => ⟨_, by
    have nd := (sc_sure_row).nd
    exact (dss_cons (ds_set 2 nd (de_fn ((h_tupled G 6).up (by decide)) hr (takes_of rfl rfl rfl rfl) (da_cons (de_var 1) da_nil)))
  (dss_cons (ds_if (dt_not (dt_tru (de_fn ((h_is_row_in G).up (by decide)) hr (takes_of rfl rfl rfl rfl) (da_cons (de_var 0) (da_cons (de_var 2) da_nil))))) (dss_one (ds_raise G.x_Unfit (by decide) (takes_of rfl rfl rfl rfl) )) dss_nil)
  (dss_one (ds_ret (de_var 2)))))⟩)
theorem sc_told_both : FnScope ["heap", "row", "own"] ["heap", "row"] (defScope s_told_both) := ⟨rfl, rfl, rfl, by decide +kernel, rfl, by decide +kernel, by decide +kernel⟩
theorem kb_told_both : KBs "told_both" s_told_both ["heap", "row"] := by
  intro kV doc pm an cdv ct ks n e1 e2 s us ws h1 h2
  subst e1
  match n, us, ws, e2, h1, h2 with
  | 0, [], [_, _], _, _, _ => exact .of_eq rfl
  | 1, [_], [_], _, _, _ => exact .of_eq rfl
  | 2, [_, _], [], _, _, _ => exact .of_eq rfl
  | n + 3, _, _, e2, _, _ => exact absurd e2 (by simp)
def b_told_both : Rho → Sto → DL.R Fl :=
  (fSeq (fSet 2 (fCall 1 m_sure_heap (fCons (fVar 0) fNil)))
  (fRet (fTup (fCons (fVar 2) (fCons (fCall 2 m_sure_row (fCons (fVar 2) (fCons (fVar 1) fNil))) fNil)))))
def m_told_both : List D → Sto → DL.R D := runDef 2 3 b_told_both
theorem h_told_both {P : Program} {w : World} {K : PySem.W.Frag} {mg : Str → Option Value} {base : Heap} (G : Ev K mg) : Has P w K mg base 9 "told_both" ["heap", "row"] m_told_both :=
  has_mk (k := 8) (body := b_told_both) G.d_told_both sc_told_both kb_told_both rfl rfl (fun _ cdv A outer s0 H E hr => ⟨_, by
    have nd := (sc_told_both).nd
    exact (dss_cons (ds_set 2 nd (de_fn ((h_sure_heap G).up (by decide)) hr (takes_of rfl rfl rfl rfl) (da_cons (de_var 0) da_nil)))
  (dss_one (ds_ret (de_tup (da_cons (de_var 2) (da_cons (de_fn ((h_sure_row G).up (by decide)) hr (takes_of rfl rfl rfl rfl) (da_cons (de_var 2) (da_cons (de_var 1) da_nil))) da_nil))))))⟩)
theorem sc_is_least : FnScope ["heap", "row", "own", "here"] ["heap", "row"] (defScope s_is_least) := ⟨rfl, rfl, rfl, by decide +kernel, rfl, by decide +kernel, by decide +kernel⟩
theorem kb_is_least : KBs "is_least" s_is_least ["heap", "row"] := by
  intro kV doc pm an cdv ct ks n e1 e2 s us ws h1 h2
  subst e1
  match n, us, ws, e2, h1, h2 with
  | 0, [], [_, _], _, _, _ => exact .of_eq rfl
  | 1, [_], [_], _, _, _ => exact .of_eq rfl
  | 2, [_, _], [], _, _, _ => exact .of_eq rfl
  | n + 3, _, _, e2, _, _ => exact absurd e2 (by simp)
def b_is_least : Rho → Sto → DL.R Fl :=
  (fSeq (fAsg (sTup 2 (sCons (sName 2) (sCons (sName 3) sNil))) (fCall 2 m_told_both (fCons (fVar 0) (fCons (fVar 1) fNil))))
  (fRet (fCall 2 m_is_least_in (fCons (fVar 2) (fCons (fVar 3) fNil)))))
def m_is_least : List D → Sto → DL.R D := runDef 2 4 b_is_least
theorem h_is_least {P : Program} {w : World} {K : PySem.W.Frag} {mg : Str → Option Value} {base : Heap} (G : Ev K mg) : Has P w K mg base 10 "is_least" ["heap", "row"] m_is_least :=
  has_mk (k := 9) (body := b_is_least) G.d_is_least sc_is_least kb_is_least rfl rfl (fun _ cdv A outer s0 H E hr => ⟨_, by
    have nd := (sc_is_least).nd
    exact (dss_cons (ds_asg (de_fn ((h_told_both G).up (by decide)) hr (takes_of rfl rfl rfl rfl) (da_cons (de_var 0) (da_cons (de_var 1) da_nil))) (dg_tup (dgs_cons (dg_name 2 nd) (dgs_cons (dg_name 3 nd) dgs_nil))))
  (dss_one (ds_ret (de_fn ((h_is_least_in G).up (by decide)) hr (takes_of rfl rfl rfl rfl) (da_cons (de_var 2) (da_cons (de_var 3) da_nil))))))⟩)
theorem sc_members_in : FnScope ["heap", "found", "by", "own", "one"] ["heap"] (defScope s_members_in) := ⟨rfl, rfl, rfl, by decide +kernel, rfl, by decide +kernel, by decide +kernel⟩
theorem kb_members_in : KBs "members_in" s_members_in ["heap"] := by
  intro kV doc pm an cdv ct ks n e1 e2 s us ws h1 h2
  subst e1
  match n, us, ws, e2, h1, h2 with
  | 0, [], [_], _, _, _ => exact .of_eq rfl
  | 1, [_], [], _, _, _ => exact .of_eq rfl
  | n + 2, _, _, e2, _, _ => exact absurd e2 (by simp)
def b_members_in_2b : Rho → Sto → DL.R Fl :=
  (fSet 1 (fFresh (fLc2 (fAny (fVar 1)) (sName 3) fYes (fRng1 (fCons (fVar 2) fNil)) (sName 4) fYes (fOp gAdd (fVar 3) (fTup (fCons (fVar 4) fNil))) [3, 4] [4])))
def b_members_in_1 : Rho → Sto → DL.R Fl :=
  (fSet 1 (fLst (fCons (fTup fNil) fNil)))
def b_members_in_2 : Rho → Sto → DL.R Fl :=
  (fFor (fAny (fVar 0)) (sName 2) b_members_in_2b)
def b_members_in_3 : Rho → Sto → DL.R Fl :=
  (fRet (fVar 1))
def b_members_in : Rho → Sto → DL.R Fl :=
  (fSeq b_members_in_1 (fSeq b_members_in_2 b_members_in_3))
def m_members_in : List D → Sto → DL.R D := runDef 1 5 b_members_in
theorem h_members_in {P : Program} {w : World} {K : PySem.W.Frag} {mg : Str → Option Value} {base : Heap} (G : Ev K mg) : Has P w K mg base 1 "members_in" ["heap"] m_members_in :=
  has_mk (k := 0) (body := b_members_in) G.d_members_in sc_members_in kb_members_in rfl rfl (fun _ cdv A outer s0 H E hr => ⟨_, by
    have nd := (sc_members_in).nd
    exact (dss_cons (ds_set 1 nd (de_lst (da_cons (de_tup da_nil) da_nil)))
  (dss_cons (ds_for (passes_of rfl) (di_any (de_var 0)) (dg_name 2 nd) (dss_one (ds_setLc2 (ff := fFresh) (fun h => re_fresh h) 1 [("own", 3), ("one", 4)] [4] nd (di_any (de_var 1)) (blkOk_by (by kernel_rfl)) (fun _ _ _ _ _ => (dg_name 3 nd)) (fun _ _ _ _ _ => dts_nil) (fun _ _ _ _ _ => (di_rng1 G.z_range (da_cons (de_var 2) da_nil))) (fun _ _ _ _ _ => (dg_name 4 nd)) (fun _ _ _ _ _ => dts_nil) (fun _ _ _ _ _ => (de_op rv_add op_addD (de_var 3) (de_tup (da_cons (de_var 4) da_nil)))) (sw_true rfl rfl rfl (by decide +kernel)))))
  (dss_one (ds_ret (de_var 1)))))⟩)
theorem sc_heap_makers : FnScope ["heap", "own", "one"] ["heap"] (defScope s_heap_makers) := ⟨rfl, rfl, rfl, by decide +kernel, rfl, by decide +kernel, by decide +kernel⟩
theorem kb_heap_makers : KBs "heap_makers" s_heap_makers ["heap"] := by
  intro kV doc pm an cdv ct ks n e1 e2 s us ws h1 h2
  subst e1
  match n, us, ws, e2, h1, h2 with
  | 0, [], [_], _, _, _ => exact .of_eq rfl
  | 1, [_], [], _, _, _ => exact .of_eq rfl
  | n + 2, _, _, e2, _, _ => exact absurd e2 (by simp)
def b_heap_makers : Rho → Sto → DL.R Fl :=
  (fSeq (fSet 1 (fCall 1 m_sure_heap (fCons (fVar 0) fNil)))
  (fRet (fCB gTuple (fCons (fFresh (fLc (fAny (fCall 1 m_members_in (fCons (fVar 1) fNil))) (sName 2) (fB (fOp gEq (fCall 2 m_order_in (fCons (fVar 1) (fCons (fVar 2) fNil))) (fCall 1 m_size_in (fCons (fVar 1) fNil)))) (fVar 2) [2])) fNil))))
def m_heap_makers : List D → Sto → DL.R D := runDef 1 3 b_heap_makers
theorem h_heap_makers {P : Program} {w : World} {K : PySem.W.Frag} {mg : Str → Option Value} {base : Heap} (G : Ev K mg) : Has P w K mg base 9 "heap_makers" ["heap"] m_heap_makers :=
  has_mk (k := 8) (body := b_heap_makers) G.d_heap_makers sc_heap_makers kb_heap_makers rfl rfl (fun _ cdv A outer s0 H E hr => ⟨_, by
    have nd := (sc_heap_makers).nd
    exact (dss_cons (ds_set 1 nd (de_fn ((h_sure_heap G).up (by decide)) hr (takes_of rfl rfl rfl rfl) (da_cons (de_var 0) da_nil)))
  (dss_one (ds_ret (de_ct rvl_tuple call_tuple_of G.z_tuple bt_tuple (da_cons (de_fresh (df_lc [("one", 2)] nd (di_any (de_fn ((h_members_in G).up (by decide)) hr (takes_of rfl rfl rfl rfl) (da_cons (de_var 1) da_nil))) (blkOk_by (by kernel_rfl)) (fun _ _ _ _ _ => (dg_name 2 nd)) (fun _ _ _ _ _ => dts_one (dt_cmp rv_eq (op_eqD hr.units) (de_fn ((h_order_in G).up (by decide)) hr takes0 (da_cons (de_var 1) (da_cons (de_var 2) da_nil))) (de_fn ((h_size_in G).up (by decide)) hr takes0 (da_cons (de_var 1) da_nil)) (nomark _))) (fun _ _ _ _ _ => (de_var 2)))) da_nil)))))⟩)
theorem sc__law_of : FnScope ["tin", "goods_so"] ["tin", "goods_so"] (defScope s__law_of) := ⟨rfl, rfl, rfl, by decide +kernel, rfl, by decide +kernel, by decide +kernel⟩
theorem kb__law_of : KBs "_law_of" s__law_of ["tin", "goods_so"] := by
  intro kV doc pm an cdv ct ks n e1 e2 s us ws h1 h2
  subst e1
  match n, us, ws, e2, h1, h2 with
  | 0, [], [_, _], _, _, _ => exact .of_eq rfl
  | 1, [_], [_], _, _, _ => exact .of_eq rfl
  | 2, [_, _], [], _, _, _ => exact .of_eq rfl
  | n + 3, _, _, e2, _, _ => exact absurd e2 (by simp)
def b__law_of : Rho → Sto → DL.R Fl :=
  (fRet (fOp gIx (fVar 1) (fCall 2 m__law_take (fCons (fVar 0) (fCons (fCB gLen (fCons (fVar 1) fNil)) fNil)))))
def m__law_of : List D → Sto → DL.R D := runDef 2 2 b__law_of
theorem h__law_of {P : Program} {w : World} {K : PySem.W.Frag} {mg : Str → Option Value} {base : Heap} (G : Ev K mg) : Has P w K mg base 2 "_law_of" ["tin", "goods_so"] m__law_of :=
  has_mk (k := 1) (body := b__law_of) G.d__law_of sc__law_of kb__law_of rfl rfl (fun _ cdv A outer s0 H E hr => ⟨_, by
    have nd := (sc__law_of).nd
    exact (dss_one (ds_ret (de_ix (de_var 1) (de_fn ((h__law_take G).up (by decide)) hr (takes_of rfl rfl rfl rfl) (da_cons (de_var 0) (da_cons (de_cb rvl_len call_len G.z_len bt_len (da_cons (de_var 1) da_nil)) da_nil))))))⟩)
theorem sc__law_box : FnScope ["script", "k", "bit_so"] ["script", "k"] (defScope s__law_box) := ⟨rfl, rfl, rfl, by decide +kernel, rfl, by decide +kernel, by decide +kernel⟩
theorem kb__law_box : KBs "_law_box" s__law_box ["script", "k"] := by
  intro kV doc pm an cdv ct ks n e1 e2 s us ws h1 h2
  subst e1
  match n, us, ws, e2, h1, h2 with
  | 0, [], [_, _], _, _, _ => exact .of_eq rfl
  | 1, [_], [_], _, _, _ => exact .of_eq rfl
  | 2, [_, _], [], _, _, _ => exact .of_eq rfl
  | n + 3, _, _, e2, _, _ => exact absurd e2 (by simp)
def b__law_box : Rho → Sto → DL.R Fl :=
  (fSeq (fSet 2 (fIf (fB (fOp gLtD (fVar 1) (fCB gLen (fCons (fVar 0) fNil)))) (fOp gIx (fVar 0) (fVar 1)) (fC (.int 0))))
  (fRet (fThaw (fLine (fCons (fOp gMulE (fCB gAbs (fCons (fVar 2) fNil)) (fCB gInt (fCons (fOp gGeD (fCB gAbs (fCons (fVar 2) fNil)) (fOp gPow (fC (.int 10)) (fC (.int 18)))) fNil))) (fCons (fOp gAdd (fOp gAdd (fOp gMod (fCB gInt (fCons (fVar 2) fNil)) (fC (.int 2305843009213693951))) (fOp gMulE (fC (.int 39373)) (fVar 1))) (fC (.int 25194013))) (fCons (fC (.int 0)) fNil)))))))
def m__law_box : List D → Sto → DL.R D := runDefK 2 3 b__law_box
theorem h__law_box {P : Program} {w : World} {K : PySem.W.Frag} {mg : Str → Option Value} {base : Heap} (G : Ev K mg) : Has P w K mg base 1 "_law_box" ["script", "k"] m__law_box :=
  has_mkK (k := 0) (body := b__law_box) G.d__law_box sc__law_box kb__law_box rfl rfl (fun _ cdv A outer s0 H E hr => ⟨_, by
    have nd := (sc__law_box).nd
    exact (dss_cons (ds_set 2 nd (de_if (dt_cmp rv_ltD (op_ltD hr.units) (de_var 1) (de_cb rvl_len call_len G.z_len bt_len (da_cons (de_var 0) da_nil)) (nomark _)) (de_ix (de_var 0) (de_var 1)) de_int))
  (dss_one (ds_ret (de_thaw (df_lst (da_cons (de_op rv_mulE op_mulE (de_cb rvl_abs call_abs G.z_abs bt_abs (da_cons (de_var 2) da_nil)) (de_ct rvl_int call_int1 G.z_int bt_int (da_cons (de_cmp rv_geD (op_geD hr.units) (de_cb rvl_abs call_abs G.z_abs bt_abs (da_cons (de_var 2) da_nil)) (de_op rv_pow op_pow de_int de_int) (nomark _)) da_nil))) (da_cons (de_op rv_add op_addD (de_op rv_add op_addD (de_op rv_mod op_mod (de_ct rvl_int call_int1 G.z_int bt_int (da_cons (de_var 2) da_nil)) de_int) (de_op rv_mulE op_mulE de_int (de_var 1))) de_int) (da_cons de_int da_nil))))))))⟩)
theorem sc_times_in : FnScope ["heap", "member", "many", "own", "by"] ["heap", "member", "many"] (defScope s_times_in) := ⟨rfl, rfl, rfl, by decide +kernel, rfl, by decide +kernel, by decide +kernel⟩
theorem kb_times_in : KBs "times_in" s_times_in ["heap", "member", "many"] := by
  intro kV doc pm an cdv ct ks n e1 e2 s us ws h1 h2
  subst e1
  match n, us, ws, e2, h1, h2 with
  | 0, [], [_, _, _], _, _, _ => exact .of_eq rfl
  | 1, [_], [_, _], _, _, _ => exact .of_eq rfl
  | 2, [_, _], [_], _, _, _ => exact .of_eq rfl
  | 3, [_, _, _], [], _, _, _ => exact .of_eq rfl
  | n + 4, _, _, e2, _, _ => exact absurd e2 (by simp)
def b_times_in : Rho → Sto → DL.R Fl :=
  (fRet (fCB gTuple (fCons (fFresh (fLc (fZip2 (fCons (fVar 1) (fCons (fVar 0) fNil))) (sTup 2 (sCons (sName 3) (sCons (sName 4) sNil))) fYes (fOp gMod (fOp gMulE (fVar 2) (fVar 3)) (fVar 4)) [3, 4])) fNil)))
def m_times_in : List D → Sto → DL.R D := runDef 3 5 b_times_in
theorem h_times_in {P : Program} {w : World} {K : PySem.W.Frag} {mg : Str → Option Value} {base : Heap} (G : Ev K mg) : Has P w K mg base 1 "times_in" ["heap", "member", "many"] m_times_in :=
  has_mk (k := 0) (body := b_times_in) G.d_times_in sc_times_in kb_times_in rfl rfl (fun _ cdv A outer s0 H E hr => ⟨_, by
    have nd := (sc_times_in).nd
    exact (dss_one (ds_ret (de_ct rvl_tuple call_tuple_of G.z_tuple bt_tuple (da_cons (de_fresh (df_lc [("own", 3), ("by", 4)] nd (di_zip2 G.z_zip (da_cons (de_var 1) (da_cons (de_var 0) da_nil))) (blkOk_by (by kernel_rfl)) (fun _ _ _ _ _ => (dg_tup (dgs_cons (dg_name 3 nd) (dgs_cons (dg_name 4 nd) dgs_nil)))) (fun _ _ _ _ _ => dts_nil) (fun _ _ _ _ _ => (de_op rv_mod op_mod (de_op rv_mulE op_mulE (de_var 2) (de_var 3)) (de_var 4))))) da_nil))))⟩)
theorem sc_led_member : FnScope ["heap", "images", "member", "found", "own", "image"] ["heap", "images", "member"] (defScope s_led_member) := ⟨rfl, rfl, rfl, by decide +kernel, rfl, by decide +kernel, by decide +kernel⟩
theorem kb_led_member : KBs "led_member" s_led_member ["heap", "images", "member"] := by
  intro kV doc pm an cdv ct ks n e1 e2 s us ws h1 h2
  subst e1
  match n, us, ws, e2, h1, h2 with
  | 0, [], [_, _, _], _, _, _ => exact .of_eq rfl
  | 1, [_], [_, _], _, _, _ => exact .of_eq rfl
  | 2, [_, _], [_], _, _, _ => exact .of_eq rfl
  | 3, [_, _, _], [], _, _, _ => exact .of_eq rfl
  | n + 4, _, _, e2, _, _ => exact absurd e2 (by simp)
def b_led_member_2b : Rho → Sto → DL.R Fl :=
  (fSet 3 (fCall 3 m_plus_in (fCons (fVar 0) (fCons (fVar 3) (fCons (fCall 3 m_times_in (fCons (fVar 0) (fCons (fVar 5) (fCons (fVar 4) fNil)))) fNil)))))
def b_led_member_1 : Rho → Sto → DL.R Fl :=
  (fSet 3 (fCall 1 m_nought_of (fCons (fVar 0) fNil)))
def b_led_member_2 : Rho → Sto → DL.R Fl :=
  (fFor (fZip2 (fCons (fVar 2) (fCons (fVar 1) fNil))) (sTup 2 (sCons (sName 4) (sCons (sName 5) sNil))) b_led_member_2b)
def b_led_member_3 : Rho → Sto → DL.R Fl :=
  (fRet (fVar 3))
def b_led_member : Rho → Sto → DL.R Fl :=
  (fSeq b_led_member_1 (fSeq b_led_member_2 b_led_member_3))
def m_led_member : List D → Sto → DL.R D := runDef 3 6 b_led_member
theorem h_led_member {P : Program} {w : World} {K : PySem.W.Frag} {mg : Str → Option Value} {base : Heap} (G : Ev K mg) : Has P w K mg base 2 "led_member" ["heap", "images", "member"] m_led_member :=
  has_mk (k := 1) (body := b_led_member) G.d_led_member sc_led_member kb_led_member rfl rfl (fun _ cdv A outer s0 H E hr => ⟨_, by
    have nd := (sc_led_member).nd
    exact (dss_cons (ds_set 3 nd (de_fn ((h_nought_of G).up (by decide)) hr (takes_of rfl rfl rfl rfl) (da_cons (de_var 0) da_nil)))
  (dss_cons (ds_for (passes_of rfl) (di_zip2 G.z_zip (da_cons (de_var 2) (da_cons (de_var 1) da_nil))) (dg_tup (dgs_cons (dg_name 4 nd) (dgs_cons (dg_name 5 nd) dgs_nil))) (dss_one (ds_set 3 nd (de_fn ((h_plus_in G).up (by decide)) hr (takes_of rfl rfl rfl rfl) (da_cons (de_var 0) (da_cons (de_var 3) (da_cons (de_fn ((h_times_in G).up (by decide)) hr (takes_of rfl rfl rfl rfl) (da_cons (de_var 0) (da_cons (de_var 5) (da_cons (de_var 4) da_nil)))) da_nil)))))))
  (dss_one (ds_ret (de_var 3)))))⟩)
theorem sc_led_in : FnScope ["heap", "images", "row", "own"] ["heap", "images", "row"] (defScope s_led_in) := ⟨rfl, rfl, rfl, by decide +kernel, rfl, by decide +kernel, by decide +kernel⟩
theorem kb_led_in : KBs "led_in" s_led_in ["heap", "images", "row"] := by
  intro kV doc pm an cdv ct ks n e1 e2 s us ws h1 h2
  subst e1
  match n, us, ws, e2, h1, h2 with
  | 0, [], [_, _, _], _, _, _ => exact .of_eq rfl
  | 1, [_], [_, _], _, _, _ => exact .of_eq rfl
  | 2, [_, _], [_], _, _, _ => exact .of_eq rfl
  | 3, [_, _, _], [], _, _, _ => exact .of_eq rfl
  | n + 4, _, _, e2, _, _ => exact absurd e2 (by simp)
def b_led_in : Rho → Sto → DL.R Fl :=
  (fRet (fCB gTuple (fCons (fFresh (fCBn (gSortN false shs) (fCons (fFresh (fLc (fAny (fVar 2)) (sName 3) fYes (fCall 3 m_led_member (fCons (fVar 0) (fCons (fVar 1) (fCons (fVar 3) fNil)))) [3])) fNil))) fNil)))
def m_led_in : List D → Sto → DL.R D := runDef 3 4 b_led_in
theorem h_led_in {P : Program} {w : World} {K : PySem.W.Frag} {mg : Str → Option Value} {base : Heap} (G : Ev K mg) : Has P w K mg base 3 "led_in" ["heap", "images", "row"] m_led_in :=
  has_mk (k := 2) (body := b_led_in) G.d_led_in sc_led_in kb_led_in rfl rfl (fun _ cdv A outer s0 H E hr => ⟨_, by
    have nd := (sc_led_in).nd
    exact (dss_one (ds_ret (de_ct rvl_tuple call_tuple_of G.z_tuple bt_tuple (da_cons (de_fresh (df_cb (rvn_sort (ts := shs)) (cr_sortD hr.units) G.z_sorted bt_sorted (da_cons (de_fresh (df_lc [("own", 3)] nd (di_any (de_var 2)) (blkOk_by (by kernel_rfl)) (fun _ _ _ _ _ => (dg_name 3 nd)) (fun _ _ _ _ _ => dts_nil) (fun _ _ _ _ _ => (de_fn ((h_led_member G).up (by decide)) hr takes0 (da_cons (de_var 0) (da_cons (de_var 1) (da_cons (de_var 3) da_nil))))))) da_nil))) da_nil))))⟩)
theorem sc_is_map_in : FnScope ["heap", "thing", "own", "by"] ["heap", "thing"] (defScope s_is_map_in) := ⟨rfl, rfl, rfl, by decide +kernel, rfl, by decide +kernel, by decide +kernel⟩
theorem kb_is_map_in : KBs "is_map_in" s_is_map_in ["heap", "thing"] := by
  intro kV doc pm an cdv ct ks n e1 e2 s us ws h1 h2
  subst e1
  match n, us, ws, e2, h1, h2 with
  | 0, [], [_, _], _, _, _ => exact .of_eq rfl
  | 1, [_], [_], _, _, _ => exact .of_eq rfl
  | 2, [_, _], [], _, _, _ => exact .of_eq rfl
  | n + 3, _, _, e2, _, _ => exact absurd e2 (by simp)
def b_is_map_in_1 : Rho → Sto → DL.R Fl :=
  (fIfS (fOr (fNot (fTru (fCall 2 m_is_long (fCons (fVar 1) (fCons (fCB gLen (fCons (fVar 0) fNil)) fNil))))) (fNot (fTru (fCB gAll (fCons (fFresh (fLc (fAny (fVar 1)) (sName 2) fYes (fCall 2 m_is_member_in (fCons (fVar 0) (fCons (fVar 2) fNil))) [2])) fNil))))) (fRet (fC (.bl false))) fNext)
def b_is_map_in_2 : Rho → Sto → DL.R Fl :=
  (fIfS (fNot (fTru (fCB gAll (fCons (fFresh (fLc (fZip2 (fCons (fVar 1) (fCons (fVar 0) fNil))) (sTup 2 (sCons (sName 2) (sCons (sName 3) sNil))) fYes (fOp gEq (fOp gMod (fVar 3) (fCall 2 m_order_in (fCons (fVar 0) (fCons (fVar 2) fNil)))) (fC (.int 0))) [2, 3])) fNil)))) (fRet (fC (.bl false))) fNext)
def b_is_map_in_3 : Rho → Sto → DL.R Fl :=
  (fRet (fOp gEq (fCB gLenQ (fCons (fFresh (fLc (fAny (fCall 1 m_members_in (fCons (fVar 0) fNil))) (sName 2) fYes (fCall 3 m_led_member (fCons (fVar 0) (fCons (fVar 1) (fCons (fVar 2) fNil)))) [2])) fNil)) (fCall 1 m_size_in (fCons (fVar 0) fNil))))
def b_is_map_in : Rho → Sto → DL.R Fl :=
  (fSeq b_is_map_in_1 (fSeq b_is_map_in_2 b_is_map_in_3))
def m_is_map_in : List D → Sto → DL.R D := runDef 2 4 b_is_map_in
theorem h_is_map_in {P : Program} {w : World} {K : PySem.W.Frag} {mg : Str → Option Value} {base : Heap} (G : Ev K mg) : Has P w K mg base 4 "is_map_in" ["heap", "thing"] m_is_map_in :=
  has_mk (k := 3) (body := b_is_map_in) G.d_is_map_in sc_is_map_in kb_is_map_in rfl rfl (fun _ cdv A outer s0 H E hr => ⟨_, by
    have nd := (sc_is_map_in).nd
    exact (dss_cons (ds_if (dt_w (dw_or (dt_not (dt_tru (de_fn ((h_is_long G).up (by decide)) hr (takes_of rfl rfl rfl rfl) (da_cons (de_var 1) (da_cons (de_cb rvl_len call_len G.z_len bt_len (da_cons (de_var 0) da_nil)) da_nil))))) (dw_or1 (dt_not (dt_tru (de_cb rvl_all (cr_all rfl) G.z_all bt_all (da_cons (de_fresh (df_lc [("own", 2)] nd (di_any (de_var 1)) (blkOk_by (by kernel_rfl)) (fun _ _ _ _ _ => (dg_name 2 nd)) (fun _ _ _ _ _ => dts_nil) (fun _ _ _ _ _ => (de_fn ((h_is_member_in G).up (by decide)) hr takes0 (da_cons (de_var 0) (da_cons (de_var 2) da_nil)))))) da_nil))))))) (dss_one (ds_ret de_bl)) dss_nil)
  (dss_cons (ds_if (dt_not (dt_tru (de_cb rvl_all (cr_all rfl) G.z_all bt_all (da_cons (de_fresh (df_lc [("own", 2), ("by", 3)] nd (di_zip2 G.z_zip (da_cons (de_var 1) (da_cons (de_var 0) da_nil))) (blkOk_by (by kernel_rfl)) (fun _ _ _ _ _ => (dg_tup (dgs_cons (dg_name 2 nd) (dgs_cons (dg_name 3 nd) dgs_nil)))) (fun _ _ _ _ _ => dts_nil) (fun _ _ _ _ _ => (de_cmp rv_eq (op_eqD hr.units) (de_op rv_mod op_mod (de_var 3) (de_fn ((h_order_in G).up (by decide)) hr takes0 (da_cons (de_var 0) (da_cons (de_var 2) da_nil)))) de_int (nomark _))))) da_nil)))) (dss_one (ds_ret de_bl)) dss_nil)
  (dss_one (ds_ret (de_cmp rv_eq (op_eqD hr.units) (de_lenQ hr.units G.z_len G.z_set (da_cons (de_fresh (df_lc [("own", 2)] nd (di_any (de_fn ((h_members_in G).up (by decide)) hr (takes_of rfl rfl rfl rfl) (da_cons (de_var 0) da_nil))) (blkOk_by (by kernel_rfl)) (fun _ _ _ _ _ => (dg_name 2 nd)) (fun _ _ _ _ _ => dts_nil) (fun _ _ _ _ _ => (de_fn ((h_led_member G).up (by decide)) hr takes0 (da_cons (de_var 0) (da_cons (de_var 1) (da_cons (de_var 2) da_nil))))))) da_nil)) (de_fn ((h_size_in G).up (by decide)) hr (takes_of rfl rfl rfl rfl) (da_cons (de_var 0) da_nil)) (nomark _))))))⟩)
theorem sc_maps_in : FnScope ["heap", "found", "by", "goods", "rows", "own", "one"] ["heap"] (defScope s_maps_in) := ⟨rfl, rfl, rfl, by decide +kernel, rfl, by decide +kernel, by decide +kernel⟩
theorem kb_maps_in : KBs "maps_in" s_maps_in ["heap"] := by
  intro kV doc pm an cdv ct ks n e1 e2 s us ws h1 h2
  subst e1
  match n, us, ws, e2, h1, h2 with
  | 0, [], [_], _, _, _ => exact .of_eq rfl
  | 1, [_], [], _, _, _ => exact .of_eq rfl
  | n + 2, _, _, e2, _, _ => exact absurd e2 (by simp)
def b_maps_in_2b : Rho → Sto → DL.R Fl :=
  (fSeq (fSet 3 (fFresh (fLc (fAny (fCall 1 m_members_in (fCons (fVar 0) fNil))) (sName 5) (fB (fOp gEq (fCall 2 m_order_in (fCons (fVar 0) (fCons (fVar 5) fNil))) (fVar 2))) (fVar 5) [5])))
  (fSeq (fSet 1 (fFresh (fLc2 (fAny (fVar 1)) (sName 5) fYes (fAny (fVar 3)) (sName 6) fYes (fOp gAdd (fVar 5) (fTup (fCons (fVar 6) fNil))) [5, 6] [6])))
  (fIfS (fB (fOp gGtD (fCB gLen (fCons (fVar 1) fNil)) (fOp gMulE (fC (.int (400))) (fC (.int 20))))) (fRaise "TooMany") fNext)))
def b_maps_in_1 : Rho → Sto → DL.R Fl :=
  (fSet 1 (fLst (fCons (fTup fNil) fNil)))
def b_maps_in_2 : Rho → Sto → DL.R Fl :=
  (fFor (fAny (fVar 0)) (sName 2) b_maps_in_2b)
def b_maps_in_3 : Rho → Sto → DL.R Fl :=
  (fSet 4 (fFresh (fLc (fAny (fVar 1)) (sName 5) (fTru (fCall 2 m_is_map_in (fCons (fVar 0) (fCons (fVar 5) fNil)))) (fVar 5) [5])))
def b_maps_in_4 : Rho → Sto → DL.R Fl :=
  (fIfS (fB (fOp gGtD (fCB gLen (fCons (fVar 4) fNil)) (fC (.int (400))))) (fRaise "TooMany") fNext)
def b_maps_in_5 : Rho → Sto → DL.R Fl :=
  (fRet (fVar 4))
def b_maps_in : Rho → Sto → DL.R Fl :=
  (fSeq b_maps_in_1 (fSeq b_maps_in_2 (fSeq b_maps_in_3 (fSeq b_maps_in_4 b_maps_in_5))))
def m_maps_in : List D → Sto → DL.R D := runDef 1 7 b_maps_in
theorem h_maps_in {P : Program} {w : World} {K : PySem.W.Frag} {mg : Str → Option Value} {base : Heap} (G : Ev K mg) : Has P w K mg base 5 "maps_in" ["heap"] m_maps_in :=
  has_mk (k := 4) (body := b_maps_in) G.d_maps_in sc_maps_in kb_maps_in rfl rfl (fun _ cdv A outer s0 H E hr => ⟨_, by
    have nd := (sc_maps_in).nd
    exact (dss_cons (ds_set 1 nd (de_lst (da_cons (de_tup da_nil) da_nil)))
  (dss_cons (ds_for (passes_of rfl) (di_any (de_var 0)) (dg_name 2 nd) (dss_cons (ds_set 3 nd (de_fresh (df_lc [("own", 5)] nd (di_any (de_fn ((h_members_in G).up (by decide)) hr (takes_of rfl rfl rfl rfl) (da_cons (de_var 0) da_nil))) (blkOk_by (by kernel_rfl)) (fun _ _ _ _ _ => (dg_name 5 nd)) (fun _ _ _ _ _ => dts_one (dt_cmp rv_eq (op_eqD hr.units) (de_fn ((h_order_in G).up (by decide)) hr takes0 (da_cons (de_var 0) (da_cons (de_var 5) da_nil))) (de_var 2) (nomark _))) (fun _ _ _ _ _ => (de_var 5)))))
  (dss_cons (ds_setLc2 (ff := fFresh) (fun h => re_fresh h) 1 [("own", 5), ("one", 6)] [6] nd (di_any (de_var 1)) (blkOk_by (by kernel_rfl)) (fun _ _ _ _ _ => (dg_name 5 nd)) (fun _ _ _ _ _ => dts_nil) (fun _ _ _ _ _ => (di_any (de_var 3))) (fun _ _ _ _ _ => (dg_name 6 nd)) (fun _ _ _ _ _ => dts_nil) (fun _ _ _ _ _ => (de_op rv_add op_addD (de_var 5) (de_tup (da_cons (de_var 6) da_nil)))) (sw_true rfl rfl rfl (by decide +kernel)))
  (dss_one (ds_if (dt_cmp rv_gtD (op_gtD hr.units) (de_cb rvl_len call_len G.z_len bt_len (da_cons (de_var 1) da_nil)) (de_op rv_mulE op_mulE (de_constI G.c_MOST_MAPS) de_int) (nomark _)) (dss_one (ds_raise G.x_TooMany (by decide) (takes_of rfl rfl rfl rfl) )) dss_nil)))))
  (dss_cons (ds_setLc (ff := fFresh) (fun h => re_fresh h) 4 [("own", 5)] nd (di_any (de_var 1)) (blkOk_by (by kernel_rfl)) (fun _ _ _ _ _ => (dg_name 5 nd)) (fun _ _ _ _ _ => dts_one (dt_tru (de_fn ((h_is_map_in G).up (by decide)) hr takes0 (da_cons (de_var 0) (da_cons (de_var 5) da_nil))))) (fun _ _ _ _ _ => (de_var 5)) (sw_true rfl rfl rfl (by decide +kernel)))
  (dss_cons (ds_if (dt_cmp rv_gtD (op_gtD hr.units) (de_cb rvl_len call_len G.z_len bt_len (da_cons (de_var 4) da_nil)) (de_constI G.c_MOST_MAPS) (nomark _)) (dss_one (ds_raise G.x_TooMany (by decide) (takes_of rfl rfl rfl rfl) )) dss_nil)
  (dss_one (ds_ret (de_var 4)))))))⟩)
theorem sc_map_between : FnScope ["heap", "one", "other", "own"] ["heap", "one", "other"] (defScope s_map_between) := ⟨rfl, rfl, rfl, by decide +kernel, rfl, by decide +kernel, by decide +kernel⟩
theorem kb_map_between : KBs "map_between" s_map_between ["heap", "one", "other"] := by
  intro kV doc pm an cdv ct ks n e1 e2 s us ws h1 h2
  subst e1
  match n, us, ws, e2, h1, h2 with
  | 0, [], [_, _, _], _, _, _ => exact .of_eq rfl
  | 1, [_], [_, _], _, _, _ => exact .of_eq rfl
  | 2, [_, _], [_], _, _, _ => exact .of_eq rfl
  | 3, [_, _, _], [], _, _, _ => exact .of_eq rfl
  | n + 4, _, _, e2, _, _ => exact absurd e2 (by simp)
def b_map_between : Rho → Sto → DL.R Fl :=
  (fSeq (fFor (fAny (fCall 1 m_maps_in (fCons (fVar 0) fNil))) (sName 3) (fIfS (fB (fOp gEq (fCall 3 m_led_in (fCons (fVar 0) (fCons (fVar 3) (fCons (fVar 1) fNil)))) (fVar 2))) (fRet (fVar 3)) fNext))
  (fRet (fC .non)))
def m_map_between : List D → Sto → DL.R D := runDef 3 4 b_map_between
theorem h_map_between {P : Program} {w : World} {K : PySem.W.Frag} {mg : Str → Option Value} {base : Heap} (G : Ev K mg) : Has P w K mg base 6 "map_between" ["heap", "one", "other"] m_map_between :=
  has_mk (k := 5) (body := b_map_between) G.d_map_between sc_map_between kb_map_between rfl rfl (fun _ cdv A outer s0 H E hr => ⟨_, by
    have nd := (sc_map_between).nd
    exact (dss_cons (ds_for (passes_of rfl) (di_any (de_fn ((h_maps_in G).up (by decide)) hr (takes_of rfl rfl rfl rfl) (da_cons (de_var 0) da_nil))) (dg_name 3 nd) (dss_one (ds_if (dt_cmp rv_eq (op_eqD hr.units) (de_fn ((h_led_in G).up (by decide)) hr (takes_of rfl rfl rfl rfl) (da_cons (de_var 0) (da_cons (de_var 3) (da_cons (de_var 1) da_nil)))) (de_var 2) (nomark _)) (dss_one (ds_ret (de_var 3))) dss_nil)))
  (dss_one (ds_ret de_non)))⟩)
theorem sc_small_heap : FnScope ["value", "own"] ["value"] (defScope s_small_heap) := ⟨rfl, rfl, rfl, by decide +kernel, rfl, by decide +kernel, by decide +kernel⟩
theorem kb_small_heap : KBs "small_heap" s_small_heap ["value"] := by
  intro kV doc pm an cdv ct ks n e1 e2 s us ws h1 h2
  subst e1
  match n, us, ws, e2, h1, h2 with
  | 0, [], [_], _, _, _ => exact .of_eq rfl
  | 1, [_], [], _, _, _ => exact .of_eq rfl
  | n + 2, _, _, e2, _, _ => exact absurd e2 (by simp)
def b_small_heap_1 : Rho → Sto → DL.R Fl :=
  (fSet 1 (fCall 1 m_sure_heap (fCons (fVar 0) fNil)))
def b_small_heap_2 : Rho → Sto → DL.R Fl :=
  (fIfS (fB (fOp gGtD (fCall 1 m_size_in (fCons (fVar 1) fNil)) (fC (.int (32))))) (fRaise "Unfit") fNext)
def b_small_heap_3 : Rho → Sto → DL.R Fl :=
  (fRet (fVar 1))
def b_small_heap : Rho → Sto → DL.R Fl :=
  (fSeq b_small_heap_1 (fSeq b_small_heap_2 b_small_heap_3))
def m_small_heap : List D → Sto → DL.R D := runDef 1 2 b_small_heap
theorem h_small_heap {P : Program} {w : World} {K : PySem.W.Frag} {mg : Str → Option Value} {base : Heap} (G : Ev K mg) : Has P w K mg base 9 "small_heap" ["value"] m_small_heap :=
  has_mk (k := 8) (body := b_small_heap) G.d_small_heap sc_small_heap kb_small_heap rfl rfl (fun _ cdv A outer s0 H E hr => ⟨_, by
    have nd := (sc_small_heap).nd
    exact (dss_cons (ds_set 1 nd (de_fn ((h_sure_heap G).up (by decide)) hr (takes_of rfl rfl rfl rfl) (da_cons (de_var 0) da_nil)))
  (dss_cons (ds_if (dt_cmp rv_gtD (op_gtD hr.units) (de_fn ((h_size_in G).up (by decide)) hr (takes_of rfl rfl rfl rfl) (da_cons (de_var 1) da_nil)) (de_constI G.c_MOST_TURNED) (nomark _)) (dss_one (ds_raise G.x_Unfit (by decide) (takes_of rfl rfl rfl rfl) )) dss_nil)
  (dss_one (ds_ret (de_var 1)))))⟩)
theorem sc_alike_by : FnScope ["heap", "one", "other", "own", "here", "found"] ["heap", "one", "other"] (defScope s_alike_by) := ⟨rfl, rfl, rfl, by decide +kernel, rfl, by decide +kernel, by decide +kernel⟩
theorem kb_alike_by : KBs "alike_by" s_alike_by ["heap", "one", "other"] := by
  intro kV doc pm an cdv ct ks n e1 e2 s us ws h1 h2
  subst e1
  match n, us, ws, e2, h1, h2 with
  | 0, [], [_, _, _], _, _, _ => exact .of_eq rfl
  | 1, [_], [_, _], _, _, _ => exact .of_eq rfl
  | 2, [_, _], [_], _, _, _ => exact .of_eq rfl
  | 3, [_, _, _], [], _, _, _ => exact .of_eq rfl
  | n + 4, _, _, e2, _, _ => exact absurd e2 (by simp)
def b_alike_by_1 : Rho → Sto → DL.R Fl :=
  (fSet 3 (fCall 1 m_small_heap (fCons (fVar 0) fNil)))
def b_alike_by_2 : Rho → Sto → DL.R Fl :=
  (fSet 4 (fCall 2 m_sure_row (fCons (fVar 3) (fCons (fVar 1) fNil))))
def b_alike_by_3 : Rho → Sto → DL.R Fl :=
  (fSet 5 (fCall 3 m_map_between (fCons (fVar 3) (fCons (fVar 4) (fCons (fCall 2 m_sure_row (fCons (fVar 3) (fCons (fVar 2) fNil))) fNil)))))
def b_alike_by_4 : Rho → Sto → DL.R Fl :=
  (fIfS (fB (fOp gIsX (fVar 5) (fC .non))) (fRaise "CanNot") fNext)
def b_alike_by_5 : Rho → Sto → DL.R Fl :=
  (fRet (fVar 5))
def b_alike_by : Rho → Sto → DL.R Fl :=
  (fSeq b_alike_by_1 (fSeq b_alike_by_2 (fSeq b_alike_by_3 (fSeq b_alike_by_4 b_alike_by_5))))
def m_alike_by : List D → Sto → DL.R D := runDef 3 6 b_alike_by
theorem h_alike_by {P : Program} {w : World} {K : PySem.W.Frag} {mg : Str → Option Value} {base : Heap} (G : Ev K mg) : Has P w K mg base 10 "alike_by" ["heap", "one", "other"] m_alike_by :=
  has_mk (k := 9) (body := b_alike_by) G.d_alike_by sc_alike_by kb_alike_by rfl rfl (fun _ cdv A outer s0 H E hr => ⟨_, by
    have nd := (sc_alike_by).nd
    exact (dss_cons (ds_set 3 nd (de_fn ((h_small_heap G).up (by decide)) hr (takes_of rfl rfl rfl rfl) (da_cons (de_var 0) da_nil)))
  (dss_cons (ds_set 4 nd (de_fn ((h_sure_row G).up (by decide)) hr (takes_of rfl rfl rfl rfl) (da_cons (de_var 3) (da_cons (de_var 1) da_nil))))
  (dss_cons (ds_set 5 nd (de_fn ((h_map_between G).up (by decide)) hr (takes_of rfl rfl rfl rfl) (da_cons (de_var 3) (da_cons (de_var 4) (da_cons (de_fn ((h_sure_row G).up (by decide)) hr (takes_of rfl rfl rfl rfl) (da_cons (de_var 3) (da_cons (de_var 2) da_nil))) da_nil)))))
  (dss_cons (ds_if (dt_cmp rv_isX op_isX (de_var 5) de_non (nomark _)) (dss_one (ds_raise G.x_CanNot (by decide) (takes_of rfl rfl rfl rfl) )) dss_nil)
  (dss_one (ds_ret (de_var 5)))))))⟩)
theorem sc_grown : FnScope ["heap", "pairs", "members", "found", "row", "sums", "own", "later", "one"] ["heap", "pairs"] (defScope s_grown) := ⟨rfl, rfl, rfl, by decide +kernel, rfl, by decide +kernel, by decide +kernel⟩
theorem kb_grown : KBs "grown" s_grown ["heap", "pairs"] := by
  intro kV doc pm an cdv ct ks n e1 e2 s us ws h1 h2
  subst e1
  match n, us, ws, e2, h1, h2 with
  | 0, [], [_, _], _, _, _ => exact .of_eq rfl
  | 1, [_], [_], _, _, _ => exact .of_eq rfl
  | 2, [_, _], [], _, _, _ => exact .of_eq rfl
  | n + 3, _, _, e2, _, _ => exact absurd e2 (by simp)
def b_grown_2b : Rho → Sto → DL.R Fl :=
  (fSeq (fFor (fAny (fVar 2)) (sName 6) (fIfS (fOr (fB (fOp gEq (fVar 4) (fTup fNil))) (fB (fOp gLeD (fOp gIx (fVar 4) (fUn gNeg (fC (.int 1)))) (fVar 6)))) (fSeq (fSet 7 (fFresh (fLc (fAny (fVar 5)) (sName 8) fYes (fCall 3 m_plus_in (fCons (fVar 0) (fCons (fVar 6) (fCons (fVar 8) fNil)))) [8])))
  (fIfS (fB (fOp (gInP true) (fCall 1 m_nought_of (fCons (fVar 0) fNil)) (fVar 7))) (fDrop (fAppend (fVar 3) (fTup (fCons (fOp gAdd (fVar 4) (fTup (fCons (fVar 6) fNil))) (fCons (fFresh (fCBn gSetQ (fCons (fOp gAdd (fVar 5) (fVar 7)) fNil))) fNil))))) fNext)) fNext))
  (fIfS (fB (fOp gGtD (fCB gLen (fCons (fVar 3) fNil)) (fC (.int (2000))))) (fRaise "TooMany") fNext))
def b_grown_1 : Rho → Sto → DL.R Fl :=
  (fPar 2 3 (fCons (fCall 1 m_members_in (fCons (fVar 0) fNil)) (fCons (fThaw (fLine fNil)) fNil)))
def b_grown_2 : Rho → Sto → DL.R Fl :=
  (fFor (fAny (fVar 1)) (sTup 2 (sCons (sName 4) (sCons (sName 5) sNil))) b_grown_2b)
def b_grown_3 : Rho → Sto → DL.R Fl :=
  (fRet (fVar 3))
def b_grown : Rho → Sto → DL.R Fl :=
  (fSeq b_grown_1 (fSeq b_grown_2 b_grown_3))
def m_grown : List D → Sto → DL.R D := runDef 2 9 b_grown
theorem h_grown {P : Program} {w : World} {K : PySem.W.Frag} {mg : Str → Option Value} {base : Heap} (G : Ev K mg) : Has P w K mg base 2 "grown" ["heap", "pairs"] m_grown :=
  has_mk (k := 1) (body := b_grown) G.d_grown sc_grown kb_grown rfl rfl (fun _ cdv A outer s0 H E hr => ⟨_, by
    have nd := (sc_grown).nd
    exact (dss_cons (ds_par 2 3 nd (da_cons (de_fn ((h_members_in G).up (by decide)) hr (takes_of rfl rfl rfl rfl) (da_cons (de_var 0) da_nil)) (da_cons (de_thaw (df_lst da_nil)) da_nil)))
  (dss_cons (ds_for (passes_of rfl) (di_any (de_var 1)) (dg_tup (dgs_cons (dg_name 4 nd) (dgs_cons (dg_name 5 nd) dgs_nil))) (dss_cons (ds_for (passes_of rfl) (di_any (de_var 2)) (dg_name 6 nd) (dss_one (ds_if (dt_w (dw_or (dt_cmp rv_eq (op_eqD hr.units) (de_var 4) (de_tup da_nil) (nomark _)) (dw_or1 (dt_cmp rv_leD (op_leD hr.units) (de_ix (de_var 4) (de_neg de_int)) (de_var 6) (nomark _))))) (dss_cons (ds_setLc (ff := fFresh) (fun h => re_fresh h) 7 [("one", 8)] nd (di_any (de_var 5)) (blkOk_by (by kernel_rfl)) (fun _ _ _ _ _ => (dg_name 8 nd)) (fun _ _ _ _ _ => dts_nil) (fun _ _ _ _ _ => (de_fn ((h_plus_in G).up (by decide)) hr takes0 (da_cons (de_var 0) (da_cons (de_var 6) (da_cons (de_var 8) da_nil))))) (sw_true rfl rfl rfl (by decide +kernel)))
  (dss_one (ds_if (dt_cmp rv_in (op_notInD hr.units) (de_fn ((h_nought_of G).up (by decide)) hr (takes_of rfl rfl rfl rfl) (da_cons (de_var 0) da_nil)) (de_var 7) rfl) (dss_one (ds_expr (de_append (de_var 3) (de_tup (da_cons (de_op rv_add op_addD (de_var 4) (de_tup (da_cons (de_var 6) da_nil))) (da_cons (de_fresh (df_setQ hr.units G.z_sorted G.z_set (da_cons (de_op rv_add op_addD (de_var 5) (de_var 7)) da_nil))) da_nil)))))) dss_nil))) dss_nil)))
  (dss_one (ds_if (dt_cmp rv_gtD (op_gtD hr.units) (de_cb rvl_len call_len G.z_len bt_len (da_cons (de_var 3) da_nil)) (de_constI G.c_MOST_FREE) (nomark _)) (dss_one (ds_raise G.x_TooMany (by decide) (takes_of rfl rfl rfl rfl) )) dss_nil))))
  (dss_one (ds_ret (de_var 3)))))⟩)
theorem sc_closed_row : FnScope ["heap", "row"] ["heap", "row"] (defScope s_closed_row) := ⟨rfl, rfl, rfl, by decide +kernel, rfl, by decide +kernel, by decide +kernel⟩
theorem kb_closed_row : KBs "closed_row" s_closed_row ["heap", "row"] := by
  intro kV doc pm an cdv ct ks n e1 e2 s us ws h1 h2
  subst e1
  match n, us, ws, e2, h1, h2 with
  | 0, [], [_, _], _, _, _ => exact .of_eq rfl
  | 1, [_], [_], _, _, _ => exact .of_eq rfl
  | 2, [_, _], [], _, _, _ => exact .of_eq rfl
  | n + 3, _, _, e2, _, _ => exact absurd e2 (by simp)
def b_closed_row : Rho → Sto → DL.R Fl :=
  (fRet (fOp gAdd (fVar 1) (fTup (fCons (fCall 3 m_times_in (fCons (fVar 0) (fCons (fCall 2 m_sum_in (fCons (fVar 0) (fCons (fVar 1) fNil))) (fCons (fUn gNeg (fC (.int 1))) fNil)))) fNil))))
def m_closed_row : List D → Sto → DL.R D := runDef 2 2 b_closed_row
theorem h_closed_row {P : Program} {w : World} {K : PySem.W.Frag} {mg : Str → Option Value} {base : Heap} (G : Ev K mg) : Has P w K mg base 3 "closed_row" ["heap", "row"] m_closed_row :=
  has_mk (k := 2) (body := b_closed_row) G.d_closed_row sc_closed_row kb_closed_row rfl rfl (fun _ cdv A outer s0 H E hr => ⟨_, by
    have nd := (sc_closed_row).nd
    exact (dss_one (ds_ret (de_op rv_add op_addD (de_var 1) (de_tup (da_cons (de_fn ((h_times_in G).up (by decide)) hr (takes_of rfl rfl rfl rfl) (da_cons (de_var 0) (da_cons (de_fn ((h_sum_in G).up (by decide)) hr (takes_of rfl rfl rfl rfl) (da_cons (de_var 0) (da_cons (de_var 1) da_nil))) (da_cons (de_neg de_int) da_nil)))) da_nil)))))⟩)
theorem sc_least_of : FnScope ["heap", "rows", "found", "row"] ["heap", "rows"] (defScope s_least_of) := ⟨rfl, rfl, rfl, by decide +kernel, rfl, by decide +kernel, by decide +kernel⟩
theorem kb_least_of : KBs "least_of" s_least_of ["heap", "rows"] := by
  intro kV doc pm an cdv ct ks n e1 e2 s us ws h1 h2
  subst e1
  match n, us, ws, e2, h1, h2 with
  | 0, [], [_, _], _, _, _ => exact .of_eq rfl
  | 1, [_], [_], _, _, _ => exact .of_eq rfl
  | 2, [_, _], [], _, _, _ => exact .of_eq rfl
  | n + 3, _, _, e2, _, _ => exact absurd e2 (by simp)
def b_least_of : Rho → Sto → DL.R Fl :=
  (fSeq (fSet 2 (fFresh (fLc (fAny (fVar 1)) (sName 3) fYes (fCall 2 m_closed_row (fCons (fVar 0) (fCons (fVar 3) fNil))) [3])))
  (fRet (fFresh (fLc (fAny (fVar 2)) (sName 3) (fOr (fB (fOp gEq (fCB gLen (fCons (fVar 3) fNil)) (fC (.int 1)))) (fB (fOp gLeD (fOp gIx (fVar 3) (fUn gNeg (fC (.int 2)))) (fOp gIx (fVar 3) (fUn gNeg (fC (.int 1))))))) (fVar 3) [3]))))
def m_least_of : List D → Sto → DL.R D := runDef 2 4 b_least_of
theorem h_least_of {P : Program} {w : World} {K : PySem.W.Frag} {mg : Str → Option Value} {base : Heap} (G : Ev K mg) : Has P w K mg base 4 "least_of" ["heap", "rows"] m_least_of :=
  has_mk (k := 3) (body := b_least_of) G.d_least_of sc_least_of kb_least_of rfl rfl (fun _ cdv A outer s0 H E hr => ⟨_, by
    have nd := (sc_least_of).nd
    exact (dss_cons (ds_setLc (ff := fFresh) (fun h => re_fresh h) 2 [("row", 3)] nd (di_any (de_var 1)) (blkOk_by (by kernel_rfl)) (fun _ _ _ _ _ => (dg_name 3 nd)) (fun _ _ _ _ _ => dts_nil) (fun _ _ _ _ _ => (de_fn ((h_closed_row G).up (by decide)) hr takes0 (da_cons (de_var 0) (da_cons (de_var 3) da_nil)))) (sw_true rfl rfl rfl (by decide +kernel)))
  (dss_one (ds_ret (de_fresh (df_lc [("row", 3)] nd (di_any (de_var 2)) (blkOk_by (by kernel_rfl)) (fun _ _ _ _ _ => (dg_name 3 nd)) (fun _ _ _ _ _ => dts_one (dt_w (dw_or (dt_cmp rv_eq (op_eqD hr.units) (de_cb rvl_len call_len G.z_len bt_len (da_cons (de_var 3) da_nil)) de_int (nomark _)) (dw_or1 (dt_cmp rv_leD (op_leD hr.units) (de_ix (de_var 3) (de_neg de_int)) (de_ix (de_var 3) (de_neg de_int)) (nomark _)))))) (fun _ _ _ _ _ => (de_var 3)))))))⟩)
theorem sc_counts_in : FnScope ["heap", "pairs", "found", "row", "sums"] ["heap"] (defScope s_counts_in) := ⟨rfl, rfl, rfl, by decide +kernel, rfl, by decide +kernel, by decide +kernel⟩
theorem kb_counts_in : KBs "counts_in" s_counts_in ["heap"] := by
  intro kV doc pm an cdv ct ks n e1 e2 s us ws h1 h2
  subst e1
  match n, us, ws, e2, h1, h2 with
  | 0, [], [_], _, _, _ => exact .of_eq rfl
  | 1, [_], [], _, _, _ => exact .of_eq rfl
  | n + 2, _, _, e2, _, _ => exact absurd e2 (by simp)
def b_counts_in_1 : Rho → Sto → DL.R Fl :=
  (fPar 1 2 (fCons (fLst (fCons (fTup (fCons (fTup fNil) (fCons (fLst (fCons (fCall 1 m_nought_of (fCons (fVar 0) fNil)) fNil)) fNil))) fNil)) (fCons (fThaw (fLine fNil)) fNil)))
def b_counts_in_2 : Rho → Sto → DL.R Fl :=
  (whileN (fB (fOp gNe (fVar 1) (fLst fNil))) (fSeq (fDrop (fAppend (fVar 2) (fCB gLen (fCons (fCall 2 m_least_of (fCons (fVar 0) (fCons (fFresh (fLc (fAny (fVar 1)) (sTup 2 (sCons (sName 3) (sCons (sName 4) sNil))) fYes (fVar 3) [3, 4])) fNil))) fNil))))
  (fSet 1 (fCall 2 m_grown (fCons (fVar 0) (fCons (fVar 1) fNil))))) 200)
def b_counts_in_3 : Rho → Sto → DL.R Fl :=
  (fRet (fCB gTuple (fCons (fVar 2) fNil)))
def b_counts_in : Rho → Sto → DL.R Fl :=
  (fSeq b_counts_in_1 (fSeq b_counts_in_2 b_counts_in_3))
def m_counts_in : List D → Sto → DL.R D := runDef 1 5 b_counts_in
theorem h_counts_in {P : Program} {w : World} {K : PySem.W.Frag} {mg : Str → Option Value} {base : Heap} (G : Ev K mg) : Has P w K mg base 5 "counts_in" ["heap"] m_counts_in :=
  has_mk (k := 4) (body := b_counts_in) G.d_counts_in sc_counts_in kb_counts_in rfl rfl (fun _ cdv A outer s0 H E hr => ⟨_, by
    have nd := (sc_counts_in).nd
    exact (dss_cons (ds_par 1 2 nd (da_cons (de_lst (da_cons (de_tup (da_cons (de_tup da_nil) (da_cons (de_lst (da_cons (de_fn ((h_nought_of G).up (by decide)) hr (takes_of rfl rfl rfl rfl) (da_cons (de_var 0) da_nil)) da_nil)) da_nil))) da_nil)) (da_cons (de_thaw (df_lst da_nil)) da_nil)))
  (dss_cons (ds_while 200 (passes_of rfl) (dt_cmp rv_ne (op_neD hr.units) (de_var 1) (de_lst da_nil) (nomark _)) (dss_cons (ds_expr (de_append (de_var 2) (de_cb rvl_len call_len G.z_len bt_len (da_cons (de_fn ((h_least_of G).up (by decide)) hr (takes_of rfl rfl rfl rfl) (da_cons (de_var 0) (da_cons (de_fresh (df_lc [("row", 3), ("sums", 4)] nd (di_any (de_var 1)) (blkOk_by (by kernel_rfl)) (fun _ _ _ _ _ => (dg_tup (dgs_cons (dg_name 3 nd) (dgs_cons (dg_name 4 nd) dgs_nil)))) (fun _ _ _ _ _ => dts_nil) (fun _ _ _ _ _ => (de_var 3)))) da_nil))) da_nil))))
  (dss_one (ds_set 1 nd (de_fn ((h_grown G).up (by decide)) hr (takes_of rfl rfl rfl rfl) (da_cons (de_var 0) (da_cons (de_var 1) da_nil)))))))
  (dss_one (ds_ret (de_ct rvl_tuple call_tuple_of G.z_tuple bt_tuple (da_cons (de_var 2) da_nil))))))⟩)
theorem sc_least_counts : FnScope ["heap"] ["heap"] (defScope s_least_counts) := ⟨rfl, rfl, rfl, by decide +kernel, rfl, by decide +kernel, by decide +kernel⟩
theorem kb_least_counts : KBs "least_counts" s_least_counts ["heap"] := by
  intro kV doc pm an cdv ct ks n e1 e2 s us ws h1 h2
  subst e1
  match n, us, ws, e2, h1, h2 with
  | 0, [], [_], _, _, _ => exact .of_eq rfl
  | 1, [_], [], _, _, _ => exact .of_eq rfl
  | n + 2, _, _, e2, _, _ => exact absurd e2 (by simp)
def b_least_counts : Rho → Sto → DL.R Fl :=
  (fRet (fCall 1 m_counts_in (fCons (fCall 1 m_sure_heap (fCons (fVar 0) fNil)) fNil)))
def m_least_counts : List D → Sto → DL.R D := runDef 1 1 b_least_counts
theorem h_least_counts {P : Program} {w : World} {K : PySem.W.Frag} {mg : Str → Option Value} {base : Heap} (G : Ev K mg) : Has P w K mg base 9 "least_counts" ["heap"] m_least_counts :=
  has_mk (k := 8) (body := b_least_counts) G.d_least_counts sc_least_counts kb_least_counts rfl rfl (fun _ cdv A outer s0 H E hr => ⟨_, by
    have nd := (sc_least_counts).nd
    exact (dss_one (ds_ret (de_fn ((h_counts_in G).up (by decide)) hr (takes_of rfl rfl rfl rfl) (da_cons (de_fn ((h_sure_heap G).up (by decide)) hr (takes_of rfl rfl rfl rfl) (da_cons (de_var 0) da_nil)) da_nil))))⟩)
theorem sc__law_nought : FnScope ["heap_so"] ["heap_so"] (defScope s__law_nought) := ⟨rfl, rfl, rfl, by decide +kernel, rfl, by decide +kernel, by decide +kernel⟩
theorem kb__law_nought : KBs "_law_nought" s__law_nought ["heap_so"] := by
  intro kV doc pm an cdv ct ks n e1 e2 s us ws h1 h2
  subst e1
  match n, us, ws, e2, h1, h2 with
  | 0, [], [_], _, _, _ => exact .of_eq rfl
  | 1, [_], [], _, _, _ => exact .of_eq rfl
  | n + 2, _, _, e2, _, _ => exact absurd e2 (by simp)
def b__law_nought : Rho → Sto → DL.R Fl :=
  (fRet (fOp gMulE (fTup (fCons (fC (.int 0)) fNil)) (fCB gLen (fCons (fVar 0) fNil))))
def m__law_nought : List D → Sto → DL.R D := runDef 1 1 b__law_nought
theorem h__law_nought {P : Program} {w : World} {K : PySem.W.Frag} {mg : Str → Option Value} {base : Heap} (G : Ev K mg) : Has P w K mg base 1 "_law_nought" ["heap_so"] m__law_nought :=
  has_mk (k := 0) (body := b__law_nought) G.d__law_nought sc__law_nought kb__law_nought rfl rfl (fun _ cdv A outer s0 H E hr => ⟨_, by
    have nd := (sc__law_nought).nd
    exact (dss_one (ds_ret (de_op rv_mulE op_mulE (de_tup (da_cons de_int da_nil)) (de_cb rvl_len call_len G.z_len bt_len (da_cons (de_var 0) da_nil)))))⟩)
theorem sc_sure_within : FnScope ["thing", "least", "most"] ["thing", "least", "most"] (defScope s_sure_within) := ⟨rfl, rfl, rfl, by decide +kernel, rfl, by decide +kernel, by decide +kernel⟩
theorem kb_sure_within : KBs "sure_within" s_sure_within ["thing", "least", "most"] := by
  intro kV doc pm an cdv ct ks n e1 e2 s us ws h1 h2
  subst e1
  match n, us, ws, e2, h1, h2 with
  | 0, [], [_, _, _], _, _, _ => exact .of_eq rfl
  | 1, [_], [_, _], _, _, _ => exact .of_eq rfl
  | 2, [_, _], [_], _, _, _ => exact .of_eq rfl
  | 3, [_, _, _], [], _, _, _ => exact .of_eq rfl
  | n + 4, _, _, e2, _, _ => exact absurd e2 (by simp)
def b_sure_within : Rho → Sto → DL.R Fl :=
  (fSeq (fIfS (fNot (fTru (fCall 3 m_is_within (fCons (fVar 0) (fCons (fVar 1) (fCons (fVar 2) fNil)))))) (fRaise "Unfit") fNext)
  (fRet (fVar 0)))
def m_sure_within : List D → Sto → DL.R D := runDef 3 3 b_sure_within
theorem h_sure_within {P : Program} {w : World} {K : PySem.W.Frag} {mg : Str → Option Value} {base : Heap} (G : Ev K mg) : Has P w K mg base 3 "sure_within" ["thing", "least", "most"] m_sure_within :=
  has_mk (k := 2) (body := b_sure_within) G.d_sure_within sc_sure_within kb_sure_within rfl rfl (fun _ cdv A outer s0 H E hr => ⟨_, by
    have nd := (sc_sure_within).nd
    exact (dss_cons (ds_if (dt_not (dt_tru (de_fn ((h_is_within G).up (by decide)) hr (takes_of rfl rfl rfl rfl) (da_cons (de_var 0) (da_cons (de_var 1) (da_cons (de_var 2) da_nil)))))) (dss_one (ds_raise G.x_Unfit (by decide) (takes_of rfl rfl rfl rfl) )) dss_nil)
  (dss_one (ds_ret (de_var 0))))⟩)
theorem sc_free_in : FnScope ["heap", "length", "pairs", "lap", "row", "sums"] ["heap", "length"] (defScope s_free_in) := ⟨rfl, rfl, rfl, by decide +kernel, rfl, by decide +kernel, by decide +kernel⟩
theorem kb_free_in : KBs "free_in" s_free_in ["heap", "length"] := by
  intro kV doc pm an cdv ct ks n e1 e2 s us ws h1 h2
  subst e1
  match n, us, ws, e2, h1, h2 with
  | 0, [], [_, _], _, _, _ => exact .of_eq rfl
  | 1, [_], [_], _, _, _ => exact .of_eq rfl
  | 2, [_, _], [], _, _, _ => exact .of_eq rfl
  | n + 3, _, _, e2, _, _ => exact absurd e2 (by simp)
def b_free_in_2b : Rho → Sto → DL.R Fl :=
  (fSet 2 (fCall 2 m_grown (fCons (fVar 0) (fCons (fVar 2) fNil))))
def b_free_in_1 : Rho → Sto → DL.R Fl :=
  (fSet 2 (fLst (fCons (fTup (fCons (fTup fNil) (fCons (fLst (fCons (fCall 1 m_nought_of (fCons (fVar 0) fNil)) fNil)) fNil))) fNil)))
def b_free_in_2 : Rho → Sto → DL.R Fl :=
  (fFor (fRng1 (fCons (fVar 1) fNil)) (sName 3) b_free_in_2b)
def b_free_in_3 : Rho → Sto → DL.R Fl :=
  (fRet (fFresh (fLc (fAny (fVar 2)) (sTup 2 (sCons (sName 4) (sCons (sName 5) sNil))) fYes (fVar 4) [4, 5])))
def b_free_in : Rho → Sto → DL.R Fl :=
  (fSeq b_free_in_1 (fSeq b_free_in_2 b_free_in_3))
def m_free_in : List D → Sto → DL.R D := runDef 2 6 b_free_in
theorem h_free_in {P : Program} {w : World} {K : PySem.W.Frag} {mg : Str → Option Value} {base : Heap} (G : Ev K mg) : Has P w K mg base 3 "free_in" ["heap", "length"] m_free_in :=
  has_mk (k := 2) (body := b_free_in) G.d_free_in sc_free_in kb_free_in rfl rfl (fun _ cdv A outer s0 H E hr => ⟨_, by
    have nd := (sc_free_in).nd
    exact (dss_cons (ds_set 2 nd (de_lst (da_cons (de_tup (da_cons (de_tup da_nil) (da_cons (de_lst (da_cons (de_fn ((h_nought_of G).up (by decide)) hr (takes_of rfl rfl rfl rfl) (da_cons (de_var 0) da_nil)) da_nil)) da_nil))) da_nil)))
  (dss_cons (ds_for (passes_of rfl) (di_rng1 G.z_range (da_cons (de_var 1) da_nil)) (dg_name 3 nd) (dss_one (ds_set 2 nd (de_fn ((h_grown G).up (by decide)) hr (takes_of rfl rfl rfl rfl) (da_cons (de_var 0) (da_cons (de_var 2) da_nil))))))
  (dss_one (ds_ret (de_fresh (df_lc [("row", 4), ("sums", 5)] nd (di_any (de_var 2)) (blkOk_by (by kernel_rfl)) (fun _ _ _ _ _ => (dg_tup (dgs_cons (dg_name 4 nd) (dgs_cons (dg_name 5 nd) dgs_nil)))) (fun _ _ _ _ _ => dts_nil) (fun _ _ _ _ _ => (de_var 4))))))))⟩)
theorem sc_least_rows : FnScope ["heap", "length", "own"] ["heap", "length"] (defScope s_least_rows) := ⟨rfl, rfl, rfl, by decide +kernel, rfl, by decide +kernel, by decide +kernel⟩
theorem kb_least_rows : KBs "least_rows" s_least_rows ["heap", "length"] := by
  intro kV doc pm an cdv ct ks n e1 e2 s us ws h1 h2
  subst e1
  match n, us, ws, e2, h1, h2 with
  | 0, [], [_, _], _, _, _ => exact .of_eq rfl
  | 1, [_], [_], _, _, _ => exact .of_eq rfl
  | 2, [_, _], [], _, _, _ => exact .of_eq rfl
  | n + 3, _, _, e2, _, _ => exact absurd e2 (by simp)
def b_least_rows : Rho → Sto → DL.R Fl :=
  (fSeq (fSet 2 (fCall 1 m_sure_heap (fCons (fVar 0) fNil)))
  (fRet (fCall 2 m_least_of (fCons (fVar 2) (fCons (fCall 2 m_free_in (fCons (fVar 2) (fCons (fOp gSub (fCall 3 m_sure_within (fCons (fVar 1) (fCons (fC (.int 1)) (fCons (fC (.int (40))) fNil)))) (fC (.int 1))) fNil))) fNil)))))
def m_least_rows : List D → Sto → DL.R D := runDef 2 3 b_least_rows
theorem h_least_rows {P : Program} {w : World} {K : PySem.W.Frag} {mg : Str → Option Value} {base : Heap} (G : Ev K mg) : Has P w K mg base 9 "least_rows" ["heap", "length"] m_least_rows :=
  has_mk (k := 8) (body := b_least_rows) G.d_least_rows sc_least_rows kb_least_rows rfl rfl (fun _ cdv A outer s0 H E hr => ⟨_, by
    have nd := (sc_least_rows).nd
    exact (dss_cons (ds_set 2 nd (de_fn ((h_sure_heap G).up (by decide)) hr (takes_of rfl rfl rfl rfl) (da_cons (de_var 0) da_nil)))
  (dss_one (ds_ret (de_fn ((h_least_of G).up (by decide)) hr (takes_of rfl rfl rfl rfl) (da_cons (de_var 2) (da_cons (de_fn ((h_free_in G).up (by decide)) hr (takes_of rfl rfl rfl rfl) (da_cons (de_var 2) (da_cons (de_op rv_sub op_sub (de_fn ((h_sure_within G).up (by decide)) hr (takes_of rfl rfl rfl rfl) (da_cons (de_var 1) (da_cons de_int (da_cons (de_constI G.c_MOST_ROW) da_nil)))) de_int) da_nil))) da_nil))))))⟩)
def tbl : Tbl := [("least_rows", 2, m_least_rows)]
theorem tblOk {P : Program} {w : World} {K : PySem.W.Frag} {mg : Str → Option Value} {base : Heap} (G : Ev K mg) : TblOk P w K mg base 9 tbl := (.cons (Has.up (h_least_rows (P := P) (w := w) G) (by decide)) rfl .nil)
theorem sc__law_call : FnScope ["door_so", "goods_so"] ["door_so", "goods_so"] (defScope s__law_call) := ⟨rfl, rfl, rfl, by decide +kernel, rfl, by decide +kernel, by decide +kernel⟩
theorem kb__law_call : KBs "_law_call" s__law_call ["door_so", "goods_so"] := by
  intro kV doc pm an cdv ct ks n e1 e2 s us ws h1 h2
  subst e1
  match n, us, ws, e2, h1, h2 with
  | 0, [], [_, _], _, _, _ => exact .of_eq rfl
  | 1, [_], [_], _, _, _ => exact .of_eq rfl
  | 2, [_, _], [], _, _, _ => exact .of_eq rfl
  | n + 3, _, _, e2, _, _ => exact absurd e2 (by simp)
def b__law_call_1 : Rho → Sto → DL.R Fl :=
  (fIfS (fB (fOp gEq (fCB gLen (fCons (fVar 1) fNil)) (fC (.int 1)))) (fRet (fCallV 0 tbl (fCons (fOp gIx (fVar 1) (fC (.int 0))) fNil))) fNext)
def b__law_call_2 : Rho → Sto → DL.R Fl :=
  (fIfS (fB (fOp gEq (fCB gLen (fCons (fVar 1) fNil)) (fC (.int 2)))) (fRet (fCallV 0 tbl (fCons (fOp gIx (fVar 1) (fC (.int 0))) (fCons (fOp gIx (fVar 1) (fC (.int 1))) fNil)))) fNext)
def b__law_call_3 : Rho → Sto → DL.R Fl :=
  (fIfS (fB (fOp gEq (fCB gLen (fCons (fVar 1) fNil)) (fC (.int 3)))) (fRet (fCallV 0 tbl (fCons (fOp gIx (fVar 1) (fC (.int 0))) (fCons (fOp gIx (fVar 1) (fC (.int 1))) (fCons (fOp gIx (fVar 1) (fC (.int 2))) fNil))))) fNext)
def b__law_call_4 : Rho → Sto → DL.R Fl :=
  (fIfS (fB (fOp gEq (fCB gLen (fCons (fVar 1) fNil)) (fC (.int 4)))) (fRet (fCallV 0 tbl (fCons (fOp gIx (fVar 1) (fC (.int 0))) (fCons (fOp gIx (fVar 1) (fC (.int 1))) (fCons (fOp gIx (fVar 1) (fC (.int 2))) (fCons (fOp gIx (fVar 1) (fC (.int 3))) fNil)))))) fNext)
def b__law_call_5 : Rho → Sto → DL.R Fl :=
  (fRet (fCallV 0 tbl (fCons (fOp gIx (fVar 1) (fC (.int 0))) (fCons (fOp gIx (fVar 1) (fC (.int 1))) (fCons (fOp gIx (fVar 1) (fC (.int 2))) (fCons (fOp gIx (fVar 1) (fC (.int 3))) (fCons (fOp gIx (fVar 1) (fC (.int 4))) fNil)))))))
def b__law_call : Rho → Sto → DL.R Fl :=
  (fSeq b__law_call_1 (fSeq b__law_call_2 (fSeq b__law_call_3 (fSeq b__law_call_4 b__law_call_5))))
def m__law_call : List D → Sto → DL.R D := runDef 2 2 b__law_call
theorem h__law_call {P : Program} {w : World} {K : PySem.W.Frag} {mg : Str → Option Value} {base : Heap} (G : Ev K mg) : Has P w K mg base 10 "_law_call" ["door_so", "goods_so"] m__law_call :=
  has_mk (k := 9) (body := b__law_call) G.d__law_call sc__law_call kb__law_call rfl rfl (fun _ cdv A outer s0 H E hr => ⟨_, by
    have nd := (sc__law_call).nd
    exact (dss_cons (ds_if (dt_cmp rv_eq (op_eqD hr.units) (de_cb rvl_len call_len G.z_len bt_len (da_cons (de_var 1) da_nil)) de_int (nomark _)) (dss_one (ds_ret (de_callV 0 ((tblOk G).up (by decide)) hr (takes_of rfl rfl rfl rfl) (da_cons (de_ix (de_var 1) de_int) da_nil)))) dss_nil)
  (dss_cons (ds_if (dt_cmp rv_eq (op_eqD hr.units) (de_cb rvl_len call_len G.z_len bt_len (da_cons (de_var 1) da_nil)) de_int (nomark _)) (dss_one (ds_ret (de_callV 0 ((tblOk G).up (by decide)) hr (takes_of rfl rfl rfl rfl) (da_cons (de_ix (de_var 1) de_int) (da_cons (de_ix (de_var 1) de_int) da_nil))))) dss_nil)
  (dss_cons (ds_if (dt_cmp rv_eq (op_eqD hr.units) (de_cb rvl_len call_len G.z_len bt_len (da_cons (de_var 1) da_nil)) de_int (nomark _)) (dss_one (ds_ret (de_callV 0 ((tblOk G).up (by decide)) hr (takes_of rfl rfl rfl rfl) (da_cons (de_ix (de_var 1) de_int) (da_cons (de_ix (de_var 1) de_int) (da_cons (de_ix (de_var 1) de_int) da_nil)))))) dss_nil)
  (dss_cons (ds_if (dt_cmp rv_eq (op_eqD hr.units) (de_cb rvl_len call_len G.z_len bt_len (da_cons (de_var 1) da_nil)) de_int (nomark _)) (dss_one (ds_ret (de_callV 0 ((tblOk G).up (by decide)) hr (takes_of rfl rfl rfl rfl) (da_cons (de_ix (de_var 1) de_int) (da_cons (de_ix (de_var 1) de_int) (da_cons (de_ix (de_var 1) de_int) (da_cons (de_ix (de_var 1) de_int) da_nil))))))) dss_nil)
  (dss_one (ds_ret (de_callV 0 ((tblOk G).up (by decide)) hr (takes_of rfl rfl rfl rfl) (da_cons (de_ix (de_var 1) de_int) (da_cons (de_ix (de_var 1) de_int) (da_cons (de_ix (de_var 1) de_int) (da_cons (de_ix (de_var 1) de_int) (da_cons (de_ix (de_var 1) de_int) da_nil))))))))))))⟩)
theorem sc__law_slip : FnScope ["door_so", "goods_so", "slip_so", "slip_c", "slip_m"] ["door_so", "goods_so"] (defScope s__law_slip) := ⟨rfl, rfl, rfl, by decide +kernel, rfl, by decide +kernel, by decide +kernel⟩
theorem kb__law_slip : KBs "_law_slip" s__law_slip ["door_so", "goods_so"] := by
  intro kV doc pm an cdv ct ks n e1 e2 s us ws h1 h2
  subst e1
  match n, us, ws, e2, h1, h2 with
  | 0, [], [_, _], _, _, _ => exact .of_eq rfl
  | 1, [_], [_], _, _, _ => exact .of_eq rfl
  | 2, [_, _], [], _, _, _ => exact .of_eq rfl
  | n + 3, _, _, e2, _, _ => exact absurd e2 (by simp)
def b__law_slip : Rho → Sto → DL.R Fl :=
  (fSeq (fSlip (fCall 2 m__law_call (fCons (fVar 0) (fCons (fVar 1) fNil))) ["Unfit", "CanNot", "TooMany"] [("Unfit", 2, "unfit", "odd"), ("CanNot", 3, "can not", "odd"), ("TooMany", 4, "many", "odd")])
  (fRet (fC (.str "told"))))
def m__law_slip : List D → Sto → DL.R D := runDef 2 5 b__law_slip
theorem h__law_slip {P : Program} {w : World} {K : PySem.W.Frag} {mg : Str → Option Value} {base : Heap} (G : Ev K mg) : Has P w K mg base 11 "_law_slip" ["door_so", "goods_so"] m__law_slip :=
  has_mk (k := 10) (body := b__law_slip) G.d__law_slip sc__law_slip kb__law_slip rfl rfl (fun _ cdv A outer s0 H E hr => ⟨_, by
    have nd := (sc__law_slip).nd
    exact (dss_cons (ds_slip (known := ["Unfit", "CanNot", "TooMany"]) (l := [("Unfit", 2, "unfit", "odd"), ("CanNot", 3, "can not", "odd"), ("TooMany", 4, "many", "odd")]) (takes_of rfl rfl rfl rfl) nd (fun _ _ _ tkk => (de_fn ((h__law_call G).up (by decide)) hr tkk (da_cons (de_var 0) (da_cons (de_var 1) da_nil)))) (hd_cons 2 G.x_Unfit G.z_isinstance G.z_ValueError (hd_cons 3 G.x_CanNot G.z_isinstance G.z_ValueError (hd_cons 4 G.x_TooMany G.z_isinstance G.z_ValueError hd_nil))) (allM ⟨G.x_Unfit, by decide⟩ (allM ⟨G.x_CanNot, by decide⟩ (allM ⟨G.x_TooMany, by decide⟩ allN))) (allM (allM (xmOf G.m_Unfit_Unfit) (allM (xmOf G.m_Unfit_CanNot) (allM (xmOf G.m_Unfit_TooMany) allN))) (allM (allM (xmOf G.m_CanNot_Unfit) (allM (xmOf G.m_CanNot_CanNot) (allM (xmOf G.m_CanNot_TooMany) allN))) (allM (allM (xmOf G.m_TooMany_Unfit) (allM (xmOf G.m_TooMany_CanNot) (allM (xmOf G.m_TooMany_TooMany) allN))) allN))))
  (dss_one (ds_ret de_str)))⟩)
theorem sc__law_plus : FnScope ["heap_so", "one", "two", "a", "b", "by"] ["heap_so", "one", "two"] (defScope s__law_plus) := ⟨rfl, rfl, rfl, by decide +kernel, rfl, by decide +kernel, by decide +kernel⟩
theorem kb__law_plus : KBs "_law_plus" s__law_plus ["heap_so", "one", "two"] := by
  intro kV doc pm an cdv ct ks n e1 e2 s us ws h1 h2
  subst e1
  match n, us, ws, e2, h1, h2 with
  | 0, [], [_, _, _], _, _, _ => exact .of_eq rfl
  | 1, [_], [_, _], _, _, _ => exact .of_eq rfl
  | 2, [_, _], [_], _, _, _ => exact .of_eq rfl
  | 3, [_, _, _], [], _, _, _ => exact .of_eq rfl
  | n + 4, _, _, e2, _, _ => exact absurd e2 (by simp)
def b__law_plus : Rho → Sto → DL.R Fl :=
  (fRet (fCB gTuple (fCons (fFresh (fLc (fZip3 (fCons (fVar 1) (fCons (fVar 2) (fCons (fVar 0) fNil)))) (sTup 3 (sCons (sName 3) (sCons (sName 4) (sCons (sName 5) sNil)))) fYes (fOp gMod (fOp gAdd (fVar 3) (fVar 4)) (fVar 5)) [3, 4, 5])) fNil)))
def m__law_plus : List D → Sto → DL.R D := runDef 3 6 b__law_plus
theorem h__law_plus {P : Program} {w : World} {K : PySem.W.Frag} {mg : Str → Option Value} {base : Heap} (G : Ev K mg) : Has P w K mg base 1 "_law_plus" ["heap_so", "one", "two"] m__law_plus :=
  has_mk (k := 0) (body := b__law_plus) G.d__law_plus sc__law_plus kb__law_plus rfl rfl (fun _ cdv A outer s0 H E hr => ⟨_, by
    have nd := (sc__law_plus).nd
    exact (dss_one (ds_ret (de_ct rvl_tuple call_tuple_of G.z_tuple bt_tuple (da_cons (de_fresh (df_lc [("a", 3), ("b", 4), ("by", 5)] nd (di_zip3 G.z_zip (da_cons (de_var 1) (da_cons (de_var 2) (da_cons (de_var 0) da_nil)))) (blkOk_by (by kernel_rfl)) (fun _ _ _ _ _ => (dg_tup (dgs_cons (dg_name 3 nd) (dgs_cons (dg_name 4 nd) (dgs_cons (dg_name 5 nd) dgs_nil))))) (fun _ _ _ _ _ => dts_nil) (fun _ _ _ _ _ => (de_op rv_mod op_mod (de_op rv_add op_addD (de_var 3) (de_var 4)) (de_var 5))))) da_nil))))⟩)
theorem sc__law_total : FnScope ["heap_so", "row_so", "found", "own"] ["heap_so", "row_so"] (defScope s__law_total) := ⟨rfl, rfl, rfl, by decide +kernel, rfl, by decide +kernel, by decide +kernel⟩
theorem kb__law_total : KBs "_law_total" s__law_total ["heap_so", "row_so"] := by
  intro kV doc pm an cdv ct ks n e1 e2 s us ws h1 h2
  subst e1
  match n, us, ws, e2, h1, h2 with
  | 0, [], [_, _], _, _, _ => exact .of_eq rfl
  | 1, [_], [_], _, _, _ => exact .of_eq rfl
  | 2, [_, _], [], _, _, _ => exact .of_eq rfl
  | n + 3, _, _, e2, _, _ => exact absurd e2 (by simp)
def b__law_total_2b : Rho → Sto → DL.R Fl :=
  (fSet 2 (fCall 3 m__law_plus (fCons (fVar 0) (fCons (fVar 2) (fCons (fVar 3) fNil)))))
def b__law_total_1 : Rho → Sto → DL.R Fl :=
  (fSet 2 (fCall 1 m__law_nought (fCons (fVar 0) fNil)))
def b__law_total_2 : Rho → Sto → DL.R Fl :=
  (fFor (fAny (fVar 1)) (sName 3) b__law_total_2b)
def b__law_total_3 : Rho → Sto → DL.R Fl :=
  (fRet (fVar 2))
def b__law_total : Rho → Sto → DL.R Fl :=
  (fSeq b__law_total_1 (fSeq b__law_total_2 b__law_total_3))
def m__law_total : List D → Sto → DL.R D := runDef 2 4 b__law_total
theorem h__law_total {P : Program} {w : World} {K : PySem.W.Frag} {mg : Str → Option Value} {base : Heap} (G : Ev K mg) : Has P w K mg base 2 "_law_total" ["heap_so", "row_so"] m__law_total :=
  has_mk (k := 1) (body := b__law_total) G.d__law_total sc__law_total kb__law_total rfl rfl (fun _ cdv A outer s0 H E hr => ⟨_, by
    have nd := (sc__law_total).nd
    exact (dss_cons (ds_set 2 nd (de_fn ((h__law_nought G).up (by decide)) hr (takes_of rfl rfl rfl rfl) (da_cons (de_var 0) da_nil)))
  (dss_cons (ds_for (passes_of rfl) (di_any (de_var 1)) (dg_name 3 nd) (dss_one (ds_set 2 nd (de_fn ((h__law_plus G).up (by decide)) hr (takes_of rfl rfl rfl rfl) (da_cons (de_var 0) (da_cons (de_var 2) (da_cons (de_var 3) da_nil)))))))
  (dss_one (ds_ret (de_var 2)))))⟩)
theorem sc__law_inverse : FnScope ["heap_so", "member_so", "a", "by"] ["heap_so", "member_so"] (defScope s__law_inverse) := ⟨rfl, rfl, rfl, by decide +kernel, rfl, by decide +kernel, by decide +kernel⟩
theorem kb__law_inverse : KBs "_law_inverse" s__law_inverse ["heap_so", "member_so"] := by
  intro kV doc pm an cdv ct ks n e1 e2 s us ws h1 h2
  subst e1
  match n, us, ws, e2, h1, h2 with
  | 0, [], [_, _], _, _, _ => exact .of_eq rfl
  | 1, [_], [_], _, _, _ => exact .of_eq rfl
  | 2, [_, _], [], _, _, _ => exact .of_eq rfl
  | n + 3, _, _, e2, _, _ => exact absurd e2 (by simp)
def b__law_inverse : Rho → Sto → DL.R Fl :=
  (fRet (fCB gTuple (fCons (fFresh (fLc (fZip2 (fCons (fVar 1) (fCons (fVar 0) fNil))) (sTup 2 (sCons (sName 2) (sCons (sName 3) sNil))) fYes (fOp gMod (fUn gNeg (fVar 2)) (fVar 3)) [2, 3])) fNil)))
def m__law_inverse : List D → Sto → DL.R D := runDef 2 4 b__law_inverse
theorem h__law_inverse {P : Program} {w : World} {K : PySem.W.Frag} {mg : Str → Option Value} {base : Heap} (G : Ev K mg) : Has P w K mg base 1 "_law_inverse" ["heap_so", "member_so"] m__law_inverse :=
  has_mk (k := 0) (body := b__law_inverse) G.d__law_inverse sc__law_inverse kb__law_inverse rfl rfl (fun _ cdv A outer s0 H E hr => ⟨_, by
    have nd := (sc__law_inverse).nd
    exact (dss_one (ds_ret (de_ct rvl_tuple call_tuple_of G.z_tuple bt_tuple (da_cons (de_fresh (df_lc [("a", 2), ("by", 3)] nd (di_zip2 G.z_zip (da_cons (de_var 1) (da_cons (de_var 0) da_nil))) (blkOk_by (by kernel_rfl)) (fun _ _ _ _ _ => (dg_tup (dgs_cons (dg_name 2 nd) (dgs_cons (dg_name 3 nd) dgs_nil)))) (fun _ _ _ _ _ => dts_nil) (fun _ _ _ _ _ => (de_op rv_mod op_mod (de_neg (de_var 2)) (de_var 3))))) da_nil))))⟩)
theorem sc__law_free : FnScope ["heap_so", "row_so", "reach_so", "own", "its"] ["heap_so", "row_so"] (defScope s__law_free) := ⟨rfl, rfl, rfl, by decide +kernel, rfl, by decide +kernel, by decide +kernel⟩
theorem kb__law_free : KBs "_law_free" s__law_free ["heap_so", "row_so"] := by
  intro kV doc pm an cdv ct ks n e1 e2 s us ws h1 h2
  subst e1
  match n, us, ws, e2, h1, h2 with
  | 0, [], [_, _], _, _, _ => exact .of_eq rfl
  | 1, [_], [_], _, _, _ => exact .of_eq rfl
  | 2, [_, _], [], _, _, _ => exact .of_eq rfl
  | n + 3, _, _, e2, _, _ => exact absurd e2 (by simp)
def b__law_free_2b : Rho → Sto → DL.R Fl :=
  (fSeq (fIfS (fB (fOp (gInP false) (fCall 2 m__law_inverse (fCons (fVar 0) (fCons (fVar 3) fNil))) (fVar 2))) (fRet (fC (.bl false))) fNext)
  (fSet 2 (fFresh (fCBn gSetQ (fCons (fOp gAdd (fVar 2) (fFresh (fLc (fAny (fVar 2)) (sName 4) fYes (fCall 3 m__law_plus (fCons (fVar 0) (fCons (fVar 4) (fCons (fVar 3) fNil)))) [4]))) fNil)))))
def b__law_free_1 : Rho → Sto → DL.R Fl :=
  (fSet 2 (fLst (fCons (fCall 1 m__law_nought (fCons (fVar 0) fNil)) fNil)))
def b__law_free_2 : Rho → Sto → DL.R Fl :=
  (fFor (fAny (fVar 1)) (sName 3) b__law_free_2b)
def b__law_free_3 : Rho → Sto → DL.R Fl :=
  (fRet (fC (.bl true)))
def b__law_free : Rho → Sto → DL.R Fl :=
  (fSeq b__law_free_1 (fSeq b__law_free_2 b__law_free_3))
def m__law_free : List D → Sto → DL.R D := runDef 2 5 b__law_free
theorem h__law_free {P : Program} {w : World} {K : PySem.W.Frag} {mg : Str → Option Value} {base : Heap} (G : Ev K mg) : Has P w K mg base 2 "_law_free" ["heap_so", "row_so"] m__law_free :=
  has_mk (k := 1) (body := b__law_free) G.d__law_free sc__law_free kb__law_free rfl rfl (fun _ cdv A outer s0 H E hr => ⟨_, by
    have nd := (sc__law_free).nd
    exact (dss_cons (ds_set 2 nd (de_lst (da_cons (de_fn ((h__law_nought G).up (by decide)) hr (takes_of rfl rfl rfl rfl) (da_cons (de_var 0) da_nil)) da_nil)))
  (dss_cons (ds_for (passes_of rfl) (di_any (de_var 1)) (dg_name 3 nd) (dss_cons (ds_if (dt_cmp rv_in (op_inD hr.units) (de_fn ((h__law_inverse G).up (by decide)) hr (takes_of rfl rfl rfl rfl) (da_cons (de_var 0) (da_cons (de_var 3) da_nil))) (de_var 2) rfl) (dss_one (ds_ret de_bl)) dss_nil)
  (dss_one (ds_set 2 nd (de_fresh (df_setQ hr.units G.z_sorted G.z_set (da_cons (de_op rv_add op_addD (de_var 2) (de_fresh (df_lc [("its", 4)] nd (di_any (de_var 2)) (blkOk_by (by kernel_rfl)) (fun _ _ _ _ _ => (dg_name 4 nd)) (fun _ _ _ _ _ => dts_nil) (fun _ _ _ _ _ => (de_fn ((h__law_plus G).up (by decide)) hr takes0 (da_cons (de_var 0) (da_cons (de_var 4) (da_cons (de_var 3) da_nil)))))))) da_nil)))))))
  (dss_one (ds_ret de_bl))))⟩)
theorem sc__law_least : FnScope ["heap_so", "row_so"] ["heap_so", "row_so"] (defScope s__law_least) := ⟨rfl, rfl, rfl, by decide +kernel, rfl, by decide +kernel, by decide +kernel⟩
theorem kb__law_least : KBs "_law_least" s__law_least ["heap_so", "row_so"] := by
  intro kV doc pm an cdv ct ks n e1 e2 s us ws h1 h2
  subst e1
  match n, us, ws, e2, h1, h2 with
  | 0, [], [_, _], _, _, _ => exact .of_eq rfl
  | 1, [_], [_], _, _, _ => exact .of_eq rfl
  | 2, [_, _], [], _, _, _ => exact .of_eq rfl
  | n + 3, _, _, e2, _, _ => exact absurd e2 (by simp)
def b__law_least : Rho → Sto → DL.R Fl :=
  (fRet (fAndV (fOp gNe (fVar 1) (fTup fNil)) (fAndV (fOp gEq (fCall 2 m__law_total (fCons (fVar 0) (fCons (fVar 1) fNil))) (fCall 1 m__law_nought (fCons (fVar 0) fNil))) (fCall 2 m__law_free (fCons (fVar 0) (fCons (fSl (fVar 1) (fPart (fC (.int 1))) fNoPart) fNil))))))
def m__law_least : List D → Sto → DL.R D := runDef 2 2 b__law_least
theorem h__law_least {P : Program} {w : World} {K : PySem.W.Frag} {mg : Str → Option Value} {base : Heap} (G : Ev K mg) : Has P w K mg base 3 "_law_least" ["heap_so", "row_so"] m__law_least :=
  has_mk (k := 2) (body := b__law_least) G.d__law_least sc__law_least kb__law_least rfl rfl (fun _ cdv A outer s0 H E hr => ⟨_, by
    have nd := (sc__law_least).nd
    exact (dss_one (ds_ret (de_and (de_cmp rv_ne (op_neD hr.units) (de_var 1) (de_tup da_nil) (nomark _)) (de_and (de_cmp rv_eq (op_eqD hr.units) (de_fn ((h__law_total G).up (by decide)) hr (takes_of rfl rfl rfl rfl) (da_cons (de_var 0) (da_cons (de_var 1) da_nil))) (de_fn ((h__law_nought G).up (by decide)) hr (takes_of rfl rfl rfl rfl) (da_cons (de_var 0) da_nil)) (nomark _)) (de_one (de_fn ((h__law_free G).up (by decide)) hr (takes_of rfl rfl rfl rfl) (da_cons (de_var 0) (da_cons (de_sl (de_var 1) (do_some de_int) do_none) da_nil))))))))⟩)
theorem sc__law_members : FnScope ["heap_so", "found", "k", "own", "left_so", "by"] ["heap_so"] (defScope s__law_members) := ⟨rfl, rfl, rfl, by decide +kernel, rfl, by decide +kernel, by decide +kernel⟩
theorem kb__law_members : KBs "_law_members" s__law_members ["heap_so"] := by
  intro kV doc pm an cdv ct ks n e1 e2 s us ws h1 h2
  subst e1
  match n, us, ws, e2, h1, h2 with
  | 0, [], [_], _, _, _ => exact .of_eq rfl
  | 1, [_], [], _, _, _ => exact .of_eq rfl
  | n + 2, _, _, e2, _, _ => exact absurd e2 (by simp)
def b__law_members_2b : Rho → Sto → DL.R Fl :=
  (fSeq (fPar 3 4 (fCons (fTup fNil) (fCons (fVar 2) fNil)))
  (fSeq (fFor (fAny (fRev (fVar 0))) (sName 5) (fPar 3 4 (fCons (fOp gAdd (fTup (fCons (fOp gMod (fVar 4) (fVar 5)) fNil)) (fVar 3)) (fCons (fOp gDiv (fVar 4) (fVar 5)) fNil))))
  (fDrop (fAppend (fVar 1) (fVar 3)))))
def b__law_members_1 : Rho → Sto → DL.R Fl :=
  (fSet 1 (fThaw (fLine fNil)))
def b__law_members_2 : Rho → Sto → DL.R Fl :=
  (fFor (fRng1 (fCons (fCall 1 m__law_size (fCons (fVar 0) fNil)) fNil)) (sName 2) b__law_members_2b)
def b__law_members_3 : Rho → Sto → DL.R Fl :=
  (fRet (fVar 1))
def b__law_members : Rho → Sto → DL.R Fl :=
  (fSeq b__law_members_1 (fSeq b__law_members_2 b__law_members_3))
def m__law_members : List D → Sto → DL.R D := runDef 1 6 b__law_members
theorem h__law_members {P : Program} {w : World} {K : PySem.W.Frag} {mg : Str → Option Value} {base : Heap} (G : Ev K mg) : Has P w K mg base 2 "_law_members" ["heap_so"] m__law_members :=
  has_mk (k := 1) (body := b__law_members) G.d__law_members sc__law_members kb__law_members rfl rfl (fun _ cdv A outer s0 H E hr => ⟨_, by
    have nd := (sc__law_members).nd
    exact (dss_cons (ds_set 1 nd (de_thaw (df_lst da_nil)))
  (dss_cons (ds_for (passes_of rfl) (di_rng1 G.z_range (da_cons (de_fn ((h__law_size G).up (by decide)) hr (takes_of rfl rfl rfl rfl) (da_cons (de_var 0) da_nil)) da_nil)) (dg_name 2 nd) (dss_cons (ds_par 3 4 nd (da_cons (de_tup da_nil) (da_cons (de_var 2) da_nil)))
  (dss_cons (ds_for (passes_of rfl) (di_any (de_rev (de_var 0))) (dg_name 5 nd) (dss_one (ds_par 3 4 nd (da_cons (de_op rv_add op_addD (de_tup (da_cons (de_op rv_mod op_mod (de_var 4) (de_var 5)) da_nil)) (de_var 3)) (da_cons (de_op rv_div op_fdiv (de_var 4) (de_var 5)) da_nil)))))
  (dss_one (ds_expr (de_append (de_var 1) (de_var 3)))))))
  (dss_one (ds_ret (de_var 1)))))⟩)
theorem sc__law_gcd : FnScope ["one", "two", "lap"] ["one", "two"] (defScope s__law_gcd) := ⟨rfl, rfl, rfl, by decide +kernel, rfl, by decide +kernel, by decide +kernel⟩
theorem kb__law_gcd : KBs "_law_gcd" s__law_gcd ["one", "two"] := by
  intro kV doc pm an cdv ct ks n e1 e2 s us ws h1 h2
  subst e1
  match n, us, ws, e2, h1, h2 with
  | 0, [], [_, _], _, _, _ => exact .of_eq rfl
  | 1, [_], [_], _, _, _ => exact .of_eq rfl
  | 2, [_, _], [], _, _, _ => exact .of_eq rfl
  | n + 3, _, _, e2, _, _ => exact absurd e2 (by simp)
def b__law_gcd_2b : Rho → Sto → DL.R Fl :=
  (fSeq (fIfS (fB (fOp gEq (fVar 1) (fC (.int 0)))) fBrk fNext)
  (fPar 0 1 (fCons (fVar 1) (fCons (fOp gMod (fVar 0) (fVar 1)) fNil))))
def b__law_gcd_1 : Rho → Sto → DL.R Fl :=
  (fPar 0 1 (fCons (fCB gAbs (fCons (fVar 0) fNil)) (fCons (fCB gAbs (fCons (fVar 1) fNil)) fNil)))
def b__law_gcd_2 : Rho → Sto → DL.R Fl :=
  (fFor (fRng1 (fCons (fC (.int 9000)) fNil)) (sName 2) b__law_gcd_2b)
def b__law_gcd_3 : Rho → Sto → DL.R Fl :=
  (fRet (fVar 0))
def b__law_gcd : Rho → Sto → DL.R Fl :=
  (fSeq b__law_gcd_1 (fSeq b__law_gcd_2 b__law_gcd_3))
def m__law_gcd : List D → Sto → DL.R D := runDef 2 3 b__law_gcd
theorem h__law_gcd {P : Program} {w : World} {K : PySem.W.Frag} {mg : Str → Option Value} {base : Heap} (G : Ev K mg) : Has P w K mg base 1 "_law_gcd" ["one", "two"] m__law_gcd :=
  has_mk (k := 0) (body := b__law_gcd) G.d__law_gcd sc__law_gcd kb__law_gcd rfl rfl (fun _ cdv A outer s0 H E hr => ⟨_, by
    have nd := (sc__law_gcd).nd
    exact (dss_cons (ds_par 0 1 nd (da_cons (de_cb rvl_abs call_abs G.z_abs bt_abs (da_cons (de_var 0) da_nil)) (da_cons (de_cb rvl_abs call_abs G.z_abs bt_abs (da_cons (de_var 1) da_nil)) da_nil)))
  (dss_cons (ds_for (passes_of rfl) (di_rng1 G.z_range (da_cons de_int da_nil)) (dg_name 2 nd) (dss_cons (ds_if (dt_cmp rv_eq (op_eqD hr.units) (de_var 1) de_int (nomark _)) (dss_one ds_break) dss_nil)
  (dss_one (ds_par 0 1 nd (da_cons (de_var 1) (da_cons (de_op rv_mod op_mod (de_var 0) (de_var 1)) da_nil))))))
  (dss_one (ds_ret (de_var 0)))))⟩)
theorem sc__law_unit : FnScope ["number_so", "k"] ["number_so", "k"] (defScope s__law_unit) := ⟨rfl, rfl, rfl, by decide +kernel, rfl, by decide +kernel, by decide +kernel⟩
theorem kb__law_unit : KBs "_law_unit" s__law_unit ["number_so", "k"] := by
  intro kV doc pm an cdv ct ks n e1 e2 s us ws h1 h2
  subst e1
  match n, us, ws, e2, h1, h2 with
  | 0, [], [_, _], _, _, _ => exact .of_eq rfl
  | 1, [_], [_], _, _, _ => exact .of_eq rfl
  | 2, [_, _], [], _, _, _ => exact .of_eq rfl
  | n + 3, _, _, e2, _, _ => exact absurd e2 (by simp)
def b__law_unit : Rho → Sto → DL.R Fl :=
  (fRet (fOp gEq (fCall 2 m__law_gcd (fCons (fVar 0) (fCons (fVar 1) fNil))) (fC (.int 1))))
def m__law_unit : List D → Sto → DL.R D := runDef 2 2 b__law_unit
theorem h__law_unit {P : Program} {w : World} {K : PySem.W.Frag} {mg : Str → Option Value} {base : Heap} (G : Ev K mg) : Has P w K mg base 2 "_law_unit" ["number_so", "k"] m__law_unit :=
  has_mk (k := 1) (body := b__law_unit) G.d__law_unit sc__law_unit kb__law_unit rfl rfl (fun _ cdv A outer s0 H E hr => ⟨_, by
    have nd := (sc__law_unit).nd
    exact (dss_one (ds_ret (de_cmp rv_eq (op_eqD hr.units) (de_fn ((h__law_gcd G).up (by decide)) hr (takes_of rfl rfl rfl rfl) (da_cons (de_var 0) (da_cons (de_var 1) da_nil))) de_int (nomark _))))⟩)
theorem sc_prime_part : FnScope ["number", "prime", "found"] ["number", "prime"] (defScope s_prime_part) := ⟨rfl, rfl, rfl, by decide +kernel, rfl, by decide +kernel, by decide +kernel⟩
theorem kb_prime_part : KBs "prime_part" s_prime_part ["number", "prime"] := by
  intro kV doc pm an cdv ct ks n e1 e2 s us ws h1 h2
  subst e1
  match n, us, ws, e2, h1, h2 with
  | 0, [], [_, _], _, _, _ => exact .of_eq rfl
  | 1, [_], [_], _, _, _ => exact .of_eq rfl
  | 2, [_, _], [], _, _, _ => exact .of_eq rfl
  | n + 3, _, _, e2, _, _ => exact absurd e2 (by simp)
def b_prime_part_1 : Rho → Sto → DL.R Fl :=
  (fSet 2 (fC (.int 1)))
def b_prime_part_2 : Rho → Sto → DL.R Fl :=
  (whileN (fB (fOp gEq (fOp gMod (fVar 0) (fOp gMulE (fVar 2) (fVar 1))) (fC (.int 0)))) (fSet 2 (fOp gMulE (fVar 2) (fVar 1))) 200)
def b_prime_part_3 : Rho → Sto → DL.R Fl :=
  (fRet (fVar 2))
def b_prime_part : Rho → Sto → DL.R Fl :=
  (fSeq b_prime_part_1 (fSeq b_prime_part_2 b_prime_part_3))
def m_prime_part : List D → Sto → DL.R D := runDef 2 3 b_prime_part
theorem h_prime_part {P : Program} {w : World} {K : PySem.W.Frag} {mg : Str → Option Value} {base : Heap} (G : Ev K mg) : Has P w K mg base 1 "prime_part" ["number", "prime"] m_prime_part :=
  has_mk (k := 0) (body := b_prime_part) G.d_prime_part sc_prime_part kb_prime_part rfl rfl (fun _ cdv A outer s0 H E hr => ⟨_, by
    have nd := (sc_prime_part).nd
    exact (dss_cons (ds_set 2 nd de_int)
  (dss_cons (ds_while 200 (passes_of rfl) (dt_cmp rv_eq (op_eqD hr.units) (de_op rv_mod op_mod (de_var 0) (de_op rv_mulE op_mulE (de_var 2) (de_var 1))) de_int (nomark _)) (dss_one (ds_set 2 nd (de_op rv_mulE op_mulE (de_var 2) (de_var 1)))))
  (dss_one (ds_ret (de_var 2)))))⟩)
theorem sc_prime_of : FnScope ["number", "found"] ["number"] (defScope s_prime_of) := ⟨rfl, rfl, rfl, by decide +kernel, rfl, by decide +kernel, by decide +kernel⟩
theorem kb_prime_of : KBs "prime_of" s_prime_of ["number"] := by
  intro kV doc pm an cdv ct ks n e1 e2 s us ws h1 h2
  subst e1
  match n, us, ws, e2, h1, h2 with
  | 0, [], [_], _, _, _ => exact .of_eq rfl
  | 1, [_], [], _, _, _ => exact .of_eq rfl
  | n + 2, _, _, e2, _, _ => exact absurd e2 (by simp)
def b_prime_of_1 : Rho → Sto → DL.R Fl :=
  (fSet 1 (fC (.int 2)))
def b_prime_of_2 : Rho → Sto → DL.R Fl :=
  (whileN (fB (fOp gNe (fOp gMod (fVar 0) (fVar 1)) (fC (.int 0)))) (fSet 1 (fOp gAdd (fVar 1) (fC (.int 1)))) 200)
def b_prime_of_3 : Rho → Sto → DL.R Fl :=
  (fRet (fVar 1))
def b_prime_of : Rho → Sto → DL.R Fl :=
  (fSeq b_prime_of_1 (fSeq b_prime_of_2 b_prime_of_3))
def m_prime_of : List D → Sto → DL.R D := runDef 1 2 b_prime_of
theorem h_prime_of {P : Program} {w : World} {K : PySem.W.Frag} {mg : Str → Option Value} {base : Heap} (G : Ev K mg) : Has P w K mg base 1 "prime_of" ["number"] m_prime_of :=
  has_mk (k := 0) (body := b_prime_of) G.d_prime_of sc_prime_of kb_prime_of rfl rfl (fun _ cdv A outer s0 H E hr => ⟨_, by
    have nd := (sc_prime_of).nd
    exact (dss_cons (ds_set 1 nd de_int)
  (dss_cons (ds_while 200 (passes_of rfl) (dt_cmp rv_ne (op_neD hr.units) (de_op rv_mod op_mod (de_var 0) (de_var 1)) de_int (nomark _)) (dss_one (ds_set 1 nd (de_op rv_add op_addD (de_var 1) de_int))))
  (dss_one (ds_ret (de_var 1)))))⟩)
theorem sc_primes_in : FnScope ["heap", "left", "found", "prime"] ["heap"] (defScope s_primes_in) := ⟨rfl, rfl, rfl, by decide +kernel, rfl, by decide +kernel, by decide +kernel⟩
theorem kb_primes_in : KBs "primes_in" s_primes_in ["heap"] := by
  intro kV doc pm an cdv ct ks n e1 e2 s us ws h1 h2
  subst e1
  match n, us, ws, e2, h1, h2 with
  | 0, [], [_], _, _, _ => exact .of_eq rfl
  | 1, [_], [], _, _, _ => exact .of_eq rfl
  | n + 2, _, _, e2, _, _ => exact absurd e2 (by simp)
def b_primes_in_1 : Rho → Sto → DL.R Fl :=
  (fPar 1 2 (fCons (fCall 1 m_size_in (fCons (fVar 0) fNil)) (fCons (fThaw (fLine fNil)) fNil)))
def b_primes_in_2 : Rho → Sto → DL.R Fl :=
  (whileN (fB (fOp gGtD (fVar 1) (fC (.int 1)))) (fSeq (fSet 3 (fCall 1 m_prime_of (fCons (fVar 1) fNil)))
  (fSeq (fDrop (fAppend (fVar 2) (fVar 3)))
  (fSet 1 (fOp gDiv (fVar 1) (fCall 2 m_prime_part (fCons (fVar 1) (fCons (fVar 3) fNil))))))) 200)
def b_primes_in_3 : Rho → Sto → DL.R Fl :=
  (fRet (fVar 2))
def b_primes_in : Rho → Sto → DL.R Fl :=
  (fSeq b_primes_in_1 (fSeq b_primes_in_2 b_primes_in_3))
def m_primes_in : List D → Sto → DL.R D := runDef 1 4 b_primes_in
theorem h_primes_in {P : Program} {w : World} {K : PySem.W.Frag} {mg : Str → Option Value} {base : Heap} (G : Ev K mg) : Has P w K mg base 2 "primes_in" ["heap"] m_primes_in :=
  has_mk (k := 1) (body := b_primes_in) G.d_primes_in sc_primes_in kb_primes_in rfl rfl (fun _ cdv A outer s0 H E hr => ⟨_, by
    have nd := (sc_primes_in).nd
    exact (dss_cons (ds_par 1 2 nd (da_cons (de_fn ((h_size_in G).up (by decide)) hr (takes_of rfl rfl rfl rfl) (da_cons (de_var 0) da_nil)) (da_cons (de_thaw (df_lst da_nil)) da_nil)))
  (dss_cons (ds_while 200 (passes_of rfl) (dt_cmp rv_gtD (op_gtD hr.units) (de_var 1) de_int (nomark _)) (dss_cons (ds_set 3 nd (de_fn ((h_prime_of G).up (by decide)) hr (takes_of rfl rfl rfl rfl) (da_cons (de_var 1) da_nil)))
  (dss_cons (ds_expr (de_append (de_var 2) (de_var 3)))
  (dss_one (ds_set 1 nd (de_op rv_div op_fdiv (de_var 1) (de_fn ((h_prime_part G).up (by decide)) hr (takes_of rfl rfl rfl rfl) (da_cons (de_var 1) (da_cons (de_var 3) da_nil)))))))))
  (dss_one (ds_ret (de_var 2)))))⟩)
theorem sc_base_in : FnScope ["heap", "members", "orders", "prime", "rows", "row", "own", "part", "place", "one", "by", "here"] ["heap"] (defScope s_base_in) := ⟨rfl, rfl, rfl, by decide +kernel, rfl, by decide +kernel, by decide +kernel⟩
theorem kb_base_in : KBs "base_in" s_base_in ["heap"] := by
  intro kV doc pm an cdv ct ks n e1 e2 s us ws h1 h2
  subst e1
  match n, us, ws, e2, h1, h2 with
  | 0, [], [_], _, _, _ => exact .of_eq rfl
  | 1, [_], [], _, _, _ => exact .of_eq rfl
  | n + 2, _, _, e2, _, _ => exact absurd e2 (by simp)
def b_base_in_2b : Rho → Sto → DL.R Fl :=
  (fSeq (fSet 4 (fFresh (fSortK shs (fCons (fFresh (fLc (fEnum (fCons (fVar 0) fNil)) (sTup 2 (sCons (sName 8) (sCons (sName 10) sNil))) fYes (fTup (fCons (fCall 2 m_prime_part (fCons (fVar 10) (fCons (fVar 3) fNil))) (fCons (fUn gNeg (fVar 8)) fNil))) [8, 10])) fNil) (fCons (fC (.bl true)) fNil))))
  (fFor (fEnum (fCons (fVar 4) fNil)) (sTup 2 (sCons (sName 5) (sCons (sName 6) sNil))) (fSeq (fAsg (sTup 2 (sCons (sName 7) (sCons (sName 8) sNil))) (fTup (fCons (fOp gIx (fVar 6) (fC (.int 0))) (fCons (fUn gNeg (fOp gIx (fVar 6) (fC (.int 1)))) fNil))))
  (fSeq (fSet 9 (fCB gTuple (fCons (fFresh (fLc (fRng1 (fCons (fCB gLen (fCons (fVar 0) fNil)) fNil)) (sName 11) fYes (fIf (fB (fOp gEq (fVar 11) (fVar 8))) (fOp gDiv (fOp gIx (fVar 0) (fVar 8)) (fVar 7)) (fC (.int 0))) [11])) fNil)))
  (fSeq (fSetIx (fCall 3 m_plus_in (fCons (fVar 0) (fCons (fOp gIx (fVar 1) (fVar 5)) (fCons (fIf (fB (fOp gGtD (fVar 7) (fC (.int 1)))) (fVar 9) (fCall 1 m_nought_of (fCons (fVar 0) fNil))) fNil)))) (fVar 1) (fVar 5))
  (fSetIx (fOp gMulE (fOp gIx (fVar 2) (fVar 5)) (fVar 7)) (fVar 2) (fVar 5)))))))
def b_base_in_1 : Rho → Sto → DL.R Fl :=
  (fPar 1 2 (fCons (fThaw (fOpn gMulN (fLst (fCons (fCall 1 m_nought_of (fCons (fVar 0) fNil)) fNil)) (fCB gLen (fCons (fVar 0) fNil)))) (fCons (fThaw (fOpn gMulN (fLst (fCons (fC (.int 1)) fNil)) (fCB gLen (fCons (fVar 0) fNil)))) fNil)))
def b_base_in_2 : Rho → Sto → DL.R Fl :=
  (fFor (fAny (fCall 1 m_primes_in (fCons (fVar 0) fNil))) (sName 3) b_base_in_2b)
def b_base_in_3 : Rho → Sto → DL.R Fl :=
  (fRet (fFresh (fLc (fZipN (fCons (fVar 1) (fCons (fVar 2) fNil))) (sName 6) (fB (fOp gGtD (fOp gIx (fVar 6) (fC (.int 1))) (fC (.int 1)))) (fVar 6) [6])))
def b_base_in : Rho → Sto → DL.R Fl :=
  (fSeq b_base_in_1 (fSeq b_base_in_2 b_base_in_3))
def m_base_in : List D → Sto → DL.R D := runDef 1 12 b_base_in
theorem h_base_in {P : Program} {w : World} {K : PySem.W.Frag} {mg : Str → Option Value} {base : Heap} (G : Ev K mg) : Has P w K mg base 3 "base_in" ["heap"] m_base_in :=
  has_mk (k := 2) (body := b_base_in) G.d_base_in sc_base_in kb_base_in rfl rfl (fun _ cdv A outer s0 H E hr => ⟨_, by
    have nd := (sc_base_in).nd
    exact (dss_cons (ds_par 1 2 nd (da_cons (de_thaw (df_op rvn_mulE op_mulE (de_lst (da_cons (de_fn ((h_nought_of G).up (by decide)) hr (takes_of rfl rfl rfl rfl) (da_cons (de_var 0) da_nil)) da_nil)) (de_cb rvl_len call_len G.z_len bt_len (da_cons (de_var 0) da_nil)))) (da_cons (de_thaw (df_op rvn_mulE op_mulE (de_lst (da_cons de_int da_nil)) (de_cb rvl_len call_len G.z_len bt_len (da_cons (de_var 0) da_nil)))) da_nil)))
  (dss_cons (ds_for (passes_of rfl) (di_any (de_fn ((h_primes_in G).up (by decide)) hr (takes_of rfl rfl rfl rfl) (da_cons (de_var 0) da_nil))) (dg_name 3 nd) (dss_cons (ds_set 4 nd (de_fresh (df_sortK (ts := shs) hr.units G.z_sorted (da_cons (de_fresh (df_lc [("place", 8), ("by", 10)] nd (di_enum G.z_enumerate (da_cons (de_var 0) da_nil)) (blkOk_by (by kernel_rfl)) (fun _ _ _ _ _ => (dg_tup (dgs_cons (dg_name 8 nd) (dgs_cons (dg_name 10 nd) dgs_nil)))) (fun _ _ _ _ _ => dts_nil) (fun _ _ _ _ _ => (de_tup (da_cons (de_fn ((h_prime_part G).up (by decide)) hr takes0 (da_cons (de_var 10) (da_cons (de_var 3) da_nil))) (da_cons (de_neg (de_var 8)) da_nil)))))) da_nil) (dk_cons de_bl dk_nil))))
  (dss_one (ds_for (passes_of rfl) (di_enum G.z_enumerate (da_cons (de_var 4) da_nil)) (dg_tup (dgs_cons (dg_name 5 nd) (dgs_cons (dg_name 6 nd) dgs_nil))) (dss_cons (ds_asg (de_tup (da_cons (de_ix (de_var 6) de_int) (da_cons (de_neg (de_ix (de_var 6) de_int)) da_nil))) (dg_tup (dgs_cons (dg_name 7 nd) (dgs_cons (dg_name 8 nd) dgs_nil))))
  (dss_cons (ds_set 9 nd (de_ct rvl_tuple call_tuple_of G.z_tuple bt_tuple (da_cons (de_fresh (df_lc [("here", 11)] nd (di_rng1 G.z_range (da_cons (de_cb rvl_len call_len G.z_len bt_len (da_cons (de_var 0) da_nil)) da_nil)) (blkOk_by (by kernel_rfl)) (fun _ _ _ _ _ => (dg_name 11 nd)) (fun _ _ _ _ _ => dts_nil) (fun _ _ _ _ _ => (de_if (dt_cmp rv_eq (op_eqD hr.units) (de_var 11) (de_var 8) (nomark _)) (de_op rv_div op_fdiv (de_ix (de_var 0) (de_var 8)) (de_var 7)) de_int)))) da_nil)))
  (dss_cons (ds_setIx (de_fn ((h_plus_in G).up (by decide)) hr (takes_of rfl rfl rfl rfl) (da_cons (de_var 0) (da_cons (de_ix (de_var 1) (de_var 5)) (da_cons (de_if (dt_cmp rv_gtD (op_gtD hr.units) (de_var 7) de_int (nomark _)) (de_var 9) (de_fn ((h_nought_of G).up (by decide)) hr (takes_of rfl rfl rfl rfl) (da_cons (de_var 0) da_nil))) da_nil)))) (de_var 1) (de_var 5) (pg_sub (de_p (W := Wf E) (de_var 1)) (de_p (W := Wf E) (de_var 5)) set_list))
  (dss_one (ds_setIx (de_op rv_mulE op_mulE (de_ix (de_var 2) (de_var 5)) (de_var 7)) (de_var 2) (de_var 5) (pg_sub (de_p (W := Wf E) (de_var 2)) (de_p (W := Wf E) (de_var 5)) set_list))))))))))
  (dss_one (ds_ret (de_fresh (df_lc [("own", 6)] nd (di_zipN G.z_zip (da_cons (de_var 1) (da_cons (de_var 2) da_nil))) (blkOk_by (by kernel_rfl)) (fun _ _ _ _ _ => (dg_name 6 nd)) (fun _ _ _ _ _ => dts_one (dt_cmp rv_gtD (op_gtD hr.units) (de_ix (de_var 6) de_int) de_int (nomark _))) (fun _ _ _ _ _ => (de_var 6))))))))⟩)
theorem sc_is_known : FnScope ["heap"] ["heap"] (defScope s_is_known) := ⟨rfl, rfl, rfl, by decide +kernel, rfl, by decide +kernel, by decide +kernel⟩
theorem kb_is_known : KBs "is_known" s_is_known ["heap"] := by
  intro kV doc pm an cdv ct ks n e1 e2 s us ws h1 h2
  subst e1
  match n, us, ws, e2, h1, h2 with
  | 0, [], [_], _, _, _ => exact .of_eq rfl
  | 1, [_], [], _, _, _ => exact .of_eq rfl
  | n + 2, _, _, e2, _, _ => exact absurd e2 (by simp)
def b_is_known : Rho → Sto → DL.R Fl :=
  (fRet (fOrV (fOp gLeD (fCB gLen (fCons (fCall 1 m_base_in (fCons (fVar 0) fNil)) fNil)) (fC (.int 2))) (fOp gEq (fCB gLen (fCons (fCall 1 m_primes_in (fCons (fVar 0) fNil)) fNil)) (fC (.int 1)))))
def m_is_known : List D → Sto → DL.R D := runDef 1 1 b_is_known
theorem h_is_known {P : Program} {w : World} {K : PySem.W.Frag} {mg : Str → Option Value} {base : Heap} (G : Ev K mg) : Has P w K mg base 4 "is_known" ["heap"] m_is_known :=
  has_mk (k := 3) (body := b_is_known) G.d_is_known sc_is_known kb_is_known rfl rfl (fun _ cdv A outer s0 H E hr => ⟨_, by
    have nd := (sc_is_known).nd
    exact (dss_one (ds_ret (de_or (de_cmp rv_leD (op_leD hr.units) (de_cb rvl_len call_len G.z_len bt_len (da_cons (de_fn ((h_base_in G).up (by decide)) hr (takes_of rfl rfl rfl rfl) (da_cons (de_var 0) da_nil)) da_nil)) de_int (nomark _)) (de_one (de_cmp rv_eq (op_eqD hr.units) (de_cb rvl_len call_len G.z_len bt_len (da_cons (de_fn ((h_primes_in G).up (by decide)) hr (takes_of rfl rfl rfl rfl) (da_cons (de_var 0) da_nil)) da_nil)) de_int (nomark _))))))⟩)
theorem sc_star_in : FnScope ["heap", "member", "order", "lap"] ["heap"] (defScope s_star_in) := ⟨rfl, rfl, rfl, by decide +kernel, rfl, by decide +kernel, by decide +kernel⟩
theorem kb_star_in : KBs "star_in" s_star_in ["heap"] := by
  intro kV doc pm an cdv ct ks n e1 e2 s us ws h1 h2
  subst e1
  match n, us, ws, e2, h1, h2 with
  | 0, [], [_], _, _, _ => exact .of_eq rfl
  | 1, [_], [], _, _, _ => exact .of_eq rfl
  | n + 2, _, _, e2, _, _ => exact absurd e2 (by simp)
def b_star_in : Rho → Sto → DL.R Fl :=
  (fRet (fFresh (fCBn (gSortN false shs) (fCons (fFresh (fLc2 (fAny (fCall 1 m_base_in (fCons (fVar 0) fNil))) (sTup 2 (sCons (sName 1) (sCons (sName 2) sNil))) fYes (fRng1 (fCons (fOp gSub (fVar 2) (fC (.int 1))) fNil)) (sName 3) fYes (fVar 1) [1, 2, 3] [3])) fNil))))
def m_star_in : List D → Sto → DL.R D := runDef 1 4 b_star_in
theorem h_star_in {P : Program} {w : World} {K : PySem.W.Frag} {mg : Str → Option Value} {base : Heap} (G : Ev K mg) : Has P w K mg base 4 "star_in" ["heap"] m_star_in :=
  has_mk (k := 3) (body := b_star_in) G.d_star_in sc_star_in kb_star_in rfl rfl (fun _ cdv A outer s0 H E hr => ⟨_, by
    have nd := (sc_star_in).nd
    exact (dss_one (ds_ret (de_fresh (df_cb (rvn_sort (ts := shs)) (cr_sortD hr.units) G.z_sorted bt_sorted (da_cons (de_fresh (df_lc2 [("member", 1), ("order", 2), ("lap", 3)] [3] nd (di_any (de_fn ((h_base_in G).up (by decide)) hr (takes_of rfl rfl rfl rfl) (da_cons (de_var 0) da_nil))) (blkOk_by (by kernel_rfl)) (fun _ _ _ _ _ => (dg_tup (dgs_cons (dg_name 1 nd) (dgs_cons (dg_name 2 nd) dgs_nil)))) (fun _ _ _ _ _ => dts_nil) (fun _ _ _ _ _ => (di_rng1 G.z_range (da_cons (de_op rv_sub op_sub (de_var 2) de_int) da_nil))) (fun _ _ _ _ _ => (dg_name 3 nd)) (fun _ _ _ _ _ => dts_nil) (fun _ _ _ _ _ => (de_var 1)))) da_nil)))))⟩)
theorem sc_davenport : FnScope ["heap", "own"] ["heap"] (defScope s_davenport) := ⟨rfl, rfl, rfl, by decide +kernel, rfl, by decide +kernel, by decide +kernel⟩
theorem kb_davenport : KBs "davenport" s_davenport ["heap"] := by
  intro kV doc pm an cdv ct ks n e1 e2 s us ws h1 h2
  subst e1
  match n, us, ws, e2, h1, h2 with
  | 0, [], [_], _, _, _ => exact .of_eq rfl
  | 1, [_], [], _, _, _ => exact .of_eq rfl
  | n + 2, _, _, e2, _, _ => exact absurd e2 (by simp)
def b_davenport_1 : Rho → Sto → DL.R Fl :=
  (fSet 1 (fCall 1 m_sure_heap (fCons (fVar 0) fNil)))
def b_davenport_2 : Rho → Sto → DL.R Fl :=
  (fIfS (fNot (fTru (fCall 1 m_is_known (fCons (fVar 1) fNil)))) (fRaise "CanNot") fNext)
def b_davenport_3 : Rho → Sto → DL.R Fl :=
  (fRet (fOp gAdd (fCB gLen (fCons (fCall 1 m_star_in (fCons (fVar 1) fNil)) fNil)) (fC (.int 1))))
def b_davenport : Rho → Sto → DL.R Fl :=
  (fSeq b_davenport_1 (fSeq b_davenport_2 b_davenport_3))
def m_davenport : List D → Sto → DL.R D := runDef 1 2 b_davenport
theorem h_davenport {P : Program} {w : World} {K : PySem.W.Frag} {mg : Str → Option Value} {base : Heap} (G : Ev K mg) : Has P w K mg base 9 "davenport" ["heap"] m_davenport :=
  has_mk (k := 8) (body := b_davenport) G.d_davenport sc_davenport kb_davenport rfl rfl (fun _ cdv A outer s0 H E hr => ⟨_, by
    have nd := (sc_davenport).nd
    exact (dss_cons (ds_set 1 nd (de_fn ((h_sure_heap G).up (by decide)) hr (takes_of rfl rfl rfl rfl) (da_cons (de_var 0) da_nil)))
  (dss_cons (ds_if (dt_not (dt_tru (de_fn ((h_is_known G).up (by decide)) hr (takes_of rfl rfl rfl rfl) (da_cons (de_var 1) da_nil)))) (dss_one (ds_raise G.x_CanNot (by decide) (takes_of rfl rfl rfl rfl) )) dss_nil)
  (dss_one (ds_ret (de_op rv_add op_addD (de_cb rvl_len call_len G.z_len bt_len (da_cons (de_fn ((h_star_in G).up (by decide)) hr (takes_of rfl rfl rfl rfl) (da_cons (de_var 1) da_nil)) da_nil)) de_int)))))⟩)
theorem sc_free_rows : FnScope ["heap", "length", "own"] ["heap", "length"] (defScope s_free_rows) := ⟨rfl, rfl, rfl, by decide +kernel, rfl, by decide +kernel, by decide +kernel⟩
theorem kb_free_rows : KBs "free_rows" s_free_rows ["heap", "length"] := by
  intro kV doc pm an cdv ct ks n e1 e2 s us ws h1 h2
  subst e1
  match n, us, ws, e2, h1, h2 with
  | 0, [], [_, _], _, _, _ => exact .of_eq rfl
  | 1, [_], [_], _, _, _ => exact .of_eq rfl
  | 2, [_, _], [], _, _, _ => exact .of_eq rfl
  | n + 3, _, _, e2, _, _ => exact absurd e2 (by simp)
def b_free_rows : Rho → Sto → DL.R Fl :=
  (fSeq (fSet 2 (fCall 1 m_sure_heap (fCons (fVar 0) fNil)))
  (fRet (fCall 2 m_free_in (fCons (fVar 2) (fCons (fCall 3 m_sure_within (fCons (fVar 1) (fCons (fC (.int 0)) (fCons (fC (.int (40))) fNil)))) fNil)))))
def m_free_rows : List D → Sto → DL.R D := runDef 2 3 b_free_rows
theorem h_free_rows {P : Program} {w : World} {K : PySem.W.Frag} {mg : Str → Option Value} {base : Heap} (G : Ev K mg) : Has P w K mg base 9 "free_rows" ["heap", "length"] m_free_rows :=
  has_mk (k := 8) (body := b_free_rows) G.d_free_rows sc_free_rows kb_free_rows rfl rfl (fun _ cdv A outer s0 H E hr => ⟨_, by
    have nd := (sc_free_rows).nd
    exact (dss_cons (ds_set 2 nd (de_fn ((h_sure_heap G).up (by decide)) hr (takes_of rfl rfl rfl rfl) (da_cons (de_var 0) da_nil)))
  (dss_one (ds_ret (de_fn ((h_free_in G).up (by decide)) hr (takes_of rfl rfl rfl rfl) (da_cons (de_var 2) (da_cons (de_fn ((h_sure_within G).up (by decide)) hr (takes_of rfl rfl rfl rfl) (da_cons (de_var 1) (da_cons de_int (da_cons (de_constI G.c_MOST_ROW) da_nil)))) da_nil))))))⟩)
theorem sc_makers_in : FnScope ["number", "own"] ["number"] (defScope s_makers_in) := ⟨rfl, rfl, rfl, by decide +kernel, rfl, by decide +kernel, by decide +kernel⟩
theorem kb_makers_in : KBs "makers_in" s_makers_in ["number"] := by
  intro kV doc pm an cdv ct ks n e1 e2 s us ws h1 h2
  subst e1
  match n, us, ws, e2, h1, h2 with
  | 0, [], [_], _, _, _ => exact .of_eq rfl
  | 1, [_], [], _, _, _ => exact .of_eq rfl
  | n + 2, _, _, e2, _, _ => exact absurd e2 (by simp)
def b_makers_in : Rho → Sto → DL.R Fl :=
  (fRet (fFresh (fLc (fRng2 (fCons (fC (.int 1)) (fCons (fVar 0) fNil))) (sName 1) (fB (fOp gEq (fCall 2 m_common_of (fCons (fVar 1) (fCons (fVar 0) fNil))) (fC (.int 1)))) (fVar 1) [1])))
def m_makers_in : List D → Sto → DL.R D := runDef 1 2 b_makers_in
theorem h_makers_in {P : Program} {w : World} {K : PySem.W.Frag} {mg : Str → Option Value} {base : Heap} (G : Ev K mg) : Has P w K mg base 2 "makers_in" ["number"] m_makers_in :=
  has_mk (k := 1) (body := b_makers_in) G.d_makers_in sc_makers_in kb_makers_in rfl rfl (fun _ cdv A outer s0 H E hr => ⟨_, by
    have nd := (sc_makers_in).nd
    exact (dss_one (ds_ret (de_fresh (df_lc [("own", 1)] nd (di_rng2 G.z_range (da_cons de_int (da_cons (de_var 0) da_nil))) (blkOk_by (by kernel_rfl)) (fun _ _ _ _ _ => (dg_name 1 nd)) (fun _ _ _ _ _ => dts_one (dt_cmp rv_eq (op_eqD hr.units) (de_fn ((h_common_of G).up (by decide)) hr takes0 (da_cons (de_var 1) (da_cons (de_var 0) da_nil))) de_int (nomark _))) (fun _ _ _ _ _ => (de_var 1))))))⟩)
theorem sc_multiples_in : FnScope ["number", "row", "maker", "back", "own"] ["number", "row", "maker"] (defScope s_multiples_in) := ⟨rfl, rfl, rfl, by decide +kernel, rfl, by decide +kernel, by decide +kernel⟩
theorem kb_multiples_in : KBs "multiples_in" s_multiples_in ["number", "row", "maker"] := by
  intro kV doc pm an cdv ct ks n e1 e2 s us ws h1 h2
  subst e1
  match n, us, ws, e2, h1, h2 with
  | 0, [], [_, _, _], _, _, _ => exact .of_eq rfl
  | 1, [_], [_, _], _, _, _ => exact .of_eq rfl
  | 2, [_, _], [_], _, _, _ => exact .of_eq rfl
  | 3, [_, _, _], [], _, _, _ => exact .of_eq rfl
  | n + 4, _, _, e2, _, _ => exact absurd e2 (by simp)
def b_multiples_in : Rho → Sto → DL.R Fl :=
  (fSeq (fSet 3 (fOp gIx (fFresh (fLc (fRng2 (fCons (fC (.int 1)) (fCons (fVar 0) fNil))) (sName 4) (fB (fOp gEq (fOp gMod (fOp gMulE (fVar 4) (fVar 2)) (fVar 0)) (fOp gMod (fC (.int 1)) (fVar 0)))) (fVar 4) [4])) (fC (.int 0))))
  (fRet (fCB gTuple (fCons (fFresh (fLc (fAny (fVar 1)) (sName 4) fYes (fOp gMod (fOp gMulE (fOp gIx (fVar 4) (fC (.int 0))) (fVar 3)) (fVar 0)) [4])) fNil))))
def m_multiples_in : List D → Sto → DL.R D := runDef 3 5 b_multiples_in
theorem h_multiples_in {P : Program} {w : World} {K : PySem.W.Frag} {mg : Str → Option Value} {base : Heap} (G : Ev K mg) : Has P w K mg base 1 "multiples_in" ["number", "row", "maker"] m_multiples_in :=
  has_mk (k := 0) (body := b_multiples_in) G.d_multiples_in sc_multiples_in kb_multiples_in rfl rfl (fun _ cdv A outer s0 H E hr => ⟨_, by
    have nd := (sc_multiples_in).nd
    exact (dss_cons (ds_set 3 nd (de_ix (de_fresh (df_lc [("own", 4)] nd (di_rng2 G.z_range (da_cons de_int (da_cons (de_var 0) da_nil))) (blkOk_by (by kernel_rfl)) (fun _ _ _ _ _ => (dg_name 4 nd)) (fun _ _ _ _ _ => dts_one (dt_cmp rv_eq (op_eqD hr.units) (de_op rv_mod op_mod (de_op rv_mulE op_mulE (de_var 4) (de_var 2)) (de_var 0)) (de_op rv_mod op_mod de_int (de_var 0)) (nomark _))) (fun _ _ _ _ _ => (de_var 4)))) de_int))
  (dss_one (ds_ret (de_ct rvl_tuple call_tuple_of G.z_tuple bt_tuple (da_cons (de_fresh (df_lc [("own", 4)] nd (di_any (de_var 1)) (blkOk_by (by kernel_rfl)) (fun _ _ _ _ _ => (dg_name 4 nd)) (fun _ _ _ _ _ => dts_nil) (fun _ _ _ _ _ => (de_op rv_mod op_mod (de_op rv_mulE op_mulE (de_ix (de_var 4) de_int) (de_var 3)) (de_var 0))))) da_nil)))))⟩)
theorem sc_tells_in : FnScope ["number", "row", "maker", "multiples"] ["number", "row", "maker"] (defScope s_tells_in) := ⟨rfl, rfl, rfl, by decide +kernel, rfl, by decide +kernel, by decide +kernel⟩
theorem kb_tells_in : KBs "tells_in" s_tells_in ["number", "row", "maker"] := by
  intro kV doc pm an cdv ct ks n e1 e2 s us ws h1 h2
  subst e1
  match n, us, ws, e2, h1, h2 with
  | 0, [], [_, _, _], _, _, _ => exact .of_eq rfl
  | 1, [_], [_, _], _, _, _ => exact .of_eq rfl
  | 2, [_, _], [_], _, _, _ => exact .of_eq rfl
  | 3, [_, _, _], [], _, _, _ => exact .of_eq rfl
  | n + 4, _, _, e2, _, _ => exact absurd e2 (by simp)
def b_tells_in : Rho → Sto → DL.R Fl :=
  (fSeq (fSet 3 (fCall 3 m_multiples_in (fCons (fVar 0) (fCons (fVar 1) (fCons (fVar 2) fNil)))))
  (fRet (fAndV (fOp (gInP true) (fC (.int 0)) (fVar 3)) (fOp gLtD (fCB gSumQ (fCons (fVar 3) fNil)) (fVar 0)))))
def m_tells_in : List D → Sto → DL.R D := runDef 3 4 b_tells_in
theorem h_tells_in {P : Program} {w : World} {K : PySem.W.Frag} {mg : Str → Option Value} {base : Heap} (G : Ev K mg) : Has P w K mg base 2 "tells_in" ["number", "row", "maker"] m_tells_in :=
  has_mk (k := 1) (body := b_tells_in) G.d_tells_in sc_tells_in kb_tells_in rfl rfl (fun _ cdv A outer s0 H E hr => ⟨_, by
    have nd := (sc_tells_in).nd
    exact (dss_cons (ds_set 3 nd (de_fn ((h_multiples_in G).up (by decide)) hr (takes_of rfl rfl rfl rfl) (da_cons (de_var 0) (da_cons (de_var 1) (da_cons (de_var 2) da_nil)))))
  (dss_one (ds_ret (de_and (de_cmp rv_in (op_notInD hr.units) de_int (de_var 3) rfl) (de_one (de_cmp rv_ltD (op_ltD hr.units) (de_cb rvl_sumQ (cr_sumQ rfl) G.z_sum bt_sum (da_cons (de_var 3) da_nil)) (de_var 0) (nomark _)))))))⟩)
theorem sc_told_number : FnScope ["number", "row", "own"] ["number", "row"] (defScope s_told_number) := ⟨rfl, rfl, rfl, by decide +kernel, rfl, by decide +kernel, by decide +kernel⟩
theorem kb_told_number : KBs "told_number" s_told_number ["number", "row"] := by
  intro kV doc pm an cdv ct ks n e1 e2 s us ws h1 h2
  subst e1
  match n, us, ws, e2, h1, h2 with
  | 0, [], [_, _], _, _, _ => exact .of_eq rfl
  | 1, [_], [_], _, _, _ => exact .of_eq rfl
  | 2, [_, _], [], _, _, _ => exact .of_eq rfl
  | n + 3, _, _, e2, _, _ => exact absurd e2 (by simp)
def b_told_number : Rho → Sto → DL.R Fl :=
  (fSeq (fSet 2 (fCall 3 m_sure_within (fCons (fVar 0) (fCons (fC (.int 2)) (fCons (fC (.int (60))) fNil)))))
  (fRet (fTup (fCons (fVar 2) (fCons (fCall 2 m_sure_row (fCons (fTup (fCons (fVar 2) fNil)) (fCons (fVar 1) fNil))) fNil)))))
def m_told_number : List D → Sto → DL.R D := runDef 2 3 b_told_number
theorem h_told_number {P : Program} {w : World} {K : PySem.W.Frag} {mg : Str → Option Value} {base : Heap} (G : Ev K mg) : Has P w K mg base 9 "told_number" ["number", "row"] m_told_number :=
  has_mk (k := 8) (body := b_told_number) G.d_told_number sc_told_number kb_told_number rfl rfl (fun _ cdv A outer s0 H E hr => ⟨_, by
    have nd := (sc_told_number).nd
    exact (dss_cons (ds_set 2 nd (de_fn ((h_sure_within G).up (by decide)) hr (takes_of rfl rfl rfl rfl) (da_cons (de_var 0) (da_cons de_int (da_cons (de_constI G.c_MOST_ROUND) da_nil)))))
  (dss_one (ds_ret (de_tup (da_cons (de_var 2) (da_cons (de_fn ((h_sure_row G).up (by decide)) hr (takes_of rfl rfl rfl rfl) (da_cons (de_tup (da_cons (de_var 2) da_nil)) (da_cons (de_var 1) da_nil))) da_nil))))))⟩)
theorem sc_all_makers : FnScope ["number", "row", "own", "here", "maker"] ["number", "row"] (defScope s_all_makers) := ⟨rfl, rfl, rfl, by decide +kernel, rfl, by decide +kernel, by decide +kernel⟩
theorem kb_all_makers : KBs "all_makers" s_all_makers ["number", "row"] := by
  intro kV doc pm an cdv ct ks n e1 e2 s us ws h1 h2
  subst e1
  match n, us, ws, e2, h1, h2 with
  | 0, [], [_, _], _, _, _ => exact .of_eq rfl
  | 1, [_], [_], _, _, _ => exact .of_eq rfl
  | 2, [_, _], [], _, _, _ => exact .of_eq rfl
  | n + 3, _, _, e2, _, _ => exact absurd e2 (by simp)
def b_all_makers : Rho → Sto → DL.R Fl :=
  (fSeq (fAsg (sTup 2 (sCons (sName 2) (sCons (sName 3) sNil))) (fCall 2 m_told_number (fCons (fVar 0) (fCons (fVar 1) fNil))))
  (fRet (fCB gTuple (fCons (fFresh (fLc (fAny (fCall 1 m_makers_in (fCons (fVar 2) fNil))) (sName 4) (fTru (fCall 3 m_tells_in (fCons (fVar 2) (fCons (fVar 3) (fCons (fVar 4) fNil))))) (fVar 4) [4])) fNil))))
def m_all_makers : List D → Sto → DL.R D := runDef 2 5 b_all_makers
theorem h_all_makers {P : Program} {w : World} {K : PySem.W.Frag} {mg : Str → Option Value} {base : Heap} (G : Ev K mg) : Has P w K mg base 10 "all_makers" ["number", "row"] m_all_makers :=
  has_mk (k := 9) (body := b_all_makers) G.d_all_makers sc_all_makers kb_all_makers rfl rfl (fun _ cdv A outer s0 H E hr => ⟨_, by
    have nd := (sc_all_makers).nd
    exact (dss_cons (ds_asg (de_fn ((h_told_number G).up (by decide)) hr (takes_of rfl rfl rfl rfl) (da_cons (de_var 0) (da_cons (de_var 1) da_nil))) (dg_tup (dgs_cons (dg_name 2 nd) (dgs_cons (dg_name 3 nd) dgs_nil))))
  (dss_one (ds_ret (de_ct rvl_tuple call_tuple_of G.z_tuple bt_tuple (da_cons (de_fresh (df_lc [("maker", 4)] nd (di_any (de_fn ((h_makers_in G).up (by decide)) hr (takes_of rfl rfl rfl rfl) (da_cons (de_var 2) da_nil))) (blkOk_by (by kernel_rfl)) (fun _ _ _ _ _ => (dg_name 4 nd)) (fun _ _ _ _ _ => dts_one (dt_tru (de_fn ((h_tells_in G).up (by decide)) hr takes0 (da_cons (de_var 2) (da_cons (de_var 3) (da_cons (de_var 4) da_nil)))))) (fun _ _ _ _ _ => (de_var 4)))) da_nil)))))⟩)
theorem sc_law : FnScope ["script", "tin", "number_so", "heap_so", "makers_so", "a", "b", "turn_so", "other_so", "counts_so", "k", "rows_so", "pairs_so", "own"] ["script"] (defScope s_law) := ⟨rfl, rfl, rfl, by decide +kernel, rfl, by decide +kernel, by decide +kernel⟩
theorem kb_law : KBs "law" s_law ["script"] := by
  intro kV doc pm an cdv ct ks n e1 e2 s us ws h1 h2
  subst e1
  match n, us, ws, e2, h1, h2 with
  | 0, [], [_], _, _, _ => exact .of_eq rfl
  | 1, [_], [], _, _, _ => exact .of_eq rfl
  | n + 2, _, _, e2, _, _ => exact absurd e2 (by simp)
def b_law_1 : Rho → Sto → DL.R Fl :=
  (fSet 1 (fCall 2 m__law_box (fCons (fCall 2 m__law_cells (fCons (fVar 0) (fCons (fC (.int 1)) fNil))) (fCons (fC (.int 0)) fNil))))
def b_law_2 : Rho → Sto → DL.R Fl :=
  (fSet 2 (fOp gAdd (fC (.int 2)) (fCall 2 m__law_take (fCons (fVar 1) (fCons (fC (.int 7)) fNil)))))
def b_law_3 : Rho → Sto → DL.R Fl :=
  (fSet 3 (fTup (fCons (fVar 2) fNil)))
def b_law_4 : Rho → Sto → DL.R Fl :=
  (fSet 4 (fFresh (fLc (fRng2 (fCons (fC (.int 1)) (fCons (fVar 2) fNil))) (sName 10) (fTru (fCall 2 m__law_unit (fCons (fVar 2) (fCons (fVar 10) fNil)))) (fTup (fCons (fVar 10) fNil)) [10])))
def b_law_5 : Rho → Sto → DL.R Fl :=
  (fIfS (fNot (fTru (fCall 2 (m__law_same 6) (fCons (fLst (fCons (fCallK 0 1 1 m_heap_makers fNil (fCons (fVar 3) fNil)) (fCons (fCallK 0 1 1 m_davenport fNil (fCons (fVar 3) fNil)) fNil))) (fCons (fLst (fCons (fCB gTuple (fCons (fVar 4) fNil)) (fCons (fVar 2) fNil))) fNil))))) (fRet (fC (.bl false))) fNext)
def b_law_6 : Rho → Sto → DL.R Fl :=
  (fIfS (fNot (fTru (fCall 2 (m__law_same 6) (fCons (fLst (fCons (fCallK 0 2 2 m_least_rows fNil (fCons (fVar 3) (fCons (fVar 2) fNil))) (fCons (fCallK 0 2 2 m_free_rows fNil (fCons (fVar 3) (fCons (fOp gSub (fVar 2) (fC (.int 1))) fNil))) fNil))) (fCons (fLst (fCons (fFresh (fLc (fAny (fVar 4)) (sName 13) fYes (fOp gMulE (fTup (fCons (fVar 13) fNil)) (fVar 2)) [13])) (fCons (fFresh (fLc (fAny (fVar 4)) (sName 13) fYes (fOp gMulE (fTup (fCons (fVar 13) fNil)) (fOp gSub (fVar 2) (fC (.int 1)))) [13])) fNil))) fNil))))) (fRet (fC (.bl false))) fNext)
def b_law_7 : Rho → Sto → DL.R Fl :=
  (fIfS (fAnd (fB (fOp gEq (fCall 2 m__law_slip (fCons (fC (.fn "least_rows")) (fCons (fTup (fCons (fVar 3) (fCons (fOp gAdd (fVar 2) (fC (.int 1))) fNil))) fNil))) (fC (.str "told")))) (fB (fOp gNe (fCall 2 m_least_rows (fCons (fVar 3) (fCons (fOp gAdd (fVar 2) (fC (.int 1))) fNil))) (fLst fNil)))) (fRet (fC (.bl false))) fNext)
def b_law_8 : Rho → Sto → DL.R Fl :=
  (fPar 5 6 (fCons (fCall 2 m__law_of (fCons (fVar 1) (fCons (fVar 4) fNil))) (fCons (fCall 2 m__law_of (fCons (fVar 1) (fCons (fVar 4) fNil))) fNil)))
def b_law_9 : Rho → Sto → DL.R Fl :=
  (fIfS (fNot (fTru (fCall 2 (m__law_same 6) (fCons (fLst (fCons (fCallK 0 2 2 m_round_row fNil (fCons (fVar 3) (fCons (fVar 5) fNil))) (fCons (fCall 2 m_is_least (fCons (fVar 3) (fCons (fOp gMulE (fTup (fCons (fVar 5) fNil)) (fVar 2)) fNil))) (fCons (fCall 2 m_all_makers (fCons (fVar 2) (fCons (fOp gMulE (fTup (fCons (fVar 5) fNil)) (fOp gSub (fVar 2) (fC (.int 1)))) fNil))) fNil)))) (fCons (fLst (fCons (fOp gMulE (fTup (fCons (fVar 5) fNil)) (fVar 2)) (fCons (fC (.bl true)) (fCons (fIf (fB (fOp gGtD (fVar 2) (fC (.int 2)))) (fVar 5) (fTup (fCons (fC (.int 1)) fNil))) fNil)))) fNil))))) (fRet (fC (.bl false))) fNext)
def b_law_10 : Rho → Sto → DL.R Fl :=
  (fSet 7 (fCallK 0 3 3 m_alike_by fNil (fCons (fVar 3) (fCons (fOp gMulE (fTup (fCons (fVar 5) fNil)) (fVar 2)) (fCons (fOp gMulE (fTup (fCons (fVar 6) fNil)) (fVar 2)) fNil)))))
def b_law_11 : Rho → Sto → DL.R Fl :=
  (fIfS (fB (fOp gNe (fOp gMod (fOp gMulE (fOp gIx (fOp gIx (fVar 7) (fC (.int 0))) (fC (.int 0))) (fOp gIx (fVar 5) (fC (.int 0)))) (fVar 2)) (fOp gIx (fVar 6) (fC (.int 0))))) (fRet (fC (.bl false))) fNext)
def b_law_12 : Rho → Sto → DL.R Fl :=
  (fSet 8 (fCall 2 m__law_of (fCons (fVar 1) (fCons (fLst (fCons (fTup (fCons (fC (.int 2)) fNil)) (fCons (fTup (fCons (fC (.int 3)) fNil)) (fCons (fTup (fCons (fC (.int 4)) fNil)) (fCons (fTup (fCons (fC (.int 5)) fNil)) (fCons (fTup (fCons (fC (.int 6)) fNil)) (fCons (fTup (fCons (fC (.int 2)) (fCons (fC (.int 2)) fNil))) (fCons (fTup (fCons (fC (.int 2)) (fCons (fC (.int 3)) fNil))) (fCons (fTup (fCons (fC (.int 2)) (fCons (fC (.int 4)) fNil))) (fCons (fTup (fCons (fC (.int 2)) (fCons (fC (.int 2)) (fCons (fC (.int 2)) fNil)))) fNil)))))))))) fNil))))
def b_law_13 : Rho → Sto → DL.R Fl :=
  (fSet 9 (fCallK 0 1 1 m_least_counts fNil (fCons (fVar 8) fNil)))
def b_law_14 : Rho → Sto → DL.R Fl :=
  (fIfS (fOr (fB (fOp gNe (fCB gLen (fCons (fVar 9) fNil)) (fCallK 0 1 1 m_davenport fNil (fCons (fVar 8) fNil)))) (fOr (fB (fOp gNe (fOp gIx (fVar 9) (fC (.int 0))) (fC (.int 1)))) (fB (fOp gLtD (fOp gIx (fVar 9) (fUn gNeg (fC (.int 1)))) (fC (.int 1)))))) (fRet (fC (.bl false))) fNext)
def b_law_15 : Rho → Sto → DL.R Fl :=
  (fSet 10 (fOp gAdd (fC (.int 1)) (fCall 2 m__law_take (fCons (fVar 1) (fCons (fCB gLen (fCons (fVar 9) fNil)) fNil)))))
def b_law_16 : Rho → Sto → DL.R Fl :=
  (fSet 11 (fCallK 0 2 2 m_least_rows fNil (fCons (fVar 8) (fCons (fVar 10) fNil))))
def b_law_17 : Rho → Sto → DL.R Fl :=
  (fIfS (fOr (fB (fOp gNe (fCB gLen (fCons (fVar 11) fNil)) (fOp gIx (fVar 9) (fOp gSub (fVar 10) (fC (.int 1)))))) (fOr (fB (fOp gNe (fFresh (fLc (fAny (fVar 11)) (sName 13) (fOr (fNot (fTru (fCall 2 m__law_least (fCons (fVar 8) (fCons (fVar 13) fNil))))) (fB (fOp gNe (fCB gLen (fCons (fVar 13) fNil)) (fVar 10)))) (fC (.int 1)) [13])) (fLst fNil))) (fB (fOp gNe (fVar 11) (fFresh (fCBn gSetQ (fCons (fVar 11) fNil))))))) (fRet (fC (.bl false))) fNext)
def b_law_18 : Rho → Sto → DL.R Fl :=
  (fSet 12 (fFresh (fCBn gSetQ (fCons (fFresh (fLc (fAny (fCall 1 m__law_members (fCons (fVar 8) fNil))) (sName 13) (fB (fOp gNe (fVar 13) (fCall 1 m__law_nought (fCons (fVar 8) fNil)))) (fCB gTuple (fCons (fFresh (fCBn (gSortN false shs) (fCons (fLst (fCons (fVar 13) (fCons (fCall 2 m__law_inverse (fCons (fVar 8) (fCons (fVar 13) fNil))) fNil))) fNil))) fNil)) [13])) fNil))))
def b_law_19 : Rho → Sto → DL.R Fl :=
  (fRet (fAndV (fCall 2 (m__law_same 6) (fCons (fCall 2 m_least_rows (fCons (fVar 8) (fCons (fC (.int 2)) fNil))) (fCons (fVar 12) fNil))) (fOp gEq (fCall 1 m_heap_size (fCons (fVar 8) fNil)) (fCall 1 m__law_size (fCons (fVar 8) fNil)))))
def b_law : Rho → Sto → DL.R Fl :=
  (fSeq b_law_1 (fSeq b_law_2 (fSeq b_law_3 (fSeq b_law_4 (fSeq b_law_5 (fSeq b_law_6 (fSeq b_law_7 (fSeq b_law_8 (fSeq b_law_9 (fSeq b_law_10 (fSeq b_law_11 (fSeq b_law_12 (fSeq b_law_13 (fSeq b_law_14 (fSeq b_law_15 (fSeq b_law_16 (fSeq b_law_17 (fSeq b_law_18 b_law_19))))))))))))))))))
def m_law : List D → Sto → DL.R D := runDef 1 14 b_law
theorem ok_law {P : Program} {w : World} {K : PySem.W.Frag} {mg : Str → Option Value} {base : Heap} {f : Addr} {fd : FuncData} (G : Ev K mg) (F : FnP K "law" s_law f fd) : FnOk P w K mg base (L2.CX P w) 12 f fd ["script"] (spF K mg 1 m_law) :=
  fn_mk (k := 11) (body := b_law) F sc_law rfl rfl (fun _ cdv A outer s0 H E hr => ⟨_, by
    have nd := (sc_law).nd
    exact (dss_cons (ds_set 1 nd (de_fn ((h__law_box G).up (by decide)) hr (takes_of rfl rfl rfl rfl) (da_cons (de_fn ((h__law_cells G).up (by decide)) hr (takes_of rfl rfl rfl rfl) (da_cons (de_var 0) (da_cons de_int da_nil))) (da_cons de_int da_nil))))
  (dss_cons (ds_set 2 nd (de_op rv_add op_addD de_int (de_fn ((h__law_take G).up (by decide)) hr (takes_of rfl rfl rfl rfl) (da_cons (de_var 1) (da_cons de_int da_nil)))))
  (dss_cons (ds_set 3 nd (de_tup (da_cons (de_var 2) da_nil)))
  (dss_cons (ds_setLc (ff := fFresh) (fun h => re_fresh h) 4 [("k", 10)] nd (di_rng2 G.z_range (da_cons de_int (da_cons (de_var 2) da_nil))) (blkOk_by (by kernel_rfl)) (fun _ _ _ _ _ => (dg_name 10 nd)) (fun _ _ _ _ _ => dts_one (dt_tru (de_fn ((h__law_unit G).up (by decide)) hr takes0 (da_cons (de_var 2) (da_cons (de_var 10) da_nil))))) (fun _ _ _ _ _ => (de_tup (da_cons (de_var 10) da_nil))) (sw_true rfl rfl rfl (by decide +kernel)))
  (dss_cons (ds_if (dt_not (dt_tru (de_fn ((h__law_same G 6).up (by decide)) hr (takes_of rfl rfl rfl rfl) (da_cons (de_lst (da_cons (de_fnK0 ((h_heap_makers G).up (by decide)) hr (takes_of rfl rfl rfl rfl) (by decide) (dk_cons (de_var 3) dk_nil)) (da_cons (de_fnK0 ((h_davenport G).up (by decide)) hr (takes_of rfl rfl rfl rfl) (by decide) (dk_cons (de_var 3) dk_nil)) da_nil))) (da_cons (de_lst (da_cons (de_ct rvl_tuple call_tuple_of G.z_tuple bt_tuple (da_cons (de_var 4) da_nil)) (da_cons (de_var 2) da_nil))) da_nil))))) (dss_one (ds_ret de_bl)) dss_nil)
  (dss_cons (ds_if (dt_not (dt_tru (de_fn ((h__law_same G 6).up (by decide)) hr (takes_of rfl rfl rfl rfl) (da_cons (de_lst (da_cons (de_fnK0 ((h_least_rows G).up (by decide)) hr (takes_of rfl rfl rfl rfl) (by decide) (dk_cons (de_var 3) (dk_cons (de_var 2) dk_nil))) (da_cons (de_fnK0 ((h_free_rows G).up (by decide)) hr (takes_of rfl rfl rfl rfl) (by decide) (dk_cons (de_var 3) (dk_cons (de_op rv_sub op_sub (de_var 2) de_int) dk_nil))) da_nil))) (da_cons (de_lst (da_cons (de_fresh (df_lc [("own", 13)] nd (di_any (de_var 4)) (blkOk_by (by kernel_rfl)) (fun _ _ _ _ _ => (dg_name 13 nd)) (fun _ _ _ _ _ => dts_nil) (fun _ _ _ _ _ => (de_op rv_mulE op_mulE (de_tup (da_cons (de_var 13) da_nil)) (de_var 2))))) (da_cons (de_fresh (df_lc [("own", 13)] nd (di_any (de_var 4)) (blkOk_by (by kernel_rfl)) (fun _ _ _ _ _ => (dg_name 13 nd)) (fun _ _ _ _ _ => dts_nil) (fun _ _ _ _ _ => (de_op rv_mulE op_mulE (de_tup (da_cons (de_var 13) da_nil)) (de_op rv_sub op_sub (de_var 2) de_int))))) da_nil))) da_nil))))) (dss_one (ds_ret de_bl)) dss_nil)
  (dss_cons (ds_if (dt_w (dw_and (dt_cmp rv_eq (op_eqD hr.units) (de_fn ((h__law_slip G).up (by decide)) hr (takes_of rfl rfl rfl rfl) (da_cons (de_fnv (DL.Y.Has.fn (base := base) (h_least_rows (P := P) (w := w) G))) (da_cons (de_tup (da_cons (de_var 3) (da_cons (de_op rv_add op_addD (de_var 2) de_int) da_nil))) da_nil))) de_str (nomark _)) (dw_and1 (dt_cmp rv_ne (op_neD hr.units) (de_fn ((h_least_rows G).up (by decide)) hr (takes_of rfl rfl rfl rfl) (da_cons (de_var 3) (da_cons (de_op rv_add op_addD (de_var 2) de_int) da_nil))) (de_lst da_nil) (nomark _))))) (dss_one (ds_ret de_bl)) dss_nil)
  (dss_cons (ds_par 5 6 nd (da_cons (de_fn ((h__law_of G).up (by decide)) hr (takes_of rfl rfl rfl rfl) (da_cons (de_var 1) (da_cons (de_var 4) da_nil))) (da_cons (de_fn ((h__law_of G).up (by decide)) hr (takes_of rfl rfl rfl rfl) (da_cons (de_var 1) (da_cons (de_var 4) da_nil))) da_nil)))
  (dss_cons (ds_if (dt_not (dt_tru (de_fn ((h__law_same G 6).up (by decide)) hr (takes_of rfl rfl rfl rfl) (da_cons (de_lst (da_cons (de_fnK0 ((h_round_row G).up (by decide)) hr (takes_of rfl rfl rfl rfl) (by decide) (dk_cons (de_var 3) (dk_cons (de_var 5) dk_nil))) (da_cons (de_fn ((h_is_least G).up (by decide)) hr (takes_of rfl rfl rfl rfl) (da_cons (de_var 3) (da_cons (de_op rv_mulE op_mulE (de_tup (da_cons (de_var 5) da_nil)) (de_var 2)) da_nil))) (da_cons (de_fn ((h_all_makers G).up (by decide)) hr (takes_of rfl rfl rfl rfl) (da_cons (de_var 2) (da_cons (de_op rv_mulE op_mulE (de_tup (da_cons (de_var 5) da_nil)) (de_op rv_sub op_sub (de_var 2) de_int)) da_nil))) da_nil)))) (da_cons (de_lst (da_cons (de_op rv_mulE op_mulE (de_tup (da_cons (de_var 5) da_nil)) (de_var 2)) (da_cons de_bl (da_cons (de_if (dt_cmp rv_gtD (op_gtD hr.units) (de_var 2) de_int (nomark _)) (de_var 5) (de_tup (da_cons de_int da_nil))) da_nil)))) da_nil))))) (dss_one (ds_ret de_bl)) dss_nil)
  (dss_cons (ds_set 7 nd (de_fnK0 ((h_alike_by G).up (by decide)) hr (takes_of rfl rfl rfl rfl) (by decide) (dk_cons (de_var 3) (dk_cons (de_op rv_mulE op_mulE (de_tup (da_cons (de_var 5) da_nil)) (de_var 2)) (dk_cons (de_op rv_mulE op_mulE (de_tup (da_cons (de_var 6) da_nil)) (de_var 2)) dk_nil)))))
  (dss_cons (ds_if (dt_cmp rv_ne (op_neD hr.units) (de_op rv_mod op_mod (de_op rv_mulE op_mulE (de_ix (de_ix (de_var 7) de_int) de_int) (de_ix (de_var 5) de_int)) (de_var 2)) (de_ix (de_var 6) de_int) (nomark _)) (dss_one (ds_ret de_bl)) dss_nil)
  (dss_cons (ds_set 8 nd (de_fn ((h__law_of G).up (by decide)) hr (takes_of rfl rfl rfl rfl) (da_cons (de_var 1) (da_cons (de_lst (da_cons (de_tup (da_cons de_int da_nil)) (da_cons (de_tup (da_cons de_int da_nil)) (da_cons (de_tup (da_cons de_int da_nil)) (da_cons (de_tup (da_cons de_int da_nil)) (da_cons (de_tup (da_cons de_int da_nil)) (da_cons (de_tup (da_cons de_int (da_cons de_int da_nil))) (da_cons (de_tup (da_cons de_int (da_cons de_int da_nil))) (da_cons (de_tup (da_cons de_int (da_cons de_int da_nil))) (da_cons (de_tup (da_cons de_int (da_cons de_int (da_cons de_int da_nil)))) da_nil)))))))))) da_nil))))
  (dss_cons (ds_set 9 nd (de_fnK0 ((h_least_counts G).up (by decide)) hr (takes_of rfl rfl rfl rfl) (by decide) (dk_cons (de_var 8) dk_nil)))
  (dss_cons (ds_if (dt_w (dw_or (dt_cmp rv_ne (op_neD hr.units) (de_cb rvl_len call_len G.z_len bt_len (da_cons (de_var 9) da_nil)) (de_fnK0 ((h_davenport G).up (by decide)) hr (takes_of rfl rfl rfl rfl) (by decide) (dk_cons (de_var 8) dk_nil)) (nomark _)) (dw_or (dt_cmp rv_ne (op_neD hr.units) (de_ix (de_var 9) de_int) de_int (nomark _)) (dw_or1 (dt_cmp rv_ltD (op_ltD hr.units) (de_ix (de_var 9) (de_neg de_int)) de_int (nomark _)))))) (dss_one (ds_ret de_bl)) dss_nil)
  (dss_cons (ds_set 10 nd (de_op rv_add op_addD de_int (de_fn ((h__law_take G).up (by decide)) hr (takes_of rfl rfl rfl rfl) (da_cons (de_var 1) (da_cons (de_cb rvl_len call_len G.z_len bt_len (da_cons (de_var 9) da_nil)) da_nil)))))
  (dss_cons (ds_set 11 nd (de_fnK0 ((h_least_rows G).up (by decide)) hr (takes_of rfl rfl rfl rfl) (by decide) (dk_cons (de_var 8) (dk_cons (de_var 10) dk_nil))))
  (dss_cons (ds_if (dt_w (dw_or (dt_cmp rv_ne (op_neD hr.units) (de_cb rvl_len call_len G.z_len bt_len (da_cons (de_var 11) da_nil)) (de_ix (de_var 9) (de_op rv_sub op_sub (de_var 10) de_int)) (nomark _)) (dw_or (dt_cmp rv_ne (op_neD hr.units) (de_fresh (df_lc [("own", 13)] nd (di_any (de_var 11)) (blkOk_by (by kernel_rfl)) (fun _ _ _ _ _ => (dg_name 13 nd)) (fun _ _ _ _ _ => dts_one (dt_w (dw_or (dt_not (dt_tru (de_fn ((h__law_least G).up (by decide)) hr takes0 (da_cons (de_var 8) (da_cons (de_var 13) da_nil))))) (dw_or1 (dt_cmp rv_ne (op_neD hr.units) (de_cb rvl_len call_len G.z_len bt_len (da_cons (de_var 13) da_nil)) (de_var 10) (nomark _)))))) (fun _ _ _ _ _ => de_int))) (de_lst da_nil) (nomark _)) (dw_or1 (dt_cmp rv_ne (op_neD hr.units) (de_var 11) (de_fresh (df_setQ hr.units G.z_sorted G.z_set (da_cons (de_var 11) da_nil))) (nomark _)))))) (dss_one (ds_ret de_bl)) dss_nil)
  (dss_cons (ds_set 12 nd (de_fresh (df_setQ hr.units G.z_sorted G.z_set (da_cons (de_fresh (df_lc [("own", 13)] nd (di_any (de_fn ((h__law_members G).up (by decide)) hr (takes_of rfl rfl rfl rfl) (da_cons (de_var 8) da_nil))) (blkOk_by (by kernel_rfl)) (fun _ _ _ _ _ => (dg_name 13 nd)) (fun _ _ _ _ _ => dts_one (dt_cmp rv_ne (op_neD hr.units) (de_var 13) (de_fn ((h__law_nought G).up (by decide)) hr takes0 (da_cons (de_var 8) da_nil)) (nomark _))) (fun _ _ _ _ _ => (de_ct rvl_tuple call_tuple_of G.z_tuple bt_tuple (da_cons (de_fresh (df_cb (rvn_sort (ts := shs)) (cr_sortD hr.units) G.z_sorted bt_sorted (da_cons (de_lst (da_cons (de_var 13) (da_cons (de_fn ((h__law_inverse G).up (by decide)) hr takes0 (da_cons (de_var 8) (da_cons (de_var 13) da_nil))) da_nil))) da_nil))) da_nil))))) da_nil))))
  (dss_one (ds_ret (de_and (de_fn ((h__law_same G 6).up (by decide)) hr (takes_of rfl rfl rfl rfl) (da_cons (de_fn ((h_least_rows G).up (by decide)) hr (takes_of rfl rfl rfl rfl) (da_cons (de_var 8) (da_cons de_int da_nil))) (da_cons (de_var 12) da_nil))) (de_one (de_cmp rv_eq (op_eqD hr.units) (de_fn ((h_heap_size G).up (by decide)) hr (takes_of rfl rfl rfl rfl) (da_cons (de_var 8) da_nil)) (de_fn ((h__law_size G).up (by decide)) hr (takes_of rfl rfl rfl rfl) (da_cons (de_var 8) da_nil)) (nomark _))))))))))))))))))))))))⟩)
theorem ev {K : PySem.W.Frag} {h : Heap} {mg : Str → Option Value} (X : K.In h) (G : h.Ns mainGlobals mg) (c : He.SaysD fas fns K) (cx : xcs.all (xcB K) = true) : Ev K mg where
  d__law_size := let ⟨fd, F⟩ := c.def_ 0 (d := dd__law_size) rfl; ⟨_, fd, F, He.glo_ok X G (c.fact 0 (f := .glo "_law_size") rfl)⟩
  d__law_cells := let ⟨fd, F⟩ := c.def_ 1 (d := dd__law_cells) rfl; ⟨_, fd, F, He.glo_ok X G (c.fact 1 (f := .glo "_law_cells") rfl)⟩
  d_size_in := let ⟨fd, F⟩ := c.def_ 2 (d := dd_size_in) rfl; ⟨_, fd, F, He.glo_ok X G (c.fact 2 (f := .glo "size_in") rfl)⟩
  d_is_number := let ⟨fd, F⟩ := c.def_ 3 (d := dd_is_number) rfl; ⟨_, fd, F, He.glo_ok X G (c.fact 3 (f := .glo "is_number") rfl)⟩
  d_are_numbers := let ⟨fd, F⟩ := c.def_ 4 (d := dd_are_numbers) rfl; ⟨_, fd, F, He.glo_ok X G (c.fact 4 (f := .glo "are_numbers") rfl)⟩
  d_is_heap := let ⟨fd, F⟩ := c.def_ 5 (d := dd_is_heap) rfl; ⟨_, fd, F, He.glo_ok X G (c.fact 5 (f := .glo "is_heap") rfl)⟩
  d_tupled := let ⟨fd, F⟩ := c.def_ 6 (d := dd_tupled) rfl; ⟨_, fd, F, He.glo_ok X G (c.fact 6 (f := .glo "tupled") rfl)⟩
  d_sure_heap := let ⟨fd, F⟩ := c.def_ 7 (d := dd_sure_heap) rfl; ⟨_, fd, F, He.glo_ok X G (c.fact 7 (f := .glo "sure_heap") rfl)⟩
  d_common_of := let ⟨fd, F⟩ := c.def_ 8 (d := dd_common_of) rfl; ⟨_, fd, F, He.glo_ok X G (c.fact 8 (f := .glo "common_of") rfl)⟩
  d_order_in := let ⟨fd, F⟩ := c.def_ 9 (d := dd_order_in) rfl; ⟨_, fd, F, He.glo_ok X G (c.fact 9 (f := .glo "order_in") rfl)⟩
  d_is_within := let ⟨fd, F⟩ := c.def_ 10 (d := dd_is_within) rfl; ⟨_, fd, F, He.glo_ok X G (c.fact 10 (f := .glo "is_within") rfl)⟩
  d_is_long := let ⟨fd, F⟩ := c.def_ 11 (d := dd_is_long) rfl; ⟨_, fd, F, He.glo_ok X G (c.fact 11 (f := .glo "is_long") rfl)⟩
  d_is_member_in := let ⟨fd, F⟩ := c.def_ 12 (d := dd_is_member_in) rfl; ⟨_, fd, F, He.glo_ok X G (c.fact 12 (f := .glo "is_member_in") rfl)⟩
  d_sure_member := let ⟨fd, F⟩ := c.def_ 13 (d := dd_sure_member) rfl; ⟨_, fd, F, He.glo_ok X G (c.fact 13 (f := .glo "sure_member") rfl)⟩
  d_round_row := let ⟨fd, F⟩ := c.def_ 14 (d := dd_round_row) rfl; ⟨_, fd, F, He.glo_ok X G (c.fact 14 (f := .glo "round_row") rfl)⟩
  d_heap_size := let ⟨fd, F⟩ := c.def_ 15 (d := dd_heap_size) rfl; ⟨_, fd, F, He.glo_ok X G (c.fact 15 (f := .glo "heap_size") rfl)⟩
  d__law_same := let ⟨fd, F⟩ := c.def_ 16 (d := dd__law_same) rfl; ⟨_, fd, F, He.glo_ok X G (c.fact 16 (f := .glo "_law_same") rfl)⟩
  d__law_take := let ⟨fd, F⟩ := c.def_ 17 (d := dd__law_take) rfl; ⟨_, fd, F, He.glo_ok X G (c.fact 17 (f := .glo "_law_take") rfl)⟩
  d_plus_in := let ⟨fd, F⟩ := c.def_ 18 (d := dd_plus_in) rfl; ⟨_, fd, F, He.glo_ok X G (c.fact 18 (f := .glo "plus_in") rfl)⟩
  d_best_parts := let ⟨fd, F⟩ := c.def_ 19 (d := dd_best_parts) rfl; ⟨_, fd, F, He.glo_ok X G (c.fact 19 (f := .glo "best_parts") rfl)⟩
  d_nought_of := let ⟨fd, F⟩ := c.def_ 20 (d := dd_nought_of) rfl; ⟨_, fd, F, He.glo_ok X G (c.fact 20 (f := .glo "nought_of") rfl)⟩
  d_is_free_in := let ⟨fd, F⟩ := c.def_ 21 (d := dd_is_free_in) rfl; ⟨_, fd, F, He.glo_ok X G (c.fact 21 (f := .glo "is_free_in") rfl)⟩
  d_sum_in := let ⟨fd, F⟩ := c.def_ 22 (d := dd_sum_in) rfl; ⟨_, fd, F, He.glo_ok X G (c.fact 22 (f := .glo "sum_in") rfl)⟩
  d_is_least_in := let ⟨fd, F⟩ := c.def_ 23 (d := dd_is_least_in) rfl; ⟨_, fd, F, He.glo_ok X G (c.fact 23 (f := .glo "is_least_in") rfl)⟩
  d_is_row_in := let ⟨fd, F⟩ := c.def_ 24 (d := dd_is_row_in) rfl; ⟨_, fd, F, He.glo_ok X G (c.fact 24 (f := .glo "is_row_in") rfl)⟩
  d_sure_row := let ⟨fd, F⟩ := c.def_ 25 (d := dd_sure_row) rfl; ⟨_, fd, F, He.glo_ok X G (c.fact 25 (f := .glo "sure_row") rfl)⟩
  d_told_both := let ⟨fd, F⟩ := c.def_ 26 (d := dd_told_both) rfl; ⟨_, fd, F, He.glo_ok X G (c.fact 26 (f := .glo "told_both") rfl)⟩
  d_is_least := let ⟨fd, F⟩ := c.def_ 27 (d := dd_is_least) rfl; ⟨_, fd, F, He.glo_ok X G (c.fact 27 (f := .glo "is_least") rfl)⟩
  d_members_in := let ⟨fd, F⟩ := c.def_ 28 (d := dd_members_in) rfl; ⟨_, fd, F, He.glo_ok X G (c.fact 28 (f := .glo "members_in") rfl)⟩
  d_heap_makers := let ⟨fd, F⟩ := c.def_ 29 (d := dd_heap_makers) rfl; ⟨_, fd, F, He.glo_ok X G (c.fact 29 (f := .glo "heap_makers") rfl)⟩
  d__law_of := let ⟨fd, F⟩ := c.def_ 30 (d := dd__law_of) rfl; ⟨_, fd, F, He.glo_ok X G (c.fact 30 (f := .glo "_law_of") rfl)⟩
  d__law_box := let ⟨fd, F⟩ := c.def_ 31 (d := dd__law_box) rfl; ⟨_, fd, F, He.glo_ok X G (c.fact 31 (f := .glo "_law_box") rfl)⟩
  d_times_in := let ⟨fd, F⟩ := c.def_ 32 (d := dd_times_in) rfl; ⟨_, fd, F, He.glo_ok X G (c.fact 32 (f := .glo "times_in") rfl)⟩
  d_led_member := let ⟨fd, F⟩ := c.def_ 33 (d := dd_led_member) rfl; ⟨_, fd, F, He.glo_ok X G (c.fact 33 (f := .glo "led_member") rfl)⟩
  d_led_in := let ⟨fd, F⟩ := c.def_ 34 (d := dd_led_in) rfl; ⟨_, fd, F, He.glo_ok X G (c.fact 34 (f := .glo "led_in") rfl)⟩
  d_is_map_in := let ⟨fd, F⟩ := c.def_ 35 (d := dd_is_map_in) rfl; ⟨_, fd, F, He.glo_ok X G (c.fact 35 (f := .glo "is_map_in") rfl)⟩
  d_maps_in := let ⟨fd, F⟩ := c.def_ 36 (d := dd_maps_in) rfl; ⟨_, fd, F, He.glo_ok X G (c.fact 36 (f := .glo "maps_in") rfl)⟩
  d_map_between := let ⟨fd, F⟩ := c.def_ 37 (d := dd_map_between) rfl; ⟨_, fd, F, He.glo_ok X G (c.fact 37 (f := .glo "map_between") rfl)⟩
  d_small_heap := let ⟨fd, F⟩ := c.def_ 38 (d := dd_small_heap) rfl; ⟨_, fd, F, He.glo_ok X G (c.fact 38 (f := .glo "small_heap") rfl)⟩
  d_alike_by := let ⟨fd, F⟩ := c.def_ 39 (d := dd_alike_by) rfl; ⟨_, fd, F, He.glo_ok X G (c.fact 39 (f := .glo "alike_by") rfl)⟩
  d_grown := let ⟨fd, F⟩ := c.def_ 40 (d := dd_grown) rfl; ⟨_, fd, F, He.glo_ok X G (c.fact 40 (f := .glo "grown") rfl)⟩
  d_closed_row := let ⟨fd, F⟩ := c.def_ 41 (d := dd_closed_row) rfl; ⟨_, fd, F, He.glo_ok X G (c.fact 41 (f := .glo "closed_row") rfl)⟩
  d_least_of := let ⟨fd, F⟩ := c.def_ 42 (d := dd_least_of) rfl; ⟨_, fd, F, He.glo_ok X G (c.fact 42 (f := .glo "least_of") rfl)⟩
  d_counts_in := let ⟨fd, F⟩ := c.def_ 43 (d := dd_counts_in) rfl; ⟨_, fd, F, He.glo_ok X G (c.fact 43 (f := .glo "counts_in") rfl)⟩
  d_least_counts := let ⟨fd, F⟩ := c.def_ 44 (d := dd_least_counts) rfl; ⟨_, fd, F, He.glo_ok X G (c.fact 44 (f := .glo "least_counts") rfl)⟩
  d__law_nought := let ⟨fd, F⟩ := c.def_ 45 (d := dd__law_nought) rfl; ⟨_, fd, F, He.glo_ok X G (c.fact 45 (f := .glo "_law_nought") rfl)⟩
  d_sure_within := let ⟨fd, F⟩ := c.def_ 46 (d := dd_sure_within) rfl; ⟨_, fd, F, He.glo_ok X G (c.fact 46 (f := .glo "sure_within") rfl)⟩
  d_free_in := let ⟨fd, F⟩ := c.def_ 47 (d := dd_free_in) rfl; ⟨_, fd, F, He.glo_ok X G (c.fact 47 (f := .glo "free_in") rfl)⟩
  d_least_rows := let ⟨fd, F⟩ := c.def_ 48 (d := dd_least_rows) rfl; ⟨_, fd, F, He.glo_ok X G (c.fact 48 (f := .glo "least_rows") rfl)⟩
  d__law_call := let ⟨fd, F⟩ := c.def_ 49 (d := dd__law_call) rfl; ⟨_, fd, F, He.glo_ok X G (c.fact 49 (f := .glo "_law_call") rfl)⟩
  d__law_slip := let ⟨fd, F⟩ := c.def_ 50 (d := dd__law_slip) rfl; ⟨_, fd, F, He.glo_ok X G (c.fact 50 (f := .glo "_law_slip") rfl)⟩
  d__law_plus := let ⟨fd, F⟩ := c.def_ 51 (d := dd__law_plus) rfl; ⟨_, fd, F, He.glo_ok X G (c.fact 51 (f := .glo "_law_plus") rfl)⟩
  d__law_total := let ⟨fd, F⟩ := c.def_ 52 (d := dd__law_total) rfl; ⟨_, fd, F, He.glo_ok X G (c.fact 52 (f := .glo "_law_total") rfl)⟩
  d__law_inverse := let ⟨fd, F⟩ := c.def_ 53 (d := dd__law_inverse) rfl; ⟨_, fd, F, He.glo_ok X G (c.fact 53 (f := .glo "_law_inverse") rfl)⟩
  d__law_free := let ⟨fd, F⟩ := c.def_ 54 (d := dd__law_free) rfl; ⟨_, fd, F, He.glo_ok X G (c.fact 54 (f := .glo "_law_free") rfl)⟩
  d__law_least := let ⟨fd, F⟩ := c.def_ 55 (d := dd__law_least) rfl; ⟨_, fd, F, He.glo_ok X G (c.fact 55 (f := .glo "_law_least") rfl)⟩
  d__law_members := let ⟨fd, F⟩ := c.def_ 56 (d := dd__law_members) rfl; ⟨_, fd, F, He.glo_ok X G (c.fact 56 (f := .glo "_law_members") rfl)⟩
  d__law_gcd := let ⟨fd, F⟩ := c.def_ 57 (d := dd__law_gcd) rfl; ⟨_, fd, F, He.glo_ok X G (c.fact 57 (f := .glo "_law_gcd") rfl)⟩
  d__law_unit := let ⟨fd, F⟩ := c.def_ 58 (d := dd__law_unit) rfl; ⟨_, fd, F, He.glo_ok X G (c.fact 58 (f := .glo "_law_unit") rfl)⟩
  d_prime_part := let ⟨fd, F⟩ := c.def_ 59 (d := dd_prime_part) rfl; ⟨_, fd, F, He.glo_ok X G (c.fact 59 (f := .glo "prime_part") rfl)⟩
  d_prime_of := let ⟨fd, F⟩ := c.def_ 60 (d := dd_prime_of) rfl; ⟨_, fd, F, He.glo_ok X G (c.fact 60 (f := .glo "prime_of") rfl)⟩
  d_primes_in := let ⟨fd, F⟩ := c.def_ 61 (d := dd_primes_in) rfl; ⟨_, fd, F, He.glo_ok X G (c.fact 61 (f := .glo "primes_in") rfl)⟩
  d_base_in := let ⟨fd, F⟩ := c.def_ 62 (d := dd_base_in) rfl; ⟨_, fd, F, He.glo_ok X G (c.fact 62 (f := .glo "base_in") rfl)⟩
  d_is_known := let ⟨fd, F⟩ := c.def_ 63 (d := dd_is_known) rfl; ⟨_, fd, F, He.glo_ok X G (c.fact 63 (f := .glo "is_known") rfl)⟩
  d_star_in := let ⟨fd, F⟩ := c.def_ 64 (d := dd_star_in) rfl; ⟨_, fd, F, He.glo_ok X G (c.fact 64 (f := .glo "star_in") rfl)⟩
  d_davenport := let ⟨fd, F⟩ := c.def_ 65 (d := dd_davenport) rfl; ⟨_, fd, F, He.glo_ok X G (c.fact 65 (f := .glo "davenport") rfl)⟩
  d_free_rows := let ⟨fd, F⟩ := c.def_ 66 (d := dd_free_rows) rfl; ⟨_, fd, F, He.glo_ok X G (c.fact 66 (f := .glo "free_rows") rfl)⟩
  d_makers_in := let ⟨fd, F⟩ := c.def_ 67 (d := dd_makers_in) rfl; ⟨_, fd, F, He.glo_ok X G (c.fact 67 (f := .glo "makers_in") rfl)⟩
  d_multiples_in := let ⟨fd, F⟩ := c.def_ 68 (d := dd_multiples_in) rfl; ⟨_, fd, F, He.glo_ok X G (c.fact 68 (f := .glo "multiples_in") rfl)⟩
  d_tells_in := let ⟨fd, F⟩ := c.def_ 69 (d := dd_tells_in) rfl; ⟨_, fd, F, He.glo_ok X G (c.fact 69 (f := .glo "tells_in") rfl)⟩
  d_told_number := let ⟨fd, F⟩ := c.def_ 70 (d := dd_told_number) rfl; ⟨_, fd, F, He.glo_ok X G (c.fact 70 (f := .glo "told_number") rfl)⟩
  d_all_makers := let ⟨fd, F⟩ := c.def_ 71 (d := dd_all_makers) rfl; ⟨_, fd, F, He.glo_ok X G (c.fact 71 (f := .glo "all_makers") rfl)⟩
  d_law := let ⟨fd, F⟩ := c.def_ 72 (d := dd_law) rfl; ⟨_, fd, F, He.glo_ok X G (c.fact 72 (f := .glo "law") rfl)⟩
  z_ValueError := He.free_ok X G (c.fact 73 (f := .free "ValueError") rfl)
  z_abs := He.free_ok X G (c.fact 74 (f := .free "abs") rfl)
  z_all := He.free_ok X G (c.fact 75 (f := .free "all") rfl)
  z_bool := He.free_ok X G (c.fact 76 (f := .free "bool") rfl)
  z_enumerate := He.free_ok X G (c.fact 77 (f := .free "enumerate") rfl)
  z_int := He.free_ok X G (c.fact 78 (f := .free "int") rfl)
  z_isinstance := He.free_ok X G (c.fact 79 (f := .free "isinstance") rfl)
  z_len := He.free_ok X G (c.fact 80 (f := .free "len") rfl)
  z_list := He.free_ok X G (c.fact 81 (f := .free "list") rfl)
  z_range := He.free_ok X G (c.fact 82 (f := .free "range") rfl)
  z_set := He.free_ok X G (c.fact 83 (f := .free "set") rfl)
  z_sorted := He.free_ok X G (c.fact 84 (f := .free "sorted") rfl)
  z_str := He.free_ok X G (c.fact 85 (f := .free "str") rfl)
  z_sum := He.free_ok X G (c.fact 86 (f := .free "sum") rfl)
  z_tuple := He.free_ok X G (c.fact 87 (f := .free "tuple") rfl)
  z_zip := He.free_ok X G (c.fact 88 (f := .free "zip") rfl)
  c_MOST_FREE := He.int_ok X G (c.fact 89 (f := .int "MOST_FREE" (2000)) rfl)
  c_MOST_MAPS := He.int_ok X G (c.fact 90 (f := .int "MOST_MAPS" (400)) rfl)
  c_MOST_ROUND := He.int_ok X G (c.fact 91 (f := .int "MOST_ROUND" (60)) rfl)
  c_MOST_ROUNDS := He.int_ok X G (c.fact 92 (f := .int "MOST_ROUNDS" (4)) rfl)
  c_MOST_ROW := He.int_ok X G (c.fact 93 (f := .int "MOST_ROW" (40)) rfl)
  c_MOST_SIZE := He.int_ok X G (c.fact 94 (f := .int "MOST_SIZE" (64)) rfl)
  c_MOST_TURNED := He.int_ok X G (c.fact 95 (f := .int "MOST_TURNED" (32)) rfl)
  x_CanNot := xc_ok X G (x := "CanNot") (c.fact 96 (f := .glo "CanNot") rfl) (c.fact 99 (f := .exc "CanNot") rfl) (List.all_eq_true.mp cx "CanNot" (List.mem_of_getElem? (i := 0) rfl))
  x_TooMany := xc_ok X G (x := "TooMany") (c.fact 97 (f := .glo "TooMany") rfl) (c.fact 100 (f := .exc "TooMany") rfl) (List.all_eq_true.mp cx "TooMany" (List.mem_of_getElem? (i := 1) rfl))
  x_Unfit := xc_ok X G (x := "Unfit") (c.fact 98 (f := .glo "Unfit") rfl) (c.fact 101 (f := .exc "Unfit") rfl) (List.all_eq_true.mp cx "Unfit" (List.mem_of_getElem? (i := 2) rfl))
  m_CanNot_CanNot := xm_ok X G (x := "CanNot") (y := "CanNot") (c.fact 96 (f := .glo "CanNot") rfl) (c.fact 96 (f := .glo "CanNot") rfl) (c.fact 102 (f := .exm "CanNot" "CanNot" true) rfl)
  m_CanNot_TooMany := xm_ok X G (x := "CanNot") (y := "TooMany") (c.fact 96 (f := .glo "CanNot") rfl) (c.fact 97 (f := .glo "TooMany") rfl) (c.fact 103 (f := .exm "CanNot" "TooMany" false) rfl)
  m_CanNot_Unfit := xm_ok X G (x := "CanNot") (y := "Unfit") (c.fact 96 (f := .glo "CanNot") rfl) (c.fact 98 (f := .glo "Unfit") rfl) (c.fact 104 (f := .exm "CanNot" "Unfit" false) rfl)
  m_TooMany_CanNot := xm_ok X G (x := "TooMany") (y := "CanNot") (c.fact 97 (f := .glo "TooMany") rfl) (c.fact 96 (f := .glo "CanNot") rfl) (c.fact 105 (f := .exm "TooMany" "CanNot" false) rfl)
  m_TooMany_TooMany := xm_ok X G (x := "TooMany") (y := "TooMany") (c.fact 97 (f := .glo "TooMany") rfl) (c.fact 97 (f := .glo "TooMany") rfl) (c.fact 106 (f := .exm "TooMany" "TooMany" true) rfl)
  m_TooMany_Unfit := xm_ok X G (x := "TooMany") (y := "Unfit") (c.fact 97 (f := .glo "TooMany") rfl) (c.fact 98 (f := .glo "Unfit") rfl) (c.fact 107 (f := .exm "TooMany" "Unfit" false) rfl)
  m_Unfit_CanNot := xm_ok X G (x := "Unfit") (y := "CanNot") (c.fact 98 (f := .glo "Unfit") rfl) (c.fact 96 (f := .glo "CanNot") rfl) (c.fact 108 (f := .exm "Unfit" "CanNot" false) rfl)
  m_Unfit_TooMany := xm_ok X G (x := "Unfit") (y := "TooMany") (c.fact 98 (f := .glo "Unfit") rfl) (c.fact 97 (f := .glo "TooMany") rfl) (c.fact 109 (f := .exm "Unfit" "TooMany" false) rfl)
  m_Unfit_Unfit := xm_ok X G (x := "Unfit") (y := "Unfit") (c.fact 98 (f := .glo "Unfit") rfl) (c.fact 98 (f := .glo "Unfit") rfl) (c.fact 110 (f := .exm "Unfit" "Unfit" true) rfl)
theorem facts {P : Program} {w : World} {K : PySem.W.Frag} {h : Heap} {mg : Str → Option Value} {f : Addr} (X : K.In h) (G : h.Ns mainGlobals mg) (hfa : mg ("law" : Str) = some (.ref f)) (c : He.SaysD fas fns K) (cx : xcs.all (xcB K) = true) :
    ∃ fd : FuncData, (∀ (s : Shared) (v : Value), BindsTo s fd ⟨[v], []⟩ [("script", v)]) ∧ ∀ base : Heap, K.In base → base.Ns mainGlobals mg → FnOk P w K mg base L2.CX0 12 f fd ["script"] (fun vs H Q _ => spF K mg 1 m_law vs H Q fun _ _ _ => False) := by
  obtain ⟨fd, F⟩ := c.def_ 72 (d := dd_law) rfl
  have e := hfa.symm.trans (He.glo_ok X G (c.fact 72 (f := .glo "law") rfl))
  cases e
  have b := FunD.bindsA (ps := ["script"]) F fun _ _ _ _ _ _ us hl => match us, hl with | [_], _ => rfl
  exact ⟨fd, fun s v => b s [v] rfl, fun base _ _ => fnOk0 (ok_law (ev X G c cx) F)⟩
end G13
namespace G13
open DL DL.Y PySem L2
abbrev S (x y z : Int) : Sto := [[.int x, .int y, .int z]]
def tI (l : List Int) : D := .tup (l.map .int)
def envOf : DL.R Fl → Rho
  | .ok (.nx ρ) _ => ρ
  | _ => []
/-- the makers of a round -/
def mkL : Int → List Int
  | 2 => [1]
  | 3 => [1, 2]
  | 4 => [1, 3]
  | 5 => [1, 2, 3, 4]
  | 6 => [1, 5]
  | 7 => [1, 2, 3, 4, 5, 6]
  | 8 => [1, 3, 5, 7]
  | _ => []
def m1 (k : Int) : D := tI [k]
def ρA (s : D) (n : Int) : Rho := [some s, some (.hnd 0), some (.int n), none, none, none, none, none, none, none, none, none, none, none]
def ρB (s : D) (n : Int) (a b : Option D) : Rho := [some s, some (.hnd 0), some (.int n), some (tI [n]), some (.lst ((mkL n).map m1)), a, b, none, none, none, none, none, none, none]
def ρC (s : D) (c2 c3 c4 c5 c6 c7 : Option D) (h : List Int) : Rho := [some s, some (.hnd 0), c2, c3, c4, c5, c6, c7, some (tI h), none, none, none, none, none]
def ρD (s : D) (c2 c3 c4 c5 c6 c7 : Option D) (h c : List Int) (k : Option D) : Rho := [some s, some (.hnd 0), c2, c3, c4, c5, c6, c7, some (tI h), some (tI c), k, none, none, none]
def chA : Rho → Sto → DL.R Fl := fSeq b_law_3 (fSeq b_law_4 (fSeq b_law_5 (fSeq b_law_6 b_law_7)))
def chB : Rho → Sto → DL.R Fl := fSeq b_law_9 (fSeq b_law_10 b_law_11)
def chC : Rho → Sto → DL.R Fl := fSeq b_law_13 b_law_14
def chD : Rho → Sto → DL.R Fl := fSeq b_law_16 (fSeq b_law_17 (fSeq b_law_18 b_law_19))
def FA (n : Int) : Prop := ∀ (s : D) (x y z : Int), chA (ρA s n) (S x y z) = .ok (.nx (ρB s n none none)) (S x y z)
def FB (n a b : Int) : Prop := ∀ (s : D) (x y z : Int), chB (ρB s n (some (m1 a)) (some (m1 b))) (S x y z) = .ok (.nx (envOf (chB (ρB s n (some (m1 a)) (some (m1 b))) (S x y z)))) (S x y z)
def FC (h c : List Int) : Prop := ∀ (s : D) (c2 c3 c4 c5 c6 c7 : Option D) (x y z : Int), chC (ρC s c2 c3 c4 c5 c6 c7 h) (S x y z) = .ok (.nx (ρD s c2 c3 c4 c5 c6 c7 h c none)) (S x y z)
def FD (h c : List Int) (k : Int) : Prop := ∀ (s : D) (c2 c3 c4 c5 c6 c7 : Option D) (x y z : Int), chD (ρD s c2 c3 c4 c5 c6 c7 h c (some (.int k))) (S x y z) = .ok (.rt (.bl true)) (S x y z)
theorem a2 : FA 2 := by intro s x y z; kernel_rfl
theorem b2_1_1 : FB 2 1 1 := by intro s x y z; kernel_rfl
theorem a3 : FA 3 := by intro s x y z; kernel_rfl
theorem b3_1_1 : FB 3 1 1 := by intro s x y z; kernel_rfl
theorem b3_1_2 : FB 3 1 2 := by intro s x y z; kernel_rfl
theorem b3_2_1 : FB 3 2 1 := by intro s x y z; kernel_rfl
theorem b3_2_2 : FB 3 2 2 := by intro s x y z; kernel_rfl
theorem a4 : FA 4 := by intro s x y z; kernel_rfl
theorem b4_1_1 : FB 4 1 1 := by intro s x y z; kernel_rfl
theorem b4_1_3 : FB 4 1 3 := by intro s x y z; kernel_rfl
theorem b4_3_1 : FB 4 3 1 := by intro s x y z; kernel_rfl
theorem b4_3_3 : FB 4 3 3 := by intro s x y z; kernel_rfl
theorem a5 : FA 5 := by intro s x y z; kernel_rfl
theorem b5_1_1 : FB 5 1 1 := by intro s x y z; kernel_rfl
theorem b5_1_2 : FB 5 1 2 := by intro s x y z; kernel_rfl
theorem b5_1_3 : FB 5 1 3 := by intro s x y z; kernel_rfl
theorem b5_1_4 : FB 5 1 4 := by intro s x y z; kernel_rfl
theorem b5_2_1 : FB 5 2 1 := by intro s x y z; kernel_rfl
theorem b5_2_2 : FB 5 2 2 := by intro s x y z; kernel_rfl
theorem b5_2_3 : FB 5 2 3 := by intro s x y z; kernel_rfl
theorem b5_2_4 : FB 5 2 4 := by intro s x y z; kernel_rfl
theorem b5_3_1 : FB 5 3 1 := by intro s x y z; kernel_rfl
theorem b5_3_2 : FB 5 3 2 := by intro s x y z; kernel_rfl
theorem b5_3_3 : FB 5 3 3 := by intro s x y z; kernel_rfl
theorem b5_3_4 : FB 5 3 4 := by intro s x y z; kernel_rfl
theorem b5_4_1 : FB 5 4 1 := by intro s x y z; kernel_rfl
theorem b5_4_2 : FB 5 4 2 := by intro s x y z; kernel_rfl
theorem b5_4_3 : FB 5 4 3 := by intro s x y z; kernel_rfl
theorem b5_4_4 : FB 5 4 4 := by intro s x y z; kernel_rfl
theorem a6 : FA 6 := by intro s x y z; kernel_rfl
theorem b6_1_1 : FB 6 1 1 := by intro s x y z; kernel_rfl
theorem b6_1_5 : FB 6 1 5 := by intro s x y z; kernel_rfl
theorem b6_5_1 : FB 6 5 1 := by intro s x y z; kernel_rfl
theorem b6_5_5 : FB 6 5 5 := by intro s x y z; kernel_rfl
theorem a7 : FA 7 := by intro s x y z; kernel_rfl
theorem b7_1_1 : FB 7 1 1 := by intro s x y z; kernel_rfl
theorem b7_1_2 : FB 7 1 2 := by intro s x y z; kernel_rfl
theorem b7_1_3 : FB 7 1 3 := by intro s x y z; kernel_rfl
theorem b7_1_4 : FB 7 1 4 := by intro s x y z; kernel_rfl
theorem b7_1_5 : FB 7 1 5 := by intro s x y z; kernel_rfl
theorem b7_1_6 : FB 7 1 6 := by intro s x y z; kernel_rfl
theorem b7_2_1 : FB 7 2 1 := by intro s x y z; kernel_rfl
theorem b7_2_2 : FB 7 2 2 := by intro s x y z; kernel_rfl
theorem b7_2_3 : FB 7 2 3 := by intro s x y z; kernel_rfl
theorem b7_2_4 : FB 7 2 4 := by intro s x y z; kernel_rfl
theorem b7_2_5 : FB 7 2 5 := by intro s x y z; kernel_rfl
theorem b7_2_6 : FB 7 2 6 := by intro s x y z; kernel_rfl
theorem b7_3_1 : FB 7 3 1 := by intro s x y z; kernel_rfl
theorem b7_3_2 : FB 7 3 2 := by intro s x y z; kernel_rfl
theorem b7_3_3 : FB 7 3 3 := by intro s x y z; kernel_rfl
theorem b7_3_4 : FB 7 3 4 := by intro s x y z; kernel_rfl
theorem b7_3_5 : FB 7 3 5 := by intro s x y z; kernel_rfl
theorem b7_3_6 : FB 7 3 6 := by intro s x y z; kernel_rfl
theorem b7_4_1 : FB 7 4 1 := by intro s x y z; kernel_rfl
theorem b7_4_2 : FB 7 4 2 := by intro s x y z; kernel_rfl
theorem b7_4_3 : FB 7 4 3 := by intro s x y z; kernel_rfl
theorem b7_4_4 : FB 7 4 4 := by intro s x y z; kernel_rfl
theorem b7_4_5 : FB 7 4 5 := by intro s x y z; kernel_rfl
theorem b7_4_6 : FB 7 4 6 := by intro s x y z; kernel_rfl
theorem b7_5_1 : FB 7 5 1 := by intro s x y z; kernel_rfl
theorem b7_5_2 : FB 7 5 2 := by intro s x y z; kernel_rfl
theorem b7_5_3 : FB 7 5 3 := by intro s x y z; kernel_rfl
theorem b7_5_4 : FB 7 5 4 := by intro s x y z; kernel_rfl
theorem b7_5_5 : FB 7 5 5 := by intro s x y z; kernel_rfl
theorem b7_5_6 : FB 7 5 6 := by intro s x y z; kernel_rfl
theorem b7_6_1 : FB 7 6 1 := by intro s x y z; kernel_rfl
theorem b7_6_2 : FB 7 6 2 := by intro s x y z; kernel_rfl
theorem b7_6_3 : FB 7 6 3 := by intro s x y z; kernel_rfl
theorem b7_6_4 : FB 7 6 4 := by intro s x y z; kernel_rfl
theorem b7_6_5 : FB 7 6 5 := by intro s x y z; kernel_rfl
theorem b7_6_6 : FB 7 6 6 := by intro s x y z; kernel_rfl
theorem a8 : FA 8 := by intro s x y z; kernel_rfl
theorem b8_1_1 : FB 8 1 1 := by intro s x y z; kernel_rfl
theorem b8_1_3 : FB 8 1 3 := by intro s x y z; kernel_rfl
theorem b8_1_5 : FB 8 1 5 := by intro s x y z; kernel_rfl
theorem b8_1_7 : FB 8 1 7 := by intro s x y z; kernel_rfl
theorem b8_3_1 : FB 8 3 1 := by intro s x y z; kernel_rfl
theorem b8_3_3 : FB 8 3 3 := by intro s x y z; kernel_rfl
theorem b8_3_5 : FB 8 3 5 := by intro s x y z; kernel_rfl
theorem b8_3_7 : FB 8 3 7 := by intro s x y z; kernel_rfl
theorem b8_5_1 : FB 8 5 1 := by intro s x y z; kernel_rfl
theorem b8_5_3 : FB 8 5 3 := by intro s x y z; kernel_rfl
theorem b8_5_5 : FB 8 5 5 := by intro s x y z; kernel_rfl
theorem b8_5_7 : FB 8 5 7 := by intro s x y z; kernel_rfl
theorem b8_7_1 : FB 8 7 1 := by intro s x y z; kernel_rfl
theorem b8_7_3 : FB 8 7 3 := by intro s x y z; kernel_rfl
theorem b8_7_5 : FB 8 7 5 := by intro s x y z; kernel_rfl
theorem b8_7_7 : FB 8 7 7 := by intro s x y z; kernel_rfl
theorem c2 : FC [2] [1, 1] := by intro s c2 c3 c4 c5 c6 c7 x y z; kernel_rfl
theorem d2_1 : FD [2] [1, 1] 1 := by intro s c2 c3 c4 c5 c6 c7 x y z; kernel_rfl
theorem d2_2 : FD [2] [1, 1] 2 := by intro s c2 c3 c4 c5 c6 c7 x y z; kernel_rfl
theorem c3 : FC [3] [1, 1, 2] := by intro s c2 c3 c4 c5 c6 c7 x y z; kernel_rfl
theorem d3_1 : FD [3] [1, 1, 2] 1 := by intro s c2 c3 c4 c5 c6 c7 x y z; kernel_rfl
theorem d3_2 : FD [3] [1, 1, 2] 2 := by intro s c2 c3 c4 c5 c6 c7 x y z; kernel_rfl
theorem d3_3 : FD [3] [1, 1, 2] 3 := by intro s c2 c3 c4 c5 c6 c7 x y z; kernel_rfl
theorem c4 : FC [4] [1, 2, 2, 2] := by intro s c2 c3 c4 c5 c6 c7 x y z; kernel_rfl
theorem d4_1 : FD [4] [1, 2, 2, 2] 1 := by intro s c2 c3 c4 c5 c6 c7 x y z; kernel_rfl
theorem d4_2 : FD [4] [1, 2, 2, 2] 2 := by intro s c2 c3 c4 c5 c6 c7 x y z; kernel_rfl
theorem d4_3 : FD [4] [1, 2, 2, 2] 3 := by intro s c2 c3 c4 c5 c6 c7 x y z; kernel_rfl
theorem d4_4 : FD [4] [1, 2, 2, 2] 4 := by intro s c2 c3 c4 c5 c6 c7 x y z; kernel_rfl
theorem c5 : FC [5] [1, 2, 4, 4, 4] := by intro s c2 c3 c4 c5 c6 c7 x y z; kernel_rfl
theorem d5_1 : FD [5] [1, 2, 4, 4, 4] 1 := by intro s c2 c3 c4 c5 c6 c7 x y z; kernel_rfl
theorem d5_2 : FD [5] [1, 2, 4, 4, 4] 2 := by intro s c2 c3 c4 c5 c6 c7 x y z; kernel_rfl
theorem d5_3 : FD [5] [1, 2, 4, 4, 4] 3 := by intro s c2 c3 c4 c5 c6 c7 x y z; kernel_rfl
theorem d5_4 : FD [5] [1, 2, 4, 4, 4] 4 := by intro s c2 c3 c4 c5 c6 c7 x y z; kernel_rfl
theorem d5_5 : FD [5] [1, 2, 4, 4, 4] 5 := by intro s c2 c3 c4 c5 c6 c7 x y z; kernel_rfl
theorem c6 : FC [6] [1, 3, 6, 6, 2, 2] := by intro s c2 c3 c4 c5 c6 c7 x y z; kernel_rfl
theorem d6_1 : FD [6] [1, 3, 6, 6, 2, 2] 1 := by intro s c2 c3 c4 c5 c6 c7 x y z; kernel_rfl
theorem d6_2 : FD [6] [1, 3, 6, 6, 2, 2] 2 := by intro s c2 c3 c4 c5 c6 c7 x y z; kernel_rfl
theorem d6_3 : FD [6] [1, 3, 6, 6, 2, 2] 3 := by intro s c2 c3 c4 c5 c6 c7 x y z; kernel_rfl
theorem d6_4 : FD [6] [1, 3, 6, 6, 2, 2] 4 := by intro s c2 c3 c4 c5 c6 c7 x y z; kernel_rfl
theorem d6_5 : FD [6] [1, 3, 6, 6, 2, 2] 5 := by intro s c2 c3 c4 c5 c6 c7 x y z; kernel_rfl
theorem d6_6 : FD [6] [1, 3, 6, 6, 2, 2] 6 := by intro s c2 c3 c4 c5 c6 c7 x y z; kernel_rfl
theorem c2_2 : FC [2, 2] [1, 3, 1] := by intro s c2 c3 c4 c5 c6 c7 x y z; kernel_rfl
theorem d2_2_1 : FD [2, 2] [1, 3, 1] 1 := by intro s c2 c3 c4 c5 c6 c7 x y z; kernel_rfl
theorem d2_2_2 : FD [2, 2] [1, 3, 1] 2 := by intro s c2 c3 c4 c5 c6 c7 x y z; kernel_rfl
theorem d2_2_3 : FD [2, 2] [1, 3, 1] 3 := by intro s c2 c3 c4 c5 c6 c7 x y z; kernel_rfl
theorem c2_3 : FC [2, 3] [1, 3, 6, 6, 2, 2] := by intro s c2 c3 c4 c5 c6 c7 x y z; kernel_rfl
theorem d2_3_1 : FD [2, 3] [1, 3, 6, 6, 2, 2] 1 := by intro s c2 c3 c4 c5 c6 c7 x y z; kernel_rfl
theorem d2_3_2 : FD [2, 3] [1, 3, 6, 6, 2, 2] 2 := by intro s c2 c3 c4 c5 c6 c7 x y z; kernel_rfl
theorem d2_3_3 : FD [2, 3] [1, 3, 6, 6, 2, 2] 3 := by intro s c2 c3 c4 c5 c6 c7 x y z; kernel_rfl
theorem d2_3_4 : FD [2, 3] [1, 3, 6, 6, 2, 2] 4 := by intro s c2 c3 c4 c5 c6 c7 x y z; kernel_rfl
theorem d2_3_5 : FD [2, 3] [1, 3, 6, 6, 2, 2] 5 := by intro s c2 c3 c4 c5 c6 c7 x y z; kernel_rfl
theorem d2_3_6 : FD [2, 3] [1, 3, 6, 6, 2, 2] 6 := by intro s c2 c3 c4 c5 c6 c7 x y z; kernel_rfl
theorem c2_4 : FC [2, 4] [1, 5, 9, 16, 8] := by intro s c2 c3 c4 c5 c6 c7 x y z; kernel_rfl
theorem d2_4_1 : FD [2, 4] [1, 5, 9, 16, 8] 1 := by intro s c2 c3 c4 c5 c6 c7 x y z; kernel_rfl
theorem d2_4_2 : FD [2, 4] [1, 5, 9, 16, 8] 2 := by intro s c2 c3 c4 c5 c6 c7 x y z; kernel_rfl
theorem d2_4_3 : FD [2, 4] [1, 5, 9, 16, 8] 3 := by intro s c2 c3 c4 c5 c6 c7 x y z; kernel_rfl
theorem d2_4_4 : FD [2, 4] [1, 5, 9, 16, 8] 4 := by intro s c2 c3 c4 c5 c6 c7 x y z; kernel_rfl
theorem d2_4_5 : FD [2, 4] [1, 5, 9, 16, 8] 5 := by intro s c2 c3 c4 c5 c6 c7 x y z; kernel_rfl
theorem c2_2_2 : FC [2, 2, 2] [1, 7, 7, 7] := by intro s c2 c3 c4 c5 c6 c7 x y z; kernel_rfl
theorem d2_2_2_1 : FD [2, 2, 2] [1, 7, 7, 7] 1 := by intro s c2 c3 c4 c5 c6 c7 x y z; kernel_rfl
theorem d2_2_2_2 : FD [2, 2, 2] [1, 7, 7, 7] 2 := by intro s c2 c3 c4 c5 c6 c7 x y z; kernel_rfl
theorem d2_2_2_3 : FD [2, 2, 2] [1, 7, 7, 7] 3 := by intro s c2 c3 c4 c5 c6 c7 x y z; kernel_rfl
theorem d2_2_2_4 : FD [2, 2, 2] [1, 7, 7, 7] 4 := by intro s c2 c3 c4 c5 c6 c7 x y z; kernel_rfl
def nsL : List Int := [2, 3, 4, 5, 6, 7, 8]
theorem factsA : ∀ n ∈ nsL, FA n ∧ ∀ a ∈ mkL n, ∀ b ∈ mkL n, FB n a b := (allM ⟨a2, (allM (allM b2_1_1 allN) allN)⟩
  (allM ⟨a3, (allM (allM b3_1_1 (allM b3_1_2 allN)) (allM (allM b3_2_1 (allM b3_2_2 allN)) allN))⟩
  (allM ⟨a4, (allM (allM b4_1_1 (allM b4_1_3 allN)) (allM (allM b4_3_1 (allM b4_3_3 allN)) allN))⟩
  (allM ⟨a5, (allM (allM b5_1_1 (allM b5_1_2 (allM b5_1_3 (allM b5_1_4 allN)))) (allM (allM b5_2_1 (allM b5_2_2 (allM b5_2_3 (allM b5_2_4 allN)))) (allM (allM b5_3_1 (allM b5_3_2 (allM b5_3_3 (allM b5_3_4 allN)))) (allM (allM b5_4_1 (allM b5_4_2 (allM b5_4_3 (allM b5_4_4 allN)))) allN))))⟩
  (allM ⟨a6, (allM (allM b6_1_1 (allM b6_1_5 allN)) (allM (allM b6_5_1 (allM b6_5_5 allN)) allN))⟩
  (allM ⟨a7, (allM (allM b7_1_1 (allM b7_1_2 (allM b7_1_3 (allM b7_1_4 (allM b7_1_5 (allM b7_1_6 allN)))))) (allM (allM b7_2_1 (allM b7_2_2 (allM b7_2_3 (allM b7_2_4 (allM b7_2_5 (allM b7_2_6 allN)))))) (allM (allM b7_3_1 (allM b7_3_2 (allM b7_3_3 (allM b7_3_4 (allM b7_3_5 (allM b7_3_6 allN)))))) (allM (allM b7_4_1 (allM b7_4_2 (allM b7_4_3 (allM b7_4_4 (allM b7_4_5 (allM b7_4_6 allN)))))) (allM (allM b7_5_1 (allM b7_5_2 (allM b7_5_3 (allM b7_5_4 (allM b7_5_5 (allM b7_5_6 allN)))))) (allM (allM b7_6_1 (allM b7_6_2 (allM b7_6_3 (allM b7_6_4 (allM b7_6_5 (allM b7_6_6 allN)))))) allN))))))⟩
  (allM ⟨a8, (allM (allM b8_1_1 (allM b8_1_3 (allM b8_1_5 (allM b8_1_7 allN)))) (allM (allM b8_3_1 (allM b8_3_3 (allM b8_3_5 (allM b8_3_7 allN)))) (allM (allM b8_5_1 (allM b8_5_3 (allM b8_5_5 (allM b8_5_7 allN)))) (allM (allM b8_7_1 (allM b8_7_3 (allM b8_7_5 (allM b8_7_7 allN)))) allN))))⟩
  allN)))))))
def hsL : List (List Int × List Int) := [([2], [1, 1]), ([3], [1, 1, 2]), ([4], [1, 2, 2, 2]), ([5], [1, 2, 4, 4, 4]), ([6], [1, 3, 6, 6, 2, 2]), ([2, 2], [1, 3, 1]), ([2, 3], [1, 3, 6, 6, 2, 2]), ([2, 4], [1, 5, 9, 16, 8]), ([2, 2, 2], [1, 7, 7, 7])]
theorem factsC : ∀ q ∈ hsL, FC q.1 q.2 ∧ ∀ k ∈ (List.range q.2.length).map (fun (j : Nat) => (1 : Int) + Int.ofNat j), FD q.1 q.2 k := (allM ⟨c2, (allM d2_1 (allM d2_2 allN))⟩
  (allM ⟨c3, (allM d3_1 (allM d3_2 (allM d3_3 allN)))⟩
  (allM ⟨c4, (allM d4_1 (allM d4_2 (allM d4_3 (allM d4_4 allN))))⟩
  (allM ⟨c5, (allM d5_1 (allM d5_2 (allM d5_3 (allM d5_4 (allM d5_5 allN)))))⟩
  (allM ⟨c6, (allM d6_1 (allM d6_2 (allM d6_3 (allM d6_4 (allM d6_5 (allM d6_6 allN))))))⟩
  (allM ⟨c2_2, (allM d2_2_1 (allM d2_2_2 (allM d2_2_3 allN)))⟩
  (allM ⟨c2_3, (allM d2_3_1 (allM d2_3_2 (allM d2_3_3 (allM d2_3_4 (allM d2_3_5 (allM d2_3_6 allN))))))⟩
  (allM ⟨c2_4, (allM d2_4_1 (allM d2_4_2 (allM d2_4_3 (allM d2_4_4 (allM d2_4_5 allN)))))⟩
  (allM ⟨c2_2_2, (allM d2_2_2_1 (allM d2_2_2_2 (allM d2_2_2_3 (allM d2_2_2_4 allN))))⟩
  allN)))))))))
end G13
set_option pp.maxSteps 3000
set_option pp.deepTerms false
namespace G13
open DL DL.Y PySem L2
theorem rb {α β : Type} (a : α) (st : Sto) (k : α → Sto → DL.R β) : R.bind (.ok a st) k = k a st := rfl
theorem ro {α : Type} (a : α) (st : Sto) : R.of (some a) st = .ok a st := rfl
theorem atI0 {α : Type} (a b c : α) : atI [a, b, c] 0 = some a := rfl
theorem atI1 {α : Type} (a b c : α) : atI [a, b, c] 1 = some b := rfl
theorem atI2 {α : Type} (a b c : α) : atI [a, b, c] 2 = some c := rfl
theorem ixN30 : ixN 3 0 = some 0 := rfl
theorem ixN32 : ixN 3 2 = some 2 := rfl
theorem sm {i : Int} (h1 : -(2 ^ 64) < i) (h2 : i < 2 ^ 64) : DL.small64 i = true := by
  exact small64_iff.mpr ⟨h1, h2⟩
theorem take_ok (x y z b : Int) (hx : 0 ≤ x) (hy : 0 ≤ y) (hz : 0 ≤ z) (hz2 : z < 1000000) (hb : 0 < b) (hb2 : b < 1073741824) :
    ∃ r x' z', 0 ≤ r ∧ r < b ∧ 0 ≤ x' ∧ 0 ≤ z' ∧ z' ≤ z + 1 ∧ m__law_take [.hnd 0, .int b] (S x y z) = .ok (.int r) (S x' y z') := by
  by_cases h : 0 < x
  · refine ⟨x % b, x / b, z, Int.emod_nonneg _ (by omega), Int.emod_lt_of_pos _ hb, Int.ediv_nonneg hx (by omega), hz, by omega, ?_⟩
    simp [m__law_take, runDef, b__law_take, b__law_take_1, fSeq, fIfS, fB, fOp, fVar, fC, gIx, seqOf, atI0, gGtD, ltB, h, rb, ro, fSet, gMod, fCB, fCons, fNil, gInt, hb, fSetIx, gDiv, hb2, setTo, ixN30, fRet, leave, Nat.beq, Nat.ble]
  · have s1 : DL.small64 48271 = true := by decide
    have s2 : DL.small64 (39373 + (z + 1)) = true := sm (by omega) (by omega)
    generalize ho : (y + 48271 * (z + 1)) * (39373 + (z + 1)) % 2147483647 = once
    have s3 : DL.small64 (once % 40009 + 7) = true := by
      have := Int.emod_nonneg once (b := 40009) (by omega)
      have := Int.emod_lt_of_pos once (b := 40009) (by omega)
      exact sm (by omega) (by omega)
    generalize ht : (once + (z + 1) + y / 1000003) * (once % 40009 + 7) % 2147483629 = twice
    refine ⟨(twice * 48271 + once) % 2147483587 / 64 % b, x, z + 1, Int.emod_nonneg _ (by omega), Int.emod_lt_of_pos _ hb, hx, by omega, by omega, ?_⟩
    simp [m__law_take, runDef, b__law_take, b__law_take_1, b__law_take_2, b__law_take_3, b__law_take_4, b__law_take_5, b__law_take_6, fSeq, fIfS, fNext, fB, fOp, fVar, fC, gIx, seqOf, atI0, atI1, atI2, gGtD, ltB, h, rb, ro, fSet, gMod, gAdd, gMulE, fCB, fCons, fNil, gInt, hb, fSetIx, gDiv, hb2, setTo, ixN30, ixN32, fRet, leave, Nat.beq, Nat.ble, s1, s2, s3, ho, ht]
theorem of_ok (x y z : Int) (ds : List D) (hx : 0 ≤ x) (hy : 0 ≤ y) (hz : 0 ≤ z) (hz2 : z < 1000000) (h1 : 0 < ds.length) (h2 : ds.length < 1000000) :
    ∃ d x' z', d ∈ ds ∧ 0 ≤ x' ∧ 0 ≤ z' ∧ z' ≤ z + 1 ∧ m__law_of [.hnd 0, .lst ds] (S x y z) = .ok d (S x' y z') := by
  obtain ⟨r, x', z', r0, r1, hx', hz', hz1, e⟩ := take_ok x y z ds.length hx hy hz hz2 (by omega) (by omega)
  have hr : r.toNat < ds.length := by omega
  refine ⟨ds[r.toNat], x', z', List.getElem_mem hr, hx', hz', hz1, ?_⟩
  have ea : atI ds r = some ds[r.toNat] := by
    have h := atI_nat (xs := ds) (j := r.toNat) (List.getElem?_eq_getElem hr)
    rw [show ((r.toNat : Nat) : Int) = r by omega] at h
    exact h
  simp [m__law_of, runDef, b__law_of, fRet, fOp, fVar, fCall, fCons, fNil, fCB, gLen, seqOf, rb, ro, Nat.beq, e, gIx, ea, leave, Nat.ble]
theorem cut_map (ns : List Int) (lo hi : Option Int) : cutD (ns.map D.int) lo hi = (cutD ns lo hi).map D.int := by
  unfold cutD
  rw [List.length_map, ← List.map_drop, ← List.map_take]
theorem cells_loop : ∀ (ds : List Int) (k : Nat) (c : Int) (a b d e : Option D) , k + ds.length < 1000 → ∃ c' b' d' e', forL (sTup 2 (sCons (sName 3) (sCons (sName 4) sNil))) b__law_cells_2b (enumD k (ds.map D.int)) [a, some (.int 1), some (.hnd 0), b, d, e] [[.int c]] = .ok (.nx [a, some (.int 1), some (.hnd 0), b', d', e']) [[.int c']]
  | [], k, c, a, b, d, e, _ => ⟨c, b, d, e, rfl⟩
  | n :: ds, k, c, a, b, d, e, h => by
    have s1 : DL.small64 (↑k + 2) = true := sm (by omega) (by simp at h; omega)
    obtain ⟨c', b', d', e', q⟩ := cells_loop ds (k + 1) (c + n * (k + 2)) a (some (.int k)) (some (.int n)) (some (.int 0)) (by simp at h; omega)
    refine ⟨c', b', d', e', ?_⟩
    rw [← q]
    have z1 : ∀ a : Int, atI [D.int a] 0 = some (D.int a) := fun _ => rfl
    have z2 : ixN 1 0 = some 0 := rfl
    have z3 : (k : Int) % 1 = 0 := by omega
    simp [enumD, forL, sTup, sCons, sName, sNil, Nat.beq, b__law_cells_2b, fSeq, fSet, fOp, gMod, fCB, fCons, fNil, fVar, gInt, rb, ro, fSetIx, gAdd, gIx, seqOf, gMulE, fC, s1, setTo, z1, z2, z3]
theorem cells_ok (ns : List Int) (h : ns.length ≤ 63) : ∃ c : Int, m__law_cells [.frz (ns.map D.int), .int 1] [] = .ok (.lst [.int c]) [] := by
  have l1 : (cutD ns none (some 1)).length ≤ 1 := by
    unfold cutD
    rw [List.length_take, HT.sIx_none]
    have : HT.sIx ns.length ns.length (some 1) ≤ 1 := by
      rw [show HT.sIx ns.length ns.length (some 1) = min 1 ns.length from HT.sIx_nat ns.length _ 1]
      omega
    omega
  have l2 : (cutD ns (some 1) (some 63)).length ≤ 63 := by
    unfold cutD
    rw [List.length_take, List.length_drop]
    omega
  obtain ⟨c, hc⟩ : ∃ c : Int, ∀ ρ st, fOrF (fun _ st => .ok ((cutD ns none (some 1)).map D.int) st) (fLine (fCons (fC (.int 0)) fNil)) ρ st = .ok [.int c] st := by
    cases q : cutD ns none (some 1) with
    | nil => exact ⟨0, fun ρ st => by simp [fOrF, rb, fLine, fCons, fC, fNil, lineOk, Nat.ble]⟩
    | cons a r =>
      rw [q] at l1
      cases r with
      | nil => exact ⟨a, fun ρ st => by simp [fOrF, rb]⟩
      | cons b r => simp at l1
  obtain ⟨c', b', d', e', q⟩ := cells_loop (cutD ns (some 1) (some 63)) 0 c (some (.frz (ns.map D.int))) none none none (by omega)
  refine ⟨c', ?_⟩
  have e1 : ∀ ρ st, (fCBn gListN (fCons (fSl (fVar 0) fNoPart (fPart (fVar 1))) fNil)) (some (.frz (ns.map D.int)) :: some (.int 1) :: ρ) st = .ok ((cutD ns none (some 1)).map D.int) st := fun ρ st => by
    simp [fCBn, fCons, fSl, fVar, fNoPart, fPart, rb, ro, gSl, cut_map, fNil, gListN, seqOf]
  have hc2 := hc [some (.frz (ns.map D.int)), some (.int 1), none, none, none, none] []
  unfold fOrF at hc2
  simp only [rb] at hc2
  simp [m__law_cells, runDef, b__law_cells, b__law_cells_1, b__law_cells_2, b__law_cells_3, fSeq, fSet, fThaw, fOrF, e1, rb, hc2, fFor, fEnum, fCons, fSl, fVar, fPart, fC, fNil, ro, gSl, cut_map, esrc, statOf, q, fRet, leave, Nat.beq, Nat.ble, lowAll, mapH, frzH, frzOf, Nat.blt, mapHs]
theorem box_ok (c : Int) : ∃ x y : Int, 0 ≤ x ∧ 0 ≤ y ∧ m__law_box [.lst [.int c], .int 0] [] = .ok (.hnd 0) (S x y 0) := by
  have z1 : atI [D.int c] 0 = some (D.int c) := rfl
  have s1 : ∀ p : Prop, [Decidable p] → DL.small64 (if p then 1 else 0) = true := fun p _ => by split <;> decide
  have s2 : DL.small64 39373 = true := by decide
  refine ⟨(if c < 0 then -c else c) * (if decide ((10 : Int) ^ 18 ≤ (if c < 0 then -c else c)) = true then 1 else 0), c % 2305843009213693951 + 39373 * 0 + 25194013, ?_, ?_, ?_⟩
  · refine Int.mul_nonneg ?_ ?_
    · split <;> omega
    · split <;> omega
  · have := Int.emod_nonneg c (b := 2305843009213693951) (by omega)
    omega
  · have s3 : DL.small64 (if (1000000000000000000 : Int) ≤ (if c < 0 then -c else c) then 1 else 0) = true := s1 _
    simp [m__law_box, runDefK, b__law_box, fSeq, fSet, fIf, fB, fOp, fVar, fC, fCB, fCons, fNil, gLen, seqOf, gLtD, ltB, gIx, z1, rb, ro, fRet, fThaw, fLine, gMulE, gAbs, gInt, gGeD, ltB, gPow, gAdd, gMod, s2, lineOk, Nat.ble, Nat.beq, leaveK, Nat.blt, lowAll, mapHs, mapH, s3]
end G13
namespace G13
open DL DL.Y PySem L2
theorem seq_nx {f g : Rho → Sto → DL.R Fl} {ρ : Rho} {s : Sto} {fl : Fl} {s' : Sto} (h : fSeq f g ρ s = .ok fl s') (hn : ∃ r, fl = .nx r) : ∃ ρ1 s1, f ρ s = .ok (.nx ρ1) s1 ∧ g ρ1 s1 = .ok fl s' := by
  obtain ⟨r, rfl⟩ := hn
  unfold fSeq at h
  cases e : f ρ s with
  | bad => rw [e] at h; cases h
  | exc c p s1 => rw [e] at h; cases h
  | ok fl1 s1 =>
    rw [e] at h
    cases fl1 with
    | nx ρ1 => exact ⟨ρ1, s1, rfl, h⟩
    | rt d => cases h
    | bk ρ1 => cases h
    | ct ρ1 => cases h
theorem seqE {f g : Rho → Sto → DL.R Fl} {ρ ρ' : Rho} {s s' : Sto} (h : f ρ s = .ok (.nx ρ') s') : fSeq f g ρ s = g ρ' s' := by
  unfold fSeq; rw [h]; rfl
theorem seqA {f g k : Rho → Sto → DL.R Fl} : fSeq (fSeq f g) k = fSeq f (fSeq g k) := by
  funext ρ s
  unfold fSeq
  cases f ρ s with
  | bad => rfl
  | exc c p s1 => rfl
  | ok fl1 s1 => cases fl1 <;> rfl
theorem if_nx {c : Rho → Sto → DL.R Bool} {d : D} {ρ ρ' : Rho} {s s' : Sto} (h : fIfS c (fRet (fC d)) fNext ρ s = .ok (.nx ρ') s') : ρ' = ρ := by
  unfold fIfS at h
  generalize c ρ s = r at h
  cases r with
  | bad => cases h
  | exc c p s1 => cases h
  | ok b s3 =>
    cases b with
    | true => cases h
    | false => cases h; rfl
theorem shapeB {ρ ρ' : Rho} {s s' : Sto} (h : chB ρ s = .ok (.nx ρ') s') : ∃ w, ρ' = ρ.set 7 (some w) := by
  unfold chB at h
  obtain ⟨ρ1, s1, e1, h1⟩ := seq_nx h ⟨_, rfl⟩
  obtain ⟨ρ2, s2, e2, h2⟩ := seq_nx h1 ⟨_, rfl⟩
  unfold b_law_9 at e1
  have q1 := if_nx e1
  unfold b_law_11 at h2
  have q2 := if_nx h2
  rw [q1] at e2
  unfold b_law_10 fSet at e2
  revert e2
  generalize fCallK 0 3 3 m_alike_by fNil _ ρ s1 = r
  intro e2
  rw [q2]
  cases r with
  | bad => cases e2
  | exc c p s1 => cases e2
  | ok d s2 => cases e2; exact ⟨d, rfl⟩
def heaps : Rho → Sto → DL.R (List D) := (fCons (fTup (fCons (fC (.int 2)) fNil)) (fCons (fTup (fCons (fC (.int 3)) fNil)) (fCons (fTup (fCons (fC (.int 4)) fNil)) (fCons (fTup (fCons (fC (.int 5)) fNil)) (fCons (fTup (fCons (fC (.int 6)) fNil)) (fCons (fTup (fCons (fC (.int 2)) (fCons (fC (.int 2)) fNil))) (fCons (fTup (fCons (fC (.int 2)) (fCons (fC (.int 3)) fNil))) (fCons (fTup (fCons (fC (.int 2)) (fCons (fC (.int 4)) fNil))) (fCons (fTup (fCons (fC (.int 2)) (fCons (fC (.int 2)) (fCons (fC (.int 2)) fNil)))) fNil)))))))))
theorem law_true (ns : List Int) (h : ns.length ≤ 63) : ∃ st', m_law [.frz (ns.map D.int)] [] = .ok (.bl true) st' := by
  obtain ⟨c, e1⟩ := cells_ok ns h
  obtain ⟨x, y, hx, hy, e2⟩ := box_ok c
  generalize hs : D.frz (ns.map D.int) = sc at e1
  have s1 : b_law_1 [some sc, none, none, none, none, none, none, none, none, none, none, none, none, none] [] = .ok (.nx [some sc, some (.hnd 0), none, none, none, none, none, none, none, none, none, none, none, none]) (S x y 0) := by
    simp [b_law_1, fSet, fCall, fCons, fNil, fVar, fC, rb, e1, e2, Nat.beq]
  -- the number
  obtain ⟨r, x1, z1, r0, r1, hx1, hz1, hz1', e3⟩ := take_ok x y 0 7 hx hy (by omega) (by omega) (by omega) (by omega)
  have s2 : b_law_2 [some sc, some (.hnd 0), none, none, none, none, none, none, none, none, none, none, none, none] (S x y 0) = .ok (.nx (ρA sc (2 + r))) (S x1 y z1) := by
    have s2 : DL.small64 (2 + r) = true := sm (by omega) (by omega)
    simp [b_law_2, fSet, fOp, fCall, fCons, fNil, fVar, fC, rb, ro, e3, Nat.beq, gAdd, ρA]
  have hn : 2 + r ∈ nsL := by
    have : r = 0 ∨ r = 1 ∨ r = 2 ∨ r = 3 ∨ r = 4 ∨ r = 5 ∨ r = 6 := by omega
    rcases this with e | e | e | e | e | e | e <;> rw [e] <;> decide
  obtain ⟨fA, fB⟩ := factsA _ hn
  have hm : 0 < (mkL (2 + r)).length ∧ (mkL (2 + r)).length < 100 := by
    have : r = 0 ∨ r = 1 ∨ r = 2 ∨ r = 3 ∨ r = 4 ∨ r = 5 ∨ r = 6 := by omega
    rcases this with e | e | e | e | e | e | e <;> rw [e] <;> decide
  generalize 2 + r = n at fA fB hm s2
  have s3 := fA sc x1 y z1
  -- the makers
  obtain ⟨da, x2, z2, hda, hx2, hz2, hz2', e4⟩ := of_ok x1 y z1 ((mkL n).map m1) hx1 hy hz1 (by omega) (by rw [List.length_map]; omega) (by rw [List.length_map]; omega)
  obtain ⟨db, x3, z3, hdb, hx3, hz3, hz3', e5⟩ := of_ok x2 y z2 ((mkL n).map m1) hx2 hy hz2 (by omega) (by rw [List.length_map]; omega) (by rw [List.length_map]; omega)
  obtain ⟨a, ha, rfl⟩ := List.mem_map.mp hda
  obtain ⟨b, hb, rfl⟩ := List.mem_map.mp hdb
  have s4 : b_law_8 (ρB sc n none none) (S x1 y z1) = .ok (.nx (ρB sc n (some (m1 a)) (some (m1 b)))) (S x3 y z3) := by
    simp [b_law_8, fPar, fCons, fCall, fVar, fNil, rb, ρB, e4, e5, Nat.beq]
  have s5 := fB a ha b hb sc x3 y z3
  obtain ⟨w, ew⟩ := shapeB s5
  rw [ew] at s5
  -- the other heap
  obtain ⟨dh, x4, z4, hdh, hx4, hz4, hz4', e6⟩ := of_ok x3 y z3 (hsL.map fun q => tI q.1) hx3 hy hz3 (by omega) (by decide) (by decide)
  obtain ⟨q, hq, rfl⟩ := List.mem_map.mp hdh
  obtain ⟨gC, gD⟩ := factsC q hq
  have s6 : b_law_12 ((ρB sc n (some (m1 a)) (some (m1 b))).set 7 (some w)) (S x3 y z3) = .ok (.nx (ρC sc (some (.int n)) (some (tI [n])) (some (.lst ((mkL n).map m1))) (some (m1 a)) (some (m1 b)) (some w) q.1)) (S x4 y z4) := by
    have e : ∀ g : List D → Sto → DL.R D, fSet 8 (fCall 2 g (fCons (fVar 1) (fCons (fLst heaps) fNil))) ((ρB sc n (some (m1 a)) (some (m1 b))).set 7 (some w)) (S x3 y z3) =
        R.bind (g [.hnd 0, .lst (hsL.map fun q => tI q.1)] (S x3 y z3)) fun d st => .ok (.nx (((ρB sc n (some (m1 a)) (some (m1 b))).set 7 (some w)).set 8 (some d))) st := fun g => rfl
    have e' := e m__law_of
    rw [e6] at e'
    exact e'
  have s7 := gC sc (some (.int n)) (some (tI [n])) (some (.lst ((mkL n).map m1))) (some (m1 a)) (some (m1 b)) (some w) x4 y z4
  -- the length
  have hc : 0 < q.2.length ∧ q.2.length < 100 := by
    have : ∀ q ∈ hsL, 0 < q.2.length ∧ q.2.length < 100 := by decide
    exact this q hq
  obtain ⟨k, x5, z5, k0, k1, hx5, hz5, hz5', e7⟩ := take_ok x4 y z4 q.2.length hx4 hy hz4 (by omega) (by omega) (by omega)
  have s8 : ∀ c2 c3 c4 c5 c6 c7, b_law_15 (ρD sc c2 c3 c4 c5 c6 c7 q.1 q.2 none) (S x4 y z4) = .ok (.nx (ρD sc c2 c3 c4 c5 c6 c7 q.1 q.2 (some (.int (1 + k))))) (S x5 y z5) := fun c2 c3 c4 c5 c6 c7 => by
    have el : ((q.2.map D.int).length : Int) = q.2.length := by rw [List.length_map]
    simp [b_law_15, fSet, fOp, fCall, fCons, fNil, fVar, fC, rb, ro, Nat.beq, gAdd, ρD, fCB, gLen, tI, DL.seqOf, el, e7]
  have hk : (1 + k) ∈ (List.range q.2.length).map (fun (j : Nat) => (1 : Int) + Int.ofNat j) := List.mem_map.mpr ⟨k.toNat, List.mem_range.mpr (by omega), by simp only [Int.ofNat_eq_natCast]; omega⟩
  have s9 := gD (1 + k) hk sc (some (.int n)) (some (tI [n])) (some (.lst ((mkL n).map m1))) (some (m1 a)) (some (m1 b)) (some w) x5 y z5
  have s : b_law [some sc, none, none, none, none, none, none, none, none, none, none, none, none, none] [] = .ok (.rt (.bl true)) (S x5 y z5) := by
    unfold chA at s3
    unfold chB at s5
    unfold chC at s7
    unfold chD at s9
    obtain ⟨ρ3, t3, p3, s3⟩ := seq_nx s3 ⟨_, rfl⟩
    obtain ⟨ρ4, t4, p4, s3⟩ := seq_nx s3 ⟨_, rfl⟩
    obtain ⟨ρ5, t5, p5, s3⟩ := seq_nx s3 ⟨_, rfl⟩
    obtain ⟨ρ6, t6, p6, s3⟩ := seq_nx s3 ⟨_, rfl⟩
    obtain ⟨ρ9, t9, p9, s5⟩ := seq_nx s5 ⟨_, rfl⟩
    obtain ⟨ρ10, t10, p10, s5⟩ := seq_nx s5 ⟨_, rfl⟩
    obtain ⟨ρ13, t13, p13, s7⟩ := seq_nx s7 ⟨_, rfl⟩
    unfold b_law
    rw [seqE s1, seqE s2, seqE p3, seqE p4, seqE p5, seqE p6, seqE s3, seqE s4, seqE p9, seqE p10, seqE s5, seqE s6, seqE p13, seqE s7, seqE (s8 _ _ _ _ _ _)]
    exact s9
  have s' : b_law (List.map some [sc] ++ List.replicate (14 - [sc].length) none) [] = .ok (.rt (.bl true)) (S x5 y z5) := s
  refine ⟨[], ?_⟩
  unfold m_law runDef
  rw [s']
  simp [leave, Nat.beq, Nat.ble, lowAll, mapH]
end G13
open PySem PySem.W PySem.Calls PyProof.Rows
theorem PySem.Challenge.cw_zerorows_k13_main_longest_least_rows_of_holds : PySem.Challenge.rw_zerorows_k13_main_longest_least_rows_of.Holds := by
  w_on; o_law
  refine HandSHeadRun.head_any (r := OpenLaw.row PySem.Challenge.rw_zerorows_k13_main_longest_least_rows_of) (q := view (OpenLaw.row PySem.Challenge.rw_zerorows_k13_main_longest_least_rows_of).prog [91]) (H := G13.hk) (ob := G13.ob) (M := 4000) (loose := G13.names) (d := HandSHeadRun.topDef (OpenLaw.row PySem.Challenge.rw_zerorows_k13_main_longest_least_rows_of).prog 91) (kwd := []) G13.ob_eq
    (by kernel_rfl) (fun s => by kernel_rfl) G13.run (by kernel_rfl) (by kernel_rfl) (by kernel_rfl) (by rfl) (by first | assumption | decide +kernel) (by decide +kernel) ⟨rfl, rfl, rfl, rfl, rfl, by decide +kernel⟩ ?hw ?hc
  case hw => w_witness2
  case hc =>
    refine L2.walk_ofE (l := PySem.Challenge.rw_zerorows_k13_main_longest_least_rows_of) (n := 63) (k := 12) (x := "script") (CX := L2.CX0) rfl (by decide) (by kernel_rfl) ⟨rfl, by decide, by decide⟩ ?F (fun _ _ _ _ z => z)
    intro w mg fa h Y G hmg0
    obtain ⟨K, KX, c, cx⟩ := Y
    have hmg : mg ("law" : PySem.Str) = some (.ref fa) := by
      have e : (HandSHeadRun.topDef (OpenLaw.row PySem.Challenge.rw_zerorows_k13_main_longest_least_rows_of).prog 91).name = ("law" : PySem.Str) := by kernel_rfl
      rw [← e]
      exact hmg0
    obtain ⟨fd, hb, hF⟩ := G13.facts (P := (PySem.Challenge.rw_zerorows_k13_main_longest_least_rows_of).prog) (w := w) KX G hmg c cx
    exact ⟨K, fd, (fun vs H Q _ => DL.spF K mg 1 G13.m_law vs H Q fun _ _ _ => False), KX, hb, fun H a ns hl hO hS => DL.law_sp hO hS (G13.law_true ns hl), hF⟩
