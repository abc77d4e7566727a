import PyProof.Rows.All
import KE.SortData
import KE.KEqDeep
import Wide.All
import OpenK.AllK
import Wide.FinOn
import KE.DataMinMax
import KE.KIndexOf
import PyProof.TupleOfSeq
import PyProof.ReprRoads
import HandS.ForMost
import HandS.IsInst
import HandS.Flow
import HandS.Style
import HandS.TupAny
import HandS.Walk
import HandS.Conv
import HandS.More
import HandS.Codes
import KE.KEqSeq
import PySem.Challenge.RW_endorders_k67_whole_texts_shown_judged
set_option Elab.async false
set_option linter.all false
set_option maxRecDepth 100000
set_option maxHeartbeats 4000000
/-! The mathematics of law k67: the places of a text by its ends, whatever mark stands behind the last letter. -/
namespace K67
open PySem PySem.W PyProof.Rows

inductive Kd where | first | last | ring
  deriving DecidableEq
def Kd.nm : Kd → Str
  | .first => Str.ofString "first"
  | .last => Str.ofString "last"
  | .ring => Str.ofString "ring"

abbrev Rw := List Int × Int
def enc (r : Rw) : PyData := .tuple [.list (r.1.map .int), .int r.2]

/-- what stands behind the letters from a place on -/
def tailAt (T : Int) (k : Kd) (ns : List Int) (i : Nat) : List Int := match k with
  | .first => [-1]
  | .last => [T]
  | .ring => ns.take i
def rowAt (T : Int) (k : Kd) (ns : List Int) (i : Nat) : List Int := ns.drop i ++ tailAt T k ns i
def rows (T : Int) (k : Kd) (ns : List Int) : List (List Int) := (List.range ns.length).map (rowAt T k ns)
def pairs (T : Int) (k : Kd) (ns : List Int) : List Rw := (List.range ns.length).map fun i => (rowAt T k ns i, (i : Int))
def srt (T : Int) (k : Kd) (ns : List Int) : List Rw := (pairs T k ns).mergeSort (dataLe false enc)
/-- two neighbours have the same first part -/
def twin (l : List Rw) : Bool := (List.range (l.length - 1)).any fun i => decide ((l.getD i ([], 0)).1 = (l.getD (i + 1) ([], 0)).1)
def spots (T : Int) (k : Kd) (ns : List Int) : Option (List Int) := if twin (srt T k ns) = true then none else some ((srt T k ns).map (·.2))

theorem rows_length (T k ns) : (rows T k ns).length = ns.length := by simp [rows]
theorem pairs_length (T k ns) : (pairs T k ns).length = ns.length := by simp [pairs]
theorem srt_length (T k ns) : (srt T k ns).length = ns.length := by unfold srt; rw [List.length_mergeSort, pairs_length]
theorem rowAt_length {T k} {ns : List Int} {i : Nat} (h : i < ns.length) : (rowAt T k ns i).length ≤ ns.length + 1 := by
  unfold rowAt tailAt
  cases k <;> simp <;> omega

/-! ### the order under a strictly growing map of the letters -/
def gr (f : Int → Int) (r : Rw) : Rw := (r.1.map f, r.2)
theorem lex_ll (x y : Int) (r t : List (Int ⊕ List Nat)) : PyProof.Rows.lexLt itemOrd (Sum.inl x :: r) (Sum.inl y :: t) = (decide (x < y) || (!decide (y < x) && PyProof.Rows.lexLt itemOrd r t)) := lex_cons (O := itemOrd) (Sum.inl x) (Sum.inl y) r t
theorem ints_toks {f : Int → Int} (hf : ∀ x y, x < y ↔ f x < f y) : ∀ (a b : List Int) (p q : List (Int ⊕ List Nat)),
    PyProof.Rows.lexLt itemOrd (keyToksAll ((a.map f).map PyData.int) ++ p) (keyToksAll ((b.map f).map PyData.int) ++ q) = PyProof.Rows.lexLt itemOrd (keyToksAll (a.map PyData.int) ++ p) (keyToksAll (b.map PyData.int) ++ q)
  | [], [], p, q => rfl
  | [], y :: b, p, q => by
    simp only [List.map_nil, List.map_cons, keyToksAll, List.cons_append, List.nil_append]
    rw [lex_ll, lex_ll]
    simp
  | x :: a, [], p, q => by
    simp only [List.map_nil, List.map_cons, keyToksAll, List.cons_append, List.nil_append]
    rw [lex_ll, lex_ll]
    simp
  | x :: a, y :: b, p, q => by
    have ih := ints_toks hf a b p q
    simp only [List.map_cons, keyToksAll, keyToks, List.cons_append, List.nil_append]
    rw [lex_ll, lex_ll (f x) (f y), lex_ll 1 1 (Sum.inl x :: _), lex_ll x y, ih]
    have e1 : decide (f x < f y) = decide (x < y) := by rw [decide_eq_decide]; exact (hf x y).symm
    have e2 : decide (f y < f x) = decide (y < x) := by rw [decide_eq_decide]; exact (hf y x).symm
    rw [e1, e2]
theorem le_gr {f : Int → Int} (hf : ∀ x y, x < y ↔ f x < f y) (r s : Rw) : dataLe false enc r s = dataLe false enc (gr f r) (gr f s) := by
  rw [dataLe_eq]
  show (!dataLt (enc s) (enc r)) = (!dataLt (enc (gr f s)) (enc (gr f r)))
  congr 1
  unfold dataLt enc gr
  simp only [keyToks, keyToksAll]
  have e := ints_toks hf s.1 r.1 ([Sum.inl 1, Sum.inl s.2, Sum.inl 0]) ([Sum.inl 1, Sum.inl r.2, Sum.inl 0])
  simp only [List.cons_append, List.nil_append, List.append_assoc] at e ⊢
  rw [lex_ll, lex_ll, e]
theorem inj_of_mono {f : Int → Int} (hf : ∀ x y, x < y ↔ f x < f y) {x y : Int} (h : f x = f y) : x = y := by
  have h1 := hf x y
  have h2 := hf y x
  omega
theorem map_inj {f : Int → Int} (hf : ∀ x y, x < y ↔ f x < f y) : ∀ {a b : List Int}, a.map f = b.map f → a = b
  | [], [], _ => rfl
  | [], _ :: _, h => by simp at h
  | _ :: _, [], h => by simp at h
  | x :: a, y :: b, h => by
    rw [List.map_cons, List.map_cons] at h
    injection h with h1 h2
    rw [inj_of_mono hf h1, map_inj hf h2]
theorem twin_gr {f : Int → Int} (hf : ∀ x y, x < y ↔ f x < f y) (l : List Rw) : twin (l.map (gr f)) = twin l := by
  unfold twin
  rw [List.length_map]
  have e : ∀ i, i < l.length → ((l.map (gr f)).getD i ([], 0)).1 = (l.getD i ([], 0)).1.map f := fun i hi => by
    rw [List.getD_eq_getElem?_getD, List.getD_eq_getElem?_getD, List.getElem?_map, List.getElem?_eq_getElem hi]
    rfl
  rw [Bool.eq_iff_iff, List.any_eq_true, List.any_eq_true]
  constructor
  · rintro ⟨i, hi, h⟩
    have hi' := List.mem_range.mp hi
    refine ⟨i, hi, ?_⟩
    rw [e i (by omega), e (i + 1) (by omega)] at h
    exact decide_eq_true (map_inj hf (of_decide_eq_true h))
  · rintro ⟨i, hi, h⟩
    have hi' := List.mem_range.mp hi
    refine ⟨i, hi, ?_⟩
    rw [e i (by omega), e (i + 1) (by omega), of_decide_eq_true h]
    exact decide_eq_true rfl
theorem spots_mark {T T' : Int} (k : Kd) {ns : List Int} (h0 : 0 ≤ T) (hT : ∀ x ∈ ns, x < T) (hle : T ≤ T') : spots T' k ns = spots T k ns := by
  obtain ⟨f, hf⟩ : ∃ f : Int → Int, f = fun x => if x < T then x else x + (T' - T) := ⟨_, rfl⟩
  have mono : ∀ x y, x < y ↔ f x < f y := fun x y => by
    rw [hf]
    dsimp only
    split <;> split <;> omega
  have low : ∀ x, x < T → f x = x := fun x hx => by rw [hf]; dsimp only; rw [if_pos hx]
  have top : f T = T' := by rw [hf]; dsimp only; rw [if_neg (by omega)]; omega
  have same : ∀ l : List Int, (∀ x ∈ l, x < T) → l.map f = l := fun l hl => by
    have e : l.map f = l.map id := List.map_congr_left fun x hx => low x (hl x hx)
    rw [e, List.map_id]
  have erow : ∀ i, rowAt T' k ns i = (rowAt T k ns i).map f := fun i => by
    unfold rowAt tailAt
    rw [List.map_append, same _ fun x hx => hT x (List.mem_of_mem_drop hx)]
    cases k with
    | first =>
      show _ ++ [-1] = _ ++ [f (-1)]
      rw [low (-1) (by omega)]
    | last =>
      show _ ++ [T'] = _ ++ [f T]
      rw [top]
    | ring =>
      show _ ++ ns.take i = _ ++ (ns.take i).map f
      rw [same _ fun x hx => hT x (List.mem_of_mem_take hx)]
  have epairs : pairs T' k ns = (pairs T k ns).map (gr f) := by
    unfold pairs
    rw [List.map_map]
    refine List.map_congr_left fun i _ => ?_
    show (rowAt T' k ns i, (i : Int)) = ((rowAt T k ns i).map f, (i : Int))
    rw [erow]
  have esrt : srt T' k ns = (srt T k ns).map (gr f) := by
    unfold srt
    rw [epairs]
    exact (sort_maps (gr f) fun a _ b _ => le_gr mono a b).symm
  unfold spots
  rw [esrt, twin_gr mono, List.map_map]
  rfl

/-! ### an order is a shuffled range -/
def rng (n : Nat) : List Int := (List.range n).map fun (i : Nat) => (i : Int)
theorem rng_length (n : Nat) : (rng n).length = n := by simp [rng]
theorem rng_sorted (n : Nat) : (rng n).Pairwise (· ≤ ·) := by
  unfold rng
  rw [List.pairwise_map]
  exact List.pairwise_lt_range.imp fun {a b} h => by omega
theorem sorted_rng {l : List Int} {n : Nat} (hp : l.Perm (rng n)) (hs : l.Pairwise (· ≤ ·)) : l = rng n :=
  hp.eq_of_pairwise (fun a b _ _ h1 h2 => by omega) hs (rng_sorted n)
theorem mem_rng {n : Nat} {x : Int} : x ∈ rng n ↔ 0 ≤ x ∧ x < n := by
  unfold rng
  rw [List.mem_map]
  constructor
  · rintro ⟨i, hi, rfl⟩
    have := List.mem_range.mp hi
    omega
  · rintro ⟨h1, h2⟩
    exact ⟨x.toNat, List.mem_range.mpr (by omega), by omega⟩
theorem eqv_ints (a b : List Int) : PyData.eqv (.list (a.map .int)) (.list (b.map .int)) = decide (a = b) := by
  show PyData.eqvAll _ _ = _
  exact ked_eqvAll a b
theorem eqv_intsT (a b : List Int) : PyData.eqv (.tuple (a.map .int)) (.tuple (b.map .int)) = decide (a = b) := by
  show PyData.eqvAll _ _ = _
  exact ked_eqvAll a b
end K67

/-! Own rules beside the hand layer. -/
namespace K67
open PySem PySem.Spec PyProof.Rows L2

/-! ### sorting -/
theorem vals_each : ∀ {ps : List (V × Rw)} {us : List Value}, Vals (ps.map (·.1)) us → PySem.W.EachIs (fun (v : Value) (b : V × Rw) => RelV b.1 v) us ps
  | [], _, r => by
    cases r
    exact .nil
  | p :: ps, _, r => by
    cases r with
    | cons a b => exact .cons a (vals_each b)
theorem each_vals : ∀ {ps : List (V × Rw)} {us : List Value}, PySem.W.EachIs (fun (v : Value) (b : V × Rw) => RelV b.1 v) us ps → Vals (ps.map (·.1)) us
  | _, _, .nil => .nil
  | _, _, .cons a b => .cons a (each_vals b)
theorem alike_enc (a b : Rw) : PySem.W.alike (enc a) (enc b) = true := by
  unfold enc
  simp only [PySem.W.alike, PySem.W.alikeAll, PySem.W.alike_ints, Bool.and_self]
theorem depth_enc (a : Rw) : (enc a).depth ≤ 4 := by
  unfold enc
  simp only [PyData.depth, PyData.depthAll, PySem.W.depth_ints]
  omega
/-- sorted(xs), xs a list whose items read as pairs of a list of ints and an int -/
def rSortedR (K : PySem.W.Frag) : List V → Hp → VK → Prop := fun vs H Q => ∃ (a : Addr) (ps : List (V × Rw)), vs = [V.ref a] ∧ SqL K H a (ps.map (·.1)) ∧ (∀ p ∈ ps, Dp K H p.1 (enc p.2)) ∧
  ∀ (p : Addr) (zs : List (V × Rw)), H p = none → zs.Perm ps → zs.map (·.2) = (ps.map (·.2)).mergeSort (PySem.W.dataLe false enc) → Q (.ref p) (upd H p (.lst (zs.map (·.1))))
section
variable {X : Cx}
theorem cr_sortedR (hu : X.A.units + 64 < cLine) : CallR X (.builtin "sorted") (rSortedR X.K) := by
  intro pins s σ H vs us Q I r h
  obtain ⟨a, ps, rfl, hs, hd, q⟩ := h
  obtain ⟨its, rv, hl, hz⟩ := I.list hs
  rw [Vals.ref1 r]
  have e := vals_each rv
  have er : PySem.W.EachIs (fun (v : Value) (b : V × Rw) => ∃ as, Reads s.heap v (enc b.2) as) its ps :=
    (PySem.W.each_mem e).mono fun v b ⟨h1, h2⟩ => Dp.reads I _ _ _ (hd b h2) h1
  have hlen : ps.length ≤ sizeLine := by rw [List.length_map] at hz; exact hz
  refine PySem.W.sorted_data (enc := fun b : V × Rw => enc b.2) hl.isList e er (.of fun b b' => alike_enc b.2 b'.2) (.tuples fun b => ⟨_, _, rfl⟩) hlen (fun b _ => ?_) fun out ho eo => ?_
  · have := depth_enc b.2
    omega
  · obtain ⟨ep, he'⟩ := PyProof.Rows.sortedAll_at s.heap its out.toArray
    have hp : (ps.mergeSort (PySem.W.dataLe false fun b : V × Rw => enc b.2)).Perm ps := List.mergeSort_perm ..
    refine ⟨.ref _, upd H (s.heap.objs.size + 1) (.lst ((ps.mergeSort (PySem.W.dataLe false fun b : V × Rw => enc b.2)).map (·.1))), I.laid (t' := s.toks) (fun _ _ => PyProof.Rows.sortedAll_old) (Nat.le_succ _) ⟨?_, out, ep, each_vals eo, he'⟩, rfl,
      q _ _ (I.hok.fresh (Nat.le_succ _)) hp ?_⟩
    · rw [List.length_map, hp.length_eq]
      exact hlen
    · exact PySem.W.sort_maps (fun b : V × Rw => b.2) fun _ _ _ _ => rfl

/-- sorted(t), t a tuple of ints -/
def rSortedTI (K : PySem.W.Frag) : List V → Hp → VK → Prop := fun vs H Q => ∃ (a : Addr) (ns : List Int), vs = [V.ref a] ∧ SqT K H a (ns.map V.int) ∧
  ∀ (ns' : List Int) (p : Addr), ns'.Perm ns → ns'.Pairwise (· ≤ ·) → H p = none → Q (.ref p) (upd H p (.lst (ns'.map V.int)))
theorem cr_sortedTI (hu : X.A.units + 64 < cLine) : CallR X (.builtin "sorted") (rSortedTI X.K) := by
  intro pins s σ H vs us Q I r h
  obtain ⟨a, ns, rfl, hs, q⟩ := h
  obtain ⟨its, rv, ⟨o, ho, hc, n, hd⟩, hz⟩ := I.tuple hs
  rw [Vals.ref1 r]
  have hlen := rv.length
  rw [List.length_map] at hlen hz
  refine call_function_entry_kw kind_sorted plain_sorted entry_sorted (args_sorted1 _) ?_
  unfold Builtin.«sorted»
  refine wpAny_bind (m := checkCount "sorted" 1 1 _) (wpAny_pure ?_)
  refine wpAny_bind (wpAny_collect_seq a (.inr rfl) ho hc hd (fun h1 hk => ?_) (by rw [List.size_toArray]; omega))
  have el : its.toArray.toList = its := by simp
  rw [el]
  refine wpAny_bind (wpAny_newList ?_ (by omega))
  have I1 : Inv X pins σ H { s with heap := h1 } := I.kept (t' := s.toks) hk
  have e : PySem.W.EachIs (fun (v : Value) (i : Int) => RelV (.int i) v) its ns := by
    have go : ∀ {is : List Int} {ws : List Value}, Vals (is.map V.int) ws → PySem.W.EachIs (fun (v : Value) (i : Int) => RelV (.int i) v) ws is := by
      intro is
      induction is with
      | nil =>
        intro ws x
        cases x
        exact .nil
      | cons i is ih =>
        intro ws x
        cases x with
        | cons x y => exact .cons x (ih y)
    exact go rv
  have er : PySem.W.EachIs (fun (v : Value) (i : Int) => ∃ as, Reads (h1.push { cls := .type "list", data := .seq its.toArray }) v (PyData.int i) as ∧ h1.objs.size ∉ as) its ns := e.mono fun v i ⟨t, x⟩ => by
    subst x
    exact ⟨[], Reads.int i t, by simp⟩
  have at' : (h1.push { cls := .type "list", data := .seq its.toArray }).get? h1.objs.size = some (seqObj "list" its.toArray 0) := Heap.get?_push_size _ rfl
  refine wpAny_bind (wpAny_holding (PySem.W.list_sort_data (s := { s with heap := h1.push { cls := .type "list", data := .seq its.toArray } }) (enc := PyData.int) at' e er (.of fun b b' => by simp [PySem.W.alike]) (.others fun b => ⟨by simp, by simp⟩) (by omega) (fun b _ => ?_) fun out hl eo => ?_))
  · simp only [PyData.depth]
    show X.A.units + 1 + 1 + 0 < cLine
    omega
  · obtain ⟨ep, he'⟩ := PyProof.Rows.sortedHeap_at (vs := its) (out := out.toArray) at'
    have back : ∀ {is : List Int} {ws : List Value}, PySem.W.EachIs (fun (v : Value) (i : Int) => RelV (.int i) v) ws is → Vals (is.map V.int) ws := by
      intro is
      induction is with
      | nil =>
        intro ws x
        cases x
        exact .nil
      | cons i is ih =>
        intro ws x
        cases x with
        | cons x y => exact .cons x (ih y)
    have hp : (ns.mergeSort (PySem.W.dataLe false PyData.int)).Perm ns := List.mergeSort_perm ..
    have hw : (ns.mergeSort (PySem.W.dataLe false PyData.int)).Pairwise (· ≤ ·) := by
      have z := PySem.W.sort_pairwise (le := PySem.W.dataLe false PyData.int) (PySem.W.sortLe_total _ _ _) ns
      rw [PySem.W.dataLe_int (fun i : Int => i)] at z
      rw [PySem.W.dataLe_int (fun i : Int => i)]
      exact z.imp fun {x y} k => of_decide_eq_true k
    refine wpAny_pure ⟨_, rfl, ?_⟩
    refine ⟨.ref h1.objs.size, upd H h1.objs.size (.lst ((ns.mergeSort (PySem.W.dataLe false PyData.int)).map V.int)), I1.laid (t' := s.toks) (fun b ob z => ?_) (Nat.le_refl _) ⟨?_, out, ep, back eo, he'⟩, rfl, q _ _ hp hw (I1.hok.fresh (Nat.le_refl _))⟩
    · have lt : b < h1.objs.size := Heap.lt_size z
      rw [PyProof.Rows.sortedHeap_old (Nat.ne_of_lt lt) (by rw [size_push']; exact Nat.lt_succ_of_lt lt)]
      exact Heap.get?_push_of_some _ z
    · rw [List.length_map, hp.length_eq]
      exact hz

/-! ### max of a tuple -/
theorem foldl_max : ∀ (ns : List Int) (n : Int), ns.foldl max n ∈ n :: ns ∧ ∀ y ∈ n :: ns, y ≤ ns.foldl max n
  | [], n => ⟨by simp, by simp⟩
  | x :: ns, n => by
    obtain ⟨h1, h2⟩ := foldl_max ns (max n x)
    show ns.foldl max (max n x) ∈ _ ∧ ∀ y ∈ n :: x :: ns, y ≤ ns.foldl max (max n x)
    have h3 := h2 (max n x) (List.mem_cons_self ..)
    refine ⟨?_, fun y hy => ?_⟩
    · rcases List.mem_cons.mp h1 with e | e
      · rw [e]
        rcases (show max n x = n ∨ max n x = x by omega) with e2 | e2
        · rw [e2]; simp
        · rw [e2]; simp
      · exact List.mem_cons_of_mem _ (List.mem_cons_of_mem _ e)
    · rcases List.mem_cons.mp hy with e | e
      · omega
      · rcases List.mem_cons.mp e with e2 | e2
        · omega
        · exact h2 y (List.mem_cons_of_mem _ e2)
def rMaxT (K : PySem.W.Frag) : List V → Hp → VK → Prop := fun vs H Q => ∃ (a : Addr) (ns : List Int), vs = [V.ref a] ∧ SqT K H a (ns.map V.int) ∧ ns ≠ [] ∧ ∀ m, m ∈ ns → (∀ y, y ∈ ns → y ≤ m) → Q (.int m) H
theorem dp_ints {K : PySem.W.Frag} {H : Hp} : ∀ ns : List Int, DpAll K H (ns.map V.int) (ns.map PyData.int)
  | [] => .nil
  | n :: ns => .cons (.int n) (dp_ints ns)
theorem dp_bls {K : PySem.W.Frag} {H : Hp} : ∀ ns : List Bool, DpAll K H (ns.map V.bl) (ns.map PyData.bool)
  | [] => .nil
  | n :: ns => .cons (.bl n) (dp_bls ns)
theorem cr_maxT (hc : X.calm = true) (hu : X.A.units + 64 < cLine) : CallR X (.builtin "max") (rMaxT X.K) := by
  intro pins s σ H vs us Q I r h
  obtain ⟨a, ns, rfl, hs, hne, q⟩ := h
  obtain ⟨its, rv, pl, _⟩ := I.tuple hs
  rw [Vals.ref1 r]
  obtain ⟨as, hr⟩ := Dp.readsAll I _ _ its (dp_ints ns) rv
  cases ns with
  | nil => exact absurd rfl hne
  | cons n ns =>
    refine PySem.W.max_tuple_data (x := .int n) (xs := ns.map .int) (as := as) (I.ok.hd hc) pl (by simpa using hr) ?_ ?_ fun i v h' tk bs hv hrd hk => ?_
    · refine ⟨fun d hd d' hd' => ?_, fun d hd e => ?_⟩
      rotate_left
      · subst e
        rcases List.mem_cons.mp hd with e | e
        · cases e
        · obtain ⟨x, _, e⟩ := List.mem_map.mp e
          cases e
      obtain ⟨x, rfl⟩ : ∃ x, d = PyData.int x := by
        rcases List.mem_cons.mp hd with e | e
        · exact ⟨n, e⟩
        · obtain ⟨x, _, e⟩ := List.mem_map.mp e
          exact ⟨x, e.symm⟩
      obtain ⟨y, rfl⟩ : ∃ x, d' = PyData.int x := by
        rcases List.mem_cons.mp hd' with e | e
        · exact ⟨n, e⟩
        · obtain ⟨x, _, e⟩ := List.mem_map.mp e
          exact ⟨x, e.symm⟩
      simp [PySem.W.alike]
    · have e := PySem.W.depth_ints (n :: ns)
      rw [List.map_cons] at e
      rw [e]
      omega
    · rw [PySem.W.maxD_ints] at hrd
      obtain ⟨h1, h2⟩ := foldl_max ns n
      cases hrd with
      | int i t => exact ⟨.int _, H, I.kept hk, ⟨t, rfl⟩, q _ h1 h2⟩

/-! ### repr of a list of two bools -/
def showB (a b : Bool) : Str := (PyData.list [.bool a, .bool b]).shown
theorem cr_reprB (hg : X.A.guards = some []) (hu : X.A.units + 64 < cLine) : CallR X (.builtin "repr") (fun vs H Q => ∃ (l : Addr) (a b : Bool), vs = [V.ref l] ∧ SqL X.K H l [.bl a, .bl b] ∧ Q (.str (showB a b)) H) := by
  intro pins s σ H vs us Q I r h
  obtain ⟨l, a, b, rfl, hs, q⟩ := h
  rw [Vals.ref1 r]
  obtain ⟨as, hr⟩ := Dp.reads I (.list [.bool a, .bool b]) (.ref l) (.ref l) (.lst hs (.cons (.bl a) (.cons (.bl b) .nil))) rfl
  refine repr_of_reads' hr (by simp [PyData.showable, PyData.showableAll]) (fun z => by simp [PyData.hasDict, PyData.hasDictAll] at z) hg (by simp only [PyData.depth, PyData.depthAll]; omega) (fun _ _ e => e)
    (fun h' u tk hk => ⟨.str (showB a b), H, I.kept hk, ⟨u, rfl⟩, q⟩) (by cases a <;> cases b <;> decide +kernel)

/-! ### methods of objects whose own dict is known to be none -/
def tyW (K : PySem.W.Frag) (T : String) (x : V) (H : Hp) : Prop :=
  ∃ p, x = .ref p ∧ ((∃ o u, H p = some (.frz o u) ∧ o.cls = .type T ∧ o.dict = none) ∨ ∃ o, K.lookup p = some o ∧ o.cls = .type T ∧ o.dict = none)
theorem tyW_is {pins : List (Addr × Obj)} {σ : L2.St} {H : Hp} {s : Shared} {T : String} {x : V} {v : Value} (I : Inv X pins σ H s) (r : RelV x v) (ty : tyW X.K T x H) :
    s.TypeIs v T ∧ ∀ a, v = .ref a → ∃ ob, s.heap.get? a = some ob ∧ ob.dict = none := by
  obtain ⟨p, rfl, ty⟩ := ty
  obtain rfl : v = Value.ref p := r
  have z : ∃ o, s.heap.get? p = some o ∧ o.cls = .type T ∧ o.dict = none := by
    rcases ty with ⟨o, u, e, c, d⟩ | ⟨o, e, c, d⟩
    · obtain ⟨e2, _⟩ := I.hok p _ e
      exact ⟨o, e2, c, d⟩
    · exact ⟨o, I.kIn p o e, c, d⟩
  obtain ⟨o, e, c, d⟩ := z
  refine ⟨⟨o, e, c⟩, fun a ea => ?_⟩
  cases ea
  exact ⟨o, e, d⟩
def tBMW (K : PySem.W.Frag) (T : String) (r : V → List V → Hp → VK → Prop) (to : TE) (t : TA) : TE := fun σ H Q => to σ H fun x H1 => tyW K T x H1 ∧ t σ H1 fun xs H2 => r x xs H2 Q
theorem pe_bmW {o e : Expr} {es : List Expr} {to : TE} {t : TA} {name : Str} {apos cpos : Pos} {T id : String} {r : V → List V → Hp → VK → Prop} (pa : PlainAttrs T) (slot : Slot T name id) (hty : typeOf (.builtin id) = pure (.type "method_descriptor")) (hm : MtR X id r) (ho : PE X o to) (ha : PA X (e :: es) t)
    (hb : attributeBase o name X.env (eval o X.env) = eval o X.env := by rfl)
    (hf : ((backTo cpos (starEach (e :: es) X.env)).all (fun x => !x.1) && (backToKw cpos (keywordEach [] X.env)).all (fun x => x.1.isSome)
      && decide ((e :: es).length + ([] : List Keyword).length + (if ([] : List Keyword).isEmpty then 0 else 1) < 30)) = true := by rfl)
    (hl : (apos.endLine == cpos.line) = true := by rfl) (hs : starEach (e :: es) X.env = (false, eval e X.env) :: starEach es X.env := by rfl) (hp : (backTo cpos (starEach es X.env)).any (·.1) = false := by rfl) :
    PE X (.Call (.Attribute o name apos) (e :: es) [] cpos) (tBMW X.K T r to t) := by
  constructor
  intro pins s σ H Q I h
  refine wpAny_Call_method_late hb hf hl rfl (thn (ho.run pins s σ H _ I h) fun v s1 ev => ?_)
  obtain ⟨x, H1, I1, r1, ty, q1⟩ := ev
  obtain ⟨z1, z2⟩ := tyW_is I1 r1 ty
  refine ⟨T, id, pa, slot, hty, z1, z2, ?_⟩
  have go := ha.run cpos pins s1 σ H1 _ I1 q1
  rw [hs] at go ⊢
  refine Calls.callWith_builtin (by show (false || (backTo cpos (starEach es X.env)).any (·.1)) = false; rw [hp]; rfl) (Calls.evalArgs_plain (thn go fun us s2 ev2 => ?_))
  obtain ⟨vs, H2, I2, r2, q2⟩ := ev2
  exact hm pins s2 σ H2 x vs v us Q I2 r1 r2 q2
/-- t.index(k), k in t -/
theorem mt_tupIx : MtR X "tuple.index" (fun x xs H Q => ∃ (p : Addr) (ns : List Int) (k : Int), x = .ref p ∧ xs = [.int k] ∧ SqT X.K H p (ns.map V.int) ∧ k ∈ ns ∧ Q (.int (ns.idxOf k : Nat)) H) := by
  intro pins s σ H x xs v us Q I rx rs h
  obtain ⟨p, ns, k, rfl, rfl, hq, hk, q⟩ := h
  obtain rfl : v = Value.ref p := rx
  obtain ⟨u, rfl, t, rfl⟩ := vals1 rs
  obtain ⟨its, r, pl, _⟩ := I.tuple hq
  exact PySem.SeqAt.tuple_index_ints pl r.ints hk ⟨.int _, H, I.tok _, ⟨_, rfl⟩, q⟩
/-- d.get(k, x), d a written dict, k in it -/
theorem mt_getK : MtR X "dict.get" (fun x xs H Q => ∃ (p : Addr) (z : Str) (d v : V), x = .ref p ∧ xs = [.str z, d] ∧ (p == sysModules) = false ∧ KDct X.K X.w p z v ∧ Q v H) := by
  intro pins s σ H x xs v us Q I rx rs h
  obtain ⟨p, z, d, y, rfl, rfl, low, ⟨es, n, u0, hl, hk, e, ru⟩, q⟩ := h
  obtain rfl : v = Value.ref p := rx
  obtain ⟨u1, u2, rfl, ⟨t, rfl⟩, r2⟩ := vals2 rs
  have hm := PySem.W.mapOf_K (prog := X.prog) (w := X.w) I.kIn hl hk
  refine call_meetsIn PySem.F.slot_dict_get hm.typeIs PySem.F.entry_dict_get (PySem.F.args_dict_get_3 _ _ _) (meets_dict_get_default (strKind X.prog X.w) p (strKind_is X.prog X.w z t) low u2) ⟨_, hm, ?_⟩
  rw [PySem.W.find_K hl e]
  exact ⟨y, H, I.tok _, ru, q⟩
/-- tuple(xs), xs a list: the new tuple's own object is known -/
theorem call_tupleZ : CallR X (.type "tuple") (fun xs H Q => ∃ (p : Addr) (ys : List V), xs = [.ref p] ∧ SqL X.K H p ys ∧ ∀ l o, o.cls = .type "tuple" → o.dict = none → H l = none → Q (.ref l) (upd H l (.frz o (.tup ys)))) := by
  intro pins s σ H xs us Q I r h
  obtain ⟨p, ys, rfl, hq, q⟩ := h
  obtain ⟨u, rfl, rx⟩ := vals1 r
  obtain rfl : u = Value.ref p := rx
  obtain ⟨its, r', pl, hz⟩ := I.list hq
  have hlen := r'.length
  refine call_tuple_list pl.isList (fun h1 kp => ?_) (by rw [List.size_toArray]; omega)
  have I1 : Inv X pins σ H { s with heap := h1 } := I.kept (t' := s.toks) kp
  have I2 : Inv X pins σ (upd H h1.objs.size (.frz { cls := .type "tuple", data := .seq its.toArray } (.tup ys))) { s with heap := h1.push { cls := .type "tuple", data := .seq its.toArray } } :=
    I1.laid (t' := s.toks) (fun b o e => Heap.get?_push_of_some _ e) (Nat.le_refl _) ⟨Heap.get?_push_size _ rfl, hz, its, r', IsTup.new _ _⟩
  exact ⟨.ref h1.objs.size, _, I2, rfl, q _ _ rfl rfl (I1.hok.fresh (Nat.le_refl _))⟩

/-! ### a call by keywords alone -/
def tCallK0 (sp : Sp) (gV : List V → List V) (E : XK) (tk : TA) : TE := fun σ H Q => tk σ H fun zs H1 => sp (gV zs) H1 Q E
theorem pe_callK0 {CX : CXT} {k : Nat} {f : Addr} {fd : FuncData} {ps ks : List Str} {sp : Sp} {E : XK} {x : Str} {p pos : Pos} {kws : List Keyword} {tk : TA} {g : List Value → List Value → List Value} {gV : List V → List V → List V} (F : FnOk X.prog X.w X.K X.mg X.base CX k f fd ps sp) (hr : Room k X.A) (hg : Gl X x) (hm : X.mg x = some (.ref f))
    (hk : PySem.W.keepIn X.K (.ref f) = true) (hb : KBinds X.K fd ps ks g gV) (hx : Passes CX X E) (hkw : PK X kws tk) (ha : (backToKw pos (keywordEach kws X.env)).all (·.1.isSome) = true := by rfl) (hks : (backToKw pos (keywordEach kws X.env)).filterMap (·.1) = ks := by rfl)
    (hdb : (x == ("__debug__" : Str)) = false := by decide) (hpl : ((backTo pos (starEach [] X.env)).any (·.1) || (backToKw pos (keywordEach kws X.env)).any (·.1.isNone)) = false := by rfl) :
    PE X (.Call (.Name x p) [] kws pos) (tCallK0 sp (gV []) E tk) := by
  constructor
  intro pins s σ H Q I h
  refine wpAny_Call_Name_kw (ld_glob I hg hm ?_ hdb)
  refine PySem.W.callWith_KW0 (h₀ := X.base) I.ok.mod.kin hk ha (thn (hkw.run pos pins s σ H _ I h) fun ws s2 ev => ?_) hpl
  obtain ⟨zs, H2, I2, rz, q2⟩ := ev
  refine ⟨I2.kIn, ?_⟩
  rw [hks]
  exact run_fnk (us := []) (vs := []) F hr hb hx I2 .nil rz q2
end
end K67

/-! The text, what the top leaves, the small defs of the program. -/
namespace K67
open PySem PySem.Spec PyProof.Rows L2
abbrev St := L2.St

/-! ### the text -/
def topS (i : Nat) : Stmt := PySem.Challenge.pw_endorders_k67_whole_texts_shown_judged.main.body.getD i (.Pass ⟨0, 0, 0, 0⟩)

/-- a def of the module, under its name -/
def Df (K : PySem.W.Frag) (mg : Str → Option Value) (x : Str) (i : Nat) (ps : List Str) : Prop := ∃ (f : Addr) (fd : FuncData), L2.Fun K x x (topS i) f fd ∧ mg x = some (.ref f) ∧ Binds K fd ps []
abbrev Cal := C8.Cal
section
variable {P : Program} {w : World} {K : PySem.W.Frag} {mg : Str → Option Value} {base : Heap}
/-- a def's promise, by its body -/
theorem cal {x : Str} {i k : Nat} {N ps : List Str} {sp : Sp} (d : Df K mg x i ps) (S : FnScope N ps (defScope (topS i))) (len : ∀ vs H Q E, sp vs H Q E → vs.length = ps.length)
    (body : ∀ (f : Addr) (cdv : Value) (A : Around) (outer : List Env) (s : Shared) (H : Hp) (vs : List V) (Q : VK) (E : XK), Room k (A.deeper (envOfC x (defScope (topS i)) s.heap.objs.size f cdv)) → sp vs H Q E →
      ∃ t, PSs (cxOf CX0 P w K mg base N x (defScope (topS i)) f cdv A outer s H E).nox (defBody (topS i)) t ∧ t { nx := fun _ H' => Q .non H', rt := Q } (start N vs) H) : Cal P w K mg base (k + 1) x sp [] := by
  obtain ⟨f, fd, F, g, b⟩ := d
  exact ⟨f, fd, ps, [], F.ok S len (body f), g, F.kp, b, .nil⟩
end

/-! ### what stands behind the top -/
structure Tp (w : World) (K : PySem.W.Frag) (mg : Str → Option Value) : Prop where
  b_isinstance : mg "isinstance" = none
  b_int : mg "int" = none
  b_bool : mg "bool" = none
  b_str : mg "str" = none
  b_tuple : mg "tuple" = none
  b_list : mg "list" = none
  b_len : mg "len" = none
  b_all : mg "all" = none
  b_any : mg "any" = none
  b_sorted : mg "sorted" = none
  b_range : mg "range" = none
  b_enumerate : mg "enumerate" = none
  b_max : mg "max" = none
  b_min : mg "min" = none
  b_abs : mg "abs" = none
  b_divmod : mg "divmod" = none
  b_repr : mg "repr" = none
  MOST_LETTER : ∃ u, mg "MOST_LETTER" = some u ∧ RelV (.int 1000000000000000000) u
  MOST_PLACES : ∃ u, mg "MOST_PLACES" = some u ∧ RelV (.int 60) u
  MOST : ∃ u, mg "MOST" = some u ∧ RelV (.int 60) u
  GREATEST : ∃ u, mg "GREATEST" = some u ∧ RelV (.int 1000000000000000000) u
  MARK : ∃ u, mg "MARK" = some u ∧ RelV (.int (-1)) u
  SORTS : ∃ a, mg "SORTS" = some (.ref a) ∧ ∀ H, SqT K H a [.str "first", .str "last", .str "ring"]
  SIZES : ∃ a, mg "SIZES" = some (.ref a) ∧ (∃ o, K.lookup a = some o ∧ o.cls = .type "dict" ∧ o.dict = none) ∧ (a == sysModules) = false ∧ KDct K w a "order" (.int 4)
  is_integer : Df K mg "is_integer" 3 ["value"]
  is_between : Df K mg "is_between" 4 ["value", "low", "high"]
  is_letter : Df K mg "is_letter" 5 ["value"]
  is_text : Df K mg "is_text" 6 ["value"]
  is_order : Df K mg "is_order" 13 ["value"]
  all_ends : Df K mg "all_ends" 14 ["text", "sort"]
  places_of : Df K mg "places_of" 15 ["text", "sort"]
  has_places : Df K mg "has_places" 27 ["certificate", "places", "sort"]
  accepts_order : Df K mg "accepts_order" 28 ["claim", "certificate"]
  accepts : Df K mg "accepts" 31 ["claim", "certificate"]
  jug : Df K mg "_law_jug" 33 ["_law_cells", "_law_turn"]
  swig : Df K mg "_law_swig" 34 ["_law_jug_here", "_law_top"]
  one : Df K mg "_law_one" 35 ["_law_jug_here", "_law_things"]
  shuffled : Df K mg "_law_shuffled" 36 ["_law_jug_here", "_law_things"]
  sorts : Df K mg "_law_sorts" 37 []
  line : Df K mg "_law_line" 38 ["_law_jug_here", "_law_most", "_law_top"]
  ends : Df K mg "_law_ends" 39 ["_law_line_here", "_law_sort"]
  spots : Df K mg "_law_spots" 40 ["_law_line_here", "_law_sort"]
  after : Df K mg "_law_after" 41 ["_law_spots_here", "_law_sort"]
  steep : Df K mg "_law_steep" 42 ["_law_spots_here", "_law_sort"]
  least : Df K mg "_law_least" 43 ["_law_spots_here", "_law_sort"]
  higher : Df K mg "_law_higher" 44 ["_law_jug_here", "_law_spots_here", "_law_sort"]
  drawn_spots : Df K mg "_law_drawn_spots" 45 ["_law_jug_here", "_law_most"]
  candidate : Df K mg "_law_candidate" 46 ["_law_jug_here", "_law_spots_here", "_law_sort"]
  right : Df K mg "_law_right" 47 ["_law_jug_here"]

/-! ### heaps -/
/-- all that was tracked but j is as it was -/
def But (j : Addr) (H H' : Hp) : Prop := ∀ b o, b ≠ j → H b = some o → H' b = some o
theorem But.refl (j : Addr) (H : Hp) : But j H H := fun _ _ _ h => h
theorem But.trans {j : Addr} {H H1 H2 : Hp} (a : But j H H1) (b : But j H1 H2) : But j H H2 := fun c o n h => b c o n (a c o n h)
theorem _root_.L2.Same.but {j : Addr} {H H' : Hp} (a : Same H H') : But j H H' := fun c o _ h => a c o h
theorem same_new {H : Hp} {p : Addr} {o : HO} (h : H p = none) : Same H (upd H p o) := fun b x e => by
  rw [upd_ne (ne_of_none e h)]
  exact e
theorem same_newer {H0 H : Hp} {p : Addr} {o : HO} (e : Same H0 H) (h : H p = none) : Same H0 (upd H p o) := e.trans (same_new h)
theorem same_at {H0 H : Hp} {p : Addr} {o : HO} (e : Same H0 H) (h : H0 p = none) : Same H0 (upd H p o) := fun b x k => by
  rw [upd_ne (ne_of_none k h)]
  exact e b x k
theorem _root_.L2.Same.seqT {K : PySem.W.Frag} {H H' : Hp} {a : Addr} {xs : List V} (e : Same H H') (h : SqT K H a xs) : SqT K H' a xs := by
  rcases h with (h | ⟨o, h⟩) | h
  · exact .inl (.inl (e _ _ h))
  · exact .inl (.inr ⟨o, e _ _ h⟩)
  · exact .inr h
/-- a jug: two numbers -/
def Jug (H : Hp) (j : Addr) : Prop := ∃ a b : Int, H j = some (.lst [.int a, .int b]) ∧ 0 ≤ a ∧ 0 ≤ b ∧ b < 2147482949
theorem Jug.same {H H' : Hp} {j : Addr} (h : Jug H j) (e : Same H H') : Jug H' j := by
  obtain ⟨a, b, h, q⟩ := h
  exact ⟨a, b, e _ _ h, q⟩
theorem Jug.some {H : Hp} {j : Addr} (h : Jug H j) : H j ≠ none := by
  obtain ⟨a, b, h, q⟩ := h
  rw [h]
  simp
theorem But.seq {K : PySem.W.Frag} {H H' : Hp} {j a : Addr} {xs : List V} (e : But j H H') (n : a ≠ j) (h : SqL K H a xs) : SqL K H' a xs := by
  rcases h with (h | ⟨o, h⟩) | h
  · exact .inl (.inl (e _ _ n h))
  · exact .inl (.inr ⟨o, e _ _ n h⟩)
  · exact .inr h
/-- a tuple is never the jug -/
theorem But.seqT {K : PySem.W.Frag} {H H' : Hp} {j a : Addr} {xs : List V} (e : But j H H') (jg : Jug H j) (h : SqT K H a xs) : SqT K H' a xs := by
  obtain ⟨x, y, hj, _⟩ := jg
  rcases h with (h | ⟨o, h⟩) | h
  · exact .inl (.inl (e _ _ (fun z => by rw [z, hj] at h; cases h) h))
  · exact .inl (.inr ⟨o, e _ _ (fun z => by rw [z, hj] at h; cases h) h⟩)
  · exact .inr h
theorem line_le {n : Nat} (h : n ≤ 1000000) : n ≤ sizeLine := by rw [sizeLine_eq]; omega
theorem line_lt {n : Nat} (h : n ≤ 1000000) : n < sizeLine := by rw [sizeLine_eq]; omega

section
variable {P : Program} {w : World} {K : PySem.W.Frag} {mg : Str → Option Value} {base : Heap}

/-! ### is_integer, is_between, is_letter -/
theorem sc3 : FnScope ["value"] ["value"] (defScope (topS 3)) := ⟨rfl, rfl, rfl, by decide +kernel, rfl, by decide +kernel, by decide +kernel⟩
def spInteger : Sp := fun vs H Q _ => ∃ v, vs = [v] ∧ ((∃ i, v = .int i ∧ Q (.bl true) H) ∨ (v = .non ∧ Q (.bl false) H))
theorem ok_is_integer (T : Tp w K mg) : Cal P w K mg base 1 "is_integer" spInteger [] := by
  refine cal T.is_integer sc3 (fun vs H Q E h => ?_) (fun f cdv A outer s H vs Q E hr h => ?_)
  · obtain ⟨v, rfl, _⟩ := h
    rfl
  · obtain ⟨v, rfl, q⟩ := h
    refine ⟨_, pss_one (ps_ret (pe_and (pe_callB call_isi (by rfl) T.b_isinstance (by decide +kernel) (pa_cons (pv 0) (pa_cons (pe_bltn (v := .ty "int") (by rfl) T.b_int (by decide +kernel) rfl) pa_nil)))
      (pe_one (pe_not (pe_callB call_isi (by rfl) T.b_isinstance (by decide +kernel) (pa_cons (pv 0) (pa_cons (pe_bltn (v := .ty "bool") (by rfl) T.b_bool (by decide +kernel) rfl) pa_nil))))))), ?_⟩
    rcases q with ⟨i, rfl, q⟩ | ⟨rfl, q⟩
    · refine ⟨.int i, rfl, .int i, .ty "int", _, _, true, rfl, .ty "int", .base (.int i), kit_ty (by decide +kernel), true, rfl, iteT ?_⟩
      exact ⟨.int i, rfl, .int i, .ty "bool", _, _, false, rfl, .ty "bool", .base (.int i), kit_ty (by decide +kernel), false, rfl, q⟩
    · exact ⟨.non, rfl, .non, .ty "int", _, _, false, rfl, .ty "int", .base .non, kit_ty (by decide +kernel), false, rfl, iteF q⟩

theorem sc4 : FnScope ["value", "low", "high"] ["value", "low", "high"] (defScope (topS 4)) := ⟨rfl, rfl, rfl, by decide +kernel, rfl, by decide +kernel, by decide +kernel⟩
def spBetween : Sp := fun vs H Q _ => ∃ v lo hi, vs = [v, .int lo, .int hi] ∧ ((∃ i, v = .int i ∧ Q (.bl (decide (lo ≤ i ∧ i ≤ hi))) H) ∨ (v = .non ∧ Q (.bl false) H))
theorem ok_is_between (T : Tp w K mg) : Cal P w K mg base 2 "is_between" spBetween [] := by
  refine cal T.is_between sc4 (fun vs H Q E h => ?_) (fun f cdv A outer s H vs Q E hr h => ?_)
  · obtain ⟨v, lo, hi, rfl, _⟩ := h
    rfl
  · obtain ⟨v, lo, hi, rfl, q⟩ := h
    refine ⟨_, pss_one (ps_ret (pe_and (C8.pe_c (ok_is_integer T) hr (by decide) (by rfl) (pa_cons (pv 0) pa_nil)) (pe_one (pe_chain op_le op_le (pv 1) (pv 0) (pv 2))))), ?_⟩
    rcases q with ⟨i, rfl, q⟩ | ⟨rfl, q⟩
    · refine ⟨.int i, rfl, .int i, rfl, .inl ⟨i, rfl, true, rfl, iteT ?_⟩⟩
      refine ⟨.int lo, rfl, .int i, rfl, lo, i, rfl, rfl, _, rfl, ite2 (fun e => ?_) (fun e => ?_)⟩
      · have e' : lo ≤ i := of_decide_eq_true e
        refine ⟨.int hi, rfl, i, hi, rfl, rfl, ?_⟩
        have z : decide (lo ≤ i ∧ i ≤ hi) = decide (i ≤ hi) := by
          rw [decide_eq_decide]
          exact ⟨fun h => h.2, fun h => ⟨e', h⟩⟩
        rw [z] at q
        exact q
      · have e' : ¬ lo ≤ i := fun h => e (decide_eq_true h)
        have z : decide (lo ≤ i ∧ i ≤ hi) = false := decide_eq_false fun h => e' h.1
        rw [z] at q
        exact q
    · exact ⟨.non, rfl, .non, rfl, .inr ⟨rfl, false, rfl, iteF q⟩⟩

theorem sc5 : FnScope ["value"] ["value"] (defScope (topS 5)) := ⟨rfl, rfl, rfl, by decide +kernel, rfl, by decide +kernel, by decide +kernel⟩
/-- a letter -/
def ltr : V → Bool
  | .int i => decide (0 ≤ i ∧ i ≤ 1000000000000000000)
  | _ => false
def flatI : V → Prop
  | .int _ => True
  | .non => True
  | _ => False
def spLetter : Sp := fun vs H Q _ => ∃ v, vs = [v] ∧ flatI v ∧ Q (.bl (ltr v)) H
theorem ok_is_letter (T : Tp w K mg) : Cal P w K mg base 3 "is_letter" spLetter [] := by
  refine cal T.is_letter sc5 (fun vs H Q E h => ?_) (fun f cdv A outer s H vs Q E hr h => ?_)
  · obtain ⟨v, rfl, _⟩ := h
    rfl
  · obtain ⟨v, rfl, hf, q⟩ := h
    refine ⟨_, pss_one (ps_ret (C8.pe_c (ok_is_between T) hr (by decide) (by rfl) (pa_cons (pv 0) (pa_cons pe_int (pa_cons (C8.pe_gc (by rfl) T.MOST_LETTER) pa_nil))))), ?_⟩
    refine ⟨v, rfl, v, 0, 1000000000000000000, rfl, ?_⟩
    cases v with
    | int i => exact .inl ⟨i, rfl, q⟩
    | non => exact .inr ⟨rfl, q⟩
    | _ => exact hf.elim
end
end K67

/-! The program's defs: is_text, is_order. -/
namespace K67
open PySem PySem.Spec PyProof.Rows L2

theorem take_snoc {α β : Type} {xs : List α} {i : Nat} {x : α} (f : α → β) (h : xs[i]? = some x) : (xs.take i).map f ++ [f x] = (xs.take (i + 1)).map f := by
  rw [List.take_add_one, h, List.map_append]
  rfl
theorem take_all {α : Type} {xs : List α} {n : Nat} (h : xs.length ≤ n) : xs.take n = xs := List.take_of_length_le h
theorem len_take {α β : Type} {xs : List α} {n b : Nat} (f : α → β) (h : xs.length ≤ b) : ((xs.take n).map f).length ≤ b := by
  rw [List.length_map, List.length_take]
  omega
theorem tyX_tup {K : PySem.W.Frag} {H : Hp} {a : Addr} {xs : List V} (h : SqT K H a xs) : TyX K H (.ref a) (.type "tuple") := by
  rcases h with (h | ⟨o, h⟩) | ⟨o, its, n, hk, hc, _⟩
  · exact .base (.tup h)
  · exact .fTuple h
  · exact .kTuple hk hc
theorem tyX_lst {K : PySem.W.Frag} {H : Hp} {a : Addr} {xs : List V} (h : H a = some (.lst xs)) : TyX K H (.ref a) (.type "list") := .base (.lst h)
theorem all_bl (xs : List V) (f : V → Bool) : (xs.map fun v => V.bl (f v)) = (xs.map f).map V.bl := by rw [List.map_map]; rfl
theorem all_id {α : Type} (xs : List α) (f : α → Bool) : (xs.map f).all id = xs.all f := by rw [List.all_map]; rfl
theorem rgV_rng (n : Nat) : rgV 0 (n : Int) = (rng n).map V.int := by
  unfold rgV rng
  rw [List.map_map, show ((n : Int) - 0).toNat = n by omega]
  refine List.map_congr_left fun i _ => ?_
  show V.int (0 + (i : Int)) = V.int (i : Int)
  rw [Int.zero_add]

section
variable {P : Program} {w : World} {K : PySem.W.Frag} {mg : Str → Option Value} {base : Heap}

theorem sc6 : FnScope ["value", "letter"] ["value"] (defScope (topS 6)) := ⟨rfl, rfl, rfl, by decide +kernel, rfl, by decide +kernel, by decide +kernel⟩
def spText (K : PySem.W.Frag) : Sp := fun vs H Q _ => ∃ a, vs = [.ref a] ∧
  ((∃ xs, H a = some (.lst xs) ∧ Q (.bl false) H) ∨
    ∃ xs, SqT K H a xs ∧ 1 ≤ xs.length ∧ xs.length ≤ 60 ∧ (∀ x ∈ xs, flatI x) ∧ ∀ H', Same H H' → Q (.bl (xs.all ltr)) H')
theorem ok_is_text (T : Tp w K mg) : Cal P w K mg base 4 "is_text" (spText K) [] := by
  refine cal T.is_text sc6 (fun vs H Q E h => ?_) (fun f cdv A outer s H vs Q E hr h => ?_)
  · obtain ⟨a, rfl, _⟩ := h
    rfl
  · obtain ⟨a, rfl, q⟩ := h
    refine ⟨_, pss_cons (ps_if (PW.pt (pw_or (pt_not (pt_val (pe_callB call_isi (by rfl) T.b_isinstance (by decide +kernel) (pa_cons (pv 0) (pa_cons (pe_bltn (v := .ty "tuple") (by rfl) T.b_tuple (by decide +kernel) rfl) pa_nil)))))
        (pw_or1 (pt_not (pt_chain op_le op_le pe_int (pe_callB call_len_seq (by rfl) T.b_len (by decide +kernel) (pa_cons (pv 0) pa_nil)) (C8.pe_gc (by rfl) T.MOST_PLACES))))))
        (pss_one (ps_ret pe_bl)) pss_nil)
      (pss_one (ps_ret (pe_callB (cr_all rfl) (by rfl) T.b_all (by decide +kernel) (pa_cons
        (pe_lc (own := [("letter", 1)]) (g := gName 1) (tt := tYes) rfl sc6.nd (pi_tup (pv 0)) (blkOk_by (N := ["value", "letter"]) (sc := defScope (topS 6)) (by decide +kernel))
          (fun _ _ _ _ _ => pg_name (i := 1) sc6.nd rfl (Or.inl rfl)) (fun _ _ _ _ _ => pts_nil) (fun _ _ _ _ _ => C8.pe_c (ok_is_letter T) hr (by decide) (by rfl) (pa_cons (pv 1) pa_nil))) pa_nil)))), ?_⟩
    rcases q with ⟨xs, hl, q⟩ | ⟨xs, hS, h1, h60, hf, q⟩
    · refine ⟨.ref a, rfl, .ref a, .ty "tuple", _, _, false, rfl, .ty "tuple", tyX_lst hl, kit_ty (by decide +kernel), false, rfl, iteT ?_⟩
      exact iteT q
    · refine ⟨.ref a, rfl, .ref a, .ty "tuple", _, _, true, rfl, .ty "tuple", tyX_tup hS, kit_ty (by decide +kernel), true, rfl, iteF ?_⟩
      refine ⟨.ref a, rfl, a, xs, rfl, .inr hS, 1, _, rfl, rfl, true, ?_, iteT ⟨_, 60, rfl, rfl, true, ?_, iteF ?_⟩⟩
      · exact congrArg V.bl (decide_eq_true (by omega))
      · exact congrArg V.bl (decide_eq_true (by omega))
      refine ⟨.ref a, rfl, a, rfl, ⟨xs, hS⟩, fun D nD => lc_tup (xs := xs) (fun i H' => Same H H' ∧ H' D = some (.lst ((xs.take i).map fun v => .bl (ltr v)))) ⟨same_new nD, upd_same⟩ (fun i H' _ p => p.1.seqT hS) (fun i x H' hx p => ?_) fun H' p => ?_⟩
      · obtain ⟨e, hD⟩ := p
        refine ⟨rfl, x, rfl, x, rfl, hf x (List.mem_of_getElem? hx), _, hD, line_lt (Nat.le_trans (len_take _ h60) (by omega)), same_at e nD, ?_⟩
        rw [upd_same, take_snoc _ hx]
      · obtain ⟨e, hD⟩ := p
        rw [take_all (Nat.le_refl _), all_bl] at hD
        refine ⟨D, _, rfl, SqL.of hD, ?_⟩
        rw [all_id]
        exact q H' e

theorem sc13 : FnScope ["value", "one"] ["value"] (defScope (topS 13)) := ⟨rfl, rfl, rfl, by decide +kernel, rfl, by decide +kernel, by decide +kernel⟩
def spOrder (K : PySem.W.Frag) : Sp := fun vs H Q _ => ∃ (a : Addr) (ms : List Int) (n : Nat), vs = [.ref a] ∧ SqT K H a (ms.map V.int) ∧ ms.Perm (rng n) ∧ 1 ≤ n ∧ n ≤ 60 ∧ ∀ H', Same H H' → Q (.bl true) H'
theorem ok_is_order (T : Tp w K mg) : Cal P w K mg base 2 "is_order" (spOrder K) [] := by
  refine cal T.is_order sc13 (fun vs H Q E h => ?_) (fun f cdv A outer s H vs Q E hr h => ?_)
  · obtain ⟨a, ms, n, rfl, _⟩ := h
    rfl
  · obtain ⟨a, ms, n, rfl, hS, hp, h1, h60, q⟩ := h
    have hlen : ms.length = n := by rw [hp.length_eq, rng_length]
    have hlenV : (ms.map V.int).length = n := by rw [List.length_map, hlen]
    refine ⟨_, pss_cons (ps_if (PW.pt (pw_or (pt_not (pt_val (pe_callB call_isi (by rfl) T.b_isinstance (by decide +kernel) (pa_cons (pv 0) (pa_cons (pe_bltn (v := .ty "tuple") (by rfl) T.b_tuple (by decide +kernel) rfl) pa_nil)))))
        (pw_or (pt_not (pt_chain op_le op_le pe_int (pe_callB call_len_seq (by rfl) T.b_len (by decide +kernel) (pa_cons (pv 0) pa_nil)) (C8.pe_gc (by rfl) T.MOST)))
        (pw_or1 (pt_not (pt_val (pe_callB (cr_all rfl) (by rfl) T.b_all (by decide +kernel) (pa_cons
          (pe_lc (own := [("one", 1)]) (g := gName 1) (tt := tYes) rfl sc13.nd (pi_tup (pv 0)) (blkOk_by (N := ["value", "one"]) (sc := defScope (topS 13)) (by decide +kernel))
            (fun _ _ _ _ _ => pg_name (i := 1) sc13.nd rfl (Or.inl rfl)) (fun _ _ _ _ _ => pts_nil) (fun _ _ _ _ _ => C8.pe_c (ok_is_integer T) hr (by decide) (by rfl) (pa_cons (pv 1) pa_nil))) pa_nil))))))))
        (pss_one (ps_ret pe_bl)) pss_nil)
      (pss_one (ps_ret (pe_cmpR (op_eqD hr.units) (pe_callB (cr_sortedTI hr.units) (by rfl) T.b_sorted (by decide +kernel) (pa_cons (pv 0) pa_nil))
        (pe_listRg rfl (by rfl) T.b_list (prg_1 (by rfl) T.b_range (pe_callB call_len_seq (by rfl) T.b_len (by decide +kernel) (pa_cons (pv 0) pa_nil)))) (nomark _)))), ?_⟩
    refine ⟨.ref a, rfl, .ref a, .ty "tuple", _, _, true, rfl, .ty "tuple", tyX_tup hS, kit_ty (by decide +kernel), true, rfl, iteF ?_⟩
    refine ⟨.ref a, rfl, a, _, rfl, .inr hS, 1, _, rfl, rfl, true, ?_, iteT ⟨_, 60, rfl, rfl, true, ?_, iteF ?_⟩⟩
    · exact congrArg V.bl (decide_eq_true (by omega))
    · exact congrArg V.bl (decide_eq_true (by omega))
    refine ⟨.ref a, rfl, a, rfl, ⟨_, hS⟩, fun D nD => lc_tup (xs := ms.map V.int) (fun i H' => Same H H' ∧ H' D = some (.lst (((ms.map V.int).take i).map fun v => .bl true))) ⟨same_new nD, upd_same⟩ (fun i H' _ p => p.1.seqT hS) (fun i x H' hx p => ?_) fun H' p => ?_⟩
    · obtain ⟨e, hD⟩ := p
      obtain ⟨k, _, rfl⟩ := List.mem_map.mp (List.mem_of_getElem? hx)
      refine ⟨rfl, .int k, rfl, .int k, rfl, .inl ⟨k, rfl, _, hD, line_lt (Nat.le_trans (len_take _ (Nat.le_of_eq hlenV)) (by omega)), same_at e nD, ?_⟩⟩
      rw [upd_same, take_snoc (fun _ => V.bl true) hx]
    · obtain ⟨e, hD⟩ := p
      rw [take_all (Nat.le_refl _), all_bl] at hD
      refine ⟨D, _, rfl, SqL.of hD, ?_⟩
      rw [all_id, List.all_eq_true.mpr fun _ _ => rfl]
      refine ⟨true, rfl, iteF ?_⟩
      have hS1 := e.seqT hS
      refine ⟨.ref a, rfl, a, ms, rfl, hS1, fun ns' p hp' hw np => ?_⟩
      have hn : ns' = rng n := sorted_rng (hp'.trans hp) hw
      subst hn
      have hS2 := (same_new (o := .lst ((rng n).map V.int)) np).seqT hS1
      refine ⟨.ref a, rfl, a, _, rfl, .inr hS2, _, rfl, RgOk.of_le (by omega) (by omega) (by omega) (by omega), fun r nr => ?_⟩
      have e2 := same_newer (o := .lst (rgV 0 (((ms.map V.int).length : Nat) : Int))) (same_newer (o := .lst ((rng n).map V.int)) e np) nr
      rw [hlenV] at e2 ⊢
      have npr : p ≠ r := fun z => by
        rw [← z, upd_same] at nr
        cases nr
      refine ⟨.list ((rng n).map .int), .list ((rng n).map .int), .lst (SqL.of (by rw [upd_ne npr]; exact upd_same)) (dp_ints _), .lst (SqL.of (by rw [upd_same, rgV_rng])) (dp_ints _), PySem.W.ke_shaped_ints _, PySem.W.ke_shaped_ints _, ?_⟩
      rw [eqv_ints, decide_eq_true rfl]
      exact q _ e2
end
end K67

/-! The ends of a text, in the program and in the law. -/
namespace K67
open PySem PySem.Spec PyProof.Rows L2

/-! ### slices of tuples, whichever way -/
def rSlG (K : PySem.W.Frag) : V → Option Int → Option Int → Hp → VK → Prop := fun x lo hi H Q => ∃ (a : Addr) (xs : List V), x = .ref a ∧ SqT K H a xs ∧ ∀ p H', Same H H' → SqT K H' p (cutV xs lo hi) → Q (.ref p) H'
theorem cut_whole {xs : List V} {lo hi : Option Int} (h : HT.sIx xs.length 0 lo = 0 ∧ HT.sIx xs.length xs.length hi = xs.length) : cutV xs lo hi = xs := by
  unfold cutV
  rw [h.1, h.2, List.drop_zero, Nat.sub_zero]
  exact List.take_length
theorem sl_tupG {X : Cx} : SlR X (rSlG X.K) := by
  intro pins s σ H x v vl vu lo hi sl Q I rx hs pl pu h
  obtain ⟨a, xs, rfl, hx, q⟩ := h
  refine sl_tupA pins s σ H _ v vl vu lo hi sl Q I rx hs pl pu ⟨a, xs, rfl, hx, fun hw => ?_, fun _ p np => q p _ (same_new np) (SqT.of upd_same)⟩
  exact q a H (Same.refl H) (by rw [cut_whole hw]; exact hx)
theorem cut_from {xs : List V} {i : Nat} (h : i ≤ xs.length) : cutV xs (some (i : Int)) none = xs.drop i := by
  unfold cutV
  rw [HT.sIx_nat, HT.sIx_none, Nat.min_eq_left h]
  exact List.take_of_length_le (by rw [List.length_drop]; exact Nat.le_refl _)
theorem cut_to {xs : List V} {i : Nat} (h : i ≤ xs.length) : cutV xs none (some (i : Int)) = xs.take i := by
  unfold cutV
  rw [HT.sIx_nat, HT.sIx_none, Nat.min_eq_left h, List.drop_zero, Nat.sub_zero]

/-! ### the rules with the written part named (for comprehensions) -/
theorem bo_list : bootBuiltins "list" = some (.type "list") := by decide +kernel
theorem bo_tuple : bootBuiltins "tuple" = some (.type "tuple") := by decide +kernel
theorem bo_int : bootBuiltins "int" = some (.type "int") := by decide +kernel
theorem bo_len : bootBuiltins "len" = some (.builtin "len") := by decide +kernel
theorem bo_any : bootBuiltins "any" = some (.builtin "any") := by decide +kernel
theorem bo_all : bootBuiltins "all" = some (.builtin "all") := by decide +kernel
theorem bo_sorted : bootBuiltins "sorted" = some (.builtin "sorted") := by decide +kernel
theorem bo_max : bootBuiltins "max" = some (.builtin "max") := by decide +kernel
theorem bo_min : bootBuiltins "min" = some (.builtin "min") := by decide +kernel
theorem bo_abs : bootBuiltins "abs" = some (.builtin "abs") := by decide +kernel
theorem bo_divmod : bootBuiltins "divmod" = some (.builtin "divmod") := by decide +kernel
theorem bo_repr : bootBuiltins "repr" = some (.builtin "repr") := by decide +kernel
section
variable {X : Cx} {K : PySem.W.Frag}
theorem sl_tupK (hk : X.K = K := by rfl) : SlR X (rSlG K) := by
  subst hk
  exact sl_tupG
def rLstOf (K : PySem.W.Frag) : List V → Hp → VK → Prop := fun xs H Q => ∃ p ys, xs = [.ref p] ∧ (SqL K H p ys ∨ SqT K H p ys) ∧ ∀ l, H l = none → Q (.ref l) (upd H l (.lst ys))
theorem lst_ofK (hk : X.K = K := by rfl) : CallR X (.type "list") (rLstOf K) := by
  subst hk
  exact call_list_of
def rLenOf (K : PySem.W.Frag) : List V → Hp → VK → Prop := fun xs H Q => ∃ p ys, xs = [.ref p] ∧ (SqL K H p ys ∨ SqT K H p ys) ∧ Q (.int ys.length) H
theorem len_ofK (hk : X.K = K := by rfl) : CallR X (.builtin "len") (rLenOf K) := by
  subst hk
  exact call_len_seq
theorem ix_lstK (hk : X.K = K := by rfl) : IxR X (rIxL K) := by
  subst hk
  exact ix_list
theorem ix_tupK (hk : X.K = K := by rfl) : IxR X (rIxT K) := by
  subst hk
  exact ix_tup
theorem op_eqK (hu : X.A.units + 64 < cLine) (hk : X.K = K := by rfl) : OpR X (compareOp .Eq) (rEqD K) := by
  subst hk
  exact op_eqD hu
theorem pg_tupK {pos : Pos} {es : List Expr} {k : Nat} {t : TGs} {n : Nat} (hc : X.calm = true) (h : PGs X es t) (hk : X.K = K := by rfl)
    (hn : (assignEach es X.env).length = n := by rfl) (hst : (assignEach es X.env).findIdx? (·.1) = none := by rfl) : PG X (.Tuple es k pos) (gTup K n t) := by
  subst hk
  exact pg_tup hc h hn hst
end

/-! ### rows on the heap -/
def RowAt (D : Addr) (H : Hp) (a : Addr) (r : List Int) : Prop := a ≠ D ∧ H a = some (.lst (r.map V.int))
theorem RowAt.same {D : Addr} {H H' : Hp} {a : Addr} {r : List Int} (e : Same H H') (h : RowAt D H a r) : RowAt D H' a r := ⟨h.1, e _ _ h.2⟩
theorem rows_same {D : Addr} {H H' : Hp} {as : List Addr} {rs : List (List Int)} (e : Same H H') (h : Paired (RowAt D H) as rs) : Paired (RowAt D H') as rs := L2.Paired.mapP h fun _ _ z => z.same e
theorem rows_upd {D : Addr} {H : Hp} {o : HO} {as : List Addr} {rs : List (List Int)} (h : Paired (RowAt D H) as rs) : Paired (RowAt D (upd H D o)) as rs := L2.Paired.mapP h fun _ _ z => ⟨z.1, by rw [upd_ne z.1]; exact z.2⟩
theorem eq_nm (k k' : Kd) : decide (V.str k.nm = V.str k'.nm) = decide (k = k') := by cases k <;> cases k' <;> decide +kernel
theorem eq_ring (k : Kd) : decide (V.str k.nm = V.str "ring") = decide (k = .ring) := eq_nm k .ring
theorem eq_first (k : Kd) : decide (V.str k.nm = V.str "first") = decide (k = .first) := eq_nm k .first
theorem rows_take {T : Int} {k : Kd} {ns : List Int} {i : Nat} (h : i < ns.length) : (rows T k ns)[i]? = some (rowAt T k ns i) := by
  unfold rows
  rw [List.getElem?_map, List.getElem?_range h]
  rfl
theorem rows_all {T : Int} {k : Kd} {ns : List Int} : (rows T k ns).take ns.length = rows T k ns := take_all (Nat.le_of_eq (rows_length ..))
theorem paired_snoc {D : Addr} {H : Hp} {as : List Addr} {a : Addr} {T : Int} {k : Kd} {ns : List Int} {i : Nat} (h : i < ns.length) (hp : Paired (RowAt D H) as ((rows T k ns).take i)) (ha : RowAt D H a (rowAt T k ns i)) :
    Paired (RowAt D H) (as ++ [a]) ((rows T k ns).take (i + 1)) := by
  rw [List.take_add_one, rows_take h]
  exact hp.snoc ha
theorem paired_len {D : Addr} {H : Hp} {as : List Addr} {T : Int} {k : Kd} {ns : List Int} {i : Nat} (hp : Paired (RowAt D H) as ((rows T k ns).take i)) : as.length ≤ ns.length := by
  have e := Paired.length hp
  rw [List.length_take, rows_length] at e
  omega

section
variable {P : Program} {w : World} {K : PySem.W.Frag} {mg : Str → Option Value} {base : Heap}

theorem sc14 : FnScope ["text", "sort", "tail", "at"] ["text", "sort"] (defScope (topS 14)) := ⟨rfl, rfl, rfl, by decide +kernel, rfl, by decide +kernel, by decide +kernel⟩
/-- the list of the ends, T the mark behind -/
def spEnds (T : Int) (K : PySem.W.Frag) : Sp := fun vs H Q _ => ∃ (l : Addr) (k : Kd) (ns : List Int), vs = [.ref l, .str k.nm] ∧ SqT K H l (ns.map V.int) ∧ ns.length ≤ 60 ∧
  ∀ H' p as, Same H H' → H p = none → H' p = some (.lst (as.map V.ref)) → Paired (RowAt p H') as (rows T k ns) → Q (.ref p) H'
theorem ends_tail {H H1 : Hp} {l t : Addr} {k : Kd} {ns : List Int} {m T0 : Int} {x1 : V} {Q : VK} (e0 : Same H H1) (hS : SqT K H l (ns.map V.int)) (h60 : ns.length ≤ 60) (ht : H1 t = some (.lst [.int m])) (htl : ∀ i, tailAt T0 k ns i = [m])
    (q : ∀ H' p as, Same H H' → H p = none → H' p = some (.lst (as.map V.ref)) → Paired (RowAt p H') as (rows T0 k ns) → Q (.ref p) H') :
    tLc (iRng1 (tCons (tCB (rLenOf K) (tCons (tVar 0) tNil)) tNil)) (gName 3) tYes (tOp rCat (tCB (rLstOf K) (tCons (tSl (rSlG K) (tVar 0) (tPart (tVar 3)) tNoPart) tNil)) (tVar 2)) [3] [some (.ref l), some x1, some (.ref t), none] H1 Q := by
  have hlenV : (ns.map V.int).length = ns.length := List.length_map ..
  refine ⟨.ref l, rfl, l, _, rfl, .inr (e0.seqT hS), _, rfl, by omega, by omega, fun D nD => ?_⟩
  have nD0 : H D = none := e0.free nD
  rw [hlenV, Int.toNat_natCast]
  refine lc_range (lo := 0) (n := ns.length) (fun i H' => ∃ as, Same H1 H' ∧ H' D = some (.lst (as.map V.ref)) ∧ Paired (RowAt D H') as ((rows T0 k ns).take i)) ⟨[], same_new nD, upd_same, .nil⟩ (fun i H' hi p => ?_) fun H' p => ?_
  · obtain ⟨as, e, hD, hp⟩ := p
    rw [Int.zero_add]
    refine ⟨rfl, ?_⟩
    refine ⟨.ref l, rfl, .int i, rfl, i, rfl, l, _, rfl, e.seqT (e0.seqT hS), fun p1 H2 e1 s1 => ?_⟩
    rw [cut_from (by omega)] at s1
    refine ⟨p1, _, rfl, .inr s1, fun l1 n1 => ?_⟩
    have e2 : Same H2 (upd H2 l1 (.lst ((ns.map V.int).drop i))) := same_new n1
    refine ⟨.ref t, rfl, l1, t, _, _, rfl, rfl, upd_same, e2 _ _ (e1 _ _ (e _ _ ht)), line_le (by rw [List.length_drop]; show _ + 1 ≤ _; omega), fun l3 n3 => ?_⟩
    have e5 := e1.trans (e2.trans (same_new (o := .lst ((ns.map V.int).drop i ++ [.int m])) n3))
    have nz : l3 ≠ D := fun z => by
      have := (e1.trans e2) _ _ hD
      rw [z] at n3
      rw [this] at n3
      cases n3
    refine ⟨_, e5 _ _ hD, line_lt (by rw [List.length_map]; have := paired_len hp; omega), as ++ [l3], same_at (e.trans e5) nD, ?_, ?_⟩
    · rw [upd_same, List.map_append]
      rfl
    · refine paired_snoc hi (rows_upd (rows_same e5 hp)) ⟨nz, ?_⟩
      rw [upd_ne nz, upd_same]
      unfold rowAt
      rw [htl, List.map_append, List.map_drop]
      rfl
  · obtain ⟨as, e, hD, hp⟩ := p
    rw [rows_all] at hp
    exact q H' D as (e0.trans e) nD0 hD hp
theorem ok_all_ends (T : Tp w K mg) : Cal P w K mg base 1 "all_ends" (spEnds 1000000000000000001 K) [] := by
  refine cal T.all_ends sc14 (fun vs H Q E h => ?_) (fun f cdv A outer s H vs Q E hr h => ?_)
  · obtain ⟨l, k, ns, rfl, _⟩ := h
    rfl
  · obtain ⟨l, k, ns, rfl, hS, h60, q⟩ := h
    have hlenV : (ns.map V.int).length = ns.length := List.length_map ..
    refine ⟨_, pss_cons (ps_if (pt_cmpR op_eq (pv 1) pe_str (nomark _))
        (pss_one (ps_ret (pe_lc (own := [("at", 3)]) (g := gName 3) (tt := tYes) rfl sc14.nd (pi_range1 (by rfl) T.b_range (pa_cons (pe_callB (len_ofK (K := K)) (by rfl) T.b_len bo_len (pa_cons (pv 0) pa_nil)) pa_nil)) (blkOk_by (N := ["text", "sort", "tail", "at"]) (sc := defScope (topS 14)) (by decide +kernel))
          (fun _ _ _ _ _ => pg_name (i := 3) sc14.nd rfl (Or.inl rfl)) (fun _ _ _ _ _ => pts_nil)
          (fun _ _ _ _ _ => pe_op op_cat (pe_callTy (lst_ofK (K := K)) (by rfl) T.b_list bo_list (pa_cons (pe_slice (sl_tupK (K := K)) (pv 0) (po_some (pv 3)) po_none) pa_nil))
            (pe_callTy (lst_ofK (K := K)) (by rfl) T.b_list bo_list (pa_cons (pe_slice (sl_tupK (K := K)) (pv 0) po_none (po_some (pv 3))) pa_nil)))))) pss_nil)
      (pss_cons (ps_set (i := 2) sc14.nd rfl (.inr rfl) (pe_ifExp (pt_cmpR op_eq (pv 1) pe_str (nomark _)) (pe_lst (pa_cons (C8.pe_gc (by rfl) T.MARK) pa_nil)) (pe_lst (pa_cons (pe_op op_add (C8.pe_gc (by rfl) T.GREATEST) pe_int) pa_nil))))
      (pss_one (ps_ret (pe_lc (own := [("at", 3)]) (g := gName 3) (tt := tYes) rfl sc14.nd (pi_range1 (by rfl) T.b_range (pa_cons (pe_callB (len_ofK (K := K)) (by rfl) T.b_len bo_len (pa_cons (pv 0) pa_nil)) pa_nil)) (blkOk_by (N := ["text", "sort", "tail", "at"]) (sc := defScope (topS 14)) (by decide +kernel))
          (fun _ _ _ _ _ => pg_name (i := 3) sc14.nd rfl (Or.inl rfl)) (fun _ _ _ _ _ => pts_nil)
          (fun _ _ _ _ _ => pe_op op_cat (pe_callTy (lst_ofK (K := K)) (by rfl) T.b_list bo_list (pa_cons (pe_slice (sl_tupK (K := K)) (pv 0) (po_some (pv 3)) po_none) pa_nil)) (pv 2)))))), ?_⟩
    refine ⟨.str k.nm, rfl, rfl, _, rfl, ?_⟩
    rw [eq_ring]
    refine ite2 (fun ek => ?_) (fun ek => ?_)
    · obtain rfl : k = .ring := of_decide_eq_true ek
      refine ⟨.ref l, rfl, l, _, rfl, .inr hS, _, rfl, by omega, by omega, fun D nD => ?_⟩
      rw [hlenV, Int.toNat_natCast]
      refine lc_range (lo := 0) (n := ns.length) (fun i H' => ∃ as, Same H H' ∧ H' D = some (.lst (as.map V.ref)) ∧ Paired (RowAt D H') as ((rows 1000000000000000001 .ring ns).take i)) ⟨[], same_new nD, upd_same, .nil⟩ (fun i H' hi p => ?_) fun H' p => ?_
      · obtain ⟨as, e, hD, hp⟩ := p
        rw [Int.zero_add]
        refine ⟨rfl, ?_⟩
        refine ⟨.ref l, rfl, .int i, rfl, i, rfl, l, _, rfl, e.seqT hS, fun p1 H1 e1 s1 => ?_⟩
        rw [cut_from (by omega)] at s1
        refine ⟨p1, _, rfl, .inr s1, fun l1 n1 => ?_⟩
        have e2 : Same H1 (upd H1 l1 (.lst ((ns.map V.int).drop i))) := same_new n1
        refine ⟨.ref l, rfl, .int i, rfl, i, rfl, l, _, rfl, e2.seqT (e1.seqT (e.seqT hS)), fun p2 H2 e3 s2 => ?_⟩
        rw [cut_to (by omega)] at s2
        refine ⟨p2, _, rfl, .inr s2, fun l2 n2 => ?_⟩
        have e4 : Same H2 (upd H2 l2 (.lst ((ns.map V.int).take i))) := same_new n2
        have hl1 : (upd H2 l2 (.lst ((ns.map V.int).take i))) l1 = some (.lst ((ns.map V.int).drop i)) := e4 _ _ (e3 _ _ upd_same)
        refine ⟨l1, l2, _, _, rfl, rfl, hl1, upd_same, line_le (by rw [List.length_drop, List.length_take]; omega), fun l3 n3 => ?_⟩
        have e5 := e1.trans (e2.trans (e3.trans (e4.trans (same_new (o := .lst ((ns.map V.int).drop i ++ (ns.map V.int).take i)) n3))))
        refine ⟨_, e5 _ _ hD, line_lt (by rw [List.length_map]; have := paired_len hp; omega), as ++ [l3], same_at (e.trans e5) nD, ?_, ?_⟩
        · rw [upd_same, List.map_append]
          rfl
        · refine paired_snoc hi (rows_upd (rows_same e5 hp)) ⟨fun z => ?_, ?_⟩
          · have := (e1.trans (e2.trans (e3.trans e4))) _ _ hD
            rw [z] at n3
            rw [this] at n3
            cases n3
          · have nz : l3 ≠ D := fun z => by
              have := (e1.trans (e2.trans (e3.trans e4))) _ _ hD
              rw [z] at n3
              rw [this] at n3
              cases n3
            rw [upd_ne nz, upd_same]
            unfold rowAt tailAt
            rw [List.map_append, List.map_drop, List.map_take]
      · obtain ⟨as, e, hD, hp⟩ := p
        rw [rows_all] at hp
        exact q H' D as e nD hD hp
    · have hk : k ≠ .ring := fun z => ek (decide_eq_true z)
      refine ⟨.str k.nm, rfl, rfl, _, rfl, ?_⟩
      rw [eq_first]
      refine ite2 (fun ef => ?_) (fun ef => ?_)
      · obtain rfl : k = .first := of_decide_eq_true ef
        refine ⟨line_le (by decide), fun t nt => ?_⟩
        exact ends_tail (same_new nt) hS h60 upd_same (fun _ => rfl) q
      · have hl : k = .last := by
          cases k with
          | first => exact absurd (decide_eq_true rfl) ef
          | last => rfl
          | ring => exact absurd rfl hk
        subst hl
        refine ⟨1000000000000000000, 1, rfl, rfl, line_le (by decide), fun t nt => ?_⟩
        exact ends_tail (m := 1000000000000000001) (same_new nt) hS h60 upd_same (fun _ => rfl) q
end
end K67

/-! The places of a text by its ends: the program's places_of. -/
namespace K67
open PySem PySem.Spec PyProof.Rows L2

theorem paired_get {α β : Type} {F : α → β → Prop} : ∀ {l1 : List α} {l2 : List β} {i : Nat} {a : α} {b : β}, Paired F l1 l2 → l1[i]? = some a → l2[i]? = some b → F a b
  | _, _, _, _, _, .nil, h, _ => by simp at h
  | _, _, 0, _, _, .cons x _, h1, h2 => by
    cases h1
    cases h2
    exact x
  | _, _, i + 1, _, _, .cons _ y, h1, h2 => paired_get (i := i) y (by simpa using h1) (by simpa using h2)
/-- a pair of a row and a place, as it stands on the heap -/
def PairAt (D : Addr) (H : Hp) (v : V) (r : Rw) : Prop := ∃ t e, v = .ref t ∧ t ≠ D ∧ e ≠ D ∧ H t = some (.tup [.ref e, .int r.2]) ∧ H e = some (.lst (r.1.map V.int))
theorem PairAt.same {D : Addr} {H H' : Hp} {v : V} {r : Rw} (e : Same H H') (h : PairAt D H v r) : PairAt D H' v r := by
  obtain ⟨t, a, h0, h1, h2, h3, h4⟩ := h
  exact ⟨t, a, h0, h1, h2, e _ _ h3, e _ _ h4⟩
theorem PairAt.upd {D : Addr} {H : Hp} {o : HO} {v : V} {r : Rw} (h : PairAt D H v r) : PairAt D (upd H D o) v r := by
  obtain ⟨t, a, h0, h1, h2, h3, h4⟩ := h
  exact ⟨t, a, h0, h1, h2, by rw [upd_ne h1]; exact h3, by rw [upd_ne h2]; exact h4⟩
theorem PairAt.at {D p : Addr} {H : Hp} {o : HO} {v : V} {r : Rw} (n : H p = none) (h : PairAt D H v r) : PairAt p (L2.upd H p o) v r := by
  obtain ⟨t, a, h0, h1, h2, h3, h4⟩ := h
  have n1 : t ≠ p := ne_of_none h3 n
  have n2 : a ≠ p := ne_of_none h4 n
  exact ⟨t, a, h0, n1, n2, by rw [upd_ne n1]; exact h3, by rw [upd_ne n2]; exact h4⟩
theorem PairAt.dp {K : PySem.W.Frag} {D : Addr} {H : Hp} {v : V} {r : Rw} (h : PairAt D H v r) : Dp K H v (enc r) := by
  obtain ⟨t, a, rfl, h1, h2, h3, h4⟩ := h
  exact .tup (SqT.of h3) (.cons (.lst (SqL.of h4) (dp_ints _)) (.cons (.int _) .nil))
theorem pairs_get {T : Int} {k : Kd} {ns : List Int} {i : Nat} (h : i < ns.length) : (pairs T k ns)[i]? = some (rowAt T k ns i, (i : Int)) := by
  unfold pairs
  rw [List.getElem?_map, List.getElem?_range h]
  rfl

section
variable {P : Program} {w : World} {K : PySem.W.Frag} {mg : Str → Option Value} {base : Heap}
/-- sorted([(end, at) for at, end in enumerate(..)]) -/
theorem pairs_made {te : TE} {H : Hp} {T : Int} {k : Kd} {ns : List Int} {Q : VK} {a0 a1 a2 a3 a4 a5 a6 : Option V} (h60 : ns.length ≤ 60)
    (h : ∀ R : VK, (∀ H1 p as, Same H H1 → H1 p = some (.lst (as.map V.ref)) → Paired (RowAt p H1) as (rows T k ns) → R (.ref p) H1) → te [a0, a1, a2, a3, a4, a5, a6] H R)
    (q : ∀ H' p (zs : List (V × Rw)), Same H H' → H p = none → H' p = some (.lst (zs.map (·.1))) → (∀ z ∈ zs, PairAt p H' z.1 z.2) → zs.map (·.2) = srt T k ns → Q (.ref p) H') :
    tCB (rSortedR K) (tCons (tLc (iEnum K (tCons te tNil)) (gTup K 2 (gCons (gName 3) (gCons (gName 4) gNil))) tYes (tTup (tCons (tVar 4) (tCons (tVar 3) tNil))) [3, 4]) tNil) [a0, a1, a2, a3, a4, a5, a6] H Q := by
  refine h _ fun H1 p as e1 hp hr => ?_
  have hlen : (as.map V.ref).length = ns.length := by rw [List.length_map, Paired.length hr, rows_length]
  refine ⟨p, as.map V.ref, rfl, SqL.of hp, fun D nD => ?_⟩
  have nDp : p ≠ D := ne_of_none hp nD
  refine lc_it (walk_enum (xs := as.map V.ref)) (fun i H' => ∃ ps : List (V × Rw), Same H1 H' ∧ H' D = some (.lst (ps.map (·.1))) ∧ (∀ z ∈ ps, PairAt D H' z.1 z.2) ∧ ps.map (·.2) = (pairs T k ns).take i)
    ⟨[], same_new nD, upd_same, (fun _ z => by cases z), rfl⟩ (fun i H' _ z => ?_) (fun i x H' H2 hi z y => ?_) fun H' z => ?_
  · obtain ⟨ps, e, _⟩ := z
    exact SqL.of (e _ _ hp)
  · obtain ⟨ps, e, hD, hps, ez⟩ := z
    obtain ⟨t, x1, y1, rfl, nt, rfl, ex, ey⟩ := y
    rw [hlen] at hi
    have ex' : x1 = .int i := (Option.some.inj ex).symm
    subst ex'
    obtain ⟨ai, hai, rfl⟩ : ∃ ai, as[i]? = some ai ∧ y1 = .ref ai := by
      have ey' : (as.map V.ref)[i]? = some y1 := ey
      rw [List.getElem?_map] at ey'
      cases ha : as[i]? with
      | none => rw [ha] at ey'; cases ey'
      | some a =>
        rw [ha] at ey'
        exact ⟨a, rfl, (Option.some.inj ey').symm⟩
    have hrow : RowAt p H1 ai (rowAt T k ns i) := paired_get hr hai (rows_take hi)
    refine ⟨t, [.int i, .ref ai], rfl, SqT.of upd_same, rfl, .int i, [.ref ai], rfl, .ref ai, [], rfl, rfl, ?_⟩
    refine ⟨rfl, ?_⟩
    refine ⟨.ref ai, rfl, .int i, rfl, line_le (by show 2 ≤ 1000000; decide), fun u nu => ?_⟩
    have e2 : Same H' (upd (upd H' t (.tup [.int i, .ref ai])) u (.tup [.ref ai, .int i])) := same_newer (same_new nt) nu
    have plen : ps.length ≤ ns.length := by
      have := congrArg List.length ez
      rw [List.length_map, List.length_take, pairs_length] at this
      omega
    have nuD : u ≠ D := fun z => by
      have := (same_new (o := .tup [.int i, .ref ai]) nt) _ _ hD
      rw [z, this] at nu
      cases nu
    refine ⟨_, e2 _ _ hD, line_lt (by rw [List.length_map]; omega), ps ++ [(.ref u, (rowAt T k ns i, (i : Int)))], same_at (e.trans e2) nD, ?_, fun z hz => ?_, ?_⟩
    · rw [upd_same, List.map_append]
      rfl
    · rcases List.mem_append.mp hz with hz | hz
      · exact ((hps z hz).same e2).upd
      · obtain rfl := List.mem_singleton.mp hz
        exact PairAt.upd ⟨u, ai, rfl, nuD, ne_of_none hrow.2 nD, upd_same, e2 _ _ (e _ _ hrow.2)⟩
    · rw [List.map_append, ez, List.take_add_one, pairs_get hi]
      rfl
  · obtain ⟨ps, e, hD, hps, ez⟩ := z
    rw [hlen, take_all (Nat.le_of_eq (pairs_length ..))] at ez
    refine ⟨D, ps, rfl, SqL.of hD, fun z hz => (hps z hz).dp, fun p' zs np perm hz => ?_⟩
    have e3 : Same H (upd H' p' (.lst (zs.map (·.1)))) := e1.trans (same_newer e np)
    refine q _ p' zs e3 ((e1.trans e).free np) upd_same (fun z hm => (hps z (perm.mem_iff.mp hm)).at np) ?_
    rw [hz, ez]
    rfl
/-- [at for end, at in pairs] -/
theorem places_made {H : Hp} {p : Addr} {zs : List (V × Rw)} {Q : VK} {a0 a1 a3 a4 a5 a6 : Option V} (hp : H p = some (.lst (zs.map (·.1)))) (hz : ∀ z ∈ zs, PairAt p H z.1 z.2) (hl : zs.length ≤ 60)
    (q : ∀ H' D, Same H H' → H D = none → H' D = some (.lst ((zs.map (·.2.2)).map V.int)) → Q (.ref D) H') :
    tLc (iList K (tVar 2)) (gTup K 2 (gCons (gName 4) (gCons (gName 3) gNil))) tYes (tVar 3) [3, 4] [a0, a1, some (.ref p), a3, a4, a5, a6] H Q := by
  refine ⟨.ref p, rfl, p, rfl, ⟨_, SqL.of hp⟩, fun D nD => lc_list (xs := zs.map (·.1)) (fun i H' => Same H H' ∧ H' D = some (.lst (((zs.map (·.2.2)).take i).map V.int))) ⟨same_new nD, upd_same⟩ (fun i H' _ z => SqL.of (z.1 _ _ hp)) (fun i x H' hx z => ?_) fun H' z => ?_⟩
  · obtain ⟨e, hD⟩ := z
    obtain ⟨z0, hz0, rfl⟩ : ∃ z0, zs[i]? = some z0 ∧ x = z0.1 := by
      rw [List.getElem?_map] at hx
      cases h : zs[i]? with
      | none => rw [h] at hx; cases hx
      | some z0 =>
        rw [h] at hx
        exact ⟨z0, rfl, (Option.some.inj hx).symm⟩
    obtain ⟨t, en, ev, h1, h2, h3, h4⟩ := hz z0 (List.mem_of_getElem? hz0)
    rw [ev]
    refine ⟨t, [.ref en, .int z0.2.2], rfl, SqT.of (e _ _ h3), rfl, .ref en, [.int z0.2.2], rfl, .int z0.2.2, [], rfl, rfl, rfl, ?_⟩
    refine ⟨.int z0.2.2, rfl, _, hD, line_lt (Nat.le_trans (len_take _ (b := 60) (by rw [List.length_map]; exact hl)) (by omega)), same_at e nD, ?_⟩
    rw [upd_same, take_snoc (xs := zs.map (·.2.2)) V.int (by rw [List.getElem?_map, hz0]; rfl)]
  · obtain ⟨e, hD⟩ := z
    rw [List.length_map, take_all (by rw [List.length_map]; exact Nat.le_refl _)] at hD
    exact q H' D e nD hD
theorem srt_at {T : Int} {k : Kd} {ns : List Int} {zs : List (V × Rw)} (e : zs.map (·.2) = srt T k ns) {i : Nat} {z : V × Rw} (h : zs[i]? = some z) : (srt T k ns).getD i ([], 0) = z.2 := by
  rw [List.getD_eq_getElem?_getD, ← e, List.getElem?_map, h]
  rfl

theorem sc15 : FnScope ["text", "sort", "pairs", "at", "end", "k", "ends"] ["text", "sort"] (defScope (topS 15)) := ⟨rfl, rfl, rfl, by decide +kernel, rfl, by decide +kernel, by decide +kernel⟩
def spPlaces (T : Int) (K : PySem.W.Frag) : Sp := fun vs H Q _ => ∃ (l : Addr) (k : Kd) (ns : List Int), vs = [.ref l, .str k.nm] ∧ SqT K H l (ns.map V.int) ∧ ns.length ≤ 60 ∧
  ∀ H', Same H H' → (spots T k ns = none → Q .non H') ∧ ∀ ms p, spots T k ns = some ms → H p = none → H' p = some (.lst (ms.map V.int)) → Q (.ref p) H'
theorem ok_places_of (T : Tp w K mg) : Cal P w K mg base 2 "places_of" (spPlaces 1000000000000000001 K) [] := by
  refine cal T.places_of sc15 (fun vs H Q E h => ?_) (fun f cdv A outer s H vs Q E hr h => ?_)
  · obtain ⟨l, k, ns, rfl, _⟩ := h
    rfl
  · obtain ⟨l, k, ns, rfl, hS, h60, q⟩ := h
    refine ⟨_, pss_cons (ps_set (i := 6) sc15.nd rfl (.inl rfl) (C8.pe_c (ok_all_ends T) hr (by decide) (by rfl) (pa_cons (pv 0) (pa_cons (pv 1) pa_nil))))
      (pss_cons (ps_set (i := 2) sc15.nd rfl (.inr rfl) (pe_callB (cr_sortedR hr.units) (by rfl) T.b_sorted bo_sorted (pa_cons
        (pe_lc (own := [("at", 3), ("end", 4)]) (g := gTup K 2 (gCons (gName 3) (gCons (gName 4) gNil))) (tt := tYes) rfl sc15.nd (pi_enum (by rfl) T.b_enumerate (pa_cons (pv 6) pa_nil)) (blkOk_by (N := ["text", "sort", "pairs", "at", "end", "k", "ends"]) (sc := defScope (topS 15)) (by decide +kernel))
          (fun _ _ _ _ _ => pg_tupK rfl (pgs_cons (pg_name (i := 3) sc15.nd rfl (Or.inl rfl)) (pgs_cons (pg_name (i := 4) sc15.nd rfl (Or.inl rfl)) pgs_nil))) (fun _ _ _ _ _ => pts_nil)
          (fun _ _ _ _ _ => pe_tup (pa_cons (pv 4) (pa_cons (pv 3) pa_nil)))) pa_nil)))
      (pss_cons (ps_if (pt_val (pe_callB (cr_any rfl) (by rfl) T.b_any bo_any (pa_cons
        (pe_lc (own := [("k", 5)]) (g := gName 5) (tt := tYes) rfl sc15.nd (pi_range1 (by rfl) T.b_range (pa_cons (pe_op op_sub (pe_callB (len_ofK (K := K)) (by rfl) T.b_len bo_len (pa_cons (pv 2) pa_nil)) pe_int) pa_nil)) (blkOk_by (N := ["text", "sort", "pairs", "at", "end", "k", "ends"]) (sc := defScope (topS 15)) (by decide +kernel))
          (fun _ _ _ _ _ => pg_name (i := 5) sc15.nd rfl (Or.inl rfl)) (fun _ _ _ _ _ => pts_nil)
          (fun _ _ _ _ _ => pe_cmpR (op_eqK (K := K) hr.units) (pe_ix (ix_tupK (K := K)) (pe_ix (ix_lstK (K := K)) (pv 2) (pv 5) (fun _ _ => rfl)) pe_int (fun _ _ => rfl))
            (pe_ix (ix_tupK (K := K)) (pe_ix (ix_lstK (K := K)) (pv 2) (pe_op op_add (pv 5) pe_int) (fun _ _ => rfl)) pe_int (fun _ _ => rfl)) (nomark _))) pa_nil)))
        (pss_one (ps_ret pe_non)) pss_nil)
      (pss_one (ps_ret (pe_lc (own := [("at", 3), ("end", 4)]) (g := gTup K 2 (gCons (gName 4) (gCons (gName 3) gNil))) (tt := tYes) rfl sc15.nd (pi_list (pv 2)) (blkOk_by (N := ["text", "sort", "pairs", "at", "end", "k", "ends"]) (sc := defScope (topS 15)) (by decide +kernel))
          (fun _ _ _ _ _ => pg_tupK rfl (pgs_cons (pg_name (i := 4) sc15.nd rfl (Or.inl rfl)) (pgs_cons (pg_name (i := 3) sc15.nd rfl (Or.inl rfl)) pgs_nil))) (fun _ _ _ _ _ => pts_nil)
          (fun _ _ _ _ _ => pv 3)))))), ?_⟩
    refine ⟨.ref l, rfl, .str k.nm, rfl, l, k, ns, rfl, hS, h60, fun H1 pe as e1 ne he hr1 => ?_⟩
    refine pairs_made (K := K) (te := tVar 6) (T := 1000000000000000001) (k := k) (a0 := some (.ref l)) (a1 := some (.str k.nm)) (a2 := none) (a3 := none) (a4 := none) (a5 := none) (a6 := some (.ref pe)) h60 (fun R hR => ⟨.ref pe, rfl, hR H1 pe as (Same.refl _) he hr1⟩) fun H2 p zs e2 np hp hz hs => ?_
    have zl : zs.length = ns.length := by
      have := congrArg List.length hs
      rw [List.length_map, srt_length] at this
      exact this
    refine ⟨.ref p, rfl, p, _, rfl, .inl (SqL.of hp), _, 1, rfl, rfl, _, rfl, by rw [List.length_map]; omega, by rw [List.length_map]; omega, fun D nD => ?_⟩
    have hn : ((((zs.map (·.1)).length : Nat) : Int) - 1).toNat = ns.length - 1 := by rw [List.length_map, zl]; omega
    rw [hn]
    refine lc_range (lo := 0) (n := ns.length - 1) (fun i H' => Same H2 H' ∧ H' D = some (.lst (((List.range i).map fun j => decide (((srt 1000000000000000001 k ns).getD j ([], 0)).1 = ((srt 1000000000000000001 k ns).getD (j + 1) ([], 0)).1)).map V.bl)))
      ⟨same_new nD, upd_same⟩ (fun i H' hi z => ?_) fun H' z => ?_
    · obtain ⟨e, hD⟩ := z
      rw [Int.zero_add]
      have i1 : i < zs.length := by omega
      have i2 : i + 1 < zs.length := by omega
      have g1 : zs[i]? = some zs[i] := List.getElem?_eq_getElem i1
      have g2 : zs[i + 1]? = some zs[i + 1] := List.getElem?_eq_getElem i2
      obtain ⟨t1, c1, v1, _, _, ht1, hc1⟩ := (hz _ (List.getElem_mem i1)).same e
      obtain ⟨t2, c2, v2, _, _, ht2, hc2⟩ := (hz _ (List.getElem_mem i2)).same e
      refine ⟨rfl, ?_⟩
      refine ⟨.ref p, rfl, .int i, rfl, p, _, i, .ref t1, rfl, rfl, SqL.of (e _ _ hp), atI_nat (by rw [List.getElem?_map, g1, ← v1]; rfl), t1, _, 0, .ref c1, rfl, rfl, SqT.of ht1, atI_nat (j := 0) rfl, ?_⟩
      refine ⟨.ref p, rfl, .int i, rfl, i, 1, rfl, rfl, p, _, ((i + 1 : Nat) : Int), .ref t2, rfl, rfl, SqL.of (e _ _ hp), atI_nat (by rw [List.getElem?_map, g2, ← v2]; rfl), t2, _, 0, .ref c2, rfl, rfl, SqT.of ht2, atI_nat (j := 0) rfl, ?_⟩
      refine ⟨_, _, .lst (SqL.of hc1) (dp_ints _), .lst (SqL.of hc2) (dp_ints _), PySem.W.ke_shaped_ints _, PySem.W.ke_shaped_ints _, _, hD, line_lt (by rw [List.length_map, List.length_map, List.length_range]; omega), same_at e nD, ?_⟩
      rw [upd_same, List.range_succ, List.map_append, List.map_append, eqv_ints, ← srt_at hs g1, ← srt_at hs g2]
      rfl
    · obtain ⟨e, hD⟩ := z
      refine ⟨D, _, rfl, SqL.of hD, _, rfl, ?_⟩
      have ht : (((List.range (ns.length - 1)).map fun j => decide (((srt 1000000000000000001 k ns).getD j ([], 0)).1 = ((srt 1000000000000000001 k ns).getD (j + 1) ([], 0)).1)).any id) = twin (srt 1000000000000000001 k ns) := by
        unfold twin
        rw [List.any_map, srt_length]
        rfl
      rw [ht]
      have e0 : Same H H' := e1.trans (e2.trans e)
      refine ite2 (fun et => ?_) (fun et => ?_)
      · exact (q H' e0).1 (if_pos et)
      · refine places_made (e _ _ hp) (fun z hm => (hz z hm).same e) (by omega) fun H3 D3 e3 nD3 hD3 => ?_
        have em : zs.map (·.2.2) = (srt 1000000000000000001 k ns).map (·.2) := by
          rw [← hs, List.map_map]
          rfl
        rw [em] at hD3
        exact (q H3 (e0.trans e3)).2 _ D3 (if_neg et) (e0.free nD3) hD3
end
end K67

/-! The program's has_places, accepts_order, accepts. -/
namespace K67
open PySem PySem.Spec PyProof.Rows L2

theorem ltr_ints (ns : List Int) (h : ∀ x ∈ ns, 0 ≤ x ∧ x ≤ 1000000000000000000) : (ns.map V.int).all ltr = true := by
  rw [List.all_map, List.all_eq_true]
  intro x hx
  exact decide_eq_true (h x hx)
/-- what a certificate may be: a list; a tuple that is no text; a text -/
def CertNo (K : PySem.W.Frag) (H : Hp) (c : Addr) : Prop := (∃ xs, H c = some (.lst xs)) ∨ ∃ xs, SqT K H c xs ∧ 1 ≤ xs.length ∧ xs.length ≤ 60 ∧ (∀ x ∈ xs, flatI x) ∧ xs.all ltr = false
def CertYes (K : PySem.W.Frag) (H : Hp) (c : Addr) (ns : List Int) : Prop := SqT K H c (ns.map V.int) ∧ 1 ≤ ns.length ∧ ns.length ≤ 60 ∧ ∀ x ∈ ns, 0 ≤ x ∧ x ≤ 1000000000000000000
theorem CertNo.same {K : PySem.W.Frag} {H H' : Hp} {c : Addr} (e : Same H H') (h : CertNo K H c) : CertNo K H' c := by
  rcases h with ⟨xs, h⟩ | ⟨xs, h, r⟩
  · exact .inl ⟨xs, e _ _ h⟩
  · exact .inr ⟨xs, e.seqT h, r⟩
theorem CertYes.same {K : PySem.W.Frag} {H H' : Hp} {c : Addr} {ns : List Int} (e : Same H H') (h : CertYes K H c ns) : CertYes K H' c ns := ⟨e.seqT h.1, h.2⟩
theorem flat_ints (ns : List Int) : ∀ x ∈ ns.map V.int, flatI x := fun x hx => by
  obtain ⟨i, _, rfl⟩ := List.mem_map.mp hx
  trivial

section
variable {P : Program} {w : World} {K : PySem.W.Frag} {mg : Str → Option Value} {base : Heap}

theorem sc27 : FnScope ["certificate", "places", "sort"] ["certificate", "places", "sort"] (defScope (topS 27)) := ⟨rfl, rfl, rfl, by decide +kernel, rfl, by decide +kernel, by decide +kernel⟩
def spHas (K : PySem.W.Frag) : Sp := fun vs H Q _ => ∃ (c pl : Addr) (k : Kd) (ms : List Int), vs = [.ref c, .ref pl, .str k.nm] ∧ SqT K H pl (ms.map V.int) ∧
  ((CertNo K H c ∧ ∀ H', Same H H' → Q (.bl false) H') ∨ ∃ ns, CertYes K H c ns ∧ ∀ H', Same H H' → Q (.bl (decide (spots 1000000000000000001 k ns = some ms))) H')
theorem ok_has_places (T : Tp w K mg) : Cal P w K mg base 5 "has_places" (spHas K) [] := by
  refine cal T.has_places sc27 (fun vs H Q E h => ?_) (fun f cdv A outer s H vs Q E hr h => ?_)
  · obtain ⟨c, pl, k, ms, rfl, _⟩ := h
    rfl
  · obtain ⟨c, pl, k, ms, rfl, hP, q⟩ := h
    refine ⟨_, pss_one (ps_ret (pe_and (C8.pe_c (ok_is_text T) hr (by decide) (by rfl) (pa_cons (pv 0) pa_nil))
      (pe_one (pe_cmpR (op_eqD hr.units) (C8.pe_c (ok_places_of T) hr (by decide) (by rfl) (pa_cons (pv 0) (pa_cons (pv 2) pa_nil))) (pe_callTy (lst_ofK (K := K)) (by rfl) T.b_list bo_list (pa_cons (pv 1) pa_nil)) (nomark _))))), ?_⟩
    rcases q with ⟨hc, q⟩ | ⟨ns, ⟨hc, h1, h60, hb⟩, q⟩
    · refine ⟨.ref c, rfl, c, rfl, ?_⟩
      rcases hc with ⟨xs, hl⟩ | ⟨xs, hS, h1, h60, hf, hn⟩
      · exact .inl ⟨xs, hl, false, rfl, iteF (q H (Same.refl H))⟩
      · refine .inr ⟨xs, hS, h1, h60, hf, fun H' e => ?_⟩
        rw [hn]
        exact ⟨false, rfl, iteF (q H' e)⟩
    · refine ⟨.ref c, rfl, c, rfl, .inr ⟨_, hc, by rw [List.length_map]; exact h1, by rw [List.length_map]; exact h60, flat_ints ns, fun H1 e1 => ?_⟩⟩
      rw [ltr_ints ns hb]
      refine ⟨true, rfl, iteT ?_⟩
      refine ⟨.ref c, rfl, .str k.nm, rfl, c, k, ns, rfl, e1.seqT hc, h60, fun H2 e2 => ⟨fun es => ?_, fun ms' p es np hp => ?_⟩⟩
      · have e12 := e1.trans e2
        refine ⟨.ref pl, rfl, pl, _, rfl, .inr (e12.seqT hP), fun r nr => ?_⟩
        refine ⟨.none, .list (ms.map .int), .non, .lst (SqL.of upd_same) (dp_ints _), by decide, PySem.W.ke_shaped_ints _, ?_⟩
        have z : PyData.eqv .none (.list (ms.map .int)) = decide (spots 1000000000000000001 k ns = some ms) := by
          rw [es]
          exact (decide_eq_false (fun h => by cases h)).symm
        rw [z]
        exact q _ (same_newer e12 nr)
      · have e12 := e1.trans e2
        refine ⟨.ref pl, rfl, pl, _, rfl, .inr (e12.seqT hP), fun r nr => ?_⟩
        refine ⟨.list (ms'.map .int), .list (ms.map .int), .lst (SqL.of ((same_new nr) _ _ hp)) (dp_ints _), .lst (SqL.of upd_same) (dp_ints _), PySem.W.ke_shaped_ints _, PySem.W.ke_shaped_ints _, ?_⟩
        have z : PyData.eqv (.list (ms'.map .int)) (.list (ms.map .int)) = decide (spots 1000000000000000001 k ns = some ms) := by
          rw [eqv_ints, es, decide_eq_decide]
          exact ⟨fun h => by rw [h], fun h => Option.some.inj h⟩
        rw [z]
        exact q _ (same_newer e12 nr)

/-- a claim that some text with letters below b has the order ms -/
def Clm (K : PySem.W.Frag) (H : Hp) (c pl : Addr) (k : Kd) (ms : List Int) (b : Int) : Prop := SqT K H c [.str "order", .ref pl, .str k.nm, .int b] ∧ SqT K H pl (ms.map V.int) ∧ 1 ≤ b ∧ b ≤ 1000000000000000000
theorem Clm.same {H H' : Hp} {c pl : Addr} {k : Kd} {ms : List Int} {b : Int} (e : Same H H') (h : Clm K H c pl k ms b) : Clm K H' c pl k ms b := ⟨e.seqT h.1, e.seqT h.2.1, h.2.2⟩
/-- accepted exactly if it is a text with the order, its letters below b -/
def Acc (K : PySem.W.Frag) (H : Hp) (k : Kd) (ms : List Int) (b : Int) (c : Addr) (Q : VK) : Prop :=
  (CertNo K H c ∧ ∀ H', Same H H' → Q (.bl false) H') ∨
    ∃ ns, CertYes K H c ns ∧ ∀ H' m, Same H H' → m ∈ ns → (∀ y ∈ ns, y ≤ m) → Q (.bl (decide (spots 1000000000000000001 k ns = some ms) && decide (m < b))) H'
theorem Acc.same {H H' : Hp} {k : Kd} {ms : List Int} {b : Int} {c : Addr} {Q : VK} (e : Same H H') (h : Acc K H k ms b c Q) : Acc K H' k ms b c Q := by
  rcases h with ⟨h, q⟩ | ⟨ns, h, q⟩
  · exact .inl ⟨h.same e, fun H2 e2 => q H2 (e.trans e2)⟩
  · exact .inr ⟨ns, h.same e, fun H2 m e2 => q H2 m (e.trans e2)⟩
theorem exists_max : ∀ ns : List Int, 1 ≤ ns.length → ∃ m, m ∈ ns ∧ ∀ y ∈ ns, y ≤ m
  | [], h => absurd h (by simp)
  | n :: ns, _ => ⟨_, foldl_max ns n⟩

theorem sc28 : FnScope ["claim", "certificate", "word", "places", "sort", "letters", "k"] ["claim", "certificate"] (defScope (topS 28)) := ⟨rfl, rfl, rfl, by decide +kernel, rfl, by decide +kernel, by decide +kernel⟩
def spAccepts (K : PySem.W.Frag) : Sp := fun vs H Q _ => ∃ (c d pl : Addr) (k : Kd) (ms : List Int) (b : Int) (n : Nat), vs = [.ref c, .ref d] ∧ Clm K H c pl k ms b ∧ ms.Perm (rng n) ∧ 1 ≤ n ∧ n ≤ 60 ∧ Acc K H k ms b d Q
theorem ok_accepts_order (T : Tp w K mg) : Cal P w K mg base 6 "accepts_order" (spAccepts K) [] := by
  refine cal T.accepts_order sc28 (fun vs H Q E h => ?_) (fun f cdv A outer s H vs Q E hr h => ?_)
  · obtain ⟨c, d, pl, k, ms, b, n, rfl, _⟩ := h
    rfl
  · obtain ⟨c, d, pl, k, ms, b, n, rfl, ⟨hC, hP, hb1, hb2⟩, hp, h1, h60, q⟩ := h
    refine ⟨_, pss_cons (ps_asg (pv 0) (pg_tup rfl (pgs_cons (pg_name (i := 2) sc28.nd rfl (.inl rfl)) (pgs_cons (pg_name (i := 3) sc28.nd rfl (.inr rfl)) (pgs_cons (pg_name (i := 4) sc28.nd rfl (.inr rfl)) (pgs_cons (pg_name (i := 5) sc28.nd rfl (.inl rfl)) pgs_nil))))))
      (pss_cons (ps_if (pt_not (pt_val (C8.pe_c (ok_is_between T) hr (by decide) (by rfl) (pa_cons (pv 5) (pa_cons pe_int (pa_cons (C8.pe_gc (by rfl) T.GREATEST) pa_nil)))))) (pss_one (ps_ret pe_bl)) pss_nil)
      (pss_cons (ps_if (pt_cmpR op_eq (pv 2) pe_str (nomark _))
        (pss_one (ps_ret (pe_and (C8.pe_c (ok_has_places T) hr (by decide) (by rfl) (pa_cons (pv 1) (pa_cons (pv 3) (pa_cons (pv 4) pa_nil))))
          (pe_one (pe_cmpR op_lt (pe_callB (cr_maxT rfl hr.units) (by rfl) T.b_max bo_max (pa_cons (pv 1) pa_nil)) (pv 5) (nomark _)))))) pss_nil)
      pss_never)), ?_⟩
    refine ⟨.ref c, rfl, c, _, rfl, hC, rfl, .str "order", _, rfl, .ref pl, _, rfl, .str k.nm, _, rfl, .int b, [], rfl, rfl, ?_⟩
    refine ⟨.int b, rfl, .int b, 1, 1000000000000000000, rfl, .inl ⟨b, rfl, ?_⟩⟩
    rw [decide_eq_true (show (1 : Int) ≤ b ∧ b ≤ 1000000000000000000 from ⟨hb1, hb2⟩)]
    refine ⟨true, rfl, iteF ?_⟩
    refine ⟨.str "order", rfl, rfl, _, rfl, ?_⟩
    rw [decide_eq_true (show V.str "order" = V.str "order" from rfl)]
    refine iteT ?_
    rcases q with ⟨hc, q⟩ | ⟨ns, hc, q⟩
    · exact ⟨.ref d, rfl, .ref pl, rfl, .str k.nm, rfl, d, pl, k, ms, rfl, hP, .inl ⟨hc, fun H' e => ⟨false, rfl, iteF (q H' e)⟩⟩⟩
    · refine ⟨.ref d, rfl, .ref pl, rfl, .str k.nm, rfl, d, pl, k, ms, rfl, hP, .inr ⟨ns, hc, fun H' e => ⟨_, rfl, ite2 (fun ey => ?_) (fun en => ?_)⟩⟩⟩
      · refine ⟨.ref d, rfl, d, ns, rfl, e.seqT hc.1, (fun z => by have := hc.2.1; rw [z] at this; exact absurd this (by simp)), fun m hm hmx => ?_⟩
        refine ⟨.int b, rfl, m, b, rfl, rfl, ?_⟩
        have z := q H' m e hm hmx
        rw [ey, Bool.true_and] at z
        exact z
      · obtain ⟨m, hm, hmx⟩ := exists_max ns hc.2.1
        have z := q H' m e hm hmx
        rw [Bool.eq_false_iff.mpr en, Bool.false_and] at z
        exact z

theorem sc31 : FnScope ["claim", "certificate"] ["claim", "certificate"] (defScope (topS 31)) := ⟨rfl, rfl, rfl, by decide +kernel, rfl, by decide +kernel, by decide +kernel⟩
/-- a def's promise, its object named -/
theorem calF {x : Str} {i k : Nat} {N ps : List Str} {sp : Sp} (d : Df K mg x i ps) (S : FnScope N ps (defScope (topS i))) (len : ∀ vs H Q E, sp vs H Q E → vs.length = ps.length)
    (body : ∀ (f : Addr) (cdv : Value) (A : Around) (outer : List Env) (s : Shared) (H : Hp) (vs : List V) (Q : VK) (E : XK), Room k (A.deeper (envOfC x (defScope (topS i)) s.heap.objs.size f cdv)) → sp vs H Q E →
      ∃ t, PSs (cxOf CX0 P w K mg base N x (defScope (topS i)) f cdv A outer s H E).nox (defBody (topS i)) t ∧ t { nx := fun _ H' => Q .non H', rt := Q } (start N vs) H) :
    ∃ (f : Addr) (fd : FuncData), L2.Fun K x x (topS i) f fd ∧ mg x = some (.ref f) ∧ Binds K fd ps [] ∧ FnOk P w K mg base C8.CX0 (k + 1) f fd ps sp := by
  obtain ⟨f, fd, F, g, b⟩ := d
  exact ⟨f, fd, F, g, b, F.ok S len (body f)⟩
theorem fn_accepts (T : Tp w K mg) : ∃ (f : Addr) (fd : FuncData), L2.Fun K "accepts" "accepts" (topS 31) f fd ∧ mg "accepts" = some (.ref f) ∧ Binds K fd ["claim", "certificate"] [] ∧ FnOk P w K mg base C8.CX0 7 f fd ["claim", "certificate"] (spAccepts K) := by
  obtain ⟨aZ, gZ, ⟨oZ, oZ1, oZ2, oZ3⟩, lowZ, kZ⟩ := T.SIZES
  obtain ⟨aS, gS, hS⟩ := T.SORTS
  refine calF T.accepts sc31 (fun vs H Q E h => ?_) (fun f cdv A outer s H vs Q E hr h => ?_)
  · obtain ⟨c, d, pl, k, ms, b, n, rfl, _⟩ := h
    rfl
  · obtain ⟨c, d, pl, k, ms, b, n, rfl, hC, hp, h1, h60, q⟩ := h
    refine ⟨_, pss_cons (ps_if (PW.pt (pw_or (pt_not (pt_val (pe_callB call_isi (by rfl) T.b_isinstance (by decide +kernel) (pa_cons (pv 0) (pa_cons (pe_bltn (v := .ty "tuple") (by rfl) T.b_tuple (by decide +kernel) rfl) pa_nil)))))
        (pw_or (pt_cmpR (op_eqD hr.units) (pv 0) (pe_tup pa_nil) (nomark _))
        (pw_or1 (pt_not (pt_val (pe_callB call_isi (by rfl) T.b_isinstance (by decide +kernel) (pa_cons (pe_ix ix_tup (pv 0) pe_int (fun _ _ => rfl)) (pa_cons (pe_bltn (v := .ty "str") (by rfl) T.b_str (by decide +kernel) rfl) pa_nil)))))))))
        (pss_one (ps_ret pe_bl)) pss_nil)
      (pss_cons (ps_if (PW.pt (pw_or (pt_cmpR op_ne (pe_callB call_len_seq (by rfl) T.b_len bo_len (pa_cons (pv 0) pa_nil))
            (pe_bmW PySem.F.plainAttrs_dict PySem.F.slot_dict_get PySem.F.type_dict_get mt_getK (pe_glob (v := .ref aZ) (by rfl) gZ rfl) (pa_cons (pe_ix ix_tup (pv 0) pe_int (fun _ _ => rfl)) (pa_cons pe_int pa_nil))) (nomark _))
        (pw_or (pt_not (pt_val (pe_callB call_isi (by rfl) T.b_isinstance (by decide +kernel) (pa_cons (pe_ix ix_tup (pv 0) pe_int (fun _ _ => rfl)) (pa_cons (pe_bltn (v := .ty "str") (by rfl) T.b_str (by decide +kernel) rfl) pa_nil)))))
        (pw_or1 (pt_cmpR op_notIn_seq (pe_ix ix_tup (pv 0) pe_int (fun _ _ => rfl)) (pe_glob (v := .ref aS) (by rfl) gS rfl) (by rfl))))))
        (pss_one (ps_ret pe_bl)) pss_nil)
      (pss_cons (ps_if (pt_cmpR op_eq (pe_callB call_len_seq (by rfl) T.b_len bo_len (pa_cons (pv 0) pa_nil)) pe_int (nomark _)) pss_never pss_nil)
      (pss_cons (ps_if (pt_not (pt_val (C8.pe_c (ok_is_order T) hr (by decide) (by rfl) (pa_cons (pe_ix ix_tup (pv 0) pe_int (fun _ _ => rfl)) pa_nil)))) (pss_one (ps_ret pe_bl)) pss_nil)
      (pss_cons (ps_if (pt_cmpR op_in_seq (pe_ix ix_tup (pv 0) pe_int (fun _ _ => rfl)) (pe_tup (pa_cons pe_str (pa_cons pe_str pa_nil))) (by rfl))
        (pss_one (ps_ret (C8.pe_c (ok_accepts_order T) hr (by decide) (by rfl) (pa_cons (pv 0) (pa_cons (pv 1) pa_nil))))) pss_nil)
      pss_never)))), ?_⟩
    -- the first test
    refine ⟨.ref c, rfl, .ref c, .ty "tuple", _, _, true, rfl, .ty "tuple", tyX_tup hC.1, kit_ty (by decide +kernel), true, rfl, iteF ?_⟩
    refine ⟨.ref c, rfl, Nat.zero_le _, fun p np => ?_⟩
    have e1 : Same H (upd H p (.tup [])) := same_new np
    have hC1 := hC.same e1
    refine ⟨.tuple [.str "order", .tuple (ms.map .int), .str k.nm, .int b], .tuple [], .tup hC1.1 (.cons (.str _) (.cons (.tup hC1.2.1 (dp_ints ms)) (.cons (.str _) (.cons (.int _) .nil)))), .tup (SqT.of upd_same) .nil, ?_, by decide, _, rfl, iteF ?_⟩
    · have z1 : PyData.strOk k.nm = true := by cases k <;> decide +kernel
      have z2 : PyData.strOk "order" = true := by decide +kernel
      simp [SeqAt.shaped, PyData.canLay0, PyData.canLayAll0, PyData.depth, PyData.depthAll, PySem.W.ke_canLayAll0, PySem.W.ke_depthAll, z1, z2]
    refine ⟨.ref c, rfl, c, _, 0, .str "order", rfl, rfl, hC1.1, atI_nat (j := 0) rfl, .str "order", .ty "str", _, _, true, rfl, .ty "str", .base (.str _), kit_ty (by decide +kernel), true, rfl, iteF ?_⟩
    -- the second test
    refine ⟨.ref c, rfl, c, _, rfl, .inr hC1.1, ⟨aZ, rfl, .inr ⟨oZ, oZ1, oZ2, oZ3⟩⟩, .ref c, rfl, c, _, 0, .str "order", rfl, rfl, hC1.1, atI_nat (j := 0) rfl, aZ, "order", .int 0, .int 4, rfl, rfl, lowZ, kZ, rfl, _, rfl, iteNS rfl ?_⟩
    refine ⟨.ref c, rfl, c, _, 2, .str k.nm, rfl, rfl, hC1.1, atI_nat (j := 2) rfl, .str k.nm, .ty "str", _, _, true, rfl, .ty "str", .base (.str _), kit_ty (by decide +kernel), true, rfl, iteF ?_⟩
    have hin : inV (.str k.nm) [.str "first", .str "last", .str "ring"] = true := by cases k <;> decide +kernel
    refine ⟨.ref c, rfl, c, _, 2, .str k.nm, rfl, rfl, hC1.1, atI_nat (j := 2) rfl, aS, _, rfl, .inr (hS _), rfl, rfl, _, rfl, ?_⟩
    rw [hin]
    refine iteF ?_
    -- the third
    refine ⟨.ref c, rfl, c, _, rfl, .inr hC1.1, rfl, _, rfl, ?_⟩
    rw [decide_eq_false (show ¬ V.int (([V.str "order", V.ref pl, V.str k.nm, V.int b].length : Nat) : Int) = V.int 3 from fun z => by cases z)]
    refine iteF ?_
    refine ⟨.ref c, rfl, c, _, 1, .ref pl, rfl, rfl, hC1.1, atI_nat (j := 1) rfl, pl, ms, n, rfl, hC1.2.1, hp, h1, h60, fun H2 e2 => ⟨true, rfl, iteF ?_⟩⟩
    have hC2 := hC1.same e2
    refine ⟨.ref c, rfl, c, _, 0, .str "order", rfl, rfl, hC2.1, atI_nat (j := 0) rfl, line_le (by show 2 ≤ 1000000; decide), fun t nt => ?_⟩
    have hin2 : inV (.str "order") [.str "order", .str "no order"] = true := by decide +kernel
    refine ⟨t, _, rfl, .inr (SqT.of upd_same), rfl, rfl, _, rfl, ?_⟩
    rw [if_neg Bool.false_ne_true, hin2]
    refine iteT ?_
    have e3 : Same H2 (upd H2 t (.tup [.str "order", .str "no order"])) := same_new nt
    exact ⟨.ref c, rfl, .ref d, rfl, c, d, pl, k, ms, b, n, rfl, hC2.same e3, hp, h1, h60, q.same (e1.trans (e2.trans e3))⟩
theorem ok_accepts (T : Tp w K mg) : Cal P w K mg base 7 "accepts" (spAccepts K) [] := by
  obtain ⟨f, fd, F, g, b, ok⟩ := fn_accepts (P := P) (base := base) T
  exact ⟨f, fd, _, [], ok, g, F.kp, b, .nil⟩
/-- accepts(certificate=c, claim=l) -/
def swap2 {α : Type} : List α → List α → List α
  | [], [c, l] => [l, c]
  | _, _ => []
theorem kb_accepts {f : Addr} {fd : FuncData} (F : L2.Fun K "accepts" "accepts" (topS 31) f fd) : KBinds K fd ["claim", "certificate"] ["certificate", "claim"] swap2 swap2 := by
  obtain ⟨oc, od, kV, doc, pm, an, cdv, ct, osl, rfl, lk, hcd⟩ := F.ex
  refine ⟨fun s us ws _ hl => ?_, fun {vs us zs ws} r1 r2 => ?_⟩
  · match us, ws, hl with
    | [], [c, l], _ => exact .of_eq rfl
  · cases r1 with
    | cons _ _ =>
      have e1 : ∀ {α : Type} (a : α) (as bs : List α), swap2 (a :: as) bs = [] := fun a as bs => rfl
      rw [e1, e1]
      exact .nil
    | nil =>
      cases r2 with
      | nil => exact .nil
      | cons a r2 =>
        cases r2 with
        | nil => exact .nil
        | cons b r2 =>
          cases r2 with
          | nil => exact .cons b (.cons a .nil)
          | cons c r2 => exact .nil
end
end K67

/-! The law's draws. -/
namespace K67
open PySem PySem.Spec PyProof.Rows L2

theorem but_at {j p : Addr} {H0 H : Hp} {o : HO} (e : But j H0 H) (h : H0 p = none) : But j H0 (upd H p o) := fun b x n k => by
  rw [upd_ne (ne_of_none k h)]
  exact e b x n k
theorem but_set {j : Addr} {H0 H : Hp} {o : HO} (e : But j H0 H) : But j H0 (upd H j o) := fun b x n k => by
  rw [upd_ne n]
  exact e b x n k
/-- what is free behind was free before -/
theorem But.free {j p : Addr} {H H' : Hp} (e : But j H H') (jg : Jug H' j) (h : H' p = none) : H p = none := by
  cases q : H p with
  | none => rfl
  | some o =>
    by_cases hp : p = j
    · subst hp
      exact absurd h jg.some
    · rw [e p o hp q] at h
      cases h
theorem But.ne {j p : Addr} {H : Hp} (jg : Jug H j) (h : H p = none) : p ≠ j := fun z => jg.some (by rw [← z]; exact h)
theorem Jug.upd {H : Hp} {j p : Addr} {o : HO} (jg : Jug H j) (h : p ≠ j) : Jug (upd H p o) j := by
  obtain ⟨a, b, x, r⟩ := jg
  exact ⟨a, b, by rw [upd_ne (Ne.symm h)]; exact x, r⟩
theorem Jug.new {H : Hp} {j p : Addr} {o : HO} (jg : Jug H j) (h : H p = none) : Jug (L2.upd H p o) j := jg.upd (But.ne jg h)

section
variable {P : Program} {w : World} {K : PySem.W.Frag} {mg : Str → Option Value} {base : Heap}

/-! ### _law_swig -/
theorem sc34 : FnScope ["_law_jug_here", "_law_top", "_law_digit"] ["_law_jug_here", "_law_top"] (defScope (topS 34)) := ⟨rfl, rfl, rfl, by decide +kernel, rfl, by decide +kernel, by decide +kernel⟩
def spSwig : Sp := fun vs H Q _ => ∃ (j : Addr) (t : Int), vs = [.ref j, .int t] ∧ Jug H j ∧ 1 ≤ t ∧ t ≤ 1000000 ∧ ∀ H' d, But j H H' → Jug H' j → 0 ≤ d → d < t → Q (.int d) H'
theorem ok_swig (T : Tp w K mg) : Cal P w K mg base 1 "_law_swig" spSwig [] := by
  refine cal T.swig sc34 (fun vs H Q E h => ?_) (fun f cdv A outer s H vs Q E hr h => ?_)
  · obtain ⟨j, t, rfl, _⟩ := h
    rfl
  · obtain ⟨j, t, rfl, ⟨a, b, hj, ha, hb, hb2⟩, ht, ht2, q⟩ := h
    refine ⟨_, pss_cons (ps_if (pt_cmpR op_gt (pe_ix ix_list (pv 0) pe_int (fun _ _ => rfl)) pe_int (nomark _))
        (pss_cons (ps_asg (pe_callB call_divmod (by rfl) T.b_divmod bo_divmod (pa_cons (pe_ix ix_list (pv 0) pe_int (fun _ _ => rfl)) (pa_cons (pv 1) pa_nil)))
            (pg_tup rfl (pgs_cons (pg_sub (pv 0) pe_int set_list) (pgs_cons (pg_name (i := 2) sc34.nd rfl (.inl rfl)) pgs_nil))))
          (pss_one (ps_ret (pv 2)))) pss_nil)
      (pss_cons (ps_asg (pe_op op_mod (pe_callTy call_int1 (by rfl) T.b_int bo_int (pa_cons (pe_op op_add (pe_op op_mul (pe_ix ix_list (pv 0) pe_int (fun _ _ => rfl)) pe_int) pe_int) pa_nil)) pe_int) (pg_sub (pv 0) pe_int set_list))
      (pss_one (ps_ret (pe_op op_mod (pe_callTy call_int1 (by rfl) T.b_int bo_int (pa_cons (pe_op op_fdiv (pe_ix ix_list (pv 0) pe_int (fun _ _ => rfl)) pe_int) pa_nil)) (pv 1))))), ?_⟩
    refine ⟨.ref j, rfl, j, _, 0, .int a, rfl, rfl, SqL.of hj, atI_nat (j := 0) rfl, a, 0, rfl, rfl, _, rfl, ite2 (fun e => ?_) (fun e => ?_)⟩
    · have ea : 0 < a := of_decide_eq_true e
      refine ⟨.ref j, rfl, j, _, 0, .int a, rfl, rfl, SqL.of hj, atI_nat (j := 0) rfl, .int t, rfl, a, t, rfl, ⟨by omega, by omega⟩, fun p np => ?_⟩
      have hj1 : (upd H p (.tup [.int (a / t), .int (a % t)])) j = some (.lst [.int a, .int b]) := same_new np _ _ hj
      refine ⟨p, _, rfl, SqT.of upd_same, rfl, .int (a / t), _, rfl, .ref j, rfl, j, _, 0, 0, rfl, rfl, hj1, rfl, .int (a % t), [], rfl, rfl, ?_⟩
      refine ⟨.int (a % t), rfl, q _ _ (but_set (Same.but (same_new np))) ⟨a / t, b, upd_same, Int.ediv_nonneg ha (by omega), hb, hb2⟩ (Int.emod_nonneg _ (by omega)) (Int.emod_lt_of_pos _ (by omega))⟩
    · refine ⟨.ref j, rfl, j, _, 0 + 1, .int b, rfl, rfl, SqL.of hj, atI_nat (j := 1) rfl, b, 63601, rfl, rfl, .inl ⟨by omega, by omega⟩, _, 18013, rfl, rfl, .inl ⟨_, rfl, ?_⟩⟩
      obtain ⟨c, hc⟩ : ∃ c, c = b * 63601 + 18013 := ⟨_, rfl⟩
      rw [← hc]
      have m1 : 0 ≤ c % 2147482949 := Int.emod_nonneg _ (by decide)
      have m2 : c % 2147482949 < 2147482949 := Int.emod_lt_of_pos _ (by decide)
      refine ⟨c, 2147482949, rfl, rfl, by show (0 : Int) < 2147482949; decide, .ref j, rfl, j, _, 1, 1, rfl, rfl, hj, rfl, ?_⟩
      have e1 : But j H (upd H j (.lst ([V.int a, V.int b].set 1 (.int (c % 2147482949))))) := but_set (But.refl j H)
      refine ⟨.ref j, rfl, j, _, 1, .int (c % 2147482949), rfl, rfl, SqL.of upd_same, atI_nat (j := 1) rfl, c % 2147482949, 953, rfl, rfl, ⟨by decide, by decide⟩, .inl ⟨_, rfl, ?_⟩⟩
      refine ⟨.int t, rfl, c % 2147482949 / 953, t, rfl, rfl, by show 0 < t; omega, ?_⟩
      exact q _ _ e1 ⟨a, c % 2147482949, upd_same, ha, m1, m2⟩ (Int.emod_nonneg _ (by omega)) (Int.emod_lt_of_pos _ (by omega))

/-! ### _law_jug -/
theorem sc33 : FnScope ["_law_cells", "_law_turn", "_law_cell", "_law_stirred", "_law_each"] ["_law_cells", "_law_turn"] (defScope (topS 33)) := ⟨rfl, rfl, rfl, by decide +kernel, rfl, by decide +kernel, by decide +kernel⟩
def spJug (K : PySem.W.Frag) : Sp := fun vs H Q _ => ∃ (c : Addr) (t : Int) (ns : List Int), vs = [.ref c, .int t] ∧ SqL K H c (ns.map V.int) ∧ ns.length ≤ 63 ∧ 0 ≤ t ∧ t ≤ 100 ∧
  ∀ H' p, Same H H' → H p = none → Jug H' p → Q (.ref p) H'
theorem ok_jug (T : Tp w K mg) : Cal P w K mg base 1 "_law_jug" (spJug K) [] := by
  refine cal T.jug sc33 (fun vs H Q E h => ?_) (fun f cdv A outer s H vs Q E hr h => ?_)
  · obtain ⟨c, t, ns, rfl, _⟩ := h
    rfl
  · obtain ⟨c, t, ns, rfl, hS, h63, ht, ht2, q⟩ := h
    refine ⟨_, C8.pss_cut (ps_set (i := 2) sc33.nd rfl (.inl rfl) (pe_ifExp (pt_cmpR op_lt (pv 1) (pe_callB call_len_seq (by rfl) T.b_len bo_len (pa_cons (pv 0) pa_nil)) (nomark _))
        (pe_ix ix_list (pv 0) (pv 1) (fun _ _ => rfl)) (pe_op op_mul pe_int (pe_op op_add (pv 1) pe_int))))
      (pss_cons (ps_set (i := 3) sc33.nd rfl (.inl rfl) (pe_op op_add pe_int (pe_op op_mul pe_int (pv 1))))
      (pss_cons (ps_for PassesOwn.never rfl (pi_list (pe_op op_cat (pe_slice sl_list (pv 0) po_none (po_some pe_int)) (pe_lst (pa_cons (pv 2) pa_nil)))) (pg_name (i := 4) sc33.nd rfl (.inl rfl))
        (pss_one (ps_set (i := 3) sc33.nd rfl (.inl rfl) (pe_op op_mod (pe_callTy call_int1 (by rfl) T.b_int bo_int (pa_cons (pe_op op_add (pe_op op_add (pe_op op_mul (pv 3) pe_int) (pe_op op_mod (pe_callTy call_int1 (by rfl) T.b_int bo_int (pa_cons (pv 4) pa_nil)) pe_int)) pe_int) pa_nil)) pe_int))))
      (pss_one (ps_ret (pe_lst (pa_cons (pe_ifExp (PW.pt (pw_or (pt_cmpR op_lt (pv 2) pe_int (nomark _)) (pw_or1 (pt_cmpR op_ge (pv 2) (pe_op op_pow pe_int pe_int) (nomark _)))))
        (pe_callB call_abs (by rfl) T.b_abs bo_abs (pa_cons (pv 2) pa_nil)) pe_int) (pa_cons (pv 3) pa_nil))))))), ?_⟩
    refine ⟨fun σ' H' => ∃ cell : Int, σ' = [some (.ref c), some (.int t), some (.int cell), none, none] ∧ H' = H, ?_, fun σ' H' z => ?_⟩
    · refine ⟨.int t, rfl, .ref c, rfl, c, _, rfl, .inl hS, t, _, rfl, rfl, _, rfl, ite2 (fun e => ?_) (fun e => ?_)⟩
      · have e' : t < (((ns.map V.int).length : Nat) : Int) := of_decide_eq_true e
        rw [List.length_map] at e'
        have hi : t.toNat < ns.length := by omega
        refine ⟨.ref c, rfl, .int t, rfl, c, _, t, .int ns[t.toNat], rfl, rfl, hS, at_of (j := t.toNat) (by omega) (by rw [List.getElem?_map, List.getElem?_eq_getElem hi]; rfl), ns[t.toNat], rfl, rfl⟩
      · exact ⟨.int t, rfl, t, 9, rfl, rfl, 51001, _, rfl, rfl, .inl ⟨by omega, by omega⟩, _, rfl, rfl⟩
    · obtain ⟨cell, rfl, rfl⟩ := z
      refine ⟨.int t, rfl, 5077, t, rfl, rfl, .inl ⟨by omega, by omega⟩, 39119, _, rfl, rfl, ?_⟩
      refine ⟨.ref c, rfl, 4, rfl, c, _, rfl, hS, fun p1 n1 => ?_⟩
      refine ⟨.int cell, rfl, line_le (by show 1 ≤ 1000000; decide), fun p2 n2 => ?_⟩
      have e1 : Same H' (upd H' p1 (.lst (cutV (ns.map V.int) none (some 4)))) := same_new n1
      have e2 := same_new (o := .lst [V.int cell]) n2
      have hl : (cutV (ns.map V.int) none (some 4)).length ≤ ns.length := by
        have := cutV_length (ns.map V.int) none (some 4)
        rw [List.length_map] at this
        exact this
      refine ⟨p1, p2, _, _, rfl, rfl, e2 _ _ upd_same, upd_same, line_le (by show _ + 1 ≤ _; omega), fun p3 n3 => ?_⟩
      have e3 := e1.trans (e2.trans (same_new (o := .lst (cutV (ns.map V.int) none (some 4) ++ [V.int cell])) n3))
      -- all are ints
      have hall : ∀ x ∈ cutV (ns.map V.int) none (some 4) ++ [V.int cell], ∃ i, x = V.int i := fun x hx => by
        rcases List.mem_append.mp hx with hx | hx
        · unfold cutV at hx
          obtain ⟨i, _, rfl⟩ := List.mem_map.mp (List.mem_of_mem_drop (List.mem_of_mem_take hx))
          exact ⟨i, rfl⟩
        · exact ⟨cell, List.mem_singleton.mp hx⟩
      refine ⟨p3, rfl, ⟨_, SqL.of upd_same⟩, for_list (xs := cutV (ns.map V.int) none (some 4) ++ [V.int cell]) (fun i σ H2 => ∃ (st : Int) (y : Option V), σ = [some (.ref c), some (.int t), some (.int cell), some (.int st), y] ∧ 0 ≤ st ∧ st < 2147482949 ∧ H2 = upd (upd (upd H' p1 (.lst (cutV (ns.map V.int) none (some 4)))) p2 (.lst [V.int cell])) p3 (.lst (cutV (ns.map V.int) none (some 4) ++ [V.int cell])))
        ⟨_, none, rfl, by omega, by omega, rfl⟩ (fun i σ H2 _ z => ?_) (fun i x σ H2 hx z => ?_) fun σ H2 z => ?_⟩
      · obtain ⟨st, y, _, _, _, rfl⟩ := z
        exact SqL.of upd_same
      · obtain ⟨st, y, rfl, h0, h1, rfl⟩ := z
        obtain ⟨i0, rfl⟩ := hall x (List.mem_of_getElem? hx)
        refine ⟨.int st, rfl, st, 41231, rfl, rfl, .inl ⟨by omega, by omega⟩, .int i0, rfl, .inl ⟨i0, rfl, i0, 2147482949, rfl, rfl, by show (0 : Int) < 2147482949; decide, _, _, rfl, rfl, _, 61, rfl, rfl, .inl ⟨_, rfl, ?_⟩⟩⟩
        obtain ⟨d, hd⟩ : ∃ d, d = st * 41231 + i0 % 2147482949 + 61 := ⟨_, rfl⟩
        rw [← hd]
        have m1 : 0 ≤ d % 2147482949 := Int.emod_nonneg _ (by decide)
        have m2 : d % 2147482949 < 2147482949 := Int.emod_lt_of_pos _ (by decide)
        exact ⟨d, 2147482949, rfl, rfl, by show (0 : Int) < 2147482949; decide, d % 2147482949, some (.int i0), rfl, m1, m2, rfl⟩
      · obtain ⟨st, y, rfl, h0, h1, rfl⟩ := z
        have fin : ∀ (a : Int) p (n : (upd (upd (upd H' p1 (.lst (cutV (ns.map V.int) none (some 4)))) p2 (.lst [V.int cell])) p3 (.lst (cutV (ns.map V.int) none (some 4) ++ [V.int cell]))) p = none), 0 ≤ a → Q (.ref p) (upd (upd (upd (upd H' p1 (.lst (cutV (ns.map V.int) none (some 4)))) p2 (.lst [V.int cell])) p3 (.lst (cutV (ns.map V.int) none (some 4) ++ [V.int cell]))) p (.lst [.int a, .int st])) :=
          fun a p n ha => q _ p (same_newer e3 n) (e3.free n) ⟨a, st, upd_same, ha, h0, h1⟩
        refine ⟨.int cell, rfl, cell, 0, rfl, rfl, _, rfl, ite2 (fun e => ?_) (fun e => ?_)⟩
        · refine ⟨.int cell, rfl, cell, rfl, .int st, rfl, line_le (by show 2 ≤ 1000000; decide), fun p n => fin _ p n ?_⟩
          split <;> omega
        · refine ⟨.int cell, rfl, 10, 17, rfl, rfl, ⟨by decide, by decide, by decide⟩, cell, _, rfl, rfl, _, rfl, ite2 (fun e => ?_) (fun e => ?_)⟩
          · refine ⟨.int cell, rfl, cell, rfl, .int st, rfl, line_le (by show 2 ≤ 1000000; decide), fun p n => fin _ p n ?_⟩
            split <;> omega
          · exact ⟨.int st, rfl, line_le (by show 2 ≤ 1000000; decide), fun p n => fin 0 p n (Int.le_refl 0)⟩

/-! ### _law_one -/
theorem sc35 : FnScope ["_law_jug_here", "_law_things"] ["_law_jug_here", "_law_things"] (defScope (topS 35)) := ⟨rfl, rfl, rfl, by decide +kernel, rfl, by decide +kernel, by decide +kernel⟩
def spOne (K : PySem.W.Frag) : Sp := fun vs H Q _ => ∃ (j th : Addr) (xs : List V), vs = [.ref j, .ref th] ∧ Jug H j ∧ SqL K H th xs ∧ th ≠ j ∧ 1 ≤ xs.length ∧ xs.length ≤ 1000 ∧
  ∀ H' x, But j H H' → Jug H' j → x ∈ xs → Q x H'
theorem ok_one (T : Tp w K mg) : Cal P w K mg base 2 "_law_one" (spOne K) [] := by
  refine cal T.one sc35 (fun vs H Q E h => ?_) (fun f cdv A outer s H vs Q E hr h => ?_)
  · obtain ⟨j, th, xs, rfl, _⟩ := h
    rfl
  · obtain ⟨j, th, xs, rfl, hj, hS, hne, h1, h2, q⟩ := h
    refine ⟨_, pss_one (ps_ret (pe_ix ix_list (pv 1) (C8.pe_c (ok_swig T) hr (by decide) (by rfl) (pa_cons (pv 0) (pa_cons (pe_callB call_len_seq (by rfl) T.b_len bo_len (pa_cons (pv 1) pa_nil)) pa_nil))) (fun _ _ => rfl))), ?_⟩
    refine ⟨.ref th, rfl, .ref j, rfl, .ref th, rfl, th, xs, rfl, .inl hS, j, _, rfl, hj, by omega, by omega, fun H' d e jg h3 h4 => ?_⟩
    have hd : d.toNat < xs.length := by omega
    exact ⟨th, xs, d, xs[d.toNat], rfl, rfl, e.seq hne hS, at_of (j := d.toNat) (by omega) (List.getElem?_eq_getElem hd), q _ _ e jg (List.getElem_mem hd)⟩

/-! ### _law_sorts -/
theorem sc37 : FnScope [] [] (defScope (topS 37)) := ⟨rfl, rfl, rfl, by decide +kernel, rfl, by decide +kernel, by decide +kernel⟩
def spSorts : Sp := fun vs H Q _ => vs = [] ∧ ∀ p, H p = none → Q (.ref p) (upd H p (.lst [.str "first", .str "last", .str "ring"]))
theorem ok_sorts (T : Tp w K mg) : Cal P w K mg base 1 "_law_sorts" spSorts [] := by
  refine cal T.sorts sc37 (fun vs H Q E h => ?_) (fun f cdv A outer s H vs Q E hr h => ?_)
  · obtain ⟨rfl, _⟩ := h
    rfl
  · obtain ⟨rfl, q⟩ := h
    refine ⟨_, pss_one (ps_ret (pe_lst (pa_cons pe_str (pa_cons pe_str (pa_cons pe_str pa_nil))))), ?_⟩
    exact ⟨line_le (by show 3 ≤ 1000000; decide), q⟩

/-! ### _law_shuffled -/
theorem sc36 : FnScope ["_law_jug_here", "_law_things", "_law_found", "_law_rest", "_law_turn", "_law_at"] ["_law_jug_here", "_law_things"] (defScope (topS 36)) := ⟨rfl, rfl, rfl, by decide +kernel, rfl, by decide +kernel, by decide +kernel⟩
def spShuffled (K : PySem.W.Frag) : Sp := fun vs H Q _ => ∃ (j th : Addr) (ns : List Int), vs = [.ref j, .ref th] ∧ Jug H j ∧ SqL K H th (ns.map V.int) ∧ th ≠ j ∧ ns.length ≤ 60 ∧
  ∀ H' p (ms : List Int), But j H H' → Jug H' j → H p = none → H' p = some (.lst (ms.map V.int)) → ms.Perm ns → Q (.ref p) H'
theorem cut_fromL {xs : List V} {i : Nat} (h : i ≤ xs.length) : cutV xs (some (i : Int)) none = xs.drop i := cut_from h
theorem perm_take {α : Type} (fs rs : List α) (d : Nat) (h : d < rs.length) : ((fs ++ [rs[d]]) ++ (rs.take d ++ rs.drop (d + 1))).Perm (fs ++ rs) := by
  have e : rs = rs.take d ++ rs[d] :: rs.drop (d + 1) := by
    rw [List.getElem_cons_drop, List.take_append_drop]
  have p : (rs[d] :: (rs.take d ++ rs.drop (d + 1))).Perm rs := by
    have := (List.perm_middle (a := rs[d]) (l₁ := rs.take d) (l₂ := rs.drop (d + 1))).symm
    rw [← e] at this
    exact this
  rw [List.append_assoc]
  exact p.append_left fs
theorem ok_shuffled (T : Tp w K mg) : Cal P w K mg base 2 "_law_shuffled" (spShuffled K) [] := by
  refine cal T.shuffled sc36 (fun vs H Q E h => ?_) (fun f cdv A outer s H vs Q E hr h => ?_)
  · obtain ⟨j, th, ns, rfl, _⟩ := h
    rfl
  · obtain ⟨j, th, ns, rfl, hj, hS, hne, h60, q⟩ := h
    refine ⟨_, pss_cons (ps_par (i := 2) (j := 3) rfl sc36.nd rfl rfl (by decide) rfl rfl (pa_cons (pe_lst pa_nil) (pa_cons (pe_callTy call_list_of (by rfl) T.b_list bo_list (pa_cons (pv 1) pa_nil)) pa_nil)) (by rfl))
      (pss_cons (ps_for PassesOwn.never rfl (pi_range1 (by rfl) T.b_range (pa_cons (pe_callB call_len_seq (by rfl) T.b_len bo_len (pa_cons (pv 1) pa_nil)) pa_nil)) (pg_name (i := 4) sc36.nd rfl (.inl rfl))
        (pss_cons (ps_set (i := 5) sc36.nd rfl (.inl rfl) (C8.pe_c (ok_swig T) hr (by decide) (by rfl) (pa_cons (pv 0) (pa_cons (pe_callB call_len_seq (by rfl) T.b_len bo_len (pa_cons (pv 3) pa_nil)) pa_nil))))
        (pss_one (ps_par (i := 2) (j := 3) rfl sc36.nd rfl rfl (by decide) rfl rfl (pa_cons (pe_op op_cat (pv 2) (pe_lst (pa_cons (pe_ix ix_list (pv 3) (pv 5) (fun _ _ => rfl)) pa_nil)))
          (pa_cons (pe_op op_cat (pe_slice sl_list (pv 3) po_none (po_some (pv 5))) (pe_slice sl_list (pv 3) (po_some (pe_op op_add (pv 5) pe_int)) po_none)) pa_nil)) (by rfl)))))
      (pss_one (ps_ret (pv 2)))), ?_⟩
    refine ⟨Nat.zero_le _, fun f0 nf => ?_⟩
    have e1 : Same H (upd H f0 (.lst [])) := same_new nf
    refine ⟨.ref th, rfl, th, _, rfl, .inl (e1.seq hS), fun r0 nr => ?_⟩
    have e2 : Same (upd H f0 (.lst [])) (upd (upd H f0 (.lst [])) r0 (.lst (ns.map V.int))) := same_new nr
    refine ⟨.ref f0, .ref r0, rfl, ?_⟩
    refine ⟨.ref th, rfl, th, _, rfl, .inl ((e1.trans e2).seq hS), _, rfl, by rw [List.length_map]; omega, by rw [List.length_map]; omega, ?_⟩
    rw [List.length_map, Int.toNat_natCast]
    refine for_range (lo := 0) (n := ns.length) (fun i σ H' => ∃ (f r : Addr) (fs rs : List Int) (y4 y5 : Option V), σ = [some (.ref j), some (.ref th), some (.ref f), some (.ref r), y4, y5] ∧ But j H H' ∧ Jug H' j ∧ H f = none ∧ H r = none ∧ H' f = some (.lst (fs.map V.int)) ∧ H' r = some (.lst (rs.map V.int)) ∧ (fs ++ rs).Perm ns ∧ rs.length + i = ns.length)
      ⟨f0, r0, [], ns, none, none, rfl, Same.but (e1.trans e2), hj.same (e1.trans e2), nf, e1.free nr, e2 _ _ upd_same, upd_same, List.Perm.refl _, rfl⟩ (fun i σ H' hi z => ?_) fun σ H' z => ?_
    · obtain ⟨f, r, fs, rs, y4, y5, rfl, e, jg, nf, nr, hf, hrr, hp, hlen⟩ := z
      refine ⟨.ref j, rfl, .ref r, rfl, r, _, rfl, .inl (SqL.of hrr), j, _, rfl, jg, by rw [List.length_map]; omega, by rw [List.length_map]; omega, fun H1 d e3 jg1 d0 d1 => ?_⟩
      rw [List.length_map] at d1
      have hd : d.toNat < rs.length := by omega
      have hdi : d = (d.toNat : Int) := by omega
      have fj : f ≠ j := But.ne hj nf
      have rj : r ≠ j := But.ne hj nr
      have hf1 : H1 f = some (.lst (fs.map V.int)) := e3 _ _ fj hf
      have hr1 : H1 r = some (.lst (rs.map V.int)) := e3 _ _ rj hrr
      refine ⟨.ref f, rfl, .ref r, rfl, .int d, rfl, r, _, d, .int rs[d.toNat], rfl, rfl, SqL.of hr1, at_of (j := d.toNat) hdi (by rw [List.getElem?_map, List.getElem?_eq_getElem hd]; rfl), line_le (by show 1 ≤ 1000000; decide), fun t1 m1 => ?_⟩
      have g1 := same_new (o := .lst [V.int rs[d.toNat]]) m1
      have fl : fs.length ≤ ns.length := by
        have := hp.length_eq
        rw [List.length_append] at this
        omega
      refine ⟨f, t1, _, _, rfl, rfl, g1 _ _ hf1, upd_same, line_le (by rw [List.length_map]; show _ + 1 ≤ _; omega), fun f2 m2 => ?_⟩
      have g2 := g1.trans (same_new (o := .lst (fs.map V.int ++ [V.int rs[d.toNat]])) m2)
      refine ⟨.ref r, rfl, .int d, rfl, d, rfl, r, _, rfl, SqL.of (g2 _ _ hr1), fun t2 m3 => ?_⟩
      have g3 := g2.trans (same_new (o := .lst (cutV (rs.map V.int) none (some d))) m3)
      refine ⟨.ref r, rfl, .int d, rfl, d, 1, rfl, rfl, d + 1, rfl, r, _, rfl, SqL.of (g3 _ _ hr1), fun t3 m4 => ?_⟩
      have g4 := g3.trans (same_new (o := .lst (cutV (rs.map V.int) (some (d + 1)) none)) m4)
      have ht2 := (same_new (o := .lst (cutV (rs.map V.int) (some (d + 1)) none)) m4) t2 _ upd_same
      have c1 : cutV (rs.map V.int) none (some d) = (rs.take d.toNat).map V.int := by
        rw [hdi, cut_to (by rw [List.length_map]; omega), Int.toNat_natCast, List.map_take]
      have c2 : cutV (rs.map V.int) (some (d + 1)) none = (rs.drop (d.toNat + 1)).map V.int := by
        rw [show d + 1 = ((d.toNat + 1 : Nat) : Int) by omega, cut_from (by rw [List.length_map]; omega), List.map_drop]
      refine ⟨t2, t3, _, _, rfl, rfl, ht2, upd_same, ?_, fun r2 m5 => ?_⟩
      · rw [c1, c2, List.length_map, List.length_map, List.length_take, List.length_drop]
        exact line_le (by omega)
      · have g5 := g4.trans (same_new (o := .lst (cutV (rs.map V.int) none (some d) ++ cutV (rs.map V.int) (some (d + 1)) none)) m5)
        have g25 := (same_new (o := .lst (cutV (rs.map V.int) none (some d))) m3).trans ((same_new (o := .lst (cutV (rs.map V.int) (some (d + 1)) none)) m4).trans (same_new (o := .lst (cutV (rs.map V.int) none (some d) ++ cutV (rs.map V.int) (some (d + 1)) none)) m5))
        have ez := e.trans (e3.trans (Same.but g5))
        refine ⟨.ref f2, .ref r2, rfl, f2, r2, fs ++ [rs[d.toNat]], rs.take d.toNat ++ rs.drop (d.toNat + 1), _, _, rfl, ez, jg1.same g5, ?_, ?_, ?_, ?_, (perm_take fs rs d.toNat hd).trans hp, ?_⟩
        · exact (e.trans (e3.trans (Same.but g1))).free (jg1.same g1) m2
        · exact (e.trans (e3.trans (Same.but g4))).free (jg1.same g4) m5
        · rw [List.map_append]
          exact g25 _ _ upd_same
        · rw [upd_same, c1, c2, List.map_append]
        · rw [List.length_append, List.length_take, List.length_drop]
          omega
    · obtain ⟨f, r, fs, rs, y4, y5, rfl, e, jg, nf, nr, hf, hrr, hp, hlen⟩ := z
      have : rs = [] := List.eq_nil_of_length_eq_zero (by omega)
      subst this
      rw [List.append_nil] at hp
      exact ⟨.ref f, rfl, q H' f fs e jg nf hf hp⟩
end
end K67

/-! The law's texts, ends, spots. -/
namespace K67
open PySem PySem.Spec PyProof.Rows L2

section
variable {P : Program} {w : World} {K : PySem.W.Frag} {mg : Str → Option Value} {base : Heap}

/-! ### _law_line -/
theorem sc38 : FnScope ["_law_jug_here", "_law_most", "_law_top", "_law_below", "_law_k"] ["_law_jug_here", "_law_most", "_law_top"] (defScope (topS 38)) := ⟨rfl, rfl, rfl, by decide +kernel, rfl, by decide +kernel, by decide +kernel⟩
def spLine : Sp := fun vs H Q _ => ∃ (j : Addr) (most top : Int), vs = [.ref j, .int most, .int top] ∧ Jug H j ∧ 1 ≤ most ∧ most ≤ 60 ∧ 1 ≤ top ∧ top ≤ 100 ∧
  ∀ H' p (ns : List Int), But j H H' → Jug H' j → H' p = some (.tup (ns.map V.int)) → 1 ≤ ns.length → (ns.length : Int) ≤ most → (∀ x ∈ ns, 0 ≤ x ∧ x < top) → Q (.ref p) H'
theorem ok_line (T : Tp w K mg) : Cal P w K mg base 2 "_law_line" spLine [] := by
  refine cal T.line sc38 (fun vs H Q E h => ?_) (fun f cdv A outer s H vs Q E hr h => ?_)
  · obtain ⟨j, most, top, rfl, _⟩ := h
    rfl
  · obtain ⟨j, most, top, rfl, hj, hm1, hm2, ht1, ht2, q⟩ := h
    refine ⟨_, pss_cons (ps_set (i := 3) sc38.nd rfl (.inr rfl) (pe_op op_add pe_int (C8.pe_c (ok_swig T) hr (by decide) (by rfl) (pa_cons (pv 0) (pa_cons (pv 2) pa_nil)))))
      (pss_one (ps_ret (pe_callTy call_tuple_of (by rfl) T.b_tuple bo_tuple (pa_cons
        (pe_lc (own := [("_law_k", 4)]) (g := gName 4) (tt := tYes) rfl sc38.nd (pi_range1 (by rfl) T.b_range (pa_cons (pe_op op_add pe_int (C8.pe_c (ok_swig T) hr (by decide) (by rfl) (pa_cons (pv 0) (pa_cons (pv 1) pa_nil)))) pa_nil))
          (blkOk_by (N := ["_law_jug_here", "_law_most", "_law_top", "_law_below", "_law_k"]) (sc := defScope (topS 38)) (by decide +kernel))
          (fun _ _ _ _ _ => pg_name (i := 4) sc38.nd rfl (Or.inl rfl)) (fun _ _ _ _ _ => pts_nil)
          (fun _ _ _ _ _ => C8.pe_c (ok_swig T) hr (by decide) (by rfl) (pa_cons (pv 0) (pa_cons (pv 3) pa_nil)))) pa_nil)))), ?_⟩
    refine ⟨.ref j, rfl, .int top, rfl, j, top, rfl, hj, by omega, by omega, fun H1 d e1 j1 d0 d1 => ?_⟩
    refine ⟨1, d, rfl, rfl, .ref j, rfl, .int most, rfl, j, most, rfl, j1, by omega, by omega, fun H2 c e2 j2 c0 c1 => ?_⟩
    refine ⟨1, c, rfl, rfl, _, rfl, by omega, by omega, fun D nD => ?_⟩
    have nj : D ≠ j := But.ne j2 nD
    refine lc_range (lo := 0) (n := (1 + c).toNat) (fun i H' => ∃ ns : List Int, But j H2 H' ∧ Jug H' j ∧ H' D = some (.lst (ns.map V.int)) ∧ ns.length = i ∧ ∀ x ∈ ns, 0 ≤ x ∧ x < 1 + d)
      ⟨[], but_at (But.refl j H2) nD, j2.new nD, upd_same, rfl, fun _ z => by cases z⟩ (fun i H' hi z => ?_) fun H' z => ?_
    · obtain ⟨ns, e, jg, hD, hl, hb⟩ := z
      refine ⟨rfl, ?_⟩
      refine ⟨.ref j, rfl, .int (1 + d), rfl, j, 1 + d, rfl, jg, by omega, by omega, fun H3 x e3 j3 x0 x1 => ?_⟩
      refine ⟨_, e3 _ _ nj hD, line_lt (by rw [List.length_map]; omega), ns ++ [x], but_at (e.trans e3) nD, j3.upd nj, ?_, ?_, fun y hy => ?_⟩
      · rw [upd_same, List.map_append]
        rfl
      · rw [List.length_append, hl]
        rfl
      · rcases List.mem_append.mp hy with hy | hy
        · exact hb y hy
        · rw [List.mem_singleton.mp hy]
          exact ⟨x0, x1⟩
    · obtain ⟨ns, e, jg, hD, hl, hb⟩ := z
      refine ⟨D, _, rfl, .inl ⟨SqL.of hD, fun l nl => ?_⟩⟩
      exact q _ l ns (e1.trans (e2.trans (e.trans (Same.but (same_new nl))))) (jg.new nl) upd_same (by omega) (by omega) fun x hx => by have := hb x hx; omega

/-! ### _law_drawn_spots -/
/-- a tuple of ints whose own object is known -/
def TupZ (H : Hp) (p : Addr) (ms : List Int) : Prop := ∃ o : Obj, H p = some (.frz o (.tup (ms.map V.int))) ∧ o.cls = .type "tuple" ∧ o.dict = none
theorem TupZ.sq {H : Hp} {p : Addr} {ms : List Int} (h : TupZ H p ms) : SqT K H p (ms.map V.int) := by
  obtain ⟨o, h, _⟩ := h
  exact .inl (.inr ⟨o, h⟩)
theorem TupZ.same {H H' : Hp} {p : Addr} {ms : List Int} (e : Same H H') (h : TupZ H p ms) : TupZ H' p ms := by
  obtain ⟨o, h, r⟩ := h
  exact ⟨o, e _ _ h, r⟩
theorem TupZ.ne {H : Hp} {p j : Addr} {ms : List Int} (jg : Jug H j) (h : TupZ H p ms) : p ≠ j := fun z => by
  obtain ⟨o, h, r⟩ := h
  obtain ⟨a, b, hj, _⟩ := jg
  rw [z, hj] at h
  cases h
theorem TupZ.but {H H' : Hp} {p j : Addr} {ms : List Int} (e : But j H H') (jg : Jug H j) (h : TupZ H p ms) : TupZ H' p ms := by
  have n := h.ne jg
  obtain ⟨o, h, r⟩ := h
  exact ⟨o, e _ _ n h, r⟩
theorem sc45 : FnScope ["_law_jug_here", "_law_most"] ["_law_jug_here", "_law_most"] (defScope (topS 45)) := ⟨rfl, rfl, rfl, by decide +kernel, rfl, by decide +kernel, by decide +kernel⟩
def spDrawn : Sp := fun vs H Q _ => ∃ (j : Addr) (most : Int), vs = [.ref j, .int most] ∧ Jug H j ∧ 1 ≤ most ∧ most ≤ 60 ∧
  ∀ H' p (ms : List Int) (n : Nat), But j H H' → Jug H' j → TupZ H' p ms → ms.Perm (rng n) → 1 ≤ n → (n : Int) ≤ most → Q (.ref p) H'
theorem ok_drawn (T : Tp w K mg) : Cal P w K mg base 3 "_law_drawn_spots" spDrawn [] := by
  refine cal T.drawn_spots sc45 (fun vs H Q E h => ?_) (fun f cdv A outer s H vs Q E hr h => ?_)
  · obtain ⟨j, most, rfl, _⟩ := h
    rfl
  · obtain ⟨j, most, rfl, hj, hm1, hm2, q⟩ := h
    refine ⟨_, pss_one (ps_ret (pe_callTy call_tupleZ (by rfl) T.b_tuple bo_tuple (pa_cons (C8.pe_c (ok_shuffled T) hr (by decide) (by rfl) (pa_cons (pv 0) (pa_cons
      (pe_listRg rfl (by rfl) T.b_list (prg_1 (by rfl) T.b_range (pe_op op_add pe_int (C8.pe_c (ok_swig T) hr (by decide) (by rfl) (pa_cons (pv 0) (pa_cons (pv 1) pa_nil)))))) pa_nil))) pa_nil))), ?_⟩
    refine ⟨.ref j, rfl, .ref j, rfl, .int most, rfl, j, most, rfl, hj, by omega, by omega, fun H1 d e1 j1 d0 d1 => ?_⟩
    refine ⟨1, d, rfl, rfl, _, rfl, RgOk.of_le (by omega) (by omega) (by omega) (by omega), fun r nr => ?_⟩
    have hn : (1 : Int) + d = ((1 + d).toNat : Nat) := by omega
    have er : rgV 0 (1 + d) = (rng (1 + d).toNat).map V.int := by rw [hn, rgV_rng, Int.toNat_natCast]
    have e2 : Same H1 (upd H1 r (.lst (rgV 0 (1 + d)))) := same_new nr
    have j2 := j1.same e2
    refine ⟨j, r, rng (1 + d).toNat, rfl, j2, SqL.of (by rw [upd_same, er]), But.ne j1 nr, by rw [rng_length]; omega, fun H2 p ms e3 j3 np hp hperm => ?_⟩
    refine ⟨p, _, rfl, SqL.of hp, fun l o hc hd nl => ?_⟩
    exact q _ l ms (1 + d).toNat (e1.trans ((Same.but e2).trans (e3.trans (Same.but (same_new nl))))) (j3.new nl) ⟨o, upd_same, hc, hd⟩ hperm (by omega) (by omega)

/-! ### _law_ends -/
theorem sc39 : FnScope ["_law_line_here", "_law_sort", "_law_found", "_law_past_all", "_law_k", "_law_tail"] ["_law_line_here", "_law_sort"] (defScope (topS 39)) := ⟨rfl, rfl, rfl, by decide +kernel, rfl, by decide +kernel, by decide +kernel⟩
theorem ok_ends (T : Tp w K mg) : Cal P w K mg base 1 "_law_ends" (spEnds 10000000000000000000 K) [] := by
  refine cal T.ends sc39 (fun vs H Q E h => ?_) (fun f cdv A outer s H vs Q E hr h => ?_)
  · obtain ⟨l, k, ns, rfl, _⟩ := h
    rfl
  · obtain ⟨l, k, ns, rfl, hS, h60, q⟩ := h
    have hlenV : (ns.map V.int).length = ns.length := List.length_map ..
    refine ⟨_, C8.pss_cut (ps_par (i := 2) (j := 3) rfl sc39.nd rfl rfl (by decide) rfl rfl (pa_cons (pe_lst pa_nil) (pa_cons (pe_lst (pa_cons (pe_ifExp (pt_cmpR op_eq (pv 1) pe_str (nomark _)) (pe_un un_neg pe_int) (pe_op op_pow pe_int pe_int)) pa_nil)) pa_nil)) (by rfl))
      (pss_cons (ps_for PassesOwn.never rfl (pi_range1 (by rfl) T.b_range (pa_cons (pe_callB call_len_seq (by rfl) T.b_len bo_len (pa_cons (pv 0) pa_nil)) pa_nil)) (pg_name (i := 4) sc39.nd rfl (.inl rfl))
        (C8.pss_cut (ps_set (i := 5) sc39.nd rfl (.inl rfl) (pe_ifExp (pt_cmpR op_eq (pv 1) pe_str (nomark _)) (pe_callTy call_list_of (by rfl) T.b_list bo_list (pa_cons (pe_slice sl_tupG (pv 0) po_none (po_some (pv 4))) pa_nil)) (pv 3)))
        (pss_one (ps_expr (pe_bm PySem.F.plainAttrs_list PySem.F.slot_list_append PySem.F.type_list_append mt_append (pv 2) (pa_cons (pe_op op_cat (pe_callTy call_list_of (by rfl) T.b_list bo_list (pa_cons (pe_slice sl_tupG (pv 0) (po_some (pv 4)) po_none) pa_nil)) (pv 5)) pa_nil))))))
      (pss_one (ps_ret (pv 2)))), ?_⟩
    refine ⟨fun σ' H1 => ∃ (f t : Addr) (m : Int), σ' = [some (.ref l), some (.str k.nm), some (.ref f), some (.ref t), none, none] ∧ Same H H1 ∧ H f = none ∧ H1 f = some (.lst []) ∧ H1 t = some (.lst [.int m]) ∧ (k ≠ .ring → ∀ i, tailAt 10000000000000000000 k ns i = [m]), ?_, fun σ' H1 z => ?_⟩
    · refine ⟨Nat.zero_le _, fun f nf => ?_⟩
      have e1 : Same H (upd H f (.lst [])) := same_new nf
      refine ⟨.str k.nm, rfl, rfl, _, rfl, ?_⟩
      rw [eq_first]
      refine ite2 (fun ek => ?_) (fun ek => ?_)
      · obtain rfl : k = .first := of_decide_eq_true ek
        refine ⟨1, rfl, line_le (by show 1 ≤ 1000000; decide), fun t nt => ?_⟩
        have e2 : Same (upd H f (.lst [])) (upd (upd H f (.lst [])) t (.lst [.int (-1)])) := same_new nt
        exact ⟨.ref f, .ref t, rfl, f, t, -1, rfl, e1.trans e2, nf, e2 _ _ upd_same, upd_same, fun _ _ => rfl⟩
      · have kf : k ≠ .first := fun z => ek (decide_eq_true z)
        refine ⟨10, 19, rfl, rfl, ⟨by decide, by decide, by decide⟩, line_le (by show 1 ≤ 1000000; decide), fun t nt => ?_⟩
        have e2 : Same (upd H f (.lst [])) (upd (upd H f (.lst [])) t (.lst [.int ((10 : Int) ^ (19 : Int).toNat)])) := same_new nt
        refine ⟨.ref f, .ref t, rfl, f, t, (10 : Int) ^ (19 : Int).toNat, rfl, e1.trans e2, nf, e2 _ _ upd_same, upd_same, fun kr i => ?_⟩
        cases k with
        | first => exact absurd rfl kf
        | last => rfl
        | ring => exact absurd rfl kr
    · obtain ⟨f, t, m, rfl, e1, nf, hf, ht, hm⟩ := z
      refine ⟨.ref l, rfl, l, _, rfl, .inr (e1.seqT hS), _, rfl, by omega, by omega, ?_⟩
      rw [hlenV, Int.toNat_natCast]
      have tf : t ≠ f := fun z => by
        rw [z, hf] at ht
        cases ht
      refine for_range (lo := 0) (n := ns.length) (fun i σ H' => ∃ (as : List Addr) (y4 y5 : Option V), σ = [some (.ref l), some (.str k.nm), some (.ref f), some (.ref t), y4, y5] ∧ Same H H' ∧ H' f = some (.lst (as.map V.ref)) ∧ H' t = some (.lst [.int m]) ∧ Paired (RowAt f H') as ((rows 10000000000000000000 k ns).take i))
        ⟨[], none, none, rfl, e1, hf, ht, .nil⟩ (fun i σ H' hi z => ?_) fun σ H' z => ?_
      · obtain ⟨as, y4, y5, rfl, e, hf', ht', hp⟩ := z
        rw [Int.zero_add]
        refine ⟨fun σ' H2 => ∃ u, σ' = [some (.ref l), some (.str k.nm), some (.ref f), some (.ref t), some (.int i), some (.ref u)] ∧ Same H' H2 ∧ H2 u = some (.lst ((tailAt 10000000000000000000 k ns i).map V.int)), ?_, fun σ' H2 z => ?_⟩
        · refine ⟨.str k.nm, rfl, rfl, _, rfl, ?_⟩
          rw [eq_ring]
          refine ite2 (fun ek => ?_) (fun ek => ?_)
          · obtain rfl : k = .ring := of_decide_eq_true ek
            refine ⟨.ref l, rfl, .int i, rfl, i, rfl, l, _, rfl, e.seqT hS, fun p H2 e2 s2 => ?_⟩
            rw [cut_to (by omega)] at s2
            refine ⟨p, _, rfl, .inr s2, fun u nu => ⟨u, rfl, e2.trans (same_new nu), ?_⟩⟩
            rw [upd_same]
            show _ = some (HO.lst ((ns.take i).map V.int))
            rw [List.map_take]
          · have kr : k ≠ .ring := fun z => ek (decide_eq_true z)
            refine ⟨.ref t, rfl, t, rfl, Same.refl _, ?_⟩
            rw [hm kr i]
            exact ht'
        · obtain ⟨u, rfl, e2, hu⟩ := z
          have hf2 := e2 _ _ hf'
          refine ⟨.ref f, rfl, .inl ⟨rfl, _, SqL.of hf2⟩, .ref l, rfl, .int i, rfl, i, rfl, l, _, rfl, (e.trans e2).seqT hS, fun p H3 e3 s3 => ?_⟩
          rw [cut_from (by omega)] at s3
          refine ⟨p, _, rfl, .inr s3, fun a na => ?_⟩
          have e4 : Same H3 (upd H3 a (.lst ((ns.map V.int).drop i))) := same_new na
          have hu4 := e4 _ _ (e3 _ _ hu)
          have tl : (tailAt 10000000000000000000 k ns i).length ≤ 60 := by
            unfold tailAt
            cases k <;> simp <;> omega
          refine ⟨.ref u, rfl, a, u, _, _, rfl, rfl, upd_same, hu4, line_le (by rw [List.length_drop, List.length_map, List.length_map]; omega), fun b nb => ?_⟩
          have e5 := e2.trans (e3.trans (e4.trans (same_new (o := .lst ((ns.map V.int).drop i ++ (tailAt 10000000000000000000 k ns i).map V.int)) nb)))
          have bf : b ≠ f := fun z => by
            have := (e2.trans (e3.trans e4)) _ _ hf'
            rw [z, this] at nb
            cases nb
          refine ⟨f, _, .ref b, rfl, rfl, e5 _ _ hf', line_lt (by rw [List.length_map]; have := paired_len hp; omega), ?_⟩
          refine ⟨as ++ [b], _, _, rfl, same_at (e.trans e5) nf, ?_, ?_, ?_⟩
          · rw [upd_same, List.map_append]
            rfl
          · rw [upd_ne tf]
            exact e5 _ _ ht'
          · refine paired_snoc hi (rows_upd (rows_same e5 hp)) ⟨bf, ?_⟩
            rw [upd_ne bf, upd_same]
            unfold rowAt
            rw [List.map_append, List.map_drop]
      · obtain ⟨as, y4, y5, rfl, e, hf', ht', hp⟩ := z
        rw [rows_all] at hp
        exact ⟨.ref f, rfl, q H' f as e nf hf' hp⟩
end
end K67

/-! The law's spots, next ranks, rises, least and higher texts. -/
namespace K67
open PySem PySem.Spec PyProof.Rows L2

def rTupOf (K : PySem.W.Frag) : List V → Hp → VK → Prop := fun xs H Q => ∃ p ys, xs = [.ref p] ∧ ((SqL K H p ys ∧ ∀ l, H l = none → Q (.ref l) (upd H l (.tup ys))) ∨ (SqT K H p ys ∧ Q (.ref p) H))
theorem tup_ofK {X : Cx} {K : PySem.W.Frag} (hk : X.K = K := by rfl) : CallR X (.type "tuple") (rTupOf K) := by
  subst hk
  exact call_tuple_of
theorem eqv_nil (fs : List Int) : PyData.eqv (.list (fs.map .int)) (.list []) = decide (fs = []) := eqv_ints fs []
theorem twin_iff {l : List Rw} {n : Nat} (h : l.length = n) : twin l = true ↔ ∃ a, a < n - 1 ∧ (l.getD a ([], 0)).1 = (l.getD (a + 1) ([], 0)).1 := by
  unfold twin
  rw [List.any_eq_true, h]
  constructor
  · rintro ⟨a, ha, e⟩
    exact ⟨a, List.mem_range.mp ha, of_decide_eq_true e⟩
  · rintro ⟨a, ha, e⟩
    exact ⟨a, List.mem_range.mpr ha, decide_eq_true e⟩

section
variable {P : Program} {w : World} {K : PySem.W.Frag} {mg : Str → Option Value} {base : Heap}

theorem sc40 : FnScope ["_law_line_here", "_law_sort", "_law_pairs", "_law_k", "_law_end", "_d5", "_d6"] ["_law_line_here", "_law_sort"] (defScope (topS 40)) := ⟨rfl, rfl, rfl, by decide +kernel, rfl, by decide +kernel, by decide +kernel⟩
def spSpots (T : Int) (K : PySem.W.Frag) : Sp := fun vs H Q _ => ∃ (l : Addr) (k : Kd) (ns : List Int), vs = [.ref l, .str k.nm] ∧ SqT K H l (ns.map V.int) ∧ ns.length ≤ 60 ∧
  ∀ H', Same H H' → (spots T k ns = none → Q .non H') ∧ ∀ ms p, spots T k ns = some ms → H p = none → H' p = some (.tup (ms.map V.int)) → Q (.ref p) H'
theorem ok_spots (T : Tp w K mg) : Cal P w K mg base 2 "_law_spots" (spSpots 10000000000000000000 K) [] := by
  refine cal T.spots sc40 (fun vs H Q E h => ?_) (fun f cdv A outer s H vs Q E hr h => ?_)
  · obtain ⟨l, k, ns, rfl, _⟩ := h
    rfl
  · obtain ⟨l, k, ns, rfl, hS, h60, q⟩ := h
    refine ⟨_, pss_cons (ps_set (i := 2) sc40.nd rfl (.inr rfl) (pe_callB (cr_sortedR hr.units) (by rfl) T.b_sorted bo_sorted (pa_cons
        (pe_lc (own := [("_law_k", 3), ("_law_end", 4)]) (g := gTup K 2 (gCons (gName 3) (gCons (gName 4) gNil))) (tt := tYes) rfl sc40.nd (pi_enum (by rfl) T.b_enumerate (pa_cons (C8.pe_c (ok_ends T) hr (by decide) (by rfl) (pa_cons (pv 0) (pa_cons (pv 1) pa_nil))) pa_nil)) (blkOk_by (N := ["_law_line_here", "_law_sort", "_law_pairs", "_law_k", "_law_end", "_d5", "_d6"]) (sc := defScope (topS 40)) (by decide +kernel))
          (fun _ _ _ _ _ => pg_tupK rfl (pgs_cons (pg_name (i := 3) sc40.nd rfl (Or.inl rfl)) (pgs_cons (pg_name (i := 4) sc40.nd rfl (Or.inl rfl)) pgs_nil))) (fun _ _ _ _ _ => pts_nil)
          (fun _ _ _ _ _ => pe_tup (pa_cons (pv 4) (pa_cons (pv 3) pa_nil)))) pa_nil)))
      (pss_cons (ps_if (pt_cmpR (op_neD hr.units)
          (pe_lc (own := [("_law_k", 3)]) (g := gName 3) (tt := tTest (tOp (rEqD K) (tOp (rIxT K) (tOp (rIxL K) (tVar 2) (tVar 3)) (tC (.int 0))) (tOp (rIxT K) (tOp (rIxL K) (tVar 2) (tOp (rI0 fun i j => .int (i - j)) (tVar 3) (tC (.int 1)))) (tC (.int 0))))) rfl sc40.nd (pi_range2 (by rfl) T.b_range (pa_cons pe_int (pa_cons (pe_callB (len_ofK (K := K)) (by rfl) T.b_len bo_len (pa_cons (pv 2) pa_nil)) pa_nil))) (blkOk_by (N := ["_law_line_here", "_law_sort", "_law_pairs", "_law_k", "_law_end", "_d5", "_d6"]) (sc := defScope (topS 40)) (by decide +kernel))
            (fun _ _ _ _ _ => pg_name (i := 3) sc40.nd rfl (Or.inl rfl))
            (fun _ _ _ _ _ => pts_one (pt_cmpR (op_eqK (K := K) hr.units) (pe_ix (ix_tupK (K := K)) (pe_ix (ix_lstK (K := K)) (pv 2) (pv 3) (fun _ _ => rfl)) pe_int (fun _ _ => rfl))
              (pe_ix (ix_tupK (K := K)) (pe_ix (ix_lstK (K := K)) (pv 2) (pe_op op_sub (pv 3) pe_int) (fun _ _ => rfl)) pe_int (fun _ _ => rfl)) (nomark _)))
            (fun _ _ _ _ _ => pv 3)) (pe_lst pa_nil) (nomark _))
        (pss_one (ps_ret pe_non)) pss_nil)
      (pss_one (ps_ret (pe_callTy (tup_ofK (K := K)) (by rfl) T.b_tuple bo_tuple (pa_cons
        (pe_lc (own := [("_law_k", 3), ("_law_end", 4)]) (g := gTup K 2 (gCons (gName 4) (gCons (gName 3) gNil))) (tt := tYes) rfl sc40.nd (pi_list (pv 2)) (blkOk_by (N := ["_law_line_here", "_law_sort", "_law_pairs", "_law_k", "_law_end", "_d5", "_d6"]) (sc := defScope (topS 40)) (by decide +kernel))
          (fun _ _ _ _ _ => pg_tupK rfl (pgs_cons (pg_name (i := 4) sc40.nd rfl (Or.inl rfl)) (pgs_cons (pg_name (i := 3) sc40.nd rfl (Or.inl rfl)) pgs_nil))) (fun _ _ _ _ _ => pts_nil)
          (fun _ _ _ _ _ => pv 3)) pa_nil))))), ?_⟩
    refine pairs_made (K := K) (te := tCall (spEnds 10000000000000000000 K) [] C8.E0 (tCons (tVar 0) (tCons (tVar 1) tNil))) (T := 10000000000000000000) (k := k) (a0 := some (.ref l)) (a1 := some (.str k.nm)) (a2 := none) (a3 := none) (a4 := none) (a5 := none) (a6 := none) h60
      (fun R hR => ⟨.ref l, rfl, .str k.nm, rfl, l, k, ns, rfl, hS, h60, fun H1 pe as e1 ne he hr1 => hR H1 pe as e1 he hr1⟩) fun H2 p zs e2 np hp hz hs => ?_
    have zl : zs.length = ns.length := by
      have := congrArg List.length hs
      rw [List.length_map, srt_length] at this
      exact this
    refine ⟨.ref p, rfl, p, _, rfl, .inl (SqL.of hp), 1, _, rfl, ⟨by omega, by omega, by rw [List.length_map]; omega, by rw [List.length_map]; omega⟩, fun D nD => ?_⟩
    have hn : ((((zs.map (·.1)).length : Nat) : Int) - 1).toNat = ns.length - 1 := by rw [List.length_map, zl]; omega
    rw [hn]
    refine lc_range (lo := 1) (n := ns.length - 1) (fun i H' => ∃ fs : List Int, Same H2 H' ∧ H' D = some (.lst (fs.map V.int)) ∧ fs.length ≤ i ∧ (fs = [] ↔ ∀ a, a < i → ¬ ((srt 10000000000000000000 k ns).getD a ([], 0)).1 = ((srt 10000000000000000000 k ns).getD (a + 1) ([], 0)).1))
      ⟨[], same_new nD, upd_same, Nat.le_refl _, ⟨fun _ a ha => absurd ha (Nat.not_lt_zero a), fun _ => rfl⟩⟩ (fun i H' hi z => ?_) fun H' z => ?_
    · obtain ⟨fs, e, hD, hl, hf⟩ := z
      have i1 : i < zs.length := by omega
      have i2 : i + 1 < zs.length := by omega
      have g1 : zs[i]? = some zs[i] := List.getElem?_eq_getElem i1
      have g2 : zs[i + 1]? = some zs[i + 1] := List.getElem?_eq_getElem i2
      obtain ⟨t1, c1, v1, _, _, ht1, hc1⟩ := (hz _ (List.getElem_mem i1)).same e
      obtain ⟨t2, c2, v2, _, _, ht2, hc2⟩ := (hz _ (List.getElem_mem i2)).same e
      refine ⟨rfl, ?_⟩
      refine ⟨.ref p, rfl, .int (1 + i), rfl, p, _, 1 + i, .ref t2, rfl, rfl, SqL.of (e _ _ hp), at_of (j := i + 1) (by omega) (by rw [List.getElem?_map, g2, ← v2]; rfl), t2, _, 0, .ref c2, rfl, rfl, SqT.of ht2, atI_nat (j := 0) rfl, ?_⟩
      refine ⟨.ref p, rfl, .int (1 + i), rfl, 1 + i, 1, rfl, rfl, p, _, 1 + i - 1, .ref t1, rfl, rfl, SqL.of (e _ _ hp), at_of (j := i) (by omega) (by rw [List.getElem?_map, g1, ← v1]; rfl), t1, _, 0, .ref c1, rfl, rfl, SqT.of ht1, atI_nat (j := 0) rfl, ?_⟩
      refine ⟨_, _, .lst (SqL.of hc2) (dp_ints _), .lst (SqL.of hc1) (dp_ints _), PySem.W.ke_shaped_ints _, PySem.W.ke_shaped_ints _, _, rfl, ?_⟩
      rw [eqv_ints]
      have w1 := srt_at hs g1
      have w2 := srt_at hs g2
      refine ite2 (fun et => ?_) (fun et => ?_)
      · have et' := of_decide_eq_true et
        refine ⟨.int (1 + i), rfl, _, hD, line_lt (by rw [List.length_map]; omega), fs ++ [1 + (i : Int)], same_at e nD, ?_, ?_, ?_⟩
        · rw [upd_same, List.map_append]
          rfl
        · rw [List.length_append]
          show _ + 1 ≤ _
          omega
        · constructor
          · intro z
            simp at z
          · intro z
            refine absurd ?_ (z i (Nat.lt_succ_self i))
            rw [w1, w2]
            exact et'.symm
      · refine ⟨fs, e, hD, by omega, ?_⟩
        rw [hf]
        constructor
        · intro z a ha
          by_cases ha2 : a < i
          · exact z a ha2
          · have : a = i := by omega
            subst this
            rw [w1, w2]
            exact fun z2 => et (decide_eq_true z2.symm)
        · exact fun z a ha => z a (Nat.lt_succ_of_lt ha)
    · obtain ⟨fs, e, hD, hl, hf⟩ := z
      have e0 : Same H H' := e2.trans e
      refine ⟨Nat.zero_le _, fun r nr => ?_⟩
      have e3 : Same H' (upd H' r (.lst [])) := same_new nr
      refine ⟨.list (fs.map .int), .list [], .lst (SqL.of (e3 _ _ hD)) (dp_ints _), .lst (SqL.of upd_same) .nil, PySem.W.ke_shaped_ints _, by decide, _, rfl, ?_⟩
      rw [eqv_nil]
      have tw : twin (srt 10000000000000000000 k ns) = true ↔ ¬ fs = [] := by
        rw [twin_iff (srt_length _ _ _), hf]
        constructor
        · rintro ⟨a, ha, x⟩ z
          exact z a ha x
        · intro z
          by_cases ex : ∃ a, a < ns.length - 1 ∧ ((srt 10000000000000000000 k ns).getD a ([], 0)).1 = ((srt 10000000000000000000 k ns).getD (a + 1) ([], 0)).1
          · exact ex
          · exact absurd (fun a ha x => ex ⟨a, ha, x⟩) z
      by_cases hfs : fs = []
      · rw [decide_eq_true hfs]
        refine iteF ?_
        have nt : ¬ twin (srt 10000000000000000000 k ns) = true := fun z => (tw.mp z) hfs
        refine places_made (K := K) (Q := fun x H1 => rTupOf K [x] H1 Q) (a0 := some (.ref l)) (a1 := some (.str k.nm)) (a3 := none) (a4 := none) (a5 := none) (a6 := none) (e3 _ _ (e _ _ hp)) (fun z hm => ((hz z hm).same e).same e3) (by omega) fun H3 D3 e4 nD3 hD3 => ?_
        have em : zs.map (·.2.2) = (srt 10000000000000000000 k ns).map (·.2) := by
          rw [← hs, List.map_map]
          rfl
        rw [em] at hD3
        refine ⟨D3, _, rfl, .inl ⟨SqL.of hD3, fun t nt3 => ?_⟩⟩
        have e5 := e0.trans (e3.trans (e4.trans (same_new (o := .tup (((srt 10000000000000000000 k ns).map (·.2)).map V.int)) nt3)))
        exact (q _ e5).2 _ t (if_neg nt) ((e0.trans (e3.trans e4)).free nt3) upd_same
      · rw [decide_eq_false hfs]
        refine iteT ?_
        exact (q _ (e0.trans e3)).1 (if_pos (tw.mpr hfs))
end
end K67

/-! The law's next ranks, rises, least and higher texts. -/
namespace K67
open PySem PySem.Spec PyProof.Rows L2

section
variable {P : Program} {w : World} {K : PySem.W.Frag} {mg : Str → Option Value} {base : Heap}

theorem TupZ.tw {H : Hp} {p : Addr} {ms : List Int} (h : TupZ H p ms) : tyW K "tuple" (.ref p) H := by
  obtain ⟨o, h, c, d⟩ := h
  exact ⟨p, rfl, .inl ⟨o, _, h, c, d⟩⟩
/-- what is handed to the law's defs about an order -/
def Ord (H : Hp) (p : Addr) (ms : List Int) (n : Nat) : Prop := TupZ H p ms ∧ ms.Perm (rng n) ∧ 1 ≤ n ∧ n ≤ 60
theorem Ord.len {H : Hp} {p : Addr} {ms : List Int} {n : Nat} (h : Ord H p ms n) : ms.length = n := by rw [h.2.1.length_eq, rng_length]
theorem Ord.mem {H : Hp} {p : Addr} {ms : List Int} {n : Nat} (h : Ord H p ms n) {x : Int} : x ∈ ms ↔ 0 ≤ x ∧ x < n := by rw [h.2.1.mem_iff, mem_rng]
theorem Ord.same {H H' : Hp} {p : Addr} {ms : List Int} {n : Nat} (e : Same H H') (h : Ord H p ms n) : Ord H' p ms n := ⟨h.1.same e, h.2⟩
theorem Ord.but {H H' : Hp} {p j : Addr} {ms : List Int} {n : Nat} (e : But j H H') (jg : Jug H j) (h : Ord H p ms n) : Ord H' p ms n := ⟨h.1.but e jg, h.2⟩

/-! ### _law_after -/
theorem sc41 : FnScope ["_law_spots_here", "_law_sort", "_law_size", "_law_beyond", "_law_found", "_law_k"] ["_law_spots_here", "_law_sort"] (defScope (topS 41)) := ⟨rfl, rfl, rfl, by decide +kernel, rfl, by decide +kernel, by decide +kernel⟩
def spAfter : Sp := fun vs H Q _ => ∃ (p : Addr) (k : Kd) (ms : List Int) (n : Nat), vs = [.ref p, .str k.nm] ∧ Ord H p ms n ∧
  ∀ H' r (zs : List Int), Same H H' → H r = none → H' r = some (.lst (zs.map V.int)) → zs.length = n → Q (.ref r) H'
theorem dict_at (k : Kd) (a b c : Int) : ∃ z : Int, valV (mergeK [] [((.inr "first" : Key), V.int a), (.inr "last", V.int b), (.inr "ring", V.int c)]) (.inr k.nm) = some (V.int z) := by
  cases k
  · exact ⟨a, rfl⟩
  · exact ⟨b, rfl⟩
  · exact ⟨c, rfl⟩
theorem ok_after (T : Tp w K mg) : Cal P w K mg base 1 "_law_after" spAfter [] := by
  refine cal T.after sc41 (fun vs H Q E h => ?_) (fun f cdv A outer s H vs Q E hr h => ?_)
  · obtain ⟨p, k, ms, n, rfl, _⟩ := h
    rfl
  · obtain ⟨p, k, ms, n, rfl, ho, q⟩ := h
    have hlen := ho.len
    have h1 := ho.2.2.1
    have h60 := ho.2.2.2
    have hlV : (ms.map V.int).length = n := by rw [List.length_map, hlen]
    refine ⟨_, pss_cons (ps_set (i := 2) sc41.nd rfl (.inl rfl) (pe_callB call_len_seq (by rfl) T.b_len bo_len (pa_cons (pv 0) pa_nil)))
      (pss_cons (ps_set (i := 3) sc41.nd rfl (.inl rfl) (pe_dget (hu_of hr) (pe_disp (pps_cons pe_str (pe_un un_neg pe_int) (pps_cons pe_str (pv 2) (pps_cons pe_str
          (pe_bmW PySem.F.plainAttrs_tuple PySem.F.slot_tuple_index PySem.F.type_tuple_index mt_tupIx (pv 0) (pa_cons pe_int pa_nil)) pps_nil))) (by rfl) (by rfl) (fun z => by cases z) (by decide)) (pv 1) (fun _ _ => rfl)))
      (pss_cons (ps_set (i := 4) sc41.nd rfl (.inl rfl) (pe_lst pa_nil))
      (pss_cons (ps_for PassesOwn.never rfl (pi_tup (pv 0)) (pg_name (i := 5) sc41.nd rfl (.inl rfl))
        (pss_one (ps_expr (pe_bm PySem.F.plainAttrs_list PySem.F.slot_list_append PySem.F.type_list_append mt_append (pv 4) (pa_cons
          (pe_ifExp (pt_cmpR op_eq (pe_op op_add (pv 5) pe_int) (pv 2) (nomark _)) (pv 3)
            (pe_bmW PySem.F.plainAttrs_tuple PySem.F.slot_tuple_index PySem.F.type_tuple_index mt_tupIx (pv 0) (pa_cons (pe_op op_add (pv 5) pe_int) pa_nil))) pa_nil)))))
      (pss_one (ps_ret (pv 4)))))), ?_⟩
    refine ⟨.ref p, rfl, p, _, rfl, .inr ho.1.sq, ?_⟩
    refine fun d nd => ?_
    have e1 : Same H (upd H d (.dK [])) := same_new nd
    have o1 := ho.same e1
    refine ⟨1, rfl, _, rfl, .ref p, rfl, o1.1.tw, p, ms, 0, rfl, rfl, o1.1.sq, ho.mem.mpr ⟨by omega, by omega⟩, ?_⟩
    refine ⟨upd_same, [((.inr "first" : Key), V.int (-1)), (.inr "last", V.int (((ms.map V.int).length : Nat) : Int)), (.inr "ring", V.int ((ms.idxOf 0 : Nat) : Int))], rfl, by show 3 ≤ 15; decide, ?_⟩
    obtain ⟨z, hz⟩ := dict_at k (-1) (((ms.map V.int).length : Nat) : Int) ((ms.idxOf 0 : Nat) : Int)
    refine ⟨.str k.nm, rfl, d, .int z, rfl, ?_, ?_⟩
    · have g := DGet.k (k := .inr k.nm) (upd_same (H := upd H d (.dK [])) (a := d) (o := .dK (mergeK [] [((.inr "first" : Key), V.int (-1)), (.inr "last", V.int (((ms.map V.int).length : Nat) : Int)), (.inr "ring", V.int ((ms.idxOf 0 : Nat) : Int))])))
      rw [hz] at g
      exact g
    have e2 : Same H (upd (upd H d (.dK [])) d (.dK (mergeK [] [((.inr "first" : Key), V.int (-1)), (.inr "last", V.int (((ms.map V.int).length : Nat) : Int)), (.inr "ring", V.int ((ms.idxOf 0 : Nat) : Int))]))) := same_at e1 nd
    refine ⟨Nat.zero_le _, fun r nr => ?_⟩
    have e3 := same_newer (o := .lst []) e2 nr
    refine ⟨.ref p, rfl, p, rfl, ⟨_, (ho.same e3).1.sq⟩, for_tup (xs := ms.map V.int) (fun i σ H' => ∃ (zs : List Int) (y5 : Option V), σ = [some (.ref p), some (.str k.nm), some (.int (((ms.map V.int).length : Nat) : Int)), some (.int z), some (.ref r), y5] ∧ Same H H' ∧ H' r = some (.lst (zs.map V.int)) ∧ zs.length = i)
      ⟨[], none, rfl, e3, upd_same, rfl⟩ (fun i σ H' _ x => ?_) (fun i x σ H' hx y => ?_) fun σ H' y => ?_⟩
    · obtain ⟨zs, y5, _, e, _⟩ := x
      exact (ho.same e).1.sq
    · obtain ⟨zs, y5, rfl, e, hR, hl⟩ := y
      obtain ⟨c, hc, rfl⟩ : ∃ c, ms[i]? = some c ∧ x = V.int c := by
        rw [List.getElem?_map] at hx
        cases hm : ms[i]? with
        | none => rw [hm] at hx; cases hx
        | some c =>
          rw [hm] at hx
          exact ⟨c, rfl, (Option.some.inj hx).symm⟩
      have hcm := ho.mem.mp (List.mem_of_getElem? hc)
      have il : i < n := by
        have := (List.getElem?_eq_some_iff.mp hc).1
        omega
      have nr0 : H r = none := e2.free nr
      have fin : ∀ v : Int, ∃ (l : Addr) (xs : List V) (y : V), V.ref r = V.ref l ∧ [V.int v] = [y] ∧ H' l = some (.lst xs) ∧ xs.length < sizeLine ∧ ∃ (zs' : List Int) (y5 : Option V), [some (.ref p), some (.str k.nm), some (.int (((ms.map V.int).length : Nat) : Int)), some (.int z), some (.ref r), some (V.int c)] = [some (.ref p), some (.str k.nm), some (.int (((ms.map V.int).length : Nat) : Int)), some (.int z), some (.ref r), y5] ∧ Same H (upd H' l (.lst (xs ++ [y]))) ∧ (upd H' l (.lst (xs ++ [y]))) r = some (.lst (zs'.map V.int)) ∧ zs'.length = i + 1 := fun v =>
        ⟨r, _, .int v, rfl, rfl, hR, line_lt (by rw [List.length_map]; omega), zs ++ [v], _, rfl, same_at e nr0, by rw [upd_same, List.map_append]; rfl, by rw [List.length_append, hl]; rfl⟩
      refine ⟨.ref r, rfl, .inl ⟨rfl, _, SqL.of hR⟩, .int c, rfl, c, 1, rfl, rfl, _, rfl, rfl, _, rfl, ite2 (fun ek => ?_) (fun ek => ?_)⟩
      · exact ⟨.int z, rfl, fin z⟩
      · have nk : c + 1 ≠ (n : Int) := fun y => ek (decide_eq_true (by rw [hlV, ← y]))
        have oe := ho.same e
        exact ⟨.ref p, rfl, oe.1.tw, .int c, rfl, c, 1, rfl, rfl, p, ms, c + 1, rfl, rfl, oe.1.sq, ho.mem.mpr ⟨by omega, by omega⟩, fin _⟩
    · obtain ⟨zs, y5, rfl, e, hR, hl⟩ := y
      exact ⟨.ref r, rfl, q H' r zs e (e2.free nr) hR (by omega)⟩

/-! ### _law_steep -/
theorem sc42 : FnScope ["_law_spots_here", "_law_sort", "_law_after_here", "_law_k"] ["_law_spots_here", "_law_sort"] (defScope (topS 42)) := ⟨rfl, rfl, rfl, by decide +kernel, rfl, by decide +kernel, by decide +kernel⟩
def spSteep : Sp := fun vs H Q _ => ∃ (p : Addr) (k : Kd) (ms : List Int) (n : Nat), vs = [.ref p, .str k.nm] ∧ Ord H p ms n ∧
  ∀ H' r (zs : List Int), Same H H' → H r = none → H' r = some (.lst (zs.map V.int)) → Q (.ref r) H'
theorem ok_steep (T : Tp w K mg) : Cal P w K mg base 2 "_law_steep" spSteep [] := by
  refine cal T.steep sc42 (fun vs H Q E h => ?_) (fun f cdv A outer s H vs Q E hr h => ?_)
  · obtain ⟨p, k, ms, n, rfl, _⟩ := h
    rfl
  · obtain ⟨p, k, ms, n, rfl, ho, q⟩ := h
    have hlen := ho.len
    have h1 := ho.2.2.1
    have h60 := ho.2.2.2
    have hlV : (ms.map V.int).length = n := by rw [List.length_map, hlen]
    refine ⟨_, pss_cons (ps_set (i := 2) sc42.nd rfl (.inr rfl) (C8.pe_c (ok_after T) hr (by decide) (by rfl) (pa_cons (pv 0) (pa_cons (pv 1) pa_nil))))
      (pss_one (ps_ret (pe_lc (own := [("_law_k", 3)]) (g := gName 3) (tt := tTest (tOp (rI0 fun i j => .bl (decide (j < i))) (tOp (rIxL K) (tVar 2) (tVar 3)) (tOp (rIxL K) (tVar 2) (tOp (rI0 fun i j => .int (i + j)) (tVar 3) (tC (.int 1)))))) rfl sc42.nd
        (pi_range1 (by rfl) T.b_range (pa_cons (pe_op op_sub (pe_callB call_len_seq (by rfl) T.b_len bo_len (pa_cons (pv 0) pa_nil)) pe_int) pa_nil)) (blkOk_by (N := ["_law_spots_here", "_law_sort", "_law_after_here", "_law_k"]) (sc := defScope (topS 42)) (by decide +kernel))
        (fun _ _ _ _ _ => pg_name (i := 3) sc42.nd rfl (Or.inl rfl))
        (fun _ _ _ _ _ => pts_one (pt_cmpR op_gt (pe_ix (ix_lstK (K := K)) (pv 2) (pv 3) (fun _ _ => rfl)) (pe_ix (ix_lstK (K := K)) (pv 2) (pe_op op_add (pv 3) pe_int) (fun _ _ => rfl)) (nomark _)))
        (fun _ _ _ _ _ => pv 3)))), ?_⟩
    refine ⟨.ref p, rfl, .str k.nm, rfl, p, k, ms, n, rfl, ho, fun H1 r zs e1 nr hR hz => ?_⟩
    refine ⟨.ref p, rfl, p, _, rfl, .inr (ho.same e1).1.sq, _, 1, rfl, rfl, _, rfl, by omega, by omega, fun D nD => ?_⟩
    have hn : ((((ms.map V.int).length : Nat) : Int) - 1).toNat = n - 1 := by omega
    rw [hn]
    refine lc_range (lo := 0) (n := n - 1) (fun i H' => ∃ fs : List Int, Same H1 H' ∧ H' D = some (.lst (fs.map V.int)) ∧ fs.length ≤ i) ⟨[], same_new nD, upd_same, Nat.le_refl _⟩ (fun i H' hi z => ?_) fun H' z => ?_
    · obtain ⟨fs, e, hD, hl⟩ := z
      rw [Int.zero_add]
      have i1 : i < zs.length := by omega
      have i2 : i + 1 < zs.length := by omega
      refine ⟨rfl, ?_⟩
      refine ⟨.ref r, rfl, .int i, rfl, r, _, i, .int zs[i], rfl, rfl, SqL.of (e _ _ hR), atI_nat (by rw [List.getElem?_map, List.getElem?_eq_getElem i1]; rfl), ?_⟩
      refine ⟨.ref r, rfl, .int i, rfl, i, 1, rfl, rfl, r, _, ((i + 1 : Nat) : Int), .int zs[i + 1], rfl, rfl, SqL.of (e _ _ hR), atI_nat (by rw [List.getElem?_map, List.getElem?_eq_getElem i2]; rfl), ?_⟩
      refine ⟨_, _, rfl, rfl, _, rfl, ite2 (fun ek => ?_) (fun ek => ?_)⟩
      · refine ⟨.int i, rfl, _, hD, line_lt (by rw [List.length_map]; omega), fs ++ [(i : Int)], same_at e nD, ?_, ?_⟩
        · rw [upd_same, List.map_append]
          rfl
        · rw [List.length_append]
          show _ + 1 ≤ _
          omega
      · exact ⟨fs, e, hD, by omega⟩
    · obtain ⟨fs, e, hD, hl⟩ := z
      exact q H' D fs (e1.trans e) (e1.free nD) hD
end
end K67

/-! The law's least and higher texts, the candidates. -/
namespace K67
open PySem PySem.Spec PyProof.Rows L2

theorem rep_zero : ∀ n : Nat, (List.replicate n [V.int 0]).flatten = (List.replicate n (0 : Int)).map V.int
  | 0 => rfl
  | n + 1 => by
    rw [List.replicate_succ, List.replicate_succ, List.flatten_cons, List.map_cons, rep_zero n]
    rfl
theorem flat_V (zs : List Int) : (zs.map V.int).all flatV = true := by
  rw [List.all_map, List.all_eq_true]
  exact fun _ _ => rfl
theorem mem_set {fs : List Int} {i : Nat} {a x : Int} (h : x ∈ fs.set i a) : x ∈ fs ∨ x = a := List.mem_or_eq_of_mem_set h
theorem ixN_nat {n i : Nat} {c : Int} (h : c = (i : Int)) (hi : i < n) : ixN n c = some i := by
  unfold ixN
  rw [if_pos (by omega), if_pos (by omega)]
  congr 1
  omega
theorem map_set (fs : List Int) (i : Nat) (a : Int) : (fs.map V.int).set i (V.int a) = (fs.set i a).map V.int := by rw [List.map_set]

section
variable {P : Program} {w : World} {K : PySem.W.Frag} {mg : Str → Option Value} {base : Heap}

/-! ### _law_least -/
theorem sc43 : FnScope ["_law_spots_here", "_law_sort", "_law_found", "_law_now", "_law_steep_here", "_law_k"] ["_law_spots_here", "_law_sort"] (defScope (topS 43)) := ⟨rfl, rfl, rfl, by decide +kernel, rfl, by decide +kernel, by decide +kernel⟩
def spLeast : Sp := fun vs H Q _ => ∃ (p : Addr) (k : Kd) (ms : List Int) (n : Nat), vs = [.ref p, .str k.nm] ∧ Ord H p ms n ∧
  ∀ H' r (ns : List Int), Same H H' → H' r = some (.tup (ns.map V.int)) → ns.length = n → (∀ x ∈ ns, 0 ≤ x ∧ x ≤ 60) → Q (.ref r) H'
theorem ok_least (T : Tp w K mg) : Cal P w K mg base 3 "_law_least" spLeast [] := by
  refine cal T.least sc43 (fun vs H Q E h => ?_) (fun f cdv A outer s H vs Q E hr h => ?_)
  · obtain ⟨p, k, ms, n, rfl, _⟩ := h
    rfl
  · obtain ⟨p, k, ms, n, rfl, ho, q⟩ := h
    have hlen := ho.len
    have h1 := ho.2.2.1
    have h60 := ho.2.2.2
    have hlV : (ms.map V.int).length = n := by rw [List.length_map, hlen]
    refine ⟨_, pss_cons (ps_par3 (i := 2) (j := 3) (l := 4) rfl sc43.nd rfl rfl rfl (by decide) (by decide) (by decide) rfl rfl rfl
        (pa_cons (pe_op op_rep (pe_lst (pa_cons pe_int pa_nil)) (pe_callB call_len_seq (by rfl) T.b_len bo_len (pa_cons (pv 0) pa_nil))) (pa_cons pe_int (pa_cons (C8.pe_c (ok_steep T) hr (by decide) (by rfl) (pa_cons (pv 0) (pa_cons (pv 1) pa_nil))) pa_nil))) (by rfl))
      (pss_cons (ps_for PassesOwn.never rfl (pi_range1 (by rfl) T.b_range (pa_cons (pe_callB call_len_seq (by rfl) T.b_len bo_len (pa_cons (pv 0) pa_nil)) pa_nil)) (pg_name (i := 5) sc43.nd rfl (.inl rfl))
        (pss_cons (ps_asg (pv 3) (pg_sub (pv 2) (pe_ix ix_tup (pv 0) (pv 5) (fun _ _ => rfl)) set_list))
        (pss_one (ps_set (i := 3) sc43.nd rfl (.inl rfl) (pe_op op_add (pv 3) (pe_callTy call_int1 (by rfl) T.b_int bo_int (pa_cons (pe_cmpR op_in_seq (pv 5) (pv 4) (by rfl)) pa_nil)))))))
      (pss_one (ps_ret (pe_callTy call_tuple_of (by rfl) T.b_tuple bo_tuple (pa_cons (pv 2) pa_nil))))), ?_⟩
    refine ⟨line_le (by show 1 ≤ 1000000; decide), fun p1 n1 => ?_⟩
    have e1 : Same H (upd H p1 (.lst [V.int 0])) := same_new n1
    refine ⟨.ref p, rfl, p, _, rfl, .inr (ho.same e1).1.sq, p1, _, _, rfl, rfl, upd_same, by omega, by omega, line_le (by rw [hlV]; show 1 * _ ≤ _; omega), fun f0 nf => ?_⟩
    rw [hlV, Int.toNat_natCast, rep_zero]
    have e2 := same_newer (o := .lst ((List.replicate n (0 : Int)).map V.int)) e1 nf
    refine ⟨.ref p, rfl, .str k.nm, rfl, p, k, ms, n, rfl, ho.same e2, fun H3 st zs e3 nst hst => ?_⟩
    have e03 := e2.trans e3
    refine ⟨.ref f0, .int 0, .ref st, rfl, ?_⟩
    refine ⟨.ref p, rfl, p, _, rfl, .inr (ho.same e03).1.sq, _, rfl, by omega, by omega, ?_⟩
    rw [hlV, Int.toNat_natCast]
    have nf0 : H f0 = none := e1.free nf
    have sf : st ≠ f0 := fun z => by
      rw [z, upd_same] at nst
      cases nst
    refine for_range (lo := 0) (n := n) (fun i σ H' => ∃ (fs : List Int) (now : Int) (y5 : Option V), σ = [some (.ref p), some (.str k.nm), some (.ref f0), some (.int now), some (.ref st), y5] ∧ Same H H' ∧ H' f0 = some (.lst (fs.map V.int)) ∧ H' st = some (.lst (zs.map V.int)) ∧ fs.length = n ∧ 0 ≤ now ∧ now ≤ i ∧ ∀ x ∈ fs, 0 ≤ x ∧ x ≤ 60)
      ⟨List.replicate n 0, 0, none, rfl, e03, e3 _ _ upd_same, hst, List.length_replicate, Int.le_refl 0, Int.le_refl 0, fun x hx => by rw [(List.mem_replicate.mp hx).2]; omega⟩ (fun i σ H' hi z => ?_) fun σ H' z => ?_
    · obtain ⟨fs, now, y5, rfl, e, hf, hs, hl, n0, n1', hb⟩ := z
      rw [Int.zero_add]
      have hi2 : i < ms.length := by omega
      have hm := ho.mem.mp (List.getElem_mem hi2)
      refine ⟨.int now, rfl, .ref f0, rfl, .ref p, rfl, .int i, rfl, p, _, i, .int ms[i], rfl, rfl, (ho.same e).1.sq, atI_nat (by rw [List.getElem?_map, List.getElem?_eq_getElem hi2]; rfl), ?_⟩
      refine ⟨f0, _, ms[i], ms[i].toNat, rfl, rfl, hf, ixN_nat (by omega) (by rw [List.length_map]; omega), ?_⟩
      have e4 : Same H (upd H' f0 (.lst ((fs.map V.int).set ms[i].toNat (V.int now)))) := same_at e nf0
      have hs4 : (upd H' f0 (.lst ((fs.map V.int).set ms[i].toNat (V.int now)))) st = some (.lst (zs.map V.int)) := by rw [upd_ne sf]; exact hs
      refine ⟨.int now, rfl, .int i, rfl, .ref st, rfl, st, _, rfl, .inl (SqL.of hs4), rfl, flat_V zs, ?_⟩
      rw [if_neg Bool.false_ne_true]
      refine .inr ⟨_, rfl, now, _, rfl, rfl, ?_⟩
      refine ⟨fs.set ms[i].toNat now, _, some (.int i), rfl, e4, ?_, hs4, ?_, ?_, ?_, fun x hx => ?_⟩
      · rw [upd_same, map_set]
      · rw [List.length_set, hl]
      · split <;> omega
      · split <;> omega
      · rcases mem_set hx with hx | hx
        · exact hb x hx
        · omega
    · obtain ⟨fs, now, y5, rfl, e, hf, hs, hl, n0, n1', hb⟩ := z
      refine ⟨.ref f0, rfl, f0, _, rfl, .inl ⟨SqL.of hf, fun l nl => ?_⟩⟩
      exact q _ l fs (same_newer e nl) upd_same hl hb

/-! ### _law_higher -/
theorem sc44 : FnScope ["_law_jug_here", "_law_spots_here", "_law_sort", "_law_found", "_law_more", "_law_k"] ["_law_jug_here", "_law_spots_here", "_law_sort"] (defScope (topS 44)) := ⟨rfl, rfl, rfl, by decide +kernel, rfl, by decide +kernel, by decide +kernel⟩
def spHigher : Sp := fun vs H Q _ => ∃ (j p : Addr) (k : Kd) (ms : List Int) (n : Nat), vs = [.ref j, .ref p, .str k.nm] ∧ Jug H j ∧ Ord H p ms n ∧
  ∀ H' r (ns : List Int), But j H H' → Jug H' j → H' r = some (.tup (ns.map V.int)) → ns.length = n → (∀ x ∈ ns, 0 ≤ x ∧ x ≤ 1000000) → Q (.ref r) H'
theorem ok_higher (T : Tp w K mg) : Cal P w K mg base 4 "_law_higher" spHigher [] := by
  refine cal T.higher sc44 (fun vs H Q E h => ?_) (fun f cdv A outer s H vs Q E hr h => ?_)
  · obtain ⟨j, p, k, ms, n, rfl, _⟩ := h
    rfl
  · obtain ⟨j, p, k, ms, n, rfl, hj, ho, q⟩ := h
    have hlen := ho.len
    have h1 := ho.2.2.1
    have h60 := ho.2.2.2
    have hlV : (ms.map V.int).length = n := by rw [List.length_map, hlen]
    refine ⟨_, pss_cons (ps_par (i := 3) (j := 4) rfl sc44.nd rfl rfl (by decide) rfl rfl (pa_cons (pe_callTy call_list_of (by rfl) T.b_list bo_list (pa_cons (C8.pe_c (ok_least T) hr (by decide) (by rfl) (pa_cons (pv 1) (pa_cons (pv 2) pa_nil))) pa_nil)) (pa_cons pe_int pa_nil)) (by rfl))
      (pss_cons (ps_for PassesOwn.never rfl (pi_tup (pv 1)) (pg_name (i := 5) sc44.nd rfl (.inl rfl))
        (pss_cons (ps_set (i := 4) sc44.nd rfl (.inl rfl) (pe_op op_add (pv 4) (C8.pe_c (ok_one T) hr (by decide) (by rfl) (pa_cons (pv 0) (pa_cons (pe_lst (pa_cons pe_int (pa_cons pe_int (pa_cons pe_int (pa_cons pe_int pa_nil))))) pa_nil)))))
        (pss_one (ps_asg (pe_op op_add (pe_ix ix_list (pv 3) (pv 5) (fun _ _ => rfl)) (pv 4)) (pg_sub (pv 3) (pv 5) set_list)))))
      (pss_one (ps_ret (pe_callTy call_tuple_of (by rfl) T.b_tuple bo_tuple (pa_cons (pv 3) pa_nil))))), ?_⟩
    refine ⟨.ref p, rfl, .str k.nm, rfl, p, k, ms, n, rfl, ho, fun H1 r ns e1 hr1 hl1 hb1 => ?_⟩
    refine ⟨r, _, rfl, .inr (SqT.of hr1), fun f0 nf => ?_⟩
    have e2 := same_newer (o := .lst (ns.map V.int)) e1 nf
    have nf0 : H f0 = none := e1.free nf
    have fj : f0 ≠ j := But.ne hj nf0
    refine ⟨.ref f0, .int 0, rfl, ?_⟩
    refine ⟨.ref p, rfl, p, rfl, ⟨_, (ho.same e2).1.sq⟩, for_tup (xs := ms.map V.int) (fun i σ H' => ∃ (fs : List Int) (more : Int) (y5 : Option V), σ = [some (.ref j), some (.ref p), some (.str k.nm), some (.ref f0), some (.int more), y5] ∧ But j H H' ∧ Jug H' j ∧ H' f0 = some (.lst (fs.map V.int)) ∧ fs.length = n ∧ 0 ≤ more ∧ more ≤ 2 * (i : Int) ∧ ∀ x ∈ fs, 0 ≤ x ∧ x ≤ 60 + 120 * (i : Int))
      ⟨ns, 0, none, rfl, Same.but e2, hj.same e2, upd_same, hl1, Int.le_refl 0, Int.le_refl 0, fun x hx => by have := hb1 x hx; omega⟩ (fun i σ H' _ z => ?_) (fun i x σ H' hx z => ?_) fun σ H' z => ?_⟩
    · obtain ⟨fs, more, y5, _, e, jg, _⟩ := z
      exact (ho.but e hj).1.sq
    · obtain ⟨fs, more, y5, rfl, e, jg, hf, hl, m0, m1, hb⟩ := z
      obtain ⟨c, hc, rfl⟩ : ∃ c, ms[i]? = some c ∧ x = V.int c := by
        rw [List.getElem?_map] at hx
        cases hm : ms[i]? with
        | none => rw [hm] at hx; cases hx
        | some c =>
          rw [hm] at hx
          exact ⟨c, rfl, (Option.some.inj hx).symm⟩
      have hcm := ho.mem.mp (List.mem_of_getElem? hc)
      have il : i < n := by
        have := (List.getElem?_eq_some_iff.mp hc).1
        omega
      refine ⟨.int more, rfl, .ref j, rfl, line_le (by show 4 ≤ 1000000; decide), fun d nd => ?_⟩
      have e3 : Same H' (upd H' d (.lst [V.int 0, V.int 0, V.int 1, V.int 2])) := same_new nd
      refine ⟨j, d, _, rfl, jg.same e3, SqL.of upd_same, But.ne jg nd, by show 1 ≤ 4; decide, by show 4 ≤ 1000; decide, fun H2 v e4 j4 hv => ?_⟩
      obtain ⟨y, rfl, y0, y2⟩ : ∃ y : Int, v = .int y ∧ 0 ≤ y ∧ y ≤ 2 := by
        simp only [List.mem_cons, List.not_mem_nil, or_false] at hv
        rcases hv with rfl | rfl | rfl | rfl
        · exact ⟨0, rfl, by omega, by omega⟩
        · exact ⟨0, rfl, by omega, by omega⟩
        · exact ⟨1, rfl, by omega, by omega⟩
        · exact ⟨2, rfl, by omega, by omega⟩
      have hf2 := e4 _ _ fj (e3 _ _ hf)
      have hcl : c.toNat < fs.length := by omega
      have hfb := hb fs[c.toNat] (List.getElem_mem hcl)
      refine ⟨more, y, rfl, rfl, .ref f0, rfl, .int c, rfl, f0, _, c, .int fs[c.toNat], rfl, rfl, SqL.of hf2, at_of (j := c.toNat) (by omega) (by rw [List.getElem?_map, List.getElem?_eq_getElem hcl]; rfl), ?_⟩
      refine ⟨.int (more + y), rfl, fs[c.toNat], more + y, rfl, rfl, .ref f0, rfl, .int c, rfl, f0, _, c, c.toNat, rfl, rfl, hf2, ixN_nat (by omega) (by rw [List.length_map]; omega), ?_⟩
      refine ⟨fs.set c.toNat (fs[c.toNat] + (more + y)), more + y, some (.int c), rfl, but_at (e.trans ((Same.but e3).trans e4)) nf0, j4.upd fj, ?_, ?_, by omega, by omega, fun x hx => ?_⟩
      · rw [upd_same, map_set]
      · rw [List.length_set, hl]
      · rcases mem_set hx with hx | hx
        · have := hb x hx
          omega
        · omega
    · obtain ⟨fs, more, y5, rfl, e, jg, hf, hl, m0, m1, hb⟩ := z
      refine ⟨.ref f0, rfl, f0, _, rfl, .inl ⟨SqL.of hf, fun l nl => ?_⟩⟩
      exact q _ l fs (e.trans (Same.but (same_new nl))) (jg.new nl) upd_same hl fun x hx => by have := hb x hx; omega
end
end K67

/-! The law's candidates. -/
namespace K67
open PySem PySem.Spec PyProof.Rows L2

/-- t + u, whichever of them is empty -/
def rCatG (K : PySem.W.Frag) : R2 := fun x y H Q => ∃ a b xs ys, x = .ref a ∧ y = .ref b ∧ SqT K H a xs ∧ SqT K H b ys ∧ xs.length + ys.length ≤ sizeLine ∧ ∀ p H', Same H H' → SqT K H' p (xs ++ ys) → Q (.ref p) H'
theorem op_catG {X : Cx} : OpR X (binaryOp .Add) (rCatG X.K) := by
  intro pins s σ H x y v u Q I rx ry h
  obtain ⟨a, b, xs, ys, rfl, rfl, ha, hb, hz, q⟩ := h
  refine op_catA pins s σ H _ _ v u Q I rx ry ⟨a, b, xs, ys, rfl, rfl, ha, hb, hz, fun e => ?_, fun _ e => ?_, fun _ _ p np => q p _ (same_new np) (SqT.of upd_same)⟩
  · subst e
    exact q b H (Same.refl H) hb
  · subst e
    exact q a H (Same.refl H) (by rw [List.append_nil]; exact ha)
theorem max_tK {X : Cx} {K : PySem.W.Frag} (hc : X.calm = true) (hu : X.A.units + 64 < cLine) (hk : X.K = K := by rfl) : CallR X (.builtin "max") (rMaxT K) := by
  subst hk
  exact cr_maxT hc hu
theorem cut_mid {xs : List V} {i j : Nat} (h : i ≤ xs.length) (h2 : j ≤ xs.length) : cutV xs (some (i : Int)) (some (j : Int)) = (xs.drop i).take (j - i) := by
  unfold cutV
  rw [HT.sIx_nat, HT.sIx_nat, Nat.min_eq_left h, Nat.min_eq_left h2]
theorem jug_tup {H : Hp} {j p : Addr} {xs : List V} (jg : Jug H j) (h : H p = some (.tup xs)) : p ≠ j := fun z => by
  obtain ⟨a, b, hj, _⟩ := jg
  rw [z, hj] at h
  cases h

section
variable {P : Program} {w : World} {K : PySem.W.Frag} {mg : Str → Option Value} {base : Heap}

theorem sc46 : FnScope ["_law_jug_here", "_law_spots_here", "_law_sort", "_law_way_now", "_law_line_here", "_law_at", "_law_each"] ["_law_jug_here", "_law_spots_here", "_law_sort"] (defScope (topS 46)) := ⟨rfl, rfl, rfl, by decide +kernel, rfl, by decide +kernel, by decide +kernel⟩
/-- a text of the law: a tuple of 1 to 59 letters -/
def Txt (K : PySem.W.Frag) (H : Hp) (l : Addr) (ns : List Int) : Prop := SqT K H l (ns.map V.int) ∧ 1 ≤ ns.length ∧ ns.length ≤ 59 ∧ ∀ x ∈ ns, 0 ≤ x ∧ x ≤ 1000000000000000000
def spCandidate (K : PySem.W.Frag) : Sp := fun vs H Q _ => ∃ (j p : Addr) (k : Kd) (ms : List Int) (n : Nat), vs = [.ref j, .ref p, .str k.nm] ∧ Jug H j ∧ Ord H p ms n ∧ n ≤ 59 ∧
  ∀ H' (l : Addr) (ns : List Int), But j H H' → Jug H' j → Txt K H' l ns → Q (.ref l) H'
theorem ok_candidate (T : Tp w K mg) : Cal P w K mg base 5 "_law_candidate" (spCandidate K) [] := by
  refine cal T.candidate sc46 (fun vs H Q E h => ?_) (fun f cdv A outer s H vs Q E hr h => ?_)
  · obtain ⟨j, p, k, ms, n, rfl, _⟩ := h
    rfl
  · obtain ⟨j, p, k, ms, n, rfl, hj, ho, h60, q⟩ := h
    have h1 := ho.2.2.1
    refine ⟨_, pss_cons (ps_set (i := 3) sc46.nd rfl (.inl rfl) (C8.pe_c (ok_swig T) hr (by decide) (by rfl) (pa_cons (pv 0) (pa_cons pe_int pa_nil))))
      (pss_cons (ps_if (pt_cmpR op_eq (pv 3) pe_int (nomark _)) (pss_one (ps_ret (C8.pe_c (ok_line T) hr (by decide) (by rfl) (pa_cons (pv 0) (pa_cons pe_int (pa_cons pe_int pa_nil)))))) pss_nil)
      (C8.pss_cut (ps_set (i := 4) sc46.nd rfl (.inr rfl) (pe_ifExp (pt_cmpR op_eq (pv 3) pe_int (nomark _)) (C8.pe_c (ok_least T) hr (by decide) (by rfl) (pa_cons (pv 1) (pa_cons (pv 2) pa_nil)))
        (C8.pe_c (ok_higher T) hr (by decide) (by rfl) (pa_cons (pv 0) (pa_cons (pv 1) (pa_cons (pv 2) pa_nil))))))
      (pss_cons (ps_set (i := 5) sc46.nd rfl (.inl rfl) (C8.pe_c (ok_swig T) hr (by decide) (by rfl) (pa_cons (pv 0) (pa_cons (pe_callB call_len_seq (by rfl) T.b_len bo_len (pa_cons (pv 4) pa_nil)) pa_nil))))
      (pss_cons (ps_if (pt_cmpR op_eq (pv 3) pe_int (nomark _)) (pss_one (ps_ret (pe_op op_catG (pe_op op_catG (pe_slice sl_tupG (pv 4) po_none (po_some (pv 5)))
          (pe_tup (pa_cons (C8.pe_c (ok_swig T) hr (by decide) (by rfl) (pa_cons (pv 0) (pa_cons pe_int pa_nil))) pa_nil))) (pe_slice sl_tupG (pv 4) (po_some (pe_op op_add (pv 5) pe_int)) po_none)))) pss_nil)
      (pss_cons (ps_if (pt_cmpR op_eq (pv 3) pe_int (nomark _)) (pss_one (ps_ret (pe_callTy call_tuple_of (by rfl) T.b_tuple bo_tuple (pa_cons
          (pe_lc (own := [("_law_each", 6)]) (g := gName 6) (tt := tYes) rfl sc46.nd (pi_tup (pv 4)) (blkOk_by (N := ["_law_jug_here", "_law_spots_here", "_law_sort", "_law_way_now", "_law_line_here", "_law_at", "_law_each"]) (sc := defScope (topS 46)) (by decide +kernel))
            (fun _ _ _ _ _ => pg_name (i := 6) sc46.nd rfl (Or.inl rfl)) (fun _ _ _ _ _ => pts_nil)
            (fun _ _ _ _ _ => pe_op op_sub (pe_op op_add (pv 6) (pe_op op_pow pe_int pe_int)) (pe_callB (max_tK (K := K) rfl hr.units) (by rfl) T.b_max bo_max (pa_cons (pv 4) pa_nil)))) pa_nil)))) pss_nil)
      (pss_one (ps_ret (pe_ifExp (pt_cmpR op_eq (pv 3) pe_int (nomark _)) (pe_op op_catG (pe_op op_catG (pe_slice sl_tupG (pv 4) po_none (po_some (pv 5))) (pe_slice sl_tupG (pv 4) (po_some (pe_op op_add (pv 5) pe_int)) po_none))
          (pe_slice sl_tupG (pv 4) (po_some (pv 5)) (po_some (pe_op op_add (pv 5) pe_int)))) (pv 4))))))))), ?_⟩
    refine ⟨.ref j, rfl, j, 6, rfl, hj, by omega, by omega, fun H1 way e1 j1 _ _ => ?_⟩
    have o1 := ho.but e1 hj
    refine ⟨.int way, rfl, rfl, _, rfl, ite2 (fun ew => ?_) (fun ew0 => ?_)⟩
    · refine ⟨.ref j, rfl, j, 7, 4, rfl, j1, by omega, by omega, by omega, by omega, fun H2 l ns e2 j2 hl l1 l2 hb => ?_⟩
      exact q H2 l ns (e1.trans e2) j2 ⟨SqT.of hl, l1, by omega, fun x hx => by have := hb x hx; omega⟩
    · refine ⟨fun σ' H2 => ∃ (l : Addr) (ns : List Int), σ' = [some (.ref j), some (.ref p), some (.str k.nm), some (.int way), some (.ref l), none, none] ∧ But j H H2 ∧ Jug H2 j ∧ H2 l = some (.tup (ns.map V.int)) ∧ ns.length = n ∧ ∀ x ∈ ns, 0 ≤ x ∧ x ≤ 1000000, ?_, fun σ' H2 z => ?_⟩
      · refine ⟨.int way, rfl, rfl, _, rfl, ite2 (fun ew => ?_) (fun ew => ?_)⟩
        · exact ⟨.ref p, rfl, .str k.nm, rfl, p, k, ms, n, rfl, o1, fun H2 l ns e2 hl ln hb => ⟨l, ns, rfl, e1.trans (Same.but e2), j1.same e2, hl, ln, fun x hx => by have := hb x hx; omega⟩⟩
        · exact ⟨.ref j, rfl, .ref p, rfl, .str k.nm, rfl, j, p, k, ms, n, rfl, j1, o1, fun H2 l ns e2 j2 hl ln hb => ⟨l, ns, rfl, e1.trans e2, j2, hl, ln, hb⟩⟩
      · obtain ⟨l, ns, rfl, e2, j2, hl, ln, hb⟩ := z
        have hlV : (ns.map V.int).length = ns.length := List.length_map ..
        refine ⟨.ref j, rfl, .ref l, rfl, l, _, rfl, .inr (SqT.of hl), j, _, rfl, j2, by omega, by omega, fun H3 at' e3 j3 a0 a1 => ?_⟩
        have hl3 : H3 l = some (.tup (ns.map V.int)) := e3 _ _ (jug_tup j2 hl) hl
        have e03 := e2.trans e3
        have hat : at' = (at'.toNat : Nat) := by omega
        have hat1 : at' + 1 = ((at'.toNat + 1 : Nat) : Int) := by omega
        have c1 : cutV (ns.map V.int) none (some at') = (ns.take at'.toNat).map V.int := by
          rw [hat, cut_to (by rw [hlV]; omega), Int.toNat_natCast, List.map_take]
        have c2 : cutV (ns.map V.int) (some (at' + 1)) none = (ns.drop (at'.toNat + 1)).map V.int := by
          rw [hat1, cut_from (by rw [hlV]; omega), List.map_drop]
        have c3 : cutV (ns.map V.int) (some at') (some (at' + 1)) = ((ns.drop at'.toNat).take 1).map V.int := by
          rw [hat1, hat, cut_mid (by rw [hlV]; omega) (by rw [hlV]; omega), Int.toNat_natCast, List.map_take, List.map_drop]
          congr 1
          omega
        refine ⟨.int way, rfl, rfl, _, rfl, ite2 (fun ew => ?_) (fun ew2 => ?_)⟩
        · refine ⟨.ref l, rfl, .int at', rfl, at', rfl, l, _, rfl, SqT.of hl3, fun p1 H4 e4 s4 => ?_⟩
          rw [c1] at s4
          have j4 := j3.same e4
          refine ⟨.ref j, rfl, j, 6, rfl, j4, by omega, by omega, fun H5 d e5 j5 d0 d1 => ⟨line_le (by show 1 ≤ 1000000; decide), fun p2 n2 => ?_⟩⟩
          have s5 := e5.seqT j4 s4
          have e6 : Same H5 (upd H5 p2 (.tup [V.int d])) := same_new n2
          refine ⟨p1, p2, _, _, rfl, rfl, e6.seqT s5, SqT.of upd_same, line_le (by rw [List.length_map, List.length_take]; show _ + 1 ≤ _; omega), fun p3 H7 e7 s7 => ?_⟩
          have hl7 : H7 l = some (.tup (ns.map V.int)) := e7 _ _ (e6 _ _ (e5 _ _ (jug_tup j4 (e4 _ _ hl3)) (e4 _ _ hl3)))
          refine ⟨.ref l, rfl, .int at', rfl, at', 1, rfl, rfl, at' + 1, rfl, l, _, rfl, SqT.of hl7, fun p4 H8 e8 s8 => ?_⟩
          rw [c2] at s8
          refine ⟨p3, p4, _, _, rfl, rfl, e8.seqT s7, s8, line_le (by rw [List.length_append, List.length_map, List.length_take, List.length_map, List.length_drop]; show _ + 1 + _ ≤ _; omega), fun p5 H9 e9 s9 => ?_⟩
          refine q H9 p5 (ns.take at'.toNat ++ [d] ++ ns.drop (at'.toNat + 1)) (e03.trans ((Same.but e4).trans (e5.trans (Same.but (e6.trans (e7.trans (e8.trans e9))))))) (j5.same (e6.trans (e7.trans (e8.trans e9)))) ⟨?_, ?_, ?_, fun x hx => ?_⟩
          · rw [List.map_append, List.map_append]
            exact s9
          · rw [List.length_append, List.length_append, List.length_take, List.length_drop]
            show 1 ≤ _ + 1 + _
            omega
          · rw [List.length_append, List.length_append, List.length_take, List.length_drop]
            show _ + 1 + _ ≤ 59
            omega
          · rcases List.mem_append.mp hx with hx | hx
            · rcases List.mem_append.mp hx with hx | hx
              · have := hb x (List.mem_of_mem_take hx)
                omega
              · rw [List.mem_singleton.mp hx]
                omega
            · have := hb x (List.mem_of_mem_drop hx)
              omega
        · refine ⟨.int way, rfl, rfl, _, rfl, ite2 (fun ew => ?_) (fun ew3 => ?_)⟩
          · refine ⟨.ref l, rfl, l, rfl, ⟨_, SqT.of hl3⟩, fun D nD => ?_⟩
            have nl : l ≠ D := fun z => by rw [z, nD] at hl3; cases hl3
            refine lc_tup (xs := ns.map V.int) (fun i H' => ∃ fs : List Int, Same H3 H' ∧ H' D = some (.lst (fs.map V.int)) ∧ fs.length = i ∧ ∀ x ∈ fs, 0 ≤ x ∧ x ≤ 1000000000000000000) ⟨[], same_new nD, upd_same, rfl, fun _ z => by cases z⟩ (fun i H' _ z => ?_) (fun i x H' hx z => ?_) fun H' z => ?_
            · obtain ⟨fs, e, _⟩ := z
              exact SqT.of (e _ _ hl3)
            · obtain ⟨fs, e, hD, hfl, hfb⟩ := z
              obtain ⟨c, hc, rfl⟩ : ∃ c, ns[i]? = some c ∧ x = V.int c := by
                rw [List.getElem?_map] at hx
                cases hm : ns[i]? with
                | none => rw [hm] at hx; cases hx
                | some c =>
                  rw [hm] at hx
                  exact ⟨c, rfl, (Option.some.inj hx).symm⟩
              have hcm := List.mem_of_getElem? hc
              have hcb := hb c hcm
              have il := (List.getElem?_eq_some_iff.mp hc).1
              refine ⟨rfl, ?_⟩
              refine ⟨.int c, rfl, 10, 18, rfl, rfl, ⟨by decide, by decide, by decide⟩, c, _, rfl, rfl, .ref l, rfl, l, ns, rfl, SqT.of (e _ _ hl3), (fun z => by rw [z] at hcm; cases hcm), fun m hm1 hm2 => ?_⟩
              have hmb := hb m hm1
              have hcm2 := hm2 c hcm
              refine ⟨_, m, rfl, rfl, _, hD, line_lt (by rw [List.length_map]; omega), fs ++ [c + (10 : Int) ^ (18 : Int).toNat - m], same_at e nD, ?_, ?_, fun x hx => ?_⟩
              · rw [upd_same, List.map_append]
                rfl
              · rw [List.length_append, hfl]
                rfl
              · rcases List.mem_append.mp hx with hx | hx
                · exact hfb x hx
                · rw [List.mem_singleton.mp hx, show (10 : Int) ^ (18 : Int).toNat = 1000000000000000000 from rfl]
                  omega
            · obtain ⟨fs, e, hD, hfl, hfb⟩ := z
              rw [List.length_map] at hfl
              refine ⟨D, _, rfl, .inl ⟨SqL.of hD, fun t nt => ?_⟩⟩
              have e5 := e.trans (same_new (o := .tup (fs.map V.int)) nt)
              exact q _ t fs (e03.trans (Same.but e5)) (j3.same e5) ⟨SqT.of upd_same, by omega, by omega, hfb⟩
          · refine ⟨.int way, rfl, rfl, _, rfl, ite2 (fun ew => ?_) (fun ew4 => ?_)⟩
            · refine ⟨.ref l, rfl, .int at', rfl, at', rfl, l, _, rfl, SqT.of hl3, fun p1 H4 e4 s4 => ?_⟩
              rw [c1] at s4
              refine ⟨.ref l, rfl, .int at', rfl, at', 1, rfl, rfl, at' + 1, rfl, l, _, rfl, SqT.of (e4 _ _ hl3), fun p2 H5 e5 s5 => ?_⟩
              rw [c2] at s5
              refine ⟨p1, p2, _, _, rfl, rfl, e5.seqT s4, s5, line_le (by rw [List.length_map, List.length_take, List.length_map, List.length_drop]; omega), fun p3 H6 e6 s6 => ?_⟩
              refine ⟨.ref l, rfl, .int at', rfl, at', rfl, .int at', rfl, at', 1, rfl, rfl, at' + 1, rfl, l, _, rfl, SqT.of ((e4.trans (e5.trans e6)) _ _ hl3), fun p4 H7 e7 s7 => ?_⟩
              rw [c3] at s7
              refine ⟨p3, p4, _, _, rfl, rfl, e7.seqT s6, s7, line_le (by rw [List.length_append, List.length_map, List.length_take, List.length_map, List.length_drop, List.length_map, List.length_take, List.length_drop]; omega), fun p5 H8 e8 s8 => ?_⟩
              have e48 := e4.trans (e5.trans (e6.trans (e7.trans e8)))
              refine q H8 p5 (ns.take at'.toNat ++ ns.drop (at'.toNat + 1) ++ (ns.drop at'.toNat).take 1) (e03.trans (Same.but e48)) (j3.same e48) ⟨?_, ?_, ?_, fun x hx => ?_⟩
              · rw [List.map_append, List.map_append]
                exact s8
              · rw [List.length_append, List.length_append, List.length_take, List.length_drop, List.length_take, List.length_drop]
                omega
              · rw [List.length_append, List.length_append, List.length_take, List.length_drop, List.length_take, List.length_drop]
                omega
              · have : x ∈ ns := by
                  rcases List.mem_append.mp hx with hx | hx
                  · rcases List.mem_append.mp hx with hx | hx
                    · exact List.mem_of_mem_take hx
                    · exact List.mem_of_mem_drop hx
                  · exact List.mem_of_mem_drop (List.mem_of_mem_take hx)
                have := hb x this
                omega
            · exact ⟨.ref l, rfl, q H3 l ns e03 j3 ⟨SqT.of hl3, by omega, by omega, fun x hx => by have := hb x hx; omega⟩⟩
end
end K67

/-! Promises of defs that are called where no guard is held: repr of a list asks for that. -/
namespace K67
open PySem PySem.Spec PyProof.Rows L2

section
variable {P : Program} {w : World} {K : PySem.W.Frag} {mg : Str → Option Value} {base : Heap}
/-- a def's promise to callers who hold no guard -/
def FnG (P : Program) (w : World) (K : PySem.W.Frag) (mg : Str → Option Value) (base : Heap) (k : Nat) (f : Addr) (fd : FuncData) (ps : List Str) (sp : Sp) : Prop :=
  (∀ vs H Q E, sp vs H Q E → vs.length = ps.length) ∧
  ∀ (A : Around) (outer : List Env) (s : Shared) (H : Hp) (us : List Value) (vs : List V) (Q : VK) (E : XK), Room k A → A.guards = some [] → Env0 P w K mg base A outer s H → BindsTo s fd ⟨us, []⟩ (ps.zip us) → Vals vs us → sp vs H Q E →
    codeAny (model P w) A (.call (.ref f) ⟨us, []⟩) (CR C8.CX0 outer P w H s Q E) s
def CalG (P : Program) (w : World) (K : PySem.W.Frag) (mg : Str → Option Value) (base : Heap) (k : Nat) (x : Str) (ps : List Str) (sp : Sp) : Prop :=
  ∃ (f : Addr) (fd : FuncData), FnG P w K mg base k f fd ps sp ∧ mg x = some (.ref f) ∧ PySem.W.keepIn K (.ref f) = true ∧ Binds K fd ps []

theorem calG {x : Str} {i k : Nat} {N ps : List Str} {sp : Sp} (d : Df K mg x i ps) (S : FnScope N ps (defScope (topS i))) (len : ∀ vs H Q E, sp vs H Q E → vs.length = ps.length)
    (body : ∀ (f : Addr) (cdv : Value) (A : Around) (outer : List Env) (s : Shared) (H : Hp) (vs : List V) (Q : VK) (E : XK), Room k (A.deeper (envOfC x (defScope (topS i)) s.heap.objs.size f cdv)) → A.guards = some [] → sp vs H Q E →
      ∃ t, PSs (cxOf C8.CX0 P w K mg base N x (defScope (topS i)) f cdv A outer s H E).nox (defBody (topS i)) t ∧ t { nx := fun _ H' => Q .non H', rt := Q } (start N vs) H) : CalG P w K mg base (k + 1) x ps sp := by
  obtain ⟨f, fd, F, g, b⟩ := d
  refine ⟨f, fd, ⟨len, fun A outer s H us vs Q E hr hg e0 hb r hsp => ?_⟩, g, F.kp, b⟩
  obtain ⟨oc, od, kV, doc, pm, an, cdv, ct, osl, rfl, lk, hcd⟩ := F.ex
  have inn : K.In s.heap := e0.mod.kin.keeps fun b o e => (e0.bs b o e).1
  have nol : s.heap.NoLimit := e0.mod.nolimit.keeps fun b o e => (e0.bs b o e).1
  refine codeAny_call_function hr.depth (inn _ _ lk) rfl S.co S.gen rfl (PySem.W.codeRec_of inn hcd) (hb _ _ _ _ ?_)
  refine wpAny_newFunctionEnv_cells S.kind (fun y hy => ?_) fun env he s1 z => ?_
  · have hm := (List.of_mem_zip (show (y.1, y.2) ∈ _ from hy)).1
    exact (S.par _ hm).imp id fun q => ⟨q, PySem.W.cellsFrom_some _ _ _ (.inl q)⟩
  · subst he
    refine ⟨nol.keeps z.toInCall.keep, codeAny_func ?_⟩
    obtain ⟨t, ht, q⟩ := body f cdv A outer s H vs Q E (hr.deeper _) hg hsp
    refine wpAny_mono (ht.nox.run [] s1 (start N vs) H _ (inv_start S hr.hd e0 (len _ _ _ _ hsp) r z) q) (fun fl s' y => ?_) fun _ _ y => y
    cases fl with
    | ret u =>
      obtain ⟨v, σ', H', J, rv, q'⟩ := y
      exact ⟨v, H', J.os, J.bare, J.base, J.hok, rv, q'⟩
    | next =>
      obtain ⟨σ', H', J, q'⟩ := y
      exact ⟨.non, H', J.os, J.bare, J.base, J.hok, rfl, q'⟩
    | brk =>
      obtain ⟨_, _, _, q'⟩ := y
      exact q'.elim
    | cont =>
      obtain ⟨_, _, _, q'⟩ := y
      exact q'.elim

theorem pe_cG {X : Cx} {k j : Nat} {x : Str} {ps : List Str} {sp : Sp} {p pos : Pos} {e : Expr} {es : List Expr} {t : TA} (c : CalG X.prog X.w X.K X.mg X.base k x ps sp) (hr : Room j X.A) (hgd : X.A.guards = some []) (hk : k ≤ j) (hg : Gl X x) (ha : PA X (e :: es) t)
    (hdb : (x == ("__debug__" : Str)) = false := by decide) (he : starEach (e :: es) X.env = (false, eval e X.env) :: starEach es X.env := by rfl) (hpl : (backTo pos (starEach es X.env)).any (·.1) = false := by rfl) :
    PE X (.Call (.Name x p) (e :: es) [] pos) (tCall sp [] C8.E0 t) := by
  obtain ⟨f, fd, F, hm, kp, b⟩ := c
  refine ⟨fun pins s σ H Q I h => ?_⟩
  refine wpAny_Call_Name_kw (ld_glob I hg hm ?_ hdb)
  refine PySem.W.callWith_K (h₀ := X.base) I.ok.mod.kin kp (thn (ha.run pos pins s σ H _ I h) fun us s1 ev => ?_) he hpl
  obtain ⟨vs, H1, I1, r, q⟩ := ev
  refine ⟨I1.kIn, ?_⟩
  rw [List.append_nil] at q
  have hl : us.length = ps.length := by rw [← r.length]; exact F.1 _ _ _ _ q
  have hbi := b s1 us I1.kIn (by rw [List.append_nil]; exact hl)
  rw [List.append_nil] at hbi
  refine wpAny_call (codeAny_mono (F.2 X.A X.stack s1 H1 us vs Q C8.E0 (hr.mono hk) hgd I1.env0 hbi r q) fun y s' hq => ?_)
  cases y with
  | error _ => exact (show False from hq).elim
  | ok fl =>
    cases fl with
    | ret u => exact I1.after hq
    | next => exact (show False from hq).elim
    | brk => exact (show False from hq).elim
    | cont => exact (show False from hq).elim
end

/-! ### the end -/
/-- what is tracked at the law's call: the script, when it is none of the module's own objects -/
def H0 (K : PySem.W.Frag) (a : Addr) (o : Obj) (xs : List V) : Hp := fun b => if b = a ∧ K.lookup a = none then some (.frz o (.lst xs)) else none
theorem H0_cases {K : PySem.W.Frag} {a b : Addr} {o : Obj} {xs : List V} {u : HO} (h : H0 K a o xs b = some u) : b = a ∧ K.lookup a = none ∧ u = .frz o (.lst xs) := by
  unfold H0 at h
  split at h
  · rename_i z
    exact ⟨z.1, z.2, (Option.some.inj h).symm⟩
  · cases h
theorem H0_none {K : PySem.W.Frag} {a b : Addr} {o : Obj} {xs : List V} (h : b = a → K.lookup a = none → False) : H0 K a o xs b = none := if_neg fun z => h z.1 z.2

theorem call_lawG {P : Program} {w : World} {K : PySem.W.Frag} {mg mb : Str → Option Value} {k : Nat} {fa a : Addr} {x y : Str} {sp : Sp} {s : Shared} {vs : List Value} {ns : List Int}
    (KX : K.In s.heap) (hm : s.heap.Ns mainGlobals mg) (hb : s.heap.Ns builtinsNs mb) (hbb : ∀ x : Str, x ≠ "__name__" → mb x = bootBuiltins x) (lim : s.heap.NoLimit) (hg : s.gens = #[])
    (ha : s.heap.get? a = some { cls := .type "list", data := .seq vs.toArray }) (hi : IntsAre vs ns) (hl : ns.length ≤ sizeLine) (hr : Room k callerA)
    (F : ∀ base : Heap, CalG P w K mg base k y [x] sp) (hy : mg y = some (.ref fa))
    (hsp : ∀ H : Hp, SqL K H a (ns.map V.int) → sp [.ref a] H (fun v _ => v = .bl true) C8.E0) :
    codeAny (model P w) callerA (.call (.ref fa) ⟨[.ref a], []⟩) (fun r s' => r = .ok (.ret (.bool true)) ∧ OldK s.heap s'.heap ∧ s'.os = s.os ∧ AllBare s'.gens) s := by
  have rv := vals_ints hi
  obtain ⟨H, hH⟩ : ∃ H, H = H0 K a { cls := .type "list", data := .seq vs.toArray } (ns.map V.int) := ⟨_, rfl⟩
  have cs : ∀ {b : Addr} {u : HO}, H b = some u → b = a ∧ K.lookup a = none ∧ u = .frz { cls := .type "list", data := .seq vs.toArray } (.lst (ns.map V.int)) := fun h => by
    rw [hH] at h
    exact H0_cases h
  have hok : HOk P w H s.heap := fun b u z => by
    obtain ⟨rfl, _, rfl⟩ := cs z
    exact ⟨ha, by rw [List.length_map]; exact hl, vs, _, rv, ha⟩
  have hS : SqL K H a (ns.map V.int) := by
    cases e : K.lookup a with
    | none => exact .inl (.inr ⟨_, by rw [hH]; exact if_pos ⟨rfl, e⟩⟩)
    | some o =>
      have e2 := KX a o e
      rw [ha] at e2
      obtain rfl := Option.some.inj e2
      exact .inr ⟨_, vs.toArray, _, e, rfl, rfl, rfl, by rw [List.size_toArray, hi.length]; exact hl, by simpa using rv⟩
  have dict_free : ∀ {b : Addr} {o : Obj} {es : Array DictEntry} {ep : Nat}, s.heap.get? b = some o → o.data = .dict es ep → H b = none := fun {b o es ep} e d => by
    cases q : H b with
    | none => rfl
    | some u =>
      obtain ⟨rfl, _, _⟩ := cs q
      rw [ha] at e
      obtain rfl := Option.some.inj e
      cases d
  have nsB : ∀ {b : Addr} {m : Str → Option Value}, s.heap.Ns b m → (hidT s.heap H).Ns b m := fun h => by
    obtain ⟨o, es, ep, e, d, r⟩ := h
    exact ⟨o, es, ep, hidT_get e (dict_free e d), d, r⟩
  have inB : K.In (hidT s.heap H) := fun b o e => hidT_get (KX b o e) (by
    cases q : H b with
    | none => rfl
    | some u =>
      obtain ⟨rfl, n, _⟩ := cs q
      rw [n] at e
      cases e)
  have md : Mod K mg (hidT s.heap H) := ⟨inB, nsB hm, ⟨mb, nsB hb, hbb⟩, by
    obtain ⟨mc, h1, h2⟩ := lim
    exact ⟨mc, nsB h1, h2⟩⟩
  have e0 : Env0 P w K mg (hidT s.heap H) callerA [] s H := ⟨rfl, md, fun b o e => of_hidT e, Nat.le_of_eq (hidT_size _ _), trivial, (fun b hb => by cases hb), hok, .of_eq hg⟩
  obtain ⟨f, fd, F1, hf, _, hbd⟩ := F (hidT s.heap H)
  obtain rfl : f = fa := by
    rw [hf] at hy
    cases hy
    rfl
  have hbi := hbd s [.ref a] KX rfl
  refine codeAny_mono (F1.2 callerA [] s H [.ref a] [.ref a] _ _ hr rfl e0 hbi (.cons rfl .nil) (hsp H hS)) fun r s' h => ?_
  cases r with
  | error e => exact (show False from h).elim
  | ok fl =>
    cases fl with
    | next => exact (show False from h).elim
    | brk => exact (show False from h).elim
    | cont => exact (show False from h).elim
    | ret u =>
      obtain ⟨v, H', os, bare, un, hok', r', q⟩ := h
      obtain rfl : v = .bl true := q
      obtain rfl : u = Value.bool true := r'
      refine ⟨rfl, OldK.of_keep fun b o e => ?_, os, bare⟩
      cases q : H b with
      | none => exact un.keep b o e q (fun z => by cases z) (fun z => by cases z)
      | some u =>
        obtain ⟨rfl, _, rfl⟩ := cs q
        obtain ⟨e1, _⟩ := hok' b _ (un.frzs b _ _ q)
        rw [ha] at e
        obtain rfl := Option.some.inj e
        exact e1
/-- the law row, from the law's promise -/
theorem walk_G {l : PySem.W.OpenLaw} {n k : Nat} {q : Program} {loose : List Str} {XP : (Str → Option Value) → Heap → Prop} {YP : World → Heap → Prop} {d : DefRec} {K : Params → PySem.W.Frag} {sp : PySem.W.Frag → Sp} {x : Str}
    (hn : l.most = some n) (hn2 : n ≤ sizeLine) (hdf : d.params.defaults = []) (hr : Room k callerA) (hY : ∀ (w : World) (h : Heap), YP w h → (K w.params).In h)
    (F : ∀ (w : World) (mg : Str → Option Value) (h : Heap), (K w.params).In h → h.Ns mainGlobals mg → XP mg h → ∀ base : Heap, CalG l.prog w (K w.params) mg base k d.name [x] (sp (K w.params)))
    (hsp : ∀ (K : PySem.W.Frag) (H : Hp) (a : Addr) (ns : List Int), ns.length ≤ n → SqL K H a (ns.map V.int) → sp K [.ref a] H (fun v _ => v = .bl true) C8.E0) :
    PySem.W.WalkO q loose XP YP l.row.toRowW d [] (fun f vs => PySem.call f vs) := by
  refine Att.attach_call hn hdf fun w s₀ s₁ mg mb fa o pm cd doc a vs ns G Y ho hd hcd hmg hobj hints hlen hg => ?_
  have KX := hY w _ Y
  exact call_lawG KX G.T.g G.T.b G.T.builtins G.T.nolimit hg hobj hints (Nat.le_trans hlen hn2) hr (F w mg _ KX G.T.g G.X) hmg fun H hS => hsp _ H a ns hlen hS
end K67

/-! The law itself. -/
namespace K67
open PySem PySem.Spec PyProof.Rows L2

theorem pe_c0 {X : Cx} {k j : Nat} {x : Str} {sp : Sp} {dvs : List V} {p pos : Pos} (c : Cal X.prog X.w X.K X.mg X.base k x sp dvs) (hr : Room j X.A) (hk : k ≤ j) (hg : Gl X x) (hdb : (x == ("__debug__" : Str)) = false := by decide) :
    PE X (.Call (.Name x p) [] [] pos) (tCall sp dvs C8.E0 tNil) := by
  obtain ⟨f, fd, ps, ds, F, hm, kp, b, d⟩ := c.ex
  exact pe_call0 F (hr.mono hk) hg hm kp b d C8.pass0 hdb
theorem below_bounds (x y : Int) (hy : y = 1000000000000000000) : 1 ≤ (if (if x < y then x else y) > 1 then (if x < y then x else y) else 1) ∧ (if (if x < y then x else y) > 1 then (if x < y then x else y) else 1) ≤ 1000000000000000000 := by
  subst hy
  constructor <;> (split <;> split <;> omega)
theorem shaped_tup (ns : List Int) : SeqAt.shaped (.tuple (ns.map PyData.int)) = true := by
  simp [SeqAt.shaped, PyData.canLay0, PyData.depth, PySem.W.ke_canLayAll0, PySem.W.ke_depthAll]
theorem kd_of {v : V} (h : v ∈ [V.str "first", V.str "last", V.str "ring"]) : ∃ k : Kd, v = .str k.nm := by
  simp only [List.mem_cons, List.not_mem_nil, or_false] at h
  rcases h with rfl | rfl | rfl
  · exact ⟨.first, rfl⟩
  · exact ⟨.last, rfl⟩
  · exact ⟨.ring, rfl⟩
theorem Txt.same {K : PySem.W.Frag} {H H' : Hp} {l : Addr} {ns : List Int} (e : Same H H') (h : Txt K H l ns) : Txt K H' l ns := ⟨e.seqT h.1, h.2⟩
theorem Txt.but {K : PySem.W.Frag} {H H' : Hp} {j l : Addr} {ns : List Int} (e : But j H H') (jg : Jug H j) (h : Txt K H l ns) : Txt K H' l ns := ⟨e.seqT jg h.1, h.2⟩
theorem Txt.yes {K : PySem.W.Frag} {H : Hp} {l : Addr} {ns : List Int} (h : Txt K H l ns) : CertYes K H l ns := ⟨h.1, h.2.1, by have := h.2.2.1; omega, h.2.2.2⟩

section
variable {P : Program} {w : World} {K : PySem.W.Frag} {mg : Str → Option Value} {base : Heap}

theorem sc47 : FnScope ["_law_jug_here", "_law_turn", "_law_spots_here", "_law_sort", "_law_line_here", "_law_below", "_law_due", "_law_said"] ["_law_jug_here"] (defScope (topS 47)) := ⟨rfl, rfl, rfl, by decide +kernel, rfl, by decide +kernel, by decide +kernel⟩
def spRight : Sp := fun vs H Q _ => ∃ j : Addr, vs = [.ref j] ∧ Jug H j ∧ ∀ H', But j H H' → Q (.bl true) H'
/-- what the law says of a text: due -/
def due (k : Kd) (ns ms : List Int) (M b : Int) : Bool := decide (spots 1000000000000000001 k ns = some ms) && decide (M < b)
theorem ok_right (T : Tp w K mg) : CalG P w K mg base 8 "_law_right" ["_law_jug_here"] spRight := by
  obtain ⟨fa, fda, Fa, ga, ba, oka⟩ := fn_accepts (P := P) (base := base) T
  refine calG T.right sc47 (fun vs H Q E h => ?_) (fun f cdv A outer s H vs Q E hr hgd h => ?_)
  · obtain ⟨j, rfl, _⟩ := h
    rfl
  · obtain ⟨j, rfl, hj, q⟩ := h
    refine ⟨_, pss_cons (ps_for PassesOwn.never rfl (pi_range1 (by rfl) T.b_range (pa_cons pe_int pa_nil)) (pg_name (i := 1) sc47.nd rfl (.inl rfl))
        (pss_cons (ps_par (i := 2) (j := 3) rfl sc47.nd rfl rfl (by decide) rfl rfl (pa_cons (C8.pe_c (ok_drawn T) hr (by decide) (by rfl) (pa_cons (pv 0) (pa_cons pe_int pa_nil)))
            (pa_cons (C8.pe_c (ok_one T) hr (by decide) (by rfl) (pa_cons (pv 0) (pa_cons (pe_c0 (ok_sorts T) hr (by decide) (by rfl)) pa_nil))) pa_nil)) (by rfl))
        (pss_cons (ps_set (i := 4) sc47.nd rfl (.inl rfl) (C8.pe_c (ok_candidate T) hr (by decide) (by rfl) (pa_cons (pv 0) (pa_cons (pv 2) (pa_cons (pv 3) pa_nil)))))
        (C8.pss_cut (ps_set (i := 5) sc47.nd rfl (.inl rfl) (pe_callB (call_max2 rfl) (by rfl) T.b_max bo_max (pa_cons pe_int (pa_cons (pe_callB (call_min2 rfl) (by rfl) T.b_min bo_min (pa_cons (pe_op op_pow pe_int pe_int) (pa_cons
            (pe_op op_add (pe_callB (cr_maxT rfl hr.units) (by rfl) T.b_max bo_max (pa_cons (pv 4) pa_nil)) (C8.pe_c (ok_one T) hr (by decide) (by rfl) (pa_cons (pv 0) (pa_cons (pe_lst (pa_cons (pe_un un_neg pe_int) (pa_cons pe_int (pa_cons pe_int (pa_cons pe_int (pa_cons pe_int (pa_cons pe_int pa_nil))))))) pa_nil)))) pa_nil))) pa_nil))))
        (C8.pss_cut (ps_set (i := 6) sc47.nd rfl (.inl rfl) (pe_and (pe_cmpR (op_eqD hr.units) (C8.pe_c (ok_spots T) hr (by decide) (by rfl) (pa_cons (pv 4) (pa_cons (pv 3) pa_nil))) (pv 2) (nomark _))
            (pe_one (pe_cmpR op_lt (pe_callB (cr_maxT rfl hr.units) (by rfl) T.b_max bo_max (pa_cons (pv 4) pa_nil)) (pv 5) (nomark _)))))
        (pss_cons (ps_set (i := 7) sc47.nd rfl (.inl rfl) (pe_tup (pa_cons pe_str (pa_cons (pv 2) (pa_cons (pv 3) (pa_cons (pv 5) pa_nil))))))
        (pss_cons (ps_if (pt_cmpR op_ne (pe_callB (cr_reprB hgd hr.units) (by rfl) T.b_repr bo_repr (pa_cons (pe_lst (pa_cons (C8.pe_c (ok_accepts T) hr (by decide) (by rfl) (pa_cons (pv 7) (pa_cons (pv 4) pa_nil)))
                (pa_cons (pe_callK0 (E := C8.E0) (ks := ["certificate", "claim"]) oka (hr.mono (by decide)) (by rfl) ga Fa.kp (kb_accepts Fa) C8.pass0 (pk_cons (pv 4) (pk_cons (pv 7) pk_nil))) pa_nil))) pa_nil))
              (pe_callB (cr_reprB hgd hr.units) (by rfl) T.b_repr bo_repr (pa_cons (pe_lst (pa_cons (pv 6) (pa_cons (pv 6) pa_nil))) pa_nil)) (nomark _)) (pss_one (ps_ret pe_bl)) pss_nil)
        (pss_one (ps_if (PW.pt (pw_or (pt_cmpR op_notBl (C8.pe_c (ok_accepts T) hr (by decide) (by rfl) (pa_cons (pv 7) (pa_cons (pe_callTy call_list_of (by rfl) T.b_list bo_list (pa_cons (pv 4) pa_nil)) pa_nil))) pe_bl (nomark _))
            (pw_or1 (pt_cmpR op_notBl (C8.pe_c (ok_accepts T) hr (by decide) (by rfl) (pa_cons (pv 7) (pa_cons (pe_op op_catG (pv 4) (pe_tup (pa_cons pe_non pa_nil))) pa_nil))) pe_bl (nomark _))))) (pss_one (ps_ret pe_bl)) pss_nil)))))))))
      (pss_one (ps_ret pe_bl)), ?_⟩
    refine ⟨_, rfl, by omega, by omega, ?_⟩
    refine for_range (lo := 0) (n := 14) (fun i σ H' => ∃ y1 y2 y3 y4 y5 y6 y7 : Option V, σ = [some (.ref j), y1, y2, y3, y4, y5, y6, y7] ∧ But j H H' ∧ Jug H' j)
      ⟨none, none, none, none, none, none, none, rfl, But.refl j H, hj⟩ (fun i σ H1 hi z => ?_) fun σ H1 z => ?_
    · obtain ⟨y1, y2, y3, y4, y5, y6, y7, rfl, e1, j1⟩ := z
      refine ⟨.ref j, rfl, j, 7, rfl, j1, by omega, by omega, fun H2 p ms n e2 j2 hp hperm n1 n7 => ?_⟩
      refine ⟨.ref j, rfl, rfl, fun r nr => ?_⟩
      have eA := same_new (o := .lst [V.str "first", V.str "last", V.str "ring"]) nr
      refine ⟨j, r, _, rfl, j2.same eA, SqL.of upd_same, But.ne j2 nr, by show 1 ≤ 3; decide, by show 3 ≤ 1000; decide, fun H3 v e3 j3 hv => ?_⟩
      obtain ⟨k, rfl⟩ := kd_of hv
      have e23 : But j H2 H3 := (Same.but eA).trans e3
      have o3 : Ord H3 p ms n := ⟨hp.but e23 j2, hperm, n1, by omega⟩
      refine ⟨.ref p, .str k.nm, rfl, ?_⟩
      refine ⟨.ref j, rfl, .ref p, rfl, .str k.nm, rfl, j, p, k, ms, n, rfl, j3, o3, by omega, fun H4 l ns e4 j4 t4 => ?_⟩
      have o4 := o3.but e4 j3
      have e14 : But j H H4 := e1.trans (e2.trans (e23.trans e4))
      have nne : ns ≠ [] := fun z => by
        have := t4.2.1
        rw [z] at this
        exact absurd this (by simp)
      obtain ⟨M, hM, hMx⟩ := exists_max ns t4.2.1
      have uM : ∀ m, m ∈ ns → (∀ y, y ∈ ns → y ≤ m) → m = M := fun m a b => by
        have := hMx m a
        have := b M hM
        omega
      refine ⟨fun σ' H5 => ∃ b : Int, σ' = [some (.ref j), some (.int (0 + (i : Int))), some (.ref p), some (.str k.nm), some (.ref l), some (.int b), y6, y7] ∧ 1 ≤ b ∧ b ≤ 1000000000000000000 ∧ But j H4 H5 ∧ Jug H5 j, ?_, fun σ' H5 z => ?_⟩
      · refine ⟨10, 18, rfl, rfl, ⟨by decide, by decide, by decide⟩, .ref l, rfl, l, ns, rfl, t4.1, nne, fun m hm1 hm2 => ?_⟩
        refine ⟨.ref j, rfl, 1, rfl, line_le (by show 6 ≤ 1000000; decide), fun r2 nr2 => ?_⟩
        have eB := same_new (o := .lst [V.int (-1), V.int 0, V.int 1, V.int 1, V.int 2, V.int 9]) nr2
        refine ⟨j, r2, _, rfl, j4.same eB, SqL.of upd_same, But.ne j4 nr2, by show 1 ≤ 6; decide, by show 6 ≤ 1000; decide, fun H5 v e5 j5 hv => ?_⟩
        obtain ⟨d, rfl⟩ : ∃ d, v = .int d := by
          simp only [List.mem_cons, List.not_mem_nil, or_false] at hv
          rcases hv with rfl | rfl | rfl | rfl | rfl | rfl <;> exact ⟨_, rfl⟩
        refine ⟨m, d, rfl, rfl, _, _, rfl, _, _, rfl, _, rfl, ?_, ?_, (Same.but eB).trans e5, j5⟩
        · exact (below_bounds (m + d) _ rfl).1
        · exact (below_bounds (m + d) _ rfl).2
      obtain ⟨b, rfl, b1, b2, e5, j5⟩ := z
      have o5 := o4.but e5 j4
      have t5 := t4.but e5 j4
      have lt5 := t5.2.2.1
      refine ⟨fun σ' H6 => σ' = [some (.ref j), some (.int (0 + (i : Int))), some (.ref p), some (.str k.nm), some (.ref l), some (.int b), some (.bl (due k ns ms M b)), y7] ∧ Same H5 H6, ?_, fun σ' H6 z => ?_⟩
      · have mk : spots 10000000000000000000 k ns = spots 1000000000000000001 k ns := spots_mark k (by decide) (fun x hx => by have := t5.2.2.2 x hx; omega) (by decide)
        refine ⟨.ref l, rfl, .str k.nm, rfl, l, k, ns, rfl, t5.1, by omega, fun H6 e6 => ⟨fun es => ?_, fun ms' p' es np hp' => ?_⟩⟩
        · rw [mk] at es
          have dz : due k ns ms M b = false := by unfold due; rw [es]; rfl
          refine ⟨.ref p, rfl, .none, .tuple (ms.map .int), .non, .tup (o5.same e6).1.sq (dp_ints _), by decide, shaped_tup _, false, rfl, iteF ?_⟩
          rw [dz]
          exact ⟨rfl, e6⟩
        · rw [mk] at es
          refine ⟨.ref p, rfl, .tuple (ms'.map .int), .tuple (ms.map .int), .tup (SqT.of hp') (dp_ints _), .tup (o5.same e6).1.sq (dp_ints _), shaped_tup _, shaped_tup _, _, rfl, ?_⟩
          rw [eqv_intsT]
          refine ite2 (fun ek => ?_) (fun ek => ?_)
          · have ek' := of_decide_eq_true ek
            subst ek'
            refine ⟨.ref l, rfl, l, ns, rfl, (t5.same e6).1, nne, fun m hm1 hm2 => ?_⟩
            obtain rfl := uM m hm1 hm2
            have dz : due k ns ms' m b = decide (m < b) := by unfold due; rw [es, decide_eq_true rfl, Bool.true_and]
            refine ⟨.int b, rfl, m, b, rfl, rfl, ?_⟩
            rw [dz]
            exact ⟨rfl, e6⟩
          · have ek' := of_decide_eq_false (Bool.eq_false_iff.mpr ek)
            have dz : due k ns ms M b = false := by
              unfold due
              rw [es, decide_eq_false (fun z => ek' (Option.some.inj z)), Bool.false_and]
            rw [dz]
            exact ⟨rfl, e6⟩
      obtain ⟨rfl, e6⟩ := z
      have o6 := o5.same e6
      have t6 := t5.same e6
      refine ⟨.ref p, rfl, .str k.nm, rfl, .int b, rfl, line_le (by show 4 ≤ 1000000; decide), fun t nt => ?_⟩
      obtain ⟨H7, hH7⟩ : ∃ H7, H7 = upd H6 t (.tup [.str "order", .ref p, .str k.nm, .int b]) := ⟨_, rfl⟩
      have e7 : Same H6 H7 := by rw [hH7]; exact same_new nt
      have ht7 : H7 t = some (.tup [.str "order", .ref p, .str k.nm, .int b]) := by rw [hH7]; exact upd_same
      rw [← hH7]
      have o7 := o6.same e7
      have t7 := t6.same e7
      have c7 : Clm K H7 t p k ms b := ⟨SqT.of ht7, o7.1.sq, b1, b2⟩
      have pm := o7.2.1
      have due_eq : ∀ m, m ∈ ns → (∀ y ∈ ns, y ≤ m) → (decide (spots 1000000000000000001 k ns = some ms) && decide (m < b)) = due k ns ms M b := fun m a c => by
        obtain rfl := uM m a c
        rfl
      refine ⟨.ref t, rfl, .ref l, rfl, t, l, p, k, ms, b, n, rfl, c7, pm, n1, by omega, .inr ⟨ns, t7.yes, fun H8 m8 e8 a8 c8 => ?_⟩⟩
      rw [due_eq m8 a8 c8]
      refine ⟨.ref l, rfl, .ref t, rfl, t, l, p, k, ms, b, n, rfl, c7.same e8, pm, n1, by omega, .inr ⟨ns, (t7.same e8).yes, fun H9 m9 e9 a9 c9 => ?_⟩⟩
      rw [due_eq m9 a9 c9]
      refine ⟨line_le (by show 2 ≤ 1000000; decide), fun r1 nr1 => ⟨r1, _, _, rfl, SqL.of upd_same, ?_⟩⟩
      refine ⟨_, rfl, _, rfl, line_le (by show 2 ≤ 1000000; decide), fun r2 nr2 => ⟨r2, _, _, rfl, SqL.of upd_same, rfl, _, rfl, ?_⟩⟩
      have eC := e8.trans (e9.trans ((same_new (o := .lst [V.bl (due k ns ms M b), V.bl (due k ns ms M b)]) nr1).trans (same_new (o := .lst [V.bl (due k ns ms M b), V.bl (due k ns ms M b)]) nr2)))
      refine iteNS rfl ?_
      refine ⟨.ref t, rfl, .ref l, rfl, l, _, rfl, .inr (t7.same eC).1, fun c nc => ?_⟩
      have eD := eC.trans (same_new (o := .lst (ns.map V.int)) nc)
      refine ⟨t, c, p, k, ms, b, n, rfl, c7.same eD, pm, n1, by omega, .inl ⟨.inl ⟨_, upd_same⟩, fun H10 e10 => ?_⟩⟩
      have eE := eD.trans e10
      refine ⟨false, false, rfl, rfl, _, rfl, iteF ?_⟩
      refine ⟨.ref t, rfl, .ref l, rfl, line_le (by show 1 ≤ 1000000; decide), fun u nu => ?_⟩
      have eF := eE.trans (same_new (o := .tup [V.non]) nu)
      refine ⟨l, u, _, _, rfl, rfl, (t7.same eF).1, SqT.of upd_same, line_le (by rw [List.length_map]; show _ + 1 ≤ _; omega), fun c2 H11 e11 s11 => ?_⟩
      have eG := eF.trans e11
      refine ⟨t, c2, p, k, ms, b, n, rfl, c7.same eG, pm, n1, by omega, .inl ⟨.inr ⟨_, s11, ?_, ?_, ?_, ?_⟩, fun H12 e12 => ?_⟩⟩
      · rw [List.length_append, List.length_map]
        show 1 ≤ _ + 1
        omega
      · rw [List.length_append, List.length_map]
        show _ + 1 ≤ 60
        omega
      · intro x hx
        rcases List.mem_append.mp hx with hx | hx
        · exact flat_ints ns x hx
        · rw [List.mem_singleton.mp hx]
          trivial
      · rw [List.all_append]
        show (_ && (ltr .non && true)) = false
        rw [show ltr .non = false from rfl, Bool.false_and, Bool.and_false]
      · have eH := e6.trans (e7.trans (eG.trans e12))
        refine ⟨false, false, rfl, rfl, _, rfl, iteF ?_⟩
        exact ⟨_, _, _, _, _, _, _, rfl, e14.trans (e5.trans (Same.but eH)), j5.same eH⟩
    · obtain ⟨y1, y2, y3, y4, y5, y6, y7, rfl, e1, j1⟩ := z
      exact q H1 e1
end
end K67

/-! The law's own def. -/
namespace K67
open PySem PySem.Spec PyProof.Rows L2

theorem top_bounds (m : Int) (h : 0 ≤ m) : 0 ≤ (if (if 4 < m then 4 else m) > 2 then (if 4 < m then 4 else m) else 2) ∧ (if (if 4 < m then 4 else m) > 2 then (if 4 < m then 4 else m) else 2) ≤ 4 := by
  constructor <;> (split <;> split <;> omega)
theorem same_but {j : Addr} {H0 H1 H2 : Hp} (a : Same H0 H1) (n : H0 j = none) (b : But j H1 H2) : Same H0 H2 := fun c o h => b c o (fun z => by rw [z, n] at h; cases h) (a c o h)
theorem all_true (n : Nat) : (List.replicate n true).all id = true := by
  induction n with
  | zero => rfl
  | succ n ih =>
    rw [List.replicate_succ, List.all_cons, ih]
    rfl

section
variable {P : Program} {w : World} {K : PySem.W.Frag} {mg : Str → Option Value} {base : Heap}

theorem sc48 : FnScope ["_law_cells", "_law_turn"] ["_law_cells"] (defScope (topS 48)) := ⟨rfl, rfl, rfl, by decide +kernel, rfl, by decide +kernel, by decide +kernel⟩
def spLaw (K : PySem.W.Frag) : Sp := fun vs H Q _ => ∃ (a : Addr) (ns : List Int), vs = [.ref a] ∧ SqL K H a (ns.map V.int) ∧ ns.length ≤ 63 ∧ ∀ H', Q (.bl true) H'
theorem law_right (T : Tp w K mg) (d : Df K mg "law" 48 ["_law_cells"]) : CalG P w K mg base 9 "law" ["_law_cells"] (spLaw K) := by
  refine calG d sc48 (fun vs H Q E h => ?_) (fun f cdv A outer s H vs Q E hr hgd h => ?_)
  · obtain ⟨a, ns, rfl, _⟩ := h
    rfl
  · obtain ⟨a, ns, rfl, hS, h63, q⟩ := h
    refine ⟨_, pss_one (ps_ret (pe_callB (cr_all rfl) (by rfl) T.b_all bo_all (pa_cons
        (pe_lc (own := [("_law_turn", 1)]) (g := gName 1) (tt := tYes) rfl sc48.nd (pi_range1 (by rfl) T.b_range (pa_cons (pe_callB (call_max2 rfl) (by rfl) T.b_max bo_max (pa_cons pe_int (pa_cons (pe_callB (call_min2 rfl) (by rfl) T.b_min bo_min (pa_cons
              (pe_callB call_len_seq (by rfl) T.b_len bo_len (pa_cons (pv 0) pa_nil)) (pa_cons pe_int pa_nil))) pa_nil))) pa_nil)) (blkOk_by (N := ["_law_cells", "_law_turn"]) (sc := defScope (topS 48)) (by decide +kernel))
          (fun _ _ _ _ _ => pg_name (i := 1) sc48.nd rfl (Or.inl rfl)) (fun _ _ _ _ _ => pts_nil)
          (fun _ _ _ _ _ => pe_cG (ok_right T) hr hgd (by decide) (by rfl) (pa_cons (C8.pe_c (ok_jug (K := K) T) hr (by decide) (by rfl) (pa_cons (pv 0) (pa_cons (pv 1) pa_nil))) pa_nil))) pa_nil))), ?_⟩
    have tb0 := top_bounds (((ns.map V.int).length : Nat) : Int) (by omega)
    refine ⟨.ref a, rfl, a, _, rfl, .inl hS, _, _, rfl, _, _, rfl, _, rfl, Int.le_trans (by decide) tb0.1, Int.lt_of_le_of_lt tb0.2 (by decide), fun D nD => ?_⟩
    · have tb := tb0.2
      refine lc_range (lo := 0) (fun i H' => Same H H' ∧ H' D = some (.lst ((List.replicate i true).map V.bl))) ⟨same_new nD, upd_same⟩ (fun i H' hi z => ?_) fun H' z => ?_
      · obtain ⟨e, hD⟩ := z
        have hi' : i < 4 := by
          have z := Nat.lt_of_lt_of_le hi (Int.toNat_le_toNat tb)
          exact z
        rw [Int.zero_add]
        refine ⟨rfl, ?_⟩
        refine ⟨.ref a, rfl, .int i, rfl, a, i, ns, rfl, ?_, h63, by omega, by omega, fun H2 j e2 nj j2 => ?_⟩
        · rcases hS with (h | ⟨o, h⟩) | h
          · exact .inl (.inl (e _ _ h))
          · exact .inl (.inr ⟨o, e _ _ h⟩)
          · exact .inr h
        · refine ⟨j, rfl, j2, fun H3 e3 => ?_⟩
          have Dj : D ≠ j := fun z => by
            rw [z, nj] at hD
            cases hD
          refine ⟨_, e3 _ _ Dj (e2 _ _ hD), line_lt (by rw [List.length_map, List.length_replicate]; omega), same_at (same_but (e.trans e2) (e.free nj) e3) nD, ?_⟩
          rw [upd_same, List.replicate_succ', List.map_append]
          rfl
      · obtain ⟨e, hD⟩ := z
        refine ⟨D, _, rfl, SqL.of hD, ?_⟩
        rw [all_true]
        exact q H'
end
end K67

namespace K67
open PySem PySem.Spec PyProof.Rows L2
section
variable {K : PySem.W.Frag} {h : Heap} {mg : Str → Option Value}
theorem df_of (X : K.In h) (G : h.Ns mainGlobals mg) {x : Str} {i : Nat} {ps : List Str} {f : Addr} {od an : Option Addr} {sl : Array (Option Value)} {oc kV dc pm cd ct : Value}
    (a : PySem.W.nsIn K mainGlobals x = some (some (.ref f))) (l : K.lookup f = some ⟨oc, od, .func (PySem.W.fnOf x x (defArgs (topS i)) (defBody (topS i)) (defScope (topS i)) .none kV dc pm an cd ct), sl⟩) (c : PySem.W.codeIn K cd x = true) (k : PySem.W.keepIn K (.ref f) = true)
    (b : ∀ (kV doc pm : Value) (an : Option Addr) (cdv ct : Value) (us : List Value), us.length = ps.length → bindArgs (PySem.W.fnOf x x (defArgs (topS i)) (defBody (topS i)) (defScope (topS i)) .none kV doc pm an cdv ct) ⟨us, []⟩ = pure (ps.zip us)) : Df K mg x i ps := by
  have F := fun_mk (st := topS i) l c k
  exact ⟨f, _, F, PySem.W.mg_of X G a, F.binds b⟩
theorem int_of (X : K.In h) (G : h.Ns mainGlobals mg) {x : Str} {i : Int} {t : Nat} (a : PySem.W.nsIn K mainGlobals x = some (some (.int i t))) : ∃ u, mg x = some u ∧ RelV (.int i) u := ⟨_, PySem.W.mg_of X G a, t, rfl⟩
theorem sorts_of (X : K.In h) (G : h.Ns mainGlobals mg) {f : Addr} {od : Option Addr} {sl : Array (Option Value)} {n t1 t2 t3 : Nat}
    (a : PySem.W.nsIn K mainGlobals "SORTS" = some (some (.ref f))) (l : K.lookup f = some ⟨.type "tuple", od, .seq #[.str "first" t1, .str "last" t2, .str "ring" t3] n, sl⟩) :
    ∃ a, mg "SORTS" = some (.ref a) ∧ ∀ H, SqT K H a [.str "first", .str "last", .str "ring"] :=
  ⟨f, PySem.W.mg_of X G a, fun H => .inr ⟨_, _, n, l, rfl, rfl, line_le (by show 3 ≤ 1000000; decide), .cons ⟨t1, rfl⟩ (.cons ⟨t2, rfl⟩ (.cons ⟨t3, rfl⟩ .nil))⟩⟩
theorem sizes_of {w : World} (X : K.In h) (G : h.Ns mainGlobals mg) {f : Addr} {es : Array DictEntry} {n t : Nat}
    (a : PySem.W.nsIn K mainGlobals "SIZES" = some (some (.ref f))) (l : K.lookup f = some ⟨.type "dict", none, .dict es n, #[]⟩) (k : PySem.W.KeysLit w.params es.toList) (o : (f == sysModules) = false) (e : PySem.W.nsIn K f "order" = some (some (.int 4 t))) :
    ∃ a, mg "SIZES" = some (.ref a) ∧ (∃ o, K.lookup a = some o ∧ o.cls = .type "dict" ∧ o.dict = none) ∧ (a == sysModules) = false ∧ KDct K w a "order" (.int 4) :=
  ⟨f, PySem.W.mg_of X G a, ⟨_, l, rfl, rfl⟩, o, es, n, _, l, k, e, t, rfl⟩
theorem loose_of {p : Program} {lv : List (Str × PySem.W.WData)} (X : PySem.W.XL p lv mg h) {x : Str} {i : Int} (m : (x, PySem.W.WData.int i) ∈ lv) : ∃ u, mg x = some u ∧ RelV (.int i) u := by
  obtain ⟨v, a, b⟩ := X.2.val _ m
  cases b
  exact ⟨_, a, _, rfl⟩
end
end K67

open PySem PySem.W PyProof.Rows
set_option maxRecDepth 100000 in
set_option maxHeartbeats 0 in
theorem PySem.Challenge.cw_endorders_k67_whole_texts_shown_judged_holds : PySem.Challenge.rw_endorders_k67_whole_texts_shown_judged.Holds := by
  w_on; o_law; k_head; (case hw => w_witness2)
  k_fill
  refine K67.walk_G (l := PySem.Challenge.rw_endorders_k67_whole_texts_shown_judged) (n := 63) (k := 9) (x := "_law_cells") (sp := K67.spLaw) rfl (by decide) rfl ⟨rfl, by decide, by decide⟩ (fun w h Y => PySem.W.kIn_of Y) ?F (fun K H a ns hl hS => ⟨a, ns, rfl, hS, hl, fun _ => rfl⟩)
  case F =>
    intro w mg h KX G XX base
    have b_isinstance : mg "isinstance" = none := PySem.W.mg_none_of KX G (by k_is)
    have b_int : mg "int" = none := PySem.W.mg_none_of KX G (by k_is)
    have b_bool : mg "bool" = none := PySem.W.mg_none_of KX G (by k_is)
    have b_str : mg "str" = none := PySem.W.mg_none_of KX G (by k_is)
    have b_tuple : mg "tuple" = none := PySem.W.mg_none_of KX G (by k_is)
    have b_list : mg "list" = none := PySem.W.mg_none_of KX G (by k_is)
    have b_len : mg "len" = none := PySem.W.mg_none_of KX G (by k_is)
    have b_all : mg "all" = none := PySem.W.mg_none_of KX G (by k_is)
    have b_any : mg "any" = none := PySem.W.mg_none_of KX G (by k_is)
    have b_sorted : mg "sorted" = none := PySem.W.mg_none_of KX G (by k_is)
    have b_range : mg "range" = none := PySem.W.mg_none_of KX G (by k_is)
    have b_enumerate : mg "enumerate" = none := PySem.W.mg_none_of KX G (by k_is)
    have b_max : mg "max" = none := PySem.W.mg_none_of KX G (by k_is)
    have b_min : mg "min" = none := PySem.W.mg_none_of KX G (by k_is)
    have b_abs : mg "abs" = none := PySem.W.mg_none_of KX G (by k_is)
    have b_divmod : mg "divmod" = none := PySem.W.mg_none_of KX G (by k_is)
    have b_repr : mg "repr" = none := PySem.W.mg_none_of KX G (by k_is)
    have c_MOST_PLACES := K67.int_of KX G (x := "MOST_PLACES") (by k_is)
    have c_MOST := K67.int_of KX G (x := "MOST") (by k_is)
    have c_MARK := K67.int_of KX G (x := "MARK") (by k_is)
    have c_MOST_LETTER := K67.loose_of XX (x := "MOST_LETTER") (i := 1000000000000000000) (by simp)
    have c_GREATEST := K67.loose_of XX (x := "GREATEST") (i := 1000000000000000000) (by simp)
    have c_SORTS := by
      refine' K67.sorts_of KX G ?a ?l
      (case a => k_is); (case l => k_is)
    have c_SIZES := by
      refine' K67.sizes_of (w := w) KX G ?a ?l ?k ?o ?e
      (case a => k_is); (case l => k_is); (case k => k_keys); (case o => decide); (case e => k_is)
    have d_is_integer := by
      refine' K67.df_of KX G (x := "is_integer") (i := 3) (ps := ["value"]) ?a ?l ?c ?k (fun _ _ _ _ _ _ us hl => match us, hl with | [_], _ => rfl)
      (case a => k_is); (case l => k_is); (case c => k_is); (case k => k_is)
    have d_is_between := by
      refine' K67.df_of KX G (x := "is_between") (i := 4) (ps := ["value", "low", "high"]) ?a ?l ?c ?k (fun _ _ _ _ _ _ us hl => match us, hl with | [_, _, _], _ => rfl)
      (case a => k_is); (case l => k_is); (case c => k_is); (case k => k_is)
    have d_is_letter := by
      refine' K67.df_of KX G (x := "is_letter") (i := 5) (ps := ["value"]) ?a ?l ?c ?k (fun _ _ _ _ _ _ us hl => match us, hl with | [_], _ => rfl)
      (case a => k_is); (case l => k_is); (case c => k_is); (case k => k_is)
    have d_is_text := by
      refine' K67.df_of KX G (x := "is_text") (i := 6) (ps := ["value"]) ?a ?l ?c ?k (fun _ _ _ _ _ _ us hl => match us, hl with | [_], _ => rfl)
      (case a => k_is); (case l => k_is); (case c => k_is); (case k => k_is)
    have d_is_order := by
      refine' K67.df_of KX G (x := "is_order") (i := 13) (ps := ["value"]) ?a ?l ?c ?k (fun _ _ _ _ _ _ us hl => match us, hl with | [_], _ => rfl)
      (case a => k_is); (case l => k_is); (case c => k_is); (case k => k_is)
    have d_all_ends := by
      refine' K67.df_of KX G (x := "all_ends") (i := 14) (ps := ["text", "sort"]) ?a ?l ?c ?k (fun _ _ _ _ _ _ us hl => match us, hl with | [_, _], _ => rfl)
      (case a => k_is); (case l => k_is); (case c => k_is); (case k => k_is)
    have d_places_of := by
      refine' K67.df_of KX G (x := "places_of") (i := 15) (ps := ["text", "sort"]) ?a ?l ?c ?k (fun _ _ _ _ _ _ us hl => match us, hl with | [_, _], _ => rfl)
      (case a => k_is); (case l => k_is); (case c => k_is); (case k => k_is)
    have d_has_places := by
      refine' K67.df_of KX G (x := "has_places") (i := 27) (ps := ["certificate", "places", "sort"]) ?a ?l ?c ?k (fun _ _ _ _ _ _ us hl => match us, hl with | [_, _, _], _ => rfl)
      (case a => k_is); (case l => k_is); (case c => k_is); (case k => k_is)
    have d_accepts_order := by
      refine' K67.df_of KX G (x := "accepts_order") (i := 28) (ps := ["claim", "certificate"]) ?a ?l ?c ?k (fun _ _ _ _ _ _ us hl => match us, hl with | [_, _], _ => rfl)
      (case a => k_is); (case l => k_is); (case c => k_is); (case k => k_is)
    have d_accepts := by
      refine' K67.df_of KX G (x := "accepts") (i := 31) (ps := ["claim", "certificate"]) ?a ?l ?c ?k (fun _ _ _ _ _ _ us hl => match us, hl with | [_, _], _ => rfl)
      (case a => k_is); (case l => k_is); (case c => k_is); (case k => k_is)
    have d_jug := by
      refine' K67.df_of KX G (x := "_law_jug") (i := 33) (ps := ["_law_cells", "_law_turn"]) ?a ?l ?c ?k (fun _ _ _ _ _ _ us hl => match us, hl with | [_, _], _ => rfl)
      (case a => k_is); (case l => k_is); (case c => k_is); (case k => k_is)
    have d_swig := by
      refine' K67.df_of KX G (x := "_law_swig") (i := 34) (ps := ["_law_jug_here", "_law_top"]) ?a ?l ?c ?k (fun _ _ _ _ _ _ us hl => match us, hl with | [_, _], _ => rfl)
      (case a => k_is); (case l => k_is); (case c => k_is); (case k => k_is)
    have d_one := by
      refine' K67.df_of KX G (x := "_law_one") (i := 35) (ps := ["_law_jug_here", "_law_things"]) ?a ?l ?c ?k (fun _ _ _ _ _ _ us hl => match us, hl with | [_, _], _ => rfl)
      (case a => k_is); (case l => k_is); (case c => k_is); (case k => k_is)
    have d_shuffled := by
      refine' K67.df_of KX G (x := "_law_shuffled") (i := 36) (ps := ["_law_jug_here", "_law_things"]) ?a ?l ?c ?k (fun _ _ _ _ _ _ us hl => match us, hl with | [_, _], _ => rfl)
      (case a => k_is); (case l => k_is); (case c => k_is); (case k => k_is)
    have d_sorts := by
      refine' K67.df_of KX G (x := "_law_sorts") (i := 37) (ps := []) ?a ?l ?c ?k (fun _ _ _ _ _ _ us hl => match us, hl with | [], _ => rfl)
      (case a => k_is); (case l => k_is); (case c => k_is); (case k => k_is)
    have d_line := by
      refine' K67.df_of KX G (x := "_law_line") (i := 38) (ps := ["_law_jug_here", "_law_most", "_law_top"]) ?a ?l ?c ?k (fun _ _ _ _ _ _ us hl => match us, hl with | [_, _, _], _ => rfl)
      (case a => k_is); (case l => k_is); (case c => k_is); (case k => k_is)
    have d_ends := by
      refine' K67.df_of KX G (x := "_law_ends") (i := 39) (ps := ["_law_line_here", "_law_sort"]) ?a ?l ?c ?k (fun _ _ _ _ _ _ us hl => match us, hl with | [_, _], _ => rfl)
      (case a => k_is); (case l => k_is); (case c => k_is); (case k => k_is)
    have d_spots := by
      refine' K67.df_of KX G (x := "_law_spots") (i := 40) (ps := ["_law_line_here", "_law_sort"]) ?a ?l ?c ?k (fun _ _ _ _ _ _ us hl => match us, hl with | [_, _], _ => rfl)
      (case a => k_is); (case l => k_is); (case c => k_is); (case k => k_is)
    have d_after := by
      refine' K67.df_of KX G (x := "_law_after") (i := 41) (ps := ["_law_spots_here", "_law_sort"]) ?a ?l ?c ?k (fun _ _ _ _ _ _ us hl => match us, hl with | [_, _], _ => rfl)
      (case a => k_is); (case l => k_is); (case c => k_is); (case k => k_is)
    have d_steep := by
      refine' K67.df_of KX G (x := "_law_steep") (i := 42) (ps := ["_law_spots_here", "_law_sort"]) ?a ?l ?c ?k (fun _ _ _ _ _ _ us hl => match us, hl with | [_, _], _ => rfl)
      (case a => k_is); (case l => k_is); (case c => k_is); (case k => k_is)
    have d_least := by
      refine' K67.df_of KX G (x := "_law_least") (i := 43) (ps := ["_law_spots_here", "_law_sort"]) ?a ?l ?c ?k (fun _ _ _ _ _ _ us hl => match us, hl with | [_, _], _ => rfl)
      (case a => k_is); (case l => k_is); (case c => k_is); (case k => k_is)
    have d_higher := by
      refine' K67.df_of KX G (x := "_law_higher") (i := 44) (ps := ["_law_jug_here", "_law_spots_here", "_law_sort"]) ?a ?l ?c ?k (fun _ _ _ _ _ _ us hl => match us, hl with | [_, _, _], _ => rfl)
      (case a => k_is); (case l => k_is); (case c => k_is); (case k => k_is)
    have d_drawn_spots := by
      refine' K67.df_of KX G (x := "_law_drawn_spots") (i := 45) (ps := ["_law_jug_here", "_law_most"]) ?a ?l ?c ?k (fun _ _ _ _ _ _ us hl => match us, hl with | [_, _], _ => rfl)
      (case a => k_is); (case l => k_is); (case c => k_is); (case k => k_is)
    have d_candidate := by
      refine' K67.df_of KX G (x := "_law_candidate") (i := 46) (ps := ["_law_jug_here", "_law_spots_here", "_law_sort"]) ?a ?l ?c ?k (fun _ _ _ _ _ _ us hl => match us, hl with | [_, _, _], _ => rfl)
      (case a => k_is); (case l => k_is); (case c => k_is); (case k => k_is)
    have d_right := by
      refine' K67.df_of KX G (x := "_law_right") (i := 47) (ps := ["_law_jug_here"]) ?a ?l ?c ?k (fun _ _ _ _ _ _ us hl => match us, hl with | [_], _ => rfl)
      (case a => k_is); (case l => k_is); (case c => k_is); (case k => k_is)
    have d_law := by
      refine' K67.df_of KX G (x := "law") (i := 48) (ps := ["_law_cells"]) ?a ?l ?c ?k (fun _ _ _ _ _ _ us hl => match us, hl with | [_], _ => rfl)
      (case a => k_is); (case l => k_is); (case c => k_is); (case k => k_is)
    exact K67.law_right ⟨b_isinstance, b_int, b_bool, b_str, b_tuple, b_list, b_len, b_all, b_any, b_sorted, b_range, b_enumerate, b_max, b_min, b_abs, b_divmod, b_repr, c_MOST_LETTER, c_MOST_PLACES, c_MOST, c_GREATEST, c_MARK, c_SORTS, c_SIZES, d_is_integer, d_is_between, d_is_letter, d_is_text, d_is_order, d_all_ends, d_places_of, d_has_places, d_accepts_order, d_accepts, d_jug, d_swig, d_one, d_shuffled, d_sorts, d_line, d_ends, d_spots, d_after, d_steep, d_least, d_higher, d_drawn_spots, d_candidate, d_right⟩ d_law

#print axioms PySem.Challenge.cw_endorders_k67_whole_texts_shown_judged_holds
