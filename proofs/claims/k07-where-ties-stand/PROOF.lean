import PyProof.Rows.All
import Wide.All
import OpenK.AllK
import Wide.FinOn
import HandS.ForMost
import HandS.Exc
import HandS.ExcOwn
import HandS.WordsExc
import HandS.ExcIs
import HandS.IsInst
import HandS.SetFor
import HandS.More
import HandS.SortInts
import HandS.Defaults
import HandS.HotCalls
import HandS.Walk
import HandS.HeadHook2
import KE.KSortedM
import HandS.Codes
import HandS.Head0
import HandS.Head1
import HandS.Head2
import HandS.HeadEnd
import HandS.HeadHook1
import PySem.Challenge.RW_tieseek_k07_where_ties_stand
set_option Elab.async false
set_option linter.all false
set_option maxRecDepth 100000
set_option maxHeartbeats 4100000
/-! Rules of our own: a letter many times, list.count of flat things, sorted of a dict of any size with int keys, isinstance of a pinned error -/
namespace K07
open PySem PySem.Spec PyProof.Rows L2

theorem fold_one (c : Nat) : ∀ (n : Nat) (acc : Array Nat), ((List.replicate n #[c]).foldl (· ++ ·) acc) = acc ++ (List.replicate n c).toArray
  | 0, acc => by simp
  | n + 1, acc => by
    rw [List.replicate_succ, List.foldl_cons, fold_one c n, List.replicate_succ]
    apply Array.ext'
    simp
theorem op_mulS {X : Cx} : OpR X (binaryOp .Mult) (fun x y H Q => ∃ (c n : Nat), x = .str ⟨#[c]⟩ ∧ y = .int (n : Int) ∧ n ≤ 1000 ∧ Q (.str ⟨(List.replicate n c).toArray⟩) H) := by
  intro pins s σ H lhs rhs v u Q I rx ry word
  obtain ⟨c, n, rfl, rfl, hn, q⟩ := word
  obtain ⟨t, rfl⟩ := rx
  obtain ⟨t', rfl⟩ := ry
  have h1 : (decide ((n : Int) < -(2 ^ 63 : Int)) || decide ((n : Int) ≥ 2 ^ 63)) = false := by
    rw [Bool.or_eq_false_iff]
    exact ⟨decide_eq_false (by omega), decide_eq_false (by omega)⟩
  have hs : (⟨#[c]⟩ : Str).length = 1 := rfl
  refine PySem.P.mul_str h1 (fun h2 _ => ?_) (fun h2 _ => ?_) ?_
  · rw [hs]
    have h3 : (0 : Int) < n := by omega
    have : (1 : Int) ≤ (2 ^ 63 - 1) / (n : Int) := by
      rw [Int.le_ediv_iff_mul_le h3]
      omega
    omega
  · rw [hs]
    unfold PySem.Builtin.Str.tooLong
    rw [decide_eq_false]
    rw [sizeLine_eq]
    omega
  · by_cases h3 : (n : Int) < 1
    · rw [if_pos h3]
      have e : n = 0 := by omega
      subst e
      exact ⟨by decide, .str _, H, I.tok _, ⟨_, rfl⟩, q⟩
    · rw [if_neg h3]
      by_cases h4 : n = 1
      · subst h4
        rw [if_pos (by rfl)]
        exact ⟨.str _, H, I, ⟨_, rfl⟩, q⟩
      · rw [if_neg (by
          have e : ((n : Int) == 1) = false := beq_eq_false_iff_ne.mpr (by omega)
          rw [hs, e]
          decide)]
        rw [fold_one]
        refine ⟨?_, .str _, H, I.tok _, ⟨_, rfl⟩, by simpa using q⟩
        rw [sizeLine_eq]
        show (#[] ++ (List.replicate n c).toArray).size ≤ 16777216
        simp
        omega

/-! ### list.count of flat things -/
theorem count_eqU {x : V} : ∀ {xs : List V} {us : List Value}, Vals xs us → xs.all flatV = true → us.countP (eqU x) = xs.countP fun y => eqV y x
  | _, _, .nil, _ => rfl
  | _, _, .cons r t, f => by
    obtain ⟨f1, f2⟩ := Bool.and_eq_true_iff.mp f
    rw [List.countP_cons, List.countP_cons, eqU_of r f1, count_eqU t f2]
def rCntF (K : PySem.W.Frag) : V → List V → Hp → VK → Prop := fun x xs H Q => ∃ (p : Addr) (ys : List V) (y : V), x = .ref p ∧ xs = [y] ∧ SqL K H p ys ∧ flatV y = true ∧ ys.all flatV = true ∧ Q (.int ((ys.countP fun z => eqV z y) : Nat)) H
theorem mt_countF {X : Cx} : MtR X "list.count" (rCntF X.K) := by
  intro pins s σ H x xs v us Q I rx rxs word
  obtain ⟨p, ys, y, rfl, rfl, hs, fy, fys, q⟩ := word
  cases rx
  obtain ⟨uy, rfl, ry⟩ := rxs.one
  obtain ⟨its, rv, ⟨⟨kd, dc, dt, slt⟩, cnt, there, hkd, _, hdt⟩, _⟩ := I.list hs
  simp only at hkd hdt
  subst hkd hdt
  refine call_meets PySem.F.slot_list_count ⟨_, there, rfl⟩ PySem.F.entry_list_count (PySem.F.args_list_count_2 _ _) (SeqAt.list_countAt p its.toArray cnt dc slt uy (eqU y))
    ⟨there, fun u hu => mem_eqAt ry fy rv fys u (by simpa using hu), ?_⟩
  have ec : its.toArray.toList.countP (eqU y) = ys.countP fun z => eqV z y := count_eqU rv fys
  rw [ec]
  exact ⟨.int ((ys.countP fun z => eqV z y) : Nat), H, I.tok _, ⟨_, rfl⟩, q⟩

/-! ### sorted(d), int keys, any number -/
def rSortedDI : List V → Hp → VK → Prop := fun xs H Q => ∃ (a : Addr) (kvs : List (Key × V)) (ks : List Int), xs = [.ref a] ∧ Rd H a (.dK kvs) ∧ kvs.map (·.1) = ks.map Sum.inl ∧ ks.length ≤ 10000 ∧
    ∀ (ys : List Int) (p : Addr), ys.Perm ks → ys.Pairwise (· ≤ ·) → H p = none → Q (.ref p) (upd H p (.lst (ys.map V.int)))
theorem call_sortedDA {X : Cx} (calm : X.calm = true) : CallR X (.builtin "sorted") rSortedDI := by
  intro pins s σ H args us Q I rel word
  obtain ⟨d, kvs, ks, rfl, atD, keysD, cap, goal⟩ := word
  obtain ⟨u, rfl, ru⟩ := vals1 rel
  cases ru
  obtain ⟨_, low, prs, rk, held⟩ := dk_rd I.hok atD
  obtain ⟨ep, entries⟩ := held.dictAt
  have names : prs.map (·.1) = ks.map Sum.inl := by rw [← rk.keys, keysD]
  have many : prs.length = ks.length := by simpa using congrArg List.length names
  refine Calls.call_function_entry PyProof.Rows.kind_sorted PyProof.Rows.plain_sorted
    PyProof.Rows.entry_sorted (PyProof.Rows.args_sorted1 _) ?_
  unfold Builtin.«sorted»
  refine wpAny_bind (m := checkCount "sorted" 1 1 _) (wpAny_pure (wpAny_bind ?_))
  refine PySem.W.kdu_collect (A := X.A.in1) (PySem.W.kdl_dict (knd := mixKind X.prog X.w) (kvs := prs) (ep := ep) low) (I.ok.hd calm) entries (by rw [many, sizeLine_eq]; omega) fun h1 tk1 got old each => ?_
  -- the keys, one by one
  have size : got.toList.length = ks.length := by rw [Array.length_toList, each.1, many]
  have allInt : IntsAre got.toList ks := by
    refine ints_each size fun j v ej => ?_
    obtain ⟨key, val, at1, isK⟩ := each.2 j v (by rw [← Array.getElem?_toList, ej])
    have at2 : (prs.map (·.1))[j]? = some key := by simp [List.getElem?_map, at1]
    rw [names, List.getElem?_map] at at2
    obtain ⟨n, at3, rfl⟩ := Option.map_eq_some_iff.mp at2
    obtain ⟨t, ev⟩ := Value.isInt_shape (k := n) (v := v) isK
    exact ⟨n, t, at3, ev⟩
  have J1 : Inv X pins σ H { s with heap := h1, toks := tk1 } := I.kept old
  have small : got.toList.length ≤ sizeLine := by
    have e : (sizeLine : Nat) = 16777216 := sizeLine_eq
    omega
  refine wpAny_bind (wpAny_newList ?_ small)
  have laid : (h1.push (seqObj "list" got.toList.toArray 0)).get? h1.objs.size = some (seqObj "list" got.toList.toArray 0) := Heap.get?_push_size _ rfl
  show wpAny _ _ _ _ _ { s with heap := h1.push (seqObj "list" got.toList.toArray 0), toks := tk1 }
  -- the new list is sorted in place
  refine wpAny_bind (wpAny_holding (wpAny_call_entry PyProof.Rows.slot_list_sort ⟨_, laid, rfl⟩
    PyProof.Rows.entry_list_sort (SrtO.list_sort_ord SrtO.swo_int laid small (fun two => SrtO.ints_sortable allInt two) fun out up st => ⟨.none, rfl, ?_⟩) (PyProof.Rows.args_list_sort _)))
  obtain ⟨k1, k2, k3⟩ := SrtO.ints_out allInt up st
  obtain ⟨ep2, sortedAt⟩ := PyProof.Rows.sortedHeap_at (vs := got.toList) (out := out.toArray) laid
  have cap2 : ((out.map SrtO.iv).map V.int).length ≤ sizeLine := by
    rw [List.length_map, k2.length_eq, sizeLine_eq]
    omega
  have new : ObjOk X.prog X.w (upd H h1.objs.size (.lst ((out.map SrtO.iv).map V.int))) (PyProof.Rows.sortedHeap (h1.push (seqObj "list" got.toList.toArray 0)) h1.objs.size got.toList out.toArray) h1.objs.size (.lst ((out.map SrtO.iv).map V.int)) :=
    ⟨cap2, out, ep2, vals_of_ints k1, sortedAt⟩
  refine wpAny_pure ⟨_, rfl, .ref h1.objs.size, _, J1.laid (t' := tk1) (fun b o ob => ?_) (Nat.le_refl _) new, rfl, goal _ _ k2 k3 (J1.hok.fresh (Nat.le_refl _))⟩
  have lower : b < h1.objs.size := Heap.lt_size ob
  have beyond : b < (h1.push (seqObj "list" got.toList.toArray 0)).objs.size := by
    rw [size_push']
    exact Nat.lt_succ_of_lt lower
  exact (PyProof.Rows.sortedHeap_old (Nat.ne_of_lt lower) beyond).trans (Heap.get?_push_of_some _ ob)

/-! ### isinstance of an error that is pinned -/
theorem call_isP {X : Cx} {D : Addr} {p : Addr × Obj} (hp : p ∈ X.pn) (C : ExcC X.K D) (hz : Zc (.ref D) none p.2) (hf : ∃ vs, p.2.data = .fields vs) : CallR X (.builtin "isinstance") (rIsE X.K D p.1) := by
  intro pins s σ H args us Q I rel word
  obtain ⟨c, cv, b, rfl, isC, kit, goal⟩ := word
  obtain ⟨u1, u2, rfl, r1, r2⟩ := vals2 rel
  cases r1
  obtain rfl := isC _ r2
  have there := (I.pin p (List.mem_append_left _ hp)).1
  obtain ⟨a, oc, od, oda, osl⟩ := p
  obtain ⟨vs, hv⟩ := hf
  obtain ⟨z1, z2⟩ := hz
  dsimp only at z1 z2 hv
  subst z1 z2 hv
  have inst : PySem.W.InstAt s.heap a ⟨.ref D, none, .fields vs, osl⟩ D none := ⟨there, rfl, rfl, trivial⟩
  have asks := PySem.W.handS_kitx_exc (x := a) (ox := ⟨.ref D, none, .fields vs, osl⟩) C.hg C.hk C.hs C.hd C.ha C.hn C.ht C.hm
  exact PySem.W.kia_one asks I.kIn inst kit (fun z => nomatch z) fun tk => ⟨.bl b, H, I.kept (t' := tk) fun _ _ z => z, rfl, goal⟩
end K07

set_option maxHeartbeats 4100000
/-! The web's state as plain data, and how it stands in the heap -/
namespace K07
open PySem PySem.Spec PyProof.Rows L2

/-! ### plain data -/
structure Row where
  num : Int
  st : Str
  nm : Str
  en : Str
structure M where
  things : List Str
  rows : List Row
  coming : Int
def outN (rows : List Row) (x : Str) : List Int := (rows.filter fun r => decide (r.st = x)).map (·.num)
def inN (rows : List Row) (x : Str) : List Int := (rows.filter fun r => decide (r.en = x)).map (·.num)
def nameN (rows : List Row) (x : Str) : List Int := (rows.filter fun r => decide (r.nm = x)).map (·.num)
structure MOk (m : M) : Prop where
  nd : m.things.Nodup
  up : (m.rows.map (·.num)).Pairwise (· < ·)
  low : ∀ r ∈ m.rows, r.num < m.coming
  ends : ∀ r ∈ m.rows, r.st ∈ m.things ∧ r.en ∈ m.things

/-! ### tables: pairs of a name and a value -/
def tabS (L : List (Str × V)) : List (Key × V) := L.map fun p => (Sum.inr p.1, p.2)
def tabI (L : List (Int × V)) : List (Key × V) := L.map fun p => (Sum.inl p.1, p.2)
section
variable {κ κ' : Type} [DecidableEq κ] [DecidableEq κ'] {g : κ → κ'} (hg : ∀ a b, g a = g b → a = b)
include hg
theorem val_map (k : κ) : ∀ L : List (κ × V), valV (L.map fun p => (g p.1, p.2)) (g k) = valV L k
  | [] => rfl
  | p :: r => by
    have ih := val_map k r
    rw [List.map_cons]
    by_cases e : p.1 = k
    · rw [valV_pos (p := (g p.1, p.2)) (by rw [e]), valV_pos e]
    · rw [valV_neg (p := (g p.1, p.2)) (fun z => e (hg _ _ z)), valV_neg e, ih]
theorem drop_map (k : κ) (L : List (κ × V)) : dropK (L.map fun p => (g p.1, p.2)) (g k) = (dropK L k).map fun p => (g p.1, p.2) := by
  unfold dropK
  rw [List.filter_map]
  congr 1
  apply List.filter_congr
  intro p _
  by_cases e : p.1 = k
  · simp [e]
  · have : ¬ g p.1 = g k := fun z => e (hg _ _ z)
    simp [e, this]
theorem put_map (k : κ) (v : V) (L : List (κ × V)) : putK (L.map fun p => (g p.1, p.2)) (g k) v = (putK L k v).map fun p => (g p.1, p.2) := by
  unfold putK
  have a : ((L.map fun p => (g p.1, p.2)).any fun kv => decide (kv.1 = g k)) = L.any fun kv => decide (kv.1 = k) := by
    rw [List.any_map]
    congr 1
    funext p
    by_cases e : p.1 = k
    · simp [e]
    · have : ¬ g p.1 = g k := fun z => e (hg _ _ z)
      simp [e, this]
  rw [a]
  by_cases c : (L.any fun kv => decide (kv.1 = k)) = true
  · rw [if_pos c, if_pos c, List.map_map, List.map_map]
    apply List.map_congr_left
    intro p _
    show (if g p.1 = g k then (g p.1, v) else (g p.1, p.2)) = ((fun p : κ × V => (g p.1, p.2)) (if p.1 = k then (p.1, v) else p))
    by_cases e : p.1 = k
    · rw [if_pos e, if_pos (by rw [e])]
    · rw [if_neg e, if_neg (fun z => e (hg _ _ z))]
  · rw [if_neg c, if_neg c, List.map_append]
    rfl
end
theorem inrI (a b : Str) (h : (Sum.inr a : Key) = Sum.inr b) : a = b := Sum.inr.inj h
theorem inlI (a b : Int) (h : (Sum.inl a : Key) = Sum.inl b) : a = b := Sum.inl.inj h
theorem valS (L : List (Str × V)) (x : Str) : valV (tabS L) (Sum.inr x) = valV L x := val_map inrI x L
theorem valI (L : List (Int × V)) (x : Int) : valV (tabI L) (Sum.inl x) = valV L x := val_map inlI x L
theorem dropS (L : List (Str × V)) (x : Str) : dropK (tabS L) (Sum.inr x) = tabS (dropK L x) := drop_map inrI x L
theorem dropI (L : List (Int × V)) (x : Int) : dropK (tabI L) (Sum.inl x) = tabI (dropK L x) := drop_map inlI x L
theorem putS (L : List (Str × V)) (x : Str) (v : V) : putK (tabS L) (Sum.inr x) v = tabS (putK L x v) := put_map inrI x v L
theorem putI (L : List (Int × V)) (x : Int) (v : V) : putK (tabI L) (Sum.inl x) v = tabI (putK L x v) := put_map inlI x v L
theorem lenS (L : List (Str × V)) : (tabS L).length = L.length := List.length_map ..
theorem lenI (L : List (Int × V)) : (tabI L).length = L.length := List.length_map ..
/-- a table's value, where it is there -/
theorem val_mem {κ : Type} [DecidableEq κ] : ∀ {L : List (κ × V)} {k : κ} {v : V}, valV L k = some v → (k, v) ∈ L
  | [], k, v, h => by cases h
  | p :: r, k, v, h => by
    by_cases e : p.1 = k
    · rw [valV_pos e] at h
      cases h
      subst e
      exact List.mem_cons_self
    · rw [valV_neg e] at h
      exact List.mem_cons_of_mem _ (val_mem h)
theorem val_has {κ : Type} [DecidableEq κ] : ∀ {L : List (κ × V)} {k : κ}, k ∈ L.map (·.1) → ∃ v, valV L k = some v
  | [], k, h => by cases h
  | p :: r, k, h => by
    by_cases e : p.1 = k
    · exact ⟨_, valV_pos e⟩
    · rw [valV_neg e]
      rcases List.mem_cons.mp (h) with z | z
      · exact absurd z.symm e
      · exact val_has z
theorem val_is {κ : Type} [DecidableEq κ] : ∀ {L : List (κ × V)} {k : κ} {v : V}, (L.map (·.1)).Nodup → (k, v) ∈ L → valV L k = some v
  | p :: r, k, v, hn, h => by
    obtain ⟨h1, h2⟩ := List.nodup_cons.mp (hn)
    rcases List.mem_cons.mp (h) with z | z
    · subst z
      exact valV_pos rfl
    · by_cases e : p.1 = k
      · exact absurd (List.mem_map.mpr ⟨(k, v), z, e.symm⟩) h1
      · rw [valV_neg e]
        exact val_is h2 z
theorem val_none {κ : Type} [DecidableEq κ] {L : List (κ × V)} {k : κ} (h : k ∉ L.map (·.1)) : valV L k = none := by
  cases e : valV L k with
  | none => rfl
  | some v => exact absurd (valV_in e) h
theorem put_new {κ : Type} [DecidableEq κ] {L : List (κ × V)} {k : κ} (v : V) (h : k ∉ L.map (·.1)) : putK L k v = L ++ [(k, v)] := putK_new v (val_none h)

/-! ### a table of lists: the dict at d; for each name x of keys a list that holds f x -/
/-- names and the lists' addresses -/
abbrev NA := List (Str × Addr)
def refs (L : NA) : List (Str × V) := L.map fun p => (p.1, V.ref p.2)
theorem refs_keys (L : NA) : (refs L).map (·.1) = L.map (·.1) := by
  unfold refs
  rw [List.map_map]
  rfl
theorem refs_app (L L' : NA) : refs (L ++ L') = refs L ++ refs L' := List.map_append ..
theorem refs_drop (L : NA) (x : Str) : dropK (refs L) x = refs (L.filter fun p => decide (p.1 ≠ x)) := by
  unfold dropK refs
  rw [List.filter_map]
  rfl
structure Tab (H : Hp) (d : Addr) (L : NA) (f : Str → List Int) : Prop where
  dk : H d = some (.dK (tabS (refs L)))
  lst : ∀ p ∈ L, H p.2 = some (.lst ((f p.1).map V.int))
  ndK : (L.map (·.1)).Nodup
  ndA : (L.map (·.2)).Nodup
def inTab (d : Addr) (L : NA) (b : Addr) : Prop := b = d ∨ b ∈ L.map (·.2)
theorem nd2 : ∀ {L : NA} {x y : Str} {a : Addr}, (L.map (·.2)).Nodup → (x, a) ∈ L → (y, a) ∈ L → x = y
  | p :: r, x, y, a, hn, h1, h2 => by
    obtain ⟨n1, n2⟩ := List.nodup_cons.mp hn
    rcases List.mem_cons.mp h1 with e1 | e1 <;> rcases List.mem_cons.mp h2 with e2 | e2
    · rw [← e1] at e2
      exact (Prod.mk.inj e2).1.symm
    · subst e1
      exact absurd (List.mem_map.mpr ⟨_, e2, rfl⟩) n1
    · subst e2
      exact absurd (List.mem_map.mpr ⟨_, e1, rfl⟩) n1
    · exact nd2 n2 e1 e2
section
variable {H H' : Hp} {d : Addr} {L : NA} {f f' : Str → List Int}
theorem Tab.frame (t : Tab H d L f) (k : ∀ b, inTab d L b → H' b = H b) : Tab H' d L f :=
  ⟨by rw [k d (.inl rfl)]; exact t.dk, fun p hp => by rw [k p.2 (.inr (List.mem_map.mpr ⟨p, hp, rfl⟩))]; exact t.lst p hp, t.ndK, t.ndA⟩
theorem Tab.upd_out (t : Tab H d L f) {a : Addr} {o : HO} (h : ¬ inTab d L a) : Tab (upd H a o) d L f :=
  t.frame fun b hb => upd_ne fun e => h (e ▸ hb)
theorem Tab.same (t : Tab H d L f) (k : Same H H') : Tab H' d L f := ⟨k _ _ t.dk, fun p hp => k _ _ (t.lst p hp), t.ndK, t.ndA⟩
theorem Tab.cong (t : Tab H d L f) (h : ∀ p ∈ L, f p.1 = f' p.1) : Tab H d L f' := ⟨t.dk, fun p hp => by rw [← h p hp]; exact t.lst p hp, t.ndK, t.ndA⟩
theorem Tab.some_ (t : Tab H d L f) {b : Addr} (h : inTab d L b) : ∃ o, H b = some o := by
  rcases h with e | e
  · exact ⟨_, by rw [e]; exact t.dk⟩
  · obtain ⟨p, hp, e⟩ := List.mem_map.mp e
    exact ⟨_, by rw [← e]; exact t.lst p hp⟩
theorem Tab.fresh (t : Tab H d L f) {a : Addr} (h : H a = none) : ¬ inTab d L a := fun z => by
  obtain ⟨o, e⟩ := t.some_ z
  rw [h] at e
  cases e
/-- where a name's list is -/
theorem Tab.at_ (t : Tab H d L f) {x : Str} (h : x ∈ L.map (·.1)) : ∃ a, (x, a) ∈ L ∧ valV (tabS (refs L)) (Sum.inr x) = some (.ref a) ∧ H a = some (.lst ((f x).map V.int)) := by
  obtain ⟨p, hp, e⟩ := List.mem_map.mp (h)
  subst e
  refine ⟨p.2, hp, ?_, t.lst p hp⟩
  rw [valS]
  exact val_is (by rw [refs_keys]; exact t.ndK) (List.mem_map.mpr ⟨p, hp, rfl⟩)
theorem Tab.not_ (t : Tab H d L f) {x : Str} (h : x ∉ L.map (·.1)) : valV (tabS (refs L)) (Sum.inr x) = none := by
  rw [valS]
  exact val_none (by rw [refs_keys]; exact h)
theorem Tab.ne (t : Tab H d L f) {x : Str} {a : Addr} (h : (x, a) ∈ L) : a ≠ d := ne_of (t.lst _ h) t.dk (by intro q; cases q)
/-- a name's list changes -/
theorem Tab.set (t : Tab H d L f) {x : Str} {a : Addr} (h : (x, a) ∈ L) (ns : List Int) : Tab (upd H a (.lst (ns.map V.int))) d L (fun y => if y = x then ns else f y) := by
  refine ⟨by rw [upd_ne (t.ne h).symm]; exact t.dk, fun p hp => ?_, t.ndK, t.ndA⟩
  by_cases e : p.2 = a
  · have e2 : p.1 = x := nd2 t.ndA (show (p.1, a) ∈ L by rw [← e]; exact hp) h
    rw [e, upd_same]
    show some _ = some (HO.lst ((if p.1 = x then ns else f p.1).map V.int))
    rw [if_pos e2]
  · rw [upd_ne e]
    show _ = some (HO.lst ((if p.1 = x then ns else f p.1).map V.int))
    have e2 : p.1 ≠ x := fun z => by
      have k1 : valV (refs L) x = some (.ref p.2) := val_is (by rw [refs_keys]; exact t.ndK) (List.mem_map.mpr ⟨p, hp, by rw [z]⟩)
      have k2 : valV (refs L) x = some (.ref a) := val_is (by rw [refs_keys]; exact t.ndK) (List.mem_map.mpr ⟨_, h, rfl⟩)
      rw [k1] at k2
      cases k2
      exact e rfl
    rw [if_neg e2]
    exact t.lst p hp
/-- a new name with a new empty list -/
theorem Tab.put (t : Tab H d L f) {x : Str} {l : Addr} (hl : H l = none) (hx : x ∉ L.map (·.1)) (hf : f x = []) :
    Tab (upd (upd H l (.lst [])) d (.dK (putK (tabS (refs L)) (Sum.inr x) (.ref l)))) d (L ++ [(x, l)]) f := by
  have hdl : d ≠ l := ne_of_none t.dk hl
  refine ⟨?_, fun p hp => ?_, ?_, ?_⟩
  · rw [upd_same, putS, put_new _ (by rw [refs_keys]; exact hx), refs_app]
    rfl
  · rcases List.mem_append.mp (hp) with h | h
    · rw [upd_ne (t.ne (x := p.1) h), upd_ne (ne_of_none (t.lst p h) hl)]
      exact t.lst p h
    · have e : p = (x, l) := by simpa using h
      subst e
      rw [upd_ne hdl.symm, upd_same, hf]
      rfl
  · rw [List.map_append]
    exact nd_snoc t.ndK hx
  · rw [List.map_append]
    refine nd_snoc t.ndA fun m => ?_
    obtain ⟨p, hp, e⟩ := List.mem_map.mp m
    have := t.lst p hp
    rw [e, hl] at this
    cases this
/-- a name goes -/
theorem Tab.pop (t : Tab H d L f) (x : Str) : Tab (upd H d (.dK (dropK (tabS (refs L)) (Sum.inr x)))) d (L.filter fun p => decide (p.1 ≠ x)) f := by
  refine ⟨?_, fun p hp => ?_, ?_, ?_⟩
  · rw [upd_same, dropS, refs_drop]
  · have h := (List.mem_filter.mp hp).1
    rw [upd_ne (t.ne (x := p.1) h)]
    exact t.lst p h
  · exact t.ndK.sublist (List.filter_sublist.map _)
  · exact t.ndA.sublist (List.filter_sublist.map _)
end
end K07

set_option maxHeartbeats 4100000
/-! The text by places, what the top has written, the web in the heap -/
namespace K07
open PySem PySem.Spec PyProof.Rows L2

/-! ### the text by places -/
def top (i : Nat) : Stmt := PySem.Challenge.pw_tieseek_k07_where_ties_stand.main.body.getD i (.Pass ⟨0, 0, 0, 0⟩)
abbrev sGood : Stmt := top 14
abbrev sSmall : Stmt := top 15
abbrev sInit : Stmt := inClass (top 19) 0
abbrev sAsk : Stmt := inClass (top 19) 1
abbrev sAdd : Stmt := inClass (top 19) 2
abbrev sDrop : Stmt := inClass (top 19) 3
abbrev sTie : Stmt := inClass (top 19) 6
abbrev sCut : Stmt := inClass (top 19) 7
abbrev sRow : Stmt := inClass (top 19) 13
abbrev sOut : Stmt := inClass (top 19) 14
abbrev sInto : Stmt := inClass (top 19) 15
abbrev sNamed : Stmt := inClass (top 19) 16
abbrev sLetter : Stmt := top 21
abbrev sName : Stmt := top 22
abbrev sBad : Stmt := top 23
abbrev sWhich : Stmt := top 24
abbrev sDeed : Stmt := top 25
abbrev sDue : Stmt := top 26
abbrev sSaid : Stmt := top 27
abbrev sAsked : Stmt := top 28
abbrev sLooked : Stmt := top 29
abbrev sLaw : Stmt := top 30
abbrev FnP (K : PySem.W.Frag) (x q : Str) (st : Stmt) (dvs : List V) (f : Addr) (fd : FuncData) : Prop := FunD K x q (defArgs st) (defBody st) (defScope st) dvs [] f fd
def letters : Str := ("abcdefghijklmnopqrstuvwxyz" : Str)

/-! ### what the top has written -/
structure Adr where
  web : Addr
  se : Addr
  nn : Addr
  nu : Addr
  nt : Addr
  nk : Addr
  ni : Addr
  tw : Addr
  st : Addr
  fu : Addr
/-- an error class of the program that is raised -/
structure ExcF (K : PySem.W.Frag) (mg : Str → Option Value) (A : Adr) (x : Str) (D : Addr) (b1 b2 b3 b4 b5 b6 b7 b8 : Bool) : Prop where
  g : mg x = some (.ref D)
  ex : PySem.W.excIn K D He.veBase "ValueError.__new__" = true
  kp : PySem.W.keepIn K (.ref D) = true
  sb : PySem.W.subIn K (.ref D) (.type "BaseException") = some true
  ty : PySem.W.typeIn K (.ref D) = some (.type "type")
  em : PySem.W.exmOne K (.ref D) (.ref A.se) = some true
  cc : ExcC K D
  v : PySem.W.kitOne K (.ref D) (.type "ValueError") = some true
  i1 : PySem.W.kitOne K (.ref D) (.ref A.nn) = some b1
  i2 : PySem.W.kitOne K (.ref D) (.ref A.nu) = some b2
  i3 : PySem.W.kitOne K (.ref D) (.ref A.nt) = some b3
  i4 : PySem.W.kitOne K (.ref D) (.ref A.nk) = some b4
  i5 : PySem.W.kitOne K (.ref D) (.ref A.ni) = some b5
  i6 : PySem.W.kitOne K (.ref D) (.ref A.tw) = some b6
  i7 : PySem.W.kitOne K (.ref D) (.ref A.st) = some b7
  i8 : PySem.W.kitOne K (.ref D) (.ref A.fu) = some b8
structure Txt (K : PySem.W.Frag) (mg : Str → Option Value) (A : Adr) : Prop where
  cl : Cls K A.web
  nKn : NoAttr K A.web "known"
  nBk : NoAttr K A.web "book"
  nSt : NoAttr K A.web "starting"
  nEn : NoAttr K A.web "ending"
  nBe : NoAttr K A.web "bearing"
  nCo : NoAttr K A.web "coming"
  gWeb : mg "Web" = some (.ref A.web)
  gSE : mg "SeekError" = some (.ref A.se)
  gNN : mg "NoName" = some (.ref A.nn)
  gNU : mg "NoNumber" = some (.ref A.nu)
  gNK : mg "NoKey" = some (.ref A.nk)
  gNI : mg "NoTie" = some (.ref A.ni)
  gFU : mg "Full" = some (.ref A.fu)
  nt : ExcF K mg A "NoThing" A.nt false false true false false false false false
  tw : ExcF K mg A "Twice" A.tw false false false false false true false false
  st : ExcF K mg A "StillTied" A.st false false false false false false true false
  bLen : mg "len" = none
  bList : mg "list" = none
  bRange : mg "range" = none
  bSorted : mg "sorted" = none
  bIsi : mg "isinstance" = none
  bBool : mg "bool" = none
  bVE : mg "ValueError" = none
  mLet : ∃ t, mg "LETTERS" = some (.str letters t)
  mLon : ∃ t, mg "LONGEST" = some (.int 12 t)
  mTh : ∃ t, mg "MOST_THINGS" = some (.int 100 t)
  mTi : ∃ t, mg "MOST_TIES" = some (.int 400 t)

/-! ### a def that others call -/
structure Def (P : Program) (w : World) (K : PySem.W.Frag) (mg : Str → Option Value) (base : Heap) (CX : CXT) (k : Nat) (x : Str) (ps : List Str) (sp : Sp) : Prop where
  ex : ∃ f fd, mg x = some (.ref f) ∧ PySem.W.keepIn K (.ref f) = true ∧ Binds K fd ps [] ∧ FnOk P w K mg base CX k f fd ps sp
/-- a method that others call; the defaults dvs fill up -/
structure Mth (P : Program) (w : World) (K : PySem.W.Frag) (mg : Str → Option Value) (base : Heap) (CX : CXT) (k : Nat) (C : Addr) (m : Str) (ps : List Str) (dvs : List V) (sp : Sp) : Prop where
  ex : ∃ f fd ds, Meth K C m f ∧ Vals dvs ds ∧ Binds K fd ps ds ∧ FnOk P w K mg base CX k f fd ps sp

/-! ### the web in the heap -/
def wf (k b s e n : Addr) (c : Int) : List (Str × V) := [("known", .ref k), ("book", .ref b), ("starting", .ref s), ("ending", .ref e), ("bearing", .ref n), ("coming", .int c)]
section
variable (k b s e n : Addr) (c : Int)
theorem wf_known : (wf k b s e n c).lookup ("known" : Str) = some (.ref k) := by kernel_rfl
theorem wf_book : (wf k b s e n c).lookup ("book" : Str) = some (.ref b) := by kernel_rfl
theorem wf_starting : (wf k b s e n c).lookup ("starting" : Str) = some (.ref s) := by kernel_rfl
theorem wf_ending : (wf k b s e n c).lookup ("ending" : Str) = some (.ref e) := by kernel_rfl
theorem wf_bearing : (wf k b s e n c).lookup ("bearing" : Str) = some (.ref n) := by kernel_rfl
theorem wf_coming : (wf k b s e n c).lookup ("coming" : Str) = some (.int c) := by kernel_rfl
theorem wf_put (z : Int) : putF "coming" (.int z) (wf k b s e n c) = wf k b s e n z := by kernel_rfl
theorem wf_len : (wf k b s e n c).length = 6 := rfl
theorem wf_made : putF "coming" (.int c) (putF "bearing" (.ref n) (putF "ending" (.ref e) (putF "starting" (.ref s) (putF "book" (.ref b) (putF "known" (.ref k) []))))) = wf k b s e n c := by kernel_rfl
end
structure BE where
  row : Row
  wt : Int
  at_ : Addr
/-- where the web's parts stand -/
structure Geo where
  dx : Addr
  k : Addr
  b : Addr
  s : Addr
  e : Addr
  n : Addr
  KL : List (Str × V)
  BL : List BE
  SL : NA
  EL : NA
  NL : NA
def bookT (L : List BE) : List (Int × V) := L.map fun q => (q.row.num, V.ref q.at_)
structure WebAt (C : Addr) (H : Hp) (W : Addr) (m : M) (g : Geo) : Prop where
  ob : H W = some (.ins C g.dx (wf g.k g.b g.s g.e g.n m.coming))
  kn : H g.k = some (.dK (tabS g.KL))
  knK : g.KL.map (·.1) = m.things
  bk : H g.b = some (.dK (tabI (bookT g.BL)))
  bkR : g.BL.map (·.row) = m.rows
  bkT : ∀ q ∈ g.BL, H q.at_ = some (.tup [.str q.row.st, .str q.row.nm, .str q.row.en, .int q.wt])
  st : Tab H g.s g.SL (outN m.rows)
  stK : g.SL.map (·.1) = m.things
  en : Tab H g.e g.EL (inN m.rows)
  enK : g.EL.map (·.1) = m.things
  be : Tab H g.n g.NL (nameN m.rows)
  beK : ∀ r ∈ m.rows, r.nm ∈ g.NL.map (·.1)
  ds : [g.k, g.b, g.s, g.e, g.n].Nodup
  se : ∀ a ∈ g.SL.map (·.2), a ∉ g.EL.map (·.2)
  sn : ∀ a ∈ g.SL.map (·.2), a ∉ g.NL.map (·.2)
  en_ : ∀ a ∈ g.EL.map (·.2), a ∉ g.NL.map (·.2)
  ok : MOk m
def foot (g : Geo) (W b : Addr) : Prop := b = W ∨ b = g.k ∨ b = g.b ∨ b ∈ g.BL.map (·.at_) ∨ inTab g.s g.SL b ∨ inTab g.e g.EL b ∨ inTab g.n g.NL b
structure Mv (H H' : Hp) (W : Addr) (g g' : Geo) : Prop where
  new : ∀ b, foot g' W b → foot g W b ∨ H b = none
  old : ∀ b o, H b = some o → ¬ foot g W b → H' b = some o
section
variable {C : Addr} {H H' : Hp} {W : Addr} {m : M} {g : Geo}
theorem WebAt.same (t : WebAt C H W m g) (k : Same H H') : WebAt C H' W m g :=
  ⟨k _ _ t.ob, k _ _ t.kn, t.knK, k _ _ t.bk, t.bkR, fun q hq => k _ _ (t.bkT q hq), t.st.same k, t.stK, t.en.same k, t.enK, t.be.same k, t.beK, t.ds, t.se, t.sn, t.en_, t.ok⟩
theorem WebAt.frame (t : WebAt C H W m g) (k : ∀ b o, foot g W b → H b = some o → H' b = some o) : WebAt C H' W m g :=
  ⟨k _ _ (.inl rfl) t.ob, k _ _ (.inr (.inl rfl)) t.kn, t.knK, k _ _ (.inr (.inr (.inl rfl))) t.bk, t.bkR, fun q hq => k _ _ (.inr (.inr (.inr (.inl (List.mem_map.mpr ⟨q, hq, rfl⟩))))) (t.bkT q hq),
    ⟨k _ _ (.inr (.inr (.inr (.inr (.inl (.inl rfl)))))) t.st.dk, fun p hp => k _ _ (.inr (.inr (.inr (.inr (.inl (.inr (List.mem_map.mpr ⟨p, hp, rfl⟩))))))) (t.st.lst p hp), t.st.ndK, t.st.ndA⟩, t.stK,
    ⟨k _ _ (.inr (.inr (.inr (.inr (.inr (.inl (.inl rfl))))))) t.en.dk, fun p hp => k _ _ (.inr (.inr (.inr (.inr (.inr (.inl (.inr (List.mem_map.mpr ⟨p, hp, rfl⟩)))))))) (t.en.lst p hp), t.en.ndK, t.en.ndA⟩, t.enK,
    ⟨k _ _ (.inr (.inr (.inr (.inr (.inr (.inr (.inl rfl))))))) t.be.dk, fun p hp => k _ _ (.inr (.inr (.inr (.inr (.inr (.inr (.inr (List.mem_map.mpr ⟨p, hp, rfl⟩)))))))) (t.be.lst p hp), t.be.ndK, t.be.ndA⟩, t.beK, t.ds, t.se, t.sn, t.en_, t.ok⟩
theorem WebAt.out (t : WebAt C H W m g) {a : Addr} {o : HO} (h : ¬ foot g W a) : WebAt C (upd H a o) W m g :=
  t.frame fun b u hb e => by rw [upd_ne (fun z : b = a => h (by rw [← z]; exact hb))]; exact e
theorem WebAt.some_ (t : WebAt C H W m g) {b : Addr} (h : foot g W b) : ∃ o, H b = some o := by
  rcases h with e | e | e | e | e | e | e
  · exact ⟨_, by rw [e]; exact t.ob⟩
  · exact ⟨_, by rw [e]; exact t.kn⟩
  · exact ⟨_, by rw [e]; exact t.bk⟩
  · obtain ⟨q, hq, e⟩ := List.mem_map.mp e
    exact ⟨_, by rw [← e]; exact t.bkT q hq⟩
  · exact t.st.some_ e
  · exact t.en.some_ e
  · exact t.be.some_ e
theorem WebAt.fresh (t : WebAt C H W m g) {a : Addr} (h : H a = none) : ¬ foot g W a := fun z => by
  obtain ⟨o, e⟩ := t.some_ z
  rw [h] at e
  cases e
/-- a new object -/
theorem same_new {a : Addr} {o : HO} (h : H a = none) : Same H (upd H a o) := fun b u e => by rw [upd_ne (ne_of_none e h)]; exact e
theorem WebAt.kn_has (t : WebAt C H W m g) (x : Str) : (valV (tabS g.KL) (Sum.inr x)).isSome = decide (x ∈ m.things) := by
  rw [valS]
  by_cases h : x ∈ m.things
  · obtain ⟨v, e⟩ := val_has (L := g.KL) (k := x) (by rw [t.knK]; exact h)
    rw [e, decide_eq_true h]
    rfl
  · rw [val_none (by rw [t.knK]; exact h), decide_eq_false h]
    rfl
end
end K07

set_option maxHeartbeats 4100000
namespace K07
open PySem PySem.Spec PyProof.Rows L2
/-- one to twelve small letters -/
def Good (z : Str) : Prop := 1 ≤ z.cps.size ∧ z.cps.size ≤ 12 ∧ ∀ (i : Nat) (c : Nat), z.cps[i]? = some c → c ∈ letters.cps.toList
def spGood : Sp := fun vs H Q _ => ∃ z, vs = [.str z] ∧ Good z ∧ Q (.bl true) H
def spSmall : Sp := fun vs H Q _ => ∃ i : Int, vs = [.int i] ∧ -(10 ^ 60) < i ∧ i < 10 ^ 60 ∧ Q (.bl true) H
section
variable {P : Program} {w : World} {K : PySem.W.Frag} {mg : Str → Option Value} {base : Heap} {A : Adr} {f : Addr} {fd : FuncData}
theorem scGood : FnScope ["text", "sign"] ["text"] (defScope sGood) := ⟨rfl, rfl, rfl, by decide +kernel, rfl, by decide +kernel, by decide +kernel⟩
theorem ok_good (F : FnP K "good_name" "good_name" sGood [] f fd) (T : Txt K mg A) : FnOk P w K mg base CX0 1 f fd ["text"] spGood := by
  obtain ⟨t1, m1⟩ := T.mLet
  obtain ⟨t2, m2⟩ := T.mLon
  refine F.ok scGood (fun vs H Q E h => ?_) (fun cdv A outer s H vs Q E hr h => ⟨_, PSs.nox (pss_cons
      (ps_if (PW.pt (pw_or (pt_cmpR op_lt (pe_callB call_len_str (by rfl) T.bLen PySem.boot_len (pa_cons (pv 0) pa_nil)) pe_int (nomark _)) (pw_or1 (pt_cmpR op_gt (pe_callB call_len_str (by rfl) T.bLen PySem.boot_len (pa_cons (pv 0) pa_nil)) (pe_glob (v := .int 12) rfl m2 ⟨_, rfl⟩) (nomark _)))))
        (pss_one (ps_ret pe_bl)) pss_nil)
      (pss_cons (ps_for PassesOwn.never rfl (pi_str (pv 0)) (pg_name (i := 1) scGood.nd rfl (.inl rfl))
        (pss_one (ps_if (pt_cmpR op_notIn_sign (pv 1) (pe_glob (v := .str letters) rfl m1 ⟨_, rfl⟩) rfl) (pss_one (ps_ret pe_bl)) pss_nil)))
      (pss_one (ps_ret pe_bl)))), ?_⟩)
  · obtain ⟨z, rfl, _⟩ := h
    rfl
  · obtain ⟨z, rfl, ⟨g1, g2, g3⟩, k⟩ := h
    have hz : z.length ≤ sizeLine := by rw [sizeLine_eq]; show z.cps.size ≤ _; omega
    refine ⟨_, rfl, _, rfl, hz, _, _, rfl, rfl, _, rfl, ?_⟩
    have e1 : decide ((z.length : Int) < 1) = false := decide_eq_false (by show ¬ ((z.cps.size : Int) < 1); omega)
    have e2 : decide ((12 : Int) < (z.length : Int)) = false := decide_eq_false (by show ¬ ((12 : Int) < (z.cps.size : Int)); omega)
    rw [e1]
    refine iteF ⟨_, rfl, _, rfl, hz, _, _, rfl, rfl, _, rfl, ?_⟩
    rw [e2]
    refine iteF ⟨_, rfl, z, rfl, for_it walk_str (fun i σ H' => (∃ v, σ = [some (.str z), v]) ∧ H' = H) ⟨⟨_, rfl⟩, rfl⟩ (fun _ _ _ _ _ => trivial) ?_ ?_⟩
    · rintro i x σ H1 H2 hi ⟨⟨v, rfl⟩, rfl⟩ ⟨rfl, c, hc, rfl⟩
      refine ⟨_, rfl, c, letters, rfl, rfl, _, rfl, ?_⟩
      rw [decide_eq_true (g3 i c hc)]
      exact iteF ⟨⟨_, rfl⟩, rfl⟩
    · rintro σ H1 ⟨⟨v, rfl⟩, rfl⟩
      exact k
theorem scSmall : FnScope ["number"] ["number"] (defScope sSmall) := ⟨rfl, rfl, rfl, by decide +kernel, rfl, by decide +kernel, by decide +kernel⟩
theorem ok_small (F : FnP K "small_number" "small_number" sSmall [] f fd) (T : Txt K mg A) : FnOk P w K mg base CX0 1 f fd ["number"] spSmall := by
  refine F.ok scSmall (fun vs H Q E h => ?_) (fun cdv A outer s H vs Q E hr h => ⟨_, PSs.nox (pss_one
      (ps_ret (pe_chain op_lt op_lt (pe_un un_neg (pe_op op_pow pe_int pe_int)) (pv 0) (pe_op op_pow pe_int pe_int)))), ?_⟩)
  · obtain ⟨z, rfl, _⟩ := h
    rfl
  · obtain ⟨i, rfl, h1, h2, k⟩ := h
    refine ⟨10, 60, rfl, rfl, ⟨by decide, by decide, by decide⟩, _, rfl, _, rfl, _, _, rfl, rfl, _, rfl, ?_⟩
    have e1 : decide (-((10 : Int) ^ (60 : Int).toNat) < i) = true := decide_eq_true (by show -(10 ^ 60) < i; exact h1)
    rw [e1]
    refine iteT ⟨10, 60, rfl, rfl, ⟨by decide, by decide, by decide⟩, _, _, rfl, rfl, ?_⟩
    have e2 : decide (i < (10 : Int) ^ (60 : Int).toNat) = true := decide_eq_true (by show i < 10 ^ 60; exact h2)
    show Q (V.bl (decide (i < (10 : Int) ^ (60 : Int).toNat))) H
    rw [e2]
    exact k
end
end K07

set_option maxHeartbeats 4100000
namespace K07
open PySem PySem.Spec PyProof.Rows L2
def spAsk (A : Adr) : Sp := fun vs H Q E => ∃ W x m g, vs = [.ref W, .str x] ∧ WebAt A.web H W m g ∧ (x ∈ m.things → Q .non H) ∧ (x ∉ m.things → E (.ref A.nt) none H)
def spRow (A : Adr) : Sp := fun vs H Q _ => ∃ W m g q, vs = [.ref W, .int q.row.num] ∧ WebAt A.web H W m g ∧ q ∈ g.BL ∧ Q (.ref q.at_) H
def spList (A : Adr) (f : List Row → Str → List Int) : Sp := fun vs H Q E => ∃ W x m g, vs = [.ref W, .str x] ∧ WebAt A.web H W m g ∧
  (x ∈ m.things → ∀ p, H p = none → Q (.ref p) (upd H p (.lst ((f m.rows x).map V.int)))) ∧ (x ∉ m.things → E (.ref A.nt) none H)
def spNamed (A : Adr) : Sp := fun vs H Q _ => ∃ W x m g, vs = [.ref W, .str x] ∧ WebAt A.web H W m g ∧
  ∀ p H', Same H H' → H p = none → H' p = some (.lst ((nameN m.rows x).map V.int)) → Q (.ref p) H'
section
variable {P : Program} {w : World} {K : PySem.W.Frag} {mg : Str → Option Value} {base : Heap} {A : Adr} {f : Addr} {fd : FuncData}
theorem rows_len {m : M} {g : Geo} {C : Addr} {H : Hp} {W : Addr} (t : WebAt C H W m g) : g.BL.length = m.rows.length := by rw [← t.bkR, List.length_map]
theorem scAsk : FnScope ["self", "name"] ["self", "name"] (defScope sAsk) := ⟨rfl, rfl, rfl, by decide +kernel, rfl, by decide +kernel, by decide +kernel⟩
theorem ok_ask (F : FnP K "ask_thing" "Web.ask_thing" sAsk [] f fd) (T : Txt K mg A) : FnOk P w K mg base (L2.CX P w) 1 f fd ["self", "name"] (spAsk A) := by
  refine F.ok scAsk (fun vs H Q E h => ?_) (fun cdv R outer s H vs Q E hr h => ⟨_, pss_one
      (ps_if (pt_cmp (pc_dnotin (hu_of hr) (pv 1) (pe_fld (pv 0) rfl)) rfl) (pss_one (ps_raise rfl (takes_of rfl rfl rfl rfl) (pmk_own PySem.F.excBase_ValueError T.nt.ex T.nt.g T.nt.kp (raises_own T.nt.sb T.nt.ty) rfl))) pss_nil), ?_⟩)
  · obtain ⟨W, x, m, g, rfl, _⟩ := h
    rfl
  · obtain ⟨W, x, m, g, rfl, t, k1, k2⟩ := h
    refine ⟨_, rfl, _, rfl, W, A.web, _, _, _, rfl, t.ob, T.cl, T.nKn, wf_known _ _ _ _ _ _, _, _, rfl, DGet.k (k := Sum.inr x) t.kn, _, rfl, ?_⟩
    rw [t.kn_has]
    by_cases h : x ∈ m.things
    · rw [decide_eq_true h]
      exact iteF (k1 h)
    · rw [decide_eq_false h]
      exact iteT (k2 h)
end
end K07

set_option maxHeartbeats 4100000
namespace K07
open PySem PySem.Spec PyProof.Rows L2
section
variable {H : Hp} {a b d : Addr} {o u : HO} {L : NA} {f : Str → List Int} {C W : Addr} {m : M} {g : Geo}
theorem upd_none (h : upd H a o b = none) : b ≠ a ∧ H b = none := by
  by_cases e : b = a
  · rw [e, upd_same] at h
    cases h
  · rw [upd_ne e] at h
    exact ⟨e, h⟩
theorem Tab.kind (t : Tab H d L f) (h : H b = some u) (hn : b ≠ d) (hl : ∀ xs, u ≠ .lst xs) : ¬ inTab d L b := fun z => by
  rcases z with e | e
  · exact hn e
  · obtain ⟨p, hp, e⟩ := List.mem_map.mp e
    have q := t.lst p hp
    rw [e, h] at q
    exact hl _ (Option.some.inj q)
theorem dk_lst (kvs : List (Key × V)) : ∀ xs, HO.dK kvs ≠ .lst xs := fun _ q => by cases q
theorem ins_lst (C dx : Addr) (fs : List (Str × V)) : ∀ xs, HO.ins C dx fs ≠ .lst xs := fun _ q => by cases q
theorem tup_lst (ys : List V) : ∀ xs, HO.tup ys ≠ .lst xs := fun _ q => by cases q
/-- the parts stand apart -/
structure Apart (W : Addr) (g : Geo) : Prop where
  Wk : W ≠ g.k
  Wb : W ≠ g.b
  Ws : W ≠ g.s
  We : W ≠ g.e
  Wn : W ≠ g.n
  kb : g.k ≠ g.b
  ks : g.k ≠ g.s
  ke : g.k ≠ g.e
  kn : g.k ≠ g.n
  bs : g.b ≠ g.s
  be : g.b ≠ g.e
  bn : g.b ≠ g.n
  se : g.s ≠ g.e
  sn : g.s ≠ g.n
  en : g.e ≠ g.n
theorem WebAt.apart (t : WebAt C H W m g) : Apart W g := by
  have d := t.ds
  simp only [List.nodup_cons, List.mem_cons, List.not_mem_nil, or_false, not_or] at d
  obtain ⟨⟨d1, d2, d3, d4⟩, ⟨d5, d6, d7⟩, ⟨d8, d9⟩, d10, _⟩ := d
  have q : ∀ {x : Addr} {kvs}, H x = some (.dK kvs) → W ≠ x := fun h => ne_of t.ob h (by intro z; cases z)
  exact ⟨q t.kn, q t.bk, q t.st.dk, q t.en.dk, q t.be.dk, d1, d2, d3, d4, d5, d6, d7, d8, d9, d10⟩
/-- an address that is no list's and none of these -/
structure Off (W : Addr) (g : Geo) (b : Addr) : Prop where
  s : ¬ inTab g.s g.SL b
  e : ¬ inTab g.e g.EL b
  n : ¬ inTab g.n g.NL b
theorem WebAt.k_off (t : WebAt C H W m g) : Off W g g.k :=
  ⟨t.st.kind t.kn t.apart.ks (dk_lst _), t.en.kind t.kn t.apart.ke (dk_lst _), t.be.kind t.kn t.apart.kn (dk_lst _)⟩
theorem WebAt.b_off (t : WebAt C H W m g) : Off W g g.b :=
  ⟨t.st.kind t.bk t.apart.bs (dk_lst _), t.en.kind t.bk t.apart.be (dk_lst _), t.be.kind t.bk t.apart.bn (dk_lst _)⟩
theorem WebAt.W_off (t : WebAt C H W m g) : Off W g W :=
  ⟨t.st.kind t.ob t.apart.Ws (ins_lst _ _ _), t.en.kind t.ob t.apart.We (ins_lst _ _ _), t.be.kind t.ob t.apart.Wn (ins_lst _ _ _)⟩
theorem WebAt.new_off (t : WebAt C H W m g) (h : H b = none) : Off W g b := ⟨t.st.fresh h, t.en.fresh h, t.be.fresh h⟩
theorem WebAt.tup_off (t : WebAt C H W m g) {ys : List V} (h : H b = some (.tup ys)) : Off W g b :=
  ⟨t.st.kind h (ne_of h t.st.dk (by intro z; cases z)) (tup_lst _), t.en.kind h (ne_of h t.en.dk (by intro z; cases z)) (tup_lst _), t.be.kind h (ne_of h t.be.dk (by intro z; cases z)) (tup_lst _)⟩
theorem foot_k : foot g W g.k := .inr (.inl rfl)
theorem foot_b : foot g W g.b := .inr (.inr (.inl rfl))
theorem foot_t {q : BE} (h : q ∈ g.BL) : foot g W q.at_ := .inr (.inr (.inr (.inl (List.mem_map.mpr ⟨q, h, rfl⟩))))
theorem foot_s {b : Addr} (h : inTab g.s g.SL b) : foot g W b := .inr (.inr (.inr (.inr (.inl h))))
theorem foot_e {b : Addr} (h : inTab g.e g.EL b) : foot g W b := .inr (.inr (.inr (.inr (.inr (.inl h)))))
theorem foot_n {b : Addr} (h : inTab g.n g.NL b) : foot g W b := .inr (.inr (.inr (.inr (.inr (.inr h)))))
theorem inTab_d : inTab d L d := .inl rfl
theorem inTab_a {x : Str} (h : (x, a) ∈ L) : inTab d L a := .inr (List.mem_map.mpr ⟨_, h, rfl⟩)
end
def M.add (m : M) (x : Str) : M := ⟨m.things ++ [x], m.rows, m.coming⟩
theorem add_ok {m : M} {x : Str} (o : MOk m) (h : x ∉ m.things) : MOk (m.add x) :=
  ⟨nd_snoc o.nd h, o.up, o.low, fun r hr => ⟨List.mem_append_left _ (o.ends r hr).1, List.mem_append_left _ (o.ends r hr).2⟩⟩
theorem out_none {m : M} {x : Str} (o : MOk m) (h : x ∉ m.things) : outN m.rows x = [] := by
  unfold outN
  rw [List.filter_eq_nil_iff.mpr (fun r hr => by
    simp only [decide_eq_true_eq]
    intro e
    exact h (e ▸ (o.ends r hr).1))]
  rfl
theorem in_none {m : M} {x : Str} (o : MOk m) (h : x ∉ m.things) : inN m.rows x = [] := by
  unfold inN
  rw [List.filter_eq_nil_iff.mpr (fun r hr => by
    simp only [decide_eq_true_eq]
    intro e
    exact h (e ▸ (o.ends r hr).2))]
  rfl
theorem web_add {C : Addr} {H : Hp} {W : Addr} {m : M} {g : Geo} (t : WebAt C H W m g) {x : Str} (hx : x ∉ m.things) {d1 l1 l2 : Addr} (h1 : H d1 = none)
    (h2 : upd (upd H d1 (.dK [])) g.k (.dK (putK (tabS g.KL) (Sum.inr x) (.ref d1))) l1 = none)
    (h3 : upd (upd (upd (upd H d1 (.dK [])) g.k (.dK (putK (tabS g.KL) (Sum.inr x) (.ref d1)))) l1 (.lst [])) g.s (.dK (putK (tabS (refs g.SL)) (Sum.inr x) (.ref l1))) l2 = none) :
    let H' := upd (upd (upd (upd (upd (upd H d1 (.dK [])) g.k (.dK (putK (tabS g.KL) (Sum.inr x) (.ref d1)))) l1 (.lst [])) g.s (.dK (putK (tabS (refs g.SL)) (Sum.inr x) (.ref l1)))) l2 (.lst [])) g.e (.dK (putK (tabS (refs g.EL)) (Sum.inr x) (.ref l2)))
    let g' : Geo := { g with KL := g.KL ++ [(x, .ref d1)], SL := g.SL ++ [(x, l1)], EL := g.EL ++ [(x, l2)] }
    WebAt C H' W (m.add x) g' ∧ Mv H H' W g g' := by
  intro H' g'
  have a := t.apart
  obtain ⟨n1k, h2'⟩ := upd_none h2
  obtain ⟨n1d, f1⟩ := upd_none h2'
  obtain ⟨n2s, h3'⟩ := upd_none h3
  obtain ⟨n2l, h3''⟩ := upd_none h3'
  obtain ⟨n2k, h3'''⟩ := upd_none h3''
  obtain ⟨n2d, f2⟩ := upd_none h3'''
  have old : ∀ b o, H b = some o → b ≠ g.k → b ≠ g.s → b ≠ g.e → H' b = some o := fun b o hb k1 k2 k3 => by
    show upd _ _ _ b = _
    rw [upd_ne k3, upd_ne (ne_of_none hb f2), upd_ne k2, upd_ne (ne_of_none hb f1), upd_ne k1, upd_ne (ne_of_none hb h1)]
    exact hb
  have kd : g.k ≠ d1 := ne_of_none t.kn h1
  have T1 : Tab (upd (upd H d1 (.dK [])) g.k (.dK (putK (tabS g.KL) (Sum.inr x) (.ref d1)))) g.s g.SL (outN m.rows) := (t.st.upd_out (t.new_off h1).s).upd_out t.k_off.s
  have T2 := T1.put h2 (by rw [t.stK]; exact hx) (out_none t.ok hx)
  have E1 : Tab (upd (upd H d1 (.dK [])) g.k (.dK (putK (tabS g.KL) (Sum.inr x) (.ref d1)))) g.e g.EL (inN m.rows) := (t.en.upd_out (t.new_off h1).e).upd_out t.k_off.e
  have E2 := (E1.upd_out (a := l1) (o := .lst []) (E1.fresh h2)).upd_out (a := g.s) (o := .dK (putK (tabS (refs g.SL)) (Sum.inr x) (.ref l1))) (fun z => by
    rcases z with z | z
    · exact a.se z
    · obtain ⟨p, hp, e⟩ := List.mem_map.mp z
      exact (ne_of t.st.dk (t.en.lst p hp) (by intro q; cases q)) e.symm)
  have E3 := E2.put h3 (by rw [t.enK]; exact hx) (in_none t.ok hx)
  have T3 := (T2.upd_out (a := l2) (o := .lst []) (T2.fresh h3)).upd_out (a := g.e) (o := .dK (putK (tabS (refs g.EL)) (Sum.inr x) (.ref l2))) (fun z => by
    rcases z with z | z
    · exact a.se z.symm
    · rw [List.map_append] at z
      rcases List.mem_append.mp z with z | z
      · obtain ⟨p, hp, e⟩ := List.mem_map.mp z
        exact (ne_of t.en.dk (t.st.lst p hp) (by intro q; cases q)) e.symm
      · have e : g.e = l1 := by simpa using z
        exact (ne_of_none t.en.dk f1) e)
  have nl : ∀ {L : NA} {d : Addr} {f : Str → List Int} {l : Addr}, Tab H d L f → H l = none → l ∉ L.map (·.2) := fun tt hl z => tt.fresh hl (.inr z)
  have mem2 : ∀ {L : NA} {l c : Addr}, c ∈ (L ++ [(x, l)]).map (·.2) → c ∈ L.map (·.2) ∨ c = l := fun {L l c} z => by
    rw [List.map_append] at z
    rcases List.mem_append.mp z with z | z
    · exact .inl z
    · exact .inr (by simpa using z)
  refine ⟨⟨old _ _ t.ob a.Wk a.Ws a.We, ?_, ?_, old _ _ t.bk a.kb.symm a.bs a.be, t.bkR, fun q hq => old _ _ (t.bkT q hq) ?_ ?_ ?_, T3, ?_, E3, ?_,
    ⟨old _ _ t.be.dk a.kn.symm a.sn.symm a.en.symm, fun p hp => old _ _ (t.be.lst p hp) ?_ ?_ ?_, t.be.ndK, t.be.ndA⟩, t.beK, t.ds, ?_, ?_, ?_, add_ok t.ok hx⟩, ⟨?_, ?_⟩⟩
  · show upd _ _ _ g.k = _
    rw [upd_ne a.ke, upd_ne n2k.symm, upd_ne a.ks, upd_ne n1k.symm, upd_same, putS, put_new _ (by rw [t.knK]; exact hx)]
  · show (g.KL ++ [(x, V.ref d1)]).map (·.1) = _
    rw [List.map_append, t.knK]
    rfl
  · exact ne_of (t.bkT q hq) t.kn (by intro z; cases z)
  · exact ne_of (t.bkT q hq) t.st.dk (by intro z; cases z)
  · exact ne_of (t.bkT q hq) t.en.dk (by intro z; cases z)
  · show (g.SL ++ [(x, l1)]).map (·.1) = _
    rw [List.map_append, t.stK]
    rfl
  · show (g.EL ++ [(x, l2)]).map (·.1) = _
    rw [List.map_append, t.enK]
    rfl
  · exact ne_of (t.be.lst p hp) t.kn (by intro z; cases z)
  · exact ne_of (t.be.lst p hp) t.st.dk (by intro z; cases z)
  · exact ne_of (t.be.lst p hp) t.en.dk (by intro z; cases z)
  · intro c hc hd
    rcases mem2 hc with c1 | c1 <;> rcases mem2 hd with d1 | d1
    · exact t.se c c1 d1
    · exact nl t.st f2 (d1 ▸ c1)
    · exact nl t.en f1 (c1 ▸ d1)
    · exact n2l (d1.symm.trans c1)
  · intro c hc hd
    rcases mem2 hc with c1 | c1
    · exact t.sn c c1 hd
    · exact nl t.be f1 (c1 ▸ hd)
  · intro c hc hd
    rcases mem2 hc with c1 | c1
    · exact t.en_ c c1 hd
    · exact nl t.be f2 (c1 ▸ hd)
  · intro c hc
    rcases hc with e | e | e | e | e | e | e
    · exact .inl (.inl e)
    · exact .inl (.inr (.inl e))
    · exact .inl (.inr (.inr (.inl e)))
    · exact .inl (.inr (.inr (.inr (.inl e))))
    · rcases e with e | e
      · exact .inl (foot_s (.inl e))
      · rcases mem2 e with e | e
        · exact .inl (foot_s (.inr e))
        · exact .inr (by rw [e]; exact f1)
    · rcases e with e | e
      · exact .inl (foot_e (.inl e))
      · rcases mem2 e with e | e
        · exact .inl (foot_e (.inr e))
        · exact .inr (by rw [e]; exact f2)
    · exact .inl (foot_n e)
  · intro b o hb hf
    exact old b o hb (fun e => hf (e ▸ foot_k)) (fun e => hf (e ▸ foot_s inTab_d)) (fun e => hf (e ▸ foot_e inTab_d))
end K07

set_option maxHeartbeats 4100000
namespace K07
open PySem PySem.Spec PyProof.Rows L2
def spAdd (A : Adr) : Sp := fun vs H Q E => ∃ W x m g, vs = [.ref W, .str x] ∧ WebAt A.web H W m g ∧ Good x ∧ m.things.length < 100 ∧
  (x ∈ m.things → E (.ref A.tw) none H) ∧ (x ∉ m.things → ∀ g' H', WebAt A.web H' W (m.add x) g' → Mv H H' W g g' → g'.NL = g.NL → Q .non H')
section
variable {P : Program} {w : World} {K : PySem.W.Frag} {mg : Str → Option Value} {base : Heap} {A : Adr} {f : Addr} {fd : FuncData}
theorem scAdd : FnScope ["self", "name"] ["self", "name"] (defScope sAdd) := ⟨rfl, rfl, rfl, by decide +kernel, rfl, by decide +kernel, by decide +kernel⟩
theorem ok_add (F : FnP K "add_thing" "Web.add_thing" sAdd [] f fd) (T : Txt K mg A) (GG : Def P w K mg base CX0 1 "good_name" ["text"] spGood) : FnOk P w K mg base (L2.CX P w) 2 f fd ["self", "name"] (spAdd A) := by
  obtain ⟨fG, fdG, gG, kG, bG, FG⟩ := GG
  obtain ⟨t1, m1⟩ := T.mTh
  refine F.ok scAdd (fun vs H Q E h => ?_) (fun cdv R outer s H vs Q E hr h => ⟨_, pss_cons
      (ps_if (pt_not (pt_val (pe_call FG hr rfl gG kG bG .nil pass0 (pa_cons (pv 1) pa_nil)))) (pss_one ps_never) pss_nil)
      (pss_cons (ps_if (pt_cmp (pc_din (hu_of hr) (pv 1) (pe_fld (pv 0) rfl)) rfl) (pss_one (ps_raise rfl (takes_of rfl rfl rfl rfl) (pmk_own PySem.F.excBase_ValueError T.tw.ex T.tw.g T.tw.kp (raises_own T.tw.sb T.tw.ty) rfl))) pss_nil)
      (pss_cons (ps_if (pt_cmpR op_ge (pe_callB call_lenD (by rfl) T.bLen PySem.boot_len (pa_cons (pe_fld (pv 0) rfl) pa_nil)) (pe_glob (v := .int 100) rfl m1 ⟨_, rfl⟩) (nomark _)) (pss_one ps_never) pss_nil)
      (pss_cons (ps_dput (hu_of hr) (pe_fld (pv 0) rfl) (pv 1) pe_dnewK rfl)
      (pss_cons (ps_dput (hu_of hr) (pe_fld (pv 0) rfl) (pv 1) (pe_lst pa_nil) rfl)
      (pss_one (ps_dput (hu_of hr) (pe_fld (pv 0) rfl) (pv 1) (pe_lst pa_nil) rfl)))))), ?_⟩)
  · obtain ⟨W, x, m, g, rfl, _⟩ := h
    rfl
  · obtain ⟨W, x, m, g, rfl, t, hg, hm, k1, k2⟩ := h
    refine ⟨_, rfl, x, rfl, hg, _, rfl, ?_⟩
    refine iteF ⟨_, rfl, _, rfl, W, A.web, _, _, _, rfl, t.ob, T.cl, T.nKn, wf_known _ _ _ _ _ _, _, _, rfl, DGet.k (k := Sum.inr x) t.kn, _, rfl, ?_⟩
    rw [t.kn_has]
    by_cases h : x ∈ m.things
    · rw [decide_eq_true h]
      exact iteT (k1 h)
    · rw [decide_eq_false h]
      have hl : (tabS g.KL).length = m.things.length := by rw [lenS, ← t.knK, List.length_map]
      refine iteF ⟨_, rfl, W, A.web, _, _, _, rfl, t.ob, T.cl, T.nKn, wf_known _ _ _ _ _ _, _, _, rfl, t.kn, _, _, rfl, rfl, _, rfl, ?_⟩
      rw [hl, decide_eq_false (by omega)]
      have hsz : (sizeLine : Nat) = 16777216 := sizeLine_eq
      refine iteF fun d1 h1 => ?_
      refine ⟨_, rfl, W, A.web, _, _, _, rfl, (same_new h1) _ _ t.ob, T.cl, T.nKn, wf_known _ _ _ _ _ _, _, rfl, _, _, rfl, DPut.k (k := Sum.inr x) (same_new h1 _ _ t.kn) (by rw [hl]; omega), ?_⟩
      refine ⟨Nat.zero_le _, fun l1 h2 => ?_⟩
      have a := t.apart
      obtain ⟨n1k, h2'⟩ := upd_none h2
      obtain ⟨n1d, f1⟩ := upd_none h2'
      have o1 : ∀ {b o}, H b = some o → b ≠ g.k → upd (upd (upd H d1 (.dK [])) g.k (.dK (putK (tabS g.KL) (Sum.inr x) (.ref d1)))) l1 (.lst []) b = some o := fun {b o} hb kk => by
        rw [upd_ne (ne_of_none hb f1), upd_ne kk, upd_ne (ne_of_none hb h1)]
        exact hb
      refine ⟨_, rfl, W, A.web, _, _, _, rfl, o1 t.ob a.Wk, T.cl, T.nSt, wf_starting _ _ _ _ _ _, _, rfl, _, _, rfl, DPut.k (k := Sum.inr x) (o1 t.st.dk a.ks.symm) ?_, ?_⟩
      · show (tabS (refs g.SL)).length < _
        have : (refs g.SL).length = m.things.length := by rw [← t.stK, List.length_map]; unfold refs; rw [List.length_map]
        rw [lenS, this]
        omega
      refine ⟨Nat.zero_le _, fun l2 h3 => ?_⟩
      obtain ⟨n2s, h3'⟩ := upd_none h3
      have o2 : ∀ {b o}, H b = some o → b ≠ g.k → b ≠ g.s → upd (upd (upd (upd (upd H d1 (.dK [])) g.k (.dK (putK (tabS g.KL) (Sum.inr x) (.ref d1)))) l1 (.lst [])) g.s (.dK (putK (tabS (refs g.SL)) (Sum.inr x) (.ref l1)))) l2 (.lst []) b = some o := fun {b o} hb kk ks => by
        rw [upd_ne (ne_of_none (o1 hb kk) h3'), upd_ne ks]
        exact o1 hb kk
      refine ⟨_, rfl, W, A.web, _, _, _, rfl, o2 t.ob a.Wk a.Ws, T.cl, T.nEn, wf_ending _ _ _ _ _ _, _, rfl, _, _, rfl, DPut.k (k := Sum.inr x) (o2 t.en.dk a.ke.symm a.se.symm) ?_, ?_⟩
      · show (tabS (refs g.EL)).length < _
        have : (refs g.EL).length = m.things.length := by rw [← t.enK, List.length_map]; unfold refs; rw [List.length_map]
        rw [lenS, this]
        omega
      obtain ⟨q1, q2⟩ := web_add t h h1 h2 h3
      exact k2 h _ _ q1 q2 rfl
end
end K07

set_option maxHeartbeats 4100000
namespace K07
open PySem PySem.Spec PyProof.Rows L2
def M.drop (m : M) (x : Str) : M := ⟨m.things.filter fun y => decide (y ≠ x), m.rows, m.coming⟩
def tied (rows : List Row) (x : Str) : Bool := rows.any fun r => decide (r.st = x) || decide (r.en = x)
theorem tied_not {rows : List Row} {x : Str} (h : tied rows x = false) : ∀ r ∈ rows, r.st ≠ x ∧ r.en ≠ x := fun r hr => by
  have q := List.any_eq_false.mp h r hr
  simpa using q
theorem tied_len (rows : List Row) (x : Str) : tied rows x = (decide (0 < (outN rows x).length) || decide (0 < (inN rows x).length)) := by
  unfold tied outN inN
  rw [List.length_map, List.length_map]
  induction rows with
  | nil => rfl
  | cons r t ih =>
    rw [List.any_cons, ih, List.filter_cons, List.filter_cons]
    by_cases h1 : r.st = x <;> by_cases h2 : r.en = x <;> simp [h1, h2]
theorem drop_ok {m : M} {x : Str} (o : MOk m) (h : tied m.rows x = false) : MOk (m.drop x) :=
  ⟨o.nd.sublist List.filter_sublist, o.up, o.low, fun r hr => ⟨List.mem_filter.mpr ⟨(o.ends r hr).1, by simpa using (tied_not h r hr).1⟩, List.mem_filter.mpr ⟨(o.ends r hr).2, by simpa using (tied_not h r hr).2⟩⟩⟩
theorem filt_keys (L : NA) (x : Str) : (L.filter fun p => decide (p.1 ≠ x)).map (·.1) = (L.map (·.1)).filter fun y => decide (y ≠ x) := by
  rw [List.filter_map]
  rfl
theorem drop_keys (L : List (Str × V)) (x : Str) : (dropK L x).map (·.1) = (L.map (·.1)).filter fun y => decide (y ≠ x) := by
  unfold dropK
  rw [List.filter_map]
  rfl
theorem filt_sub {L : NA} {x : Str} {c : Addr} (h : c ∈ (L.filter fun p => decide (p.1 ≠ x)).map (·.2)) : c ∈ L.map (·.2) := by
  obtain ⟨p, hp, e⟩ := List.mem_map.mp (h)
  exact List.mem_map.mpr ⟨p, (List.mem_filter.mp hp).1, e⟩
theorem web_drop {C : Addr} {H : Hp} {W : Addr} {m : M} {g : Geo} (t : WebAt C H W m g) {x : Str} (hx : tied m.rows x = false) :
    let H' := upd (upd (upd H g.k (.dK (dropK (tabS g.KL) (Sum.inr x)))) g.s (.dK (dropK (tabS (refs g.SL)) (Sum.inr x)))) g.e (.dK (dropK (tabS (refs g.EL)) (Sum.inr x)))
    let g' : Geo := { g with KL := dropK g.KL x, SL := g.SL.filter fun p => decide (p.1 ≠ x), EL := g.EL.filter fun p => decide (p.1 ≠ x) }
    WebAt C H' W (m.drop x) g' ∧ Mv H H' W g g' := by
  intro H' g'
  have a := t.apart
  have old : ∀ b o, H b = some o → b ≠ g.k → b ≠ g.s → b ≠ g.e → H' b = some o := fun b o hb k1 k2 k3 => by
    show upd _ _ _ b = _
    rw [upd_ne k3, upd_ne k2, upd_ne k1]
    exact hb
  have se : ∀ {L : NA} {d c : Addr} {f : Str → List Int} {kvs : List (Key × V)}, Tab H d L f → H c = some (.dK kvs) → c ≠ d → ¬ inTab d L c := fun tt hc hn => tt.kind hc hn (dk_lst _)
  have T1 := (t.st.upd_out (a := g.k) (o := .dK (dropK (tabS g.KL) (Sum.inr x))) t.k_off.s).pop x
  have T2 : Tab H' g.s (g.SL.filter fun p => decide (p.1 ≠ x)) (outN m.rows) := T1.upd_out fun z => by
    rcases z with z | z
    · exact a.se z.symm
    · exact se t.st t.en.dk a.se.symm (.inr (filt_sub z))
  have E1 := ((t.en.upd_out (a := g.k) (o := .dK (dropK (tabS g.KL) (Sum.inr x))) t.k_off.e).upd_out (a := g.s) (o := .dK (dropK (tabS (refs g.SL)) (Sum.inr x))) (se t.en t.st.dk a.se)).pop x
  refine ⟨⟨old _ _ t.ob a.Wk a.Ws a.We, ?_, ?_, old _ _ t.bk a.kb.symm a.bs a.be, t.bkR, fun q hq => old _ _ (t.bkT q hq) ?_ ?_ ?_, T2, ?_, E1, ?_,
    ⟨old _ _ t.be.dk a.kn.symm a.sn.symm a.en.symm, fun p hp => old _ _ (t.be.lst p hp) ?_ ?_ ?_, t.be.ndK, t.be.ndA⟩, t.beK, t.ds, ?_, ?_, ?_, drop_ok t.ok hx⟩, ⟨?_, ?_⟩⟩
  · show upd _ _ _ g.k = _
    rw [upd_ne a.ke, upd_ne a.ks, upd_same, dropS]
  · show (dropK g.KL x).map (·.1) = _
    rw [drop_keys, t.knK]
    rfl
  · exact ne_of (t.bkT q hq) t.kn (by intro z; cases z)
  · exact ne_of (t.bkT q hq) t.st.dk (by intro z; cases z)
  · exact ne_of (t.bkT q hq) t.en.dk (by intro z; cases z)
  · show (g.SL.filter fun p => decide (p.1 ≠ x)).map (·.1) = _
    rw [filt_keys, t.stK]
    rfl
  · show (g.EL.filter fun p => decide (p.1 ≠ x)).map (·.1) = _
    rw [filt_keys, t.enK]
    rfl
  · exact ne_of (t.be.lst p hp) t.kn (by intro z; cases z)
  · exact ne_of (t.be.lst p hp) t.st.dk (by intro z; cases z)
  · exact ne_of (t.be.lst p hp) t.en.dk (by intro z; cases z)
  · intro c hc hd
    exact t.se c (filt_sub hc) (filt_sub hd)
  · intro c hc hd
    exact t.sn c (filt_sub hc) hd
  · intro c hc hd
    exact t.en_ c (filt_sub hc) hd
  · intro c hc
    rcases hc with e | e | e | e | e | e | e
    · exact .inl (.inl e)
    · exact .inl (.inr (.inl e))
    · exact .inl (.inr (.inr (.inl e)))
    · exact .inl (.inr (.inr (.inr (.inl e))))
    · rcases e with e | e
      · exact .inl (foot_s (.inl e))
      · exact .inl (foot_s (.inr (filt_sub e)))
    · rcases e with e | e
      · exact .inl (foot_e (.inl e))
      · exact .inl (foot_e (.inr (filt_sub e)))
    · exact .inl (foot_n e)
  · intro b o hb hf
    exact old b o hb (fun e => hf (e ▸ foot_k)) (fun e => hf (e ▸ foot_s inTab_d)) (fun e => hf (e ▸ foot_e inTab_d))
def spDrop (A : Adr) : Sp := fun vs H Q E => ∃ W x m g, vs = [.ref W, .str x] ∧ WebAt A.web H W m g ∧
  (x ∉ m.things → E (.ref A.nt) none H) ∧ (x ∈ m.things → tied m.rows x = true → E (.ref A.st) none H) ∧
  (x ∈ m.things → tied m.rows x = false → ∀ g' H', WebAt A.web H' W (m.drop x) g' → Mv H H' W g g' → g'.NL = g.NL → Q .non H')
section
variable {P : Program} {w : World} {K : PySem.W.Frag} {mg : Str → Option Value} {base : Heap} {A : Adr} {f : Addr} {fd : FuncData}
theorem scDrop : FnScope ["self", "name"] ["self", "name"] (defScope sDrop) := ⟨rfl, rfl, rfl, by decide +kernel, rfl, by decide +kernel, by decide +kernel⟩
theorem ok_drop (F : FnP K "drop_thing" "Web.drop_thing" sDrop [] f fd) (T : Txt K mg A) (GA : Mth P w K mg base (L2.CX P w) 1 A.web "ask_thing" ["self", "name"] [] (spAsk A)) : FnOk P w K mg base (L2.CX P w) 2 f fd ["self", "name"] (spDrop A) := by
  obtain ⟨fA, fdA, ds, mA, vA, bA, FA⟩ := GA.ex
  refine F.ok scDrop (fun vs H Q E h => ?_) (fun cdv R outer s H vs Q E hr h => ⟨_, pss_cons
      (ps_expr (pe_meth (E := E) (pv 0) T.cl mA FA hr bA vA (passes_call (takes_of rfl rfl rfl rfl) (fun _ _ _ _ z => z)) (pa_cons (pv 1) pa_nil)))
      (pss_cons (ps_if (PW.pt (pw_or
          (pt_cmpR op_gt (pe_callB call_len_seq (by rfl) T.bLen PySem.boot_len (pa_cons (pe_dget (hu_of hr) (pe_fld (pv 0) rfl) (pv 1) (fun _ _ => rfl)) pa_nil)) pe_int (nomark _))
          (pw_or1 (pt_cmpR op_gt (pe_callB call_len_seq (by rfl) T.bLen PySem.boot_len (pa_cons (pe_dget (hu_of hr) (pe_fld (pv 0) rfl) (pv 1) (fun _ _ => rfl)) pa_nil)) pe_int (nomark _)))))
        (pss_one (ps_raise rfl (takes_of rfl rfl rfl rfl) (pmk_own PySem.F.excBase_ValueError T.st.ex T.st.g T.st.kp (raises_own T.st.sb T.st.ty) rfl))) pss_nil)
      (pss_cons (ps_expr (pe_dpop1 (pe_fld (pv 0) rfl) (pv 1) ⟨rfl, rfl, rfl, rfl⟩))
      (pss_cons (ps_expr (pe_dpop1 (pe_fld (pv 0) rfl) (pv 1) ⟨rfl, rfl, rfl, rfl⟩))
      (pss_one (ps_expr (pe_dpop1 (pe_fld (pv 0) rfl) (pv 1) ⟨rfl, rfl, rfl, rfl⟩)))))), ?_⟩)
  · obtain ⟨W, x, m, g, rfl, _⟩ := h
    rfl
  · obtain ⟨W, x, m, g, rfl, t, k1, k2, k3⟩ := h
    refine ⟨_, rfl, W, g.dx, _, rfl, t.ob, by kernel_rfl, _, rfl, W, x, m, g, rfl, t, fun h => ?_, k1⟩
    obtain ⟨aS, hS, vS, lS⟩ := t.st.at_ (x := x) (by rw [t.stK]; exact h)
    obtain ⟨aE, hE, vE, lE⟩ := t.en.at_ (x := x) (by rw [t.enK]; exact h)
    have gS : DGet H g.s (V.str x) (some (.ref aS)) := by
      rw [← vS]
      exact DGet.k (k := Sum.inr x) t.st.dk
    have gE : DGet H g.e (V.str x) (some (.ref aE)) := by
      rw [← vE]
      exact DGet.k (k := Sum.inr x) t.en.dk
    refine ⟨_, rfl, W, A.web, _, _, _, rfl, t.ob, T.cl, T.nSt, wf_starting _ _ _ _ _ _, _, rfl, _, _, rfl, gS, _, _, rfl, .inl (SqL.of lS), _, _, rfl, rfl, _, rfl, ?_⟩
    have fin : tied m.rows x = false → _ := fun ht => by
      obtain ⟨q1, q2⟩ := web_drop t ht
      exact k3 h ht _ _ q1 q2 rfl
    have e := tied_len m.rows x
    by_cases c1 : 0 < (outN m.rows x).length
    · rw [decide_eq_true c1, Bool.true_or] at e
      rw [List.length_map, decide_eq_true (by omega)]
      exact iteT (iteT (k2 h e))
    · rw [decide_eq_false c1, Bool.false_or] at e
      rw [List.length_map, decide_eq_false (by omega)]
      refine iteF ⟨_, rfl, W, A.web, _, _, _, rfl, t.ob, T.cl, T.nEn, wf_ending _ _ _ _ _ _, _, rfl, _, _, rfl, gE, _, _, rfl, .inl (SqL.of lE), _, _, rfl, rfl, _, rfl, ?_⟩
      by_cases c2 : 0 < (inN m.rows x).length
      · rw [decide_eq_true c2] at e
        rw [List.length_map, decide_eq_true (by omega)]
        exact iteT (k2 h e)
      · rw [decide_eq_false c2] at e
        rw [List.length_map, decide_eq_false (by omega)]
        have a := t.apart
        obtain ⟨vk, hvk⟩ := val_has (L := g.KL) (k := x) (by rw [t.knK]; exact h)
        rw [← valS] at hvk
        have h1 : upd H g.k (.dK (dropK (tabS g.KL) (Sum.inr x))) W = _ := (upd_ne a.Wk).trans t.ob
        have h2 : upd H g.k (.dK (dropK (tabS g.KL) (Sum.inr x))) g.s = _ := (upd_ne a.ks.symm).trans t.st.dk
        have h3 : upd (upd H g.k (.dK (dropK (tabS g.KL) (Sum.inr x)))) g.s (.dK (dropK (tabS (refs g.SL)) (Sum.inr x))) W = _ := (upd_ne a.Ws).trans h1
        have h4 : upd (upd H g.k (.dK (dropK (tabS g.KL) (Sum.inr x)))) g.s (.dK (dropK (tabS (refs g.SL)) (Sum.inr x))) g.e = _ := (upd_ne a.se.symm).trans ((upd_ne a.ke.symm).trans t.en.dk)
        refine iteF ⟨_, rfl, W, A.web, _, _, _, rfl, t.ob, T.cl, T.nKn, wf_known _ _ _ _ _ _, _, rfl, .inl ⟨_, Rd.of t.kn⟩, _, rfl, _, Sum.inr x, _, t.kn, rfl, hvk, ?_⟩
        refine ⟨_, rfl, W, A.web, _, _, _, rfl, h1, T.cl, T.nSt, wf_starting _ _ _ _ _ _, _, rfl, .inl ⟨_, Rd.of h2⟩, _, rfl, _, Sum.inr x, _, h2, rfl, vS, ?_⟩
        refine ⟨_, rfl, W, A.web, _, _, _, rfl, h3, T.cl, T.nEn, wf_ending _ _ _ _ _ _, _, rfl, .inl ⟨_, Rd.of h4⟩, _, rfl, _, Sum.inr x, _, h4, rfl, vE, ?_⟩
        exact fin e
end
end K07

set_option maxHeartbeats 4100000
namespace K07
open PySem PySem.Spec PyProof.Rows L2
theorem book_val {C : Addr} {H : Hp} {W : Addr} {m : M} {g : Geo} (t : WebAt C H W m g) {q : BE} (hq : q ∈ g.BL) : valV (tabI (bookT g.BL)) (Sum.inl q.row.num) = some (.ref q.at_) := by
  rw [valI]
  refine val_is ?_ (List.mem_map.mpr ⟨q, hq, rfl⟩)
  have e : (bookT g.BL).map (·.1) = m.rows.map (·.num) := by
    rw [← t.bkR]
    unfold bookT
    rw [List.map_map]; rw [List.map_map]
    rfl
  rw [e]
  exact t.ok.up.imp fun h => Int.ne_of_lt h
section
variable {P : Program} {w : World} {K : PySem.W.Frag} {mg : Str → Option Value} {base : Heap} {A : Adr} {f : Addr} {fd : FuncData}
theorem scRow : FnScope ["self", "number"] ["self", "number"] (defScope sRow) := ⟨rfl, rfl, rfl, by decide +kernel, rfl, by decide +kernel, by decide +kernel⟩
theorem ok_row (F : FnP K "tie" "Web.tie" sRow [] f fd) (T : Txt K mg A) : FnOk P w K mg base CX0 1 f fd ["self", "number"] (spRow A) := by
  refine F.ok scRow (fun vs H Q E h => ?_) (fun cdv R outer s H vs Q E hr h => ⟨_, PSs.nox (pss_cons
      (ps_if (pt_cmp (pc_dnotin (hu_of hr) (pv 1) (pe_fld (pv 0) rfl)) rfl) (pss_one ps_never) pss_nil)
      (pss_one (ps_ret (pe_dget (hu_of hr) (pe_fld (pv 0) rfl) (pv 1) (fun _ _ => rfl))))), ?_⟩)
  · obtain ⟨W, m, g, q, rfl, _⟩ := h
    rfl
  · obtain ⟨W, m, g, q, rfl, t, hq, k⟩ := h
    have v := book_val t hq
    have gB : DGet H g.b (V.int q.row.num) (some (.ref q.at_)) := by
      rw [← v]
      exact DGet.k (k := Sum.inl q.row.num) t.bk
    refine ⟨_, rfl, _, rfl, W, A.web, _, _, _, rfl, t.ob, T.cl, T.nBk, wf_book _ _ _ _ _ _, _, _, rfl, gB, _, rfl, ?_⟩
    exact iteF ⟨_, rfl, W, A.web, _, _, _, rfl, t.ob, T.cl, T.nBk, wf_book _ _ _ _ _ _, _, rfl, _, _, rfl, gB, k⟩
theorem scOut : FnScope ["self", "name"] ["self", "name"] (defScope sOut) := ⟨rfl, rfl, rfl, by decide +kernel, rfl, by decide +kernel, by decide +kernel⟩
theorem ok_out (F : FnP K "out_of" "Web.out_of" sOut [] f fd) (T : Txt K mg A) (GA : Mth P w K mg base (L2.CX P w) 1 A.web "ask_thing" ["self", "name"] [] (spAsk A)) : FnOk P w K mg base (L2.CX P w) 2 f fd ["self", "name"] (spList A outN) := by
  obtain ⟨fA, fdA, ds, mA, vA, bA, FA⟩ := GA.ex
  refine F.ok scOut (fun vs H Q E h => ?_) (fun cdv R outer s H vs Q E hr h => ⟨_, pss_cons
      (ps_expr (pe_meth (E := E) (pv 0) T.cl mA FA hr bA vA (passes_call (takes_of rfl rfl rfl rfl) (fun _ _ _ _ z => z)) (pa_cons (pv 1) pa_nil)))
      (pss_one (ps_ret (pe_callTy call_list_of (by rfl) T.bList (by decide +kernel) (pa_cons (pe_dget (hu_of hr) (pe_fld (pv 0) rfl) (pv 1) (fun _ _ => rfl)) pa_nil)))), ?_⟩)
  · obtain ⟨W, x, m, g, rfl, _⟩ := h
    rfl
  · obtain ⟨W, x, m, g, rfl, t, k1, k2⟩ := h
    refine ⟨_, rfl, W, g.dx, _, rfl, t.ob, by kernel_rfl, _, rfl, W, x, m, g, rfl, t, fun h => ?_, k2⟩
    obtain ⟨aS, hS, vS, lS⟩ := t.st.at_ (x := x) (by rw [t.stK]; exact h)
    have gS : DGet H g.s (V.str x) (some (.ref aS)) := by
      rw [← vS]
      exact DGet.k (k := Sum.inr x) t.st.dk
    exact ⟨_, rfl, W, A.web, _, _, _, rfl, t.ob, T.cl, T.nSt, wf_starting _ _ _ _ _ _, _, rfl, _, _, rfl, gS, _, _, rfl, .inl (SqL.of lS), fun p hp => k1 h p hp⟩
theorem scInto : FnScope ["self", "name"] ["self", "name"] (defScope sInto) := ⟨rfl, rfl, rfl, by decide +kernel, rfl, by decide +kernel, by decide +kernel⟩
theorem ok_into (F : FnP K "into" "Web.into" sInto [] f fd) (T : Txt K mg A) (GA : Mth P w K mg base (L2.CX P w) 1 A.web "ask_thing" ["self", "name"] [] (spAsk A)) : FnOk P w K mg base (L2.CX P w) 2 f fd ["self", "name"] (spList A inN) := by
  obtain ⟨fA, fdA, ds, mA, vA, bA, FA⟩ := GA.ex
  refine F.ok scInto (fun vs H Q E h => ?_) (fun cdv R outer s H vs Q E hr h => ⟨_, pss_cons
      (ps_expr (pe_meth (E := E) (pv 0) T.cl mA FA hr bA vA (passes_call (takes_of rfl rfl rfl rfl) (fun _ _ _ _ z => z)) (pa_cons (pv 1) pa_nil)))
      (pss_one (ps_ret (pe_callTy call_list_of (by rfl) T.bList (by decide +kernel) (pa_cons (pe_dget (hu_of hr) (pe_fld (pv 0) rfl) (pv 1) (fun _ _ => rfl)) pa_nil)))), ?_⟩)
  · obtain ⟨W, x, m, g, rfl, _⟩ := h
    rfl
  · obtain ⟨W, x, m, g, rfl, t, k1, k2⟩ := h
    refine ⟨_, rfl, W, g.dx, _, rfl, t.ob, by kernel_rfl, _, rfl, W, x, m, g, rfl, t, fun h => ?_, k2⟩
    obtain ⟨aS, hS, vS, lS⟩ := t.en.at_ (x := x) (by rw [t.enK]; exact h)
    have gS : DGet H g.e (V.str x) (some (.ref aS)) := by
      rw [← vS]
      exact DGet.k (k := Sum.inr x) t.en.dk
    exact ⟨_, rfl, W, A.web, _, _, _, rfl, t.ob, T.cl, T.nEn, wf_ending _ _ _ _ _ _, _, rfl, _, _, rfl, gS, _, _, rfl, .inl (SqL.of lS), fun p hp => k1 h p hp⟩
theorem name_none {C : Addr} {H : Hp} {W : Addr} {m : M} {g : Geo} (t : WebAt C H W m g) {x : Str} (h : x ∉ g.NL.map (·.1)) : nameN m.rows x = [] := by
  unfold nameN
  rw [List.filter_eq_nil_iff.mpr (fun r hr => by
    simp only [decide_eq_true_eq]
    intro e
    exact h (e ▸ t.beK r hr))]
  rfl
theorem scNamed : FnScope ["self", "name"] ["self", "name"] (defScope sNamed) := ⟨rfl, rfl, rfl, by decide +kernel, rfl, by decide +kernel, by decide +kernel⟩
theorem ok_named (F : FnP K "named" "Web.named" sNamed [] f fd) (T : Txt K mg A) : FnOk P w K mg base CX0 1 f fd ["self", "name"] (spNamed A) := by
  refine F.ok scNamed (fun vs H Q E h => ?_) (fun cdv R outer s H vs Q E hr h => ⟨_, PSs.nox (pss_one
      (ps_ret (pe_callTy call_list_of (by rfl) T.bList (by decide +kernel) (pa_cons (pe_dget2 (hu_of hr) (pe_fld (pv 0) rfl) (pv 1) (pe_lst pa_nil) ⟨rfl, rfl, rfl, rfl⟩) pa_nil)))), ?_⟩)
  · obtain ⟨W, x, m, g, rfl, _⟩ := h
    rfl
  · obtain ⟨W, x, m, g, rfl, t, k⟩ := h
    refine ⟨_, rfl, W, A.web, _, _, _, rfl, t.ob, T.cl, T.nBe, wf_bearing _ _ _ _ _ _, _, rfl, .inl ⟨_, Rd.of t.be.dk⟩, _, rfl, Nat.zero_le _, fun l hl => ?_⟩
    have dn := (same_new (o := .lst []) hl) _ _ t.be.dk
    refine ⟨_, DGet.k (k := Sum.inr x) dn, ?_⟩
    by_cases h : x ∈ g.NL.map (·.1)
    · obtain ⟨aS, hS, vS, lS⟩ := t.be.at_ h
      rw [vS]
      refine ⟨_, _, rfl, .inl (SqL.of (same_new (o := .lst []) hl _ _ lS)), fun p hp => ?_⟩
      exact k p _ (fun b o e => same_new hp b o (same_new hl b o e)) (upd_none hp).2 upd_same
    · rw [t.be.not_ h]
      refine ⟨_, _, rfl, .inl (SqL.of upd_same), fun p hp => ?_⟩
      refine k p _ (fun b o e => same_new hp b o (same_new hl b o e)) (upd_none hp).2 ?_
      rw [upd_same, name_none t h]
      rfl
end
end K07

set_option maxHeartbeats 4100000
namespace K07
open PySem PySem.Spec PyProof.Rows L2
def M.tie (m : M) (s n e : Str) : M := ⟨m.things, m.rows ++ [⟨m.coming, s, n, e⟩], m.coming + 1⟩
theorem out_snoc (rows : List Row) (r : Row) (y : Str) : outN (rows ++ [r]) y = if y = r.st then outN rows r.st ++ [r.num] else outN rows y := by
  unfold outN
  rw [List.filter_append, List.map_append]
  by_cases h : y = r.st
  · subst h
    rw [if_pos rfl, List.filter_cons, if_pos (by simp)]
    rfl
  · rw [if_neg h, List.filter_cons, if_neg (by simpa using fun q => h q.symm)]
    simp
theorem in_snoc (rows : List Row) (r : Row) (y : Str) : inN (rows ++ [r]) y = if y = r.en then inN rows r.en ++ [r.num] else inN rows y := by
  unfold inN
  rw [List.filter_append, List.map_append]
  by_cases h : y = r.en
  · subst h
    rw [if_pos rfl, List.filter_cons, if_pos (by simp)]
    rfl
  · rw [if_neg h, List.filter_cons, if_neg (by simpa using fun q => h q.symm)]
    simp
theorem name_snoc (rows : List Row) (r : Row) (y : Str) : nameN (rows ++ [r]) y = if y = r.nm then nameN rows r.nm ++ [r.num] else nameN rows y := by
  unfold nameN
  rw [List.filter_append, List.map_append]
  by_cases h : y = r.nm
  · subst h
    rw [if_pos rfl, List.filter_cons, if_pos (by simp)]
    rfl
  · rw [if_neg h, List.filter_cons, if_neg (by simpa using fun q => h q.symm)]
    simp
theorem tie_ok {m : M} {s n e : Str} (o : MOk m) (hs : s ∈ m.things) (he : e ∈ m.things) : MOk (m.tie s n e) := by
  refine ⟨o.nd, ?_, fun r hr => ?_, fun r hr => ?_⟩
  · show ((m.rows ++ [(⟨m.coming, s, n, e⟩ : Row)]).map (·.num)).Pairwise (· < ·)
    rw [List.map_append, List.pairwise_append]
    refine ⟨o.up, by simp, fun a ha b hb => ?_⟩
    obtain ⟨r, hr, rfl⟩ := List.mem_map.mp ha
    have e : b = m.coming := by simpa using hb
    rw [e]
    exact o.low r hr
  · show r.num < m.coming + 1
    rcases List.mem_append.mp (hr) with h | h
    · have := o.low r h
      omega
    · have e : r = ⟨m.coming, s, n, e⟩ := by simpa using h
      rw [e]
      show m.coming < m.coming + 1
      omega
  · rcases List.mem_append.mp (hr) with h | h
    · exact o.ends r h
    · have q : r = ⟨m.coming, s, n, e⟩ := by simpa using h
      rw [q]
      exact ⟨hs, he⟩
theorem web_tie {C : Addr} {H H' : Hp} {W : Addr} {m : M} {g : Geo} (t : WebAt C H W m g) {s n e : Str} {wt : Int} (hs : s ∈ m.things) (he : e ∈ m.things) {tp aS aE : Addr} {NL' : NA} (htp : H tp = none) (hS : (s, aS) ∈ g.SL) (hE : (e, aE) ∈ g.EL)
    (hold : ∀ b o, H b = some o → b ≠ W → b ≠ g.b → b ≠ aS → b ≠ aE → ¬ inTab g.n g.NL b → H' b = some o)
    (hW : H' W = some (.ins C g.dx (wf g.k g.b g.s g.e g.n (m.coming + 1)))) (hb : H' g.b = some (.dK (putK (tabI (bookT g.BL)) (Sum.inl m.coming) (.ref tp))))
    (ht : H' tp = some (.tup [.str s, .str n, .str e, .int wt])) (hTS : Tab H' g.s g.SL (outN (m.tie s n e).rows)) (hTE : Tab H' g.e g.EL (inN (m.tie s n e).rows)) (hTN : Tab H' g.n NL' (nameN (m.tie s n e).rows))
    (hN : ∀ a ∈ NL'.map (·.2), a ∈ g.NL.map (·.2) ∨ H a = none) (hK : ∀ y, y ∈ g.NL.map (·.1) → y ∈ NL'.map (·.1)) (hn : n ∈ NL'.map (·.1)) :
    let g' : Geo := { g with BL := g.BL ++ [⟨⟨m.coming, s, n, e⟩, wt, tp⟩], NL := NL' }
    WebAt C H' W (m.tie s n e) g' ∧ Mv H H' W g g' := by
  intro g'
  have a := t.apart
  have dS : ∀ {b kvs}, H b = some (.dK kvs) → b ≠ aS := fun h => ne_of h (t.st.lst _ hS) (by intro q; cases q)
  have dE : ∀ {b kvs}, H b = some (.dK kvs) → b ≠ aE := fun h => ne_of h (t.en.lst _ hE) (by intro q; cases q)
  refine ⟨⟨hW, hold _ _ t.kn a.Wk.symm a.kb (dS t.kn) (dE t.kn) t.k_off.n, t.knK, ?_, ?_, fun q hq => ?_, hTS, t.stK, hTE, t.enK, hTN, fun r hr => ?_, t.ds, t.se, fun c hc hd => ?_, fun c hc hd => ?_, tie_ok t.ok hs he⟩, ⟨fun c hc => ?_, fun b o hbo hf => ?_⟩⟩
  · rw [hb, putI, put_new]
    · unfold bookT
      rw [List.map_append]
      rfl
    · intro hm
      have e1 : (bookT g.BL).map (·.1) = m.rows.map (·.num) := by
        rw [← t.bkR]
        unfold bookT
        rw [List.map_map]; rw [List.map_map]
        rfl
      rw [e1] at hm
      obtain ⟨r, hr, e2⟩ := List.mem_map.mp hm
      have := t.ok.low r hr
      omega
  · show (g.BL ++ [(⟨⟨m.coming, s, n, e⟩, wt, tp⟩ : BE)]).map (·.row) = m.rows ++ [⟨m.coming, s, n, e⟩]
    rw [List.map_append, t.bkR]
    rfl
  · rcases List.mem_append.mp (hq) with h | h
    · have hT := t.bkT q h
      exact hold _ _ hT (ne_of hT t.ob (by intro z; cases z)) (ne_of hT t.bk (by intro z; cases z)) (ne_of hT (t.st.lst _ hS) (by intro z; cases z)) (ne_of hT (t.en.lst _ hE) (by intro z; cases z)) (t.tup_off hT).n
    · have q1 : q = ⟨⟨m.coming, s, n, e⟩, wt, tp⟩ := by simpa using h
      rw [q1]
      exact ht
  · rcases List.mem_append.mp (hr) with h | h
    · exact hK _ (t.beK r h)
    · have q : r = ⟨m.coming, s, n, e⟩ := by simpa using h
      rw [q]
      exact hn
  · rcases hN c hd with h | h
    · exact t.sn c hc h
    · exact t.st.fresh h (.inr hc)
  · rcases hN c hd with h | h
    · exact t.en_ c hc h
    · exact t.en.fresh h (.inr hc)
  · rcases hc with e | e | e | e | e | e | e
    · exact .inl (.inl e)
    · exact .inl (.inr (.inl e))
    · exact .inl (.inr (.inr (.inl e)))
    · have e : c ∈ (g.BL ++ [(⟨⟨m.coming, s, n, _⟩, wt, tp⟩ : BE)]).map (·.at_) := e
      rw [List.map_append] at e
      rcases List.mem_append.mp e with e | e
      · exact .inl (.inr (.inr (.inr (.inl e))))
      · have q : c = tp := by simpa using e
        exact .inr (by rw [q]; exact htp)
    · exact .inl (foot_s e)
    · exact .inl (foot_e e)
    · rcases e with e | e
      · exact .inl (foot_n (.inl e))
      · rcases hN c e with h | h
        · exact .inl (foot_n (.inr h))
        · exact .inr h
  · exact hold b o hbo (fun e => hf (.inl e)) (fun e => hf (e ▸ foot_b)) (fun e => hf (e ▸ foot_s (inTab_a hS))) (fun e => hf (e ▸ foot_e (inTab_a hE))) (fun e => hf (foot_n e))
end K07

set_option maxHeartbeats 4100000
namespace K07
open PySem PySem.Spec PyProof.Rows L2
def spTie (A : Adr) : Sp := fun vs H Q E => ∃ W s n e wt m g, vs = [.ref W, .str s, .str n, .str e, .int wt] ∧ WebAt A.web H W m g ∧ Good n ∧ -(10 ^ 60) < wt ∧ wt < 10 ^ 60 ∧ m.rows.length < 400 ∧ g.NL.length < 1000 ∧
  (s ∉ m.things ∨ e ∉ m.things → E (.ref A.nt) none H) ∧
  (s ∈ m.things → e ∈ m.things → ∀ g' H', WebAt A.web H' W (m.tie s n e) g' → Mv H H' W g g' → g'.NL.length ≤ g.NL.length + 1 → Q (.int m.coming) H')
theorem refs_len (L : NA) : (tabS (refs L)).length = L.length := by rw [lenS]; unfold refs; rw [List.length_map]
theorem out_len (rows : List Row) (x : Str) : ((outN rows x).map V.int).length ≤ rows.length := by
  unfold outN
  rw [List.length_map, List.length_map]
  exact List.length_filter_le _ _
theorem in_len (rows : List Row) (x : Str) : ((inN rows x).map V.int).length ≤ rows.length := by
  unfold inN
  rw [List.length_map, List.length_map]
  exact List.length_filter_le _ _
theorem name_len (rows : List Row) (x : Str) : ((nameN rows x).map V.int).length ≤ rows.length := by
  unfold nameN
  rw [List.length_map, List.length_map]
  exact List.length_filter_le _ _
section
variable {P : Program} {w : World} {K : PySem.W.Frag} {mg : Str → Option Value} {base : Heap} {A : Adr} {f : Addr} {fd : FuncData}
theorem scTie : FnScope ["self", "start", "name", "end", "weight", "number"] ["self", "start", "name", "end", "weight"] (defScope sTie) := ⟨rfl, rfl, rfl, by decide +kernel, rfl, by decide +kernel, by decide +kernel⟩
theorem ok_tie {dvs : List V} (F : FnP K "add_tie" "Web.add_tie" sTie dvs f fd) (T : Txt K mg A) (GA : Mth P w K mg base (L2.CX P w) 1 A.web "ask_thing" ["self", "name"] [] (spAsk A)) (GG : Def P w K mg base CX0 1 "good_name" ["text"] spGood) (GS : Def P w K mg base CX0 1 "small_number" ["number"] spSmall) :
    FnOk P w K mg base (L2.CX P w) 2 f fd ["self", "start", "name", "end", "weight"] (spTie A) := by
  obtain ⟨fA, fdA, ds, mA, vA, bA, FA⟩ := GA.ex
  obtain ⟨fG, fdG, gG, kG, bG, FG⟩ := GG
  obtain ⟨fS, fdS, gS, kS, bS, FS⟩ := GS
  obtain ⟨t1, m1⟩ := T.mTi
  refine F.ok scTie (fun vs H Q E h => ?_) (fun cdv R outer s₀ H vs Q E hr h => ⟨_, pss_cons
      (ps_expr (pe_meth (E := E) (pv 0) T.cl mA FA hr bA vA (passes_call (takes_of rfl rfl rfl rfl) (fun _ _ _ _ z => z)) (pa_cons (pv 1) pa_nil)))
      (pss_cons (ps_expr (pe_meth (E := E) (pv 0) T.cl mA FA hr bA vA (passes_call (takes_of rfl rfl rfl rfl) (fun _ _ _ _ z => z)) (pa_cons (pv 3) pa_nil)))
      (pss_cons (ps_if (pt_not (pt_val (pe_call FG hr rfl gG kG bG .nil pass0 (pa_cons (pv 2) pa_nil)))) (pss_one ps_never) pss_nil)
      (pss_cons (ps_if (pt_not (pt_val (pe_call FS hr rfl gS kS bS .nil pass0 (pa_cons (pv 4) pa_nil)))) (pss_one ps_never) pss_nil)
      (pss_cons (ps_if (pt_cmpR op_ge (pe_callB call_lenD (by rfl) T.bLen PySem.boot_len (pa_cons (pe_fld (pv 0) rfl) pa_nil)) (pe_glob (v := .int 400) rfl m1 ⟨_, rfl⟩) (nomark _)) (pss_one ps_never) pss_nil)
      (pss_cons (ps_set (i := 5) scTie.nd rfl (.inl rfl) (pe_fld (pv 0) rfl))
      (pss_cons (ps_fld (pv 0) (pe_op op_add (pv 5) pe_int) rfl)
      (pss_cons (ps_dput (hu_of hr) (pe_fld (pv 0) rfl) (pv 5) (pe_tup (pa_cons (pv 1) (pa_cons (pv 2) (pa_cons (pv 3) (pa_cons (pv 4) pa_nil))))) rfl)
      (pss_cons (ps_expr (pe_bm PySem.F.plainAttrs_list PySem.F.slot_list_append PySem.F.type_list_append mt_append (pe_dget (hu_of hr) (pe_fld (pv 0) rfl) (pv 1) (fun _ _ => rfl)) (pa_cons (pv 5) pa_nil)))
      (pss_cons (ps_expr (pe_bm PySem.F.plainAttrs_list PySem.F.slot_list_append PySem.F.type_list_append mt_append (pe_dget (hu_of hr) (pe_fld (pv 0) rfl) (pv 3) (fun _ _ => rfl)) (pa_cons (pv 5) pa_nil)))
      (pss_cons (ps_if (pt_cmp (pc_dnotin (hu_of hr) (pv 2) (pe_fld (pv 0) rfl)) rfl) (pss_one (ps_dput (hu_of hr) (pe_fld (pv 0) rfl) (pv 2) (pe_lst pa_nil) rfl)) pss_nil)
      (pss_cons (ps_expr (pe_bm PySem.F.plainAttrs_list PySem.F.slot_list_append PySem.F.type_list_append mt_append (pe_dget (hu_of hr) (pe_fld (pv 0) rfl) (pv 2) (fun _ _ => rfl)) (pa_cons (pv 5) pa_nil)))
      (pss_one (ps_ret (pv 5)))))))))))))), ?_⟩)
  · obtain ⟨W, s, n, e, wt, m, g, rfl, _⟩ := h
    rfl
  · obtain ⟨W, s, n, e, wt, m, g, rfl, t, hg, w1, w2, hm, hnl, k1, k2⟩ := h
    have a := t.apart
    have hsz : (sizeLine : Nat) = 16777216 := sizeLine_eq
    refine ⟨_, rfl, W, g.dx, _, rfl, t.ob, by kernel_rfl, _, rfl, W, s, m, g, rfl, t, fun hs => ?_, fun hs => k1 (.inl hs)⟩
    refine ⟨_, rfl, W, g.dx, _, rfl, t.ob, by kernel_rfl, _, rfl, W, e, m, g, rfl, t, fun he => ?_, fun he => k1 (.inr he)⟩
    refine ⟨_, rfl, n, rfl, hg, _, rfl, iteF ?_⟩
    refine ⟨_, rfl, wt, rfl, w1, w2, _, rfl, iteF ?_⟩
    have hbl : (tabI (bookT g.BL)).length = m.rows.length := by rw [lenI]; unfold bookT; rw [List.length_map, rows_len t]
    refine ⟨_, rfl, W, A.web, _, _, _, rfl, t.ob, T.cl, T.nBk, wf_book _ _ _ _ _ _, _, _, rfl, t.bk, _, _, rfl, rfl, _, rfl, ?_⟩
    rw [hbl, decide_eq_false (by omega)]
    refine iteF ⟨_, rfl, W, A.web, _, _, _, rfl, t.ob, T.cl, T.nCo, wf_coming _ _ _ _ _ _, ?_⟩
    refine ⟨_, rfl, _, _, rfl, rfl, _, rfl, W, A.web, _, _, rfl, t.ob, T.cl, T.nCo, (by rw [wf_len]; omega), ?_⟩
    rw [wf_put]
    -- behind the count
    refine ⟨_, rfl, _, rfl, _, rfl, _, rfl, (by show 4 ≤ sizeLine; omega), fun tp htp => ?_⟩
    obtain ⟨ntW, ht0⟩ := upd_none htp
    have nt : ∀ {b o}, H b = some o → b ≠ tp := fun hb => ne_of_none hb ht0
    refine ⟨_, rfl, W, A.web, _, _, _, rfl, (upd_ne ntW.symm).trans upd_same, T.cl, T.nBk, wf_book _ _ _ _ _ _, _, rfl, _, _, rfl,
      DPut.k (k := Sum.inl m.coming) ((upd_ne (nt t.bk)).trans ((upd_ne a.Wb.symm).trans t.bk)) (by rw [hbl]; omega), ?_⟩
    obtain ⟨aS, hS, vS, lS⟩ := t.st.at_ (x := s) (by rw [t.stK]; exact hs)
    obtain ⟨aE, hE, vE, lE⟩ := t.en.at_ (x := e) (by rw [t.enK]; exact he)
    generalize e3 : upd (upd (upd H W (HO.ins A.web g.dx (wf g.k g.b g.s g.e g.n (m.coming + 1)))) tp (HO.tup [V.str s, V.str n, V.str e, V.int wt])) g.b (HO.dK (putK (tabI (bookT g.BL)) (Sum.inl m.coming) (V.ref tp))) = H3
    have o3 : ∀ b o, H b = some o → b ≠ W → b ≠ g.b → H3 b = some o := fun b o hb h1 h2 => by
      rw [← e3, upd_ne h2, upd_ne (nt hb), upd_ne h1]
      exact hb
    have W3 : H3 W = some (.ins A.web g.dx (wf g.k g.b g.s g.e g.n (m.coming + 1))) := by rw [← e3, upd_ne a.Wb, upd_ne ntW.symm, upd_same]
    have b3 : H3 g.b = some (.dK (putK (tabI (bookT g.BL)) (Sum.inl m.coming) (.ref tp))) := by rw [← e3, upd_same]
    have t3 : H3 tp = some (.tup [.str s, .str n, .str e, .int wt]) := by rw [← e3, upd_ne (nt t.bk).symm, upd_same]
    have TS3 : Tab H3 g.s g.SL (outN m.rows) := by
      rw [← e3]
      exact ((t.st.upd_out t.W_off.s).upd_out (t.new_off ht0).s).upd_out t.b_off.s
    have TE3 : Tab H3 g.e g.EL (inN m.rows) := by
      rw [← e3]
      exact ((t.en.upd_out t.W_off.e).upd_out (t.new_off ht0).e).upd_out t.b_off.e
    have TN3 : Tab H3 g.n g.NL (nameN m.rows) := by
      rw [← e3]
      exact ((t.be.upd_out t.W_off.n).upd_out (t.new_off ht0).n).upd_out t.b_off.n
    have gS : DGet H3 g.s (V.str s) (some (.ref aS)) := by
      rw [← vS]
      exact DGet.k (k := Sum.inr s) TS3.dk
    have lS3 : H3 aS = some (.lst ((outN m.rows s).map V.int)) := TS3.lst _ hS
    refine ⟨_, rfl, W, A.web, _, _, _, rfl, W3, T.cl, T.nSt, wf_starting _ _ _ _ _ _, _, rfl, _, _, rfl, gS, .inl ⟨rfl, _, SqL.of lS3⟩, _, rfl, _, _, _, rfl, rfl, lS3, (by have := out_len m.rows s; omega), ?_⟩
    have seS : aS ∈ g.SL.map (·.2) := List.mem_map.mpr ⟨_, hS, rfl⟩
    have seE : aE ∈ g.EL.map (·.2) := List.mem_map.mpr ⟨_, hE, rfl⟩
    have xE : ¬ inTab g.e g.EL aS := fun z => by
      rcases z with z | z
      · exact ne_of (t.st.lst _ hS) t.en.dk (by intro q; cases q) z
      · exact t.se _ seS z
    have xS : ¬ inTab g.s g.SL aE := fun z => by
      rcases z with z | z
      · exact ne_of (t.en.lst _ hE) t.st.dk (by intro q; cases q) z
      · exact t.se _ z seE
    have xNS : ¬ inTab g.n g.NL aS := fun z => by
      rcases z with z | z
      · exact ne_of (t.st.lst _ hS) t.be.dk (by intro q; cases q) z
      · exact t.sn _ seS z
    have xNE : ¬ inTab g.n g.NL aE := fun z => by
      rcases z with z | z
      · exact ne_of (t.en.lst _ hE) t.be.dk (by intro q; cases q) z
      · exact t.en_ _ seE z
    have TS4 := TS3.set hS (outN m.rows s ++ [m.coming])
    have TE4 := TE3.upd_out (o := .lst ((outN m.rows s ++ [m.coming]).map V.int)) xE
    have eS : (outN m.rows s).map V.int ++ [V.int m.coming] = (outN m.rows s ++ [m.coming]).map V.int := by rw [List.map_append]; rfl
    have eE : (inN m.rows e).map V.int ++ [V.int m.coming] = (inN m.rows e ++ [m.coming]).map V.int := by rw [List.map_append]; rfl
    have eN : (nameN m.rows n).map V.int ++ [V.int m.coming] = (nameN m.rows n ++ [m.coming]).map V.int := by rw [List.map_append]; rfl
    have z1 : ∀ {b o}, H3 b = some o → (∀ xs, o ≠ .lst xs) → b ≠ aS := fun hb hl z => hl _ (by rw [z, lS3] at hb; exact (Option.some.inj hb).symm)
    have gE : DGet (upd H3 aS (.lst ((outN m.rows s ++ [m.coming]).map V.int))) g.e (V.str e) (some (.ref aE)) := by
      rw [← vE]
      exact DGet.k (k := Sum.inr e) TE4.dk
    have lE4 : upd H3 aS (.lst ((outN m.rows s ++ [m.coming]).map V.int)) aE = some (.lst ((inN m.rows e).map V.int)) := TE4.lst _ hE
    have W4 : upd H3 aS (.lst ((outN m.rows s ++ [m.coming]).map V.int)) W = _ := (upd_ne (z1 W3 (ins_lst _ _ _))).trans W3
    rw [eS]
    refine ⟨_, rfl, W, A.web, _, _, _, rfl, W4, T.cl, T.nEn, wf_ending _ _ _ _ _ _, _, rfl, _, _, rfl, gE, .inl ⟨rfl, _, SqL.of lE4⟩, _, rfl, _, _, _, rfl, rfl, lE4, (by have := in_len m.rows e; omega), ?_⟩
    rw [eE]
    have z2 : ∀ {b o}, H3 b = some o → (∀ xs, o ≠ .lst xs) → b ≠ aE := fun hb hl z => hl _ (by rw [z, TE3.lst _ hE] at hb; exact (Option.some.inj hb).symm)
    generalize e5 : upd (upd H3 aS (.lst ((outN m.rows s ++ [m.coming]).map V.int))) aE (.lst ((inN m.rows e ++ [m.coming]).map V.int)) = H5
    have o5 : ∀ b o, H3 b = some o → b ≠ aS → b ≠ aE → H5 b = some o := fun b o hb h1 h2 => by
      rw [← e5, upd_ne h2, upd_ne h1]
      exact hb
    have W5 := o5 _ _ W3 (z1 W3 (ins_lst _ _ _)) (z2 W3 (ins_lst _ _ _))
    have b5 := o5 _ _ b3 (z1 b3 (dk_lst _)) (z2 b3 (dk_lst _))
    have t5 := o5 _ _ t3 (z1 t3 (tup_lst _)) (z2 t3 (tup_lst _))
    have TS5 : Tab H5 g.s g.SL (outN (m.tie s n e).rows) := by
      rw [← e5]
      exact (TS4.upd_out xS).cong fun p _ => (out_snoc m.rows ⟨m.coming, s, n, e⟩ p.1).symm
    have TE5 : Tab H5 g.e g.EL (inN (m.tie s n e).rows) := by
      rw [← e5]
      exact (TE4.set hE (inN m.rows e ++ [m.coming])).cong fun p _ => (in_snoc m.rows ⟨m.coming, s, n, e⟩ p.1).symm
    have TN5 : Tab H5 g.n g.NL (nameN m.rows) := by
      rw [← e5]
      exact (TN3.upd_out xNS).upd_out xNE
    have nS5 : ∀ {b}, inTab g.n g.NL b → ¬ inTab g.s g.SL b ∧ ¬ inTab g.e g.EL b ∧ b ≠ W ∧ b ≠ g.b ∧ b ≠ tp := fun {b} hb => by
      refine ⟨fun z => ?_, fun z => ?_, fun z => t.W_off.n (z ▸ hb), fun z => t.b_off.n (z ▸ hb), fun z => t.be.fresh ht0 (z ▸ hb)⟩
      · rcases hb with hb | hb <;> rcases z with z | z
        · exact a.sn (z.symm.trans hb)
        · exact t.st.kind t.be.dk a.sn.symm (dk_lst _) (.inr (hb ▸ z))
        · exact t.be.kind t.st.dk a.sn (dk_lst _) (.inr (z ▸ hb))
        · exact t.sn _ z hb
      · rcases hb with hb | hb <;> rcases z with z | z
        · exact a.en (z.symm.trans hb)
        · exact t.en.kind t.be.dk a.en.symm (dk_lst _) (.inr (hb ▸ z))
        · exact t.be.kind t.en.dk a.en (dk_lst _) (.inr (z ▸ hb))
        · exact t.en_ _ z hb
    by_cases hn : n ∈ g.NL.map (·.1)
    · obtain ⟨aN, hN, vN, lN⟩ := TN5.at_ hn
      have gN : DGet H5 g.n (V.str n) (some (.ref aN)) := by
        rw [← vN]
        exact DGet.k (k := Sum.inr n) TN5.dk
      refine ⟨_, rfl, _, rfl, W, A.web, _, _, _, rfl, W5, T.cl, T.nBe, wf_bearing _ _ _ _ _ _, _, _, rfl, gN, _, rfl, iteF ?_⟩
      refine ⟨_, rfl, W, A.web, _, _, _, rfl, W5, T.cl, T.nBe, wf_bearing _ _ _ _ _ _, _, rfl, _, _, rfl, gN, .inl ⟨rfl, _, SqL.of lN⟩, _, rfl, _, _, _, rfl, rfl, lN, (by have := name_len m.rows n; omega), ?_⟩
      rw [eN]
      refine ⟨_, rfl, ?_⟩
      obtain ⟨y1, y2, y3, y4, y5⟩ := nS5 (.inr (List.mem_map.mpr ⟨_, hN, rfl⟩) : inTab g.n g.NL aN)
      obtain ⟨q1, q2⟩ := web_tie (H' := upd H5 aN (.lst ((nameN m.rows n ++ [m.coming]).map V.int))) (NL' := g.NL) (wt := wt) t hs he ht0 hS hE
        (fun b o hb h1 h2 h3 h4 h5 => by rw [upd_ne (fun z : b = aN => h5 (by rw [z]; exact inTab_a hN))]; exact o5 b o (o3 b o hb h1 h2) h3 h4)
        ((upd_ne y3.symm).trans W5) ((upd_ne y4.symm).trans b5) ((upd_ne y5.symm).trans t5) (TS5.upd_out y1) (TE5.upd_out y2)
        ((TN5.set hN (nameN m.rows n ++ [m.coming])).cong fun p _ => (name_snoc m.rows ⟨m.coming, s, n, e⟩ p.1).symm) (fun _ hc => .inl hc) (fun _ hy => hy) hn
      exact k2 hs he _ _ q1 q2 (Nat.le_succ _)
    · have gN : DGet H5 g.n (V.str n) none := by
        rw [← TN5.not_ hn]
        exact DGet.k (k := Sum.inr n) TN5.dk
      refine ⟨_, rfl, _, rfl, W, A.web, _, _, _, rfl, W5, T.cl, T.nBe, wf_bearing _ _ _ _ _ _, _, _, rfl, gN, _, rfl, iteT ?_⟩
      refine ⟨Nat.zero_le _, fun l hl => ?_⟩
      have W6 := same_new (o := .lst []) hl _ _ W5
      have n6 := same_new (o := .lst []) hl _ _ TN5.dk
      refine ⟨_, rfl, W, A.web, _, _, _, rfl, W6, T.cl, T.nBe, wf_bearing _ _ _ _ _ _, _, rfl, _, _, rfl, DPut.k (k := Sum.inr n) n6 (by rw [refs_len]; omega), ?_⟩
      have TN7 := TN5.put hl hn (name_none t hn)
      have W7 : upd (upd H5 l (.lst [])) g.n (.dK (putK (tabS (refs g.NL)) (Sum.inr n) (.ref l))) W = _ := (upd_ne a.Wn).trans W6
      have hN : (n, l) ∈ g.NL ++ [(n, l)] := List.mem_append_right _ (by simp)
      have hn7 : n ∈ (g.NL ++ [(n, l)]).map (·.1) := List.mem_map.mpr ⟨_, hN, rfl⟩
      have vN : DGet (upd (upd H5 l (.lst [])) g.n (.dK (putK (tabS (refs g.NL)) (Sum.inr n) (.ref l)))) g.n (V.str n) (some (.ref l)) := by
        have q : valV (tabS (refs (g.NL ++ [(n, l)]))) (Sum.inr n) = some (.ref l) := by
          rw [valS]
          exact val_is (by rw [refs_keys]; exact TN7.ndK) (List.mem_map.mpr ⟨_, hN, rfl⟩)
        rw [← q]
        exact DGet.k (k := Sum.inr n) TN7.dk
      have lN : upd (upd H5 l (.lst [])) g.n (.dK (putK (tabS (refs g.NL)) (Sum.inr n) (.ref l))) l = some (.lst ((nameN m.rows n).map V.int)) := TN7.lst _ hN
      refine ⟨_, rfl, W, A.web, _, _, _, rfl, W7, T.cl, T.nBe, wf_bearing _ _ _ _ _ _, _, rfl, _, _, rfl, vN, .inl ⟨rfl, _, SqL.of lN⟩, _, rfl, _, _, _, rfl, rfl, lN, (by have := name_len m.rows n; omega), ?_⟩
      rw [eN]
      refine ⟨_, rfl, ?_⟩
      have ln : l ≠ g.n := (TN7.ne hN)
      have lb : ∀ {b o}, H5 b = some o → b ≠ l := fun hb => ne_of_none hb hl
      have fr : H l = none := by
        cases q : H l with
        | none => rfl
        | some o =>
          have p : ∃ o', H5 l = some o' := by
            by_cases r1 : l = aE
            · exact ⟨_, by rw [r1, ← e5, upd_same]⟩
            · by_cases r2 : l = aS
              · exact ⟨_, by rw [r2, ← e5, upd_ne (fun z : aS = aE => t.se _ seS (by rw [z]; exact seE)), upd_same]⟩
              · by_cases r3 : l = g.b
                · exact ⟨_, by rw [r3]; exact b5⟩
                · by_cases r4 : l = W
                  · exact ⟨_, by rw [r4]; exact W5⟩
                  · exact ⟨_, o5 _ _ (o3 l o q r4 r3) r2 r1⟩
          obtain ⟨o', p⟩ := p
          rw [hl] at p
          cases p
      obtain ⟨q1, q2⟩ := web_tie (H' := upd (upd (upd H5 l (.lst [])) g.n (.dK (putK (tabS (refs g.NL)) (Sum.inr n) (.ref l)))) l (.lst ((nameN m.rows n ++ [m.coming]).map V.int))) (NL' := g.NL ++ [(n, l)]) (wt := wt) t hs he ht0 hS hE
        (fun b o hb h1 h2 h3 h4 h5 => by
          have q5 := o5 b o (o3 b o hb h1 h2) h3 h4
          rw [upd_ne (lb q5), upd_ne (fun z : b = g.n => h5 (by rw [z]; exact inTab_d)), upd_ne (lb q5)]
          exact q5)
        ((upd_ne (lb W5)).trans W7) ((upd_ne (lb b5)).trans ((upd_ne a.bn).trans ((upd_ne (lb b5)).trans b5))) ((upd_ne (lb t5)).trans ((upd_ne (nS5 inTab_d).2.2.2.2.symm).trans ((upd_ne (lb t5)).trans t5)))
        (((TS5.upd_out (TS5.fresh hl)).upd_out (nS5 inTab_d).1).upd_out (TS5.fresh hl)) (((TE5.upd_out (TE5.fresh hl)).upd_out (nS5 inTab_d).2.1).upd_out (TE5.fresh hl))
        ((TN7.set hN (nameN m.rows n ++ [m.coming])).cong fun p _ => (name_snoc m.rows ⟨m.coming, s, n, e⟩ p.1).symm)
        (fun c hc => by
          rw [List.map_append] at hc
          rcases List.mem_append.mp (hc) with h | h
          · exact .inl h
          · have q : c = l := by simpa using h
            exact .inr (by rw [q]; exact fr))
        (fun y hy => by rw [List.map_append]; exact List.mem_append_left _ hy) hn7
      exact k2 hs he _ _ q1 q2 (by show (g.NL ++ [(n, l)]).length ≤ _; rw [List.length_append]; exact Nat.le_refl _)
end
end K07

set_option maxHeartbeats 4100000
namespace K07
open PySem PySem.Spec PyProof.Rows L2
def M.cut (m : M) (k : Int) : M := ⟨m.things, m.rows.filter fun r => decide (r.num ≠ k), m.coming⟩
theorem erase_filter {k : Int} : ∀ {l : List Int} {j : Nat}, l.Nodup → l[j]? = some k → l.eraseIdx j = l.filter fun n => decide (n ≠ k)
  | [], j, _, h => by simp at h
  | a :: r, 0, hn, h => by
    have e : a = k := Option.some.inj h
    subst e
    obtain ⟨h1, h2⟩ := List.nodup_cons.mp (hn)
    rw [List.filter_cons, if_neg (by simp), List.eraseIdx_cons_zero]
    symm
    exact List.filter_eq_self.mpr fun n hm => by simpa using fun e : n = a => h1 (e ▸ hm)
  | a :: r, j + 1, hn, h => by
    obtain ⟨h1, h2⟩ := List.nodup_cons.mp (hn)
    have h' : r[j]? = some k := h
    have hk : k ∈ r := List.mem_of_getElem? h'
    have hne : a ≠ k := fun e => h1 (e ▸ hk)
    rw [List.filter_cons, if_pos (by simpa using hne), List.eraseIdx_cons_succ, erase_filter h2 h']
section
variable {rows : List Row} {k : Int}
theorem out_cut (y : Str) : outN (rows.filter fun r => decide (r.num ≠ k)) y = (outN rows y).filter fun n => decide (n ≠ k) := by
  unfold outN
  rw [List.filter_map, List.filter_filter, List.filter_filter]
  congr 1
  apply List.filter_congr
  intro r _
  exact Bool.and_comm _ _
theorem in_cut (y : Str) : inN (rows.filter fun r => decide (r.num ≠ k)) y = (inN rows y).filter fun n => decide (n ≠ k) := by
  unfold inN
  rw [List.filter_map, List.filter_filter, List.filter_filter]
  congr 1
  apply List.filter_congr
  intro r _
  exact Bool.and_comm _ _
theorem name_cut (y : Str) : nameN (rows.filter fun r => decide (r.num ≠ k)) y = (nameN rows y).filter fun n => decide (n ≠ k) := by
  unfold nameN
  rw [List.filter_map, List.filter_filter, List.filter_filter]
  congr 1
  apply List.filter_congr
  intro r _
  exact Bool.and_comm _ _
theorem filt_no {l : List Int} (h : k ∉ l) : (l.filter fun n => decide (n ≠ k)) = l := List.filter_eq_self.mpr fun n hm => by simpa using fun e : n = k => h (e ▸ hm)
end
theorem row_eq {m : M} (o : MOk m) {r r' : Row} (h : r ∈ m.rows) (h' : r' ∈ m.rows) (e : r.num = r'.num) : r = r' := by
  have go : ∀ {l : List Row}, (l.map (·.num)).Pairwise (· < ·) → r ∈ l → r' ∈ l → r = r' := fun {l} => by
    induction l with
    | nil => intro _ a; cases a
    | cons a t ih =>
      intro hp h1 h2
      rw [List.map_cons, List.pairwise_cons] at hp
      rcases List.mem_cons.mp h1 with e1 | e1 <;> rcases List.mem_cons.mp h2 with e2 | e2
      · rw [e1, e2]
      · have := hp.1 _ (List.mem_map.mpr ⟨_, e2, rfl⟩)
        rw [← e1] at this
        omega
      · have := hp.1 _ (List.mem_map.mpr ⟨_, e1, rfl⟩)
        rw [← e2] at this
        omega
      · exact ih hp.2 e1 e2
  exact go o.up h h'
theorem sub_nd {m : M} (o : MOk m) (p : Row → Bool) : ((m.rows.filter p).map (·.num)).Nodup :=
  (o.up.imp fun h => Int.ne_of_lt h).sublist (List.filter_sublist.map _)
theorem cut_ok {m : M} (o : MOk m) (k : Int) : MOk (m.cut k) :=
  ⟨o.nd, o.up.sublist (List.filter_sublist.map _), fun r hr => o.low r (List.mem_filter.mp hr).1, fun r hr => o.ends r (List.mem_filter.mp hr).1⟩
theorem web_cut {C : Addr} {H : Hp} {W : Addr} {m : M} {g : Geo} (t : WebAt C H W m g) {q : BE} (hq : q ∈ g.BL) {aS aE aN : Addr} (hS : (q.row.st, aS) ∈ g.SL) (hE : (q.row.en, aE) ∈ g.EL) (hN : (q.row.nm, aN) ∈ g.NL) :
    let H' := upd (upd (upd (upd H g.b (.dK (dropK (tabI (bookT g.BL)) (Sum.inl q.row.num)))) aS (.lst ((outN (m.cut q.row.num).rows q.row.st).map V.int))) aE (.lst ((inN (m.cut q.row.num).rows q.row.en).map V.int))) aN (.lst ((nameN (m.cut q.row.num).rows q.row.nm).map V.int))
    let g' : Geo := { g with BL := g.BL.filter fun b => decide (b.row.num ≠ q.row.num) }
    WebAt C H' W (m.cut q.row.num) g' ∧ Mv H H' W g g' := by
  intro H' g'
  have a := t.apart
  have hr : q.row ∈ m.rows := by
    rw [← t.bkR]
    exact List.mem_map.mpr ⟨q, hq, rfl⟩
  have mS : aS ∈ g.SL.map (·.2) := List.mem_map.mpr ⟨_, hS, rfl⟩
  have mE : aE ∈ g.EL.map (·.2) := List.mem_map.mpr ⟨_, hE, rfl⟩
  have mN : aN ∈ g.NL.map (·.2) := List.mem_map.mpr ⟨_, hN, rfl⟩
  have old : ∀ b o, H b = some o → b ≠ g.b → b ≠ aS → b ≠ aE → b ≠ aN → H' b = some o := fun b o hb k1 k2 k3 k4 => by
    show upd _ _ _ b = _
    rw [upd_ne k4, upd_ne k3, upd_ne k2, upd_ne k1]
    exact hb
  have kd : ∀ {b o}, H b = some o → (∀ xs, o ≠ .lst xs) → b ≠ aS ∧ b ≠ aE ∧ b ≠ aN := fun hb hl => ⟨ne_of hb (t.st.lst _ hS) (hl _), ne_of hb (t.en.lst _ hE) (hl _), ne_of hb (t.be.lst _ hN) (hl _)⟩
  have old' : ∀ b o, H b = some o → (∀ xs, o ≠ .lst xs) → b ≠ g.b → H' b = some o := fun b o hb hl k => let ⟨k1, k2, k3⟩ := kd hb hl; old b o hb k k1 k2 k3
  have nS : ¬ inTab g.e g.EL aS ∧ ¬ inTab g.n g.NL aS := ⟨fun z => by
      rcases z with z | z
      · exact ne_of (t.st.lst _ hS) t.en.dk (by intro q; cases q) z
      · exact t.se _ mS z, fun z => by
      rcases z with z | z
      · exact ne_of (t.st.lst _ hS) t.be.dk (by intro q; cases q) z
      · exact t.sn _ mS z⟩
  have nE : ¬ inTab g.s g.SL aE ∧ ¬ inTab g.n g.NL aE := ⟨fun z => by
      rcases z with z | z
      · exact ne_of (t.en.lst _ hE) t.st.dk (by intro q; cases q) z
      · exact t.se _ z mE, fun z => by
      rcases z with z | z
      · exact ne_of (t.en.lst _ hE) t.be.dk (by intro q; cases q) z
      · exact t.en_ _ mE z⟩
  have nN : ¬ inTab g.s g.SL aN ∧ ¬ inTab g.e g.EL aN := ⟨fun z => by
      rcases z with z | z
      · exact ne_of (t.be.lst _ hN) t.st.dk (by intro q; cases q) z
      · exact t.sn _ z mN, fun z => by
      rcases z with z | z
      · exact ne_of (t.be.lst _ hN) t.en.dk (by intro q; cases q) z
      · exact t.en_ _ z mN⟩
  have no : ∀ {p : Row → Bool}, (∀ r ∈ m.rows, p r = true → r ≠ q.row) → q.row.num ∉ (m.rows.filter p).map (·.num) := fun {p} hp hm => by
    obtain ⟨r, h1, h2⟩ := List.mem_map.mp hm
    obtain ⟨h3, h4⟩ := List.mem_filter.mp h1
    exact hp r h3 h4 (row_eq t.ok h3 hr h2)
  refine ⟨⟨old' _ _ t.ob (ins_lst _ _ _) a.Wb, old' _ _ t.kn (dk_lst _) a.kb, t.knK, ?_, ?_, fun b hb => ?_, ?_, t.stK, ?_, t.enK, ?_, fun r h => t.beK r (List.mem_filter.mp h).1, t.ds, t.se, t.sn, t.en_, cut_ok t.ok _⟩, ⟨fun c hc => ?_, fun b o hb hf => ?_⟩⟩
  · obtain ⟨k1, k2, k3⟩ := kd t.bk (dk_lst _)
    show upd _ _ _ g.b = _
    rw [upd_ne k3, upd_ne k2, upd_ne k1, upd_same, dropI]
    unfold dropK bookT
    rw [List.filter_map]
    rfl
  · show (g.BL.filter fun b => decide (b.row.num ≠ q.row.num)).map (·.row) = m.rows.filter _
    rw [← t.bkR, List.filter_map]
    rfl
  · have hT := t.bkT b (List.mem_filter.mp hb).1
    exact old' _ _ hT (tup_lst _) (ne_of hT t.bk (by intro z; cases z))
  · refine (((((t.st.upd_out t.b_off.s).set hS (outN (m.cut q.row.num).rows q.row.st)).upd_out nE.1).upd_out nN.1)).cong fun p _ => ?_
    by_cases e : p.1 = q.row.st
    · rw [if_pos e, e]
    · rw [if_neg e]
      show _ = outN (m.rows.filter _) _
      rw [out_cut]
      exact (filt_no (no fun r _ h4 z => e (by rw [← z]; exact (of_decide_eq_true h4).symm))).symm
  · refine (((((t.en.upd_out t.b_off.e).upd_out nS.1).set hE (inN (m.cut q.row.num).rows q.row.en)).upd_out nN.2)).cong fun p _ => ?_
    by_cases e : p.1 = q.row.en
    · rw [if_pos e, e]
    · rw [if_neg e]
      show _ = inN (m.rows.filter _) _
      rw [in_cut]
      exact (filt_no (no fun r _ h4 z => e (by rw [← z]; exact (of_decide_eq_true h4).symm))).symm
  · refine (((((t.be.upd_out t.b_off.n).upd_out nS.2).upd_out nE.2).set hN (nameN (m.cut q.row.num).rows q.row.nm))).cong fun p _ => ?_
    by_cases e : p.1 = q.row.nm
    · rw [if_pos e, e]
    · rw [if_neg e]
      show _ = nameN (m.rows.filter _) _
      rw [name_cut]
      exact (filt_no (no fun r _ h4 z => e (by rw [← z]; exact (of_decide_eq_true h4).symm))).symm
  · rcases hc with e | e | e | e | e
    · exact .inl (.inl e)
    · exact .inl (.inr (.inl e))
    · exact .inl (.inr (.inr (.inl e)))
    · obtain ⟨b, hb, e⟩ := List.mem_map.mp e
      exact .inl (.inr (.inr (.inr (.inl (List.mem_map.mpr ⟨b, (List.mem_filter.mp hb).1, e⟩)))))
    · exact .inl (.inr (.inr (.inr (.inr e))))
  · exact old b o hb (fun e => hf (e ▸ foot_b)) (fun e => hf (e ▸ foot_s (inTab_a hS))) (fun e => hf (e ▸ foot_e (inTab_a hE))) (fun e => hf (e ▸ foot_n (inTab_a hN)))
def spCut (A : Adr) : Sp := fun vs H Q _ => ∃ W m g r, vs = [.ref W, .int r.num] ∧ WebAt A.web H W m g ∧ r ∈ m.rows ∧
  ∀ g' H', WebAt A.web H' W (m.cut r.num) g' → Mv H H' W g g' → g'.NL.length = g.NL.length → Q .non H'
section
variable {P : Program} {w : World} {K : PySem.W.Frag} {mg : Str → Option Value} {base : Heap} {A : Adr} {f : Addr} {fd : FuncData}
theorem scCut : FnScope ["self", "number", "row"] ["self", "number"] (defScope sCut) := ⟨rfl, rfl, rfl, by decide +kernel, rfl, by decide +kernel, by decide +kernel⟩
theorem rem_at {l : List Int} {k : Int} (hn : l.Nodup) (h : k ∈ l) : ∃ j, l[j]? = some k ∧ (∀ i : Nat, i < j → l[i]? ≠ some k) ∧ l.eraseIdx j = l.filter fun n => decide (n ≠ k) := by
  obtain ⟨j, hj⟩ := List.mem_iff_getElem?.mp h
  exact ⟨j, hj, fun i hi e => Nat.ne_of_lt hi (nd_ix hn e hj), erase_filter hn hj⟩
theorem ok_cut (F : FnP K "cut_tie" "Web.cut_tie" sCut [] f fd) (T : Txt K mg A) (GR : Mth P w K mg base CX0 1 A.web "tie" ["self", "number"] [] (spRow A)) : FnOk P w K mg base (L2.CX P w) 2 f fd ["self", "number"] (spCut A) := by
  obtain ⟨fR, fdR, ds, mR, vR, bR, FR⟩ := GR.ex
  refine F.ok scCut (fun vs H Q E h => ?_) (fun cdv R outer s H vs Q E hr h => ⟨_, pss_cons
      (ps_set (i := 2) scCut.nd rfl (.inl rfl) (pe_meth (pv 0) T.cl mR FR hr bR vR pass0 (pa_cons (pv 1) pa_nil)))
      (pss_cons (ps_expr (pe_dpop1 (pe_fld (pv 0) rfl) (pv 1) ⟨rfl, rfl, rfl, rfl⟩))
      (pss_cons (ps_expr (pe_bm PySem.F.plainAttrs_list PySem.F.slot_list_remove PySem.F.type_list_remove mt_remove (pe_dget (hu_of hr) (pe_fld (pv 0) rfl) (pe_ix ix_tup (pv 2) pe_int (fun _ _ => rfl)) (fun _ _ => rfl)) (pa_cons (pv 1) pa_nil)))
      (pss_cons (ps_expr (pe_bm PySem.F.plainAttrs_list PySem.F.slot_list_remove PySem.F.type_list_remove mt_remove (pe_dget (hu_of hr) (pe_fld (pv 0) rfl) (pe_ix ix_tup (pv 2) pe_int (fun _ _ => rfl)) (fun _ _ => rfl)) (pa_cons (pv 1) pa_nil)))
      (pss_one (ps_expr (pe_bm PySem.F.plainAttrs_list PySem.F.slot_list_remove PySem.F.type_list_remove mt_remove (pe_dget (hu_of hr) (pe_fld (pv 0) rfl) (pe_ix ix_tup (pv 2) pe_int (fun _ _ => rfl)) (fun _ _ => rfl)) (pa_cons (pv 1) pa_nil))))))), ?_⟩)
  · obtain ⟨W, m, g, r, rfl, _⟩ := h
    rfl
  · obtain ⟨W, m, g, r, rfl, t, hr1, k⟩ := h
    have a := t.apart
    rw [← t.bkR] at hr1
    obtain ⟨q, hq, rfl⟩ := List.mem_map.mp hr1
    rw [t.bkR] at hr1
    have hT := t.bkT q hq
    obtain ⟨hs, he⟩ := t.ok.ends _ hr1
    obtain ⟨aS, hS, vS, lS⟩ := t.st.at_ (x := q.row.st) (by rw [t.stK]; exact hs)
    obtain ⟨aE, hE, vE, lE⟩ := t.en.at_ (x := q.row.en) (by rw [t.enK]; exact he)
    obtain ⟨aN, hN, vN, lN⟩ := t.be.at_ (x := q.row.nm) (t.beK _ hr1)
    obtain ⟨q1, q2⟩ := web_cut t hq hS hE hN
    obtain ⟨jS, s1, s2, s3⟩ := rem_at (k := q.row.num) (sub_nd t.ok fun r => decide (r.st = q.row.st)) (List.mem_map.mpr ⟨_, List.mem_filter.mpr ⟨hr1, by simp⟩, rfl⟩)
    obtain ⟨jE, e1, e2, e3⟩ := rem_at (k := q.row.num) (sub_nd t.ok fun r => decide (r.en = q.row.en)) (List.mem_map.mpr ⟨_, List.mem_filter.mpr ⟨hr1, by simp⟩, rfl⟩)
    obtain ⟨jN, n1, n2, n3⟩ := rem_at (k := q.row.num) (sub_nd t.ok fun r => decide (r.nm = q.row.nm)) (List.mem_map.mpr ⟨_, List.mem_filter.mpr ⟨hr1, by simp⟩, rfl⟩)
    have s3 : (outN m.rows q.row.st).eraseIdx jS = outN (m.cut q.row.num).rows q.row.st := s3.trans (out_cut _).symm
    have e3 : (inN m.rows q.row.en).eraseIdx jE = inN (m.cut q.row.num).rows q.row.en := e3.trans (in_cut _).symm
    have n3 : (nameN m.rows q.row.nm).eraseIdx jN = nameN (m.cut q.row.num).rows q.row.nm := n3.trans (name_cut _).symm
    refine ⟨_, rfl, W, g.dx, _, rfl, t.ob, by kernel_rfl, _, rfl, W, m, g, q, rfl, t, hq, ?_⟩
    refine ⟨_, rfl, W, A.web, _, _, _, rfl, t.ob, T.cl, T.nBk, wf_book _ _ _ _ _ _, _, rfl, .inl ⟨_, Rd.of t.bk⟩, _, rfl, _, Sum.inl q.row.num, _, t.bk, rfl, book_val t hq, ?_⟩
    have o1 : ∀ {b o}, H b = some o → b ≠ g.b → upd H g.b (.dK (dropK (tabI (bookT g.BL)) (Sum.inl q.row.num))) b = some o := fun hb k => (upd_ne k).trans hb
    have kd : ∀ {b o}, H b = some o → (∀ xs, o ≠ .lst xs) → b ≠ aS ∧ b ≠ aE ∧ b ≠ aN := fun hb hl => ⟨ne_of hb (t.st.lst _ hS) (hl _), ne_of hb (t.en.lst _ hE) (hl _), ne_of hb (t.be.lst _ hN) (hl _)⟩
    have tb := ne_of hT t.bk (by intro z; cases z)
    obtain ⟨wS, wE, wN⟩ := kd t.ob (ins_lst _ _ _)
    obtain ⟨tS, tE, tN⟩ := kd hT (tup_lst _)
    have lb : ∀ {b xs}, H b = some (.lst xs) → b ≠ g.b := fun hb => ne_of hb t.bk (by intro z; cases z)
    have gS : DGet (upd H g.b (.dK (dropK (tabI (bookT g.BL)) (Sum.inl q.row.num)))) g.s (V.str q.row.st) (some (.ref aS)) := by
      rw [← vS]
      exact DGet.k (k := Sum.inr q.row.st) (o1 t.st.dk a.bs.symm)
    refine ⟨_, rfl, W, A.web, _, _, _, rfl, o1 t.ob a.Wb, T.cl, T.nSt, wf_starting _ _ _ _ _ _, _, rfl, _, _, _, _, rfl, rfl, SqT.of (o1 hT tb), at_of (j := 0) rfl rfl, _, _, rfl, gS, .inl ⟨rfl, _, SqL.of (o1 lS (lb lS))⟩, _, rfl, _, _, _, jS, rfl, rfl, o1 lS (lb lS), s1, s2, ?_⟩
    rw [s3]
    have o2 : ∀ {b o}, H b = some o → b ≠ g.b → b ≠ aS → upd (upd H g.b (.dK (dropK (tabI (bookT g.BL)) (Sum.inl q.row.num)))) aS (.lst ((outN (m.cut q.row.num).rows q.row.st).map V.int)) b = some o := fun hb k k2 => (upd_ne k2).trans (o1 hb k)
    have mS : aS ∈ g.SL.map (·.2) := List.mem_map.mpr ⟨_, hS, rfl⟩
    have mE : aE ∈ g.EL.map (·.2) := List.mem_map.mpr ⟨_, hE, rfl⟩
    have mN : aN ∈ g.NL.map (·.2) := List.mem_map.mpr ⟨_, hN, rfl⟩
    have ES : aE ≠ aS := fun z => t.se _ mS (z ▸ mE)
    have NS : aN ≠ aS := fun z => t.sn _ mS (z ▸ mN)
    have NE : aN ≠ aE := fun z => t.en_ _ mE (z ▸ mN)
    have gE : DGet (upd (upd H g.b (.dK (dropK (tabI (bookT g.BL)) (Sum.inl q.row.num)))) aS (.lst ((outN (m.cut q.row.num).rows q.row.st).map V.int))) g.e (V.str q.row.en) (some (.ref aE)) := by
      rw [← vE]
      exact DGet.k (k := Sum.inr q.row.en) (o2 t.en.dk a.be.symm (kd t.en.dk (dk_lst _)).1)
    refine ⟨_, rfl, W, A.web, _, _, _, rfl, o2 t.ob a.Wb wS, T.cl, T.nEn, wf_ending _ _ _ _ _ _, _, rfl, _, _, _, _, rfl, rfl, SqT.of (o2 hT tb tS), at_of (j := 2) rfl rfl, _, _, rfl, gE, .inl ⟨rfl, _, SqL.of (o2 lE (lb lE) ES)⟩, _, rfl, _, _, _, jE, rfl, rfl, o2 lE (lb lE) ES, e1, e2, ?_⟩
    rw [e3]
    have o3 : ∀ {b o}, H b = some o → b ≠ g.b → b ≠ aS → b ≠ aE → upd (upd (upd H g.b (.dK (dropK (tabI (bookT g.BL)) (Sum.inl q.row.num)))) aS (.lst ((outN (m.cut q.row.num).rows q.row.st).map V.int))) aE (.lst ((inN (m.cut q.row.num).rows q.row.en).map V.int)) b = some o := fun hb k k2 k3 => (upd_ne k3).trans (o2 hb k k2)
    have gN : DGet (upd (upd (upd H g.b (.dK (dropK (tabI (bookT g.BL)) (Sum.inl q.row.num)))) aS (.lst ((outN (m.cut q.row.num).rows q.row.st).map V.int))) aE (.lst ((inN (m.cut q.row.num).rows q.row.en).map V.int))) g.n (V.str q.row.nm) (some (.ref aN)) := by
      rw [← vN]
      exact DGet.k (k := Sum.inr q.row.nm) (o3 t.be.dk a.bn.symm (kd t.be.dk (dk_lst _)).1 (kd t.be.dk (dk_lst _)).2.1)
    refine ⟨_, rfl, W, A.web, _, _, _, rfl, o3 t.ob a.Wb wS wE, T.cl, T.nBe, wf_bearing _ _ _ _ _ _, _, rfl, _, _, _, _, rfl, rfl, SqT.of (o3 hT tb tS tE), at_of (j := 1) rfl rfl, _, _, rfl, gN, .inl ⟨rfl, _, SqL.of (o3 lN (lb lN) NS NE)⟩, _, rfl, _, _, _, jN, rfl, rfl, o3 lN (lb lN) NS NE, n1, n2, ?_⟩
    rw [n3]
    exact k _ _ q1 q2 rfl
end
end K07

set_option maxHeartbeats 4100000
namespace K07
open PySem PySem.Spec PyProof.Rows L2
def spInit (A : Adr) : Sp := fun vs H Q _ => ∃ W dx, vs = [.ref W] ∧ H W = some (.ins A.web dx []) ∧
  ∀ g' H', WebAt A.web H' W ⟨[], [], 0⟩ g' → (∀ b, foot g' W b → b = W ∨ H b = none) → (∀ b o, H b = some o → b ≠ W → H' b = some o) → g'.NL = [] → Q .non H'
theorem len_p {f : Str} {v : V} {fs : List (Str × V)} {n : Nat} (h : fs.length ≤ n) : (putF f v fs).length ≤ n + 1 := Nat.le_trans (length_putF f v fs) (Nat.succ_le_succ h)
section
variable {P : Program} {w : World} {K : PySem.W.Frag} {mg : Str → Option Value} {base : Heap} {A : Adr} {f : Addr} {fd : FuncData}
theorem scInit : FnScope ["self"] ["self"] (defScope sInit) := ⟨rfl, rfl, rfl, by decide +kernel, rfl, by decide +kernel, by decide +kernel⟩
theorem ok_init (F : FnP K "__init__" "Web.__init__" sInit [] f fd) (T : Txt K mg A) : FnOk P w K mg base CX0 1 f fd ["self"] (spInit A) := by
  refine F.ok scInit (fun vs H Q E h => ?_) (fun cdv R outer s H vs Q E hr h => ⟨_, PSs.nox (pss_cons (ps_fld (pv 0) pe_dnewK rfl) (pss_cons (ps_fld (pv 0) pe_dnewK rfl) (pss_cons (ps_fld (pv 0) pe_dnewK rfl)
      (pss_cons (ps_fld (pv 0) pe_dnewK rfl) (pss_cons (ps_fld (pv 0) pe_dnewK rfl) (pss_one (ps_fld (pv 0) pe_int rfl))))))), ?_⟩)
  · obtain ⟨W, dx, rfl, _⟩ := h
    rfl
  · obtain ⟨W, dx, rfl, h0, q⟩ := h
    intro k hk
    have Wk : W ≠ k := ne_of_none h0 hk
    refine ⟨_, rfl, W, A.web, dx, [], rfl, (upd_ne Wk).trans h0, T.cl, T.nKn, (Nat.lt_of_le_of_lt (show _ ≤ 0 from Nat.le_refl 0) (by decide)), fun b hb => ?_⟩
    obtain ⟨bW, hb1⟩ := upd_none hb
    obtain ⟨bk, hb0⟩ := upd_none hb1
    refine ⟨_, rfl, W, A.web, dx, _, rfl, (upd_ne bW.symm).trans upd_same, T.cl, T.nBk, (Nat.lt_of_le_of_lt (show _ ≤ 1 from (len_p (Nat.le_refl 0))) (by decide)), fun s hs => ?_⟩
    obtain ⟨sW, hs1⟩ := upd_none hs
    obtain ⟨sb, hs2⟩ := upd_none hs1
    obtain ⟨_, hs3⟩ := upd_none hs2
    obtain ⟨sk, hs0⟩ := upd_none hs3
    refine ⟨_, rfl, W, A.web, dx, _, rfl, (upd_ne sW.symm).trans upd_same, T.cl, T.nSt, (Nat.lt_of_le_of_lt (show _ ≤ 2 from (len_p (len_p (Nat.le_refl 0)))) (by decide)), fun e he => ?_⟩
    obtain ⟨eW, he1⟩ := upd_none he
    obtain ⟨es, he2⟩ := upd_none he1
    obtain ⟨_, he3⟩ := upd_none he2
    obtain ⟨eb, he4⟩ := upd_none he3
    obtain ⟨_, he5⟩ := upd_none he4
    obtain ⟨ek, he0⟩ := upd_none he5
    refine ⟨_, rfl, W, A.web, dx, _, rfl, (upd_ne eW.symm).trans upd_same, T.cl, T.nEn, (Nat.lt_of_le_of_lt (show _ ≤ 3 from (len_p (len_p (len_p (Nat.le_refl 0))))) (by decide)), fun n hn => ?_⟩
    obtain ⟨nW, hn1⟩ := upd_none hn
    obtain ⟨ne, hn2⟩ := upd_none hn1
    obtain ⟨_, hn3⟩ := upd_none hn2
    obtain ⟨ns, hn4⟩ := upd_none hn3
    obtain ⟨_, hn5⟩ := upd_none hn4
    obtain ⟨nb, hn6⟩ := upd_none hn5
    obtain ⟨_, hn7⟩ := upd_none hn6
    obtain ⟨nk, hn0⟩ := upd_none hn7
    refine ⟨_, rfl, W, A.web, dx, _, rfl, (upd_ne nW.symm).trans upd_same, T.cl, T.nBe, (Nat.lt_of_le_of_lt (show _ ≤ 4 from (len_p (len_p (len_p (len_p (Nat.le_refl 0)))))) (by decide)), ?_⟩
    refine ⟨_, rfl, W, A.web, dx, _, rfl, upd_same, T.cl, T.nCo, (Nat.lt_of_le_of_lt (show _ ≤ 5 from (len_p (len_p (len_p (len_p (len_p (Nat.le_refl 0))))))) (by decide)), ?_⟩
    rw [wf_made]
    refine q { dx := dx, k := k, b := b, s := s, e := e, n := n, KL := [], BL := [], SL := [], EL := [], NL := [] } _ ⟨upd_same, ?_, rfl, ?_, rfl, (fun _ h => nomatch h), ⟨?_, (fun _ h => nomatch h), List.nodup_nil, List.nodup_nil⟩, rfl, ⟨?_, (fun _ h => nomatch h), List.nodup_nil, List.nodup_nil⟩, rfl,
      ⟨?_, (fun _ h => nomatch h), List.nodup_nil, List.nodup_nil⟩, (fun _ h => nomatch h), ?_, (fun _ h => nomatch h), (fun _ h => nomatch h), (fun _ h => nomatch h), ⟨List.nodup_nil, List.Pairwise.nil, (fun _ h => nomatch h), (fun _ h => nomatch h)⟩⟩ ?_ ?_ rfl
    · simp only [upd, if_neg Wk.symm, if_neg nk.symm, if_neg ek.symm, if_neg sk.symm, if_neg bk.symm, if_true]
      rfl
    · simp only [upd, if_neg bW, if_neg nb.symm, if_neg eb.symm, if_neg sb.symm, if_true]
      rfl
    · simp only [upd, if_neg sW, if_neg ns.symm, if_neg es.symm, if_true]
      rfl
    · simp only [upd, if_neg eW, if_neg ne.symm, if_true]
      rfl
    · simp only [upd, if_neg nW, if_true]
      rfl
    · simp only [List.nodup_cons, List.mem_cons, List.not_mem_nil, or_false, not_or, not_false_eq_true, List.nodup_nil, and_true]
      exact ⟨⟨bk.symm, sk.symm, ek.symm, nk.symm⟩, ⟨sb.symm, eb.symm, nb.symm⟩, ⟨es.symm, ns.symm⟩, ne.symm⟩
    · intro c hc
      have nil : ∀ {d : Addr}, inTab d ([] : NA) c → c = d := fun {d} z => by
        rcases z with z | z
        · exact z
        · cases z
      rcases hc with z | z | z | z | z | z | z
      · exact .inl z
      · exact .inr (by rw [z]; exact hk)
      · exact .inr (by rw [z]; exact hb0)
      · cases z
      · exact .inr (by rw [nil z]; exact hs0)
      · exact .inr (by rw [nil z]; exact he0)
      · exact .inr (by rw [nil z]; exact hn0)
    · intro c o hc hW
      have f : ∀ {x : Addr}, H x = none → c ≠ x := fun hx => ne_of_none hc hx
      simp only [upd, if_neg hW, if_neg (f hn0), if_neg (f he0), if_neg (f hs0), if_neg (f hb0), if_neg (f hk)]
      exact hc
end
end K07

set_option maxHeartbeats 4100000
namespace K07
open PySem PySem.Spec PyProof.Rows L2
/-! ### the law's names -/
def lt (n : Int) : Nat := 97 + (n % 26).toNat
def S (l : List Nat) : Str := ⟨l.toArray⟩
def nameL (number way : Int) : List Nat :=
  if way % 2 = 0 then [lt (number / 12 + way / 52)] ++ List.replicate (number % 12).toNat (lt (way / 2))
  else List.replicate (way / 572 % (2 + way / 52 % 11 - 1)).toNat (lt (way / 2)) ++ [lt number] ++ [lt (number / 26)] ++ List.replicate (2 + way / 52 % 11 - 2 - way / 572 % (2 + way / 52 % 11 - 1)).toNat (lt (way / 2))
def lawName (number way : Int) : Str := S (nameL number way)
theorem S_app (a b : List Nat) : S a ++ S b = S (a ++ b) := by
  show (⟨a.toArray ++ b.toArray⟩ : Str) = ⟨(a ++ b).toArray⟩
  rw [List.append_toArray]
theorem S_len (a : List Nat) : (S a).length = a.length := rfl
theorem S_inj {a b : List Nat} (h : S a = S b) : a = b := by
  have q : a.toArray = b.toArray := congrArg Str.cps h
  simpa using q
theorem letters_eq : letters.cps = (List.range' 97 26).toArray := by decide +kernel
theorem letters_len : letters.length = 26 := by
  show letters.cps.size = 26
  rw [letters_eq]
  rfl
theorem letters_at (n : Int) : letters.cps[(n % 26).toNat]? = some (lt n) := by
  have h : (n % 26).toNat < 26 := by omega
  rw [letters_eq, List.getElem?_toArray, List.getElem?_range' h, Nat.one_mul]
  rfl
theorem lt_mem (n : Int) : lt n ∈ letters.cps.toList := by
  rw [letters_eq]
  have h : (n % 26).toNat < 26 := by omega
  unfold lt
  simp
  omega
theorem name_good (number way : Int) : Good (lawName number way) := by
  have len : 1 ≤ (nameL number way).length ∧ (nameL number way).length ≤ 12 := by
    unfold nameL
    by_cases h : way % 2 = 0
    · rw [if_pos h]
      simp only [List.length_append, List.length_replicate, List.length_cons, List.length_nil]
      omega
    · rw [if_neg h]
      simp only [List.length_append, List.length_replicate, List.length_cons, List.length_nil]
      have h1 : 0 ≤ way / 52 % 11 ∧ way / 52 % 11 < 11 := by omega
      have h2 : 0 ≤ way / 572 % (2 + way / 52 % 11 - 1) := Int.emod_nonneg _ (by omega)
      have h3 : way / 572 % (2 + way / 52 % 11 - 1) < 2 + way / 52 % 11 - 1 := Int.emod_lt_of_pos _ (by omega)
      omega
  refine ⟨by show 1 ≤ (nameL number way).toArray.size; simpa using len.1, by show (nameL number way).toArray.size ≤ 12; simpa using len.2, fun i c hc => ?_⟩
  have hc : (nameL number way)[i]? = some c := by simpa [lawName, S] using hc
  have hm := List.mem_of_getElem? hc
  unfold nameL at hm
  by_cases h : way % 2 = 0
  · rw [if_pos h] at hm
    simp only [List.mem_append, List.mem_cons, List.not_mem_nil, or_false, List.mem_replicate] at hm
    rcases hm with e | ⟨_, e⟩ <;> rw [e] <;> exact lt_mem _
  · rw [if_neg h] at hm
    simp only [List.mem_append, List.mem_cons, List.not_mem_nil, or_false, List.mem_replicate] at hm
    rcases hm with ((⟨_, e⟩ | e) | e) | ⟨_, e⟩ <;> rw [e] <;> exact lt_mem _
theorem name_len_le (number way : Int) : (nameL number way).length ≤ 12 := by
  have h := (name_good number way).2.1
  have e : (lawName number way).cps.size = (nameL number way).length := by simp [lawName, S]
  omega
theorem name_inj {j k way : Int} (h0 : 0 ≤ j) (h1 : j < 12) (h2 : 0 ≤ k) (h3 : k < 12) (h : lawName j way = lawName k way) : j = k := by
  have e := S_inj h
  unfold nameL at e
  by_cases c : way % 2 = 0
  · rw [if_pos c, if_pos c] at e
    have q := congrArg List.length e
    simp only [List.length_append, List.length_replicate, List.length_cons, List.length_nil] at q
    omega
  · rw [if_neg c, if_neg c] at e
    rw [List.append_assoc, List.append_assoc, List.append_assoc, List.append_assoc] at e
    have q := List.append_cancel_left e
    have q2 : lt j = lt k := by simpa using congrArg List.head? q
    unfold lt at q2
    omega
def spLetter : Sp := fun vs H Q _ => ∃ n : Int, vs = [.int n] ∧ Q (.str ⟨#[lt n]⟩) H
def spName : Sp := fun vs H Q _ => ∃ n w : Int, vs = [.int n, .int w] ∧ Q (.str (lawName n w)) H
def spBad : Sp := fun vs H Q _ => ∃ n w : Int, vs = [.int n, .int w] ∧ ∀ z H', Same H H' → Q (.str z) H'
section
variable {P : Program} {w : World} {K : PySem.W.Frag} {mg : Str → Option Value} {base : Heap} {A : Adr} {f : Addr} {fd : FuncData}
theorem scLetter : FnScope ["number"] ["number"] (defScope sLetter) := ⟨rfl, rfl, rfl, by decide +kernel, rfl, by decide +kernel, by decide +kernel⟩
theorem ok_letter (F : FnP K "_law_letter" "_law_letter" sLetter [] f fd) : FnOk P w K mg base CX0 1 f fd ["number"] spLetter := by
  refine F.ok scLetter (fun vs H Q E h => ?_) (fun cdv R outer s H vs Q E hr h => ⟨_, PSs.nox (pss_one (ps_ret (pe_item_str pe_str (pe_op op_mod (pv 0) pe_int) (fun _ _ => rfl)))), ?_⟩)
  · obtain ⟨n, rfl, _⟩ := h
    rfl
  · obtain ⟨n, rfl, k⟩ := h
    refine ⟨_, rfl, _, _, rfl, rfl, (by show (0 : Int) < 26; decide), letters, _, lt n, rfl, rfl, Int.emod_nonneg _ (by decide), ?_, ?_, letters_at n, k⟩
    · have := Int.emod_lt_of_pos n (show (0 : Int) < 26 by decide)
      omega
    · rw [letters_len]
      exact Int.emod_lt_of_pos n (by decide)
theorem scName : FnScope ["number", "way", "fill", "size", "at", "head"] ["number", "way"] (defScope sName) := ⟨rfl, rfl, rfl, by decide +kernel, rfl, by decide +kernel, by decide +kernel⟩
theorem ok_name (F : FnP K "_law_name" "_law_name" sName [] f fd) (GL : Def P w K mg base CX0 1 "_law_letter" ["number"] spLetter) : FnOk P w K mg base CX0 2 f fd ["number", "way"] spName := by
  obtain ⟨fL, fdL, gL, kL, bL, FL⟩ := GL
  refine F.ok scName (fun vs H Q E h => ?_) (fun cdv R outer s H vs Q E hr h => ⟨_, PSs.nox (pss_cons (ps_set (i := 2) scName.nd rfl (.inl rfl) (pe_call FL hr rfl gL kL bL .nil pass0 (pa_cons (pe_op op_fdiv (pv 1) pe_int) pa_nil)))
      (pss_cons (ps_if (pt_cmpR op_eq (pe_op op_mod (pv 1) pe_int) pe_int (nomark _))
        (pss_one (ps_ret (pe_op op_add_str (pe_call FL hr rfl gL kL bL .nil pass0 (pa_cons (pe_op op_add (pe_op op_fdiv (pv 0) pe_int) (pe_op op_fdiv (pv 1) pe_int)) pa_nil)) (pe_op op_mulS (pv 2) (pe_op op_mod (pv 0) pe_int))))) pss_nil)
      (pss_cons (ps_set (i := 3) scName.nd rfl (.inl rfl) (pe_op op_add pe_int (pe_op op_mod (pe_op op_fdiv (pv 1) pe_int) pe_int)))
      (pss_cons (ps_set (i := 4) scName.nd rfl (.inl rfl) (pe_op op_mod (pe_op op_fdiv (pv 1) pe_int) (pe_op op_sub (pv 3) pe_int)))
      (pss_cons (ps_set (i := 5) scName.nd rfl (.inl rfl) (pe_op op_add_str (pe_op op_mulS (pv 2) (pv 4)) (pe_call FL hr rfl gL kL bL .nil pass0 (pa_cons (pv 0) pa_nil))))
      (pss_one (ps_ret (pe_op op_add_str (pe_op op_add_str (pv 5) (pe_call FL hr rfl gL kL bL .nil pass0 (pa_cons (pe_op op_fdiv (pv 0) pe_int) pa_nil))) (pe_op op_mulS (pv 2) (pe_op op_sub (pe_op op_sub (pv 3) pe_int) (pv 4))))))))))), ?_⟩)
  · obtain ⟨n, wy, rfl, _⟩ := h
    rfl
  · obtain ⟨n, wy, rfl, k⟩ := h
    have hsz : (sizeLine : Nat) = 16777216 := sizeLine_eq
    refine ⟨_, rfl, _, _, rfl, rfl, ⟨by decide, by decide⟩, _, rfl, ?_⟩
    refine ⟨_, rfl, _, _, rfl, rfl, (by show (0 : Int) < 2; decide), rfl, _, rfl, ?_⟩
    by_cases c : wy % 2 = 0
    · rw [decide_eq_true (show V.int (wy % 2) = V.int 0 by rw [c])]
      refine iteT ⟨_, rfl, _, _, rfl, rfl, ⟨by decide, by decide⟩, _, rfl, _, _, rfl, rfl, ⟨by decide, by decide⟩, _, _, rfl, rfl, _, rfl, ?_⟩
      have en : n % 12 = (((n % 12).toNat : Nat) : Int) := by omega
      refine ⟨_, rfl, _, rfl, _, _, rfl, rfl, (by show (0 : Int) < 12; decide), _, (n % 12).toNat, rfl, congrArg V.int en, by omega, _, _, rfl, rfl, ?_, ?_⟩
      · show 1 + (List.replicate (n % 12).toNat (lt (wy / 2))).toArray.size ≤ _
        rw [List.size_toArray, List.length_replicate]
        omega
      · have e : (⟨#[lt (n / 12 + wy / 52)]⟩ : Str) ++ ⟨(List.replicate (n % 12).toNat (lt (wy / 2))).toArray⟩ = lawName n wy := by
          unfold lawName nameL
          rw [if_pos c, ← S_app]
          rfl
        rw [e]
        exact k
    · rw [decide_eq_false (show ¬ V.int (wy % 2) = V.int 0 from fun z => c (V.int.inj z))]
      have h1 : 0 ≤ wy / 52 % 11 ∧ wy / 52 % 11 < 11 := by omega
      have h2 : 0 ≤ wy / 572 % (2 + wy / 52 % 11 - 1) := Int.emod_nonneg _ (by omega)
      have h3 : wy / 572 % (2 + wy / 52 % 11 - 1) < 2 + wy / 52 % 11 - 1 := Int.emod_lt_of_pos _ (by omega)
      have ea : wy / 572 % (2 + wy / 52 % 11 - 1) = (((wy / 572 % (2 + wy / 52 % 11 - 1)).toNat : Nat) : Int) := by omega
      have eb : 2 + wy / 52 % 11 - 2 - wy / 572 % (2 + wy / 52 % 11 - 1) = (((2 + wy / 52 % 11 - 2 - wy / 572 % (2 + wy / 52 % 11 - 1)).toNat : Nat) : Int) := by omega
      refine iteF ⟨_, rfl, _, _, rfl, rfl, ⟨by decide, by decide⟩, _, _, rfl, rfl, (by show (0 : Int) < 11; decide), _, _, rfl, rfl, ?_⟩
      refine ⟨_, rfl, _, _, rfl, rfl, ⟨by decide, by decide⟩, _, rfl, _, _, rfl, rfl, _, _, rfl, rfl, (by omega), ?_⟩
      refine ⟨_, rfl, _, rfl, _, (wy / 572 % (2 + wy / 52 % 11 - 1)).toNat, rfl, congrArg V.int ea, by omega, _, rfl, _, rfl, _, _, rfl, rfl, ?_, ?_⟩
      · show (List.replicate _ _).toArray.size + 1 ≤ _
        rw [List.size_toArray, List.length_replicate]
        omega
      refine ⟨_, rfl, _, rfl, _, _, rfl, rfl, ⟨by decide, by decide⟩, _, rfl, _, _, rfl, rfl, ?_, ?_⟩
      · show ((List.replicate _ _).toArray ++ #[_]).size + 1 ≤ _
        rw [Array.size_append, List.size_toArray, List.length_replicate]
        show _ + 1 + 1 ≤ _
        omega
      refine ⟨_, rfl, _, rfl, _, _, rfl, rfl, _, rfl, _, _, rfl, rfl, _, (2 + wy / 52 % 11 - 2 - wy / 572 % (2 + wy / 52 % 11 - 1)).toNat, rfl, congrArg V.int eb, by omega, _, _, rfl, rfl, ?_, ?_⟩
      · show ((List.replicate _ _).toArray ++ #[_] ++ #[_]).size + (List.replicate _ _).toArray.size ≤ _
        simp only [Array.size_append, List.size_toArray, List.length_replicate, List.length_cons, List.length_nil]
        omega
      · have e : (⟨(List.replicate (wy / 572 % (2 + wy / 52 % 11 - 1)).toNat (lt (wy / 2))).toArray⟩ : Str) ++ ⟨#[lt n]⟩ ++ ⟨#[lt (n / 26)]⟩ ++ ⟨(List.replicate (2 + wy / 52 % 11 - 2 - wy / 572 % (2 + wy / 52 % 11 - 1)).toNat (lt (wy / 2))).toArray⟩ = lawName n wy := by
          unfold lawName nameL
          rw [if_neg c, ← S_app, ← S_app, ← S_app]
          rfl
        rw [e]
        exact k
end
end K07

set_option maxHeartbeats 4100000
namespace K07
open PySem PySem.Spec PyProof.Rows L2
def some14 : List Str := ["", "A", "a b", " a", "a ", "a1", "_", "abcdefghijklm", "aB", "a-", "a\n", "'", "0", "{"]
def odd21 : Str := (" !-.0129:@ABYZ[_`{~\n\t" : Str)
theorem odd_len : odd21.length = 21 := by decide +kernel
theorem cut_len (z : Str) (lo hi : Option Int) : (cutS z lo hi).length ≤ z.length := by
  unfold cutS
  show (List.toArray _).size ≤ z.cps.size
  rw [List.size_toArray, List.length_take]
  rw [List.length_drop, Array.length_toList]
  omega
section
variable {P : Program} {w : World} {K : PySem.W.Frag} {mg : Str → Option Value} {base : Heap} {A : Adr} {f : Addr} {fd : FuncData}
theorem scBad : FnScope ["cell", "way", "some", "text", "at"] ["cell", "way"] (defScope sBad) := ⟨rfl, rfl, rfl, by decide +kernel, rfl, by decide +kernel, by decide +kernel⟩
theorem ok_bad (F : FnP K "_law_bad" "_law_bad" sBad [] f fd) (T : Txt K mg A) (GN : Def P w K mg base CX0 2 "_law_name" ["number", "way"] spName) : FnOk P w K mg base CX0 3 f fd ["cell", "way"] spBad := by
  obtain ⟨fN, fdN, gN, kN, bN, FN⟩ := GN
  refine F.ok scBad (fun vs H Q E h => ?_) (fun cdv R outer s H vs Q E hr h => ⟨_, PSs.nox (pss_cons
      (ps_if (pt_cmpR op_eq (pe_op op_mod (pv 0) pe_int) pe_int (nomark _))
        (pss_cons (ps_set (i := 2) scBad.nd rfl (.inl rfl) (pe_lst (pa_cons pe_str (pa_cons pe_str (pa_cons pe_str (pa_cons pe_str (pa_cons pe_str (pa_cons pe_str (pa_cons pe_str (pa_cons pe_str (pa_cons pe_str (pa_cons pe_str (pa_cons pe_str (pa_cons pe_str (pa_cons pe_str (pa_cons pe_str pa_nil))))))))))))))))
        (pss_one (ps_ret (pe_ix ix_list (pv 2) (pe_op op_mod (pe_op op_fdiv (pv 0) pe_int) pe_int) (fun _ _ => rfl))))) pss_nil)
      (pss_cons (ps_set (i := 3) scBad.nd rfl (.inl rfl) (pe_call FN hr rfl gN kN bN .nil pass0 (pa_cons (pe_op op_mod (pe_op op_fdiv (pv 0) pe_int) pe_int) (pa_cons (pv 1) pa_nil))))
      (pss_cons (ps_set (i := 4) scBad.nd rfl (.inl rfl) (pe_op op_mod (pe_op op_fdiv (pv 0) pe_int) (pe_op op_add (pe_callB call_len_str (by rfl) T.bLen PySem.boot_len (pa_cons (pv 3) pa_nil)) pe_int)))
      (pss_one (ps_ret (pe_op op_add_str (pe_op op_add_str (pe_slice sl_str (pv 3) po_none (po_some (pv 4))) (pe_item_str pe_str (pe_op op_mod (pe_op op_fdiv (pv 0) pe_int) pe_int) (fun _ _ => rfl))) (pe_slice sl_str (pv 3) (po_some (pv 4)) po_none))))))), ?_⟩)
  · obtain ⟨n, wy, rfl, _⟩ := h
    rfl
  · obtain ⟨n, wy, rfl, k⟩ := h
    have hsz : (sizeLine : Nat) = 16777216 := sizeLine_eq
    refine ⟨_, rfl, _, _, rfl, rfl, (by show (0 : Int) < 2; decide), rfl, _, rfl, ?_⟩
    by_cases c : n % 2 = 0
    · rw [decide_eq_true (show V.int (n % 2) = V.int 0 by rw [c])]
      refine iteT ⟨(by show 14 ≤ sizeLine; omega), fun l hl => ?_⟩
      have hj : (n / 2 % 14).toNat < some14.length := by
        show _ < 14
        omega
      refine ⟨_, rfl, _, rfl, _, _, rfl, rfl, ⟨by decide, by decide⟩, _, _, rfl, rfl, (by show (0 : Int) < 14; decide), l, some14.map V.str, _, .str (some14[(n / 2 % 14).toNat]), rfl, rfl, SqL.of upd_same, at_of (j := (n / 2 % 14).toNat) (by show n / 2 % 14 = _; omega) (by rw [List.getElem?_map, List.getElem?_eq_getElem hj]; rfl), ?_⟩
      exact k _ _ (same_new hl)
    · rw [decide_eq_false (show ¬ V.int (n % 2) = V.int 0 from fun z => c (V.int.inj z))]
      refine iteF ⟨_, rfl, _, _, rfl, rfl, ⟨by decide, by decide⟩, _, _, rfl, rfl, (by show (0 : Int) < 300; decide), _, rfl, _, _, rfl, ?_⟩
      have hl : (lawName (n / 2 % 300) wy).length ≤ 12 := (name_good _ _).2.1
      refine ⟨_, rfl, _, _, rfl, rfl, ⟨by decide, by decide⟩, _, rfl, _, rfl, (by omega), _, _, rfl, rfl, _, _, rfl, rfl, (by omega), ?_⟩
      have h21 : (n / 7800 % 21).toNat < odd21.cps.size := by
        have := odd_len
        show _ < odd21.length
        omega
      have c1 := cut_len (lawName (n / 2 % 300) wy) none (some (n / 600 % ((lawName (n / 2 % 300) wy).length + 1)))
      have c2 := cut_len (lawName (n / 2 % 300) wy) (some (n / 600 % ((lawName (n / 2 % 300) wy).length + 1))) none
      refine ⟨_, rfl, _, rfl, _, rfl, _, rfl, (by omega), _, rfl, _, _, rfl, rfl, ⟨by decide, by decide⟩, _, _, rfl, rfl, (by show (0 : Int) < 21; decide), odd21, _, odd21.cps[(n / 7800 % 21).toNat], rfl, rfl, Int.emod_nonneg _ (by decide), ?_, ?_, Array.getElem?_eq_getElem h21, _, _, rfl, rfl, ?_, ?_⟩
      · show n / 7800 % 21 < 2 ^ 63
        omega
      · rw [odd_len]
        show n / 7800 % 21 < 21
        omega
      · show _ + 1 ≤ _
        omega
      · refine ⟨_, rfl, _, rfl, _, rfl, _, rfl, (by omega), _, _, rfl, rfl, ?_, ?_⟩
        · show (_ ++ #[_] : Array Nat).size + _ ≤ _
          rw [Array.size_append]
          show _ + 1 + _ ≤ _
          have q : (cutS (lawName (n / 2 % 300) wy) none (some (n / 600 % ((lawName (n / 2 % 300) wy).length + 1)))).cps.size ≤ 12 := Nat.le_trans c1 hl
          omega
        · exact k _ _ (Same.refl _)
end
end K07

set_option maxHeartbeats 4100000
namespace K07
open PySem PySem.Spec PyProof.Rows L2
def words8 : List Str := ["NoName", "NoNumber", "NoThing", "NoKey", "NoTie", "Twice", "StillTied", "Full"]
/-- the flags of a class, the only true one at j -/
structure Flags (bs : List Bool) (j : Nat) (nm : Str) : Prop where
  one : (bs.map V.bl).countP (fun z => eqV z (.bl true)) = 1
  at_ : (bs.map V.bl)[j]? = some (.bl true)
  nob : ((bs.map V.bl).take j).all (fun z => !eqV z (.bl true)) = true
  flat : (bs.map V.bl).all flatV = true
  word : words8[j]? = some nm
theorem Flags.no {bs : List Bool} {j : Nat} {nm : Str} (h : Flags bs j nm) (i : Nat) (z : V) (hi : i < j) (hz : (bs.map V.bl)[i]? = some z) : eqV z (.bl true) = false := by
  have q : ((bs.map V.bl).take j)[i]? = some z := by rw [List.getElem?_take_of_lt hi, hz]
  have r := List.all_eq_true.mp h.nob z (List.mem_of_getElem? q)
  simpa using r
section
variable {P : Program} {w : World} {K : PySem.W.Frag} {mg : Str → Option Value} {base : Heap} {A : Adr} {f : Addr} {fd : FuncData}
theorem scWhich : FnScope ["e", "flags", "words"] ["e"] (defScope sWhich) := ⟨rfl, rfl, rfl, by decide +kernel, rfl, by decide +kernel, by decide +kernel⟩
/-- the def called with a pinned error of the class at D tells nm -/
def WhichOk (P : Program) (w : World) (K : PySem.W.Frag) (mg : Str → Option Value) (base : Heap) (k : Nat) (f D : Addr) (nm : Str) : Prop :=
  ∀ (R : Around) (outer : List Env) (s : Shared) (H : Hp) (p : Addr × Obj) (Q : VK), L2H.RoomH k R → L2H.PinOk outer H s p → Zc (.ref D) none p.2 → (∃ vs, p.2.data = .fields vs) → Env0 P w K mg base R outer s H →
    (∀ H', Same H H' → Q (.str nm) H') → codeAny (model P w) R (.call (.ref f) ⟨[.ref p.1], []⟩) (CR CX0 outer P w H s Q E0) s
abbrev NWh : List Str := ["e", "flags", "words"]
theorem which_body {cdv : Value} {R : Around} {outer : List Env} {s : Shared} {H : Hp} {p : Addr × Obj} {x : Str} {D : Addr} {b1 b2 b3 b4 b5 b6 b7 b8 : Bool} {j : Nat} {nm : Str}
    (T : Txt K mg A) (e : ExcF K mg A x D b1 b2 b3 b4 b5 b6 b7 b8) (hz : Zc (.ref D) none p.2) (hf : ∃ vs, p.2.data = .fields vs) (h : Flags [b1, b2, b3, b4, b5, b6, b7, b8] j nm) {Q : VK} (k : ∀ H', Same H H' → Q (.str nm) H') :
    ∃ t, PSs (L2H.cxH CX0 P w K mg base NWh "_law_which" (defScope sWhich) f cdv R outer s H E0 p) (defBody sWhich) t ∧ t { nx := fun _ H' => Q .non H', rt := Q } [some (.ref p.1), none, none] H := by
  have mp : p ∈ (L2H.cxH CX0 P w K mg base NWh "_law_which" (defScope sWhich) f cdv R outer s H E0 p).pn := List.mem_singleton.mpr rfl
  have bi : bootBuiltins "isinstance" = some (.builtin "isinstance") := by decide +kernel
  have bv : bootBuiltins "ValueError" = some (.type "ValueError") := by decide +kernel
  have isi := call_isP (X := L2H.cxH CX0 P w K mg base NWh "_law_which" (defScope sWhich) f cdv R outer s H E0 p) mp e.cc hz hf
  refine ⟨_, pss_cons (ps_set (i := 1) scWhich.nd rfl (.inl rfl) (pe_lst (pa_cons (pe_callB isi (by rfl) T.bIsi bi (pa_cons (pv 0) (pa_cons (pe_glob (v := .ref A.nn) rfl T.gNN rfl) pa_nil))) (pa_cons (pe_callB isi (by rfl) T.bIsi bi (pa_cons (pv 0) (pa_cons (pe_glob (v := .ref A.nu) rfl T.gNU rfl) pa_nil)))
        (pa_cons (pe_callB isi (by rfl) T.bIsi bi (pa_cons (pv 0) (pa_cons (pe_glob (v := .ref A.nt) rfl T.nt.g rfl) pa_nil))) (pa_cons (pe_callB isi (by rfl) T.bIsi bi (pa_cons (pv 0) (pa_cons (pe_glob (v := .ref A.nk) rfl T.gNK rfl) pa_nil))) pa_nil))))))
      (pss_cons (ps_set (i := 1) scWhich.nd rfl (.inl rfl) (pe_op op_cat (pv 1) (pe_lst (pa_cons (pe_callB isi (by rfl) T.bIsi bi (pa_cons (pv 0) (pa_cons (pe_glob (v := .ref A.ni) rfl T.gNI rfl) pa_nil))) (pa_cons (pe_callB isi (by rfl) T.bIsi bi (pa_cons (pv 0) (pa_cons (pe_glob (v := .ref A.tw) rfl T.tw.g rfl) pa_nil)))
        (pa_cons (pe_callB isi (by rfl) T.bIsi bi (pa_cons (pv 0) (pa_cons (pe_glob (v := .ref A.st) rfl T.st.g rfl) pa_nil))) (pa_cons (pe_callB isi (by rfl) T.bIsi bi (pa_cons (pv 0) (pa_cons (pe_glob (v := .ref A.fu) rfl T.gFU rfl) pa_nil))) pa_nil)))))))
      (pss_cons (ps_if (PW.pt (pw_or (pt_not (pt_val (pe_callB isi (by rfl) T.bIsi bi (pa_cons (pv 0) (pa_cons (pe_bltn (v := .ty "ValueError") (by rfl) T.bVE bv rfl) pa_nil)))))
          (pw_or1 (pt_cmpR op_ne (pe_bm PySem.F.plainAttrs_list PySem.F.slot_list_count PySem.F.type_list_count mt_countF (pv 1) (pa_cons pe_bl pa_nil)) pe_int (nomark _))))) (pss_one (ps_ret pe_str)) pss_nil)
      (pss_cons (ps_set (i := 2) scWhich.nd rfl (.inl rfl) (pe_lst (pa_cons pe_str (pa_cons pe_str (pa_cons pe_str (pa_cons pe_str (pa_cons pe_str (pa_cons pe_str (pa_cons pe_str (pa_cons pe_str pa_nil))))))))))
      (pss_one (ps_ret (pe_ix ix_list (pv 2) (pe_bm PySem.F.plainAttrs_list PySem.F.slot_list_index PySem.F.type_list_index mt_index (pv 1) (pa_cons pe_bl pa_nil)) (fun _ _ => rfl))))))), ?_⟩
  have hsz : (sizeLine : Nat) = 16777216 := sizeLine_eq
  have rf : ∀ {a : Addr} (u : Value), RelV (.ref a) u → u = .ref a := fun _ z => z
  refine ⟨_, rfl, .ref A.nn, .ref A.nn, b1, rfl, rf, e.i1, _, rfl, .ref A.nu, .ref A.nu, b2, rfl, rf, e.i2, _, rfl, .ref A.nt, .ref A.nt, b3, rfl, rf, e.i3, _, rfl, .ref A.nk, .ref A.nk, b4, rfl, rf, e.i4, (by show 4 ≤ sizeLine; omega), fun l1 h1 => ?_⟩
  refine ⟨_, rfl, _, rfl, .ref A.ni, .ref A.ni, b5, rfl, rf, e.i5, _, rfl, .ref A.tw, .ref A.tw, b6, rfl, rf, e.i6, _, rfl, .ref A.st, .ref A.st, b7, rfl, rf, e.i7, _, rfl, .ref A.fu, .ref A.fu, b8, rfl, rf, e.i8, (by show 4 ≤ sizeLine; omega), fun l2 h2 => ?_⟩
  refine ⟨l1, l2, _, _, rfl, rfl, (same_new h2) _ _ upd_same, upd_same, (by show 4 + 4 ≤ sizeLine; omega), fun l3 h3 => ?_⟩
  have s3 : Same H (upd (upd (upd H l1 (.lst [.bl b1, .bl b2, .bl b3, .bl b4])) l2 (.lst [.bl b5, .bl b6, .bl b7, .bl b8])) l3 (.lst [.bl b1, .bl b2, .bl b3, .bl b4, .bl b5, .bl b6, .bl b7, .bl b8])) := ((same_new h1).trans (same_new h2)).trans (same_new h3)
  refine ⟨_, rfl, .ty "ValueError", .type "ValueError", true, rfl, fun _ z => z, e.v, _, rfl, iteF ?_⟩
  have L : SqL K (upd (upd (upd H l1 (.lst [.bl b1, .bl b2, .bl b3, .bl b4])) l2 (.lst [.bl b5, .bl b6, .bl b7, .bl b8])) l3 (.lst [.bl b1, .bl b2, .bl b3, .bl b4, .bl b5, .bl b6, .bl b7, .bl b8])) l3 ([b1, b2, b3, b4, b5, b6, b7, b8].map V.bl) := SqL.of upd_same
  refine ⟨_, rfl, .inl ⟨rfl, _, L⟩, l3, _, .bl true, rfl, rfl, L, rfl, h.flat, rfl, _, rfl, ?_⟩
  rw [h.one]
  refine iteF ⟨(by show 8 ≤ sizeLine; omega), fun l4 h4 => ?_⟩
  have L4 := (same_new (o := .lst (words8.map V.str)) h4).seq L
  refine ⟨_, rfl, _, rfl, .inl ⟨rfl, _, L4⟩, l3, _, .bl true, j, _, rfl, rfl, L4, rfl, h.flat, h.at_, rfl, h.no, l4, words8.map V.str, _, .str nm, rfl, rfl, SqL.of upd_same, atI_nat (by rw [List.getElem?_map, h.word]; rfl), ?_⟩
  exact k _ (s3.trans (same_new h4))
theorem which_ok {x : Str} {D : Addr} {b1 b2 b3 b4 b5 b6 b7 b8 : Bool} {j : Nat} {nm : Str} (F : FnP K "_law_which" "_law_which" sWhich [] f fd) (bE : Binds K fd ["e"] [])
    (T : Txt K mg A) (e : ExcF K mg A x D b1 b2 b3 b4 b5 b6 b7 b8) (h : Flags [b1, b2, b3, b4, b5, b6, b7, b8] j nm) : WhichOk P w K mg base 1 f D nm := by
  obtain ⟨oc, od, dV, kV, doc, pm, an, cdv, ct, osl, hfd, lk, hcd, _, _⟩ := F.ex
  intro R outer s H p Q hr hpin hz hf e0 k
  have KX : K.In s.heap := e0.mod.kin.keeps fun b o q => (e0.bs b o q).1
  have bnd := bE s [.ref p.1] KX rfl
  rw [hfd] at lk bnd
  have loc : ∀ y ∈ (["e"] : List Str).zip [Value.ref p.1], (defScope sWhich).names.lookup y.1 = some .local ∨ ((defScope sWhich).names.lookup y.1 = some .cell ∧ ((cellsFrom (s.heap.objs.size + 1) (defScope sWhich).names []).lookup y.1).isSome = true) := fun y hy => by
    have q : y = (("e" : Str), Value.ref p.1) := by simpa using hy
    rw [q]
    exact .inl rfl
  refine codeAny_call_function (L2H.RoomH.depth hr) (KX _ _ lk) rfl scWhich.co scWhich.gen rfl (PySem.W.codeRec_of KX hcd) (bnd _ _ _ _ ?_)
  refine wpAny_newFunctionEnv_cells scWhich.kind loc fun env he s1 ic => ?_
  subst he
  refine ⟨(e0.mod.nolimit.keeps fun b o q => (e0.bs b o q).1).keeps ic.toInCall.keep, codeAny_func ?_⟩
  obtain ⟨t, ht, hq⟩ := which_body (P := P) (w := w) (base := base) (f := f) (cdv := cdv) (R := R) (outer := outer) (s := s) (H := H) T e hz hf h k
  have I : Inv (L2H.cxH CX0 P w K mg base NWh "_law_which" (defScope sWhich) f cdv R outer s H E0 p) [] [some (.ref p.1), none, none] H s1 := L2H.inv_startH (vs := [V.ref p.1]) scWhich hpin e0 rfl (.cons rfl .nil) ic
  refine wpAny_mono (ht.run [] s1 _ H _ I hq) (fun fl s' hs => ?_) fun _ _ hs => hs
  cases fl with
  | ret u =>
    obtain ⟨v, σ1, G1, K1, isV, q1⟩ := hs
    exact ⟨v, G1, K1.os, K1.bare, K1.base, K1.hok, isV, q1⟩
  | next =>
    obtain ⟨σ1, G1, K1, q1⟩ := hs
    exact ⟨V.non, G1, K1.os, K1.bare, K1.base, K1.hok, rfl, q1⟩
  | brk => exact hs.choose_spec.choose_spec.2.elim
  | cont => exact hs.choose_spec.choose_spec.2.elim

/-! ### its call in an except suite -/
def WhichIs (A : Adr) (D : Addr) (nm : Str) : Prop := (D = A.nt ∧ nm = ("NoThing" : Str)) ∨ (D = A.tw ∧ nm = ("Twice" : Str)) ∨ (D = A.st ∧ nm = ("StillTied" : Str))
structure Which (P : Program) (w : World) (K : PySem.W.Frag) (mg : Str → Option Value) (base : Heap) (A : Adr) : Prop where
  ex : ∃ f, mg "_law_which" = some (.ref f) ∧ PySem.W.keepIn K (.ref f) = true ∧ ∀ D nm, WhichIs A D nm → WhichOk P w K mg base 1 f D nm
theorem which_mk (F : FnP K "_law_which" "_law_which" sWhich [] f fd) (bE : Binds K fd ["e"] []) (g : mg "_law_which" = some (.ref f)) (T : Txt K mg A) : Which P w K mg base A := by
  refine ⟨f, g, F.kp, fun D nm h => ?_⟩
  rcases h with ⟨rfl, rfl⟩ | ⟨rfl, rfl⟩ | ⟨rfl, rfl⟩
  · exact which_ok (j := 2) F bE T T.nt ⟨by decide, rfl, by decide, rfl, rfl⟩
  · exact which_ok (j := 5) F bE T T.tw ⟨by decide, rfl, by decide, rfl, rfl⟩
  · exact which_ok (j := 6) F bE T T.st ⟨by decide, rfl, by decide, rfl, rfl⟩
def tWhich (A : Adr) (i : Nat) (a : Addr) (cls : Value) (d : Option Addr) : TE := fun σ H Q => σ[i]? = some (some (.ref a)) ∧ d = none ∧ ∃ D nm, cls = .ref D ∧ WhichIs A D nm ∧ ∀ H', Same H H' → Q (.str nm) H'
theorem pe_which {X : Cx} {a : Addr} {oe : Obj} {cls : Value} {d : Option Addr} {pn : List (Addr × Obj)} {i : Nat} {x : Str} {q p1 pos : Pos} (W : Which X.prog X.w X.K X.mg X.base A) (hr : Room 1 X.A) (hz : Zc cls d oe) (hf : ∃ vs, oe.data = .fields vs)
    (hv : PE (X.suite a ((a, oe) :: pn)) (.Name x p1) (tVar i)) (hg : Gl X "_law_which") : PE (X.suite a ((a, oe) :: pn)) (.Call (.Name "_law_which" q) [.Name x p1] [] pos) (tWhich A i a cls d) := by
  obtain ⟨f, gW, kW, hW⟩ := W.ex
  refine ⟨fun pins s σ H Q I h => ?_⟩
  obtain ⟨hs, hd, D, nm, hc, wi, k⟩ := h
  subst hd hc
  refine wpAny_Call_Name_kw (ld_glob I hg gW ?_)
  refine PySem.W.callWith_K (h₀ := X.base) I.ok.mod.kin kW (thn ((pa_cons hv pa_nil).run pos pins s σ H (fun vs H1 => vs = [V.ref a] ∧ H = H1) I ⟨_, hs, rfl, rfl⟩) fun us s1 hh => ?_) rfl rfl
  obtain ⟨ws, G1, I1, rw1, e1, e2⟩ := hh
  subst e1 e2
  obtain ⟨u, rfl, isA⟩ := rw1.one
  obtain rfl : u = Value.ref a := isA
  refine ⟨I1.kIn, ?_⟩
  have pin := I1.pin (a, oe) (List.mem_append_left _ List.mem_cons_self)
  have pk : L2H.PinOk X.stack H s1 (a, oe) := ⟨pin.1, pin.2.1, fun hm => (List.mem_cons.mp (I1.stkSub a hm)).elim pin.2.2.1 pin.2.2.2.1, pin.2.2.2.2⟩
  refine wpAny_call (codeAny_mono (hW D nm wi (X.suite a ((a, oe) :: pn)).A X.stack s1 H (a, oe) Q ⟨hr.dp, hr.un⟩ pk hz hf I1.env0 k) fun r s' hq => ?_)
  cases r with
  | error err => exact False.elim hq
  | ok fl =>
    cases fl with
    | ret u => exact I1.after hq
    | next => exact False.elim hq
    | brk => exact False.elim hq
    | cont => exact False.elim hq
end
end K07

set_option maxHeartbeats 4100000
namespace K07
open PySem PySem.Spec PyProof.Rows L2
/-! ### the law's own data -/
inductive Deed where
  | tie (s n e : Str)
  | cut (k : Int)
  | add (x : Str)
  | drop (x : Str)
def Deed.vals : Deed → List V
  | .tie s n e => [.str "tie", .str s, .str n, .str e]
  | .cut k => [.str "cut", .int k]
  | .add x => [.str "add", .str x]
  | .drop x => [.str "drop", .str x]
def DeedOk (way many : Int) (m : M) : Deed → Prop
  | .tie _ n _ => Good n
  | .cut k => ∃ r ∈ m.rows, r.num = k
  | .add x => ∃ i : Int, 0 ≤ i ∧ i < many ∧ x = lawName i way
  | .drop _ => True
inductive Out where
  | told
  | num (c : Int)
  | ref (w : Str)
def Out.vals : Out → List V
  | .told => [.str "told", .non]
  | .num c => [.str "told", .int c]
  | .ref w => [.str "refused", .str w]
def step (m : M) : Deed → M × Out
  | .cut k => (m.cut k, .told)
  | .add x => if x ∈ m.things then (m, .ref "Twice") else (m.add x, .told)
  | .drop x => if x ∈ m.things then (if tied m.rows x = true then (m, .ref "StillTied") else (m.drop x, .told)) else (m, .ref "NoThing")
  | .tie s n e => if s ∈ m.things ∧ e ∈ m.things then (m.tie s n e, .num m.coming) else (m, .ref "NoThing")
abbrev RL := List (Row × Addr)
def rowsT (L : RL) : List (Int × V) := L.map fun p => (p.1.num, V.ref p.2)
def thingsT (l : List Str) : List (Str × V) := l.map fun x => (x, V.bl true)
structure LawAt (H : Hp) (tA rA : Addr) (m : M) (L : RL) : Prop where
  th : H tA = some (.dK (tabS (thingsT m.things)))
  rw_ : H rA = some (.dK (tabI (rowsT L)))
  rwR : L.map (·.1) = m.rows
  rwT : ∀ p ∈ L, H p.2 = some (.tup [.str p.1.st, .str p.1.nm, .str p.1.en])
theorem LawAt.same {H H' : Hp} {tA rA : Addr} {m : M} {L : RL} (t : LawAt H tA rA m L) (k : Same H H') : LawAt H' tA rA m L := ⟨k _ _ t.th, k _ _ t.rw_, t.rwR, fun p hp => k _ _ (t.rwT p hp)⟩
theorem rows_keys {H : Hp} {tA rA : Addr} {m : M} {L : RL} (t : LawAt H tA rA m L) : (tabI (rowsT L)).map (·.1) = (m.rows.map (·.num)).map Sum.inl := by
  rw [← t.rwR]
  unfold tabI rowsT
  rw [List.map_map, List.map_map, List.map_map, List.map_map]
  rfl
theorem rowsT_len {H : Hp} {tA rA : Addr} {m : M} {L : RL} (t : LawAt H tA rA m L) : (tabI (rowsT L)).length = m.rows.length := by
  rw [lenI, ← t.rwR]
  unfold rowsT
  rw [List.length_map, List.length_map]
def spDeed : Sp := fun vs H Q _ => ∃ cell way many tA rA m L, vs = [.int cell, .int way, .int many, .ref rA] ∧ 0 < many ∧ LawAt H tA rA m L ∧ m.rows.length < 400 ∧
  ∀ d p H', Same H H' → DeedOk way many m d → H p = none → H' p = some (.tup d.vals) → Q (.ref p) H'
section
variable {P : Program} {w : World} {K : PySem.W.Frag} {mg : Str → Option Value} {base : Heap} {A : Adr} {f : Addr} {fd : FuncData}
theorem scDeed : FnScope ["cell", "way", "many", "rows", "rest", "name", "numbers"] ["cell", "way", "many", "rows"] (defScope sDeed) := ⟨rfl, rfl, rfl, by decide +kernel, rfl, by decide +kernel, by decide +kernel⟩
theorem ok_deed (F : FnP K "_law_deed" "_law_deed" sDeed [] f fd) (T : Txt K mg A) (GN : Def P w K mg base CX0 2 "_law_name" ["number", "way"] spName) : FnOk P w K mg base CX0 3 f fd ["cell", "way", "many", "rows"] spDeed := by
  obtain ⟨fN, fdN, gN, kN, bN, FN⟩ := GN
  refine F.ok scDeed (fun vs H Q E h => ?_) (fun cdv R outer s H vs Q E hr h => ⟨_, PSs.nox (pss_cons
      (ps_set (i := 4) scDeed.nd rfl (.inl rfl) (pe_op op_fdiv (pv 0) pe_int))
      (pss_cons (ps_set (i := 5) scDeed.nd rfl (.inl rfl) (pe_call FN hr rfl gN kN bN .nil pass0 (pa_cons (pe_op op_mod (pv 4) (pv 2)) (pa_cons (pv 1) pa_nil))))
      (pss_cons (ps_if (pt_cmpR op_lt (pe_op op_mod (pv 0) pe_int) pe_int (nomark _))
        (pss_one (ps_ret (pe_tup (pa_cons pe_str (pa_cons (pv 5) (pa_cons (pe_call FN hr rfl gN kN bN .nil pass0 (pa_cons (pe_op op_mod (pe_op op_fdiv (pv 4) pe_int) pe_int) (pa_cons (pv 1) pa_nil))) (pa_cons (pe_call FN hr rfl gN kN bN .nil pass0 (pa_cons (pe_op op_mod (pe_op op_fdiv (pv 4) pe_int) (pv 2)) (pa_cons (pv 1) pa_nil))) pa_nil))))))) pss_nil)
      (pss_cons (ps_if (PW.pt (pw_and (pt_cmpR op_eq (pe_op op_mod (pv 0) pe_int) pe_int (nomark _)) (pw_and1 (pt_cmpR op_gt (pe_callB call_lenD (by rfl) T.bLen PySem.boot_len (pa_cons (pv 3) pa_nil)) pe_int (nomark _)))))
        (pss_cons (ps_set (i := 6) scDeed.nd rfl (.inl rfl) (pe_callB (call_sortedDA rfl) (by rfl) T.bSorted (by decide +kernel) (pa_cons (pv 3) pa_nil)))
        (pss_one (ps_ret (pe_tup (pa_cons pe_str (pa_cons (pe_ix ix_list (pv 6) (pe_op op_mod (pv 4) (pe_callB call_len_seq (by rfl) T.bLen PySem.boot_len (pa_cons (pv 6) pa_nil))) (fun _ _ => rfl)) pa_nil)))))) pss_nil)
      (pss_cons (ps_if (pt_cmpR op_eq (pe_op op_mod (pv 0) pe_int) pe_int (nomark _))
        (pss_one (ps_ret (pe_tup (pa_cons pe_str (pa_cons (pv 5) pa_nil))))) pss_nil)
      (pss_one (ps_ret (pe_tup (pa_cons pe_str (pa_cons (pv 5) pa_nil))))))))))
    , ?_⟩)
  · obtain ⟨c, wy, mn, tA, rA, m, L, rfl, _⟩ := h
    rfl
  · obtain ⟨c, wy, mn, tA, rA, m, L, rfl, hm, t, hlen, k⟩ := h
    have hsz : (sizeLine : Nat) = 16777216 := sizeLine_eq
    refine ⟨_, rfl, _, _, rfl, rfl, ⟨by decide, by decide⟩, _, rfl, _, rfl, _, _, rfl, rfl, hm, _, rfl, _, _, rfl, ?_⟩
    have two : (2 : Nat) ≤ sizeLine := by omega
    have hi := Int.emod_nonneg (c / 5) (show mn ≠ 0 by omega)
    have hj := Int.emod_lt_of_pos (c / 5) hm
    refine ⟨_, rfl, _, _, rfl, rfl, (by show (0 : Int) < 5; decide), _, _, rfl, rfl, _, rfl, ?_⟩
    refine ite2 (fun _ => ?_) fun _ => ?_
    · refine ⟨_, rfl, _, rfl, _, _, rfl, rfl, ⟨by decide, by decide⟩, _, _, rfl, rfl, (by show (0 : Int) < 4; decide), _, rfl, _, _, rfl, _, rfl, _, _, rfl, rfl, ⟨by decide, by decide⟩, _, rfl, _, _, rfl, rfl, hm, _, rfl, _, _, rfl, (by show 4 ≤ sizeLine; omega), fun p hp => ?_⟩
      exact k (.tie _ _ _) p _ (same_new hp) (name_good _ _) hp upd_same
    · have tail : ∀ {D : Ends} {σ : L2.St}, D.rt = Q → σ[0]? = some (some (V.int c)) → σ[5]? = some (some (V.str (lawName (c / 5 % mn) wy))) →
          tSeq (tIfS (tTest (tOp rEq (tOp (rI (fun _ j => 0 < j) fun i j => .int (i % j)) (tVar 0) (tC (.int 5))) (tC (.int 3)))) (tRet (tTup (tCons (tC (.str "add")) (tCons (tVar 5) tNil)))) tNext) (tRet (tTup (tCons (tC (.str "drop")) (tCons (tVar 5) tNil)))) D σ H := fun {D σ} hD h0 h5 => by
        refine ⟨_, h0, _, _, rfl, rfl, (by show (0 : Int) < 5; decide), rfl, _, rfl, ite2 (fun _ => ?_) fun _ => ?_⟩
        · refine ⟨_, h5, two, fun p hp => ?_⟩
          show D.rt _ _
          rw [hD]
          exact k (.add _) p _ (same_new hp) ⟨_, hi, hj, rfl⟩ hp upd_same
        · refine ⟨_, h5, two, fun p hp => ?_⟩
          show D.rt _ _
          rw [hD]
          exact k (.drop _) p _ (same_new hp) trivial hp upd_same
      refine ⟨_, rfl, _, _, rfl, rfl, (by show (0 : Int) < 5; decide), rfl, _, rfl, ite2 (fun _ => ?_) fun _ => ?_⟩
      · refine ⟨_, rfl, _, _, rfl, t.rw_, _, _, rfl, rfl, _, rfl, ite2 (fun hgt => ?_) fun _ => ?_⟩
        · have hpos : 0 < m.rows.length := by
            have q := of_decide_eq_true hgt
            rw [rowsT_len t] at q
            omega
          refine ⟨_, rfl, rA, _, m.rows.map (·.num), rfl, Rd.of t.rw_, rows_keys t, (by rw [List.length_map]; omega), fun ys l hperm hup hl => ?_⟩
          have hyl : ys.length = m.rows.length := by rw [hperm.length_eq, List.length_map]
          have hmod0 := Int.emod_nonneg (c / 5) (show (ys.length : Int) ≠ 0 by omega)
          have hmod1 := Int.emod_lt_of_pos (c / 5) (show 0 < (ys.length : Int) by omega)
          have hjl : (c / 5 % (ys.length : Int)).toNat < ys.length := by omega
          refine ⟨_, rfl, _, rfl, _, rfl, _, (ys.map V.int), rfl, .inl (SqL.of upd_same), _, _, rfl, rfl, ?_, l, ys.map V.int, _, .int (ys[(c / 5 % (ys.length : Int)).toNat]), rfl, rfl, SqL.of upd_same, at_of (j := (c / 5 % (ys.length : Int)).toNat) ?_ (by rw [List.getElem?_map, List.getElem?_eq_getElem hjl]; rfl), two, fun p hp => ?_⟩
          · rw [List.length_map]
            omega
          · show c / 5 % ((ys.map V.int).length : Int) = _
            rw [List.length_map]
            omega
          · have hmem := hperm.mem_iff.mp (List.getElem_mem hjl)
            obtain ⟨r, hr1, hr2⟩ := List.mem_map.mp hmem
            exact k (.cut _) p _ ((same_new hl).trans (same_new hp)) ⟨r, hr1, hr2⟩ (upd_none hp).2 upd_same
        · exact tail rfl rfl rfl
      · exact iteF (tail rfl rfl rfl)
end
end K07

set_option maxHeartbeats 4100000
namespace K07
open PySem PySem.Spec PyProof.Rows L2
def spDue : Sp := fun vs H Q _ => ∃ tA rA dA m L way many d, vs = [.ref rA, .ref tA, .ref dA, .int m.coming] ∧ tA ≠ rA ∧ LawAt H tA rA m L ∧ MOk m ∧ H dA = some (.tup (Deed.vals d)) ∧ DeedOk way many m d ∧ m.rows.length < 400 ∧ m.things.length < 100 ∧
  ∀ p H' L', LawAt H' tA rA (step m d).1 L' → (∀ q ∈ L', q ∈ L ∨ H q.2 = none) → (∀ b o, H b = some o → b ≠ tA → b ≠ rA → H' b = some o) → H p = none → H' p = some (.tup (step m d).2.vals) → Q (.ref p) H'
section
variable {H : Hp} {tA rA : Addr} {m : M} {L : RL}
theorem LawAt.th_has (t : LawAt H tA rA m L) (x : Str) : (valV (tabS (thingsT m.things)) (Sum.inr x)).isSome = decide (x ∈ m.things) := by
  rw [valS]
  have e : (thingsT m.things).map (·.1) = m.things := by
    unfold thingsT
    rw [List.map_map]
    exact List.map_id _
  by_cases h : x ∈ m.things
  · obtain ⟨v, q⟩ := val_has (L := thingsT m.things) (k := x) (by rw [e]; exact h)
    rw [q, decide_eq_true h]
    rfl
  · rw [val_none (by rw [e]; exact h), decide_eq_false h]
    rfl
theorem things_keys (l : List Str) : (thingsT l).map (·.1) = l := by
  unfold thingsT
  rw [List.map_map]
  exact List.map_id _
theorem things_len (l : List Str) : (tabS (thingsT l)).length = l.length := by
  rw [lenS]
  unfold thingsT
  rw [List.length_map]
theorem things_put (l : List Str) (x : Str) (h : x ∉ l) : putK (tabS (thingsT l)) (Sum.inr x) (.bl true) = tabS (thingsT (l ++ [x])) := by
  rw [putS, put_new _ (by rw [things_keys]; exact h)]
  unfold thingsT
  rw [List.map_append]
  rfl
theorem things_drop (l : List Str) (x : Str) : dropK (tabS (thingsT l)) (Sum.inr x) = tabS (thingsT (l.filter fun y => decide (y ≠ x))) := by
  rw [dropS]
  unfold dropK thingsT
  rw [List.filter_map]
  rfl
theorem rows_val (t : LawAt H tA rA m L) (o : MOk m) {p : Row × Addr} (hp : p ∈ L) : valV (tabI (rowsT L)) (Sum.inl p.1.num) = some (.ref p.2) := by
  rw [valI]
  refine val_is ?_ (List.mem_map.mpr ⟨p, hp, rfl⟩)
  have e : (rowsT L).map (·.1) = m.rows.map (·.num) := by
    rw [← t.rwR]
    unfold rowsT
    rw [List.map_map]; rw [List.map_map]
    rfl
  rw [e]
  exact o.up.imp fun h => Int.ne_of_lt h
theorem rows_drop (L : RL) (k : Int) : dropK (tabI (rowsT L)) (Sum.inl k) = tabI (rowsT (L.filter fun p => decide (p.1.num ≠ k))) := by
  rw [dropI]
  unfold dropK rowsT
  rw [List.filter_map]
  rfl
theorem rows_put (t : LawAt H tA rA m L) (o : MOk m) (r : Row) (a : Addr) (hr : r.num = m.coming) : putK (tabI (rowsT L)) (Sum.inl m.coming) (.ref a) = tabI (rowsT (L ++ [(r, a)])) := by
  rw [putI, put_new]
  · unfold rowsT
    rw [List.map_append, ← hr]
    rfl
  · intro hm
    have e : (rowsT L).map (·.1) = m.rows.map (·.num) := by
      rw [← t.rwR]
      unfold rowsT
      rw [List.map_map]; rw [List.map_map]
      rfl
    rw [e] at hm
    obtain ⟨r', hr', e2⟩ := List.mem_map.mp hm
    have := o.low r' hr'
    omega
/-- the rows' dict stands apart from the tuples -/
theorem LawAt.tup_ne (t : LawAt H tA rA m L) {p : Row × Addr} (hp : p ∈ L) : p.2 ≠ tA ∧ p.2 ≠ rA := ⟨ne_of (t.rwT p hp) t.th (by intro q; cases q), ne_of (t.rwT p hp) t.rw_ (by intro q; cases q)⟩
theorem law_cut (t : LawAt H tA rA m L) (hne : tA ≠ rA) (k : Int) : LawAt (upd H rA (.dK (dropK (tabI (rowsT L)) (Sum.inl k)))) tA rA (m.cut k) (L.filter fun p => decide (p.1.num ≠ k)) := by
  refine ⟨(upd_ne hne).trans t.th, ?_, ?_, fun p hp => ?_⟩
  · rw [upd_same, rows_drop]
  · show _ = m.rows.filter _
    rw [← t.rwR, List.filter_map]
    rfl
  · have h := (List.mem_filter.mp hp).1
    rw [upd_ne (t.tup_ne h).2]
    exact t.rwT p h
theorem law_add (t : LawAt H tA rA m L) (hne : tA ≠ rA) {x : Str} (hx : x ∉ m.things) : LawAt (upd H tA (.dK (putK (tabS (thingsT m.things)) (Sum.inr x) (.bl true)))) tA rA (m.add x) L := by
  refine ⟨?_, (upd_ne hne.symm).trans t.rw_, t.rwR, fun p hp => ?_⟩
  · rw [upd_same, things_put _ _ hx]
    rfl
  · rw [upd_ne (t.tup_ne hp).1]
    exact t.rwT p hp
theorem law_drop (t : LawAt H tA rA m L) (hne : tA ≠ rA) (x : Str) : LawAt (upd H tA (.dK (dropK (tabS (thingsT m.things)) (Sum.inr x)))) tA rA (m.drop x) L := by
  refine ⟨?_, (upd_ne hne.symm).trans t.rw_, t.rwR, fun p hp => ?_⟩
  · rw [upd_same, things_drop]
    rfl
  · rw [upd_ne (t.tup_ne hp).1]
    exact t.rwT p hp
theorem law_tie (t : LawAt H tA rA m L) (o : MOk m) (hne : tA ≠ rA) {s n e : Str} {a : Addr} (ha : H a = none) :
    LawAt (upd (upd H a (.tup [.str s, .str n, .str e])) rA (.dK (putK (tabI (rowsT L)) (Sum.inl m.coming) (.ref a)))) tA rA (m.tie s n e) (L ++ [(⟨m.coming, s, n, e⟩, a)]) := by
  refine ⟨(upd_ne hne).trans ((same_new ha) _ _ t.th), ?_, ?_, fun p hp => ?_⟩
  · rw [upd_same, rows_put t o ⟨m.coming, s, n, e⟩ a rfl]
  · rw [List.map_append, t.rwR]
    rfl
  · rcases List.mem_append.mp (hp) with h | h
    · rw [upd_ne (t.tup_ne h).2]
      exact (same_new ha) _ _ (t.rwT p h)
    · have q : p = (⟨m.coming, s, n, e⟩, a) := by simpa using h
      rw [q]
      rw [upd_ne (ne_of_none t.rw_ ha).symm, upd_same]
end
section
variable {P : Program} {w : World} {K : PySem.W.Frag} {mg : Str → Option Value} {base : Heap} {A : Adr} {f : Addr} {fd : FuncData}
theorem scDue : FnScope ["rows", "things", "deed", "coming", "name", "number"] ["rows", "things", "deed", "coming"] (defScope sDue) := ⟨rfl, rfl, rfl, by decide +kernel, rfl, by decide +kernel, by decide +kernel⟩
theorem ok_due (F : FnP K "_law_due" "_law_due" sDue [] f fd) (T : Txt K mg A) : FnOk P w K mg base CX0 1 f fd ["rows", "things", "deed", "coming"] spDue := by
  refine F.ok scDue (fun vs H Q E h => ?_) (fun cdv R outer s₀ H vs Q E hr h => ⟨_, PSs.nox (pss_cons
      (ps_if (pt_cmpR op_eq (pe_ix ix_tup (pv 2) pe_int (fun _ _ => rfl)) pe_str (nomark _))
        (pss_cons (ps_expr (pe_dpop1 (pv 0) (pe_ix ix_tup (pv 2) pe_int (fun _ _ => rfl)) ⟨rfl, rfl, rfl, rfl⟩)) (pss_one (ps_ret (pe_tup (pa_cons pe_str (pa_cons pe_non pa_nil)))))) pss_nil)
      (pss_cons (ps_set (i := 4) scDue.nd rfl (.inl rfl) (pe_ix ix_tup (pv 2) pe_int (fun _ _ => rfl)))
      (pss_cons (ps_if (pt_cmpR op_eq (pe_ix ix_tup (pv 2) pe_int (fun _ _ => rfl)) pe_str (nomark _))
        (pss_cons (ps_if (pt_cmp (pc_din (hu_of hr) (pv 4) (pv 1)) rfl) (pss_one (ps_ret (pe_tup (pa_cons pe_str (pa_cons pe_str pa_nil))))) pss_nil)
        (pss_cons (ps_dput (hu_of hr) (pv 1) (pv 4) pe_bl rfl) (pss_one (ps_ret (pe_tup (pa_cons pe_str (pa_cons pe_non pa_nil))))))) pss_nil)
      (pss_cons (ps_if (PW.pt (pw_or (pt_cmp (pc_dnotin (hu_of hr) (pv 4) (pv 1)) rfl) (pw_or1 (PW.pt (pw_and (pt_cmpR op_eq (pe_ix ix_tup (pv 2) pe_int (fun _ _ => rfl)) pe_str (nomark _)) (pw_and1 (pt_cmp (pc_dnotin (hu_of hr) (pe_ix ix_tup (pv 2) pe_int (fun _ _ => rfl)) (pv 1)) rfl)))))))
        (pss_one (ps_ret (pe_tup (pa_cons pe_str (pa_cons pe_str pa_nil))))) pss_nil)
      (pss_cons (ps_if (PW.pt (pw_and (pt_cmpR op_eq (pe_ix ix_tup (pv 2) pe_int (fun _ _ => rfl)) pe_str (nomark _)) (pw_and1 (pt_cmpR op_ge (pe_callB call_lenD (by rfl) T.bLen PySem.boot_len (pa_cons (pv 0) pa_nil)) pe_int (nomark _))))) (pss_one ps_never) pss_nil)
      (pss_cons (ps_if (pt_cmpR op_eq (pe_ix ix_tup (pv 2) pe_int (fun _ _ => rfl)) pe_str (nomark _))
        (pss_cons (ps_dput (hu_of hr) (pv 0) (pv 3) (pe_tup (pa_cons (pv 4) (pa_cons (pe_ix ix_tup (pv 2) pe_int (fun _ _ => rfl)) (pa_cons (pe_ix ix_tup (pv 2) pe_int (fun _ _ => rfl)) pa_nil)))) rfl)
          (pss_one (ps_ret (pe_tup (pa_cons pe_str (pa_cons (pv 3) pa_nil)))))) pss_nil)
      (pss_cons (ps_lock (ps_for PassesOwn.never rfl (pi_keys (pv 0)) (pg_name (i := 5) scDue.nd rfl (.inl rfl)) (pss_one (ps_if (pt_cmpR op_in_seq (pv 4)
          (pe_tup (pa_cons (pe_ix ix_tup (pe_dget (hu_of hr) (pv 0) (pv 5) (fun _ _ => rfl)) pe_int (fun _ _ => rfl)) (pa_cons (pe_ix ix_tup (pe_dget (hu_of hr) (pv 0) (pv 5) (fun _ _ => rfl)) pe_int (fun _ _ => rfl)) pa_nil))) rfl)
        (pss_one (ps_ret (pe_tup (pa_cons pe_str (pa_cons pe_str pa_nil))))) pss_nil))))
      (pss_cons (ps_expr (pe_dpop1 (pv 1) (pv 4) ⟨rfl, rfl, rfl, rfl⟩))
      (pss_one (ps_ret (pe_tup (pa_cons pe_str (pa_cons pe_non pa_nil)))))))))))))
    , ?_⟩)
  · obtain ⟨tA, rA, dA, m, L, wy, mn, d, rfl, _⟩ := h
    rfl
  · obtain ⟨tA, rA, dA, m, L, wy, mn, d, rfl, hne, t, o, hd, hok, hlen, hth, k⟩ := h
    have hsz : (sizeLine : Nat) = 16777216 := sizeLine_eq
    have two : (2 : Nat) ≤ sizeLine := by omega
    have ne1 : ∀ {a b : Str}, decide (a = b) = false → decide (V.str a = V.str b) = false := fun {a b} h => decide_eq_false fun z => (of_decide_eq_false h) (V.str.inj z)
    cases d with
    | cut kk =>
      obtain ⟨r, hr1, rfl⟩ := hok
      obtain ⟨q, hq, hqr⟩ := List.mem_map.mp (show r ∈ L.map (·.1) by rw [t.rwR]; exact hr1)
      have v := rows_val t o hq
      rw [hqr] at v
      refine ⟨_, rfl, dA, _, _, .str "cut", rfl, rfl, SqT.of hd, at_of (j := 0) rfl rfl, rfl, _, rfl, ?_⟩
      refine iteT ⟨_, rfl, rA, rfl, .inl ⟨_, Rd.of t.rw_⟩, _, rfl, dA, _, _, .int r.num, rfl, rfl, SqT.of hd, at_of (j := 1) rfl rfl, _, Sum.inl r.num, _, t.rw_, rfl, v, two, fun p hp => ?_⟩
      obtain ⟨hp1, hp2⟩ := upd_none hp
      refine k p _ _ ((law_cut t hne r.num).same (same_new hp)) (fun q hq => .inl (List.mem_filter.mp hq).1) (fun b o hb h1 h2 => ?_) hp2 upd_same
      exact (same_new hp) _ _ ((upd_ne h2).trans hb)
    | add x =>
      refine ⟨_, rfl, dA, _, _, .str "add", rfl, rfl, SqT.of hd, at_of (j := 0) rfl rfl, rfl, _, rfl, iteF ?_⟩
      refine ⟨_, rfl, dA, _, _, .str x, rfl, rfl, SqT.of hd, at_of (j := 1) rfl rfl, ?_⟩
      refine ⟨_, rfl, dA, _, _, .str "add", rfl, rfl, SqT.of hd, at_of (j := 0) rfl rfl, rfl, _, rfl, iteT ?_⟩
      refine ⟨_, rfl, _, rfl, tA, _, rfl, DGet.k (k := Sum.inr x) t.th, _, rfl, ?_⟩
      rw [t.th_has]
      by_cases c : x ∈ m.things
      · rw [decide_eq_true c]
        refine iteT ⟨two, fun p hp => ?_⟩
        have e : step m (.add x) = (m, .ref "Twice") := if_pos c
        rw [e] at k
        exact k p _ L (t.same (same_new hp)) (fun _ hq => .inl hq) (fun b o hb _ _ => same_new hp _ _ hb) hp upd_same
      · rw [decide_eq_false c]
        have e : step m (.add x) = (m.add x, .told) := if_neg c
        rw [e] at k
        refine iteF ⟨_, rfl, _, rfl, tA, _, rfl, DPut.k (k := Sum.inr x) t.th (by rw [things_len]; omega), two, fun p hp => ?_⟩
        obtain ⟨hp1, hp2⟩ := upd_none hp
        refine k p _ L ((law_add t hne c).same (same_new hp)) (fun _ hq => .inl hq) (fun b o hb h1 h2 => ?_) hp2 upd_same
        exact (same_new hp) _ _ ((upd_ne h1).trans hb)
    | drop x =>
      refine ⟨_, rfl, dA, _, _, .str "drop", rfl, rfl, SqT.of hd, at_of (j := 0) rfl rfl, rfl, _, rfl, iteF ?_⟩
      refine ⟨_, rfl, dA, _, _, .str x, rfl, rfl, SqT.of hd, at_of (j := 1) rfl rfl, ?_⟩
      refine ⟨_, rfl, dA, _, _, .str "drop", rfl, rfl, SqT.of hd, at_of (j := 0) rfl rfl, rfl, _, rfl, iteF ?_⟩
      refine ⟨_, rfl, _, rfl, tA, _, rfl, DGet.k (k := Sum.inr x) t.th, _, rfl, ?_⟩
      rw [t.th_has]
      by_cases c : x ∈ m.things
      · rw [decide_eq_true c]
        refine iteF ⟨_, rfl, dA, _, _, .str "drop", rfl, rfl, SqT.of hd, at_of (j := 0) rfl rfl, rfl, _, rfl, iteF (iteF ?_)⟩
        refine ⟨_, rfl, dA, _, _, .str "drop", rfl, rfl, SqT.of hd, at_of (j := 0) rfl rfl, rfl, _, rfl, iteF (iteF ?_)⟩
        refine ⟨_, rfl, dA, _, _, .str "drop", rfl, rfl, SqT.of hd, at_of (j := 0) rfl rfl, rfl, _, rfl, iteF ?_⟩
        -- the loop over the rows
        have hkl : (tabI (rowsT L)).length = L.length := by rw [lenI]; unfold rowsT; rw [List.length_map]
        refine ⟨rA, _, t.rw_, trivial, fun od => ?_⟩
        have lk : ∀ {b o}, H b = some o → b ≠ rA → upd H rA (.frz od (.dK (tabI (rowsT L)))) b = some o := fun hb h => (upd_ne h).trans hb
        have back : ∀ {H' : Hp}, Same (upd H rA (.frz od (.dK (tabI (rowsT L))))) H' → Same H (upd H' rA (.dK (tabI (rowsT L)))) := fun {H'} sm b o hb => by
          by_cases h : b = rA
          · rw [h, t.rw_] at hb
            rw [h, upd_same]
            exact hb
          · rw [upd_ne h]
            exact sm _ _ (lk hb h)
        have free2 : ∀ {H' : Hp} {p : Addr}, Same (upd H rA (.frz od (.dK (tabI (rowsT L))))) H' → H' p = none → H p = none := fun {H' p} sm hp => (upd_none (sm.free hp)).2
        refine ⟨_, rfl, rA, od, rfl, .inl ⟨_, upd_same, for_it walk_keys (fun i σ H' => (∃ v, σ = [some (.ref rA), some (.ref tA), some (.ref dA), some (.int m.coming), some (.str x), v]) ∧ Same (upd H rA (.frz od (.dK (tabI (rowsT L))))) H' ∧ ∀ p ∈ L.take i, p.1.st ≠ x ∧ p.1.en ≠ x)
          ⟨⟨_, rfl⟩, Same.refl _, fun p hp => by simp at hp⟩ (fun i σ H' _ h => h.2.1 _ _ upd_same) ?_ ?_⟩⟩
        · rintro i v σ H1 H2 hi ⟨⟨v0, rfl⟩, sm, hno⟩ ⟨rfl, kk, vv, hkv, rfl⟩
          rw [hkl] at hi
          obtain ⟨q, hq⟩ : ∃ q, L[i]? = some q := ⟨L[i], List.getElem?_eq_getElem hi⟩
          have hqm := List.mem_of_getElem? hq
          have e1 : kk = Sum.inl q.1.num := by
            have z : (tabI (rowsT L))[i]? = some (Sum.inl q.1.num, V.ref q.2) := by
              unfold tabI rowsT
              rw [List.getElem?_map, List.getElem?_map, hq]
              rfl
            rw [z] at hkv
            exact (Prod.mk.inj (Option.some.inj hkv)).1.symm
          subst e1
          have gR : DGet H2 rA (V.int q.1.num) (some (.ref q.2)) := .inl ⟨_, Sum.inl q.1.num, .inr ⟨od, sm _ _ upd_same⟩, rfl, (rows_val t o hqm).symm⟩
          have hT := sm _ _ (lk (t.rwT q hqm) (t.tup_ne hqm).2)
          refine ⟨_, rfl, _, rfl, _, rfl, _, _, rfl, gR, _, _, _, .str q.1.st, rfl, rfl, SqT.of hT, at_of (j := 0) rfl rfl, _, rfl, _, rfl, _, _, rfl, gR, _, _, _, .str q.1.en, rfl, rfl, SqT.of hT, at_of (j := 2) rfl rfl, two, fun p hp => ?_⟩
          refine ⟨p, [.str q.1.st, .str q.1.en], rfl, .inr (SqT.of upd_same), rfl, rfl, _, rfl, ?_⟩
          have ei : inV (V.str x) [.str q.1.st, .str q.1.en] = (decide (q.1.st = x) || decide (q.1.en = x)) := by
            unfold inV
            rw [List.any_cons, List.any_cons, List.any_nil, Bool.or_false]
            show ((q.1.st == x) || (q.1.en == x)) = _
            by_cases c1 : q.1.st = x <;> by_cases c2 : q.1.en = x <;> simp [c1, c2]
          rw [if_neg Bool.false_ne_true, ei]
          have sm2 : Same (upd H rA (.frz od (.dK (tabI (rowsT L))))) (upd H2 p (.tup [.str q.1.st, .str q.1.en])) := sm.trans (same_new hp)
          by_cases c1 : (decide (q.1.st = x) || decide (q.1.en = x)) = true
          · rw [c1]
            refine iteT ⟨two, fun p2 hp2 => ?_⟩
            have sm3 := sm2.trans (same_new (o := .tup [.str "refused", .str "StillTied"]) hp2)
            have sf : Same H (upd (upd (upd H2 p (.tup [.str q.1.st, .str q.1.en])) p2 (.tup [.str "refused", .str "StillTied"])) rA (.dK (tabI (rowsT L)))) := back sm3
            have fr : H p2 = none := free2 sm2 hp2
            have hpr : p2 ≠ rA := fun z => by
              rw [z, t.rw_] at fr
              cases fr
            have et : tied m.rows x = true := List.any_eq_true.mpr ⟨q.1, by rw [← t.rwR]; exact List.mem_map.mpr ⟨q, hqm, rfl⟩, c1⟩
            have e : step m (.drop x) = (m, .ref "StillTied") := by
              show (if x ∈ m.things then (if tied m.rows x = true then (m, Out.ref "StillTied") else (m.drop x, Out.told)) else (m, Out.ref "NoThing")) = _
              rw [if_pos c, if_pos et]
            rw [e] at k
            exact ⟨sm3 _ _ upd_same, k p2 _ L (t.same sf) (fun _ hq => .inl hq) (fun b o hb _ _ => sf _ _ hb) fr ((upd_ne hpr).trans upd_same)⟩
          · rw [Bool.eq_false_iff.mpr c1]
            refine iteF ⟨⟨_, rfl⟩, sm2, fun r hr => ?_⟩
            rw [List.take_add_one, hq] at hr
            rcases List.mem_append.mp (hr) with h | h
            · exact hno r h
            · have z : r = q := by simpa using h
              rw [z]
              simpa using c1
        · rintro σ H1 ⟨⟨v0, rfl⟩, sm, hno⟩
          have sf : Same H (upd H1 rA (.dK (tabI (rowsT L)))) := back sm
          have et : tied m.rows x = false := List.any_eq_false.mpr fun r hr => by
            rw [← t.rwR] at hr
            obtain ⟨q, hq, rfl⟩ := List.mem_map.mp hr
            have z := hno q (by rw [hkl, List.take_length]; exact hq)
            simp [z.1, z.2]
          have e : step m (.drop x) = (m.drop x, .told) := by
            show (if x ∈ m.things then (if tied m.rows x = true then (m, Out.ref "StillTied") else (m.drop x, Out.told)) else (m, Out.ref "NoThing")) = _
            rw [if_pos c, et]
            rfl
          rw [e] at k
          have t1 := t.same sf
          obtain ⟨v, hv⟩ := val_has (L := thingsT m.things) (k := x) (by rw [things_keys]; exact c)
          refine ⟨sm _ _ upd_same, _, rfl, tA, rfl, .inl ⟨_, Rd.of t1.th⟩, _, rfl, _, Sum.inr x, v, t1.th, rfl, (by rw [valS]; exact hv), two, fun p hp => ?_⟩
          obtain ⟨hp1, hp2⟩ := upd_none hp
          refine k p _ L ((law_drop t1 hne x).same (same_new hp)) (fun _ hq => .inl hq) (fun b o hb h1 h2 => ?_) (sf.free hp2) upd_same
          exact (same_new hp) _ _ ((upd_ne h1).trans (sf _ _ hb))
      · rw [decide_eq_false c]
        refine iteT (iteT ⟨two, fun p hp => ?_⟩)
        have e : step m (.drop x) = (m, .ref "NoThing") := if_neg c
        rw [e] at k
        exact k p _ L (t.same (same_new hp)) (fun _ hq => .inl hq) (fun b o hb _ _ => same_new hp _ _ hb) hp upd_same
    | tie s n e =>
      refine ⟨_, rfl, dA, _, _, .str "tie", rfl, rfl, SqT.of hd, at_of (j := 0) rfl rfl, rfl, _, rfl, iteF ?_⟩
      refine ⟨_, rfl, dA, _, _, .str s, rfl, rfl, SqT.of hd, at_of (j := 1) rfl rfl, ?_⟩
      refine ⟨_, rfl, dA, _, _, .str "tie", rfl, rfl, SqT.of hd, at_of (j := 0) rfl rfl, rfl, _, rfl, iteF ?_⟩
      refine ⟨_, rfl, _, rfl, tA, _, rfl, DGet.k (k := Sum.inr s) t.th, _, rfl, ?_⟩
      rw [t.th_has]
      by_cases c : s ∈ m.things
      · rw [decide_eq_true c]
        refine iteF ⟨_, rfl, dA, _, _, .str "tie", rfl, rfl, SqT.of hd, at_of (j := 0) rfl rfl, rfl, _, rfl, iteT ?_⟩
        refine ⟨_, rfl, dA, _, _, .str e, rfl, rfl, SqT.of hd, at_of (j := 3) rfl rfl, _, rfl, tA, _, rfl, DGet.k (k := Sum.inr e) t.th, _, rfl, ?_⟩
        rw [t.th_has]
        by_cases c2 : e ∈ m.things
        · rw [decide_eq_true c2]
          refine iteF ⟨_, rfl, dA, _, _, .str "tie", rfl, rfl, SqT.of hd, at_of (j := 0) rfl rfl, rfl, _, rfl, iteT ?_⟩
          refine ⟨_, rfl, _, _, rfl, t.rw_, _, _, rfl, rfl, _, rfl, ?_⟩
          rw [rowsT_len t, decide_eq_false (by omega)]
          refine iteF ⟨_, rfl, dA, _, _, .str "tie", rfl, rfl, SqT.of hd, at_of (j := 0) rfl rfl, rfl, _, rfl, iteT ?_⟩
          refine ⟨_, rfl, _, rfl, dA, _, _, .str n, rfl, rfl, SqT.of hd, at_of (j := 2) rfl rfl, _, rfl, dA, _, _, .str e, rfl, rfl, SqT.of hd, at_of (j := 3) rfl rfl, (by show 3 ≤ sizeLine; omega), fun a ha => ?_⟩
          refine ⟨_, rfl, _, rfl, rA, _, rfl, DPut.k (k := Sum.inl m.coming) ((same_new ha) _ _ t.rw_) (by rw [rowsT_len t]; omega), _, rfl, two, fun p hp => ?_⟩
          obtain ⟨hp1, hp2⟩ := upd_none hp
          obtain ⟨hp3, hp4⟩ := upd_none hp2
          have es : step m (.tie s n e) = (m.tie s n e, .num m.coming) := if_pos ⟨c, c2⟩
          rw [es] at k
          refine k p _ _ ((law_tie t o hne ha).same (same_new hp)) (fun q hq => ?_) (fun b u hb h1 h2 => ?_) hp4 upd_same
          · rcases List.mem_append.mp (hq) with h | h
            · exact .inl h
            · have z : q = (⟨m.coming, s, n, e⟩, a) := by simpa using h
              exact .inr (by rw [z]; exact ha)
          · exact (same_new hp) _ _ ((upd_ne h2).trans ((same_new ha) _ _ hb))
        · rw [decide_eq_false c2]
          refine iteT ⟨two, fun p hp => ?_⟩
          have es : step m (.tie s n e) = (m, .ref "NoThing") := if_neg fun z => c2 z.2
          rw [es] at k
          exact k p _ L (t.same (same_new hp)) (fun _ hq => .inl hq) (fun b o hb _ _ => same_new hp _ _ hb) hp upd_same
      · rw [decide_eq_false c]
        refine iteT (iteT ⟨two, fun p hp => ?_⟩)
        have es : step m (.tie s n e) = (m, .ref "NoThing") := if_neg fun z => c z.1
        rw [es] at k
        exact k p _ L (t.same (same_new hp)) (fun _ hq => .inl hq) (fun b o hb _ _ => same_new hp _ _ hb) hp upd_same
end
end K07

set_option maxHeartbeats 4100000
namespace K07
open PySem PySem.Spec PyProof.Rows L2
/-- what a method may let out within a try, whatever the slots -/
def EN (n : Nat) (W : WX) : XK := fun cls d H => ∀ σ : L2.St, σ.length = n → W cls d σ H
theorem passN {X : Cx} {W : WX} {n : Nat} (tk : Takes X W) (hn : X.N.length = n) : Passes (L2.CX X.prog X.w) X (EN n W) := fun _ σ _ _ e s' I c => tk e s' (XE.of_call I (fun _ _ _ h => h σ (I.len.trans hn)) c)
theorem set_at {σ : L2.St} {i : Nat} {v : V} (h : i < σ.length) : (σ.set i (some v))[i]? = some (some v) := by
  rw [List.getElem?_set_self h]
/-- return ('refused', _law_which(e)) -/
def tSuite (A : Adr) (i : Nat) : Addr → Value → Option Addr → TS := fun a cls d => tRet (tTup (tCons (tC (.str "refused")) (tCons (tWhich A i a cls d) tNil)))
theorem suite_read {K : PySem.W.Frag} {A : Adr} {i n : Nat} {D : Ends} {C : Addr} {nm : Str} (hi : i < n) (hw : WhichIs A C nm) (he : PySem.W.exmOne K (.ref C) (.ref A.se) = some true) {H : Hp}
    (k : ∀ p H', Same H H' → H p = none → H' p = some (.tup [.str "refused", .str nm]) → D.rt (.ref p) H') : EN n (wAs K (.ref A.se) i (tSuite A i) (fun _ _ _ _ => False) D) (.ref C) none H := fun σ hσ => by
  refine ⟨true, he, fun _ a ha => ?_, fun q => Bool.noConfusion q⟩
  refine ⟨set_at (by omega), rfl, C, nm, rfl, hw, fun H1 s1 => ⟨(by rw [sizeLine_eq]; show 2 ≤ 16777216; decide), fun p hp => ?_⟩⟩
  exact k p _ (s1.trans (same_new hp)) (s1.free hp) upd_same
def spSaid (A : Adr) : Sp := fun vs H Q _ => ∃ W dA m g way many d, vs = [.ref W, .ref dA] ∧ WebAt A.web H W m g ∧ H dA = some (.tup (Deed.vals d)) ∧ DeedOk way many m d ∧ m.rows.length < 400 ∧ m.things.length < 100 ∧ g.NL.length < 1000 ∧
  ∀ p H' g', WebAt A.web H' W (step m d).1 g' → Mv H H' W g g' → g'.NL.length ≤ g.NL.length + 1 → ¬ foot g' W p → H' p = some (.tup (step m d).2.vals) → Q (.ref p) H'
def tEl (K : PySem.W.Frag) (i : Nat) (j : Int) : TE := tOp (rIxT K) (tVar i) (tC (.int j))
def tTold (t : TE) : TS := tRet (tTup (tCons (tC (.str "told")) (tCons t tNil)))
def tSaid (K : PySem.W.Frag) (A : Adr) (W : WX) : TS :=
  tSeq (tIfS (tTest (tOp rEq (tEl K 1 0) (tC (.str "cut")))) (tTold (tMeth A.web "cut_tie" (spCut A) [] (EN 3 W) (tVar 0) (tCons (tEl K 1 1) tNil))) tNext)
  (tSeq (tIfS (tTest (tOp rEq (tEl K 1 0) (tC (.str "add")))) (tTold (tMeth A.web "add_thing" (spAdd A) [] (EN 3 W) (tVar 0) (tCons (tEl K 1 1) tNil))) tNext)
  (tSeq (tIfS (tTest (tOp rEq (tEl K 1 0) (tC (.str "drop")))) (tTold (tMeth A.web "drop_thing" (spDrop A) [] (EN 3 W) (tVar 0) (tCons (tEl K 1 1) tNil))) tNext)
  (tTold (tMeth A.web "add_tie" (spTie A) [.int 0] (EN 3 W) (tVar 0) (tCons (tEl K 1 1) (tCons (tEl K 1 2) (tCons (tEl K 1 3) tNil)))))))
section
variable {P : Program} {w : World} {K : PySem.W.Frag} {mg : Str → Option Value} {base : Heap} {A : Adr} {f : Addr} {fd : FuncData}
theorem scSaid : FnScope ["web", "deed", "e"] ["web", "deed"] (defScope sSaid) := ⟨rfl, rfl, rfl, by decide +kernel, rfl, by decide +kernel, by decide +kernel⟩
theorem ok_said (F : FnP K "_law_said" "_law_said" sSaid [] f fd) (T : Txt K mg A) (GW : Which P w K mg base A) (GC : Mth P w K mg base (L2.CX P w) 2 A.web "cut_tie" ["self", "number"] [] (spCut A)) (GA : Mth P w K mg base (L2.CX P w) 2 A.web "add_thing" ["self", "name"] [] (spAdd A))
    (GD : Mth P w K mg base (L2.CX P w) 2 A.web "drop_thing" ["self", "name"] [] (spDrop A)) (GT : Mth P w K mg base (L2.CX P w) 2 A.web "add_tie" ["self", "start", "name", "end", "weight"] [.int 0] (spTie A)) : FnOk P w K mg base CX0 3 f fd ["web", "deed"] (spSaid A) := by
  obtain ⟨fC, fdC, dC, mC, vC, bC, FC⟩ := GC.ex
  obtain ⟨fA, fdA, dsA, mA, vA, bA, FA⟩ := GA.ex
  obtain ⟨fD, fdD, dsD, mD, vD, bD, FD⟩ := GD.ex
  obtain ⟨fT, fdT, dsT, mT, vT, bT, FT⟩ := GT.ex
  refine F.ok scSaid (fun vs H Q E h => ?_) (fun cdv R outer s₀ H vs Q E hr h => ⟨_, PSs.nox (pss_one
      (ps_try_as (i := 2) (tb := tSaid K A) (ts := tSuite A 2) (Wout := fun _ _ _ _ => False) rfl rfl scSaid.nd rfl rfl ⟨rfl, by decide, Or.inl T.gSE⟩ takes0
        (fun W pn xe tk _ => pss_cons
          (ps_if (pt_cmpR op_eq (pe_ix ix_tup (pv 1) pe_int (fun _ _ => rfl)) pe_str (nomark _)) (pss_one (ps_ret (pe_tup (pa_cons pe_str (pa_cons (pe_meth (E := EN 3 W) (pv 0) T.cl mC FC hr bC vC (passN tk rfl) (pa_cons (pe_ix ix_tup (pv 1) pe_int (fun _ _ => rfl)) pa_nil)) pa_nil))))) pss_nil)
          (pss_cons (ps_if (pt_cmpR op_eq (pe_ix ix_tup (pv 1) pe_int (fun _ _ => rfl)) pe_str (nomark _)) (pss_one (ps_ret (pe_tup (pa_cons pe_str (pa_cons (pe_meth (E := EN 3 W) (pv 0) T.cl mA FA hr bA vA (passN tk rfl) (pa_cons (pe_ix ix_tup (pv 1) pe_int (fun _ _ => rfl)) pa_nil)) pa_nil))))) pss_nil)
          (pss_cons (ps_if (pt_cmpR op_eq (pe_ix ix_tup (pv 1) pe_int (fun _ _ => rfl)) pe_str (nomark _)) (pss_one (ps_ret (pe_tup (pa_cons pe_str (pa_cons (pe_meth (E := EN 3 W) (pv 0) T.cl mD FD hr bD vD (passN tk rfl) (pa_cons (pe_ix ix_tup (pv 1) pe_int (fun _ _ => rfl)) pa_nil)) pa_nil))))) pss_nil)
          (pss_one (ps_ret (pe_tup (pa_cons pe_str (pa_cons (pe_meth (E := EN 3 W) (pv 0) T.cl mT FT hr bT vT (passN tk rfl) (pa_cons (pe_ix ix_tup (pv 1) pe_int (fun _ _ => rfl)) (pa_cons (pe_ix ix_tup (pv 1) pe_int (fun _ _ => rfl)) (pa_cons (pe_ix ix_tup (pv 1) pe_int (fun _ _ => rfl)) pa_nil)))) pa_nil))))))))
        (fun a oe cls d pn hz hf => pss_one (ps_ret (pe_tup (pa_cons pe_str (pa_cons (pe_which GW (hr.mono (by decide)) hz hf (pv 2) rfl) pa_nil)))))))
    , ?_⟩)
  · obtain ⟨W, dA, m, g, wy, mn, d, rfl, _⟩ := h
    rfl
  · obtain ⟨W, dA, m, g, wy, mn, d, rfl, t, hd, hok, hlen, hth, hnl, k⟩ := h
    have hsz : (sizeLine : Nat) = 16777216 := sizeLine_eq
    have two : (2 : Nat) ≤ sizeLine := by omega
    -- what was told
    have told : ∀ {g' : Geo} {H1 : Hp} {m' : M} {o : Out} {v : V}, step m d = (m', o) → o.vals = [.str "told", v] → WebAt A.web H1 W m' g' → Mv H H1 W g g' → g'.NL.length ≤ g.NL.length + 1 → ∀ p, H1 p = none → Q (.ref p) (upd H1 p (.tup [.str "told", v])) := fun {g' H1 m' o v} e ev t1 mv hl p hp => by
      rw [e] at k
      refine k p _ g' (t1.same (same_new hp)) ⟨mv.new, fun b u hb hf => same_new hp _ _ (mv.old b u hb hf)⟩ hl (t1.fresh hp) ?_
      rw [upd_same, ev]
    have refd : ∀ {nm : Str}, step m d = (m, .ref nm) → ∀ p H1, Same H H1 → H p = none → H1 p = some (.tup [.str "refused", .str nm]) → Q (.ref p) H1 := fun {nm} e p H1 s1 hp h1 => by
      rw [e] at k
      exact k p _ g (t.same s1) ⟨fun _ hb => .inl hb, fun b u hb _ => s1 _ _ hb⟩ (Nat.le_succ _) (t.fresh hp) h1
    have two3 : (2 : Nat) < 3 := by decide
    cases d with
    | cut kk =>
      obtain ⟨r, hr1, rfl⟩ := hok
      refine ⟨_, rfl, dA, _, _, .str "cut", rfl, rfl, SqT.of hd, at_of (j := 0) rfl rfl, rfl, _, rfl, iteT ?_⟩
      refine ⟨_, rfl, W, g.dx, _, rfl, t.ob, by kernel_rfl, _, rfl, dA, _, _, .int r.num, rfl, rfl, SqT.of hd, at_of (j := 1) rfl rfl, W, m, g, r, rfl, t, hr1, fun g' H1 t1 mv hl => ?_⟩
      exact ⟨two, fun p hp => told (o := .told) rfl rfl t1 mv (by omega) p hp⟩
    | add x =>
      obtain ⟨i, hi0, hi1, hx⟩ := hok
      refine ⟨_, rfl, dA, _, _, .str "add", rfl, rfl, SqT.of hd, at_of (j := 0) rfl rfl, rfl, _, rfl, iteF ?_⟩
      refine ⟨_, rfl, dA, _, _, .str "add", rfl, rfl, SqT.of hd, at_of (j := 0) rfl rfl, rfl, _, rfl, iteT ?_⟩
      refine ⟨_, rfl, W, g.dx, _, rfl, t.ob, by kernel_rfl, _, rfl, dA, _, _, .str x, rfl, rfl, SqT.of hd, at_of (j := 1) rfl rfl, W, x, m, g, rfl, t, by rw [hx]; exact name_good _ _, hth, fun c => ?_, fun c g' H1 t1 mv hl => ?_⟩
      · exact suite_read two3 (.inr (.inl ⟨rfl, rfl⟩)) T.tw.em fun p H1 s1 hp h1 => refd (nm := "Twice") (if_pos c) p H1 s1 hp h1
      · exact ⟨two, fun p hp => told (o := .told) (if_neg c) rfl t1 mv (by rw [hl]; omega) p hp⟩
    | drop x =>
      refine ⟨_, rfl, dA, _, _, .str "drop", rfl, rfl, SqT.of hd, at_of (j := 0) rfl rfl, rfl, _, rfl, iteF ?_⟩
      refine ⟨_, rfl, dA, _, _, .str "drop", rfl, rfl, SqT.of hd, at_of (j := 0) rfl rfl, rfl, _, rfl, iteF ?_⟩
      refine ⟨_, rfl, dA, _, _, .str "drop", rfl, rfl, SqT.of hd, at_of (j := 0) rfl rfl, rfl, _, rfl, iteT ?_⟩
      refine ⟨_, rfl, W, g.dx, _, rfl, t.ob, by kernel_rfl, _, rfl, dA, _, _, .str x, rfl, rfl, SqT.of hd, at_of (j := 1) rfl rfl, W, x, m, g, rfl, t, fun c => ?_, fun c c2 => ?_, fun c c2 g' H1 t1 mv hl => ?_⟩
      · exact suite_read two3 (.inl ⟨rfl, rfl⟩) T.nt.em fun p H1 s1 hp h1 => refd (nm := "NoThing") (if_neg c) p H1 s1 hp h1
      · refine suite_read two3 (.inr (.inr ⟨rfl, rfl⟩)) T.st.em fun p H1 s1 hp h1 => refd (nm := "StillTied") ?_ p H1 s1 hp h1
        show (if x ∈ m.things then (if tied m.rows x = true then (m, Out.ref "StillTied") else (m.drop x, Out.told)) else (m, Out.ref "NoThing")) = _
        rw [if_pos c, if_pos c2]
      · refine ⟨two, fun p hp => told (o := .told) ?_ rfl t1 mv (by rw [hl]; omega) p hp⟩
        show (if x ∈ m.things then (if tied m.rows x = true then (m, Out.ref "StillTied") else (m.drop x, Out.told)) else (m, Out.ref "NoThing")) = _
        rw [if_pos c, if_neg (by rw [c2]; decide)]
    | tie s n e =>
      refine ⟨_, rfl, dA, _, _, .str "tie", rfl, rfl, SqT.of hd, at_of (j := 0) rfl rfl, rfl, _, rfl, iteF ?_⟩
      refine ⟨_, rfl, dA, _, _, .str "tie", rfl, rfl, SqT.of hd, at_of (j := 0) rfl rfl, rfl, _, rfl, iteF ?_⟩
      refine ⟨_, rfl, dA, _, _, .str "tie", rfl, rfl, SqT.of hd, at_of (j := 0) rfl rfl, rfl, _, rfl, iteF ?_⟩
      refine ⟨_, rfl, W, g.dx, _, rfl, t.ob, by kernel_rfl, _, rfl, dA, _, _, .str s, rfl, rfl, SqT.of hd, at_of (j := 1) rfl rfl, _, rfl, dA, _, _, .str n, rfl, rfl, SqT.of hd, at_of (j := 2) rfl rfl, _, rfl, dA, _, _, .str e, rfl, rfl, SqT.of hd, at_of (j := 3) rfl rfl,
        W, s, n, e, 0, m, g, rfl, t, hok, (by decide), (by decide), hlen, hnl, fun c => ?_, fun c c2 g' H1 t1 mv hl => ?_⟩
      · refine suite_read two3 (.inl ⟨rfl, rfl⟩) T.nt.em fun p H1 s1 hp h1 => refd (nm := "NoThing") (if_neg fun z => ?_) p H1 s1 hp h1
        rcases c with c | c
        · exact c z.1
        · exact c z.2
      · exact ⟨two, fun p hp => told (o := .num m.coming) (if_pos ⟨c, c2⟩) rfl t1 mv hl p hp⟩
end
end K07

set_option maxHeartbeats 4100000
namespace K07
open PySem PySem.Spec PyProof.Rows L2
def partN (part : Int) (rows : List Row) (x : Str) : List Int := if part = 0 then outN rows x else if part = 2 then inN rows x else nameN rows x
def spAsked (A : Adr) : Sp := fun vs H Q _ => ∃ W part x m g, vs = [.ref W, .int part, .str x] ∧ WebAt A.web H W m g ∧ 0 ≤ part ∧ part < 3 ∧
  (part ≠ 1 → x ∉ m.things → ∀ p H', Same H H' → H' p = some (.tup [.str "refused", .str "NoThing"]) → Q (.ref p) H') ∧
  ((part = 1 ∨ x ∈ m.things) → ∀ p l H', Same H H' → H l = none → H' l = some (.lst ((partN part m.rows x).map V.int)) → H' p = some (.tup [.str "told", .ref l]) → Q (.ref p) H')
def tAsked (A : Adr) (W : WX) : TS :=
  tSeq (tIfS (tTest (tOp rEq (tVar 1) (tC (.int 0)))) (tTold (tMeth A.web "out_of" (spList A outN) [] (EN 4 W) (tVar 0) (tCons (tVar 2) tNil))) tNext)
  (tSeq (tIfS (tTest (tOp rEq (tVar 1) (tC (.int 2)))) (tTold (tMeth A.web "into" (spList A inN) [] (EN 4 W) (tVar 0) (tCons (tVar 2) tNil))) tNext)
  (tTold (tMeth A.web "named" (spNamed A) [] E0 (tVar 0) (tCons (tVar 2) tNil))))
section
variable {P : Program} {w : World} {K : PySem.W.Frag} {mg : Str → Option Value} {base : Heap} {A : Adr} {f : Addr} {fd : FuncData}
theorem scAsked : FnScope ["web", "part", "name", "e"] ["web", "part", "name"] (defScope sAsked) := ⟨rfl, rfl, rfl, by decide +kernel, rfl, by decide +kernel, by decide +kernel⟩
theorem ok_asked (F : FnP K "_law_asked" "_law_asked" sAsked [] f fd) (T : Txt K mg A) (GW : Which P w K mg base A) (GO : Mth P w K mg base (L2.CX P w) 2 A.web "out_of" ["self", "name"] [] (spList A outN)) (GI : Mth P w K mg base (L2.CX P w) 2 A.web "into" ["self", "name"] [] (spList A inN))
    (GN : Mth P w K mg base CX0 1 A.web "named" ["self", "name"] [] (spNamed A)) : FnOk P w K mg base CX0 3 f fd ["web", "part", "name"] (spAsked A) := by
  obtain ⟨fO, fdO, dO, mO, vO, bO, FO⟩ := GO.ex
  obtain ⟨fI, fdI, dI, mI, vI, bI, FI⟩ := GI.ex
  obtain ⟨fN, fdN, dN, mN, vN, bN, FN⟩ := GN.ex
  refine F.ok scAsked (fun vs H Q E h => ?_) (fun cdv R outer s₀ H vs Q E hr h => ⟨_, PSs.nox (pss_one
      (ps_try_as (i := 3) (tb := tAsked A) (ts := tSuite A 3) (Wout := fun _ _ _ _ => False) rfl rfl scAsked.nd rfl rfl ⟨rfl, by decide, Or.inl T.gSE⟩ takes0
        (fun W pn xe tk _ => pss_cons
          (ps_if (pt_cmpR op_eq (pv 1) pe_int (nomark _)) (pss_one (ps_ret (pe_tup (pa_cons pe_str (pa_cons (pe_meth (E := EN 4 W) (pv 0) T.cl mO FO hr bO vO (passN tk rfl) (pa_cons (pv 2) pa_nil)) pa_nil))))) pss_nil)
          (pss_cons (ps_if (pt_cmpR op_eq (pv 1) pe_int (nomark _)) (pss_one (ps_ret (pe_tup (pa_cons pe_str (pa_cons (pe_meth (E := EN 4 W) (pv 0) T.cl mI FI hr bI vI (passN tk rfl) (pa_cons (pv 2) pa_nil)) pa_nil))))) pss_nil)
          (pss_one (ps_ret (pe_tup (pa_cons pe_str (pa_cons (pe_meth (E := E0) (pv 0) T.cl mN FN (hr.mono (by decide)) bN vN pass0 (pa_cons (pv 2) pa_nil)) pa_nil)))))))
        (fun a oe cls d pn hz hf => pss_one (ps_ret (pe_tup (pa_cons pe_str (pa_cons (pe_which GW (hr.mono (by decide)) hz hf (pv 3) rfl) pa_nil)))))))
    , ?_⟩)
  · obtain ⟨W, part, x, m, g, rfl, _⟩ := h
    rfl
  · obtain ⟨W, part, x, m, g, rfl, t, p0, p3, k1, k2⟩ := h
    have hsz : (sizeLine : Nat) = 16777216 := sizeLine_eq
    have two : (2 : Nat) ≤ sizeLine := by omega
    have i3 : (3 : Nat) < 4 := by decide
    have nd : ∀ {a b : Int}, a ≠ b → decide (V.int a = V.int b) = false := fun h => decide_eq_false fun z => h (V.int.inj z)
    refine ⟨_, rfl, rfl, _, rfl, ?_⟩
    by_cases c0 : part = 0
    · subst c0
      refine iteT ⟨_, rfl, W, g.dx, _, rfl, t.ob, by kernel_rfl, _, rfl, W, x, m, g, rfl, t, fun c p hp => ?_, fun c => ?_⟩
      · exact ⟨two, fun q hq => k2 (.inr c) q p _ ((same_new hp).trans (same_new hq)) hp (same_new hq _ _ upd_same) upd_same⟩
      · exact suite_read i3 (.inl ⟨rfl, rfl⟩) T.nt.em fun p H1 s1 hp h1 => k1 (by decide) c p H1 s1 h1
    · rw [nd c0]
      refine iteF ⟨_, rfl, rfl, _, rfl, ?_⟩
      by_cases c2 : part = 2
      · subst c2
        refine iteT ⟨_, rfl, W, g.dx, _, rfl, t.ob, by kernel_rfl, _, rfl, W, x, m, g, rfl, t, fun c p hp => ?_, fun c => ?_⟩
        · exact ⟨two, fun q hq => k2 (.inr c) q p _ ((same_new hp).trans (same_new hq)) hp (same_new hq _ _ upd_same) upd_same⟩
        · exact suite_read i3 (.inl ⟨rfl, rfl⟩) T.nt.em fun p H1 s1 hp h1 => k1 (by decide) c p H1 s1 h1
      · rw [nd c2]
        have c1 : part = 1 := by omega
        subst c1
        refine iteF ⟨_, rfl, W, g.dx, _, rfl, t.ob, by kernel_rfl, _, rfl, W, x, m, g, rfl, t, fun p H1 s1 hp h1 => ?_⟩
        exact ⟨two, fun q hq => k2 (.inl rfl) q p _ (s1.trans (same_new hq)) hp (same_new hq _ _ h1) upd_same⟩
end
end K07

set_option maxHeartbeats 4100000
namespace K07
open PySem PySem.Spec PyProof.Rows L2
/-! ### lists of ints as data -/
theorem ints_can : ∀ ns : List Int, PyData.canLayAll0 (ns.map PyData.int) = true
  | [] => rfl
  | n :: r => by
    have h := ints_can r
    simp only [List.map_cons, PyData.canLayAll0, PyData.canLay0, Bool.true_and]
    exact h
theorem ints_depth : ∀ ns : List Int, PyData.depthAll (ns.map PyData.int) = 0
  | [] => rfl
  | n :: r => by
    have h := ints_depth r
    simp only [PyData.depthAll, PyData.depth, List.map_cons]
    omega
theorem ints_shaped (ns : List Int) : SeqAt.shaped (.list (ns.map PyData.int)) = true := by
  have h1 := ints_depth ns
  have h2 := ints_can ns
  unfold SeqAt.shaped
  simp only [PyData.canLay0, PyData.depth, h2, h1]
  decide
theorem ints_eqv (ns : List Int) : PyData.eqv (.list (ns.map PyData.int)) (.list (ns.map PyData.int)) = true := SeqAt.eqv_refl _ (SeqAt.canLay_of_shaped (ints_shaped ns))
theorem ints_all {K : PySem.W.Frag} {H : Hp} : ∀ ns : List Int, DpAll K H (ns.map V.int) (ns.map PyData.int)
  | [] => .nil
  | n :: r => .cons (.int n) (ints_all r)
theorem ints_dp {K : PySem.W.Frag} {H : Hp} {a : Addr} {ns : List Int} (h : H a = some (.lst (ns.map V.int))) : Dp K H (.ref a) (.list (ns.map PyData.int)) := .lst (SqL.of h) (ints_all ns)
/-- a part of a row -/
def partOf (part : Int) (r : Row) : Str := if part = 0 then r.st else if part = 2 then r.en else r.nm
theorem partN_eq (part : Int) (rows : List Row) (x : Str) : partN part rows x = (rows.filter fun r => decide (partOf part r = x)).map (·.num) := by
  unfold partN partOf
  by_cases h0 : part = 0
  · simp only [h0, if_true]
    rfl
  · by_cases h2 : part = 2
    · simp only [h2]
      rfl
    · simp only [if_neg h0, if_neg h2]
      rfl
/-- the pairs that are held: two lists each, alike -/
structure Held (H H' : Hp) (hA : Addr) (prs : List Addr) : Prop where
  same : Same H H'
  new : H hA = none
  lst : H' hA = some (.lst (prs.map V.ref))
  pr : ∀ q ∈ prs, ∃ l1 l2 ns, H' q = some (.tup [.ref l1, .ref l2]) ∧ H' l1 = some (.lst ((ns : List Int).map V.int)) ∧ H' l2 = some (.lst (ns.map V.int)) ∧ l1 ≠ hA ∧ l2 ≠ hA
theorem Held.mono {H H1 H2 : Hp} {hA : Addr} {prs : List Addr} (h : Held H H1 hA prs) (k : Same H1 H2) : Held H H2 hA prs :=
  ⟨h.same.trans k, h.new, k _ _ h.lst, fun q hq => let ⟨l1, l2, ns, a, b, c, d, e⟩ := h.pr q hq; ⟨l1, l2, ns, k _ _ a, k _ _ b, k _ _ c, d, e⟩⟩
theorem Held.push {H H1 H2 : Hp} {hA : Addr} {prs : List Addr} (h : Held H H1 hA prs) (k : ∀ b o, H1 b = some o → b ≠ hA → H2 b = some o) {q l1 l2 : Addr} {ns : List Int} (hl : H2 hA = some (.lst ((prs ++ [q]).map V.ref)))
    (hq : H2 q = some (.tup [.ref l1, .ref l2])) (h1 : H2 l1 = some (.lst (ns.map V.int))) (h2 : H2 l2 = some (.lst (ns.map V.int))) (n1 : l1 ≠ hA) (n2 : l2 ≠ hA) : Held H H2 hA (prs ++ [q]) := by
  refine ⟨fun b o e => k b o (h.same b o e) (ne_of_none e h.new), h.new, hl, fun r hr => ?_⟩
  rcases List.mem_append.mp (hr) with hr | hr
  · obtain ⟨a1, a2, ms, b1, b2, b3, b4, b5⟩ := h.pr r hr
    exact ⟨a1, a2, ms, k _ _ b1 (ne_of b1 h.lst (by intro z; cases z)), k _ _ b2 b4, k _ _ b3 b5, b4, b5⟩
  · have e : r = q := by simpa using hr
    rw [e]
    exact ⟨l1, l2, ns, hq, h1, h2, n1, n2⟩
def spLooked (A : Adr) : Sp := fun vs H Q _ => ∃ W tA rA nA m g L x0 x1 x2 cell, vs = [.ref W, .ref rA, .ref tA, .ref nA, .int cell] ∧ WebAt A.web H W m g ∧ LawAt H tA rA m L ∧ H nA = some (.lst [.str x0, .str x1, .str x2]) ∧ m.rows.length < 1000 ∧
  ∀ H', Same H H' → Q (.bl true) H'
section
variable {P : Program} {w : World} {K : PySem.W.Frag} {mg : Str → Option Value} {base : Heap} {A : Adr} {f : Addr} {fd : FuncData}
abbrev NLo : List Str := ["web", "rows", "things", "names", "cell", "held", "k", "part", "found", "number", "due", "pair"]
theorem scLooked : FnScope NLo ["web", "rows", "things", "names", "cell"] (defScope sLooked) := ⟨rfl, rfl, rfl, by decide +kernel, rfl, by decide +kernel, by decide +kernel⟩
theorem ok_looked (F : FnP K "_law_looked" "_law_looked" sLooked [] f fd) (T : Txt K mg A) (GA : Def P w K mg base CX0 3 "_law_asked" ["web", "part", "name"] (spAsked A)) : FnOk P w K mg base CX0 4 f fd ["web", "rows", "things", "names", "cell"] (spLooked A) := by
  obtain ⟨fA, fdA, gA, kA, bA, FA⟩ := GA
  have bi : bootBuiltins "isinstance" = some (.builtin "isinstance") := by decide +kernel
  have bl : bootBuiltins "list" = some (.type "list") := by decide +kernel
  have bb : bootBuiltins "bool" = some (.type "bool") := by decide +kernel
  refine F.ok scLooked (fun vs H Q E h => ?_) (fun cdv R outer s₀ H vs Q E hr h => ⟨_, PSs.nox (pss_cons
      (ps_set (i := 5) scLooked.nd rfl (.inl rfl) (pe_lst pa_nil))
      (pss_cons (ps_for PassesOwn.never rfl (pi_range1 rfl T.bRange (pa_cons pe_int pa_nil)) (pg_name (i := 6) scLooked.nd rfl (.inl rfl))
        (pss_cons (ps_set (i := 7) scLooked.nd rfl (.inr rfl) (pe_op op_mod (pe_op op_add (pe_op op_mod (pv 4) pe_int) (pe_op op_mul (pv 6) (pe_op op_add pe_int (pe_op op_mod (pe_op op_fdiv (pv 4) pe_int) pe_int)))) pe_int))
        (pss_cons (ps_set (i := 8) scLooked.nd rfl (.inl rfl) (pe_call FA hr rfl gA kA bA .nil pass0 (pa_cons (pv 0) (pa_cons (pv 7) (pa_cons (pe_ix ix_list (pv 3) (pv 7) (fun _ _ => rfl)) pa_nil)))))
        (pss_cons (ps_if (PW.pt (pw_and (pt_cmpR op_ne (pv 7) pe_int (nomark _)) (pw_and1 (pt_cmp (pc_dnotin (hu_of hr) (pe_ix ix_list (pv 3) (pv 7) (fun _ _ => rfl)) (pv 2)) rfl))))
          (pss_cons (ps_if (pt_cmpR (op_neD hr.units) (pv 8) (pe_tup (pa_cons pe_str (pa_cons pe_str pa_nil))) (nomark _)) (pss_one (ps_ret pe_bl)) pss_nil) (pss_one ps_continue)) pss_nil)
        (pss_cons (ps_setLc (i := 10) (own := [("number", 9)]) (g := gName 9) (tt := tTest (tOp rEq (tOp (rIxT K) (tDGet (tVar 1) (tVar 9)) (tVar 7)) (tOp (rIxL K) (tVar 3) (tVar 7)))) rfl scLooked.nd rfl rfl (sw_true rfl rfl rfl (by decide +kernel)) (pi_list (pe_callB (call_sortedDA rfl) (by rfl) T.bSorted (by decide +kernel) (pa_cons (pv 1) pa_nil)))
          (blkOk_by (own := [("number", 9)]) (N := NLo) (sc := defScope sLooked) (by decide +kernel)) (fun _ _ _ _ _ => pg_name (i := 9) scLooked.nd rfl (Or.inl rfl))
          (fun _ _ _ _ _ => pts_one (pt_cmpR op_eq (pe_ix ix_tup (pe_dget (hu_of hr) (pv 1) (pv 9) (fun _ _ => rfl)) (pv 7) (fun _ _ => rfl)) (pe_ix ix_list (pv 3) (pv 7) (fun _ _ => rfl)) (nomark _)))
          (fun _ _ _ _ _ => pv 9))
        (pss_cons (ps_if (PW.pt (pw_or (pt_cmpR op_ne (pe_ix ix_tup (pv 8) pe_int (fun _ _ => rfl)) pe_str (nomark _))
            (pw_or (pt_not (pt_val (pe_callB call_isi (by rfl) T.bIsi bi (pa_cons (pe_ix ix_tup (pv 8) pe_int (fun _ _ => rfl)) (pa_cons (pe_bltn (v := .ty "list") (by rfl) T.bList bl rfl) pa_nil)))))
            (pw_or1 (pt_cmpR (op_neD hr.units) (pe_ix ix_tup (pv 8) pe_int (fun _ _ => rfl)) (pv 10) (nomark _)))))) (pss_one (ps_ret pe_bl)) pss_nil)
        (pss_cons (ps_for PassesOwn.never rfl (pi_list (pe_ix ix_tup (pv 8) pe_int (fun _ _ => rfl))) (pg_name (i := 9) scLooked.nd rfl (.inl rfl))
          (pss_one (ps_if (pt_val (pe_callB call_isi (by rfl) T.bIsi bi (pa_cons (pv 9) (pa_cons (pe_bltn (v := .ty "bool") (by rfl) T.bBool bb rfl) pa_nil)))) (pss_one (ps_ret pe_bl)) pss_nil)))
        (pss_cons (ps_expr (pe_bm PySem.F.plainAttrs_list PySem.F.slot_list_append PySem.F.type_list_append mt_append (pe_ix ix_tup (pv 8) pe_int (fun _ _ => rfl)) (pa_cons pe_int pa_nil)))
        (pss_one (ps_expr (pe_bm PySem.F.plainAttrs_list PySem.F.slot_list_append PySem.F.type_list_append mt_append (pv 5) (pa_cons (pe_tup (pa_cons (pe_ix ix_tup (pv 8) pe_int (fun _ _ => rfl)) (pa_cons (pe_op op_cat (pv 10) (pe_lst (pa_cons pe_int pa_nil))) pa_nil))) pa_nil)))))))))))
      )
      (pss_cons (ps_for PassesOwn.never rfl (pi_list (pv 5)) (pg_name (i := 11) scLooked.nd rfl (.inl rfl))
        (pss_one (ps_if (pt_cmpR (op_neD hr.units) (pe_ix ix_tup (pv 11) pe_int (fun _ _ => rfl)) (pe_ix ix_tup (pv 11) pe_int (fun _ _ => rfl)) (nomark _)) (pss_one (ps_ret pe_bl)) pss_nil)))
      (pss_one (ps_ret pe_bl)))))
    , ?_⟩)
  · obtain ⟨W, tA, rA, nA, m, g, L, x0, x1, x2, cell, rfl, _⟩ := h
    rfl
  · obtain ⟨W, tA, rA, nA, m, g, L, x0, x1, x2, cell, rfl, wb, la, hN, hlen, k⟩ := h
    have hsz : (sizeLine : Nat) = 16777216 := sizeLine_eq
    have two : (2 : Nat) ≤ sizeLine := by omega
    refine ⟨Nat.zero_le _, fun hA hh => ?_⟩
    refine ⟨3, rfl, by decide, by decide, for_range (n := 3) (fun i σ H' => ∃ v6 v7 v8 v9 v10 prs, σ = [some (.ref W), some (.ref rA), some (.ref tA), some (.ref nA), some (.int cell), some (.ref hA), v6, v7, v8, v9, v10, none] ∧ Held H H' hA prs ∧ prs.length ≤ i)
      ⟨none, none, none, none, none, [], rfl, ⟨same_new hh, hh, upd_same, fun q hq => nomatch hq⟩, Nat.le_refl _⟩ ?_ ?_⟩
    · rintro i σ H0 hi ⟨v6, v7, v8, v9, v10, prs, rfl, hd, hpl⟩
      refine ⟨_, rfl, _, _, rfl, rfl, (by show (0 : Int) < 3; decide), _, rfl, _, rfl, _, _, rfl, rfl, ⟨by decide, by decide⟩, _, _, rfl, rfl, (by show (0 : Int) < 2; decide), _, _, rfl, rfl, _, _, rfl, rfl, .inl ⟨by omega, by omega⟩, _, _, rfl, rfl, _, _, rfl, rfl, (by show (0 : Int) < 3; decide), ?_⟩
      have p0 : 0 ≤ (cell % 3 + (0 + (i : Int)) * (1 + cell / 3 % 2)) % 3 := Int.emod_nonneg _ (by decide)
      have p3 : (cell % 3 + (0 + (i : Int)) * (1 + cell / 3 % 2)) % 3 < 3 := Int.emod_lt_of_pos _ (by decide)
      show gName 7 (V.int ((cell % 3 + (0 + (i : Int)) * (1 + cell / 3 % 2)) % 3)) _ _ _
      revert p0 p3
      generalize (cell % 3 + (0 + (i : Int)) * (1 + cell / 3 % 2)) % 3 = part
      intro p0 p3
      have hN0 := hd.same _ _ hN
      have wb0 := wb.same hd.same
      have la0 := la.same hd.same
      obtain ⟨x, hx⟩ : ∃ x, atI [V.str x0, V.str x1, V.str x2] part = some (.str x) := by
        rcases (show part = 0 ∨ part = 1 ∨ part = 2 by omega) with rfl | rfl | rfl
        · exact ⟨x0, at_of (j := 0) rfl rfl⟩
        · exact ⟨x1, at_of (j := 1) rfl rfl⟩
        · exact ⟨x2, at_of (j := 2) rfl rfl⟩
      refine ⟨_, rfl, _, rfl, _, rfl, _, rfl, nA, _, _, .str x, rfl, rfl, SqL.of hN0, hx, W, part, x, m, g, rfl, wb0, p0, p3, fun c1 c2 p H1 s1 hp => ?_, fun c p l H1 s1 hl0 hl1 hp => ?_⟩
      · -- refused
        have wb1 := wb0.same s1
        have la1 := la0.same s1
        refine ⟨_, rfl, rfl, _, rfl, ?_⟩
        rw [decide_eq_false (show ¬ V.int part = V.int 1 from fun z => c1 (V.int.inj z))]
        refine iteT ⟨_, rfl, _, rfl, nA, _, _, .str x, rfl, rfl, SqL.of (s1 _ _ hN0), hx, _, rfl, tA, _, rfl, DGet.k (k := Sum.inr x) la1.th, _, rfl, ?_⟩
        rw [la1.th_has, decide_eq_false c2]
        refine iteT ⟨_, rfl, two, fun tp ht => ?_⟩
        refine ⟨.tuple [.str "refused", .str "NoThing"], .tuple [.str "refused", .str "NoThing"], .tup (SqT.of (same_new ht _ _ hp)) (.cons (.str _) (.cons (.str _) .nil)), .tup (SqT.of upd_same) (.cons (.str _) (.cons (.str _) .nil)), by decide +kernel, by decide +kernel, _, rfl, ?_⟩
        have ev : PyData.eqv (.tuple [.str "refused", .str "NoThing"]) (.tuple [.str "refused", .str "NoThing"]) = true := by decide +kernel
        rw [ev]
        exact iteF ⟨_, _, _, _, _, prs, rfl, hd.mono (s1.trans (same_new ht)), by omega⟩
      · -- told
        have wb1 := wb0.same s1
        have la1 := la0.same s1
        have hN1 := s1 _ _ hN0
        have hd1 := hd.mono s1
        have test : ∀ {σ : L2.St} (Q' : Bool → Hp → Prop), σ[2]? = some (some (V.ref tA)) → σ[3]? = some (some (V.ref nA)) → σ[7]? = some (some (V.int part)) → Q' false H1 →
            tAnd (tTest (tOp rNe (tVar 7) (tC (.int 1)))) (tB (tDNotIn (tOp (rIxL K) (tVar 3) (tVar 7)) (tVar 2))) σ H1 Q' := fun {σ} Q' h2 h3 h7 hq => by
          refine ⟨_, h7, rfl, _, rfl, ?_⟩
          by_cases c1 : part = 1
          · rw [decide_eq_true (show V.int part = V.int 1 by rw [c1])]
            exact iteF hq
          · rw [decide_eq_false (show ¬ V.int part = V.int 1 from fun z => c1 (V.int.inj z))]
            refine iteT ⟨_, h3, _, h7, nA, _, _, .str x, rfl, rfl, SqL.of hN1, hx, _, h2, tA, _, rfl, DGet.k (k := Sum.inr x) la1.th, _, rfl, ?_⟩
            rw [la1.th_has, decide_eq_true (c.resolve_left c1)]
            exact hq
        refine test _ rfl rfl rfl (iteF ?_)
        -- due
        have hks := rows_keys la1
        refine ⟨_, rfl, rA, _, m.rows.map (·.num), rfl, Rd.of la1.rw_, hks, (by rw [List.length_map]; omega), fun ys l2 perm up hl2 => ?_⟩
        have ey : ys = m.rows.map (·.num) := PySem.W.ksm_same perm up (wb.ok.up.imp fun h => Int.le_of_lt h)
        subst ey
        refine ⟨l2, rfl, ⟨_, SqL.of upd_same⟩, fun D hD => ?_⟩
        have s2 : Same H1 (upd H1 l2 (.lst ((m.rows.map (·.num)).map V.int))) := same_new hl2
        generalize eH2 : upd H1 l2 (.lst ((m.rows.map (·.num)).map V.int)) = H2 at hD s2
        have hl22 : H2 l2 = some (.lst ((m.rows.map (·.num)).map V.int)) := by rw [← eH2, upd_same]
        have hlen3 : ((m.rows.map (·.num)).map V.int).length = m.rows.length := by rw [List.length_map, List.length_map]
        refine lc_list (K := K) (a := l2) (xs := (m.rows.map (·.num)).map V.int) (fun j H' => Same H2 H' ∧ H' D = some (.lst ((partN part (m.rows.take j) x).map V.int)))
          ⟨same_new hD, by rw [upd_same, partN_eq]; rfl⟩ (fun j H' _ h => SqL.of (h.1 _ _ hl22)) ?_ ?_
        · rintro j y H3 hy ⟨s3, hD3⟩
          obtain ⟨r, hr, hr2⟩ : ∃ r, m.rows[j]? = some r ∧ y = V.int r.num := by
            rw [List.getElem?_map, List.getElem?_map] at hy
            obtain ⟨n, h1, h2⟩ := Option.map_eq_some_iff.mp hy
            obtain ⟨r, h3, h4⟩ := Option.map_eq_some_iff.mp h1
            exact ⟨r, h3, by rw [← h2, ← h4]⟩
          subst hr2
          have hrm := List.mem_of_getElem? hr
          have la3 := la1.same (s2.trans s3)
          obtain ⟨q, hq, hqr⟩ := List.mem_map.mp (show r ∈ L.map (·.1) by rw [la.rwR]; exact hrm)
          have gR : DGet H3 rA (V.int r.num) (some (.ref q.2)) := by
            rw [← hqr, ← rows_val la3 wb.ok hq]
            exact DGet.k (k := Sum.inl q.1.num) la3.rw_
          have hT := la3.rwT q hq
          rw [hqr] at hT
          have hpt : atI [V.str r.st, V.str r.nm, V.str r.en] part = some (.str (partOf part r)) := by
            rcases (show part = 0 ∨ part = 1 ∨ part = 2 by omega) with rfl | rfl | rfl
            · exact at_of (j := 0) rfl rfl
            · exact at_of (j := 1) rfl rfl
            · exact at_of (j := 2) rfl rfl
          refine ⟨rfl, _, rfl, _, rfl, _, _, rfl, gR, _, rfl, q.2, _, _, .str (partOf part r), rfl, rfl, SqT.of hT, hpt, _, rfl, _, rfl, nA, _, _, .str x, rfl, rfl, SqL.of (s3 _ _ (s2 _ _ hN1)), hx, rfl, _, rfl, ?_⟩
          have et : partN part (m.rows.take (j + 1)) x = if partOf part r = x then partN part (m.rows.take j) x ++ [r.num] else partN part (m.rows.take j) x := by
            rw [partN_eq, partN_eq, List.take_add_one, hr, List.filter_append, List.map_append]
            by_cases e : partOf part r = x
            · rw [if_pos e]
              simp [e]
            · rw [if_neg e]
              simp [e]
          by_cases e : partOf part r = x
          · rw [decide_eq_true (show V.str (partOf part r) = V.str x by rw [e])]
            rw [if_pos e] at et
            refine iteT ⟨_, rfl, _, hD3, ?_, ?_, ?_⟩
            · rw [List.length_map, partN_eq, List.length_map]
              have q1 := List.length_filter_le (fun r => decide (partOf part r = x)) (m.rows.take j)
              have q2 := List.length_take_le j m.rows
              have q3 := List.length_take_le' j m.rows
              omega
            · exact fun b o hb => (upd_ne (ne_of_none hb hD)).trans (s3 _ _ hb)
            · rw [upd_same, et, List.map_append]
              rfl
          · rw [decide_eq_false (show ¬ V.str (partOf part r) = V.str x from fun z => e (V.str.inj z))]
            rw [if_neg e] at et
            exact iteF ⟨s3, by rw [et]; exact hD3⟩
        · rintro H3 ⟨s3, hD3⟩
          rw [hlen3, List.take_length] at hD3
          have s13 := s2.trans s3
          have hp3 := s13 _ _ hp
          have hl3 := s13 _ _ hl1
          have hd3 := hd1.mono s13
          have lhA : l ≠ hA := fun z => by
            rw [z, hd.lst] at hl0
            cases hl0
          have DhA : D ≠ hA := fun z => by
            rw [z] at hD
            rw [s2 _ _ hd1.lst] at hD
            cases hD
          have Dl : D ≠ l := fun z => by
            rw [z] at hD
            rw [s2 _ _ hl1] at hD
            cases hD
          have pl : p ≠ l := ne_of hp hl1 (by intro z; cases z)
          have phA : p ≠ hA := ne_of hp hd1.lst (by intro z; cases z)
          refine ⟨_, rfl, p, _, _, .str "told", rfl, rfl, SqT.of hp3, at_of (j := 0) rfl rfl, rfl, _, rfl, iteF ?_⟩
          refine ⟨_, rfl, p, _, _, .ref l, rfl, rfl, SqT.of hp3, at_of (j := 1) rfl rfl, .ref l, .ty "list", _, _, true, rfl, ClsV.ty "list", TyX.base (TyOf.lst hl3), kit_ty (by decide +kernel), _, rfl, iteF ?_⟩
          refine ⟨_, rfl, p, _, _, .ref l, rfl, rfl, SqT.of hp3, at_of (j := 1) rfl rfl, _, rfl, .list ((partN part m.rows x).map PyData.int), .list ((partN part m.rows x).map PyData.int), ints_dp hl3, ints_dp hD3, ints_shaped _, ints_shaped _, _, rfl, ?_⟩
          rw [ints_eqv]
          refine iteF ?_
          -- no bools
          refine ⟨_, rfl, p, _, _, .ref l, rfl, rfl, SqT.of hp3, at_of (j := 1) rfl rfl, l, rfl, ⟨_, SqL.of hl3⟩, for_list (K := K) (a := l) (xs := (partN part m.rows x).map V.int) (fun _ σ H' => ∃ v9, σ = [some (.ref W), some (.ref rA), some (.ref tA), some (.ref nA), some (.int cell), some (.ref hA), some (.int (0 + (i : Int))), some (.int part), some (.ref p), v9, some (.ref D), none] ∧ H' = H3)
            ⟨_, rfl, rfl⟩ (fun _ _ _ _ h => by obtain ⟨_, _, e⟩ := h; rw [e]; exact SqL.of hl3) ?_ ?_⟩
          · rintro j y σ H4 hy ⟨v9, rfl, rfl⟩
            obtain ⟨n, hn, rfl⟩ : ∃ n, (partN part m.rows x)[j]? = some n ∧ V.int n = y := by
              rw [List.getElem?_map] at hy
              exact Option.map_eq_some_iff.mp hy
            exact ⟨_, rfl, .int n, .ty "bool", _, _, false, rfl, ClsV.ty "bool", TyX.base (TyOf.int n), kit_ty (by decide +kernel), _, rfl, iteF ⟨_, rfl, rfl⟩⟩
          · rintro σ H4 ⟨v9, rfl, rfl⟩
            have ln : ((partN part m.rows x).map V.int).length < 1000 := by
              rw [List.length_map, partN_eq, List.length_map]
              exact Nat.lt_of_le_of_lt (List.length_filter_le _ _) hlen
            refine ⟨_, rfl, p, _, _, .ref l, rfl, rfl, SqT.of hp3, at_of (j := 1) rfl rfl, .inl ⟨rfl, _, SqL.of hl3⟩, l, _, .int 0, rfl, rfl, hl3, by omega, ?_⟩
            generalize e5 : upd H4 l (.lst ((partN part m.rows x).map V.int ++ [.int 0])) = H5
            have o5 : ∀ b o, H4 b = some o → b ≠ l → H5 b = some o := fun b o hb h => by
              rw [← e5, upd_ne h]
              exact hb
            have hA5 := o5 _ _ hd3.lst lhA.symm
            have p5 := o5 _ _ hp3 pl
            have D5 := o5 _ _ hD3 Dl
            have l5 : H5 l = some (.lst ((partN part m.rows x).map V.int ++ [.int 0])) := by rw [← e5, upd_same]
            refine ⟨_, rfl, .inl ⟨rfl, _, SqL.of hA5⟩, _, rfl, p, _, _, .ref l, rfl, rfl, SqT.of p5, at_of (j := 1) rfl rfl, _, rfl, (by show 1 ≤ sizeLine; omega), fun z hz => ?_⟩
            have o6 := same_new (o := .lst [.int 0]) hz
            refine ⟨D, z, _, _, rfl, rfl, o6 _ _ D5, upd_same, (by show _ + 1 ≤ sizeLine; omega), fun c hc => ?_⟩
            have o7 := same_new (o := .lst ((partN part m.rows x).map V.int ++ [.int 0])) hc
            refine ⟨two, fun q hq => ?_⟩
            have o8 := same_new (o := .tup [.ref l, .ref c]) hq
            have o58 := (o6.trans o7).trans o8
            refine ⟨hA, _, .ref q, rfl, rfl, o58 _ _ hA5, ?_, ?_⟩
            · rw [List.length_map]
              omega
            · have e0 : (partN part m.rows x).map V.int ++ [V.int 0] = (partN part m.rows x ++ [0]).map V.int := by rw [List.map_append]; rfl
              have chA : c ≠ hA := fun y => by
                rw [y, o6 _ _ hA5] at hc
                cases hc
              have qhA : q ≠ hA := fun y => by
                rw [y, o7 _ _ (o6 _ _ hA5)] at hq
                cases hq
              have cq : c ≠ q := fun y => by
                rw [← y, upd_same] at hq
                cases hq
              refine ⟨_, _, _, _, _, prs ++ [q], rfl, hd.push (q := q) (l1 := l) (l2 := c) (ns := partN part m.rows x ++ [0]) (fun b o hb hne => ?_) ?_ ((upd_ne qhA).trans upd_same) ?_ ?_ lhA chA, ?_⟩
              · rw [upd_ne hne]
                exact o58 _ _ (o5 _ _ (s13 _ _ (s1 _ _ hb)) (ne_of_none hb hl0))
              · rw [upd_same, List.map_append]
                rfl
              · rw [upd_ne lhA, ← e0]
                exact o58 _ _ l5
              · rw [upd_ne chA, upd_ne cq, upd_same, e0]
              · rw [List.length_append]
                exact Nat.succ_le_succ hpl
    · rintro σ H1 ⟨v6, v7, v8, v9, v10, prs, rfl, hd, hpl⟩
      refine ⟨_, rfl, hA, rfl, ⟨_, SqL.of hd.lst⟩, for_list (K := K) (a := hA) (xs := prs.map V.ref) (fun _ σ H' => (∃ v11, σ = [some (.ref W), some (.ref rA), some (.ref tA), some (.ref nA), some (.int cell), some (.ref hA), v6, v7, v8, v9, v10, v11]) ∧ H' = H1)
        ⟨⟨_, rfl⟩, rfl⟩ (fun _ _ _ _ h => by rw [h.2]; exact SqL.of hd.lst) ?_ ?_⟩
      · rintro j y σ H4 hy ⟨⟨v11, rfl⟩, rfl⟩
        rw [List.getElem?_map] at hy
        obtain ⟨q, hq, rfl⟩ := Option.map_eq_some_iff.mp hy
        obtain ⟨l1, l2, ns, h1, h2, h3, _, _⟩ := hd.pr q (List.mem_of_getElem? hq)
        refine ⟨_, rfl, q, _, _, .ref l1, rfl, rfl, SqT.of h1, at_of (j := 0) rfl rfl, _, rfl, q, _, _, .ref l2, rfl, rfl, SqT.of h1, at_of (j := 1) rfl rfl, .list (ns.map PyData.int), .list (ns.map PyData.int), ints_dp h2, ints_dp h3, ints_shaped _, ints_shaped _, _, rfl, ?_⟩
        rw [ints_eqv]
        exact iteF ⟨⟨_, rfl⟩, rfl⟩
      · rintro σ H4 ⟨⟨v11, rfl⟩, rfl⟩
        exact k _ hd.same
end
end K07

set_option maxHeartbeats 4100000
/-! The law's invariant over the heap -/
namespace K07
open PySem PySem.Spec PyProof.Rows L2
/-- H0: what stands through the whole loop; mw the web's state, ml the law's own -/
structure J (A : Adr) (H0 H : Hp) (W tA rA : Addr) (mw ml : M) (g : Geo) (L : RL) : Prop where
  wb : WebAt A.web H W mw g
  la : LawAt H tA rA ml L
  ne : tA ≠ rA
  same : Same H0 H
  fresh : ∀ b, foot g W b → H0 b = none
  ft : ¬ foot g W tA
  fr : ¬ foot g W rA
  fl : ∀ q ∈ L, ¬ foot g W q.2
  nt : H0 tA = none
  nr : H0 rA = none
section
variable {A : Adr} {H0 H H' : Hp} {W tA rA : Addr} {mw mw' ml ml' : M} {g g' : Geo} {L L' : RL}
theorem J.keep (j : J A H0 H W tA rA mw ml g L) (k : Same H H') : J A H0 H' W tA rA mw ml g L :=
  ⟨j.wb.same k, j.la.same k, j.ne, j.same.trans k, j.fresh, j.ft, j.fr, j.fl, j.nt, j.nr⟩
theorem J.web (j : J A H0 H W tA rA mw ml g L) (t : WebAt A.web H' W mw' g') (mv : Mv H H' W g g') : J A H0 H' W tA rA mw' ml g' L := by
  have nf : ∀ b o, H b = some o → ¬ foot g W b → ¬ foot g' W b := fun b o hb hf z => by
    rcases mv.new b z with h | h
    · exact hf h
    · rw [hb] at h
      cases h
  refine ⟨t, ⟨mv.old _ _ j.la.th j.ft, mv.old _ _ j.la.rw_ j.fr, j.la.rwR, fun p hp => mv.old _ _ (j.la.rwT p hp) (j.fl p hp)⟩, j.ne, fun b o hb => mv.old b o (j.same b o hb) fun z => ?_, fun b hb => ?_, nf _ _ j.la.th j.ft, nf _ _ j.la.rw_ j.fr, fun q hq => nf _ _ (j.la.rwT q hq) (j.fl q hq), j.nt, j.nr⟩
  · rw [j.fresh b z] at hb
    cases hb
  · rcases mv.new b hb with h | h
    · exact j.fresh b h
    · exact j.same.free h
theorem J.law (j : J A H0 H W tA rA mw ml g L) (t : LawAt H' tA rA ml' L') (hq : ∀ q ∈ L', q ∈ L ∨ ¬ foot g W q.2) (old : ∀ b o, H b = some o → b ≠ tA → b ≠ rA → H' b = some o) : J A H0 H' W tA rA mw ml' g L' := by
  refine ⟨j.wb.frame fun b o hf hb => old b o hb (fun z => j.ft (z ▸ hf)) (fun z => j.fr (z ▸ hf)), t, j.ne, fun b o hb => old b o (j.same b o hb) (ne_of_none hb j.nt) (ne_of_none hb j.nr), j.fresh, j.ft, j.fr, fun q h => ?_, j.nt, j.nr⟩
  rcases hq q h with h | h
  · exact j.fl q h
  · exact h
/-- a new list is held -/
theorem J.hold (j : J A H0 H W tA rA mw ml g L) {a : Addr} {xs : List V} (h : H a = some (.lst xs)) (hf : ¬ foot g W a) : J A (upd H0 a (.lst xs)) H W tA rA mw ml g L := by
  have nt : a ≠ tA := ne_of h j.la.th (by intro q; cases q)
  have nr : a ≠ rA := ne_of h j.la.rw_ (by intro q; cases q)
  refine ⟨j.wb, j.la, j.ne, fun b o hb => ?_, fun b hb => ?_, j.ft, j.fr, j.fl, (upd_ne nt.symm).trans j.nt, (upd_ne nr.symm).trans j.nr⟩
  · by_cases e : b = a
    · rw [e, upd_same] at hb
      rw [e, h]
      exact hb
    · rw [upd_ne e] at hb
      exact j.same b o hb
  · rw [upd_ne (fun z : b = a => hf (by rw [← z]; exact hb))]
    exact j.fresh b hb
/-- a list of the law's own is changed -/
theorem J.own (j : J A H0 H W tA rA mw ml g L) {a : Addr} {xs : List V} {o : HO} (h : H a = some (.lst xs)) (hf : ¬ foot g W a) (h0 : H0 a = none) : J A H0 (upd H a o) W tA rA mw ml g L := by
  have nt : a ≠ tA := ne_of h j.la.th (by intro q; cases q)
  have nr : a ≠ rA := ne_of h j.la.rw_ (by intro q; cases q)
  refine ⟨j.wb.out hf, ⟨(upd_ne nt.symm).trans j.la.th, (upd_ne nr.symm).trans j.la.rw_, j.la.rwR, fun p hp => ?_⟩, j.ne, fun b u hb => ?_, j.fresh, j.ft, j.fr, j.fl, j.nt, j.nr⟩
  · rw [upd_ne (ne_of (j.la.rwT p hp) h (by intro q; cases q))]
    exact j.la.rwT p hp
  · rw [upd_ne (ne_of_none hb h0)]
    exact j.same b u hb
end
theorem law_put {H : Hp} {tA rA : Addr} {m : M} {L : RL} (t : LawAt H tA rA m L) (o : MOk m) (hne : tA ≠ rA) {s n e : Str} {a : Addr} (ha : H a = some (.tup [.str s, .str n, .str e])) :
    LawAt (upd H rA (.dK (putK (tabI (rowsT L)) (Sum.inl m.coming) (.ref a)))) tA rA (m.tie s n e) (L ++ [(⟨m.coming, s, n, e⟩, a)]) := by
  refine ⟨(upd_ne hne).trans t.th, ?_, ?_, fun p hp => ?_⟩
  · rw [upd_same, rows_put t o ⟨m.coming, s, n, e⟩ a rfl]
  · rw [List.map_append, t.rwR]
    rfl
  · rcases List.mem_append.mp (hp) with h | h
    · rw [upd_ne (t.tup_ne h).2]
      exact t.rwT p h
    · have q : p = (⟨m.coming, s, n, e⟩, a) := by simpa using h
      rw [q, upd_ne (ne_of ha t.rw_ (by intro z; cases z))]
      exact ha
/-! ### a deed's outcome as data -/
def Out.data : Out → PyData
  | .told => .tuple [.str "told", .none]
  | .num c => .tuple [.str "told", .int c]
  | .ref w => .tuple [.str "refused", .str w]
theorem out_dp {K : PySem.W.Frag} {H : Hp} {p : Addr} : ∀ {o : Out}, H p = some (.tup o.vals) → Dp K H (.ref p) o.data
  | .told, h => .tup (SqT.of h) (.cons (.str _) (.cons .non .nil))
  | .num _, h => .tup (SqT.of h) (.cons (.str _) (.cons (.int _) .nil))
  | .ref _, h => .tup (SqT.of h) (.cons (.str _) (.cons (.str _) .nil))
theorem num_shaped (c : Int) : SeqAt.shaped (Out.num c).data = true := by
  have h : SeqAt.shaped (Out.num 0).data = true := by decide +kernel
  exact h
theorem step_shaped (m : M) (d : Deed) : SeqAt.shaped (step m d).2.data = true := by
  have h1 : SeqAt.shaped Out.told.data = true := by decide +kernel
  have h2 : SeqAt.shaped (Out.ref "Twice").data = true := by decide +kernel
  have h3 : SeqAt.shaped (Out.ref "NoThing").data = true := by decide +kernel
  have h4 : SeqAt.shaped (Out.ref "StillTied").data = true := by decide +kernel
  cases d with
  | cut k => exact h1
  | add x =>
    show SeqAt.shaped (if x ∈ m.things then (m, Out.ref "Twice") else (m.add x, Out.told)).2.data = true
    by_cases c : x ∈ m.things
    · rw [if_pos c]
      exact h2
    · rw [if_neg c]
      exact h1
  | drop x =>
    show SeqAt.shaped (if x ∈ m.things then (if tied m.rows x = true then (m, Out.ref "StillTied") else (m.drop x, Out.told)) else (m, Out.ref "NoThing")).2.data = true
    by_cases c : x ∈ m.things
    · rw [if_pos c]
      by_cases c2 : tied m.rows x = true
      · rw [if_pos c2]
        exact h4
      · rw [if_neg c2]
        exact h1
    · rw [if_neg c]
      exact h3
  | tie s n e =>
    show SeqAt.shaped (if s ∈ m.things ∧ e ∈ m.things then (m.tie s n e, Out.num m.coming) else (m, Out.ref "NoThing")).2.data = true
    by_cases c : s ∈ m.things ∧ e ∈ m.things
    · rw [if_pos c]
      exact num_shaped _
    · rw [if_neg c]
      exact h3
theorem step_things (m : M) (d : Deed) : (step m d).1.things.length ≤ m.things.length + 1 := by
  cases d with
  | cut k => exact Nat.le_succ _
  | add x =>
    show (if x ∈ m.things then (m, Out.ref "Twice") else (m.add x, Out.told)).1.things.length ≤ _
    by_cases c : x ∈ m.things
    · rw [if_pos c]
      exact Nat.le_succ _
    · rw [if_neg c]
      show (m.things ++ [x]).length ≤ _
      rw [List.length_append]
      exact Nat.le_refl _
  | drop x =>
    show (if x ∈ m.things then (if tied m.rows x = true then (m, Out.ref "StillTied") else (m.drop x, Out.told)) else (m, Out.ref "NoThing")).1.things.length ≤ _
    by_cases c : x ∈ m.things
    · rw [if_pos c]
      by_cases c2 : tied m.rows x = true
      · rw [if_pos c2]
        exact Nat.le_succ _
      · rw [if_neg c2]
        exact Nat.le_trans (List.length_filter_le _ _) (Nat.le_succ _)
    · rw [if_neg c]
      exact Nat.le_succ _
  | tie s n e =>
    show (if s ∈ m.things ∧ e ∈ m.things then (m.tie s n e, Out.num m.coming) else (m, Out.ref "NoThing")).1.things.length ≤ _
    by_cases c : s ∈ m.things ∧ e ∈ m.things
    · rw [if_pos c]
      exact Nat.le_succ _
    · rw [if_neg c]
      exact Nat.le_succ _
theorem step_rows (m : M) (d : Deed) : (step m d).1.rows.length ≤ m.rows.length + 1 := by
  cases d with
  | cut k => exact Nat.le_trans (List.length_filter_le _ _) (Nat.le_succ _)
  | add x =>
    show (if x ∈ m.things then (m, Out.ref "Twice") else (m.add x, Out.told)).1.rows.length ≤ _
    by_cases c : x ∈ m.things
    · rw [if_pos c]
      exact Nat.le_succ _
    · rw [if_neg c]
      exact Nat.le_succ _
  | drop x =>
    show (if x ∈ m.things then (if tied m.rows x = true then (m, Out.ref "StillTied") else (m.drop x, Out.told)) else (m, Out.ref "NoThing")).1.rows.length ≤ _
    by_cases c : x ∈ m.things
    · rw [if_pos c]
      by_cases c2 : tied m.rows x = true
      · rw [if_pos c2]
        exact Nat.le_succ _
      · rw [if_neg c2]
        exact Nat.le_succ _
    · rw [if_neg c]
      exact Nat.le_succ _
  | tie s n e =>
    show (if s ∈ m.things ∧ e ∈ m.things then (m.tie s n e, Out.num m.coming) else (m, Out.ref "NoThing")).1.rows.length ≤ _
    by_cases c : s ∈ m.things ∧ e ∈ m.things
    · rw [if_pos c]
      show (m.rows ++ [_]).length ≤ _
      rw [List.length_append]
      exact Nat.le_refl _
    · rw [if_neg c]
      exact Nat.le_succ _
/-- the first words of a deed and of its outcome -/
def isTie : Deed → Bool
  | .tie _ _ _ => true
  | _ => false
def isTold : Out → Bool
  | .ref _ => false
  | _ => true
theorem deed_head (d : Deed) : ∃ z : Str, d.vals[0]? = some (V.str z) ∧ decide (V.str z = V.str ("tie" : Str)) = isTie d := by
  cases d with
  | tie s n e => exact ⟨_, rfl, show decide (V.str ("tie" : Str) = V.str ("tie" : Str)) = true by decide +kernel⟩
  | cut k => exact ⟨_, rfl, show decide (V.str ("cut" : Str) = V.str ("tie" : Str)) = false by decide +kernel⟩
  | add x => exact ⟨_, rfl, show decide (V.str ("add" : Str) = V.str ("tie" : Str)) = false by decide +kernel⟩
  | drop x => exact ⟨_, rfl, show decide (V.str ("drop" : Str) = V.str ("tie" : Str)) = false by decide +kernel⟩
theorem out_head (o : Out) : ∃ z : Str, o.vals[0]? = some (V.str z) ∧ decide (V.str z = V.str ("told" : Str)) = isTold o := by
  cases o with
  | told => exact ⟨_, rfl, by decide +kernel⟩
  | num c => exact ⟨_, rfl, show decide (V.str ("told" : Str) = V.str ("told" : Str)) = true by decide +kernel⟩
  | ref w => exact ⟨_, rfl, show decide (V.str ("refused" : Str) = V.str ("told" : Str)) = false by decide +kernel⟩
theorem step_coming (m : M) (d : Deed) : (step m d).1.coming = if (isTie d && isTold (step m d).2) = true then m.coming + 1 else m.coming := by
  cases d with
  | cut k => rfl
  | add x =>
    show (if x ∈ m.things then (m, Out.ref "Twice") else (m.add x, Out.told)).1.coming = m.coming
    by_cases c : x ∈ m.things
    · rw [if_pos c]
    · rw [if_neg c]
      rfl
  | drop x =>
    show (if x ∈ m.things then (if tied m.rows x = true then (m, Out.ref "StillTied") else (m.drop x, Out.told)) else (m, Out.ref "NoThing")).1.coming = m.coming
    by_cases c : x ∈ m.things
    · rw [if_pos c]
      by_cases c2 : tied m.rows x = true
      · rw [if_pos c2]
      · rw [if_neg c2]
        rfl
    · rw [if_neg c]
  | tie s n e =>
    have e1 : step m (.tie s n e) = if s ∈ m.things ∧ e ∈ m.things then (m.tie s n e, Out.num m.coming) else (m, Out.ref "NoThing") := rfl
    by_cases c : s ∈ m.things ∧ e ∈ m.things
    · rw [if_pos c] at e1
      rw [e1]
      rfl
    · rw [if_neg c] at e1
      rw [e1]
      rfl
end K07

set_option maxHeartbeats 4100000
namespace K07
open PySem PySem.Spec PyProof.Rows L2
def spLaw (K : PySem.W.Frag) : Sp := fun vs H Q _ => ∃ (a : Addr) (ns : List Int), vs = [.ref a] ∧ SqL K H a (ns.map V.int) ∧ ns.length ≤ 63 ∧ ∀ H', Q (.bl true) H'
section
variable {P : Program} {w : World} {K : PySem.W.Frag} {mg : Str → Option Value} {base : Heap} {A : Adr} {f : Addr} {fd : FuncData}
abbrev NLaw : List Str := ["script", "first", "many", "way", "web", "things", "rows", "k", "row", "coming", "held", "kept", "cell", "deed", "due", "names", "number"]
theorem scLaw : FnScope NLaw ["script"] (defScope sLaw) := ⟨rfl, rfl, rfl, by decide +kernel, rfl, by decide +kernel, by decide +kernel⟩
theorem ok_law {fI : Addr} {fdI : FuncData} (F : FnP K "law" "law" sLaw [] f fd) (T : Txt K mg A) (MW : Mk K A.web fI) (bI : Binds K fdI ["self"] []) (FI : FnOk P w K mg base CX0 1 fI fdI ["self"] (spInit A))
    (GN : Def P w K mg base CX0 2 "_law_name" ["number", "way"] spName) (GB : Def P w K mg base CX0 3 "_law_bad" ["cell", "way"] spBad) (GD : Def P w K mg base CX0 3 "_law_deed" ["cell", "way", "many", "rows"] spDeed)
    (GU : Def P w K mg base CX0 1 "_law_due" ["rows", "things", "deed", "coming"] spDue) (GS : Def P w K mg base CX0 3 "_law_said" ["web", "deed"] (spSaid A)) (GL : Def P w K mg base CX0 4 "_law_looked" ["web", "rows", "things", "names", "cell"] (spLooked A))
    (GA : Mth P w K mg base (L2.CX P w) 2 A.web "add_thing" ["self", "name"] [] (spAdd A)) (GT : Mth P w K mg base (L2.CX P w) 2 A.web "add_tie" ["self", "start", "name", "end", "weight"] [] (spTie A)) (GO : Mth P w K mg base (L2.CX P w) 2 A.web "out_of" ["self", "name"] [] (spList A outN)) :
    FnOk P w K mg base CX0 5 f fd ["script"] (spLaw K) := by
  obtain ⟨fN, fdN, gN, kN, bN, FN⟩ := GN
  obtain ⟨fB, fdB, gB, kB, bB, FB⟩ := GB
  obtain ⟨fD, fdD, gD, kD, bD, FD⟩ := GD
  obtain ⟨fU, fdU, gU, kU, bU, FU⟩ := GU
  obtain ⟨fS, fdS, gS, kS, bS, FS⟩ := GS
  obtain ⟨fL, fdL, gL, kL, bL, FL⟩ := GL
  obtain ⟨fA, fdA, dA, mA, vA, bA, FA⟩ := GA.ex
  obtain ⟨fT, fdT, dT, mT, vT, bT, FT⟩ := GT.ex
  obtain ⟨fO, fdO, dO, mO, vO, bO, FO⟩ := GO.ex
  refine F.ok scLaw (fun vs H Q E h => ?_) (fun cdv R outer s₀ H vs Q E hr h => ?_)
  · obtain ⟨a, ns, rfl, _⟩ := h
    rfl
  · have hr1 : Room 1 (R.deeper (envOfC "law" (defScope sLaw) s₀.heap.objs.size f cdv)) := hr.mono (by decide)
    have hr2 : Room 2 (R.deeper (envOfC "law" (defScope sLaw) s₀.heap.objs.size f cdv)) := hr.mono (by decide)
    have hr3 : Room 3 (R.deeper (envOfC "law" (defScope sLaw) s₀.heap.objs.size f cdv)) := hr.mono (by decide)
    refine ⟨_, PSs.nox (pss_cons (ps_set (i := 1) scLaw.nd rfl (.inl rfl) pe_int)
      (C8.pss_cut (ps_if (pt_cmpR op_gt (pe_callB call_len_seq (by rfl) T.bLen PySem.boot_len (pa_cons (pv 0) pa_nil)) pe_int (nomark _)) (pss_one (ps_set (i := 1) scLaw.nd rfl (.inl rfl) (pe_ix ix_list (pv 0) pe_int (fun _ _ => rfl)))) pss_nil)
      (pss_cons (ps_set (i := 2) scLaw.nd rfl (.inl rfl) (pe_op op_add pe_int (pe_op op_mod (pv 1) pe_int)))
      (pss_cons (ps_set (i := 3) scLaw.nd rfl (.inr rfl) (pe_op op_mod (pe_op op_fdiv (pv 1) pe_int) (pe_op op_pow pe_int pe_int)))
      (pss_cons (ps_set (i := 4) scLaw.nd rfl (.inl rfl) (pe_make0 MW FI hr2 rfl T.gWeb bI .nil pass0))
      (pss_cons (ps_set (i := 5) scLaw.nd rfl (.inl rfl) pe_dnewK)
      (pss_cons (ps_set (i := 6) scLaw.nd rfl (.inr rfl) pe_dnewK)
      (pss_cons (ps_for PassesOwn.never rfl (pi_range1 rfl T.bRange (pa_cons (pv 2) pa_nil)) (pg_name (i := 7) scLaw.nd rfl (.inl rfl))
        (pss_cons (ps_expr (pe_meth (E := E0) (pv 4) T.cl mA FA hr2 bA vA passL (pa_cons (pe_call FN hr2 rfl gN kN bN .nil pass0 (pa_cons (pv 7) (pa_cons (pv 3) pa_nil))) pa_nil)))
        (pss_one (ps_dput (hu_of hr) (pv 5) (pe_call FN hr2 rfl gN kN bN .nil pass0 (pa_cons (pv 7) (pa_cons (pv 3) pa_nil))) pe_bl rfl))))
      (C8.pss_cut (ps_if (pt_cmpR op_eq (pe_op op_mod (pe_op op_fdiv (pv 1) pe_int) pe_int) pe_int (nomark _))
        (pss_one (ps_for PassesOwn.never rfl (pi_range1 rfl T.bRange (pa_cons pe_int pa_nil)) (pg_name (i := 7) scLaw.nd rfl (.inl rfl))
          (pss_cons (ps_set (i := 8) scLaw.nd rfl (.inl rfl) (pe_tup (pa_cons (pe_call FN hr2 rfl gN kN bN .nil pass0 (pa_cons (pe_op op_mod (pv 7) (pv 2)) (pa_cons (pv 3) pa_nil)))
              (pa_cons (pe_call FN hr2 rfl gN kN bN .nil pass0 (pa_cons (pe_op op_mod (pe_op op_fdiv (pv 7) pe_int) pe_int) (pa_cons (pv 3) pa_nil)))
              (pa_cons (pe_call FN hr2 rfl gN kN bN .nil pass0 (pa_cons (pe_op op_mod (pe_op op_mul (pv 7) (pv 7)) (pv 2)) (pa_cons (pv 3) pa_nil))) pa_nil)))))
          (pss_cons (ps_expr (pe_meth (E := E0) (pv 4) T.cl mT FT hr2 bT vT passL (pa_cons (pe_ix ix_tup (pv 8) pe_int (fun _ _ => rfl)) (pa_cons (pe_ix ix_tup (pv 8) pe_int (fun _ _ => rfl)) (pa_cons (pe_ix ix_tup (pv 8) pe_int (fun _ _ => rfl)) (pa_cons (pv 7) pa_nil))))))
          (pss_one (ps_dput (hu_of hr) (pv 6) (pv 7) (pv 8) rfl)))))) pss_nil)
      (pss_cons (ps_set (i := 9) scLaw.nd rfl (.inl rfl) (pe_callB call_lenD (by rfl) T.bLen PySem.boot_len (pa_cons (pv 6) pa_nil)))
      (pss_cons (ps_set (i := 10) scLaw.nd rfl (.inl rfl) (pe_meth (E := E0) (pv 4) T.cl mO FO hr2 bO vO passL (pa_cons (pe_call FN hr2 rfl gN kN bN .nil pass0 (pa_cons pe_int (pa_cons (pv 3) pa_nil))) pa_nil)))
      (pss_cons (ps_lock (ps_setLc (i := 11) (own := [("number", 16)]) (g := gName 16)
          (tt := tTest (tOp rEq (tOp (rIxT K) (tDGet (tVar 6) (tVar 16)) (tC (.int 0))) (tCall spName [] E0 (tCons (tC (.int 0)) (tCons (tVar 3) tNil))))) rfl scLaw.nd rfl rfl (sw_true rfl rfl rfl (by decide +kernel)) (pi_keys (pv 6))
          (blkOk_by (own := [("number", 16)]) (N := NLaw) (sc := defScope sLaw) (by decide +kernel)) (fun _ _ _ _ _ => pg_name (i := 16) scLaw.nd rfl (Or.inl rfl))
          (fun _ _ _ _ _ => pts_one (pt_cmpR op_eq (pe_ix ix_tup (pe_dget (hu_of hr) (pv 6) (pv 16) (fun _ _ => rfl)) pe_int (fun _ _ => rfl)) (pe_call FN hr2 rfl gN kN bN .nil pass0 (pa_cons pe_int (pa_cons (pv 3) pa_nil))) (nomark _)))
          (fun _ _ _ _ _ => pv 16)))
      (pss_cons (ps_for PassesOwn.never rfl (pi_list (pv 0)) (pg_name (i := 12) scLaw.nd rfl (.inl rfl))
        (pss_cons (ps_set (i := 13) scLaw.nd rfl (.inl rfl) (pe_call FD hr3 rfl gD kD bD .nil pass0 (pa_cons (pv 12) (pa_cons (pv 3) (pa_cons (pv 2) (pa_cons (pv 6) pa_nil))))))
        (pss_cons (ps_set (i := 14) scLaw.nd rfl (.inl rfl) (pe_call FU hr1 rfl gU kU bU .nil pass0 (pa_cons (pv 6) (pa_cons (pv 5) (pa_cons (pv 13) (pa_cons (pv 9) pa_nil))))))
        (pss_cons (ps_if (pt_cmpR (op_neD hr.units) (pe_call FS hr3 rfl gS kS bS .nil pass0 (pa_cons (pv 4) (pa_cons (pv 13) pa_nil))) (pv 14) (nomark _)) (pss_one (ps_ret pe_bl)) pss_nil)
        (C8.pss_cut (ps_if (PW.pt (pw_and (pt_cmpR op_eq (pe_ix ix_tup (pv 13) pe_int (fun _ _ => rfl)) pe_str (nomark _)) (pw_and1 (pt_cmpR op_eq (pe_ix ix_tup (pv 14) pe_int (fun _ _ => rfl)) pe_str (nomark _)))))
          (pss_one (ps_set (i := 9) scLaw.nd rfl (.inl rfl) (pe_op op_add (pv 9) pe_int))) pss_nil)
        (pss_cons (ps_set (i := 15) scLaw.nd rfl (.inl rfl) (pe_lst (pa_cons (pe_call FN hr2 rfl gN kN bN .nil pass0 (pa_cons (pe_op op_mod (pe_op op_fdiv (pv 12) pe_int) (pv 2)) (pa_cons (pv 3) pa_nil)))
            (pa_cons (pe_call FN hr2 rfl gN kN bN .nil pass0 (pa_cons (pe_op op_mod (pe_op op_fdiv (pv 12) pe_int) pe_int) (pa_cons (pv 3) pa_nil)))
            (pa_cons (pe_call FN hr2 rfl gN kN bN .nil pass0 (pa_cons (pe_op op_mod (pe_op op_fdiv (pv 12) pe_int) (pv 2)) (pa_cons (pv 3) pa_nil))) pa_nil)))))
        (C8.pss_cut (ps_if (pt_cmpR op_lt (pe_op op_mod (pe_op op_fdiv (pv 12) pe_int) pe_int) pe_int (nomark _))
          (pss_one (ps_asg (pe_call FB hr3 rfl gB kB bB .nil pass0 (pa_cons (pe_op op_fdiv (pv 12) pe_int) (pa_cons (pv 3) pa_nil))) (pg_sub (pv 15) (pe_op op_mod (pe_op op_fdiv (pv 12) pe_int) pe_int) set_list))) pss_nil)
        (pss_one (ps_if (pt_not (pt_val (pe_call FL hr rfl gL kL bL .nil pass0 (pa_cons (pv 4) (pa_cons (pv 6) (pa_cons (pv 5) (pa_cons (pv 15) (pa_cons (pe_op op_fdiv (pv 12) pe_int) pa_nil)))))))) (pss_one (ps_ret pe_bl)) pss_nil)))))))))
      (pss_one (ps_ret (pe_cmpR (op_eqD hr.units) (pv 10) (pv 11) (nomark _))))))))))))))))), ?_⟩
    obtain ⟨a, ns, rfl, hS, hns, kQ⟩ := h
    have hsz : (sizeLine : Nat) = 16777216 := sizeLine_eq
    refine ⟨fun σ' H' => ∃ first : Int, σ' = [some (.ref a), some (.int first), none, none, none, none, none, none, none, none, none, none, none, none, none, none, none] ∧ H' = H, ?_, ?_⟩
    · refine ⟨_, rfl, a, _, rfl, .inl hS, _, _, rfl, rfl, _, rfl, ite2 (fun hgt => ?_) fun _ => ?_⟩
      · have hpos : 0 < ns.length := by
          have q := of_decide_eq_true hgt
          rw [List.length_map] at q
          omega
        exact ⟨_, rfl, a, _, _, .int ns[0], rfl, rfl, hS, at_of (j := 0) rfl (by rw [List.getElem?_map, List.getElem?_eq_getElem hpos]; rfl), _, rfl, rfl⟩
      · exact ⟨0, rfl, rfl⟩
    rintro σ H' ⟨first, rfl, rfl⟩
    have hm0 : 0 ≤ first % 4 ∧ first % 4 < 4 := by omega
    refine ⟨_, rfl, _, _, rfl, rfl, (by show (0 : Int) < 4; decide), _, _, rfl, rfl, ?_⟩
    show gName 2 (V.int (2 + first % 4)) _ _ _
    obtain ⟨many, hmany⟩ : ∃ many, many = 2 + first % 4 := ⟨_, rfl⟩
    rw [← hmany]
    have hm2 : 2 ≤ many ∧ many ≤ 5 := by omega
    refine ⟨_, rfl, _, _, rfl, rfl, ⟨by decide, by decide⟩, 10, 6, rfl, rfl, ⟨by decide, by decide, by decide⟩, _, _, rfl, rfl, (by show (0 : Int) < 10 ^ Int.toNat 6; decide), ?_⟩
    show gName 3 (V.int (first / 20 % 10 ^ 6)) _ _ _
    generalize first / 20 % 10 ^ 6 = way
    -- web = Web()
    refine fun W dx nW ndx nxW => ⟨W, dx, rfl, upd_same, fun g0 H1 wb0 fo0 old0 hNL0 => ⟨rfl, ?_⟩⟩
    intro tA htA
    intro rA hrA
    have sH1 : Same H' H1 := fun b o hb => old0 b o ((upd_ne (ne_of_none hb nW)).trans ((upd_ne (ne_of_none hb ndx)).trans hb)) (ne_of_none hb nW)
    have sH2 := sH1.trans (same_new (o := .dK []) htA)
    have rt : tA ≠ rA := fun z => by
      rw [← z, upd_same] at hrA
      cases hrA
    have hrA1 := (upd_none hrA).2
    have j0 : J A H' (upd (upd H1 tA (.dK [])) rA (.dK [])) W tA rA ⟨[], [], 0⟩ ⟨[], [], 0⟩ g0 [] :=
      ⟨(wb0.same (same_new htA)).same (same_new hrA), ⟨(upd_ne rt).trans upd_same, upd_same, rfl, fun _ h => nomatch h⟩, rt, sH2.trans (same_new hrA), fun b hb => by
        rcases fo0 b hb with e | e
        · rw [e]
          exact nW
        · exact (upd_none (upd_none e).2).2, wb0.fresh htA, wb0.fresh hrA1, (fun _ h => nomatch h), sH1.free htA, sH1.free hrA1⟩
    have hm3 : (many.toNat : Int) = many := by omega
    let mi : Nat → M := fun i => ⟨(List.range i).map fun (k : Nat) => lawName (0 + (k : Int)) way, [], 0⟩
    refine ⟨_, rfl, many, rfl, (by omega), (by omega), for_range (lo := 0) (n := many.toNat) (fun i σ H2 => ∃ v7 g, σ = [some (.ref a), some (.int first), some (.int many), some (.int way), some (.ref W), some (.ref tA), some (.ref rA), v7, none, none, none, none, none, none, none, none, none] ∧ J A H' H2 W tA rA (mi i) (mi i) g [] ∧ g.NL = [])
      ⟨none, g0, rfl, j0, hNL0⟩ ?_ ?_⟩
    · rintro i σ H2 hi ⟨v7, g, rfl, j, hNL⟩
      have hi5 : i < 5 := by omega
      have hnot : lawName (0 + (i : Int)) way ∉ (mi i).things := fun hx => by
        obtain ⟨k, hk, e⟩ := List.mem_map.mp hx
        have hk := List.mem_range.mp hk
        have := name_inj (way := way) (j := 0 + (k : Int)) (k := 0 + (i : Int)) (by omega) (by omega) (by omega) (by omega) e
        omega
      have emi : (mi i).add (lawName (0 + (i : Int)) way) = mi (i + 1) := by
        show (⟨(List.range i).map _ ++ [_], [], 0⟩ : M) = ⟨(List.range (i + 1)).map _, [], 0⟩
        rw [List.range_succ, List.map_append]
        rfl
      refine ⟨_, rfl, W, g.dx, _, rfl, j.wb.ob, by kernel_rfl, _, rfl, _, rfl, _, _, rfl, W, _, _, g, rfl, j.wb, name_good _ _, ?_, fun hx => absurd hx hnot, fun _ g' H3 wb3 mv3 hNL3 => ?_⟩
      · show ((List.range i).map _).length < 100
        rw [List.length_map]; rw [List.length_range]
        omega
      · have j3 := j.web wb3 mv3
        refine ⟨_, rfl, _, rfl, _, rfl, _, _, rfl, tA, _, rfl, DPut.k (k := Sum.inr (lawName (0 + (i : Int)) way)) j3.la.th ?_, ?_⟩
        · rw [things_len]
          show ((List.range i).map _).length < _
          rw [List.length_map]; rw [List.length_range]
          omega
        · have la4 := law_add j3.la j3.ne hnot
          have j4 := j3.law la4 (fun q hq => .inl hq) (fun b o hb h1 _ => (upd_ne h1).trans hb)
          rw [emi] at j4
          exact ⟨_, g', rfl, j4, by rw [hNL3, hNL]⟩
    rintro σ H2 ⟨v7, g, rfl, j, hNL⟩
    have inMi : ∀ z : Int, lawName (z % many) way ∈ (mi many.toNat).things := fun z => by
      have h1 := Int.emod_nonneg z (show many ≠ 0 by omega)
      have h2 := Int.emod_lt_of_pos z (show 0 < many by omega)
      exact List.mem_map.mpr ⟨(z % many).toNat, List.mem_range.mpr (by omega), by rw [show (0 : Int) + (((z % many).toNat : Nat) : Int) = z % many by omega]⟩
    refine ⟨fun σ' H3 => ∃ v7 v8 m g L, σ' = [some (.ref a), some (.int first), some (.int many), some (.int way), some (.ref W), some (.ref tA), some (.ref rA), v7, v8, none, none, none, none, none, none, none, none] ∧ J A H' H3 W tA rA m m g L ∧ m.things = (mi many.toNat).things ∧ m.rows.length ≤ 66 ∧ g.NL.length ≤ 66 ∧ m.coming = (m.rows.length : Int), ?_, ?_⟩
    · refine ⟨_, rfl, _, _, rfl, rfl, ⟨by decide, by decide⟩, _, _, rfl, rfl, (by show (0 : Int) < 5; decide), rfl, _, rfl, ite2 (fun _ => ?_) fun _ => ?_⟩
      · refine ⟨66, rfl, by decide, by decide, for_range (lo := 0) (n := 66) (fun i σ H3 => ∃ v7 v8 m g L, σ = [some (.ref a), some (.int first), some (.int many), some (.int way), some (.ref W), some (.ref tA), some (.ref rA), v7, v8, none, none, none, none, none, none, none, none] ∧ J A H' H3 W tA rA m m g L ∧ m.things = (mi many.toNat).things ∧ m.rows.length = i ∧ g.NL.length ≤ i ∧ m.coming = 0 + (i : Int))
          ⟨_, none, _, g, [], rfl, j, rfl, rfl, by rw [hNL]; exact Nat.le_refl _, rfl⟩ ?_ ?_⟩
        · rintro i σ H3 hi ⟨w7, w8, m, g1, L, rfl, j1, hth, hrl, hnl, hco⟩
          refine ⟨_, rfl, _, rfl, _, _, rfl, rfl, (by show 0 < many; omega), _, rfl, _, _, rfl, _, rfl, _, _, rfl, rfl, ⟨by decide, by decide⟩, _, _, rfl, rfl, (by show (0 : Int) < 3; decide), _, rfl, _, _, rfl, _, rfl, _, rfl, _, _, rfl, rfl, .inl ⟨by omega, by omega⟩, _, rfl, _, _, rfl, rfl, (by show 0 < many; omega), _, rfl, _, _, rfl, (by show 3 ≤ sizeLine; omega), fun rt hrt => ?_⟩
          have j2 := j1.keep (same_new (o := .tup [.str (lawName ((0 + (i : Int)) % many) way), .str (lawName ((0 + (i : Int)) / 5 % 3) way), .str (lawName ((0 + (i : Int)) * (0 + (i : Int)) % many) way)]) hrt)
          have hs : lawName ((0 + (i : Int)) % many) way ∈ m.things := by rw [hth]; exact inMi _
          have he : lawName ((0 + (i : Int)) * (0 + (i : Int)) % many) way ∈ m.things := by rw [hth]; exact inMi _
          refine ⟨_, rfl, W, g1.dx, _, rfl, j2.wb.ob, by kernel_rfl, _, rfl, rt, _, _, .str (lawName ((0 + (i : Int)) % many) way), rfl, rfl, SqT.of upd_same, at_of (j := 0) rfl rfl, _, rfl, rt, _, _, .str (lawName ((0 + (i : Int)) / 5 % 3) way), rfl, rfl, SqT.of upd_same, at_of (j := 1) rfl rfl,
            _, rfl, rt, _, _, .str (lawName ((0 + (i : Int)) * (0 + (i : Int)) % many) way), rfl, rfl, SqT.of upd_same, at_of (j := 2) rfl rfl, _, rfl,
            W, _, _, _, 0 + (i : Int), m, g1, rfl, j2.wb, name_good _ _, (by omega), (by omega), (by omega), (by omega), fun z => ?_, fun _ _ g' H4 wb4 mv4 hl4 => ?_⟩
          · rcases z with z | z
            · exact absurd hs z
            · exact absurd he z
          · have j4 := j2.web wb4 mv4
            have nf : ¬ foot g1 W rt := j1.wb.fresh hrt
            have rt4 := mv4.old rt _ upd_same nf
            have nf' : ¬ foot g' W rt := fun z => by
              rcases mv4.new rt z with h | h
              · exact nf h
              · rw [upd_same] at h
                cases h
            have la5 := law_put j4.la j2.wb.ok j4.ne rt4
            have j5 := j4.law la5 (fun q hq => by
              rcases List.mem_append.mp (hq) with h | h
              · exact .inl h
              · have e : q = (⟨m.coming, lawName ((0 + (i : Int)) % many) way, lawName ((0 + (i : Int)) / 5 % 3) way, lawName ((0 + (i : Int)) * (0 + (i : Int)) % many) way⟩, rt) := by simpa using h
                exact .inr (by rw [e]; exact nf')) (fun b o hb _ h2 => (upd_ne h2).trans hb)
            refine ⟨_, rfl, _, rfl, _, rfl, rA, _, rfl, DPut.k (k := Sum.inl (0 + (i : Int))) j4.la.rw_ (by rw [rowsT_len j4.la]; omega), ?_⟩
            rw [hco] at j5
            refine ⟨_, _, m.tie (lawName ((0 + (i : Int)) % many) way) (lawName ((0 + (i : Int)) / 5 % 3) way) (lawName ((0 + (i : Int)) * (0 + (i : Int)) % many) way), g', _, rfl, j5, hth, ?_, by omega, ?_⟩
            · show (m.rows ++ [_]).length = i + 1
              rw [List.length_append, hrl]
              rfl
            · show m.coming + 1 = _
              omega
        · rintro σ H3 ⟨w7, w8, m, g1, L, rfl, j1, hth, hrl, hnl, hco⟩
          exact ⟨_, _, m, g1, L, rfl, j1, hth, by omega, hnl, by omega⟩
      · exact ⟨_, _, _, g, [], rfl, j, rfl, Nat.zero_le _, by rw [hNL]; exact Nat.zero_le _, rfl⟩
    rintro σ H3 ⟨v7, v8, m, g, L, rfl, j, hth, hrl, hnl, hco⟩
    have h0m : lawName 0 way ∈ m.things := by
      have q := inMi 0
      rw [Int.zero_emod] at q
      rw [hth]
      exact q
    -- coming, held
    refine ⟨_, rfl, rA, _, rfl, j.la.rw_, ?_⟩
    rw [rowsT_len j.la, ← hco]
    refine ⟨_, rfl, W, g.dx, _, rfl, j.wb.ob, by kernel_rfl, _, rfl, _, _, rfl, W, _, m, g, rfl, j.wb, fun _ hA hhA => ?_, fun hx => absurd h0m hx⟩
    have j4 := j.keep (same_new (o := .lst ((outN m.rows (lawName 0 way)).map V.int)) hhA)
    have fA : ¬ foot g W hA := j.wb.fresh hhA
    generalize e4 : upd H3 hA (.lst ((outN m.rows (lawName 0 way)).map V.int)) = H4 at j4
    have hA4 : H4 hA = some (.lst ((outN m.rows (lawName 0 way)).map V.int)) := by rw [← e4, upd_same]
    have j4' := j4.hold hA4 fA
    -- kept
    refine ⟨rA, _, j4.la.rw_, trivial, fun od => ?_⟩
    have lk : ∀ {b o}, H4 b = some o → b ≠ rA → upd H4 rA (.frz od (.dK (tabI (rowsT L)))) b = some o := fun hb h => (upd_ne h).trans hb
    have back : ∀ {H'' : Hp}, Same (upd H4 rA (.frz od (.dK (tabI (rowsT L))))) H'' → Same H4 (upd H'' rA (.dK (tabI (rowsT L)))) := fun {H''} sm b o hb => by
      by_cases h : b = rA
      · rw [h, j4.la.rw_] at hb
        rw [h, upd_same]
        exact hb
      · rw [upd_ne h]
        exact sm _ _ (lk hb h)
    have hkl : (tabI (rowsT L)).length = m.rows.length := rowsT_len j4.la
    refine ⟨_, rfl, rA, od, rfl, .inl ⟨_, upd_same, fun D hD => ?_⟩⟩
    obtain ⟨hDr, hD4⟩ := upd_none hD
    refine lc_it walk_keys (fun i H'' => Same (upd H4 rA (.frz od (.dK (tabI (rowsT L))))) H'' ∧ H'' D = some (.lst ((outN (m.rows.take i) (lawName 0 way)).map V.int))) ⟨same_new hD, upd_same⟩ (fun i H'' _ h => h.1 _ _ upd_same) ?_ ?_
    · rintro i y H5 H6 hi ⟨s5, hD5⟩ ⟨rfl, kk, vv, hkv, rfl⟩
      rw [hkl] at hi
      obtain ⟨q, hq⟩ : ∃ q, L[i]? = some q := by
        have : L.length = m.rows.length := by rw [← j4.la.rwR, List.length_map]
        exact ⟨L[i], List.getElem?_eq_getElem (by omega)⟩
      have hqm := List.mem_of_getElem? hq
      have e1 : kk = Sum.inl q.1.num := by
        have z : (tabI (rowsT L))[i]? = some (Sum.inl q.1.num, V.ref q.2) := by
          unfold tabI rowsT
          rw [List.getElem?_map, List.getElem?_map, hq]
          rfl
        rw [z] at hkv
        exact (Prod.mk.inj (Option.some.inj hkv)).1.symm
      subst e1
      have gR : DGet H6 rA (V.int q.1.num) (some (.ref q.2)) := .inl ⟨_, Sum.inl q.1.num, .inr ⟨od, s5 _ _ upd_same⟩, rfl, (rows_val j4.la j4.wb.ok hqm).symm⟩
      have hT := s5 _ _ (lk (j4.la.rwT q hqm) (j4.la.tup_ne hqm).2)
      refine ⟨rfl, _, rfl, _, rfl, _, _, rfl, gR, q.2, _, _, .str q.1.st, rfl, rfl, SqT.of hT, at_of (j := 0) rfl rfl, _, rfl, _, _, rfl, rfl, _, rfl, ?_⟩
      have hr : m.rows[i]? = some q.1 := by
        rw [← j4.la.rwR, List.getElem?_map, hq]
        rfl
      have et : outN (m.rows.take (i + 1)) (lawName 0 way) = if q.1.st = lawName 0 way then outN (m.rows.take i) (lawName 0 way) ++ [q.1.num] else outN (m.rows.take i) (lawName 0 way) := by
        unfold outN
        rw [List.take_add_one, hr, List.filter_append, List.map_append]
        by_cases e : q.1.st = lawName 0 way
        · rw [if_pos e]
          simp [e]
        · rw [if_neg e]
          simp [e]
      by_cases e : q.1.st = lawName 0 way
      · rw [decide_eq_true (show V.str q.1.st = V.str (lawName 0 way) by rw [e])]
        rw [if_pos e] at et
        refine iteT ⟨_, rfl, _, hD5, ?_, ?_, ?_⟩
        · have q1 := out_len (m.rows.take i) (lawName 0 way)
          have q2 := List.length_take_le' i m.rows
          omega
        · exact fun b o hb => (upd_ne (ne_of_none hb hD)).trans (s5 _ _ hb)
        · rw [upd_same, et, List.map_append]
          rfl
      · rw [decide_eq_false (show ¬ V.str q.1.st = V.str (lawName 0 way) from fun z => e (V.str.inj z))]
        rw [if_neg e] at et
        exact iteF ⟨s5, by rw [et]; exact hD5⟩
    · rintro H5 ⟨s5, hD5⟩
      rw [hkl, List.take_length] at hD5
      refine ⟨s5 _ _ upd_same, ?_⟩
      have s45 := back s5
      have j5 := j4'.keep s45
      have hD6 : upd H5 rA (.dK (tabI (rowsT L))) D = some (.lst ((outN m.rows (lawName 0 way)).map V.int)) := (upd_ne hDr).trans hD5
      have fD : ¬ foot g W D := j4.wb.fresh hD4
      have j6 := j5.hold hD6 fD
      generalize upd H5 rA (.dK (tabI (rowsT L))) = H6 at j5 j6 hD6 s45
      have hAD : hA ≠ D := ne_of_none hA4 hD4
      obtain ⟨HZ, hHZ⟩ : ∃ HZ, HZ = upd (upd H' hA (.lst ((outN m.rows (lawName 0 way)).map V.int))) D (.lst ((outN m.rows (lawName 0 way)).map V.int)) := ⟨_, rfl⟩
      rw [← hHZ] at j6
      have hZA : HZ hA = some (.lst ((outN m.rows (lawName 0 way)).map V.int)) := by rw [hHZ, upd_ne hAD, upd_same]
      have hZD : HZ D = some (.lst ((outN m.rows (lawName 0 way)).map V.int)) := by rw [hHZ, upd_same]
      have hS6 : SqL K H6 a (ns.map V.int) := j5.same.seq (by
        have q : Same H' (upd H' hA (.lst ((outN m.rows (lawName 0 way)).map V.int))) := same_new (j.same.free hhA)
        exact q.seq hS)
      have hSZ : SqL K HZ a (ns.map V.int) := by
        have q1 : Same H' (upd H' hA (.lst ((outN m.rows (lawName 0 way)).map V.int))) := same_new (j.same.free hhA)
        have q2 : Same (upd H' hA (.lst ((outN m.rows (lawName 0 way)).map V.int))) HZ := by
          rw [hHZ]
          exact same_new (j4'.same.free hD4)
        exact (q1.trans q2).seq hS
      have hthl : m.things.length ≤ 5 := by
        rw [hth]
        show ((List.range many.toNat).map _).length ≤ 5
        rw [List.length_map]; rw [List.length_range]
        omega
      have two : (2 : Nat) ≤ sizeLine := by omega
      refine ⟨_, rfl, a, rfl, ⟨_, hS6⟩, for_list (K := K) (a := a) (xs := ns.map V.int) (fun i σ H7 => ∃ v12 v13 v14 v15 m1 g1 L1, σ = [some (.ref a), some (.int first), some (.int many), some (.int way), some (.ref W), some (.ref tA), some (.ref rA), v7, v8, some (.int m1.coming), some (.ref hA), some (.ref D), v12, v13, v14, v15, none] ∧
          J A HZ H7 W tA rA m1 m1 g1 L1 ∧ m1.things.length ≤ 5 + i ∧ m1.rows.length ≤ 66 + i ∧ g1.NL.length ≤ 66 + i)
        ⟨none, none, none, none, m, g, L, rfl, j6, by omega, by omega, by omega⟩ (fun _ _ H7 _ h => by
          obtain ⟨_, _, _, _, _, _, _, _, jj, _⟩ := h
          exact jj.same.seq hSZ) ?_ ?_⟩
      · rintro i y σ H7 hy ⟨v12, v13, v14, v15, m1, g1, L1, rfl, j7, b1, b2, b3⟩
        rw [List.getElem?_map] at hy
        obtain ⟨c, hc, rfl⟩ := Option.map_eq_some_iff.mp hy
        have hi63 : i < 63 := by
          have := (List.getElem?_eq_some_iff.mp hc).1
          omega
        refine ⟨_, rfl, _, rfl, _, rfl, _, rfl, c, way, many, tA, rA, m1, L1, rfl, by omega, j7.la, by omega, fun d dA H8 s8 hok hdA hd8 => ?_⟩
        have j8 := j7.keep s8
        have fd : ¬ foot g1 W dA := j7.wb.fresh hdA
        refine ⟨_, rfl, _, rfl, _, rfl, _, rfl, tA, rA, dA, m1, L1, way, many, d, rfl, j8.ne, j8.la, j8.wb.ok, hd8, hok, by omega, by omega, fun pU H9 L9 la9 hL9 old9 hpU hU9 => ?_⟩
        have j9 := j8.law la9 (fun q hq => (hL9 q hq).imp (fun h => h) fun h => j8.wb.fresh h) old9
        have hd9 : H9 dA = some (.tup d.vals) := old9 _ _ hd8 (ne_of hd8 j8.la.th (by intro z; cases z)) (ne_of hd8 j8.la.rw_ (by intro z; cases z))
        have fU : ¬ foot g1 W pU := j8.wb.fresh hpU
        refine ⟨_, rfl, _, rfl, W, dA, m1, g1, way, many, d, rfl, j9.wb, hd9, hok, by omega, by omega, by omega, fun pS H10 g10 wb10 mv10 hl10 nf10 hS10 => ?_⟩
        have j10 := j9.web wb10 mv10
        have hd10 := mv10.old _ _ hd9 fd
        have hU10 := mv10.old _ _ hU9 fU
        refine ⟨_, rfl, _, _, out_dp hS10, out_dp hU10, step_shaped _ _, step_shaped _ _, _, rfl, ?_⟩
        rw [SeqAt.eqv_refl _ (SeqAt.canLay_of_shaped (step_shaped m1 d))]
        refine iteF ?_
        have c1 := step_things m1 d
        have c2 := step_rows m1 d
        have c3 := step_coming m1 d
        -- coming
        refine ⟨fun σ' H' => σ' = [some (.ref a), some (.int first), some (.int many), some (.int way), some (.ref W), some (.ref tA), some (.ref rA), v7, v8, some (.int (step m1 d).1.coming), some (.ref hA), some (.ref D), some (.int c), some (.ref dA), some (.ref pU), v15, none] ∧ H' = H10, ?_, ?_⟩
        · obtain ⟨z1, hz1, ez1⟩ := deed_head d
          obtain ⟨z2, hz2, ez2⟩ := out_head (step m1 d).2
          refine ⟨_, rfl, dA, _, _, .str z1, rfl, rfl, SqT.of hd10, at_of (j := 0) rfl hz1, rfl, _, rfl, ?_⟩
          rw [ez1]
          cases e1 : isTie d with
          | false =>
            rw [e1] at c3
            refine iteF (iteF ⟨?_, rfl⟩)
            rw [c3]
            rfl
          | true =>
            refine iteT ⟨_, rfl, pU, _, _, .str z2, rfl, rfl, SqT.of hU10, at_of (j := 0) rfl hz2, rfl, _, rfl, ?_⟩
            rw [ez2]
            cases e2 : isTold (step m1 d).2 with
            | false =>
              rw [e1, e2] at c3
              refine iteF ⟨?_, rfl⟩
              rw [c3]
              rfl
            | true =>
              rw [e1, e2] at c3
              refine iteT ⟨_, rfl, _, _, rfl, rfl, ?_, rfl⟩
              rw [c3]
              rfl
        rintro σ H11 ⟨rfl, rfl⟩
        refine ⟨_, rfl, _, _, rfl, rfl, ⟨by decide, by decide⟩, _, rfl, _, _, rfl, rfl, (by show 0 < many; omega), _, rfl, _, _, rfl, _, rfl, _, _, rfl, rfl, ⟨by decide, by decide⟩, _, _, rfl, rfl, (by show (0 : Int) < 5; decide), _, rfl, _, _, rfl, _, rfl, _, _, rfl, rfl, ⟨by decide, by decide⟩, _, rfl, _, _, rfl, rfl, (by show 0 < many; omega), _, rfl, _, _, rfl, (by show 3 ≤ sizeLine; omega), fun nA hnA => ?_⟩
        have fN : ¬ foot g10 W nA := j10.wb.fresh hnA
        have zN : HZ nA = none := j10.same.free hnA
        have j11 := j10.keep (same_new (o := .lst [.str (lawName (c / 9 % many) way), .str (lawName (c / 2 % 5) way), .str (lawName (c / 4 % many) way)]) hnA)
        -- names
        refine ⟨fun σ' H' => ∃ y0 y1 y2, σ' = [some (.ref a), some (.int first), some (.int many), some (.int way), some (.ref W), some (.ref tA), some (.ref rA), v7, v8, some (.int (step m1 d).1.coming), some (.ref hA), some (.ref D), some (.int c), some (.ref dA), some (.ref pU), some (.ref nA), none] ∧
          J A HZ H' W tA rA (step m1 d).1 (step m1 d).1 g10 L9 ∧ H' nA = some (.lst [.str y0, .str y1, .str y2]), ?_, ?_⟩
        · refine ⟨_, rfl, _, _, rfl, rfl, ⟨by decide, by decide⟩, _, _, rfl, rfl, (by show (0 : Int) < 9; decide), _, _, rfl, rfl, _, rfl, ite2 (fun hlt => ?_) fun _ => ?_⟩
          · have hlt := of_decide_eq_true hlt
            have hge := Int.emod_nonneg (c / 11) (show (9 : Int) ≠ 0 by decide)
            refine ⟨_, rfl, _, _, rfl, rfl, ⟨by decide, by decide⟩, _, rfl, _, _, rfl, fun z H12 s12 => ?_⟩
            have hN12 := s12 _ _ upd_same
            have j12 := j11.keep s12
            refine ⟨_, rfl, _, rfl, _, _, rfl, rfl, ⟨by decide, by decide⟩, _, _, rfl, rfl, (by show (0 : Int) < 9; decide), nA, _, _, (c / 11 % 9).toNat, rfl, rfl, hN12, ?_, ?_⟩
            · show ixN 3 (c / 11 % 9) = some (c / 11 % 9).toNat
              unfold ixN
              rw [if_pos hge, if_pos (by show c / 11 % 9 < ((3 : Nat) : Int); omega)]
            · have j13 : ∀ u : List V, J A HZ (upd H12 nA (.lst u)) W tA rA (step m1 d).1 (step m1 d).1 g10 L9 := fun u => j12.own hN12 fN zN
              rcases (show (c / 11 % 9).toNat = 0 ∨ (c / 11 % 9).toNat = 1 ∨ (c / 11 % 9).toNat = 2 by omega) with e | e | e
              · rw [e]
                exact ⟨z, _, _, rfl, j13 _, upd_same⟩
              · rw [e]
                exact ⟨_, z, _, rfl, j13 _, upd_same⟩
              · rw [e]
                exact ⟨_, _, z, rfl, j13 _, upd_same⟩
          · exact ⟨_, _, _, rfl, j11, upd_same⟩
        rintro σ H12 ⟨y0, y1, y2, rfl, j12, hN12⟩
        refine ⟨_, rfl, _, rfl, _, rfl, _, rfl, _, rfl, _, _, rfl, rfl, ⟨by decide, by decide⟩, W, tA, rA, nA, (step m1 d).1, g10, L9, y0, y1, y2, _, rfl, j12.wb, j12.la, hN12, by omega, fun H13 s13 => ⟨_, rfl, iteF ?_⟩⟩
        exact ⟨_, _, _, _, (step m1 d).1, g10, L9, rfl, j12.keep s13, by omega, by omega, by omega⟩
      · rintro σ H7 ⟨v12, v13, v14, v15, m1, g1, L1, rfl, j7, b1, b2, b3⟩
        refine ⟨_, rfl, _, rfl, .list ((outN m.rows (lawName 0 way)).map PyData.int), .list ((outN m.rows (lawName 0 way)).map PyData.int), ints_dp (j7.same _ _ hZA), ints_dp (j7.same _ _ hZD), ints_shaped _, ints_shaped _, ?_⟩
        rw [ints_eqv]
        exact kQ _
end
end K07

set_option maxHeartbeats 0
/-! The end: what the top has written, the head's run, the law's row -/
namespace K07
open PySem PySem.Spec PyProof.Rows L2
/-! ### facts by names -/
def dOf (x : Str) (st : Stmt) : He.DefD := ⟨(x, none), x, x, defArgs st, defBody st, defScope st, [], []⟩
def mOf (m q : Str) (st : Stmt) (dfl : List He.Dv := []) : He.DefD := ⟨("Web", some m), m, q, defArgs st, defBody st, defScope st, dfl, []⟩
def fn : List He.DefD := [dOf "good_name" sGood, dOf "small_number" sSmall, mOf "__init__" "Web.__init__" sInit, mOf "ask_thing" "Web.ask_thing" sAsk, mOf "add_thing" "Web.add_thing" sAdd, mOf "drop_thing" "Web.drop_thing" sDrop,
  mOf "add_tie" "Web.add_tie" sTie [.int 0], mOf "cut_tie" "Web.cut_tie" sCut, mOf "tie" "Web.tie" sRow, mOf "out_of" "Web.out_of" sOut, mOf "into" "Web.into" sInto, mOf "named" "Web.named" sNamed,
  dOf "_law_letter" sLetter, dOf "_law_name" sName, dOf "_law_bad" sBad, dOf "_law_which" sWhich, dOf "_law_deed" sDeed, dOf "_law_due" sDue, dOf "_law_said" sSaid, dOf "_law_asked" sAsked, dOf "_law_looked" sLooked, dOf "law" sLaw]
def fa : List He.Fa := [.cls "Web", .noat "Web" "known", .noat "Web" "book", .noat "Web" "starting", .noat "Web" "ending", .noat "Web" "bearing", .noat "Web" "coming",
  .glo "Web", .glo "SeekError", .glo "NoName", .glo "NoNumber", .glo "NoKey", .glo "NoTie", .glo "Full", .glo "NoThing", .glo "Twice", .glo "StillTied",
  .free "len", .free "list", .free "range", .free "sorted", .free "isinstance", .free "bool", .free "ValueError",
  .str "LETTERS" letters, .int "LONGEST" 12, .int "MOST_THINGS" 100, .int "MOST_TIES" 400,
  .exc "NoThing", .exc "Twice", .exc "StillTied", .exm "NoThing" "SeekError" true, .exm "Twice" "SeekError" true, .exm "StillTied" "SeekError" true,
  .mkr "Web", .meth "Web" "ask_thing", .meth "Web" "add_thing", .meth "Web" "drop_thing", .meth "Web" "add_tie", .meth "Web" "cut_tie", .meth "Web" "tie",
  .meth "Web" "out_of", .meth "Web" "into", .meth "Web" "named",
  .glo "good_name", .glo "small_number", .glo "_law_letter", .glo "_law_name", .glo "_law_bad", .glo "_law_which", .glo "_law_deed", .glo "_law_due", .glo "_law_said", .glo "_law_asked", .glo "_law_looked", .glo "law"]
/-- the eight classes -/
def eight : List Str := ["NoName", "NoNumber", "NoThing", "NoKey", "NoTie", "Twice", "StillTied", "Full"]
def kitB8 (K : PySem.W.Frag) (x : Str) : Bool := eight.all fun y => decide (PySem.W.kitOne K (.ref (He.ga K x)) (.ref (He.ga K y)) = some (decide (x = y)))
/-- what isinstance asks of the class x -/
def excB (K : PySem.W.Frag) (x : Str) : Bool := He.eqO (PySem.W.findIn K (.ref (He.ga K x)) "__getattribute__") (some (some (.builtin "BaseException.__getattribute__"))) && (He.eqO (PySem.W.findIn K (.ref (He.ga K x)) "__getattr__") (some none) &&
  (PySem.W.hasDictIn K (He.ga K x) && (He.eqO (PySem.W.findIn K (.ref (He.ga K x)) "__class__") (some (some (.builtin "object.__class__"))) && (He.eqO (PySem.W.specialIn K (.builtin "object.__class__") "__get__") (some (some (.builtin "getset_descriptor.__get__"))) &&
  (decide (PySem.W.takesIn K (.builtin "object.__class__") = some true) && (decide (PySem.W.mroIn K (He.ga K x) (.type "object") = some true) && (decide (PySem.W.kitOne K (.ref (He.ga K x)) (.type "ValueError") = some true) && kitB8 K x)))))))
def ex (K : PySem.W.Frag) : Bool := excB K "NoThing" && (excB K "Twice" && excB K "StillTied")
abbrev AlK : Type := He.AlD × Bool
def obsK (g : Addr → Option Obj) : AlK := (He.obsD fa fn (He.frG g (He.asD g 6)), ex (He.frG g (He.asD g 6)))
def SaysK (K : PySem.W.Frag) : Prop := He.SaysD fa fn K ∧ ex K = true
def hk : PySem.W.Hook where
  α := AlK
  obs := fun s => obsK s.heap.get?
  val := fun _ => (He.valD fn, true)
  says := fun _ h => ∃ K : PySem.W.Frag, K.In h ∧ SaysK K
  of := fun _ _ e => ⟨_, He.frG_in, congrArg (fun z : AlK => z.1) e, congrArg (fun z : AlK => z.2) e⟩
  keeps := fun _ _ _ ⟨Kf, inK, says⟩ stay => ⟨Kf, PySem.W.Frag.In.keeps inK stay, says⟩
def ob (s : PySem.W.SharedT) : AlK := obsK (HandSHeadRun.getT s)
theorem ob_eq (s : PySem.W.SharedT) : ob s = hk.obs s.abs := by
  have e : HandSHeadRun.getT s = s.abs.heap.get? := funext (HandSHeadRun.getT_eq s)
  show obsK (HandSHeadRun.getT s) = obsK s.abs.heap.get?
  rw [e]
def names : List Str := ["_wall", "SeekError", "NoName", "NoNumber", "NoThing", "NoKey", "NoTie", "Twice", "StillTied", "Full", "LETTERS", "LONGEST", "good_name", "small_number", "MOST_THINGS", "MOST_TIES", "Web",
  "_law_letter", "_law_name", "_law_bad", "_law_which", "_law_deed", "_law_due", "_law_said", "_law_asked", "_law_looked"]
abbrev R : PySem.W.OpenRow := PySem.W.OpenLaw.row PySem.Challenge.rw_tieseek_k07_where_ties_stand
theorem run (w : World) : HandSHeadRun.RunEq R (PySem.W.view R.prog [30]) hk ob 20000 names w := by
  intro os
  kernel_rfl
end K07

set_option maxHeartbeats 8100000
namespace K07
open PySem PySem.Spec PyProof.Rows L2
theorem bo {a b : Bool} (h : (a && b) = true) : a = true ∧ b = true := Bool.and_eq_true_iff.mp h
def adr (K : PySem.W.Frag) : Adr := ⟨He.ga K "Web", He.ga K "SeekError", He.ga K "NoName", He.ga K "NoNumber", He.ga K "NoThing", He.ga K "NoKey", He.ga K "NoTie", He.ga K "Twice", He.ga K "StillTied", He.ga K "Full"⟩
theorem excF_mk {K : PySem.W.Frag} {mg : Str → Option Value} {x : Str} {b1 b2 b3 b4 b5 b6 b7 b8 : Bool} (g : mg x = some (.ref (He.ga K x))) (c : (He.Fa.exc x).ok K = true) (m : (He.Fa.exm x "SeekError" true).ok K = true) (e : excB K x = true)
    (h : eight.map (fun y => decide (x = y)) = [b1, b2, b3, b4, b5, b6, b7, b8]) : ExcF K mg (adr K) x (He.ga K x) b1 b2 b3 b4 b5 b6 b7 b8 := by
  obtain ⟨c1, c2, c3, c4⟩ := He.exc_ok c
  obtain ⟨e1, e⟩ := bo e
  obtain ⟨e2, e⟩ := bo e
  obtain ⟨e3, e⟩ := bo e
  obtain ⟨e4, e⟩ := bo e
  obtain ⟨e5, e⟩ := bo e
  obtain ⟨e6, e⟩ := bo e
  obtain ⟨e7, e⟩ := bo e
  obtain ⟨e8, e⟩ := bo e
  have k : ∀ (i : Nat) (y : Str) (b : Bool), eight[i]? = some y → [b1, b2, b3, b4, b5, b6, b7, b8][i]? = some b → PySem.W.kitOne K (.ref (He.ga K x)) (.ref (He.ga K y)) = some b := fun i y b hy hb => by
    have q := of_decide_eq_true (List.all_eq_true.mp e y (List.mem_of_getElem? hy))
    rw [← h, List.getElem?_map, hy] at hb
    rw [q]
    exact hb
  exact ⟨g, c1, c2, c3, c4, He.exm_ok m, ⟨He.eqO_ok e1, He.eqO_ok e2, c3, e3, He.eqO_ok e4, He.eqO_ok e5, of_decide_eq_true e6, of_decide_eq_true e7⟩, of_decide_eq_true e8,
    k 0 "NoName" b1 rfl rfl, k 1 "NoNumber" b2 rfl rfl, k 2 "NoThing" b3 rfl rfl, k 3 "NoKey" b4 rfl rfl, k 4 "NoTie" b5 rfl rfl, k 5 "Twice" b6 rfl rfl, k 6 "StillTied" b7 rfl rfl, k 7 "Full" b8 rfl rfl⟩
theorem txt_mk {K : PySem.W.Frag} {h : Heap} {mg : Str → Option Value} (X : K.In h) (G : h.Ns mainGlobals mg) (c : He.SaysD fa fn K) (e : ex K = true) : Txt K mg (adr K) := by
  obtain ⟨e1, e⟩ := bo e
  obtain ⟨e2, e3⟩ := bo e
  exact {
    cl := He.cls_ok (c.fact 0)
    nKn := He.noat_ok (c.fact 1)
    nBk := He.noat_ok (c.fact 2)
    nSt := He.noat_ok (c.fact 3)
    nEn := He.noat_ok (c.fact 4)
    nBe := He.noat_ok (c.fact 5)
    nCo := He.noat_ok (c.fact 6)
    gWeb := He.glo_ok X G (c.fact 7)
    gSE := He.glo_ok X G (c.fact 8)
    gNN := He.glo_ok X G (c.fact 9)
    gNU := He.glo_ok X G (c.fact 10)
    gNK := He.glo_ok X G (c.fact 11)
    gNI := He.glo_ok X G (c.fact 12)
    gFU := He.glo_ok X G (c.fact 13)
    nt := excF_mk (He.glo_ok X G (c.fact 14)) (c.fact 28) (c.fact 31) e1 (by decide +kernel)
    tw := excF_mk (He.glo_ok X G (c.fact 15)) (c.fact 29) (c.fact 32) e2 (by decide +kernel)
    st := excF_mk (He.glo_ok X G (c.fact 16)) (c.fact 30) (c.fact 33) e3 (by decide +kernel)
    bLen := He.free_ok X G (c.fact 17)
    bList := He.free_ok X G (c.fact 18)
    bRange := He.free_ok X G (c.fact 19)
    bSorted := He.free_ok X G (c.fact 20)
    bIsi := He.free_ok X G (c.fact 21)
    bBool := He.free_ok X G (c.fact 22)
    bVE := He.free_ok X G (c.fact 23)
    mLet := He.str_ok X G (c.fact 24)
    mLon := He.int_ok X G (c.fact 25)
    mTh := He.int_ok X G (c.fact 26)
    mTi := He.int_ok X G (c.fact 27) }
theorem facts {P : Program} {w : World} {K : PySem.W.Frag} {h : Heap} {mg : Str → Option Value} {f : Addr} (X : K.In h) (G : h.Ns mainGlobals mg) (hfa : mg ("law" : Str) = some (.ref f)) (s : SaysK K) :
    ∃ fd : FuncData, (∀ (s : Shared) (v : Value), BindsTo s fd ⟨[v], []⟩ [("script", v)]) ∧ ∀ base : Heap, K.In base → base.Ns mainGlobals mg → FnOk P w K mg base CX0 5 f fd ["script"] (spLaw K) := by
  obtain ⟨c, e⟩ := s
  have T := txt_mk X G c e
  obtain ⟨d0, F0⟩ := c.def_ 0 (d := dOf "good_name" sGood) rfl
  obtain ⟨d1, F1⟩ := c.def_ 1 (d := dOf "small_number" sSmall) rfl
  obtain ⟨d2, F2⟩ := c.def_ 2 (d := mOf "__init__" "Web.__init__" sInit) rfl
  obtain ⟨d3, F3⟩ := c.def_ 3 (d := mOf "ask_thing" "Web.ask_thing" sAsk) rfl
  obtain ⟨d4, F4⟩ := c.def_ 4 (d := mOf "add_thing" "Web.add_thing" sAdd) rfl
  obtain ⟨d5, F5⟩ := c.def_ 5 (d := mOf "drop_thing" "Web.drop_thing" sDrop) rfl
  obtain ⟨d6, F6⟩ := c.def_ 6 (d := mOf "add_tie" "Web.add_tie" sTie [.int 0]) rfl
  obtain ⟨d7, F7⟩ := c.def_ 7 (d := mOf "cut_tie" "Web.cut_tie" sCut) rfl
  obtain ⟨d8, F8⟩ := c.def_ 8 (d := mOf "tie" "Web.tie" sRow) rfl
  obtain ⟨d9, F9⟩ := c.def_ 9 (d := mOf "out_of" "Web.out_of" sOut) rfl
  obtain ⟨d10, F10⟩ := c.def_ 10 (d := mOf "into" "Web.into" sInto) rfl
  obtain ⟨d11, F11⟩ := c.def_ 11 (d := mOf "named" "Web.named" sNamed) rfl
  obtain ⟨d12, F12⟩ := c.def_ 12 (d := dOf "_law_letter" sLetter) rfl
  obtain ⟨d13, F13⟩ := c.def_ 13 (d := dOf "_law_name" sName) rfl
  obtain ⟨d14, F14⟩ := c.def_ 14 (d := dOf "_law_bad" sBad) rfl
  obtain ⟨d15, F15⟩ := c.def_ 15 (d := dOf "_law_which" sWhich) rfl
  obtain ⟨d16, F16⟩ := c.def_ 16 (d := dOf "_law_deed" sDeed) rfl
  obtain ⟨d17, F17⟩ := c.def_ 17 (d := dOf "_law_due" sDue) rfl
  obtain ⟨d18, F18⟩ := c.def_ 18 (d := dOf "_law_said" sSaid) rfl
  obtain ⟨d19, F19⟩ := c.def_ 19 (d := dOf "_law_asked" sAsked) rfl
  obtain ⟨d20, F20⟩ := c.def_ 20 (d := dOf "_law_looked" sLooked) rfl
  obtain ⟨d21, F21⟩ := c.def_ 21 (d := dOf "law" sLaw) rfl
  have eq := hfa.symm.trans (He.glo_ok X G (c.fact 55 (f := .glo "law") rfl))
  cases eq
  have b0 : L2.Binds K d0 ["text"] [] := FunD.bindsN F0 fun _ _ _ _ _ _ us hl => match us, hl with | [_], _ => rfl
  have b1 : L2.Binds K d1 ["number"] [] := FunD.bindsN F1 fun _ _ _ _ _ _ us hl => match us, hl with | [_], _ => rfl
  have b2 : L2.Binds K d2 ["self"] [] := FunD.bindsN F2 fun _ _ _ _ _ _ us hl => match us, hl with | [_], _ => rfl
  have b3 : L2.Binds K d3 ["self", "name"] [] := FunD.bindsN F3 fun _ _ _ _ _ _ us hl => match us, hl with | [_, _], _ => rfl
  have b4 : L2.Binds K d4 ["self", "name"] [] := FunD.bindsN F4 fun _ _ _ _ _ _ us hl => match us, hl with | [_, _], _ => rfl
  have b5 : L2.Binds K d5 ["self", "name"] [] := FunD.bindsN F5 fun _ _ _ _ _ _ us hl => match us, hl with | [_, _], _ => rfl
  obtain ⟨ds6, v6, b6⟩ : ∃ ds, Vals [V.int 0] ds ∧ L2.Binds K d6 ["self", "start", "name", "end", "weight"] ds := FunD.binds1 F6 4 0 (by simp [mOf, He.DefD.dvs]) rfl fun _ _ _ _ _ _ _ us its hl hi => match us, hl, its, hi with | [_, _, _, _], _, [_], _ => ⟨_, rfl, rfl⟩
  obtain ⟨es6, u6, c6⟩ : ∃ ds, Vals [] ds ∧ L2.Binds K d6 ["self", "start", "name", "end", "weight"] ds := FunD.binds1 F6 5 1 (by simp [mOf, He.DefD.dvs]) rfl fun _ _ _ _ _ _ _ us its hl hi => match us, hl, its, hi with | [_, _, _, _, _], _, [_], _ => ⟨_, rfl, rfl⟩
  have b7 : L2.Binds K d7 ["self", "number"] [] := FunD.bindsN F7 fun _ _ _ _ _ _ us hl => match us, hl with | [_, _], _ => rfl
  have b8 : L2.Binds K d8 ["self", "number"] [] := FunD.bindsN F8 fun _ _ _ _ _ _ us hl => match us, hl with | [_, _], _ => rfl
  have b9 : L2.Binds K d9 ["self", "name"] [] := FunD.bindsN F9 fun _ _ _ _ _ _ us hl => match us, hl with | [_, _], _ => rfl
  have b10 : L2.Binds K d10 ["self", "name"] [] := FunD.bindsN F10 fun _ _ _ _ _ _ us hl => match us, hl with | [_, _], _ => rfl
  have b11 : L2.Binds K d11 ["self", "name"] [] := FunD.bindsN F11 fun _ _ _ _ _ _ us hl => match us, hl with | [_, _], _ => rfl
  have b12 : L2.Binds K d12 ["number"] [] := FunD.bindsN F12 fun _ _ _ _ _ _ us hl => match us, hl with | [_], _ => rfl
  have b13 : L2.Binds K d13 ["number", "way"] [] := FunD.bindsN F13 fun _ _ _ _ _ _ us hl => match us, hl with | [_, _], _ => rfl
  have b14 : L2.Binds K d14 ["cell", "way"] [] := FunD.bindsN F14 fun _ _ _ _ _ _ us hl => match us, hl with | [_, _], _ => rfl
  have b15 : L2.Binds K d15 ["e"] [] := FunD.bindsN F15 fun _ _ _ _ _ _ us hl => match us, hl with | [_], _ => rfl
  have b16 : L2.Binds K d16 ["cell", "way", "many", "rows"] [] := FunD.bindsN F16 fun _ _ _ _ _ _ us hl => match us, hl with | [_, _, _, _], _ => rfl
  have b17 : L2.Binds K d17 ["rows", "things", "deed", "coming"] [] := FunD.bindsN F17 fun _ _ _ _ _ _ us hl => match us, hl with | [_, _, _, _], _ => rfl
  have b18 : L2.Binds K d18 ["web", "deed"] [] := FunD.bindsN F18 fun _ _ _ _ _ _ us hl => match us, hl with | [_, _], _ => rfl
  have b19 : L2.Binds K d19 ["web", "part", "name"] [] := FunD.bindsN F19 fun _ _ _ _ _ _ us hl => match us, hl with | [_, _, _], _ => rfl
  have b20 : L2.Binds K d20 ["web", "rows", "things", "names", "cell"] [] := FunD.bindsN F20 fun _ _ _ _ _ _ us hl => match us, hl with | [_, _, _, _, _], _ => rfl
  have b21 := FunD.bindsA (ps := ["script"]) F21 fun _ _ _ _ _ _ us hl => match us, hl with | [_], _ => rfl
  refine ⟨d21, fun s v => b21 s [v] rfl, fun base _ _ => ?_⟩
  have D0 : Def P w K mg base CX0 1 "good_name" ["text"] spGood := ⟨_, _, He.glo_ok X G (c.fact 44 (f := .glo "good_name") rfl), F0.kp, b0, ok_good F0 T⟩
  have D1 : Def P w K mg base CX0 1 "small_number" ["number"] spSmall := ⟨_, _, He.glo_ok X G (c.fact 45 (f := .glo "small_number") rfl), F1.kp, b1, ok_small F1 T⟩
  have M3 : Mth P w K mg base (L2.CX P w) 1 (adr K).web "ask_thing" ["self", "name"] [] (spAsk (adr K)) := ⟨_, _, _, He.meth_ok (c.fact 35 (f := .meth "Web" "ask_thing") rfl), .nil, b3, ok_ask F3 T⟩
  have M4 : Mth P w K mg base (L2.CX P w) 2 (adr K).web "add_thing" ["self", "name"] [] (spAdd (adr K)) := ⟨_, _, _, He.meth_ok (c.fact 36 (f := .meth "Web" "add_thing") rfl), .nil, b4, ok_add F4 T D0⟩
  have M5 : Mth P w K mg base (L2.CX P w) 2 (adr K).web "drop_thing" ["self", "name"] [] (spDrop (adr K)) := ⟨_, _, _, He.meth_ok (c.fact 37 (f := .meth "Web" "drop_thing") rfl), .nil, b5, ok_drop F5 T M3⟩
  have K6 := ok_tie (P := P) (w := w) (base := base) F6 T M3 D0 D1
  have M6 : Mth P w K mg base (L2.CX P w) 2 (adr K).web "add_tie" ["self", "start", "name", "end", "weight"] [.int 0] (spTie (adr K)) := ⟨_, _, _, He.meth_ok (c.fact 38 (f := .meth "Web" "add_tie") rfl), v6, b6, K6⟩
  have N6 : Mth P w K mg base (L2.CX P w) 2 (adr K).web "add_tie" ["self", "start", "name", "end", "weight"] [] (spTie (adr K)) := ⟨_, _, _, He.meth_ok (c.fact 38 (f := .meth "Web" "add_tie") rfl), u6, c6, K6⟩
  have M8 : Mth P w K mg base CX0 1 (adr K).web "tie" ["self", "number"] [] (spRow (adr K)) := ⟨_, _, _, He.meth_ok (c.fact 40 (f := .meth "Web" "tie") rfl), .nil, b8, ok_row F8 T⟩
  have M7 : Mth P w K mg base (L2.CX P w) 2 (adr K).web "cut_tie" ["self", "number"] [] (spCut (adr K)) := ⟨_, _, _, He.meth_ok (c.fact 39 (f := .meth "Web" "cut_tie") rfl), .nil, b7, ok_cut F7 T M8⟩
  have M9 : Mth P w K mg base (L2.CX P w) 2 (adr K).web "out_of" ["self", "name"] [] (spList (adr K) outN) := ⟨_, _, _, He.meth_ok (c.fact 41 (f := .meth "Web" "out_of") rfl), .nil, b9, ok_out F9 T M3⟩
  have M10 : Mth P w K mg base (L2.CX P w) 2 (adr K).web "into" ["self", "name"] [] (spList (adr K) inN) := ⟨_, _, _, He.meth_ok (c.fact 42 (f := .meth "Web" "into") rfl), .nil, b10, ok_into F10 T M3⟩
  have M11 : Mth P w K mg base CX0 1 (adr K).web "named" ["self", "name"] [] (spNamed (adr K)) := ⟨_, _, _, He.meth_ok (c.fact 43 (f := .meth "Web" "named") rfl), .nil, b11, ok_named F11 T⟩
  have D12 : Def P w K mg base CX0 1 "_law_letter" ["number"] spLetter := ⟨_, _, He.glo_ok X G (c.fact 46 (f := .glo "_law_letter") rfl), F12.kp, b12, ok_letter F12⟩
  have D13 : Def P w K mg base CX0 2 "_law_name" ["number", "way"] spName := ⟨_, _, He.glo_ok X G (c.fact 47 (f := .glo "_law_name") rfl), F13.kp, b13, ok_name F13 D12⟩
  have D14 : Def P w K mg base CX0 3 "_law_bad" ["cell", "way"] spBad := ⟨_, _, He.glo_ok X G (c.fact 48 (f := .glo "_law_bad") rfl), F14.kp, b14, ok_bad F14 T D13⟩
  have D15 : Which P w K mg base (adr K) := which_mk F15 b15 (He.glo_ok X G (c.fact 49 (f := .glo "_law_which") rfl)) T
  have D16 : Def P w K mg base CX0 3 "_law_deed" ["cell", "way", "many", "rows"] spDeed := ⟨_, _, He.glo_ok X G (c.fact 50 (f := .glo "_law_deed") rfl), F16.kp, b16, ok_deed F16 T D13⟩
  have D17 : Def P w K mg base CX0 1 "_law_due" ["rows", "things", "deed", "coming"] spDue := ⟨_, _, He.glo_ok X G (c.fact 51 (f := .glo "_law_due") rfl), F17.kp, b17, ok_due F17 T⟩
  have D18 : Def P w K mg base CX0 3 "_law_said" ["web", "deed"] (spSaid (adr K)) := ⟨_, _, He.glo_ok X G (c.fact 52 (f := .glo "_law_said") rfl), F18.kp, b18, ok_said F18 T D15 M7 M4 M5 M6⟩
  have D19 : Def P w K mg base CX0 3 "_law_asked" ["web", "part", "name"] (spAsked (adr K)) := ⟨_, _, He.glo_ok X G (c.fact 53 (f := .glo "_law_asked") rfl), F19.kp, b19, ok_asked F19 T D15 M9 M10 M11⟩
  have D20 : Def P w K mg base CX0 4 "_law_looked" ["web", "rows", "things", "names", "cell"] (spLooked (adr K)) := ⟨_, _, He.glo_ok X G (c.fact 54 (f := .glo "_law_looked") rfl), F20.kp, b20, ok_looked F20 T D19⟩
  exact ok_law F21 T (He.mkr_ok (c.fact 34 (f := .mkr "Web") rfl)) b2 (ok_init F2 T) D13 D14 D16 D17 D18 D20 M4 N6 M9
end K07
open PySem PySem.W PySem.Calls PyProof.Rows
theorem PySem.Challenge.cw_tieseek_k07_where_ties_stand_holds : PySem.Challenge.rw_tieseek_k07_where_ties_stand.Holds := by
  w_on; o_law
  refine HandSHeadRun.head_any (r := OpenLaw.row PySem.Challenge.rw_tieseek_k07_where_ties_stand) (q := view (OpenLaw.row PySem.Challenge.rw_tieseek_k07_where_ties_stand).prog [30]) (H := K07.hk) (ob := K07.ob) (M := 20000) (loose := K07.names) (d := HandSHeadRun.topDef (OpenLaw.row PySem.Challenge.rw_tieseek_k07_where_ties_stand).prog 30) (kwd := []) K07.ob_eq
    (by kernel_rfl) (fun s => by kernel_rfl) K07.run (by kernel_rfl) (by kernel_rfl) (by kernel_rfl) (by rfl) (by first | assumption | decide +kernel) (by decide +kernel) ⟨rfl, rfl, rfl, rfl, rfl, by decide +kernel⟩ ?hw ?hc
  case hw => w_witness2
  case hc =>
    refine L2.walk_ofE (l := PySem.Challenge.rw_tieseek_k07_where_ties_stand) (n := 63) (k := 5) (x := "script") (CX := L2.CX0) rfl (by decide) (by kernel_rfl) ⟨rfl, by decide, by decide⟩ ?F (fun _ _ _ _ z => z)
    intro w mg fa h Y G hmg0
    obtain ⟨K, KX, c⟩ := Y
    have hmg : mg ("law" : PySem.Str) = some (.ref fa) := by
      have e : (HandSHeadRun.topDef (OpenLaw.row PySem.Challenge.rw_tieseek_k07_where_ties_stand).prog 30).name = ("law" : PySem.Str) := by kernel_rfl
      rw [← e]
      exact hmg0
    obtain ⟨fd, hb, hF⟩ := K07.facts (P := (PySem.Challenge.rw_tieseek_k07_where_ties_stand).prog) (w := w) KX G hmg c
    exact ⟨K, fd, K07.spLaw K, KX, hb, fun H a ns hl _ hS => ⟨a, ns, rfl, hS, hl, fun _ => rfl⟩, hF⟩
