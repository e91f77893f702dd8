import PyProof.Rows.All
import Wide.All
import OpenK.AllK
import Wide.FinOn
import PyProof.EqAt
import PyProof.EqKinds
import PyProof.TupleCall
import Open.SpecLaws
import KE.OsGo
import KE.KTupSum
import KE.DataMinMax
import KE.KDictKeyed
import KE.KDictCopyH
import KE.KDictSum
import HandS.ForMost
import HandS.ForSpec
import HandS.Codes
import HandS.DictTup
import HandS.TupLen
import HandS.TupAny
import HandS.TupSets
import HandS.SortKw
import HandS.NoneIn
import HandS.Zip
import HandS.CallLocal
import Km540Spec
import PySem.Challenge.RW_twocoders_s01_answers
import HandS.Walk
import PyKm540
set_option Elab.async false
set_option maxRecDepth 100000
set_option maxHeartbeats 4000000
/-! Rules that the hand layer lacks, for this program. -/
namespace TC
open PySem PySem.Spec PyProof.Rows L2

/-! ### the greatest of a tuple or list of ints -/
def mxD (d : Int) : List Int → Int
  | [] => d
  | n :: r => r.foldl max n
theorem dp_ints {K : PySem.W.Frag} {H : Hp} : ∀ ns : List Int, DpAll K H (ns.map V.int) (ns.map PyData.int)
  | [] => .nil
  | n :: r => .cons (.int n) (dp_ints r)
theorem alike_ints (ns : List Int) : PySem.W.AlikeAll (ns.map PyData.int) := by
  refine ⟨fun x hx y hy => ?_, fun x hx => ?_⟩
  · obtain ⟨a, _, rfl⟩ := List.mem_map.mp hx
    obtain ⟨b, _, rfl⟩ := List.mem_map.mp hy
    rfl
  · obtain ⟨a, _, rfl⟩ := List.mem_map.mp hx
    intro h
    cases h
theorem depth_ints : ∀ ns : List Int, PyData.depthAll (ns.map PyData.int) ≤ 1
  | [] => by simp [PyData.depthAll]
  | n :: r => by
    have ih := depth_ints r
    simp only [List.map_cons, PyData.depthAll, PyData.depth]
    omega
theorem reads_int_of {h : Heap} {v : Value} {m : Int} {bs : List Addr} (r : Reads h v (.int m) bs) : ∃ t, v = Value.int m t := by
  cases r
  exact ⟨_, rfl⟩
section
variable {X : Cx}
/-- max(t, default=d), t a tuple of ints -/
def rMaxTD (K : PySem.W.Frag) : List V → List V → Hp → VK → Prop := fun xs zs H Q => ∃ (a : Addr) (ns : List Int) (d : Int), xs = [.ref a] ∧ zs = [.int d] ∧ SqT K H a (ns.map V.int) ∧ Q (.int (mxD d ns)) H
theorem cr_maxTD (hc : X.calm = true) (hu : X.A.units + 64 < cLine) : CallRK X (.builtin "max") [Str.ofString "default"] (rMaxTD X.K) := by
  intro pins s σ H xs zs us ws Q I r rz h
  obtain ⟨a, ns, d, rfl, rfl, hs, q⟩ := h
  obtain ⟨its, rv, ht, _⟩ := I.tuple hs
  obtain ⟨u, rfl, ru⟩ := vals1 r
  obtain rfl : u = Value.ref a := ru
  obtain ⟨w', rfl, td, rfl⟩ := vals1 rz
  obtain ⟨as, hr⟩ := Dp.readsAll I (ns.map PyData.int) (ns.map V.int) its (dp_ints ns) rv
  have hd := depth_ints ns
  refine PySem.W.max_tuple_default (I.ok.hd hc) (show s.heap.IsTuple a its.toArray from ht) (xs := ns.map PyData.int) (by simpa using hr) (alike_ints ns) (by omega) (fun e h' tk hk => ?_) (fun y ys i v h' tk bs e hv hr' hk => ?_)
  · have e0 : ns = [] := List.map_eq_nil_iff.mp e
    subst e0
    exact ⟨.int d, H, I.kept (t' := tk) hk, ⟨td, rfl⟩, q⟩
  · cases ns with
    | nil => cases e
    | cons n r =>
      rw [List.map_cons] at e
      injection e with e1 e2
      subst e1 e2
      rw [PySem.W.maxD_ints] at hr'
      obtain ⟨t, rfl⟩ := reads_int_of hr'
      exact ⟨.int (mxD d (n :: r)), H, I.kept (t' := tk) hk, ⟨t, rfl⟩, q⟩
/-- max(t), t a tuple of ints, not empty -/
def rMaxT (K : PySem.W.Frag) : List V → Hp → VK → Prop := fun xs H Q => ∃ (a : Addr) (n : Int) (ns : List Int), xs = [.ref a] ∧ SqT K H a ((n :: ns).map V.int) ∧ Q (.int (ns.foldl max n)) H
theorem cr_maxT (hc : X.calm = true) (hu : X.A.units + 64 < cLine) : CallR X (.builtin "max") (rMaxT X.K) := by
  intro pins s σ H xs us Q I r h
  obtain ⟨a, n, ns, rfl, hs, q⟩ := h
  obtain ⟨its, rv, ht, _⟩ := I.tuple hs
  obtain ⟨u, rfl, ru⟩ := vals1 r
  obtain rfl : u = Value.ref a := ru
  obtain ⟨as, hr⟩ := Dp.readsAll I ((n :: ns).map PyData.int) ((n :: ns).map V.int) its (dp_ints _) rv
  have hd := depth_ints (n :: ns)
  refine PySem.W.max_tuple_data (I.ok.hd hc) (show s.heap.IsTuple a its.toArray from ht) (x := .int n) (xs := ns.map PyData.int) (by simpa using hr) (alike_ints (n :: ns)) (by simp only [List.map_cons] at hd; omega) (fun i v h' tk bs hv hr' hk => ?_)
  rw [PySem.W.maxD_ints] at hr'
  obtain ⟨t, rfl⟩ := reads_int_of hr'
  exact ⟨.int _, H, I.kept (t' := tk) hk, ⟨t, rfl⟩, q⟩
/-- sum(t), t a tuple of ints -/
def rSumT (K : PySem.W.Frag) : List V → Hp → VK → Prop := fun xs H Q => ∃ (a : Addr) (ns : List Int), xs = [.ref a] ∧ SqT K H a (ns.map V.int) ∧ Q (.int ns.sum) H
theorem cr_sumT (hc : X.calm = true) : CallR X (.builtin "sum") (rSumT X.K) := by
  intro pins s σ H xs us Q I r h
  obtain ⟨a, ns, rfl, hs, q⟩ := h
  obtain ⟨its, rv, ht, _⟩ := I.tuple hs
  obtain ⟨u, rfl, ru⟩ := vals1 r
  obtain rfl : u = Value.ref a := ru
  have hi := rv.ints
  obtain ⟨ys, hx⟩ := hi.allInts.items
  have hn : numsOf its.toArray.toList = ns := by rw [show its.toArray.toList = its from rfl, hi.numsOf]
  have ht' : s.heap.IsTuple a its.toArray := ht
  rw [hx] at ht' hn
  rw [nums_intItems] at hn
  refine PySem.W.ktm_sumG (I.ok.hd hc) ht' fun h' tk t' hk => ?_
  rw [preSum_eq, List.take_of_length_le (by simp), hn]
  exact ⟨.int _, H, I.kept (t' := tk) hk, ⟨_, rfl⟩, q⟩
end
end TC
/-! Rules that the hand layer lacks: dicts with tuple keys. -/
namespace TC
open PySem PySem.Spec PyProof.Rows L2
section
variable {X : Cx} {pins : List (Addr × Obj)} {σ : L2.St} {H : Hp} {s : Shared} {a b : Addr} {r : Value} {d : V} {k : List Key} {A : Around} {E : Value → Shared → Prop} {kvs : List (List Key × V)}
theorem valT {xs : List (List Key × Addr × Value)} (rel : KT H kvs xs) (k : List Key) : RelO (valV kvs k) (valueAt (pairsH xs) k) := by
  rw [valueAt_pairsH]
  exact rel.val k
/-- d.setdefault(t, z), tuple keys -/
theorem d_setdT {Q : Value → Shared → Prop} (hu : A.units + 1 < cLine) (I : Inv X pins σ H s) (e : H a = some (.dT kvs)) (eb : H b = some (.tup (k.map kV))) (rd : RelV d r) (hl : kvs.length < sizeLine)
    (h1 : ∀ v, valV kvs k = some v → ∀ (w' : Value) (s' : Shared), Inv X pins σ H s' → RelV v w' → Q w' s')
    (h2 : valV kvs k = none → ∀ (w' : Value) (s' : Shared), Inv X pins σ (upd H a (.dT (putK kvs k d))) s' → RelV d w' → Q w' s') :
    wpAny (model X.prog X.w) A (call (.builtin "dict.setdefault") [.ref a, .ref b, r]) Q E s := by
  obtain ⟨z, hd, xs, rel, dd⟩ := dt_of I.hok e
  have hz : xs.length ≤ sizeLine := by rw [← Paired.length rel]; exact z
  refine call_setdefault_heap (hsz := hz) (tupleKind_room_in1 hu) (key_of I.hok eb) hd dd (fun p hp => ?_) (fun hn h' dd' hs => ?_)
  · have q := rel.val k
    rw [hp] at q
    cases q0 : valV kvs k with
    | none =>
      rw [q0] at q
      exact (show False from q).elim
    | some v0 =>
      rw [q0] at q
      exact h1 v0 q0 _ _ (I.tok _) q
  · have q := rel.val k
    rw [hn] at q
    cases q0 : valV kvs k with
    | some v0 =>
      rw [q0] at q
      exact (show False from q).elim
    | none =>
      have hl2 : (putK kvs k d).length ≤ sizeLine := by
        have := length_putK kvs k d
        omega
      obtain ⟨o, es, ep, hq, g2, g3, g4, _, g5⟩ := dd'
      refine h2 q0 _ _ (d_write I (by rw [e]; exact True.intro) hs ⟨o, hq⟩ ⟨hl2, hd, _, (rel.put k eb rd).keeps fun c ys ec => ?_, o, es, ep, hq, g2, g3, g4, g5⟩) rd
      rw [upd_ne (ne_of ec e (fun z => nomatch z))]
      exact ec
/-- d.pop(t), tuple keys, there -/
theorem d_popT {v : V} {Q : Value → Shared → Prop} (hu : A.units + 1 < cLine) (I : Inv X pins σ H s) (e : H a = some (.dT kvs)) (eb : H b = some (.tup (k.map kV))) (l : valV kvs k = some v)
    (h : ∀ (w' : Value) (s' : Shared), Inv X pins σ (upd H a (.dT (dropK kvs k))) s' → RelV v w' → Q w' s') :
    wpAny (model X.prog X.w) A (call (.builtin "dict.pop") [.ref a, .ref b]) Q E s := by
  obtain ⟨z, hd, xs, rel, dd⟩ := dt_of I.hok e
  have hz : xs.length ≤ sizeLine := by rw [← Paired.length rel]; exact z
  have q := rel.val k
  rw [l] at q
  cases q0 : atKey xs k with
  | none =>
    rw [q0] at q
    exact (show False from q).elim
  | some p =>
    rw [q0] at q
    refine call_pop_heap (hsz := hz) (.inl rfl) (PySem.F.args_dict_pop_2 _ _) (tupleKind_room_in1 hu) (key_of I.hok eb) hd dd q0 fun h' dd' hs => ?_
    have e2 : withoutH xs k = DT.dropH xs k := by first | rfl | simp [withoutH, DT.dropH]
    obtain ⟨o, es, ep, hq, g2, g3, g4, _, g5⟩ := dd'
    refine h _ _ (d_write I (by rw [e]; exact True.intro) hs ⟨o, hq⟩ ⟨Nat.le_trans (dropK_le kvs k) z, hd, _, (L2.DX.KT_drop k rel).keeps fun c ys ec => ?_, o, es, ep, hq, g2, g3, by rw [← e2]; exact g4, by rw [← e2]; exact g5⟩) q
    rw [upd_ne (ne_of ec e (fun z => nomatch z))]
    exact ec
end
/-- d.setdefault(t, z) -/
def tDSetdT (td ty tx : TE) : TE := fun σ H Q => td σ H fun x H1 => ∃ a, x = .ref a ∧ IsD H1 a ∧ ty σ H1 fun y H2 => tx σ H2 fun z H3 => ∃ (kvs : List (List Key × V)) (k : List Key) (b : Addr), H3 a = some (.dT kvs) ∧ y = .ref b ∧ H3 b = some (.tup (k.map kV)) ∧ kvs.length < sizeLine ∧
  (∀ v, valV kvs k = some v → Q v H3) ∧ (valV kvs k = none → Q z (upd H3 a (.dT (putK kvs k z))))
/-- d.pop(t) -/
def tDPopT (td ty : TE) : TE := fun σ H Q => td σ H fun x H1 => ∃ a, x = .ref a ∧ IsD H1 a ∧ ty σ H1 fun y H2 => ∃ (kvs : List (List Key × V)) (k : List Key) (b : Addr) (v : V), H2 a = some (.dT kvs) ∧ y = .ref b ∧ H2 b = some (.tup (k.map kV)) ∧ valV kvs k = some v ∧ Q v (upd H2 a (.dT (dropK kvs k)))
section
variable {X : Cx} {o e f : Expr} {td ty tx : TE} {apos cpos : Pos}
theorem pe_dsetdT (hu : X.A.units + 1 < cLine) (ho : PE X o td) (he : PE X e ty) (hf : PE X f tx) (m : M2 X o "setdefault" apos e f cpos) : PE X (.Call (.Attribute o "setdefault" apos) [e, f] [] cpos) (tDSetdT td ty tx) := by
  refine ⟨fun pins s σ H Q I h => ?_⟩
  refine wpAny_Call_method m.base m.few m.line PySem.F.plainAttrs_dict PySem.F.slot_dict_setdefault PySem.F.type_dict_setdefault (thn (ho.run pins s σ H _ I h) fun u s1 ⟨x, H1, I1, rx, a, ex, d, q1⟩ => ?_)
  subst ex
  obtain rfl : u = Value.ref a := rx
  obtain ⟨t1, t2, _⟩ := isD_at I1 d
  refine ⟨t1, t2, ?_⟩
  rw [m.trees]
  refine Calls.callWith_builtin rfl (Calls.evalArgs_plain (Calls.spliced_cons (thn (he.run pins s1 σ H1 _ I1 q1) fun iv s2 ⟨y, H2, I2, ry, q2⟩ =>
    Calls.spliced_cons (thn (hf.run pins s2 σ H2 _ I2 q2) fun fv s3 ⟨z, H3, I3, rz, kvs, k, b, ea, ey, eb, hl, q3, q4⟩ => Calls.spliced_nil ?_))))
  subst ey
  obtain rfl : iv = Value.ref b := ry
  exact d_setdT hu I3 ea eb rz hl (fun v hv w' s4 I4 rw' => ⟨v, _, I4, rw', q3 v hv⟩) fun hn w' s4 I4 rw' => ⟨z, _, I4, rw', q4 hn⟩
theorem pe_dpopT (hu : X.A.units + 1 < cLine) (ho : PE X o td) (he : PE X e ty) (m : M1 X o "pop" apos e cpos) : PE X (.Call (.Attribute o "pop" apos) [e] [] cpos) (tDPopT td ty) := by
  refine ⟨fun pins s σ H Q I h => ?_⟩
  refine wpAny_Call_method m.base m.few m.line PySem.F.plainAttrs_dict PySem.F.slot_dict_pop PySem.F.type_dict_pop (thn (ho.run pins s σ H _ I h) fun u s1 ⟨x, H1, I1, rx, a, ex, d, q1⟩ => ?_)
  subst ex
  obtain rfl : u = Value.ref a := rx
  obtain ⟨t1, t2, _⟩ := isD_at I1 d
  refine ⟨t1, t2, ?_⟩
  rw [m.trees]
  refine Calls.callWith_builtin rfl (Calls.evalArgs_plain (Calls.spliced_cons (thn (he.run pins s1 σ H1 _ I1 q1) fun iv s2 ⟨y, H2, I2, ry, kvs, k, b, v, ea, ey, eb, l, q2⟩ => Calls.spliced_nil ?_)))
  subst ey
  obtain rfl : iv = Value.ref b := ry
  exact d_popT hu I2 ea eb l fun w' s4 I4 rw' => ⟨v, _, I4, rw', q2⟩
end

/-! ### sorted(d), d's keys pairs of small ints -/
/-- the key of a pair -/
def pk (p : Int × Int) : List Key := [.inl p.1, .inl p.2]
def ltPr (p q : Int × Int) : Prop := p.1 < q.1 ∨ (p.1 = q.1 ∧ p.2 < q.2)
/-- as: where the tuples stand, ps: the pairs -/
structure PairsAt (H : Hp) (as : List Addr) (ps : List (Int × Int)) : Prop where
  len : as.length = ps.length
  at_ : ∀ (i : Nat) (b : Addr) (p : Int × Int), as[i]? = some b → ps[i]? = some p → H b = some (.tup [.int p.1, .int p.2])
def rSortedDT (B : Int) : List V → Hp → VK → Prop := fun vs H Q => ∃ (a : Addr) (kvs : List (List Key × V)) (ps : List (Int × Int)), vs = [.ref a] ∧ H a = some (.dT kvs) ∧ kvs.map (·.1) = ps.map pk ∧ ps.length < 64 ∧ (∀ p ∈ ps, TS.Bd B [p.1, p.2]) ∧
  ∀ (qs : List (Int × Int)) (as : List Addr) (p : Addr), qs.Perm ps → qs.Pairwise (fun x y => TS.code B [x.1, x.2] ≤ TS.code B [y.1, y.2]) → PairsAt H as qs → H p = none → Q (.ref p) (upd H p (.lst (as.map V.ref)))
end TC
/-! Rules that the hand layer lacks: sorted(d) of a dict with pairs for keys. -/
namespace TC
open PySem PySem.Spec PyProof.Rows L2
theorem lst_of {α : Type} {P : Nat → Value → Prop} {f : α → Value} : ∀ {l : List Value} {m : List α}, l.length = m.length → (∀ (i : Nat) (v : Value) (x : α), l[i]? = some v → m[i]? = some x → v = f x) → l = m.map f
  | [], [], _, _ => rfl
  | [], _ :: _, h, _ => by simp at h
  | _ :: _, [], h, _ => by simp at h
  | v :: l, x :: m, h, g => by
    have e := g 0 v x rfl rfl
    rw [List.map_cons, e]
    refine congrArg _ (lst_of (P := P) (by simpa using h) fun i v' x' h1 h2 => g (i + 1) v' x' (by simpa using h1) (by simpa using h2))
/-- the addresses of the keys -/
theorem keys_at {H : Hp} : ∀ {kvs : List (List Key × V)} {xs : List (List Key × Addr × Value)} {ps : List (Int × Int)}, KT H kvs xs → kvs.map (·.1) = ps.map pk → PairsAt H (xs.map (·.2.1)) ps
  | [], _, [], .nil, _ => ⟨rfl, fun i b p h => by simp at h⟩
  | [], _, _ :: _, _, h => by simp at h
  | _ :: _, _, [], _, h => by simp at h
  | kv :: kvs, x :: xs, p :: ps, .cons h t, e => by
    rw [List.map_cons, List.map_cons] at e
    injection e with e1 e2
    have ih := keys_at t e2
    obtain ⟨h1, h2, _⟩ := h
    refine ⟨by rw [List.map_cons, List.length_cons, List.length_cons, ih.len], fun i b q hb hq => ?_⟩
    cases i with
    | zero =>
      have eb : x.2.1 = b := by simpa using hb
      have eq : p = q := by simpa using hq
      subst eb eq
      rw [e1] at h2
      exact h2
    | succ i => exact ih.at_ i b q (by simpa using hb) (by simpa using hq)
/-- the pairs' list may be rearranged as the addresses are -/
theorem pairs_perm {H : Hp} {as : List Addr} {ps : List (Int × Int)} (h : PairsAt H as ps) : ∀ {bs : List Addr}, bs.Perm as → ∃ qs : List (Int × Int), PairsAt H bs qs ∧ (bs.zip qs).Perm (as.zip ps) := by
  intro bs hp
  have hz : (as.zip ps).map (·.1) = as := List.map_fst_zip (by rw [h.len]; exact Nat.le_refl _)
  have : ∃ zs : List (Addr × (Int × Int)), zs.Perm (as.zip ps) ∧ zs.map (·.1) = bs := by
    have key : ∀ {l m : List Addr}, l.Perm m → ∀ zs : List (Addr × (Int × Int)), zs.map (·.1) = l → ∃ ys : List (Addr × (Int × Int)), ys.Perm zs ∧ ys.map (·.1) = m := by
      intro l m hp
      induction hp with
      | nil => intro zs e; exact ⟨zs, List.Perm.refl _, e⟩
      | cons x _ ih =>
        intro zs e
        cases zs with
        | nil => simp at e
        | cons z zs =>
          rw [List.map_cons] at e
          injection e with e1 e2
          obtain ⟨ys, p, q⟩ := ih zs e2
          exact ⟨z :: ys, p.cons z, by rw [List.map_cons, e1, q]⟩
      | swap x y l =>
        intro zs e
        match zs, e with
        | [], e => simp at e
        | [_], e => simp at e
        | z1 :: z2 :: zs, e =>
          simp only [List.map_cons] at e
          injection e with e1 e2
          injection e2 with e2 e3
          exact ⟨z2 :: z1 :: zs, List.Perm.swap z1 z2 zs, by simp [e1, e2, e3]⟩
      | trans _ _ ih1 ih2 =>
        intro zs e
        obtain ⟨ys, p, q⟩ := ih1 zs e
        obtain ⟨ws, p2, q2⟩ := ih2 ys q
        exact ⟨ws, p2.trans p, q2⟩
    obtain ⟨ys, p, q⟩ := key hp.symm (as.zip ps) hz
    exact ⟨ys, p, q⟩
  obtain ⟨zs, pz, ez⟩ := this
  have e2 : zs = bs.zip (zs.map (·.2)) := by
    rw [← ez]
    exact (List.zip_of_prod rfl rfl)
  refine ⟨zs.map (·.2), ⟨by rw [← ez, List.length_map, List.length_map], fun i b p hb hpp => ?_⟩, by rw [← e2]; exact pz⟩
  have hm : (b, p) ∈ as.zip ps := by
    refine pz.mem_iff.mp (List.mem_iff_getElem?.mpr ⟨i, ?_⟩)
    rw [e2]
    exact List.getElem?_zip_eq_some.mpr ⟨hb, hpp⟩
  obtain ⟨j, hj⟩ := List.mem_iff_getElem?.mp hm
  obtain ⟨j1, j2⟩ := List.getElem?_zip_eq_some.mp hj
  exact h.at_ j b p j1 j2
section
variable {X : Cx}
theorem tupInts_at {pins : List (Addr × Obj)} {σ : L2.St} {H : Hp} {s : Shared} (I : Inv X pins σ H s) {b : Addr} {p : Int × Int} (h : H b = some (.tup [.int p.1, .int p.2])) : TS.TupInts s.heap (.ref b) [p.1, p.2] := by
  obtain ⟨its, rv, ht, _⟩ := I.tuple (SqT.of (K := X.K) h)
  exact ⟨b, its.toArray, rfl, ht, rv.ints (ns := [p.1, p.2])⟩
theorem cr_sortedDT {B : Int} (hc : X.calm = true) : CallR X (.builtin "sorted") (rSortedDT B) := by
  intro pins s σ H vs us Q I r h
  obtain ⟨a, kvs, ps, rfl, ha, hk, h64, hB, q⟩ := h
  obtain ⟨u, rfl, ru⟩ := vals1 r
  obtain rfl : u = Value.ref a := ru
  obtain ⟨z, lo, xs, rel, dd⟩ := dt_of I.hok ha
  have hP := keys_at rel hk
  obtain ⟨es, ep, raw, hsz, hes⟩ := dd.raw
  have hl : xs.length = ps.length := by rw [← hP.len, List.length_map]
  have h16 : es.size ≤ sizeLine := by rw [hsz, hl, sizeLine_eq]; omega
  refine Calls.call_function_entry PyProof.Rows.kind_sorted PyProof.Rows.plain_sorted PyProof.Rows.entry_sorted (PyProof.Rows.args_sorted1 _) ?_
  unfold Builtin.«sorted»
  refine wpAny_bind (m := checkCount "sorted" 1 1 _) (wpAny_pure ?_)
  refine wpAny_bind (PySem.W.kdu_collect (A := X.A.in1) (KdlSrc.rawDict lo) (I.ok.hd hc) raw h16 fun h' tk acc hkeep hacc => ?_)
  have hal : acc.toList.length = ps.length := by rw [Array.length_toList, hacc.1, hsz, hl]
  have hacc2 : acc.toList = (xs.map (·.2.1)).map Value.ref := by
    refine lst_of (P := fun _ _ => True) (by rw [hal, List.length_map, hl]) fun i v x h1 h2 => ?_
    obtain ⟨hi, ev⟩ := hacc.2 i v (by rw [← Array.getElem?_toList]; exact h1)
    obtain ⟨y, hy, ek, _⟩ := hes i hi
    rw [List.getElem?_map, hy] at h2
    have e2 : y.2.1 = x := Option.some.inj h2
    rw [ev, ek, e2]
  have I1 : Inv X pins σ H { s with heap := h', toks := tk } := I.kept hkeep
  refine wpAny_bind (wpAny_newList ?_ (by rw [hal, sizeLine_eq]; omega))
  have hoL : (h'.push (seqObj "list" acc.toList.toArray 0)).get? h'.objs.size = some (seqObj "list" acc.toList.toArray 0) := Heap.get?_push_size _ rfl
  show wpAny _ _ _ _ _ { s with heap := h'.push (seqObj "list" acc.toList.toArray 0), toks := tk }
  have I2 : Inv X pins σ H { s with heap := h'.push (seqObj "list" acc.toList.toArray 0), toks := tk } := I1.kept (t' := tk) fun b o e => Heap.get?_push_of_some _ e
  have tup : ∀ (i : Nat) (b : Addr) (p : Int × Int), (xs.map (·.2.1))[i]? = some b → ps[i]? = some p → TS.TupInts (h'.push (seqObj "list" acc.toList.toArray 0)) (.ref b) [p.1, p.2] := fun i b p h1 h2 => tupInts_at I2 (hP.at_ i b p h1 h2)
  have okT : TS.TupsOk (h'.push (seqObj "list" acc.toList.toArray 0)) 2 B acc.toList := fun v hv => by
    rw [hacc2] at hv
    obtain ⟨b, hb, rfl⟩ := List.mem_map.mp hv
    obtain ⟨i, hi⟩ := List.mem_iff_getElem?.mp hb
    have hil : i < ps.length := by rw [← hP.len]; exact (List.getElem?_eq_some_iff.mp hi).1
    exact ⟨_, tup i b ps[i] hi (List.getElem?_eq_getElem hil), rfl, hB _ (List.getElem_mem hil)⟩
  refine wpAny_bind (wpAny_holding (TS.call_sort_tups (s := { s with heap := h'.push (seqObj "list" acc.toList.toArray 0), toks := tk }) hoL (by rw [hal]; exact h64) (by decide : 1 ≤ 2) okT fun out a1 a2 => ?_))
  obtain ⟨c, hc'⟩ := PyProof.Rows.sortedHeap_at (vs := acc.toList) (out := out) hoL
  -- the addresses, as they were arranged
  have ho : ∃ bs : List Addr, out.toList = bs.map Value.ref ∧ bs.Perm (xs.map (·.2.1)) := by
    rw [hacc2] at a1
    have inv : ∀ {l : List Value}, (∀ v ∈ l, ∃ b, v = Value.ref b) → ∃ bs : List Addr, l = bs.map Value.ref := by
      intro l
      induction l with
      | nil => intro _; exact ⟨[], rfl⟩
      | cons v l ih =>
        intro hv
        obtain ⟨b, e⟩ := hv v List.mem_cons_self
        obtain ⟨bs, e2⟩ := ih fun u hu => hv u (List.mem_cons_of_mem _ hu)
        exact ⟨b :: bs, by rw [List.map_cons, e, e2]⟩
    obtain ⟨bs, e⟩ := inv (l := out.toList) fun v hv => by
      obtain ⟨b, _, e⟩ := List.mem_map.mp (a1.mem_iff.mp hv)
      exact ⟨b, e.symm⟩
    refine ⟨bs, e, ?_⟩
    rw [e] at a1
    have f := a1.map (fun v : Value => match v with | .ref b => b | _ => 0)
    simpa [List.map_map, Function.comp_def] using f
  obtain ⟨bs, eb, pb⟩ := ho
  obtain ⟨qs, hQ, pz⟩ := pairs_perm hP pb
  have pq : qs.Perm ps := by
    have f := pz.map (·.2)
    rw [List.map_snd_zip (by rw [hQ.len]; exact Nat.le_refl _), List.map_snd_zip (by rw [hP.len]; exact Nat.le_refl _)] at f
    exact f
  have pw : qs.Pairwise (fun x y => TS.code B [x.1, x.2] ≤ TS.code B [y.1, y.2]) := by
    rw [eb, List.pairwise_map] at a2
    rw [List.pairwise_iff_getElem] at a2 ⊢
    intro i j hi hj hij
    have hi' : i < bs.length := by rw [hQ.len]; exact hi
    have hj' : j < bs.length := by rw [hQ.len]; exact hj
    have k := a2 i j hi' hj' hij
    have f : ∀ (i : Nat) (hi : i < bs.length) (hq : i < qs.length), TS.intsOf (h'.push (seqObj "list" acc.toList.toArray 0)) (.ref bs[i]) = [qs[i].1, qs[i].2] := fun i hi hq =>
      (tupInts_at I2 (hQ.at_ i bs[i] qs[i] (List.getElem?_eq_getElem hi) (List.getElem?_eq_getElem hq))).ints
    rw [f i hi' hi, f j hj' hj] at k
    exact k
  have hlen : (bs.map V.ref).length ≤ sizeLine := by
    rw [List.length_map, pb.length_eq, List.length_map, hl]
    exact Nat.le_trans (Nat.le_of_lt h64) (by decide)
  have rvs : ∀ bs : List Addr, Vals (bs.map V.ref) (bs.map Value.ref) := by
    intro bs
    induction bs with
    | nil => exact .nil
    | cons b bs ih => exact .cons rfl ih
  refine wpAny_pure ⟨_, rfl, .ref h'.objs.size, upd H h'.objs.size (.lst (bs.map V.ref)), I1.laid (t' := tk) (fun b u e => ?_) (Nat.le_refl _)
    (show ObjOk X.prog X.w _ _ _ (.lst (bs.map V.ref)) from ⟨hlen, out.toList, c, by rw [eb]; exact rvs bs, by rw [Array.toArray_toList]; exact hc'⟩), rfl, q qs bs _ pq pw hQ (I1.hok.fresh (Nat.le_refl _))⟩
  have hb : b < h'.objs.size := Heap.lt_size e
  rw [PyProof.Rows.sortedHeap_old (Nat.ne_of_lt hb) (by rw [size_push']; exact Nat.lt_succ_of_lt hb)]
  exact Heap.get?_push_of_some _ e
end
end TC
/-! Rules that the hand layer lacks: len(set(xs)), written dicts with int keys, a local def by its promise. -/
namespace TC
open PySem PySem.Spec PyProof.Rows L2
/-! ### len(set(xs)) -/
/-- the items as they come first -/
def firsts : List Int → List Int → List Int
  | acc, [] => acc
  | acc, x :: r => if acc.any (· == x) then firsts acc r else firsts (acc ++ [x]) r
theorem firstMet_firsts (ns : List Int) : ∀ (post pre : List Int), ns = pre ++ post → firsts (PyProof.Rows.firstMet (fun i => ns.getD i 0) pre.length) post = PyProof.Rows.firstMet (fun i => ns.getD i 0) ns.length
  | [], pre, e => by
    rw [List.append_nil] at e
    subst e
    rfl
  | x :: post, pre, e => by
    have ih := firstMet_firsts ns post (pre ++ [x]) (by rw [e]; simp)
    have hx : ns.getD pre.length 0 = x := by rw [e]; simp [List.getD_eq_getElem?_getD]
    rw [List.length_append, List.length_singleton, PyProof.Rows.firstMet_succ, hx] at ih
    rw [← ih]
    show (if (PyProof.Rows.firstMet (fun i => ns.getD i 0) pre.length).any (· == x) then firsts _ post else firsts (_ ++ [x]) post) = firsts (if (PyProof.Rows.firstMet (fun i => ns.getD i 0) pre.length).any (· == x) then _ else _) post
    split <;> rfl
def tLenSet2 (K : PySem.W.Frag) (ta : TE) : TE := fun σ H Q => ta σ H fun x H1 => ∃ (l : Addr) (ns : List Int), x = .ref l ∧ SqL K H1 l (ns.map V.int) ∧ ns.length ≤ 1000 ∧ Q (.int ((firsts [] ns).length : Nat)) H1
theorem firsts_le : ∀ (l acc : List Int), (firsts acc l).length ≤ acc.length + l.length
  | [], acc => by simp [firsts]
  | x :: r, acc => by
    unfold firsts
    split
    · have := firsts_le r acc
      rw [List.length_cons]; omega
    · have := firsts_le r (acc ++ [x])
      rw [List.length_append] at this
      rw [List.length_cons]
      simp only [List.length_singleton] at this
      omega
theorem pe_lenSet2 {X : Cx} {a : Expr} {ta : TE} {p p2 q pos : Pos} (hg : Gl X "len") (hm : X.mg "len" = none) (hg2 : Gl X "set") (hm2 : X.mg "set" = none) (ha : PE X a ta) (hc : X.calm = true := by rfl)
    (na : starEach [a] X.env = (false, eval a X.env) :: starEach [] X.env := by rfl) : PE X (.Call (.Name "len" p) [.Call (.Name "set" p2) [a] [] q] [] pos) (tLenSet2 X.K ta) := by
  refine ⟨fun pins s σ H Q I h => ?_⟩
  refine Call_ (ld_blt I hg hm boot_len ?_)
  refine PyProof.Rows.callWith_builtin1 (PyProof.Rows.args_cons ?_ rfl) rfl rfl
  refine Call_ (ld_blt I hg2 hm2 boot_set ?_)
  refine PyProof.Rows.callWith_type1 (PyProof.Rows.args_cons (thn (ha.run pins s σ H _ I h) fun v s1 ⟨x, H1, I1, r1, q1⟩ => PyProof.Rows.args_nil ?_) na) na rfl
  obtain ⟨l, ns, rfl, hq, hl, q1⟩ := q1
  cases r1
  obtain ⟨its, r, pl, hz⟩ := I1.list hq
  have hlen : its.toArray.size = ns.length := by rw [List.size_toArray, ← r.length, List.length_map]
  refine call_set_list (I1.ok.hd hc) pl.isList (by simpa using RZ.intsAre_vals r) (by rw [hlen]; unfold scanBound; omega) fun h' tk hS hk => ?_
  refine PyProof.Rows.args_nil ?_
  have ef := firstMet_firsts ns ns [] rfl
  have ef2 : firsts [] ns = PyProof.Rows.firstMet (fun i => ns.getD i 0) ns.length := ef
  have hfl := firsts_le ns []
  rw [hlen, ← ef2] at hS
  obtain ⟨o, es, ep, t, ho, hex, hd, _, _, _, hf, hn⟩ := hS
  have I2 : Inv X pins σ H1 { s1 with heap := h', toks := tk } := I1.kept fun b o e => hk b o (Heap.lt_size e) e
  exact call_len_set ho hex hd hf (by rw [hn]; simp at hfl; omega) ⟨.int _, H1, I2.tok _, ⟨_, by rw [hn]⟩, q1⟩

/-! ### a dict of the module with int keys -/
def entOk (e : DictEntry) (k : Int) (v : V) : Prop := (∃ t, e.key = Value.int k t) ∧ e.hash = hashInt k ∧ RelV v e.val
/-- the dict at a holds these, and is never written -/
def KTab (K : PySem.W.Frag) (a : Addr) (kvs : List (Int × V)) : Prop :=
  (a == sysModules) = false ∧ ∃ (es : Array DictEntry) (n : Nat), K.lookup a = some ⟨.type "dict", none, .dict es n, #[]⟩ ∧ Paired (fun (e : DictEntry) (p : Int × V) => entOk e p.1 p.2) es.toList kvs
def tabV (kvs : List (Int × V)) (k : Int) : Option V := (kvs.find? fun p => decide (p.1 = k)).map (·.2)
theorem tab_find {P : Program} {w : World} {k : Int} : ∀ {es : List DictEntry} {kvs : List (Int × V)}, Paired (fun (e : DictEntry) (p : Int × V) => entOk e p.1 p.2) es kvs →
    RelO (tabV kvs k) ((es.find? fun e => (intKind P w).is k e.key).map (·.val))
  | [], [], .nil => True.intro
  | e :: es, p :: kvs, .cons h t => by
    have ih := tab_find (P := P) (w := w) (k := k) t
    obtain ⟨⟨tk, ek⟩, hh, hv⟩ := h
    have ei : (intKind P w).is k e.key = decide (p.1 = k) := by
      rw [ek]
      show Value.isInt k (.int p.1 tk) = _
      unfold Value.isInt
      first
        | rfl
        | (by_cases c : p.1 = k
           · simp [c]
           · simp [c]; try exact fun z => c z.symm)
    unfold tabV
    rw [List.find?_cons, List.find?_cons, ei]
    by_cases c : p.1 = k
    · rw [decide_eq_true c]
      exact hv
    · rw [decide_eq_false c]
      exact ih
theorem KTab.map {P : Program} {w : World} {K : PySem.W.Frag} {h : Heap} {a : Addr} {kvs : List (Int × V)} (D : KTab K a kvs) (KX : K.In h) : ∃ f : Int → Option Value, h.MapOf (intKind P w) a f ∧ ∀ k, RelO (tabV kvs k) (f k) := by
  obtain ⟨_, es, n, hl, hp⟩ := D
  refine ⟨fun k => findBy (intKind P w).is es k, ⟨_, es, n, KX _ _ hl, ⟨rfl, rfl, rfl⟩, rfl, fun e he => ?_, fun k => rfl⟩, fun k => ?_⟩
  · have he' : e ∈ es.toList := by simpa using he
    have all : ∀ {es : List DictEntry} {kvs : List (Int × V)}, Paired (fun (e : DictEntry) (p : Int × V) => entOk e p.1 p.2) es kvs → e ∈ es → ∃ k, (intKind P w).is k e.key = true ∧ e.hash = (intKind P w).hash k := by
      intro es kvs q
      induction q with
      | nil => intro h; cases h
      | @cons e0 p es kvs h t ih =>
        intro hm
        rcases List.mem_cons.mp hm with rfl | hm
        · obtain ⟨⟨tk, ek⟩, hh, _⟩ := h
          exact ⟨p.1, by rw [ek]; exact intKind_is P w p.1 tk, hh⟩
        · exact ih hm
    exact all hp he'
  · have q := tab_find (P := P) (w := w) (k := k) hp
    have e : findBy (intKind P w).is es k = (es.toList.find? fun e => (intKind P w).is k e.key).map (·.val) := by
      unfold findBy
      rw [← Array.find?_toList]
    show RelO (tabV kvs k) (findBy (intKind P w).is es k)
    rw [e]
    exact q
section
variable {X : Cx} {a : Addr} {kvs : List (Int × V)}
/-- k in TABLE -/
theorem op_in_tab (D : KTab X.K a kvs) : OpR X (compareOp .In) (fun x y H Q => ∃ k : Int, x = .int k ∧ y = .ref a ∧ Q (.bl (tabV kvs k).isSome) H) := by
  intro pins s σ H x y v u Q I rx ry h
  obtain ⟨k, rfl, rfl, q⟩ := h
  obtain ⟨t, rfl⟩ := rx
  cases ry
  obtain ⟨f, hm, hf⟩ := D.map (P := X.prog) (w := X.w) I.kIn
  refine wpAny_in_of (intKind_is X.prog X.w k t) D.1 hm ?_
  rw [← (hf k).isSome_eq]
  exact ⟨.bl _, H, I.tok _, rfl, q⟩
/-- TABLE[k] -/
theorem ix_tab (D : KTab X.K a kvs) : IxR X (fun x y H Q => ∃ (k : Int) (v : V), x = .ref a ∧ y = .int k ∧ tabV kvs k = some v ∧ Q v H) := by
  intro e1 e2 pins s σ H x y v u Q I rx ry h hs
  obtain ⟨k, v0, rfl, rfl, l, q⟩ := h
  cases rx
  obtain ⟨t, rfl⟩ := ry
  obtain ⟨f, hm, hf⟩ := D.map (P := X.prog) (w := X.w) I.kIn
  have r := hf k
  rw [l] at r
  cases e : f k with
  | none =>
    rw [e] at r
    exact (show False from r).elim
  | some w0 =>
    rw [e] at r
    exact tail_any hm.typeIs slot_dict_getitem.lookup (wpAny_getItem_of (intKind_is X.prog X.w k t) hm e ⟨v0, H, I.tok _, r, q⟩) hs
/-- TABLE.get(k, x) -/
def tKGet2 (a : Addr) (kvs : List (Int × V)) (td ty tx : TE) : TE := fun σ H Q => td σ H fun x H1 => x = .ref a ∧ ty σ H1 fun y H2 => tx σ H2 fun z H3 => ∃ k : Int, y = .int k ∧ Q ((tabV kvs k).getD z) H3
variable {o e f : Expr} {td ty tx : TE} {apos cpos : Pos}
theorem pe_kget2 (D : KTab X.K a kvs) (ho : PE X o td) (he : PE X e ty) (hf : PE X f tx) (m : M2 X o "get" apos e f cpos) : PE X (.Call (.Attribute o "get" apos) [e, f] [] cpos) (tKGet2 a kvs td ty tx) := by
  refine ⟨fun pins s σ H Q I h => ?_⟩
  refine wpAny_Call_method m.base m.few m.line PySem.F.plainAttrs_dict PySem.F.slot_dict_get PySem.F.type_dict_get (thn (ho.run pins s σ H _ I h) fun u s1 ⟨x, H1, I1, rx, ex, q1⟩ => ?_)
  subst ex
  obtain rfl : u = Value.ref a := rx
  obtain ⟨f1, hm1, hf1⟩ := D.map (P := X.prog) (w := X.w) I1.kIn
  refine ⟨hm1.typeIs, fun b q => ?_, ?_⟩
  · cases q
    obtain ⟨ob, _, _, h1, h2, _⟩ := hm1
    exact ⟨ob, h1, h2.2.1⟩
  rw [m.trees]
  refine Calls.callWith_builtin rfl (Calls.evalArgs_plain (Calls.spliced_cons (thn (he.run pins s1 σ H1 _ I1 q1) fun iv s2 ⟨y, H2, I2, ry, q2⟩ =>
    Calls.spliced_cons (thn (hf.run pins s2 σ H2 _ I2 q2) fun fv s3 ⟨z, H3, I3, rz, k, ey, q3⟩ => Calls.spliced_nil ?_))))
  subst ey
  obtain ⟨t, rfl⟩ := ry
  obtain ⟨f3, hm3, hf3⟩ := D.map (P := X.prog) (w := X.w) I3.kIn
  refine call_meetsIn PySem.F.slot_dict_get hm3.typeIs PySem.F.entry_dict_get (PySem.F.args_dict_get_3 _ _ _) (meets_dict_get_default (intKind X.prog X.w) a (intKind_is X.prog X.w k t) D.1 fv) ⟨_, hm3, ?_⟩
  exact ⟨_, H3, I3.tok _, (hf3 k).getD rz, q3⟩
end

/-! ### a local name that holds a def, called by the promise it is known to keep -/
def tCallH (P : Program) (w : World) (K : PySem.W.Frag) (mg : Str → Option Value) (base : Heap) (k i : Nat) (t : TA) : TE := fun σ H Q => ∃ f sp, σ[i]? = some (some (.ref f)) ∧ Held P w K mg base k f sp ∧ t σ H fun vs H1 => sp vs H1 Q E0
theorem pe_callH {X : Cx} {k i : Nat} {x : Str} {p pos : Pos} {e : Expr} {es : List Expr} {t : TA} (hr : Room k X.A) (hN : X.N[i]? = some x) (hv : Vis X.env.scope x) (ha : PA X (e :: es) t)
    (hdb : (x == ("__debug__" : Str)) = false := by decide) (hcd : (x == ("__classdict__" : Str)) = false := by decide)
    (he : starEach (e :: es) X.env = (false, eval e X.env) :: starEach es X.env := by rfl) (hpl : (backTo pos (starEach es X.env)).any (·.1) = false := by rfl) : PE X (.Call (.Name x p) (e :: es) [] pos) (tCallH X.prog X.w X.K X.mg X.base k i t) := by
  refine ⟨fun pins s σ H Q I h => ?_⟩
  obtain ⟨f, sp, hs, hh, ht⟩ := h
  exact (pe_callA (i := i) (S := fun g => if g = f then some sp else none) (fun g sp' e => by
    by_cases c : g = f
    · subst c
      rw [if_pos rfl] at e
      cases e
      exact hh
    · rw [if_neg c] at e
      cases e) hr hN hv ha hdb hcd he hpl).run pins s σ H Q I ⟨f, sp, hs, if_pos rfl, ht⟩
end TC
/-! The mathematics, 1: canonical codes, the first of them that separates, the fewest messages. -/
namespace TCM
open Km540

/-! ### the search is the first in the list -/
/-- what the search asks of a code: by the places behind -/
def okAt (md : Nat → Nat → Bool) (code : List Nat) (x : Nat) : Bool := (List.range x).all fun z => !(md z x) || code.getD z 0 != code.getD x 0
def okCode (md : Nat → Nat → Bool) (n : Nat) (code : List Nat) : Bool := (List.range n).all (okAt md code)

theorem codes_prefix {k : Nat} : ∀ (f : Nat) (rev : List Nat) (used : Nat) (c : List Nat), c ∈ canonicalCodesFrom k f rev used → ∃ t, c = rev.reverse ++ t ∧ t.length = f
  | 0, rev, used, c, h => by
    have e : c = rev.reverse := by simpa [canonicalCodesFrom] using h
    exact ⟨[], by simp [e], rfl⟩
  | f + 1, rev, used, c, h => by
    simp only [canonicalCodesFrom, List.mem_flatMap] at h
    obtain ⟨m, _, h⟩ := h
    obtain ⟨t, e, l⟩ := codes_prefix f (m :: rev) _ c h
    exact ⟨m :: t, by rw [e]; simp, by simp [l]⟩

def stepO {α β : Type} (f : α → Option β) (r : Option β) (x : α) : Option β := match r with
  | some c => some c
  | none => f x
theorem fold_some {α β : Type} (f : α → Option β) (c : β) : ∀ l : List α, l.foldl (stepO f) (some c) = some c
  | [] => rfl
  | _ :: l => fold_some f c l
theorem fold_find {α β : Type} (f : α → Option β) : ∀ (l : List α), l.foldl (stepO f) none = l.findSome? f
  | [] => rfl
  | x :: l => by
    rw [List.foldl_cons, List.findSome?_cons]
    show l.foldl (stepO f) (f x) = _
    cases e : f x with
    | some c => exact fold_some f c l
    | none => exact fold_find f l
theorem all_same {α : Type} {p q : α → Bool} : ∀ {l : List α}, (∀ x ∈ l, p x = q x) → l.all p = l.all q
  | [], _ => rfl
  | x :: l, h => by
    rw [List.all_cons, List.all_cons, h x List.mem_cons_self, all_same fun y hy => h y (List.mem_cons_of_mem _ hy)]

theorem getD_rev {rev : List Nat} {x z m : Nat} (h : rev.length = x) (hz : z < x) (t : List Nat) : ((m :: rev).reverse ++ t).getD z 0 = rev.getD (x - 1 - z) 0 := by
  simp only [List.getD_eq_getElem?_getD]
  rw [List.getElem?_append_left (by simp; omega), List.getElem?_reverse (by simp; omega)]
  have e : (m :: rev).length - 1 - z = (x - 1 - z) + 1 := by simp; omega
  rw [e, List.getElem?_cons_succ]
theorem getD_new {rev : List Nat} {x m : Nat} (h : rev.length = x) (t : List Nat) : ((m :: rev).reverse ++ t).getD x 0 = m := by
  simp only [List.getD_eq_getElem?_getD]
  rw [List.getElem?_append_left (by simp; omega), List.getElem?_reverse (by simp; omega)]
  have e : (m :: rev).length - 1 - x = 0 := by simp; omega
  rw [e]
  rfl

theorem first_from (md : Nat → Nat → Bool) (k : Nat) : ∀ (f x : Nat) (rev : List Nat) (used : Nat), rev.length = x → (∀ y, y < x → ∀ t : List Nat, okAt md (rev.reverse ++ t) y = true) →
    firstCodeFrom md k f x rev used = (canonicalCodesFrom k f rev used).find? (okCode md (x + f))
  | 0, x, rev, used, hl, hp => by
    have e : okCode md x rev.reverse = true := by
      refine List.all_eq_true.mpr fun y hy => ?_
      have := hp y (by simpa using hy) []
      simpa using this
    show some rev.reverse = [rev.reverse].find? (okCode md x)
    rw [List.find?_cons, e]
  | f + 1, x, rev, used, hl, hp => by
    have key : ∀ m, (if (List.range x).all (fun z => !(md z x) || rev.getD (x - 1 - z) 0 != m) then firstCodeFrom md k f (x + 1) (m :: rev) (max used (m + 1)) else none)
        = (canonicalCodesFrom k f (m :: rev) (max used (m + 1))).find? (okCode md (x + (f + 1))) := by
      intro m
      have hok : ∀ t : List Nat, okAt md ((m :: rev).reverse ++ t) x = (List.range x).all (fun z => !(md z x) || rev.getD (x - 1 - z) 0 != m) := by
        intro t
        unfold okAt
        refine all_same fun z hz => ?_
        rw [getD_rev hl (by simpa using hz), getD_new hl]
      by_cases c : (List.range x).all (fun z => !(md z x) || rev.getD (x - 1 - z) 0 != m) = true
      · rw [if_pos c, first_from md k f (x + 1) (m :: rev) _ (by simp [hl]) fun y hy t => ?_]
        · rw [show x + 1 + f = x + (f + 1) by omega]
        · by_cases e : y = x
          · subst e
            rw [hok, c]
          · have e2 : (m :: rev).reverse ++ t = rev.reverse ++ (m :: t) := by simp
            rw [e2]
            exact hp y (by omega) _
      · rw [if_neg c]
        refine (List.find?_eq_none.mpr fun cd hcd hh => c ?_).symm
        obtain ⟨t, e, _⟩ := codes_prefix f _ _ cd hcd
        have := List.all_eq_true.mp hh x (by simp)
        rw [e, hok] at this
        exact this
    have e0 : firstCodeFrom md k (f + 1) x rev used = (List.range (min k (used + 1))).foldl (stepO fun m => (if (List.range x).all (fun z => !(md z x) || rev.getD (x - 1 - z) 0 != m) then firstCodeFrom md k f (x + 1) (m :: rev) (max used (m + 1)) else none)) none := by
      rw [firstCodeFrom]
      have e : ∀ (l : List Nat) (r : Option (List Nat)) (F G : Option (List Nat) → Nat → Option (List Nat)), (∀ r m, F r m = G r m) → l.foldl F r = l.foldl G r := fun l r F G h => by
        have : F = G := by funext r m; exact h r m
        rw [this]
      refine e _ _ _ _ fun r m => ?_
      cases r <;> rfl
    rw [e0, fold_find]
    simp only [canonicalCodesFrom]
    rw [List.find?_flatMap]
    congr 1
    funext m
    exact key m

theorem first_is (n k : Nat) (md : Nat → Nat → Bool) : firstCode n md k = (canonicalCodes n k).find? (okCode md n) := by
  have := first_from md k n 0 [] 0 rfl (fun y hy => absurd hy (Nat.not_lt_zero y))
  rw [Nat.zero_add] at this
  exact this

/-- what must differ, told either way -/
theorem ok_sep {n : Nat} {md : Nat → Nat → Bool} (hs : ∀ x z, md x z = md z x) (hr : ∀ x, md x x = false) (code : List Nat) : okCode md n code = separates n md code := by
  have bc : ∀ a b : Bool, (a = true ↔ b = true) → a = b := by decide
  refine bc _ _ ⟨fun h => ?_, fun h => ?_⟩
  · refine List.all_eq_true.mpr fun x hx => List.all_eq_true.mpr fun z hz => ?_
    have hx' : x < n := by simpa using hx
    have hz' : z < n := by simpa using hz
    rcases Nat.lt_trichotomy x z with l | e | l
    · have := List.all_eq_true.mp (List.all_eq_true.mp h z hz) x (by simpa using l)
      simpa using this
    · subst e
      simp [hr]
    · have := List.all_eq_true.mp (List.all_eq_true.mp h x hx) z (by simpa using l)
      rw [hs x z]
      have e : (code.getD x 0 != code.getD z 0) = (code.getD z 0 != code.getD x 0) := by
        refine bc _ _ ⟨fun h => ?_, fun h => ?_⟩ <;> simp at h ⊢ <;> omega
      rw [e]
      simpa using this
  · refine List.all_eq_true.mpr fun x hx => List.all_eq_true.mpr fun z hz => ?_
    have hx' : x < n := by simpa using hx
    have hz' : z < x := by simpa using hz
    exact List.all_eq_true.mp (List.all_eq_true.mp h z (by simp; omega)) x hx

/-! ### the codes of few symbols -/
/-- one more than the greatest message -/
def used (code : List Nat) : Nat := code.foldl (fun a m => max a (m + 1)) 0
theorem codes_filter : ∀ n, n ≤ 5 → ∀ k, k ≤ n → canonicalCodes n k = (canonicalCodes n n).filter fun c => decide (used c ≤ k) := by decide +kernel
theorem codes_len : ∀ n, n ≤ 5 → ∀ k, k ≤ 5 → ∀ c ∈ canonicalCodes n k, c.length = n := by decide +kernel
theorem codes_used : ∀ n, n ≤ 5 → ∀ c ∈ canonicalCodes n n, used c ≤ n := by decide +kernel
theorem codes_pos : ∀ n, n ≤ 5 → 1 ≤ n → ∀ c ∈ canonicalCodes n n, 1 ≤ used c := by decide +kernel
theorem range_in : ∀ n, n ≤ 5 → List.range n ∈ canonicalCodes n n := by decide +kernel
theorem codes_none : ∀ n, n ≤ 5 → 1 ≤ n → canonicalCodes n 0 = [] := by decide +kernel
theorem codes_few : ∀ n, n ≤ 5 → ∀ k, k ≤ 5 → (canonicalCodes n k).length ≤ 52 := by decide +kernel
theorem codes_msgs : ∀ n, n ≤ 5 → ∀ k, k ≤ 5 → ∀ c ∈ canonicalCodes n k, ∀ m ∈ c, m < 5 := by decide +kernel

theorem range_sep {n : Nat} {md : Nat → Nat → Bool} (hr : ∀ x, md x x = false) : separates n md (List.range n) = true := by
  refine List.all_eq_true.mpr fun x hx => List.all_eq_true.mpr fun z hz => ?_
  have hx' : x < n := by simpa using hx
  have hz' : z < n := by simpa using hz
  by_cases e : x = z
  · subst e
    simp [hr]
  · have : (List.range n).getD x 0 != (List.range n).getD z 0 := by
      simp only [List.getD_eq_getElem?_getD, List.getElem?_range hx', List.getElem?_range hz', Option.getD_some]
      simpa using e
    rw [this]
    simp

/-- the fewest messages of the codes of a list that are good; 0: none is -/
def leastIn (g : List Nat → Bool) (l : List (List Nat)) : Nat := l.foldl (fun best c => if (best == 0 || decide (used c < best)) && g c then used c else best) 0
/-- r is the least -/
def IsLeast (g : List Nat → Bool) (l : List (List Nat)) (r : Nat) : Prop := (∃ c ∈ l, g c = true ∧ used c = r) ∧ ∀ c ∈ l, g c = true → r ≤ used c
theorem isLeast_one {g : List Nat → Bool} {l : List (List Nat)} {r s : Nat} (a : IsLeast g l r) (b : IsLeast g l s) : r = s := by
  obtain ⟨⟨c, hc, gc, uc⟩, al⟩ := a
  obtain ⟨⟨d, hd, gd, ud⟩, bl⟩ := b
  have := al d hd gd
  have := bl c hc gc
  omega
theorem least_fold (g : List Nat → Bool) : ∀ (l pre : List (List Nat)) (b : Nat), (∀ c ∈ pre ++ l, 1 ≤ used c) → ((b = 0 ∧ ∀ c ∈ pre, g c = false) ∨ (IsLeast g pre b)) →
    (l.foldl (fun best c => if (best == 0 || decide (used c < best)) && g c then used c else best) b = 0 ∧ ∀ c ∈ pre ++ l, g c = false) ∨
    IsLeast g (pre ++ l) (l.foldl (fun best c => if (best == 0 || decide (used c < best)) && g c then used c else best) b)
  | [], pre, b, _, h => by simpa using h
  | c :: l, pre, b, hu, h => by
    have e : pre ++ c :: l = (pre ++ [c]) ++ l := by simp
    rw [List.foldl_cons, e]
    refine least_fold g l (pre ++ [c]) _ (by rw [← e]; exact hu) ?_
    have hc1 : 1 ≤ used c := hu c (by simp)
    have hpre : ∀ d ∈ pre, 1 ≤ used d := fun d hd => hu d (by simp [hd])
    rcases h with ⟨rfl, h⟩ | ⟨⟨d, hd, gd, ud⟩, hl⟩
    · cases gc : g c with
      | false =>
        refine .inl ⟨by simp, fun d hd => ?_⟩
        rcases List.mem_append.mp hd with hd | hd
        · exact h d hd
        · rw [List.mem_singleton.mp hd]; exact gc
      | true =>
        refine .inr ⟨⟨c, by simp, gc, by simp⟩, fun d hd gd => ?_⟩
        rcases List.mem_append.mp hd with hd | hd
        · rw [h d hd] at gd; cases gd
        · rw [List.mem_singleton.mp hd]; simp
    · have hb : b ≠ 0 := by have := hpre d hd; omega
      refine .inr ?_
      cases gc : g c with
      | false =>
        simp only [Bool.and_false, Bool.false_eq_true, if_false]
        refine ⟨⟨d, by simp [hd], gd, ud⟩, fun x hx gx => ?_⟩
        rcases List.mem_append.mp hx with hx | hx
        · exact hl x hx gx
        · rw [List.mem_singleton.mp hx, gc] at gx; cases gx
      | true =>
        by_cases lt : used c < b
        · have : ((b == 0 || decide (used c < b)) && true) = true := by simp [lt]
          rw [if_pos this]
          refine ⟨⟨c, by simp, gc, rfl⟩, fun x hx gx => ?_⟩
          rcases List.mem_append.mp hx with hx | hx
          · have := hl x hx gx
            omega
          · rw [List.mem_singleton.mp hx]; exact Nat.le_refl _
        · have : ¬ ((b == 0 || decide (used c < b)) && true) = true := by simp [lt, hb]
          rw [if_neg this]
          refine ⟨⟨d, by simp [hd], gd, ud⟩, fun x hx gx => ?_⟩
          rcases List.mem_append.mp hx with hx | hx
          · exact hl x hx gx
          · rw [List.mem_singleton.mp hx]; omega
theorem leastIn_spec {g : List Nat → Bool} {l : List (List Nat)} (hu : ∀ c ∈ l, 1 ≤ used c) : (leastIn g l = 0 ∧ ∀ c ∈ l, g c = false) ∨ IsLeast g l (leastIn g l) := by
  exact least_fold g l [] 0 hu (.inl ⟨rfl, fun c hc => by cases hc⟩)

theorem minMessages_spec {n : Nat} (h5 : n ≤ 5) {md : Nat → Nat → Bool} (hs : ∀ x z, md x z = md z x) (hr : ∀ x, md x x = false) : IsLeast (separates n md) (canonicalCodes n n) (minMessages n md) := by
  have has : ∀ k, k ≤ n → ((firstCode n md k).isSome = true ↔ ∃ c ∈ canonicalCodes n n, separates n md c = true ∧ used c ≤ k) := by
    intro k hk
    rw [first_is, codes_filter n h5 k hk, List.find?_isSome]
    constructor
    · rintro ⟨c, hc, h⟩
      have := List.mem_filter.mp hc
      exact ⟨c, this.1, by rw [← ok_sep hs hr]; exact h, by simpa using this.2⟩
    · rintro ⟨c, hc, h, u⟩
      exact ⟨c, List.mem_filter.mpr ⟨hc, by simpa using u⟩, by rw [ok_sep hs hr]; exact h⟩
  have hn : (firstCode n md n).isSome = true := (has n (Nat.le_refl _)).mpr ⟨List.range n, range_in n h5, range_sep hr, codes_used n h5 _ (range_in n h5)⟩
  unfold minMessages
  cases e : (List.range (n + 1)).find? fun k => (firstCode n md k).isSome with
  | none =>
    have := List.find?_eq_none.mp e n (by simp)
    exact absurd hn this
  | some r =>
    have hr1 := List.find?_some e
    have hr2 := List.mem_of_find?_eq_some e
    have hrn : r ≤ n := by
      have : r < n + 1 := by simpa using hr2
      omega
    have hlow : ∀ j, j < r → ¬ (firstCode n md j).isSome = true := by
      intro j hj
      rw [List.find?_eq_some_iff_getElem] at e
      obtain ⟨_, i, hi, ei, hlt⟩ := e
      have e2 : i = r := by simpa using ei
      subst e2
      have := hlt j hj
      simpa using this
    obtain ⟨c, hc, sc, uc⟩ := (has r hrn).mp hr1
    show IsLeast _ _ r
    have low : ∀ d ∈ canonicalCodes n n, separates n md d = true → r ≤ used d := by
      intro d hd sd
      rcases Nat.lt_or_ge (used d) r with l | l
      · exact absurd ((has (used d) (codes_used n h5 d hd)).mpr ⟨d, hd, sd, Nat.le_refl _⟩) (hlow _ l)
      · exact l
    exact ⟨⟨c, hc, sc, Nat.le_antisymm uc (low c hc sc)⟩, low⟩
/-- the program's way to the fewest messages -/
theorem leastIn_min {n : Nat} (h1 : 1 ≤ n) (h5 : n ≤ 5) {md : Nat → Nat → Bool} (hs : ∀ x z, md x z = md z x) (hr : ∀ x, md x x = false) : leastIn (separates n md) (canonicalCodes n n) = minMessages n md := by
  have m := minMessages_spec h5 hs hr
  rcases leastIn_spec (g := separates n md) (l := canonicalCodes n n) (codes_pos n h5 h1) with ⟨_, h⟩ | h
  · obtain ⟨⟨c, hc, gc, _⟩, _⟩ := m
    rw [h c hc] at gc
    cases gc
  · exact isLeast_one h m
theorem minMessages_pos {n : Nat} (h1 : 1 ≤ n) (h5 : n ≤ 5) {md : Nat → Nat → Bool} (hs : ∀ x z, md x z = md z x) (hr : ∀ x, md x x = false) : 1 ≤ minMessages n md := by
  obtain ⟨⟨c, hc, _, e⟩, _⟩ := minMessages_spec h5 hs hr
  rw [← e]
  exact codes_pos n h5 h1 c hc
end TCM
/-! The mathematics, 2: good code pairs, clashes, the fewest, the first codes, links, all over the list of possible pairs. -/
namespace TCM
open Km540

theorem bc {a b : Bool} (h : a = true ↔ b = true) : a = b := by
  cases a <;> cases b <;> simp_all
/-- what is told apart: a value or a pair -/
inductive Tv where
  | n (k : Nat)
  | p (x y : Nat)
  deriving DecidableEq
def valF (s : Sources) (f : Bool) (q : Nat × Nat) : Tv := if f then .n (value s q.1 q.2) else .p q.1 q.2
def keyOf (c d : List Nat) (p : Nat × Nat) : Nat × Nat := (c.getD p.1 0, d.getD p.2 0)
/-- q cannot be told from p -/
def clash (val : Nat × Nat → Tv) (c d : List Nat) (p q : Nat × Nat) : Bool := decide (keyOf c d q = keyOf c d p) && decide (val q ≠ val p)
def goodB (ps : List (Nat × Nat)) (val : Nat × Nat → Tv) (c d : List Nat) : Bool := ps.all fun p => ps.all fun q => !(clash val c d p q)
theorem good_iff {ps : List (Nat × Nat)} {val : Nat × Nat → Tv} {c d : List Nat} : goodB ps val c d = true ↔ ∀ p ∈ ps, ∀ q ∈ ps, keyOf c d q = keyOf c d p → val q = val p := by
  unfold goodB clash
  simp only [List.all_eq_true, Bool.not_eq_true', Bool.and_eq_false_iff, decide_eq_false_iff_not]
  constructor
  · intro h p hp q hq e
    rcases h p hp q hq with z | z
    · exact absurd e z
    · exact Classical.not_not.mp z
  · intro h p hp q hq
    by_cases e : keyOf c d q = keyOf c d p
    · exact .inr fun z => z (h p hp q hq e)
    · exact .inl e
theorem must_is (s : Sources) (f : Bool) (p q : Nat × Nat) : mustDistinguish s f p q = decide (valF s f q ≠ valF s f p) := by
  refine bc ?_
  unfold mustDistinguish valF
  cases f with
  | true =>
    simp only [if_true, bne_iff_ne, decide_eq_true_eq, ne_eq, Tv.n.injEq]
    exact ⟨fun h e => h e.symm, fun h e => h e.symm⟩
  | false =>
    simp only [Bool.false_eq_true, if_false, bne_iff_ne, decide_eq_true_eq, ne_eq, Tv.p.injEq]
    exact ⟨fun h e => h (Prod.ext e.1.symm e.2.symm), fun h e => h ⟨by rw [e], by rw [e]⟩⟩
theorem mem_possible {s : Sources} {x y : Nat} : (x, y) ∈ possiblePairs s ↔ x < s.xCount ∧ y < s.yCount ∧ isPossible s x y = true := by
  unfold possiblePairs
  simp only [List.mem_flatMap, List.mem_range, List.mem_map, List.mem_filter, Prod.mk.injEq]
  constructor
  · rintro ⟨a, ha, b, ⟨hb, hp⟩, rfl, rfl⟩
    exact ⟨ha, hb, hp⟩
  · rintro ⟨hx, hy, hp⟩
    exact ⟨x, hx, y, ⟨hy, hp⟩, rfl, rfl⟩

/-! ### clashes -/
theorem key_eq (c d : List Nat) (p q : Nat × Nat) : (c.getD p.1 0 == c.getD q.1 0 && d.getD p.2 0 == d.getD q.2 0) = decide (keyOf c d q = keyOf c d p) := by
  refine bc ?_
  unfold keyOf
  simp only [Bool.and_eq_true, beq_iff_eq, decide_eq_true_eq, Prod.mk.injEq]
  exact ⟨fun h => ⟨h.1.symm, h.2.symm⟩, fun h => ⟨h.1.symm, h.2.symm⟩⟩
theorem conflict_is (s : Sources) (f : Bool) (c d : List Nat) : findConflict s f c d = (possiblePairs s).findSome? fun p => ((possiblePairs s).find? (clash (valF s f) c d p)).map fun q => (p, q) := by
  unfold findConflict
  congr 1
  funext p
  congr 2
  funext q
  rw [must_is, key_eq]
  unfold clash
  exact Bool.and_comm _ _
theorem correct_is (s : Sources) (f : Bool) (c d : List Nat) : isCorrect s f c d = goodB (possiblePairs s) (valF s f) c d := by
  refine bc ?_
  unfold isCorrect goodB
  rw [conflict_is]
  simp only [Option.isNone_iff_eq_none, List.findSome?_eq_none_iff, Option.map_eq_none_iff, List.find?_eq_none, List.all_eq_true, Bool.not_eq_true, Bool.not_eq_true']
/-- the places of the first clash -/
def clashAt (ps : List (Nat × Nat)) (val : Nat × Nat → Tv) (c d : List Nat) (i : Nat) : Option Nat := ps.findIdx? (clash val c d (ps.getD i (0, 0)))
def firstIdx (ps : List (Nat × Nat)) (val : Nat × Nat → Tv) (c d : List Nat) : Option (Nat × Nat) := (List.range ps.length).findSome? fun i => (clashAt ps val c d i).map fun j => (i, j)
theorem find_idx {α : Type} (z : α) (p : α → Bool) : ∀ l : List α, l.find? p = (l.findIdx? p).map fun j => l.getD j z
  | [] => rfl
  | x :: l => by
    rw [List.find?_cons, List.findIdx?_cons]
    cases p x with
    | true => rfl
    | false =>
      rw [find_idx z p l]
      show (l.findIdx? p).map _ = ((l.findIdx? p).map _).map _
      rw [Option.map_map]
      rfl
theorem some_range {α β : Type} (z : α) (g : α → Option β) (l : List α) : l.findSome? g = (List.range l.length).findSome? fun i => g (l.getD i z) := by
  have e : l = (List.range l.length).map fun i => l.getD i z := by
    apply List.ext_getElem
    · simp
    · intro i h1 h2
      simp [List.getD_eq_getElem?_getD, List.getElem?_eq_getElem h1]
  conv => lhs; rw [e]
  rw [List.findSome?_map]
  rfl
theorem some_map {α β γ : Type} (g : α → Option β) (h : β → γ) : ∀ l : List α, (l.findSome? g).map h = l.findSome? fun x => (g x).map h
  | [] => rfl
  | x :: l => by
    rw [List.findSome?_cons, List.findSome?_cons]
    cases g x with
    | some b => rfl
    | none => exact some_map g h l
theorem conflict_idx (s : Sources) (f : Bool) (c d : List Nat) : findConflict s f c d = (firstIdx (possiblePairs s) (valF s f) c d).map fun ij => ((possiblePairs s).getD ij.1 (0, 0), (possiblePairs s).getD ij.2 (0, 0)) := by
  rw [conflict_is, some_range (0, 0), firstIdx, some_map]
  congr 1
  funext i
  rw [find_idx (0, 0)]
  unfold clashAt
  rw [Option.map_map, Option.map_map]
  rfl
theorem decode_is (s : Sources) (c d : List Nat) (a b : Nat) : decode s c d a b = (possiblePairs s).find? fun p => c.getD p.1 0 == a && d.getD p.2 0 == b := rfl

/-! ### usable codes of X -/
def useMd (s : Sources) (f : Bool) : Nat → Nat → Bool := if f then haveDifferentValues s else areConfusable s
theorem use_md {s : Sources} {f : Bool} {x z : Nat} (hx : x < s.xCount) (hz : z < s.xCount) : useMd s f x z = true ↔ ∃ y, (x, y) ∈ possiblePairs s ∧ (z, y) ∈ possiblePairs s ∧ valF s f (x, y) ≠ valF s f (z, y) := by
  unfold useMd
  cases f with
  | true =>
    simp only [if_true, haveDifferentValues, Bool.and_eq_true, List.any_eq_true, List.mem_range, bne_iff_ne, mem_possible, valF, ne_eq, Tv.n.injEq]
    constructor
    · rintro ⟨hn, y, hy, h1, h2, h3⟩
      exact ⟨y, ⟨hx, hy, h1⟩, ⟨hz, hy, h2⟩, h3⟩
    · rintro ⟨y, ⟨_, hy, h1⟩, ⟨_, _, h2⟩, h3⟩
      exact ⟨fun e => h3 (by rw [e]), y, hy, h1, h2, h3⟩
  | false =>
    simp only [Bool.false_eq_true, if_false, areConfusable, Bool.and_eq_true, List.any_eq_true, List.mem_range, bne_iff_ne, mem_possible, valF, ne_eq, Tv.p.injEq]
    constructor
    · rintro ⟨hn, y, hy, h1, h2⟩
      exact ⟨y, ⟨hx, hy, h1⟩, ⟨hz, hy, h2⟩, fun e => hn e.1⟩
    · rintro ⟨y, ⟨_, hy, h1⟩, ⟨_, _, h2⟩, h3⟩
      exact ⟨fun e => h3 ⟨e, trivial⟩, y, hy, h1, h2⟩
theorem sep_iff {n : Nat} {md : Nat → Nat → Bool} {c : List Nat} : separates n md c = true ↔ ∀ x, x < n → ∀ z, z < n → md x z = true → c.getD x 0 ≠ c.getD z 0 := by
  unfold separates
  simp only [List.all_eq_true, List.mem_range, Bool.or_eq_true, Bool.not_eq_true', bne_iff_ne]
  constructor
  · intro h x hx z hz m
    rcases h x hx z hz with q | q
    · rw [m] at q; cases q
    · exact q
  · intro h x hx z hz
    cases m : md x z with
    | false => exact .inl rfl
    | true => exact .inr (h x hx z hz m)
theorem usable_is (s : Sources) (f : Bool) (c : List Nat) : isUsable s f c = separates s.xCount (useMd s f) c := rfl
theorem ymd_iff {s : Sources} {f : Bool} {c : List Nat} {y z : Nat} : yMustDiffer s f c y z = true ↔ y ≠ z ∧ ∃ p ∈ possiblePairs s, ∃ q ∈ possiblePairs s, p.2 = y ∧ q.2 = z ∧ c.getD p.1 0 = c.getD q.1 0 ∧ valF s f q ≠ valF s f p := by
  unfold yMustDiffer
  simp only [Bool.and_eq_true, bne_iff_ne, List.any_eq_true, beq_iff_eq, must_is, decide_eq_true_eq]
  constructor
  · rintro ⟨hn, p, hp, e1, q, hq, e2, e3, e4⟩
    exact ⟨hn, p, hp, q, hq, e1, e2, e3, e4⟩
  · rintro ⟨hn, p, hp, q, hq, e1, e2, e3, e4⟩
    exact ⟨hn, p, hp, e1, q, hq, e2, e3, e4⟩
theorem ymd_sym (s : Sources) (f : Bool) (c : List Nat) (y z : Nat) : yMustDiffer s f c y z = yMustDiffer s f c z y := by
  have one : ∀ y z, yMustDiffer s f c y z = true → yMustDiffer s f c z y = true := fun y z h => by
    obtain ⟨hn, p, hp, q, hq, e1, e2, e3, e4⟩ := ymd_iff.mp h
    exact ymd_iff.mpr ⟨Ne.symm hn, q, hq, p, hp, e2, e1, e3.symm, Ne.symm e4⟩
  exact bc ⟨one y z, one z y⟩
theorem ymd_refl (s : Sources) (f : Bool) (c : List Nat) (y : Nat) : yMustDiffer s f c y y = false := by
  cases h : yMustDiffer s f c y y with
  | false => rfl
  | true => exact absurd rfl (ymd_iff.mp h).1
/-- a pair of codes is good just when X's is usable and Y's separates -/
theorem good_split (s : Sources) (f : Bool) (c d : List Nat) : goodB (possiblePairs s) (valF s f) c d = (isUsable s f c && separates s.yCount (yMustDiffer s f c) d) := by
  refine bc ?_
  rw [good_iff, Bool.and_eq_true, usable_is, sep_iff, sep_iff]
  constructor
  · intro h
    refine ⟨fun x hx z hz m e => ?_, fun y hy z hz m e => ?_⟩
    · obtain ⟨y, h1, h2, h3⟩ := (use_md hx hz).mp m
      exact h3 (h _ h2 _ h1 (by unfold keyOf; rw [e]))
    · obtain ⟨_, p, hp, q, hq, e1, e2, e3, e4⟩ := ymd_iff.mp m
      exact e4 (h p hp q hq (by unfold keyOf; rw [e3, e1, e2, e]))
  · rintro ⟨h1, h2⟩ ⟨px, py⟩ hp ⟨qx, qy⟩ hq e
    have e1 : c.getD qx 0 = c.getD px 0 := congrArg Prod.fst e
    have e2 : d.getD qy 0 = d.getD py 0 := congrArg Prod.snd e
    have mp := mem_possible.mp hp
    have mq := mem_possible.mp hq
    refine Classical.not_not.mp fun ne => ?_
    by_cases ey : py = qy
    · subst ey
      exact h1 qx mq.1 px mp.1 ((use_md mq.1 mp.1).mpr ⟨py, hq, hp, ne⟩) e1
    · exact h2 py mp.2.1 qy mq.2.1 (ymd_iff.mpr ⟨ey, (px, py), hp, (qx, qy), hq, rfl, rfl, e1.symm, ne⟩) e2.symm

/-! ### the fewest messages of Y -/
def fewestWith (ps : List (Nat × Nat)) (val : Nat × Nat → Tv) (c : List Nat) (n : Nat) : Nat := leastIn (goodB ps val c) (canonicalCodes n n)
theorem fewest_with {s : Sources} (h1 : 1 ≤ s.yCount) (h5 : s.yCount ≤ 5) (f : Bool) (c : List Nat) : minYMessages s f c = if fewestWith (possiblePairs s) (valF s f) c s.yCount = 0 then none else some (fewestWith (possiblePairs s) (valF s f) c s.yCount) := by
  unfold minYMessages
  have g : goodB (possiblePairs s) (valF s f) c = fun d => (isUsable s f c && separates s.yCount (yMustDiffer s f c) d) := funext (good_split s f c)
  cases u : isUsable s f c with
  | true =>
    have g2 : goodB (possiblePairs s) (valF s f) c = separates s.yCount (yMustDiffer s f c) := by rw [g]; funext d; rw [u, Bool.true_and]
    have e : fewestWith (possiblePairs s) (valF s f) c s.yCount = minMessages s.yCount (yMustDiffer s f c) := by
      unfold fewestWith
      rw [g2, leastIn_min h1 h5 (ymd_sym s f c) (ymd_refl s f c)]
    have p := minMessages_pos h1 h5 (ymd_sym s f c) (ymd_refl s f c)
    rw [e, if_pos rfl, if_neg (by omega)]
  | false =>
    have z : fewestWith (possiblePairs s) (valF s f) c s.yCount = 0 := by
      rcases leastIn_spec (g := goodB (possiblePairs s) (valF s f) c) (codes_pos s.yCount h5 h1) with ⟨e, _⟩ | ⟨⟨d, hd, gd, _⟩, _⟩
      · exact e
      · rw [g] at gd
        simp only [u, Bool.false_and, Bool.false_eq_true] at gd
    rw [z, if_pos rfl, if_neg Bool.false_ne_true]
def forStep (u best : Nat) : Nat := if decide (0 < u) && (best == 0 || decide (u < best)) then u else best
def fewestFor (ps : List (Nat × Nat)) (val : Nat × Nat → Tv) (nx ny k : Nat) : Nat := (canonicalCodes nx k).foldl (fun best c => forStep (fewestWith ps val c ny) best) 0
/-- a number, 0 for none -/
def enc (o : Option Nat) : Nat := o.getD 0
def ofN (n : Nat) : Option Nat := if n = 0 then none else some n
theorem smaller_of (a b : Nat) : smaller (ofN a) (ofN b) = ofN (forStep b a) := by
  unfold ofN forStep smaller
  by_cases ha : a = 0
  · subst ha
    by_cases hb : b = 0
    · subst hb; rfl
    · have hb' : 0 < b := Nat.pos_of_ne_zero hb
      simp [hb, hb']
  · by_cases hb : b = 0
    · subst hb
      simp [ha]
    · have hb' : 0 < b := Nat.pos_of_ne_zero hb
      by_cases l : b < a
      · simp [ha, hb, hb', l, Nat.min_eq_right (Nat.le_of_lt l)]
      · simp [ha, hb, l, Nat.min_eq_left (Nat.le_of_not_lt l)]
theorem fold_of (g : List Nat → Nat) : ∀ (l : List (List Nat)) (b : Nat), l.foldl (fun best c => smaller best (ofN (g c))) (ofN b) = ofN (l.foldl (fun best c => forStep (g c) best) b)
  | [], _ => rfl
  | c :: l, b => by
    rw [List.foldl_cons, List.foldl_cons, smaller_of, fold_of g l]
theorem fewest_for {s : Sources} (h1 : 1 ≤ s.yCount) (h5 : s.yCount ≤ 5) (f : Bool) (k : Nat) : minYMessagesFor s f k = ofN (fewestFor (possiblePairs s) (valF s f) s.xCount s.yCount k) := by
  unfold minYMessagesFor fewestFor
  rw [← fold_of (fun c => fewestWith (possiblePairs s) (valF s f) c s.yCount)]
  have e : ∀ (l : List (List Nat)) (r : Option Nat) (F G : Option Nat → List Nat → Option Nat), (∀ r m, F r m = G r m) → l.foldl F r = l.foldl G r := fun l r F G h => by
    have : F = G := by funext r m; exact h r m
    rw [this]
  exact e _ _ _ _ fun r c => by rw [fewest_with h1 h5]; rfl
/-- the all-different code of X is usable -/
theorem range_usable (s : Sources) (f : Bool) : isUsable s f (List.range s.xCount) = true := by
  rw [usable_is]
  refine range_sep fun x => ?_
  unfold useMd
  cases f <;> simp [areConfusable, haveDifferentValues]
theorem fewestWith_pos {s : Sources} (h1 : 1 ≤ s.yCount) (h5 : s.yCount ≤ 5) {f : Bool} {c : List Nat} (u : isUsable s f c = true) : 0 < fewestWith (possiblePairs s) (valF s f) c s.yCount := by
  have e := fewest_with h1 h5 f c
  unfold minYMessages at e
  rw [if_pos u] at e
  by_cases z : fewestWith (possiblePairs s) (valF s f) c s.yCount = 0
  · rw [if_pos z] at e; cases e
  · omega
theorem for_pos (g : List Nat → Nat) : ∀ (l : List (List Nat)) (b : Nat), (0 < b ∨ ∃ c ∈ l, 0 < g c) → 0 < l.foldl (fun best c => forStep (g c) best) b
  | [], b, h => by
    rcases h with h | ⟨c, hc, _⟩
    · exact h
    · cases hc
  | c :: l, b, h => by
    rw [List.foldl_cons]
    refine for_pos g l _ ?_
    by_cases hc : 0 < forStep (g c) b
    · exact .inl hc
    · rcases h with h | ⟨d, hd, gd⟩
      · exfalso
        apply hc
        unfold forStep
        split
        · rename_i q; simp at q; omega
        · exact h
      · rcases List.mem_cons.mp hd with e | hd
        · exfalso
          subst e
          apply hc
          unfold forStep
          split
          · exact gd
          · rename_i q
            simp only [Bool.and_eq_true, decide_eq_true_eq, Bool.or_eq_true, beq_iff_eq, not_and, not_or] at q
            have := q gd
            omega
        · exact .inr ⟨d, hd, gd⟩
theorem fewestFor_all {s : Sources} (h1 : 1 ≤ s.yCount) (h5 : s.yCount ≤ 5) (hx : s.xCount ≤ 5) (f : Bool) : 0 < fewestFor (possiblePairs s) (valF s f) s.xCount s.yCount s.xCount :=
  for_pos _ _ 0 (.inr ⟨_, range_in s.xCount hx, fewestWith_pos h1 h5 (range_usable s f)⟩)

/-! ### the first codes -/
def firstCodesB (ps : List (Nat × Nat)) (val : Nat × Nat → Tv) (nx ny k j : Nat) : Option (List Nat × List Nat) := (canonicalCodes nx k).findSome? fun c => ((canonicalCodes ny j).find? fun d => goodB ps val c d).map fun d => (c, d)
theorem first_codes (s : Sources) (f : Bool) (k j : Nat) : firstCodes s f k j = firstCodesB (possiblePairs s) (valF s f) s.xCount s.yCount k j := by
  unfold firstCodes firstCodesB
  congr 1
  funext c
  cases u : isUsable s f c with
  | true =>
    rw [if_pos rfl, first_is]
    congr 2
    funext d
    rw [ok_sep (ymd_sym s f c) (ymd_refl s f c), good_split, u, Bool.true_and]
  | false =>
    rw [if_neg Bool.false_ne_true]
    have e : (canonicalCodes s.yCount j).find? (fun d => goodB (possiblePairs s) (valF s f) c d) = none := by
      refine List.find?_eq_none.mpr fun d _ => ?_
      rw [good_split, u]
      simp
    rw [e]
    try rfl
theorem first_in {ps : List (Nat × Nat)} {val : Nat × Nat → Tv} {nx ny k j : Nat} {c d : List Nat} (h : firstCodesB ps val nx ny k j = some (c, d)) : c ∈ canonicalCodes nx k ∧ d ∈ canonicalCodes ny j := by
  obtain ⟨c', hc, e⟩ := List.exists_of_findSome?_eq_some h
  obtain ⟨d', hd, e2⟩ := Option.map_eq_some_iff.mp e
  cases e2
  exact ⟨hc, List.mem_of_find?_eq_some hd⟩

/-! ### the least total -/
def totalStep (u k : Nat) (best : Option (Nat × Nat)) : Option (Nat × Nat) := if u = 0 then best else match best with
  | none => some (k, u)
  | some o => if k + u < o.1 + o.2 then some (k, u) else some o
def leastTotal (ps : List (Nat × Nat)) (val : Nat × Nat → Tv) (nx ny : Nat) : Option (Nat × Nat) := (List.range (nx + 1)).foldl (fun best k => totalStep (fewestFor ps val nx ny k) k best) none
theorem least_total {s : Sources} (h1 : 1 ≤ s.yCount) (h5 : s.yCount ≤ 5) (f : Bool) : minTotal s f = leastTotal (possiblePairs s) (valF s f) s.xCount s.yCount := by
  unfold minTotal leastTotal
  have e : ∀ (l : List Nat) (r : Option (Nat × Nat)) (F G : Option (Nat × Nat) → Nat → Option (Nat × Nat)), (∀ r m, F r m = G r m) → l.foldl F r = l.foldl G r := fun l r F G h => by
    have : F = G := by funext r m; exact h r m
    rw [this]
  refine e _ _ _ _ fun r k => ?_
  rw [fewest_for h1 h5]
  unfold totalStep ofN
  by_cases z : fewestFor (possiblePairs s) (valF s f) s.xCount s.yCount k = 0
  · rw [if_pos z, if_pos z]
    all_goals (cases r <;> rfl)
  · rw [if_neg z, if_neg z]
    all_goals (cases r <;> rfl)
theorem total_some (g : Nat → Nat) : ∀ (l : List Nat) (b : Option (Nat × Nat)), (b ≠ none ∨ ∃ k ∈ l, g k ≠ 0) → l.foldl (fun best k => totalStep (g k) k best) b ≠ none
  | [], b, h => by
    rcases h with h | ⟨k, hk, _⟩
    · exact h
    · cases hk
  | k :: l, b, h => by
    rw [List.foldl_cons]
    refine total_some g l _ ?_
    by_cases z : g k = 0
    · unfold totalStep
      rw [if_pos z]
      rcases h with h | ⟨j, hj, gj⟩
      · exact .inl h
      · rcases List.mem_cons.mp hj with e | hj
        · subst e; exact absurd z gj
        · exact .inr ⟨j, hj, gj⟩
    · refine .inl ?_
      unfold totalStep
      rw [if_neg z]
      cases b with
      | none => simp
      | some o =>
        dsimp only
        split <;> simp
theorem leastTotal_some {s : Sources} (h1 : 1 ≤ s.yCount) (h5 : s.yCount ≤ 5) (hx : s.xCount ≤ 5) (f : Bool) : leastTotal (possiblePairs s) (valF s f) s.xCount s.yCount ≠ none :=
  total_some _ _ none (.inr ⟨s.xCount, by simp, by have := fewestFor_all h1 h5 hx f; omega⟩)
end TCM
/-! The mathematics, 3: links, exchanged sources, the number of messages, the dicts against the lists. -/
namespace TCM
open Km540

/-! ### linked symbols -/
def coord (src : Nat) (p : Nat × Nat) : Nat := if src = 0 then p.1 else p.2
def linkB (src : Nat) (p q : Nat × Nat) : Bool := decide (coord (1 - src) p = coord (1 - src) q) && decide (coord src p < coord src q)
def linkedOne (ps : List (Nat × Nat)) (src : Nat) (p : Nat × Nat) : List (Nat × Nat) := (ps.filter (linkB src p)).map fun q => (coord src p, coord src q)
def linkedB (ps : List (Nat × Nat)) (src : Nat) : List (Nat × Nat) := ps.flatMap (linkedOne ps src)
def apart (c : List Nat) (l : Nat × Nat) : Bool := decide (c.getD l.1 0 ≠ c.getD l.2 0)
theorem mem_linked {ps : List (Nat × Nat)} {src a b : Nat} : (a, b) ∈ linkedB ps src ↔ ∃ p ∈ ps, ∃ q ∈ ps, linkB src p q = true ∧ coord src p = a ∧ coord src q = b := by
  unfold linkedB linkedOne
  simp only [List.mem_flatMap, List.mem_map, List.mem_filter, Prod.mk.injEq]
  constructor
  · rintro ⟨p, hp, q, ⟨hq, l⟩, e1, e2⟩
    exact ⟨p, hp, q, hq, l, e1, e2⟩
  · rintro ⟨p, hp, q, hq, l, e1, e2⟩
    exact ⟨p, hp, q, ⟨hq, l⟩, e1, e2⟩
theorem conf_iff {s : Sources} {x z : Nat} (hx : x < s.xCount) (hz : z < s.xCount) : areConfusable s x z = true ↔ x ≠ z ∧ ∃ y, (x, y) ∈ possiblePairs s ∧ (z, y) ∈ possiblePairs s := by
  simp only [areConfusable, Bool.and_eq_true, List.any_eq_true, List.mem_range, bne_iff_ne, mem_possible]
  constructor
  · rintro ⟨hn, y, hy, h1, h2⟩
    exact ⟨hn, y, ⟨hx, hy, h1⟩, ⟨hz, hy, h2⟩⟩
  · rintro ⟨hn, y, ⟨_, hy, h1⟩, ⟨_, _, h2⟩⟩
    exact ⟨hn, y, hy, h1, h2⟩
theorem conf_sym (s : Sources) (x z : Nat) : areConfusable s x z = areConfusable s z x := by
  have one : ∀ x z, areConfusable s x z = true → areConfusable s z x = true := fun x z h => by
    simp only [areConfusable, Bool.and_eq_true, List.any_eq_true, List.mem_range, bne_iff_ne] at h ⊢
    obtain ⟨hn, y, hy, h1, h2⟩ := h
    exact ⟨Ne.symm hn, y, hy, h2, h1⟩
  exact bc ⟨one x z, one z x⟩
theorem conf_refl (s : Sources) (x : Nat) : areConfusable s x x = false := by simp [areConfusable]
theorem linked_x (s : Sources) (c : List Nat) : (linkedB (possiblePairs s) 0).all (apart c) = separates s.xCount (areConfusable s) c := by
  refine bc ?_
  rw [sep_iff, List.all_eq_true]
  constructor
  · intro h x hx z hz m e
    obtain ⟨hn, y, h1, h2⟩ := (conf_iff hx hz).mp m
    rcases Nat.lt_or_ge x z with l | l
    · have := h (x, z) (mem_linked.mpr ⟨(x, y), h1, (z, y), h2, by simp [linkB, coord, l], rfl, rfl⟩)
      exact (of_decide_eq_true this) e
    · have l2 : z < x := by omega
      have := h (z, x) (mem_linked.mpr ⟨(z, y), h2, (x, y), h1, by simp [linkB, coord, l2], rfl, rfl⟩)
      exact (of_decide_eq_true this) e.symm
  · rintro h ⟨a, b⟩ hm
    obtain ⟨⟨px, py⟩, hp, ⟨qx, qy⟩, hq, l, e1, e2⟩ := mem_linked.mp hm
    simp only [linkB, coord, Bool.and_eq_true, decide_eq_true_eq, Nat.sub_zero, if_true, show ¬ (1 = 0) from by decide, if_false] at l e1 e2
    obtain ⟨rfl, l⟩ := l
    subst e1 e2
    have mp := mem_possible.mp hp
    have mq := mem_possible.mp hq
    exact decide_eq_true (h px mp.1 qx mq.1 ((conf_iff mp.1 mq.1).mpr ⟨by omega, py, hp, hq⟩))

/-! ### a table of rows -/
theorem grid_getD {α : Type} (z : α) (n : Nat) (g : Nat → Nat → α) : ∀ (m i j : Nat), i < m → j < n → ((List.range m).flatMap fun i => (List.range n).map (g i)).getD (i * n + j) z = g i j
  | 0, i, j, h, _ => absurd h (Nat.not_lt_zero i)
  | m + 1, i, j, hi, hj => by
    have hl : ∀ m, ((List.range m).flatMap fun i => (List.range n).map (g i)).length = m * n := by
      intro m
      induction m with
      | zero => simp
      | succ m ih =>
        rw [List.range_succ, List.flatMap_append, List.length_append, ih]
        simp [Nat.succ_mul]
    rw [List.range_succ, List.flatMap_append]
    simp only [List.getD_eq_getElem?_getD]
    by_cases e : i < m
    · have : i * n + j < m * n := by
        have h1 : i + 1 ≤ m := e
        have h2 := Nat.mul_le_mul_right n h1
        rw [Nat.succ_mul] at h2
        omega
      rw [List.getElem?_append_left (by rw [hl]; exact this)]
      have := grid_getD z n g m i j e hj
      simpa [List.getD_eq_getElem?_getD] using this
    · have e2 : i = m := by omega
      subst e2
      rw [List.getElem?_append_right (by rw [hl]; omega), hl]
      have e3 : i * n + j - i * n = j := by omega
      rw [e3]
      simp [hj]
theorem swapped_possible {s : Sources} {x y : Nat} (hx : x < s.xCount) (hy : y < s.yCount) : isPossible (swapped s) y x = isPossible s x y :=
  grid_getD false s.xCount (fun y x => isPossible s x y) s.yCount y x hy hx
theorem swapped_value {s : Sources} {x y : Nat} (hx : x < s.xCount) (hy : y < s.yCount) : value (swapped s) y x = value s x y :=
  grid_getD 0 s.xCount (fun y x => value s x y) s.yCount y x hy hx
theorem swapped_mem {s : Sources} {x y : Nat} : (y, x) ∈ possiblePairs (swapped s) ↔ (x, y) ∈ possiblePairs s := by
  rw [mem_possible, mem_possible]
  constructor
  · rintro ⟨hy, hx, h⟩
    exact ⟨hx, hy, by rw [← swapped_possible hx hy]; exact h⟩
  · rintro ⟨hx, hy, h⟩
    exact ⟨hy, hx, by rw [swapped_possible hx hy]; exact h⟩
theorem linked_y (s : Sources) (c : List Nat) : (linkedB (possiblePairs s) 1).all (apart c) = separates s.yCount (areConfusable (swapped s)) c := by
  refine bc ?_
  rw [sep_iff, List.all_eq_true]
  have cf : ∀ {x z : Nat}, x < s.yCount → z < s.yCount → (areConfusable (swapped s) x z = true ↔ x ≠ z ∧ ∃ y, (x, y) ∈ possiblePairs (swapped s) ∧ (z, y) ∈ possiblePairs (swapped s)) := fun {x z} hx hz => conf_iff (s := swapped s) hx hz
  constructor
  · intro h x hx z hz m e
    obtain ⟨hn, y, h1, h2⟩ := (cf hx hz).mp m
    rw [swapped_mem] at h1 h2
    rcases Nat.lt_or_ge x z with l | l
    · have := h (x, z) (mem_linked.mpr ⟨(y, x), h1, (y, z), h2, by simp [linkB, coord, l], rfl, rfl⟩)
      exact (of_decide_eq_true this) e
    · have l2 : z < x := by omega
      have := h (z, x) (mem_linked.mpr ⟨(y, z), h2, (y, x), h1, by simp [linkB, coord, l2], rfl, rfl⟩)
      exact (of_decide_eq_true this) e.symm
  · rintro h ⟨a, b⟩ hm
    obtain ⟨⟨px, py⟩, hp, ⟨qx, qy⟩, hq, l, e1, e2⟩ := mem_linked.mp hm
    simp only [linkB, coord, Bool.and_eq_true, decide_eq_true_eq, Nat.sub_self, if_true, show ¬ (1 = 0) from by decide, if_false] at l e1 e2
    obtain ⟨rfl, l⟩ := l
    subst e1 e2
    have mp := mem_possible.mp hp
    have mq := mem_possible.mp hq
    exact decide_eq_true (h py mp.2.1 qy mq.2.1 ((cf mp.2.1 mq.2.1).mpr ⟨by omega, px, swapped_mem.mpr hp, swapped_mem.mpr hq⟩))
/-- the fewest colours, as the program finds them -/
def coloursB (links : List (Nat × Nat)) (n : Nat) : Nat := (canonicalCodes n n).foldl (fun best c => if decide (used c < best) && links.all (apart c) then used c else best) n
theorem col_fold (g : List Nat → Bool) : ∀ (l : List (List Nat)) (b : Nat),
    let r := l.foldl (fun best c => if decide (used c < best) && g c then used c else best) b
    r ≤ b ∧ (r = b ∨ ∃ c ∈ l, g c = true ∧ used c = r) ∧ ∀ c ∈ l, g c = true → r ≤ used c
  | [], b => ⟨Nat.le_refl _, .inl rfl, fun c hc => by cases hc⟩
  | c :: l, b => by
    have ih := col_fold g l (if decide (used c < b) && g c then used c else b)
    simp only [List.foldl_cons] at ih ⊢
    obtain ⟨i1, i2, i3⟩ := ih
    by_cases q : (decide (used c < b) && g c) = true
    · rw [if_pos q] at i1 i2 i3 ⊢
      simp only [Bool.and_eq_true, decide_eq_true_eq] at q
      refine ⟨by omega, ?_, fun d hd gd => ?_⟩
      · rcases i2 with e | ⟨d, hd, gd, ud⟩
        · exact .inr ⟨c, by simp, q.2, e.symm⟩
        · exact .inr ⟨d, by simp [hd], gd, ud⟩
      · rcases List.mem_cons.mp hd with e | hd
        · subst e; exact i1
        · exact i3 d hd gd
    · rw [if_neg q] at i1 i2 i3 ⊢
      refine ⟨i1, ?_, fun d hd gd => ?_⟩
      · rcases i2 with e | ⟨d, hd, gd, ud⟩
        · exact .inl e
        · exact .inr ⟨d, by simp [hd], gd, ud⟩
      · rcases List.mem_cons.mp hd with e | hd
        · subst e
          have : ¬ used d < b := fun z => q (by simp [z, gd])
          omega
        · exact i3 d hd gd
theorem used_range : ∀ n, n ≤ 5 → used (List.range n) = n := by decide +kernel
theorem colours_is {links : List (Nat × Nat)} {n : Nat} (h5 : n ≤ 5) {md : Nat → Nat → Bool} (hs : ∀ x z, md x z = md z x) (hr : ∀ x, md x x = false) (h : ∀ c, links.all (apart c) = separates n md c) : coloursB links n = minMessages n md := by
  have m := minMessages_spec h5 hs hr
  obtain ⟨_, i2, i3⟩ := col_fold (separates n md) (canonicalCodes n n) n
  have e : coloursB links n = (canonicalCodes n n).foldl (fun best c => if decide (used c < best) && separates n md c then used c else best) n := by
    unfold coloursB
    simp only [h]
  rw [e]
  refine isLeast_one (l := canonicalCodes n n) (g := separates n md) ⟨?_, i3⟩ m
  rcases i2 with e | ⟨c, hc, gc, uc⟩
  · exact ⟨List.range n, range_in n h5, range_sep hr, by rw [used_range n h5]; exact e.symm⟩
  · exact ⟨c, hc, gc, uc⟩
theorem side_x {s : Sources} (h : s.xCount ≤ 5) : coloursB (linkedB (possiblePairs s) 0) s.xCount = minMessages s.xCount (areConfusable s) := colours_is h (conf_sym s) (conf_refl s) (linked_x s)
theorem side_y {s : Sources} (h : s.yCount ≤ 5) : coloursB (linkedB (possiblePairs s) 1) s.yCount = minMessages s.yCount (areConfusable (swapped s)) := colours_is h (conf_sym _) (conf_refl _) (linked_y s)

/-! ### the pairs in order -/
def before (p q : Nat × Nat) : Prop := p.1 < q.1 ∨ (p.1 = q.1 ∧ p.2 < q.2)
theorem before_irr (p : Nat × Nat) : ¬ before p p := by unfold before; omega
theorem before_trans {p q r : Nat × Nat} (h : before p q) (k : before q r) : before p r := by unfold before at *; omega
theorem sorted_one : ∀ {l m : List (Nat × Nat)}, l.Pairwise before → m.Pairwise before → (∀ p, p ∈ l ↔ p ∈ m) → l = m
  | [], [], _, _, _ => rfl
  | [], q :: m, _, _, h => absurd ((h q).mpr List.mem_cons_self) (by simp)
  | p :: l, [], _, _, h => absurd ((h p).mp List.mem_cons_self) (by simp)
  | p :: l, q :: m, hl, hm, h => by
    obtain ⟨l1, l2⟩ := List.pairwise_cons.mp hl
    obtain ⟨m1, m2⟩ := List.pairwise_cons.mp hm
    have e : p = q := by
      rcases List.mem_cons.mp ((h p).mp List.mem_cons_self) with e | hp
      · exact e
      · rcases List.mem_cons.mp ((h q).mpr List.mem_cons_self) with e | hq
        · exact e.symm
        · exact absurd (before_trans (l1 q hq) (m1 p hp)) (before_irr p)
    subst e
    rw [sorted_one l2 m2 fun r => ?_]
    have hr := h r
    constructor
    · intro hrl
      rcases List.mem_cons.mp (hr.mp (List.mem_cons_of_mem _ hrl)) with e | k
      · subst e; exact absurd (l1 r hrl) (before_irr r)
      · exact k
    · intro hrm
      rcases List.mem_cons.mp (hr.mpr (List.mem_cons_of_mem _ hrm)) with e | k
      · subst e; exact absurd (m1 r hrm) (before_irr r)
      · exact k
theorem possible_sorted (s : Sources) : (possiblePairs s).Pairwise before := by
  unfold possiblePairs
  have key : ∀ n, ((List.range n).flatMap fun x => ((List.range s.yCount).filter fun y => isPossible s x y).map fun y => (x, y)).Pairwise before := by
    intro n
    induction n with
    | zero => simp
    | succ n ih =>
      rw [List.range_succ, List.flatMap_append, List.pairwise_append]
      refine ⟨ih, ?_, ?_⟩
      · simp only [List.flatMap_cons, List.flatMap_nil, List.append_nil, List.pairwise_map]
        refine List.Pairwise.imp ?_ (List.Pairwise.filter _ List.pairwise_lt_range)
        intro a b h
        exact .inr ⟨rfl, h⟩
      · intro p hp q hq
        simp only [List.mem_flatMap, List.mem_range, List.mem_map, List.mem_filter] at hp hq
        obtain ⟨x, hx, y, _, rfl⟩ := hp
        obtain ⟨x', hx', y', _, rfl⟩ := hq
        simp only [List.mem_singleton] at hx'
        exact .inl (by omega)
  exact key s.xCount
theorem possible_nodup (s : Sources) : (possiblePairs s).Nodup := List.Pairwise.imp (fun {a b} h e => by subst e; exact before_irr a h) (possible_sorted s)
theorem possible_few {s : Sources} (hx : s.xCount ≤ 5) (hy : s.yCount ≤ 5) : (possiblePairs s).length ≤ 25 := by
  unfold possiblePairs
  rw [List.length_flatMap]
  have key : ∀ l : List Nat, (l.map fun x => (((List.range s.yCount).filter fun y => isPossible s x y).map fun y => (x, y)).length).sum ≤ 5 * l.length := by
    intro l
    induction l with
    | nil => simp
    | cons x l ih =>
      rw [List.map_cons, List.sum_cons, List.length_cons]
      have : (((List.range s.yCount).filter fun y => isPossible s x y).map fun y => (x, y)).length ≤ 5 := by
        rw [List.length_map]
        exact Nat.le_trans (List.length_filter_le _ _) (by simp; omega)
      omega
  have := key (List.range s.xCount)
  simp at this ⊢
  omega
end TCM
/-! The mathematics, 4: the two dicts against the specification's lists. -/
namespace TCM
open Km540

/-! ### lists of pairs as tables -/
section
variable {A B : Type} [DecidableEq A]
def glook (l : List (A × B)) (k : A) : Option B := (l.find? fun e => decide (e.1 = k)).map (·.2)
def gput (l : List (A × B)) (k : A) (v : B) : List (A × B) := if (l.any fun e => decide (e.1 = k)) = true then l.map (fun e => if e.1 = k then (e.1, v) else e) else l ++ [(k, v)]
theorem glook_pos {p : A × B} {r : List (A × B)} {k : A} (e : p.1 = k) : glook (p :: r) k = some p.2 := by simp [glook, List.find?_cons, e]
theorem glook_neg {p : A × B} {r : List (A × B)} {k : A} (e : ¬ p.1 = k) : glook (p :: r) k = glook r k := by simp [glook, List.find?_cons, e]
theorem glook_any (k : A) : ∀ l : List (A × B), (l.any fun e => decide (e.1 = k)) = (glook l k).isSome
  | [] => rfl
  | p :: r => by
    rw [List.any_cons]
    by_cases e : p.1 = k
    · simp only [glook_pos e, decide_eq_true e, Bool.true_or, Option.isSome_some]
    · rw [glook_neg e, decide_eq_false e, Bool.false_or]; exact glook_any k r
theorem glook_map (k j : A) (y : B) : ∀ l : List (A × B), glook (l.map fun e => if e.1 = k then (e.1, y) else e) j = (glook l j).map fun x => if j = k then y else x
  | [] => rfl
  | p :: r => by
    have ih := glook_map k j y r
    rw [List.map_cons]
    by_cases h : p.1 = k
    · rw [if_pos h]
      by_cases e : p.1 = j
      · rw [glook_pos (p := (p.1, y)) e, glook_pos e, Option.map_some, if_pos (e.symm.trans h)]
      · rw [glook_neg (p := (p.1, y)) e, glook_neg e, ih]
    · rw [if_neg h]
      by_cases e : p.1 = j
      · rw [glook_pos (p := p) e, glook_pos e, Option.map_some, if_neg (fun z => h (e.trans z))]
      · rw [glook_neg (p := p) e, glook_neg e, ih]
theorem glook_snoc (k j : A) (y : B) : ∀ l : List (A × B), glook l k = none → glook (l ++ [(k, y)]) j = if j = k then some y else glook l j
  | [], _ => by
    by_cases e : k = j
    · rw [if_pos e.symm]; exact glook_pos (p := (k, y)) e
    · rw [if_neg (fun z => e z.symm)]; exact glook_neg (p := (k, y)) e
  | p :: r, hn => by
    rw [List.cons_append]
    have hk : ¬ p.1 = k := fun z => by rw [glook_pos z] at hn; cases hn
    rw [glook_neg hk] at hn
    have ih := glook_snoc k j y r hn
    by_cases e : p.1 = j
    · rw [glook_pos e, glook_pos e, if_neg (fun z => hk (e.trans z))]
    · rw [glook_neg e, glook_neg e, ih]
theorem glook_put (l : List (A × B)) (k j : A) (y : B) : glook (gput l k y) j = if j = k then some y else glook l j := by
  unfold gput
  by_cases a : (l.any fun e => decide (e.1 = k)) = true
  · rw [if_pos a, glook_map]
    rw [glook_any] at a
    by_cases e : j = k
    · obtain ⟨x, hx⟩ := Option.isSome_iff_exists.mp a
      rw [if_pos e, e, hx, Option.map_some, if_pos rfl]
    · rw [if_neg e]
      cases glook l j with
      | none => rfl
      | some x => rw [Option.map_some, if_neg e]
  · rw [if_neg a]
    refine glook_snoc k j y l ?_
    rw [glook_any] at a
    cases q : glook l k with
    | none => rfl
    | some x => rw [q] at a; exact (a rfl).elim
theorem gput_keys (l : List (A × B)) (k : A) (v : B) : (gput l k v).map (·.1) = if k ∈ l.map (·.1) then l.map (·.1) else l.map (·.1) ++ [k] := by
  unfold gput
  by_cases a : (l.any fun e => decide (e.1 = k)) = true
  · rw [if_pos a]
    have m : k ∈ l.map (·.1) := by
      obtain ⟨p, hp, e⟩ := List.any_eq_true.mp a
      exact List.mem_map.mpr ⟨p, hp, of_decide_eq_true e⟩
    rw [if_pos m, List.map_map]
    refine List.map_congr_left fun e _ => ?_
    show (if e.1 = k then (e.1, v) else e).1 = e.1
    split <;> rfl
  · rw [if_neg a]
    have m : ¬ k ∈ l.map (·.1) := fun m => by
      obtain ⟨p, hp, e⟩ := List.mem_map.mp m
      exact a (List.any_eq_true.mpr ⟨p, hp, decide_eq_true e⟩)
    rw [if_neg m, List.map_append]
    rfl
end
theorem nodup_snoc {A : Type} {l : List A} {k : A} (h : l.Nodup) (hk : ¬ k ∈ l) : (l ++ [k]).Nodup := by
  rw [List.nodup_append]
  refine ⟨h, by simp, fun a ha b hb => ?_⟩
  rw [List.mem_singleton.mp hb]
  exact fun e => hk (e ▸ ha)

/-! ### cells -/
theorem cell_inj {n x y x' y' : Nat} (hy : y < n) (hy' : y' < n) (e : x * n + y = x' * n + y') : x = x' ∧ y = y' := by
  have h1 : ∀ x y, y < n → (x * n + y) / n = x := fun x y h => by
    rw [Nat.mul_comm, Nat.mul_add_div (by omega), Nat.div_eq_of_lt h, Nat.add_zero]
  have h2 : ∀ x y, y < n → (x * n + y) % n = y := fun x y h => by
    rw [Nat.mul_comm, Nat.mul_add_mod, Nat.mod_eq_of_lt h]
  refine ⟨?_, ?_⟩
  · rw [← h1 x y hy, ← h1 x' y' hy', e]
  · rw [← h2 x y hy, ← h2 x' y' hy', e]
theorem cell_lt {m n x y : Nat} (hx : x < m) (hy : y < n) : x * n + y < m * n := by
  have h1 : x + 1 ≤ m := hx
  have h2 := Nat.mul_le_mul_right n h1
  rw [Nat.succ_mul] at h2
  omega
theorem getD_set {A : Type} {l : List A} {i j : Nat} {v z : A} (h : i < l.length) : (l.set i v).getD j z = if j = i then v else l.getD j z := by
  simp only [List.getD_eq_getElem?_getD, List.getElem?_set]
  by_cases e : i = j
  · subst e
    simp [h]
  · have e2 : ¬ j = i := fun z => e z.symm
    simp [e, e2]

/-! ### the relation -/
structure SesOk (s : Session) (kp : List (Nat × Nat)) (kv : List ((Nat × Nat) × Nat)) : Prop where
  x1 : 1 ≤ s.sources.xCount
  x5 : s.sources.xCount ≤ 5
  y1 : 1 ≤ s.sources.yCount
  y5 : s.sources.yCount ≤ 5
  poss : ∀ p, p ∈ kp ↔ p ∈ possiblePairs s.sources
  nodup : kp.Nodup
  plen : s.sources.possible.length = s.sources.xCount * s.sources.yCount
  vlen : s.sources.values.length = s.sources.xCount * s.sources.yCount
  vals : ∀ x y, x < s.sources.xCount → y < s.sources.yCount → (glook kv (x, y)).getD 0 = value s.sources x y
  vin : ∀ k ∈ kv.map (·.1), k.1 < s.sources.xCount ∧ k.2 < s.sources.yCount
  vnodup : (kv.map (·.1)).Nodup
  xlen : s.xCode.length = s.sources.xCount
  ylen : s.yCode.length = s.sources.yCount
theorem perm_of_nodup {A : Type} {l m : List A} (hl : l.Nodup) (hm : m.Nodup) (h : ∀ a, a ∈ l ↔ a ∈ m) : l.Perm m := (List.perm_ext_iff_of_nodup hl hm).mpr h
theorem SesOk.perm {s : Session} {kp : List (Nat × Nat)} {kv : List ((Nat × Nat) × Nat)} (h : SesOk s kp kv) : kp.Perm (possiblePairs s.sources) := perm_of_nodup h.nodup (possible_nodup _) h.poss
theorem SesOk.few {s : Session} {kp : List (Nat × Nat)} {kv : List ((Nat × Nat) × Nat)} (h : SesOk s kp kv) : kp.length ≤ 25 := by
  rw [h.perm.length_eq]
  exact possible_few h.x5 h.y5
theorem grid_few {l : List (Nat × Nat)} (hn : l.Nodup) (h : ∀ k ∈ l, k.1 < 5 ∧ k.2 < 5) : l.length ≤ 25 := by
  have e : l.Perm (((List.range 5).flatMap fun x => (List.range 5).map fun y => (x, y)).filter fun k => decide (k ∈ l)) := by
    refine perm_of_nodup hn (List.Pairwise.filter _ (by decide)) fun k => ?_
    rw [List.mem_filter]
    constructor
    · intro hk
      refine ⟨?_, by simpa using hk⟩
      have := h k hk
      simp only [List.mem_flatMap, List.mem_range, List.mem_map]
      exact ⟨k.1, this.1, k.2, this.2, rfl⟩
    · rintro ⟨_, hk⟩
      simpa using hk
  rw [e.length_eq]
  exact Nat.le_trans (List.length_filter_le _ _) (by decide)
theorem SesOk.vfew {s : Session} {kp : List (Nat × Nat)} {kv : List ((Nat × Nat) × Nat)} (h : SesOk s kp kv) : kv.length ≤ 25 := by
  have := grid_few h.vnodup fun k hk => by
    have a := h.vin k hk
    have b := h.x5
    have c := h.y5
    omega
  rwa [List.length_map] at this
theorem SesOk.in_ {s : Session} {kp : List (Nat × Nat)} {kv : List ((Nat × Nat) × Nat)} (h : SesOk s kp kv) {p : Nat × Nat} (hp : p ∈ kp) : p.1 < s.sources.xCount ∧ p.2 < s.sources.yCount := by
  have := mem_possible.mp ((h.poss p).mp hp)
  exact ⟨this.1, this.2.1⟩
/-- a new instance -/
def freshS (x y : Nat) : Session := ⟨⟨x, y, List.replicate (x * y) false, List.replicate (x * y) 0⟩, List.replicate x 0, List.replicate y 0⟩
theorem getD_rep {A : Type} (n i : Nat) (z : A) : (List.replicate n z).getD i z = z := by
  simp only [List.getD_eq_getElem?_getD, List.getElem?_replicate]
  split <;> rfl
theorem fresh_ok {x y : Nat} (x1 : 1 ≤ x) (x5 : x ≤ 5) (y1 : 1 ≤ y) (y5 : y ≤ 5) : SesOk (freshS x y) [] [] := by
  refine ⟨x1, x5, y1, y5, fun p => ?_, List.nodup_nil, by simp [freshS], by simp [freshS], fun a b _ _ => ?_, fun k hk => absurd hk (by simp), List.nodup_nil, by simp [freshS], by simp [freshS]⟩
  · obtain ⟨a, b⟩ := p
    rw [mem_possible]
    constructor
    · intro h; cases h
    · rintro ⟨_, _, h⟩
      have : isPossible (freshS x y).sources a b = false := getD_rep _ _ false
      rw [this] at h
      cases h
  · show 0 = _
    exact (getD_rep (x * y) _ 0).symm
theorem poss_set {s : Sources} (hl : s.possible.length = s.xCount * s.yCount) {x y a b : Nat} (hx : x < s.xCount) (hy : y < s.yCount) (hb : b < s.yCount) (v : Bool) :
    isPossible (withPossible s x y v) a b = if (a, b) = (x, y) then v else isPossible s a b := by
  unfold isPossible withPossible cellIndex
  rw [getD_set (by rw [hl]; exact cell_lt hx hy)]
  by_cases e : (a, b) = (x, y)
  · cases e
    rw [if_pos rfl, if_pos rfl]
  · rw [if_neg e, if_neg fun z => e (by obtain ⟨e1, e2⟩ := cell_inj hb hy z; rw [e1, e2])]
theorem val_set {s : Sources} (hl : s.values.length = s.xCount * s.yCount) {x y a b : Nat} (hx : x < s.xCount) (hy : y < s.yCount) (hb : b < s.yCount) (v : Nat) :
    value { s with values := s.values.set (cellIndex s x y) v } a b = if (a, b) = (x, y) then v else value s a b := by
  unfold value cellIndex
  rw [getD_set (by rw [hl]; exact cell_lt hx hy)]
  by_cases e : (a, b) = (x, y)
  · cases e
    rw [if_pos rfl, if_pos rfl]
  · rw [if_neg e, if_neg fun z => e (by obtain ⟨e1, e2⟩ := cell_inj hb hy z; rw [e1, e2])]
theorem SesOk.setP {s : Session} {kp kp' : List (Nat × Nat)} {kv : List ((Nat × Nat) × Nat)} (h : SesOk s kp kv) {x y : Nat} (hx : x < s.sources.xCount) (hy : y < s.sources.yCount) (v : Bool)
    (hm : ∀ p, p ∈ kp' ↔ if p = (x, y) then v = true else p ∈ kp) (hn : kp'.Nodup) : SesOk { s with sources := withPossible s.sources x y v } kp' kv := by
  refine ⟨h.x1, h.x5, h.y1, h.y5, fun p => ?_, hn, ?_, h.vlen, h.vals, h.vin, h.vnodup, h.xlen, h.ylen⟩
  · obtain ⟨a, b⟩ := p
    rw [hm, mem_possible]
    show _ ↔ a < s.sources.xCount ∧ b < s.sources.yCount ∧ isPossible (withPossible s.sources x y v) a b = true
    by_cases e : (a, b) = (x, y)
    · rw [if_pos e]
      cases e
      constructor
      · intro hv
        exact ⟨hx, hy, by rw [poss_set h.plen hx hy hy, if_pos rfl]; exact hv⟩
      · rintro ⟨_, _, hh⟩
        rw [poss_set h.plen hx hy hy, if_pos rfl] at hh
        exact hh
    · rw [if_neg e, h.poss, mem_possible]
      constructor
      · rintro ⟨h1, h2, h3⟩
        exact ⟨h1, h2, by rw [poss_set h.plen hx hy h2, if_neg e]; exact h3⟩
      · rintro ⟨h1, h2, h3⟩
        rw [poss_set h.plen hx hy h2, if_neg e] at h3
        exact ⟨h1, h2, h3⟩
  · show (s.sources.possible.set _ v).length = _
    rw [List.length_set]
    exact h.plen
theorem SesOk.setV {s : Session} {kp : List (Nat × Nat)} {kv : List ((Nat × Nat) × Nat)} (h : SesOk s kp kv) {x y : Nat} (hx : x < s.sources.xCount) (hy : y < s.sources.yCount) (v : Nat) :
    SesOk { s with sources := { s.sources with values := s.sources.values.set (cellIndex s.sources x y) v } } kp (gput kv (x, y) v) := by
  refine ⟨h.x1, h.x5, h.y1, h.y5, h.poss, h.nodup, h.plen, ?_, fun a b ha hb => ?_, fun k hk => ?_, ?_, h.xlen, h.ylen⟩
  · show (s.sources.values.set _ v).length = _
    rw [List.length_set]
    exact h.vlen
  · rw [glook_put]
    have e := val_set h.vlen hx hy hb (a := a) v
    show _ = value { s.sources with values := s.sources.values.set (cellIndex s.sources x y) v } a b
    rw [e]
    by_cases q : (a, b) = (x, y)
    · rw [if_pos q, if_pos q]
      rfl
    · rw [if_neg q, if_neg q]
      exact h.vals a b ha hb
  · rw [gput_keys] at hk
    by_cases m : (x, y) ∈ kv.map (·.1)
    · rw [if_pos m] at hk
      exact h.vin k hk
    · rw [if_neg m] at hk
      rcases List.mem_append.mp hk with q | q
      · exact h.vin k q
      · rw [List.mem_singleton.mp q]
        exact ⟨hx, hy⟩
  · rw [gput_keys]
    by_cases m : (x, y) ∈ kv.map (·.1)
    · rw [if_pos m]
      exact h.vnodup
    · rw [if_neg m]
      exact nodup_snoc h.vnodup m
theorem SesOk.codes {s : Session} {kp : List (Nat × Nat)} {kv : List ((Nat × Nat) × Nat)} (h : SesOk s kp kv) {c d : List Nat} (hc : c.length = s.sources.xCount) (hd : d.length = s.sources.yCount) : SesOk { s with xCode := c, yCode := d } kp kv :=
  ⟨h.x1, h.x5, h.y1, h.y5, h.poss, h.nodup, h.plen, h.vlen, h.vals, h.vin, h.vnodup, hc, hd⟩
def swapP (p : Nat × Nat) : Nat × Nat := (p.2, p.1)
theorem swapP_inj {p q : Nat × Nat} (h : swapP p = swapP q) : p = q := by
  unfold swapP at h
  injection h with h1 h2
  exact Prod.ext h2 h1
def swapV (e : (Nat × Nat) × Nat) : (Nat × Nat) × Nat := (swapP e.1, e.2)
theorem glook_swap (k : Nat × Nat) : ∀ l : List ((Nat × Nat) × Nat), glook (l.map swapV) (swapP k) = glook l k
  | [] => rfl
  | e :: l => by
    rw [List.map_cons]
    by_cases c : e.1 = k
    · rw [glook_pos (p := swapV e) (by show swapP e.1 = _; rw [c]), glook_pos c]
      rfl
    · rw [glook_neg (p := swapV e) (fun z => c (swapP_inj z)), glook_neg c, glook_swap k l]
theorem nodup_map {A B : Type} {f : A → B} (hf : ∀ a b, f a = f b → a = b) {l : List A} (h : l.Nodup) : (l.map f).Nodup := by
  unfold List.Nodup at h ⊢
  rw [List.pairwise_map]
  exact List.Pairwise.imp (fun {a b} hne e => hne (hf a b e)) h
theorem SesOk.swap {s : Session} {kp : List (Nat × Nat)} {kv : List ((Nat × Nat) × Nat)} (h : SesOk s kp kv) : SesOk ⟨swapped s.sources, s.yCode, s.xCode⟩ (kp.map swapP) (kv.map swapV) := by
  have gl : ∀ {A : Type} (m n : Nat) (g : Nat → Nat → A), ((List.range m).flatMap fun i => (List.range n).map (g i)).length = m * n := by
    intro A m n g
    induction m with
    | zero => simp
    | succ m ih =>
      rw [List.range_succ, List.flatMap_append, List.length_append, ih]
      simp [Nat.succ_mul]
  refine ⟨h.y1, h.y5, h.x1, h.x5, fun p => ?_, nodup_map (fun a b => swapP_inj) h.nodup, ?_, ?_, fun a b ha hb => ?_, fun k hk => ?_, ?_, h.ylen, h.xlen⟩
  · obtain ⟨a, b⟩ := p
    show _ ↔ (a, b) ∈ possiblePairs (swapped s.sources)
    rw [swapped_mem, List.mem_map]
    constructor
    · rintro ⟨q, hq, e⟩
      have : q = (b, a) := by
        unfold swapP at e
        injection e with e1 e2
        exact Prod.ext e2 e1
      rw [← this]
      exact (h.poss q).mp hq
    · intro hp
      exact ⟨(b, a), (h.poss _).mpr hp, rfl⟩
  · exact gl s.sources.yCount s.sources.xCount fun y x => isPossible s.sources x y
  · exact gl s.sources.yCount s.sources.xCount fun y x => value s.sources x y
  · have e := glook_swap (b, a) kv
    have e2 : swapP (b, a) = (a, b) := rfl
    rw [e2] at e
    rw [e]
    have ha' : a < s.sources.yCount := ha
    have hb' : b < s.sources.xCount := hb
    rw [h.vals b a hb' ha']
    exact (swapped_value hb' ha').symm
  · rw [List.map_map] at hk
    obtain ⟨e, he, rfl⟩ := List.mem_map.mp hk
    have := h.vin e.1 (List.mem_map.mpr ⟨e, he, rfl⟩)
    exact ⟨this.2, this.1⟩
  · have e : (kv.map swapV).map (·.1) = (kv.map (·.1)).map swapP := by
      rw [List.map_map, List.map_map]
      rfl
    rw [e]
    exact nodup_map (fun a b => swapP_inj) h.vnodup
end TCM
/-! The walks, 0: what stands in the heap, what the top has written, how a def of the module is called. -/
namespace TC
open PySem PySem.Spec PyProof.Rows L2
open TCM (Tv valF clash goodB)

/-! ### heaps: what is kept -/
/-- tuples are kept -/
def TK (H H' : Hp) : Prop := ∀ b xs, Rd H b (.tup xs) → Rd H' b (.tup xs)
theorem TK.refl (H : Hp) : TK H H := fun _ _ h => h
theorem TK.trans {H H1 H2 : Hp} (a : TK H H1) (b : TK H1 H2) : TK H H2 := fun c xs h => b c xs (a c xs h)
theorem rd_same {H H' : Hp} {a : Addr} {u : HO} (s : Same H H') (h : Rd H a u) : Rd H' a u := by
  rcases h with h | ⟨o, h⟩
  · exact .inl (s _ _ h)
  · exact .inr ⟨o, s _ _ h⟩
theorem TK.of {H H' : Hp} (s : Same H H') : TK H H' := fun _ _ h => rd_same s h
theorem tk_upd {H : Hp} {l : Addr} {u o : HO} (h : H l = some u) (d : ∀ xs, u ≠ .tup xs) (d2 : ∀ ob v, u ≠ .frz ob v) : TK H (upd H l o) := by
  intro b xs hb
  have e : b ≠ l := by
    rintro rfl
    rcases hb with hb | ⟨ob, hb⟩
    · rw [h] at hb
      exact d xs (Option.some.inj hb)
    · rw [h] at hb
      exact d2 _ _ (Option.some.inj hb)
  rcases hb with hb | ⟨ob, hb⟩
  · exact .inl (by rw [upd_ne e]; exact hb)
  · exact .inr ⟨ob, by rw [upd_ne e]; exact hb⟩
theorem tk_lst {H : Hp} {l : Addr} {xs : List V} {o : HO} (h : H l = some (.lst xs)) : TK H (upd H l o) := tk_upd h (fun _ z => nomatch z) fun _ _ z => nomatch z
theorem tk_dT {H : Hp} {l : Addr} {kvs : List (List Key × V)} {o : HO} (h : H l = some (.dT kvs)) : TK H (upd H l o) := tk_upd h (fun _ z => nomatch z) fun _ _ z => nomatch z
theorem tk_ins {H : Hp} {l C dx : Addr} {fs : List (Str × V)} {o : HO} (h : H l = some (.ins C dx fs)) : TK H (upd H l o) := tk_upd h (fun _ z => nomatch z) fun _ _ z => nomatch z
theorem same_new {H H1 : Hp} {p : Addr} {o : HO} (s : Same H H1) (hp : H p = none) : Same H (upd H1 p o) := fun b u e => by
  rw [upd_ne (ne_of_none e hp)]
  exact s b u e
theorem same_upd {H : Hp} {p : Addr} {o : HO} (hp : H p = none) : Same H (upd H p o) := same_new (Same.refl H) hp
theorem same_then {H H1 : Hp} {p : Addr} {o : HO} (s : Same H H1) (hp : H1 p = none) : Same H (upd H1 p o) := s.trans (same_upd hp)
theorem sqT_keep {K : PySem.W.Frag} {H H' : Hp} {a : Addr} {xs : List V} (t : TK H H') (h : SqT K H a xs) : SqT K H' a xs := by
  rcases h with h | h
  · exact .inl (t _ _ h)
  · exact .inr h
/-! ### data -/
def intsV (c : List Nat) : List V := c.map fun (m : Nat) => V.int (m : Int)
/-- a tuple of ints -/
def CodeT (K : PySem.W.Frag) (H : Hp) (v : V) (c : List Nat) : Prop := ∃ a, v = .ref a ∧ SqT K H a (intsV c)
/-- a list or tuple of ints -/
def CodeA (K : PySem.W.Frag) (H : Hp) (v : V) (c : List Nat) : Prop := ∃ a, v = .ref a ∧ (SqL K H a (intsV c) ∨ SqT K H a (intsV c))
/-- a list or tuple of two codes -/
def CodesA (K : PySem.W.Frag) (H : Hp) (v : V) (c d : List Nat) : Prop := ∃ a x y, v = .ref a ∧ (SqL K H a [x, y] ∨ SqT K H a [x, y]) ∧ CodeA K H x c ∧ CodeA K H y d
def PairT (K : PySem.W.Frag) (H : Hp) (v : V) (p : Nat × Nat) : Prop := ∃ a, v = .ref a ∧ SqT K H a [.int (p.1 : Int), .int (p.2 : Int)]
def TvT (K : PySem.W.Frag) (H : Hp) (v : V) : Tv → Prop
  | .n k => v = .int (k : Int)
  | .p x y => ∃ a, v = .ref a ∧ SqT K H a [.int (x : Int), .int (y : Int)]
/-- a list of things -/
def ListOf {α : Type} (R : V → α → Prop) (K : PySem.W.Frag) (H : Hp) (v : V) (l : List α) : Prop := ∃ a vs, v = .ref a ∧ SqL K H a vs ∧ Paired R vs l
abbrev CodesL (K : PySem.W.Frag) (H : Hp) (v : V) (l : List (List Nat)) : Prop := ListOf (CodeT K H) K H v l
abbrev PairsL (K : PySem.W.Frag) (H : Hp) (v : V) (l : List (Nat × Nat)) : Prop := ListOf (PairT K H) K H v l
abbrev ValsL (K : PySem.W.Frag) (H : Hp) (v : V) (l : List Tv) : Prop := ListOf (TvT K H) K H v l
section
variable {K : PySem.W.Frag} {H H' : Hp} {v : V}
theorem CodeT.keep {c : List Nat} (t : TK H H') : CodeT K H v c → CodeT K H' v c := fun ⟨a, e, h⟩ => ⟨a, e, sqT_keep t h⟩
theorem PairT.keep {p : Nat × Nat} (t : TK H H') : PairT K H v p → PairT K H' v p := fun ⟨a, e, h⟩ => ⟨a, e, sqT_keep t h⟩
theorem TvT.keep {x : Tv} (t : TK H H') : TvT K H v x → TvT K H' v x := fun h => match x, h with
  | .n _, h => h
  | .p _ _, ⟨a, e, h⟩ => ⟨a, e, sqT_keep t h⟩
theorem CodeA.same {c : List Nat} (s : Same H H') : CodeA K H v c → CodeA K H' v c := fun ⟨a, e, h⟩ => ⟨a, e, h.elim (fun h => .inl (s.seq h)) fun h => .inr (sqT_keep (.of s) h)⟩
theorem CodesA.same {c d : List Nat} (s : Same H H') : CodesA K H v c d → CodesA K H' v c d := fun ⟨a, x, y, e, h, h1, h2⟩ => ⟨a, x, y, e, h.elim (fun h => .inl (s.seq h)) fun h => .inr (sqT_keep (.of s) h), h1.same s, h2.same s⟩
theorem codesL_same {l : List (List Nat)} (s : Same H H') : CodesL K H v l → CodesL K H' v l := fun ⟨a, vs, e, h, p⟩ => ⟨a, vs, e, s.seq h, Paired.mapP p fun _ _ q => q.keep (.of s)⟩
theorem pairsL_same {l : List (Nat × Nat)} (s : Same H H') : PairsL K H v l → PairsL K H' v l := fun ⟨a, vs, e, h, p⟩ => ⟨a, vs, e, s.seq h, Paired.mapP p fun _ _ q => q.keep (.of s)⟩
theorem valsL_same {l : List Tv} (s : Same H H') : ValsL K H v l → ValsL K H' v l := fun ⟨a, vs, e, h, p⟩ => ⟨a, vs, e, s.seq h, Paired.mapP p fun _ _ q => q.keep (.of s)⟩
theorem CodeT.any {c : List Nat} : CodeT K H v c → CodeA K H v c := fun ⟨a, e, h⟩ => ⟨a, e, .inr h⟩
end
theorem pget {α β : Type} {F : α → β → Prop} : ∀ {l₁ : List α} {l₂ : List β} {j : Nat} {x : α}, Paired F l₁ l₂ → l₁[j]? = some x → ∃ y, l₂[j]? = some y ∧ F x y
  | _, _, j, x, Paired.nil, h => by simp at h
  | _, _, 0, x, Paired.cons (b := y) f _, h => by
    simp only [List.getElem?_cons_zero] at h
    cases h
    exact ⟨y, rfl, f⟩
  | _, _, j + 1, x, Paired.cons _ t, h => by
    simp only [List.getElem?_cons_succ] at h
    obtain ⟨y, h1, h2⟩ := pget (j := j) t h
    exact ⟨y, (by rw [List.getElem?_cons_succ]; exact h1), h2⟩
theorem pget2 {α β : Type} {F : α → β → Prop} : ∀ {l₁ : List α} {l₂ : List β} {j : Nat} {y : β}, Paired F l₁ l₂ → l₂[j]? = some y → ∃ x, l₁[j]? = some x ∧ F x y
  | _, _, j, x, Paired.nil, h => by simp at h
  | _, _, 0, x, Paired.cons (a := y) f _, h => by
    simp only [List.getElem?_cons_zero] at h
    cases h
    exact ⟨y, rfl, f⟩
  | _, _, j + 1, x, Paired.cons _ t, h => by
    simp only [List.getElem?_cons_succ] at h
    obtain ⟨y, h1, h2⟩ := pget2 (j := j) t h
    exact ⟨y, (by rw [List.getElem?_cons_succ]; exact h1), h2⟩
theorem paired_app {α β : Type} {F : α → β → Prop} : ∀ {l₁ m₁ : List α} {l₂ m₂ : List β}, Paired F l₁ l₂ → Paired F m₁ m₂ → Paired F (l₁ ++ m₁) (l₂ ++ m₂)
  | _, _, _, _, .nil, h => h
  | _, _, _, _, .cons f t, h => .cons f (paired_app t h)
/-- one item more -/
theorem take_more {α : Type} {l : List α} {i : Nat} {x : α} (h : l[i]? = some x) : l.take (i + 1) = l.take i ++ [x] := by
  rw [List.take_add_one, h]
  rfl
theorem intsV_at {c : List Nat} {i : Nat} (h : i < c.length) : (intsV c)[i]? = some (.int ((c.getD i 0 : Nat) : Int)) := by
  unfold intsV
  rw [List.getElem?_map, List.getElem?_eq_getElem h, List.getD_eq_getElem?_getD, List.getElem?_eq_getElem h]
  rfl
theorem intsV_len (c : List Nat) : (intsV c).length = c.length := List.length_map _
theorem intsV_map (c : List Nat) : intsV c = (c.map fun (m : Nat) => (m : Int)).map V.int := by
  unfold intsV
  rw [List.map_map]
  rfl

/-! ### the text -/
def topS (i : Nat) : Stmt := PySem.Challenge.pw_twocoders_s01_answers.main.body.getD i (.Pass ⟨0, 0, 0, 0⟩)
/-- the built-ins that the program calls, by its own names unbound; its numbers -/
structure Txt (mg : Str → Option Value) : Prop where
  range : mg "range" = none
  max : mg "max" = none
  min : mg "min" = none
  len : mg "len" = none
  enumerate : mg "enumerate" = none
  all : mg "all" = none
  sum : mg "sum" = none
  sorted : mg "sorted" = none
  list : mg "list" = none
  set : mg "set" = none
  symbols : ∃ u, mg "MOST_SYMBOLS" = some u ∧ RelV (.int 5) u
  value : ∃ u, mg "MOST_VALUE" = some u ∧ RelV (.int 9) u
  message : ∃ u, mg "MOST_MESSAGE" = some u ∧ RelV (.int 4) u
  limit : ∃ u, mg "MOST_LIMIT" = some u ∧ RelV (.int 5) u
/-- a def of the module as it stands behind the top -/
structure DefAt (K : PySem.W.Frag) (mg : Str → Option Value) (x : Str) (st : Stmt) (ps : List Str) : Prop where
  ex : ∃ f fd, L2.Fun K x x st f fd ∧ mg x = some (.ref f) ∧ Binds K fd ps []
abbrev Cal := C8.Cal
section
variable {P : Program} {w : World} {K : PySem.W.Frag} {mg : Str → Option Value} {base : Heap}
theorem DefAt.cal {x : Str} {st : Stmt} {N ps : List Str} {k : Nat} {sp : Sp} (D : DefAt K mg x st ps) (S : FnScope N ps (defScope st)) (len : ∀ vs H Q E, sp vs H Q E → vs.length = ps.length)
    (hbody : ∀ (f : Addr) (cdv : Value) (A : Around) (outer : List Env) (s : Shared) (H : Hp) (vs : List V) (Q : VK) (E : XK), Room k (A.deeper (envOfC x (defScope st) s.heap.objs.size f cdv)) → sp vs H Q E →
      ∃ t, PSs (cxOf CX0 P w K mg base N x (defScope st) f cdv A outer s H E).nox (defBody st) t ∧ t { nx := fun _ H' => Q .non H', rt := Q } (start N vs) H) : Cal P w K mg base (k + 1) x sp [] := by
  obtain ⟨f, fd, F, hm, hb⟩ := D.ex
  exact ⟨f, fd, ps, [], F.ok S len (hbody f), hm, F.kp, hb, .nil⟩
theorem cal_held {x : Str} {k : Nat} {sp : Sp} (c : Cal P w K mg base k x sp []) : ∃ f, mg x = some (.ref f) ∧ Held P w K mg base k f sp := by
  obtain ⟨f, fd, ps, ds, F, hm, kp, b, d⟩ := c.ex
  cases d
  exact ⟨f, hm, fd, ps, F, kp, b⟩
end
theorem room_hu {A : Around} {k : Nat} (hr : Room k A) : A.units + 64 < cLine := hr.units
end TC
/-! The walks, 1: canonical. -/
namespace TC
open PySem PySem.Spec PyProof.Rows L2
/-- the codes one longer -/
def extC (k : Nat) (c : List Nat) : List (List Nat) := (List.range (min (TCM.used c + 1) k)).map fun m => c ++ [m]
def lev (k : Nat) : Nat → List (List Nat)
  | 0 => [[]]
  | t + 1 => (lev k t).flatMap (extC k)
theorem lev_is : ∀ n, n ≤ 5 → ∀ k, k ≤ 5 → lev k n = Km540.canonicalCodes n k := by decide +kernel
theorem lev_few : ∀ n, n ≤ 5 → ∀ k, k ≤ 5 → (lev k n).length ≤ 52 := by decide +kernel
theorem ext_few (k : Nat) (hk : k ≤ 5) (c : List Nat) : (extC k c).length ≤ 5 := by
  unfold extC
  rw [List.length_map, List.length_range]
  omega
theorem flat_few {k : Nat} (hk : k ≤ 5) : ∀ l : List (List Nat), (l.flatMap (extC k)).length ≤ 5 * l.length
  | [] => by simp
  | c :: l => by
    rw [List.flatMap_cons, List.length_append, List.length_cons]
    have := flat_few hk l
    have := ext_few k hk c
    omega
theorem lev_len : ∀ n, n ≤ 5 → ∀ k, k ≤ 5 → ∀ c ∈ lev k n, c.length ≤ 5 := by decide +kernel
theorem mx_used (c : List Nat) : mxD (-1) (c.map fun (m : Nat) => (m : Int)) + 1 = (TCM.used c : Int) := by
  have key : ∀ (l : List Nat) (a : Nat), (l.map fun (m : Nat) => (m : Int)).foldl max (a : Int) + 1 = ((l.foldl (fun a m => max a (m + 1)) (a + 1) : Nat) : Int) := by
    intro l
    induction l with
    | nil => intro a; rfl
    | cons m l ih =>
      intro a
      rw [List.map_cons, List.foldl_cons, List.foldl_cons]
      have e1 : max (a : Int) (m : Int) = ((max a m : Nat) : Int) := by omega
      have e2 : max (a + 1) (m + 1) = max a m + 1 := by omega
      rw [e1, e2]
      exact ih _
  cases c with
  | nil => rfl
  | cons m l =>
    show (l.map fun (m : Nat) => (m : Int)).foldl max (m : Int) + 1 = _
    rw [key]
    unfold TCM.used
    rw [List.foldl_cons]
    have e : max 0 (m + 1) = m + 1 := by omega
    rw [e]

abbrev nCanon : List Str := ["many", "messages", "found", "turn", "longer", "code", "fresh", "message"]
theorem scCanon : FnScope nCanon ["many", "messages"] (defScope (topS 1)) := ⟨rfl, rfl, rfl, by decide +kernel, rfl, by decide +kernel, by decide +kernel⟩
def spCanon (K : PySem.W.Frag) : Sp := fun vs H Q _ => ∃ n k : Nat, vs = [.int (n : Int), .int (k : Int)] ∧ n ≤ 5 ∧ k ≤ 5 ∧ ∀ H' v, Same H H' → CodesL K H' v (Km540.canonicalCodes n k) → Q v H'
section
variable {P : Program} {w : World} {K : PySem.W.Frag} {mg : Str → Option Value} {base : Heap}
theorem ok_canon (T : Txt mg) (D : DefAt K mg "canonical" (topS 1) ["many", "messages"]) : Cal P w K mg base 1 "canonical" (spCanon K) [] := by
  refine D.cal scCanon (fun vs H Q E h => ?_) (fun f cdv A outer s H vs Q E hr h => ⟨_, pss_cons (ps_set (i := 2) scCanon.nd rfl (.inl rfl) (pe_lst (pa_cons (pe_tup pa_nil) pa_nil)))
    (pss_cons (ps_for PassesOwn.never rfl (pi_range1 (by rfl) T.range (pa_cons (pv 0) pa_nil)) (pg_name (i := 3) scCanon.nd rfl (.inl rfl))
      (pss_cons (ps_set (i := 4) scCanon.nd rfl (.inl rfl) (pe_lst pa_nil))
      (pss_cons (ps_for PassesOwn.never rfl (pi_list (pv 2)) (pg_name (i := 5) scCanon.nd rfl (.inr rfl))
        (pss_cons (ps_set (i := 6) scCanon.nd rfl (.inl rfl) (pe_op op_add (pe_callBK (cr_maxTD rfl (room_hu hr)) (by rfl) T.max (by decide +kernel) (pa_cons (pv 5) pa_nil) (pk_cons (pe_un un_neg pe_int) pk_nil)) pe_int))
        (pss_one (ps_expr (pe_bm PySem.F.plainAttrs_list PySem.F.slot_list_extend PySem.F.type_list_extend mt_extend (pv 4) (pa_cons
          (pe_lc (own := [("message", 7)]) (g := gName 7) (tt := tYes) rfl scCanon.nd
            (pi_range1 (by rfl) T.range (pa_cons (pe_callB (call_min2 rfl) (by rfl) T.min (by decide +kernel) (pa_cons (pe_op op_add (pv 6) pe_int) (pa_cons (pv 1) pa_nil))) pa_nil))
            (blkOk_by (N := nCanon) (sc := defScope (topS 1)) (by decide +kernel)) (fun _ _ _ _ _ => pg_name (i := 7) scCanon.nd rfl (.inl rfl)) (fun _ _ _ _ _ => pts_nil)
            (fun _ _ _ _ _ => pe_op (r := rCatA K) op_catA (pv 5) (pe_tup (pa_cons (pv 7) pa_nil)))) pa_nil))))))
      (pss_one (ps_set (i := 2) scCanon.nd rfl (.inl rfl) (pv 4))))))
    (pss_one (ps_ret (pv 2)))), ?_⟩)
  · obtain ⟨n, k, rfl, _⟩ := h
    rfl
  · obtain ⟨n, k, rfl, hn, hk, q⟩ := h
    refine ⟨(by show 0 ≤ sizeLine; decide), fun p hp => ⟨(by show 1 ≤ sizeLine; decide), fun l hl => ?_⟩⟩
    have npl : p ≠ l := ne_of_none upd_same hl
    refine ⟨_, rfl, (n : Int), rfl, by omega, by omega, for_range (lo := 0) (n := (n : Int).toNat)
      (fun i σ H' => ∃ (fo : Addr) (x3 x4 x5 x6 x7 : Option V), σ = [some (.int (n : Int)), some (.int (k : Int)), some (.ref fo), x3, x4, x5, x6, x7] ∧ Same H H' ∧ CodesL K H' (.ref fo) (lev k i)) ?_ ?_ ?_⟩
    · exact ⟨l, none, none, none, none, none, rfl, (same_upd hp).trans (same_upd hl), l, [.ref p], rfl, SqL.of upd_same, .cons ⟨p, rfl, SqT.of (by rw [upd_ne npl]; exact upd_same)⟩ .nil⟩
    · rintro i σ H' hi ⟨fo, x3, x4, x5, x6, x7, rfl, sm, a, vs, ea, hsq, pr⟩
      cases ea
      have hi5 : i < 5 := by omega
      have hfew := lev_few i (by omega) k hk
      refine ⟨(by show 0 ≤ sizeLine; decide), fun L hL => ?_⟩
      refine ⟨_, rfl, fo, rfl, ⟨_, (same_upd hL).seq hsq⟩, for_list (K := K) (a := fo) (xs := vs)
        (fun j σ H2 => ∃ (y5 y6 y7 : Option V) (ys : List V), σ = [some (.int (n : Int)), some (.int (k : Int)), some (.ref fo), some (.int (0 + (i : Int))), some (.ref L), y5, y6, y7] ∧ Same H' H2 ∧ H2 L = some (.lst ys) ∧
          Paired (CodeT K H2) ys (((lev k i).take j).flatMap (extC k))) ?_ (fun j σ H2 _ ⟨_, _, _, _, _, s2, _, _⟩ => s2.seq hsq) ?_ ?_⟩
      · exact ⟨_, _, _, [], rfl, same_upd hL, upd_same, .nil⟩
      · rintro j x σ H2 hj ⟨y5, y6, y7, ys, rfl, s2, hL2, p2⟩
        obtain ⟨c, hc, ca, rfl, hct⟩ := pget pr hj
        have hct2 := sqT_keep (.of s2) hct
        refine ⟨_, rfl, 1, rfl, ca, c.map (fun (m : Nat) => (m : Int)), -1, rfl, rfl, (by rw [← intsV_map]; exact hct2), _, 1, rfl, rfl, ?_⟩
        simp only [mx_used c]
        have eif : (if (k : Int) < (TCM.used c : Int) + 1 then (k : Int) else (TCM.used c : Int) + 1) = ((min (TCM.used c + 1) k : Nat) : Int) := by split <;> omega
        have eit : (if (k : Int) < (TCM.used c : Int) + 1 then (k : Int) else (TCM.used c : Int) + 1).toNat = min (TCM.used c + 1) k := by rw [eif]; rfl
        refine ⟨_, rfl, .inl ⟨rfl, _, SqL.of hL2⟩, _, rfl, _, _, rfl, rfl, _, rfl, _, _, rfl, _, rfl, ?_, ?_, fun D hD => lc_range (lo := 0) (n := (if (k : Int) < (TCM.used c : Int) + 1 then (k : Int) else (TCM.used c : Int) + 1).toNat)
          (fun r H3 => ∃ acc : List V, H3 D = some (.lst acc) ∧ Same H2 H3 ∧ Paired (CodeT K H3) acc ((List.range r).map fun m => c ++ [m])) ?_ ?_ ?_⟩
        · rw [eif]; omega
        · rw [eif]; omega
        · exact ⟨[], upd_same, same_upd hD, .nil⟩
        · rintro r H3 hr ⟨acc, hD3, s3, p3⟩
          have hal : acc.length = r := by
            have := Paired.length p3
            rw [List.length_map, List.length_range] at this
            exact this
          have fin : ∀ (H4 : Hp) (v : V), Same H3 H4 → CodeT K H4 v (c ++ [r]) → ∃ acc' : List V, H4 D = some (.lst acc') ∧ acc'.length < sizeLine ∧
              ∃ acc : List V, (upd H4 D (.lst (acc' ++ [v]))) D = some (.lst acc) ∧ Same H2 (upd H4 D (.lst (acc' ++ [v]))) ∧ Paired (CodeT K (upd H4 D (.lst (acc' ++ [v])))) acc ((List.range (r + 1)).map fun m => c ++ [m]) := fun H4 v s4 hv => by
            have hD4 := s4 _ _ hD3
            have tk := tk_lst (o := .lst (acc ++ [v])) hD4
            refine ⟨acc, hD4, (by rw [hal, sizeLine_eq]; rw [eit] at hr; omega), acc ++ [v], upd_same, same_new (s3.trans s4) hD, ?_⟩
            rw [List.range_succ, List.map_append]
            exact paired_app (Paired.mapP p3 fun _ _ z => z.keep ((TK.of s4).trans tk)) (.cons (hv.keep tk) .nil)
          refine ⟨rfl, _, rfl, _, rfl, (by show 1 ≤ sizeLine; decide), fun p hp => ?_⟩
          have s4 : Same H3 (upd H3 p (.tup [.int (0 + (r : Int))])) := same_upd hp
          have hc4 := sqT_keep (.of (s3.trans s4)) hct2
          refine ⟨ca, p, intsV c, [.int (0 + (r : Int))], rfl, rfl, hc4, SqT.of upd_same, ?_, fun e => ?_, fun _ e => absurd e (by simp), fun _ _ q hq => ?_⟩
          · rw [intsV_len]
            have := lev_len i (by omega) k hk c (List.mem_of_getElem? hc)
            show c.length + 1 ≤ sizeLine
            rw [sizeLine_eq]
            omega
          · have e0 : c = [] := List.map_eq_nil_iff.mp e
            subst e0
            exact fin _ _ s4 ⟨p, rfl, SqT.of (by rw [Int.zero_add]; exact upd_same)⟩
          · refine fin _ _ (s4.trans (same_upd hq)) ⟨q, rfl, SqT.of ?_⟩
            have e : intsV (c ++ [r]) = intsV c ++ [.int (0 + (r : Int))] := by
              unfold intsV
              rw [List.map_append, Int.zero_add]
              all_goals rfl
            rw [e]
            exact upd_same
        · rintro H3 ⟨acc, hD3, s3, p3⟩
          rw [eit] at p3
          have hL3 := s3 _ _ hL2
          have l1 := Paired.length p2
          have l2 := Paired.length p3
          have f1 := flat_few hk ((lev k i).take j)
          have f2 : ((lev k i).take j).length ≤ (lev k i).length := List.length_take_le' j _
          refine ⟨L, D, ys, acc, rfl, rfl, hL3, hD3, ?_, _, _, _, ys ++ acc, rfl, same_new (s2.trans s3) hL, upd_same, ?_⟩
          · rw [List.length_map, List.length_range] at l2
            rw [sizeLine_eq]
            omega
          · have tk := tk_lst (o := .lst (ys ++ acc)) hL3
            rw [take_more hc, List.flatMap_append]
            refine paired_app (Paired.mapP p2 fun _ _ z => z.keep ((TK.of s3).trans tk)) ?_
            rw [List.flatMap_cons, List.flatMap_nil, List.append_nil]
            exact Paired.mapP p3 fun _ _ z => z.keep tk
      · rintro σ H2 ⟨y5, y6, y7, ys, rfl, s2, hL2, p2⟩
        rw [Paired.length pr, List.take_length] at p2
        exact ⟨_, rfl, L, _, _, _, _, _, rfl, sm.trans s2, L, ys, rfl, SqL.of hL2, p2⟩
    · rintro σ H' ⟨fo, x3, x4, x5, x6, x7, rfl, sm, cl⟩
      rw [Int.toNat_natCast, lev_is n hn k hk] at cl
      exact ⟨_, rfl, q H' _ sm cl⟩
end
end TC
/-! The walks, 2: is_good. -/
namespace TC
open PySem PySem.Spec PyProof.Rows L2
open TCM (Tv keyOf)
/-- t[i] of a list or tuple -/
def rIxA (K : PySem.W.Frag) : R2 := fun x y H Q => ∃ (a : Addr) (i : Nat) (xs : List V) (v : V), x = .ref a ∧ y = .int (i : Int) ∧ (SqL K H a xs ∨ SqT K H a xs) ∧ xs[i]? = some v ∧ Q v H
theorem ix_any {X : Cx} : IxR X (rIxA X.K) := by
  intro value slice pins s σ H x y v u Q I rx ry h hs
  obtain ⟨a, i, xs, z, rfl, rfl, hq, he, q⟩ := h
  rcases hq with hq | hq
  · exact ix_list value slice pins s σ H _ _ v u Q I rx ry ⟨a, xs, _, z, rfl, rfl, hq, atI_nat he, q⟩ hs
  · exact ix_tup value slice pins s σ H _ _ v u Q I rx ry ⟨a, xs, _, z, rfl, rfl, hq, atI_nat he, q⟩ hs
/-- what is told apart, as data -/
def tvD : Tv → PyData
  | .n k => .int (k : Int)
  | .p x y => .tuple [.int (x : Int), .int (y : Int)]
theorem tvD_dp {K : PySem.W.Frag} {H : Hp} {v : V} : ∀ {t : Tv}, TvT K H v t → Dp K H v (tvD t)
  | .n k, h => by
    have h : v = .int (k : Int) := h
    subst h
    exact .int _
  | .p x y, ⟨a, e, h⟩ => by
    subst e
    exact .tup h (.cons (.int _) (.cons (.int _) .nil))
theorem tvD_shaped : ∀ t : Tv, SeqAt.shaped (tvD t) = true
  | .n _ => rfl
  | .p _ _ => rfl
theorem tvD_eq (a b : Tv) : PyData.eqv (tvD a) (tvD b) = decide (a = b) := by
  refine TCM.bc ?_
  cases a <;> cases b <;> simp [tvD, PyData.eqv, PyData.eqvAll] <;> try omega
/-- a key of the dict: two messages -/
def kk (p : Nat × Nat) : List Key := [.inl (p.1 : Int), .inl (p.2 : Int)]
theorem kk_inj {p q : Nat × Nat} (h : kk p = kk q) : p = q := by
  unfold kk at h
  injection h with h1 h2
  injection h2 with h2 _
  injection h1 with h1
  injection h2 with h2
  exact Prod.ext (by omega) (by omega)
def look (ks : List ((Nat × Nat) × Tv)) (k : Nat × Nat) : Option Tv := (ks.find? fun e => decide (e.1 = k)).map (·.2)
def DictT (K : PySem.W.Frag) (H : Hp) (kvs : List (List Key × V)) (ks : List ((Nat × Nat) × Tv)) : Prop := Paired (fun kv e => kv.1 = kk e.1 ∧ TvT K H kv.2 e.2) kvs ks
theorem dict_look {K : PySem.W.Frag} {H : Hp} (k : Nat × Nat) : ∀ {kvs : List (List Key × V)} {ks : List ((Nat × Nat) × Tv)}, DictT K H kvs ks →
    (valV kvs (kk k) = none ∧ look ks k = none) ∨ ∃ v t, valV kvs (kk k) = some v ∧ look ks k = some t ∧ TvT K H v t
  | [], [], .nil => .inl ⟨rfl, rfl⟩
  | kv :: kvs, e :: ks, .cons ⟨h1, h2⟩ t => by
    have ih := dict_look k t
    by_cases c : e.1 = k
    · refine .inr ⟨kv.2, e.2, valV_pos (h1.trans (by rw [c])), ?_, h2⟩
      unfold look
      rw [List.find?_cons, decide_eq_true c]
      rfl
    · have c2 : ¬ kv.1 = kk k := fun z => c (kk_inj (h1.symm.trans z))
      have e2 : look (e :: ks) k = look ks k := by
        unfold look
        rw [List.find?_cons, decide_eq_false c]
      rw [valV_neg c2, e2]
      exact ih
/-- what is in the dict behind some pairs -/
structure PInv (val : Nat × Nat → Tv) (c d : List Nat) (ks : List ((Nat × Nat) × Tv)) (l : List (Nat × Nat)) : Prop where
  has : ∀ p ∈ l, look ks (keyOf c d p) = some (val p)
  from_ : ∀ k t, look ks k = some t → ∃ p ∈ l, keyOf c d p = k ∧ val p = t
  len : ks.length ≤ l.length
theorem PInv.same {val : Nat × Nat → Tv} {c d : List Nat} {ks : List ((Nat × Nat) × Tv)} {l : List (Nat × Nat)} (h : PInv val c d ks l) {p : Nat × Nat} (e : look ks (keyOf c d p) = some (val p)) : PInv val c d ks (l ++ [p]) := by
  refine ⟨fun q hq => ?_, fun k t hk => ?_, by rw [List.length_append]; exact Nat.le_trans h.len (Nat.le_add_right _ _)⟩
  · rcases List.mem_append.mp hq with hq | hq
    · exact h.has q hq
    · rw [List.mem_singleton.mp hq]; exact e
  · obtain ⟨q, hq, r⟩ := h.from_ k t hk
    exact ⟨q, List.mem_append_left _ hq, r⟩
theorem look_snoc (k j : Nat × Nat) (t : Tv) : ∀ ks : List ((Nat × Nat) × Tv), look ks k = none → look (ks ++ [(k, t)]) j = if j = k then some t else look ks j
  | [], _ => by
    unfold look
    by_cases e : j = k
    · subst e; simp
    · have e2 : ¬ k = j := fun z => e z.symm
      simp [e, e2]
  | e :: ks, hn => by
    have hk : ¬ e.1 = k := fun z => by unfold look at hn; rw [List.find?_cons, decide_eq_true z] at hn; cases hn
    have hn2 : look ks k = none := by unfold look at hn; rw [List.find?_cons, decide_eq_false hk] at hn; exact hn
    have ih := look_snoc k j t ks hn2
    by_cases c : e.1 = j
    · have e3 : look (e :: ks ++ [(k, t)]) j = some e.2 := by unfold look; rw [List.cons_append, List.find?_cons, decide_eq_true c]; rfl
      have e4 : look (e :: ks) j = some e.2 := by unfold look; rw [List.find?_cons, decide_eq_true c]; rfl
      rw [e3, e4, if_neg (fun z => hk (c.trans z))]
    · have e3 : look (e :: ks ++ [(k, t)]) j = look (ks ++ [(k, t)]) j := by unfold look; rw [List.cons_append, List.find?_cons, decide_eq_false c]
      have e4 : look (e :: ks) j = look ks j := by unfold look; rw [List.find?_cons, decide_eq_false c]
      rw [e3, e4, ih]
theorem PInv.more {val : Nat × Nat → Tv} {c d : List Nat} {ks : List ((Nat × Nat) × Tv)} {l : List (Nat × Nat)} (h : PInv val c d ks l) {p : Nat × Nat} (e : look ks (keyOf c d p) = none) : PInv val c d (ks ++ [(keyOf c d p, val p)]) (l ++ [p]) := by
  refine ⟨fun q hq => ?_, fun k t hk => ?_, by rw [List.length_append, List.length_append]; exact Nat.add_le_add h.len (Nat.le_refl _)⟩
  · rw [look_snoc _ _ _ _ e]
    rcases List.mem_append.mp hq with hq | hq
    · have hh := h.has q hq
      rw [if_neg (fun z => by rw [z, e] at hh; cases hh)]
      exact hh
    · rw [List.mem_singleton.mp hq, if_pos rfl]
  · rw [look_snoc _ _ _ _ e] at hk
    by_cases z : k = keyOf c d p
    · rw [if_pos z] at hk
      exact ⟨p, List.mem_append_right _ (List.mem_singleton.mpr rfl), z.symm, Option.some.inj hk⟩
    · rw [if_neg z] at hk
      obtain ⟨q, hq, r⟩ := h.from_ k t hk
      exact ⟨q, List.mem_append_left _ hq, r⟩
theorem PInv.good {val : Nat × Nat → Tv} {c d : List Nat} {ks : List ((Nat × Nat) × Tv)} {l : List (Nat × Nat)} (h : PInv val c d ks l) : TCM.goodB l val c d = true := by
  refine TCM.good_iff.mpr fun p hp q hq e => ?_
  have h1 := h.has p hp
  have h2 := h.has q hq
  rw [e, h1] at h2
  exact (Option.some.inj h2).symm

abbrev nGood : List Str := ["pairs", "values", "codes", "told", "at", "x", "y", "key"]
theorem scGood : FnScope nGood ["pairs", "values", "codes"] (defScope (topS 4)) := ⟨rfl, rfl, rfl, by decide +kernel, rfl, by decide +kernel, by decide +kernel⟩
/-- what is handed in to the searches: pairs, what is told apart of each, two codes that reach -/
structure Given (K : PySem.W.Frag) (H : Hp) (vp vt : V) (ps : List (Nat × Nat)) (val : Nat × Nat → Tv) : Prop where
  pairs : PairsL K H vp ps
  vals : ValsL K H vt (ps.map val)
  few : ps.length ≤ 25
theorem Given.same {K : PySem.W.Frag} {H H' : Hp} {vp vt : V} {ps : List (Nat × Nat)} {val : Nat × Nat → Tv} (g : Given K H vp vt ps val) (s : Same H H') : Given K H' vp vt ps val := ⟨pairsL_same s g.pairs, valsL_same s g.vals, g.few⟩
def Reach (ps : List (Nat × Nat)) (c d : List Nat) : Prop := ∀ p ∈ ps, p.1 < c.length ∧ p.2 < d.length
def spGood (K : PySem.W.Frag) : Sp := fun vs H Q _ => ∃ (vp vt vc : V) (ps : List (Nat × Nat)) (val : Nat × Nat → Tv) (c d : List Nat), vs = [vp, vt, vc] ∧ Given K H vp vt ps val ∧ CodesA K H vc c d ∧ Reach ps c d ∧
  ∀ H', Same H H' → Q (.bl (TCM.goodB ps val c d)) H'
section
variable {P : Program} {w : World} {K : PySem.W.Frag} {mg : Str → Option Value} {base : Heap}
theorem ok_good (T : Txt mg) (D : DefAt K mg "is_good" (topS 4) ["pairs", "values", "codes"]) : Cal P w K mg base 1 "is_good" (spGood K) [] := by
  refine D.cal scGood (fun vs H Q E h => ?_) (fun f cdv A outer s H vs Q E hr h => ⟨_, pss_cons (ps_set (i := 3) scGood.nd rfl (.inl rfl) pe_dnewT)
    (pss_cons (ps_for PassesOwn.never rfl (pi_enum (by rfl) T.enumerate (pa_cons (pv 0) pa_nil))
        (pg_tup rfl (pgs_cons (pg_name (i := 4) scGood.nd rfl (.inl rfl)) (pgs_cons (pg_tup rfl (pgs_cons (pg_name (i := 5) scGood.nd rfl (.inl rfl)) (pgs_cons (pg_name (i := 6) scGood.nd rfl (.inl rfl)) pgs_nil))) pgs_nil)))
      (pss_cons (ps_set (i := 7) scGood.nd rfl (.inl rfl) (pe_tup (pa_cons (pe_ix ix_any (pe_ix ix_any (pv 2) pe_int (fun _ _ => rfl)) (pv 5) (fun _ _ => rfl)) (pa_cons (pe_ix ix_any (pe_ix ix_any (pv 2) pe_int (fun _ _ => rfl)) (pv 6) (fun _ _ => rfl)) pa_nil))))
      (pss_one (ps_if (pt_cmpR (op_neD (room_hu hr)) (pe_dsetdT (hu_of hr) (pv 3) (pv 7) (pe_ix ix_any (pv 1) (pv 4) (fun _ _ => rfl)) ⟨rfl, rfl, rfl, rfl⟩) (pe_ix ix_any (pv 1) (pv 4) (fun _ _ => rfl)) (nomark _)) (pss_one (ps_ret pe_bl)) pss_nil))))
    (pss_one (ps_ret pe_bl))), ?_⟩)
  · obtain ⟨vp, vt, vc, ps, val, c, d, rfl, _⟩ := h
    rfl
  · obtain ⟨vp, vt, vc, ps, val, c, d, rfl, g, hc, hre, q⟩ := h
    obtain ⟨⟨pa, pvs, rfl, hpa, pp⟩, ⟨ta, tvs, rfl, hta, tt⟩, few⟩ := g
    obtain ⟨ca, c1, c2, rfl, hca, ⟨c1a, rfl, hc1⟩, ⟨c2a, rfl, hc2⟩⟩ := hc
    have lp := Paired.length pp
    refine fun dd hdd => ?_
    refine ⟨_, rfl, pa, pvs, rfl, (same_upd hdd).seq hpa, for_it walk_enum (fun i σ H' => ∃ (x4 x5 x6 x7 : Option V) (kvs : List (List Key × V)) (ks : List ((Nat × Nat) × Tv)), σ = [some (.ref pa), some (.ref ta), some (.ref ca), some (.ref dd), x4, x5, x6, x7] ∧ Same H H' ∧
      H' dd = some (.dT kvs) ∧ DictT K H' kvs ks ∧ PInv val c d ks (ps.take i)) ?_ (fun i σ H' _ ⟨_, _, _, _, _, _, _, sm, _⟩ => sm.seq hpa) ?_ ?_⟩
    · exact ⟨_, _, _, _, [], [], rfl, same_upd hdd, upd_same, .nil, ⟨fun p hp => absurd hp (by simp), fun k t hk => (nomatch hk), Nat.le_refl _⟩⟩
    · rintro i x σ H1 H1' hi ⟨x4, x5, x6, x7, kvs, ks, rfl, sm, hd1, dt, pin⟩ ⟨T0, xi, xp, rfl, hT0, rfl, exi, exp_⟩
      cases exi
      obtain ⟨p, hp, pq, rfl, hpq⟩ := pget pp exp_
      have sm1 := same_then (o := .tup [.int ((i : Nat) : Int), .ref pq]) sm hT0
      have hp2 : ps.map val = ps.map val := rfl
      have htv : (ps.map val)[i]? = some (val p) := by rw [List.getElem?_map, hp]; rfl
      obtain ⟨tv, etv, htt⟩ := pget2 tt htv
      have hr1 := hre p (List.mem_of_getElem? hp)
      have sq : ∀ {H2 : Hp} {a : Addr} {xs : List V}, Same H H2 → (SqL K H a xs ∨ SqT K H a xs) → (SqL K H2 a xs ∨ SqT K H2 a xs) := fun s h => h.elim (fun h => .inl (s.seq h)) fun h => .inr (sqT_keep (.of s) h)
      refine ⟨T0, _, rfl, SqT.of upd_same, rfl, _, _, rfl, _, _, rfl, ⟨pq, _, rfl, sqT_keep (.of sm1) hpq, rfl, _, _, rfl, _, _, rfl, rfl, ?_⟩⟩
      refine ⟨rfl, ?_⟩
      refine ⟨_, rfl, ca, 0, _, _, rfl, rfl, sq sm1 hca, rfl, _, rfl, c1a, p.1, _, _, rfl, rfl, sq sm1 hc1, intsV_at hr1.1, _, rfl, ca, 1, _, _, rfl, rfl, sq sm1 hca, rfl, _, rfl, c2a, p.2, _, _, rfl, rfl, sq sm1 hc2, intsV_at hr1.2, (by show 2 ≤ sizeLine; decide), fun kp hkp => ?_⟩
      have s2 := same_then (o := .tup [.int ((c.getD p.1 0 : Nat) : Int), .int ((d.getD p.2 0 : Nat) : Int)]) sm1 hkp
      have s12 : Same H1 _ := same_then (o := .tup [.int ((c.getD p.1 0 : Nat) : Int), .int ((d.getD p.2 0 : Nat) : Int)]) (same_upd (o := .tup [.int ((i : Nat) : Int), .ref pq]) hT0) hkp
      have hd2 := s12 _ _ hd1
      have tv2 := htt.keep (.of s2)
      have hlen : kvs.length ≤ 25 := by
        have a1 := Paired.length dt
        have a2 := pin.len
        have a3 : (ps.take i).length ≤ ps.length := List.length_take_le' i _
        omega
      have tks := take_more hp
      have il : i < ps.length := (List.getElem?_eq_some_iff.mp hp).1
      refine ⟨_, rfl, dd, rfl, .inr ⟨kvs, .inl hd2⟩, _, rfl, _, rfl, _, rfl, ta, i, tvs, tv, rfl, rfl, .inl (s2.seq hta), etv, kvs, kk (keyOf c d p), kp, hd2, rfl, upd_same, (by rw [sizeLine_eq]; omega), fun v hv => ?_, fun hv => ?_⟩
      · rcases dict_look (keyOf c d p) dt with ⟨e, _⟩ | ⟨v', t, e1, e2, e3⟩
        · rw [e] at hv; cases hv
        · rw [e1] at hv
          cases hv
          refine ⟨_, rfl, _, rfl, ta, i, tvs, tv, rfl, rfl, .inl (s2.seq hta), etv, tvD t, tvD (val p), tvD_dp (e3.keep (.of s12)), tvD_dp tv2, tvD_shaped _, tvD_shaped _, _, rfl, ?_⟩
          rw [tvD_eq]
          by_cases ct : t = val p
          · rw [decide_eq_true ct]
            exact ⟨_, _, _, _, kvs, ks, rfl, s2, hd2, Paired.mapP dt fun _ _ z => ⟨z.1, z.2.keep (.of s12)⟩, by rw [tks]; exact pin.same (by rw [e2, ct])⟩
          · rw [decide_eq_false ct]
            have gf : TCM.goodB ps val c d = false := by
              cases gb : TCM.goodB ps val c d with
              | false => rfl
              | true =>
                obtain ⟨p0, hp0, k0, v0⟩ := pin.from_ _ _ e2
                have := TCM.good_iff.mp gb p (List.mem_of_getElem? hp) p0 (List.mem_of_mem_take hp0) k0
                rw [v0] at this
                exact absurd this ct
            have fin := q _ s2
            rw [gf] at fin
            exact fin
      · rcases dict_look (keyOf c d p) dt with ⟨e, e2⟩ | ⟨v', t, e1, _⟩
        · have tk := tk_dT (o := .dT (putK kvs (kk (keyOf c d p)) tv)) hd2
          have s3 : Same H (upd (upd (upd H1 T0 (.tup [.int ((i : Nat) : Int), .ref pq])) kp (.tup [.int ((c.getD p.1 0 : Nat) : Int), .int ((d.getD p.2 0 : Nat) : Int)])) dd (.dT (putK kvs (kk (keyOf c d p)) tv))) := same_new s2 hdd
          refine ⟨_, rfl, _, rfl, ta, i, tvs, tv, rfl, rfl, .inl (s3.seq hta), etv, tvD (val p), tvD (val p), tvD_dp (tv2.keep tk), tvD_dp (tv2.keep tk), tvD_shaped _, tvD_shaped _, _, rfl, ?_⟩
          rw [tvD_eq, decide_eq_true rfl]
          refine ⟨_, _, _, _, _, ks ++ [(keyOf c d p, val p)], rfl, s3, upd_same, ?_, by rw [tks]; exact pin.more e2⟩
          rw [putK_new tv e]
          exact paired_app (Paired.mapP dt fun _ _ z => ⟨z.1, z.2.keep ((TK.of s12).trans (by rw [putK_new tv e] at tk; exact tk))⟩) (.cons ⟨rfl, tv2.keep (by rw [putK_new tv e] at tk; exact tk)⟩ .nil)
        · rw [e1] at hv; cases hv
    · rintro σ H1 ⟨x4, x5, x6, x7, kvs, ks, rfl, sm, hd1, dt, pin⟩
      rw [lp, List.take_length] at pin
      have fin := q _ sm
      rw [pin.good] at fin
      exact fin
end
end TC
/-! The walks, 3: clash_at, first_clash. -/
namespace TC
open PySem PySem.Spec PyProof.Rows L2
open TCM (Tv keyOf)
theorem idx_some {α : Type} {f : α → Bool} : ∀ {l : List α} {j : Nat} {q : α}, (∀ p ∈ l.take j, f p = false) → l[j]? = some q → f q = true → l.findIdx? f = some j
  | [], j, q, _, h, _ => by simp at h
  | x :: l, 0, q, _, h, hq => by
    have e : x = q := by simpa using h
    subst e
    rw [List.findIdx?_cons, hq]
    rfl
  | x :: l, j + 1, q, hn, h, hq => by
    have h0 : f x = false := hn x (by simp)
    have ih := idx_some (l := l) (j := j) (q := q) (fun p hp => hn p (by simp [hp])) (by simpa using h) hq
    rw [List.findIdx?_cons, h0, ih]
    rfl
theorem some_at {α β : Type} {g : α → Option β} {b : β} : ∀ {l : List α} {j : Nat} {q : α}, (∀ p ∈ l.take j, g p = none) → l[j]? = some q → g q = some b → l.findSome? g = some b
  | [], j, q, _, h, _ => by simp at h
  | x :: l, 0, q, _, h, hq => by
    have e : x = q := by simpa using h
    subst e
    rw [List.findSome?_cons, hq]
  | x :: l, j + 1, q, hn, h, hq => by
    have h0 : g x = none := hn x (by simp)
    have ih := some_at (l := l) (j := j) (q := q) (fun p hp => hn p (by simp [hp])) (by simpa using h) hq
    rw [List.findSome?_cons, h0, ih]
theorem some_range_at {β : Type} {g : Nat → Option β} {b : β} {n i : Nat} (hi : i < n) (hn : ∀ j, j < i → g j = none) (h : g i = some b) : (List.range n).findSome? g = some b := by
  refine some_at (j := i) (q := i) (fun p hp => hn p ?_) (List.getElem?_range hi) h
  rw [List.take_range] at hp
  have := List.mem_range.mp hp
  omega
def intOr (o : Option Nat) : Int := match o with
  | some j => (j : Int)
  | none => -1
abbrev nClash : List Str := ["pairs", "values", "codes", "at", "x", "y", "place", "other_x", "other_y"]
theorem scClash : FnScope nClash ["pairs", "values", "codes", "at"] (defScope (topS 2)) := ⟨rfl, rfl, rfl, by decide +kernel, rfl, by decide +kernel, by decide +kernel⟩
def spClash (K : PySem.W.Frag) : Sp := fun vs H Q _ => ∃ (vp vt vc : V) (ps : List (Nat × Nat)) (val : Nat × Nat → Tv) (c d : List Nat) (i : Nat), vs = [vp, vt, vc, .int (i : Int)] ∧ Given K H vp vt ps val ∧ CodesA K H vc c d ∧ Reach ps c d ∧ i < ps.length ∧
  ∀ H', Same H H' → Q (.int (intOr (TCM.clashAt ps val c d i))) H'
abbrev nFirstClash : List Str := ["pairs", "values", "codes", "at", "place"]
theorem scFirstClash : FnScope nFirstClash ["pairs", "values", "codes"] (defScope (topS 3)) := ⟨rfl, rfl, rfl, by decide +kernel, rfl, by decide +kernel, by decide +kernel⟩
def two (o : Option (Nat × Nat)) : List Nat := match o with
  | some (i, j) => [i, j]
  | none => []
def spFirstClash (K : PySem.W.Frag) : Sp := fun vs H Q _ => ∃ (vp vt vc : V) (ps : List (Nat × Nat)) (val : Nat × Nat → Tv) (c d : List Nat), vs = [vp, vt, vc] ∧ Given K H vp vt ps val ∧ CodesA K H vc c d ∧ Reach ps c d ∧
  ∀ H' a, Same H H' → SqL K H' a (intsV (two (TCM.firstIdx ps val c d))) → Q (.ref a) H'
theorem sq_same {K : PySem.W.Frag} {H H2 : Hp} {a : Addr} {xs : List V} (s : Same H H2) (h : SqL K H a xs ∨ SqT K H a xs) : SqL K H2 a xs ∨ SqT K H2 a xs := h.elim (fun h => .inl (s.seq h)) fun h => .inr (sqT_keep (.of s) h)
section
variable {P : Program} {w : World} {K : PySem.W.Frag} {mg : Str → Option Value} {base : Heap}
theorem ok_clash (T : Txt mg) (D : DefAt K mg "clash_at" (topS 2) ["pairs", "values", "codes", "at"]) : Cal P w K mg base 1 "clash_at" (spClash K) [] := by
  refine D.cal scClash (fun vs H Q E h => ?_) (fun f cdv A outer s H vs Q E hr h => ⟨_, pss_cons (ps_asg (pe_ix ix_any (pv 0) (pv 3) (fun _ _ => rfl)) (pg_tup rfl (pgs_cons (pg_name (i := 4) scClash.nd rfl (.inl rfl)) (pgs_cons (pg_name (i := 5) scClash.nd rfl (.inl rfl)) pgs_nil))))
    (pss_cons (ps_for PassesOwn.never rfl (pi_enum (by rfl) T.enumerate (pa_cons (pv 0) pa_nil))
        (pg_tup rfl (pgs_cons (pg_name (i := 6) scClash.nd rfl (.inl rfl)) (pgs_cons (pg_tup rfl (pgs_cons (pg_name (i := 7) scClash.nd rfl (.inl rfl)) (pgs_cons (pg_name (i := 8) scClash.nd rfl (.inl rfl)) pgs_nil))) pgs_nil)))
      (pss_one (ps_if (PW.pt (pw_and
            (pt_cmp (pc_eqI (pe_ix ix_any (pe_ix ix_any (pv 2) pe_int (fun _ _ => rfl)) (pv 7) (fun _ _ => rfl)) (pe_ix ix_any (pe_ix ix_any (pv 2) pe_int (fun _ _ => rfl)) (pv 4) (fun _ _ => rfl))))
            (pw_and1 (pt_cmp (pc_eqI (pe_ix ix_any (pe_ix ix_any (pv 2) pe_int (fun _ _ => rfl)) (pv 8) (fun _ _ => rfl)) (pe_ix ix_any (pe_ix ix_any (pv 2) pe_int (fun _ _ => rfl)) (pv 5) (fun _ _ => rfl)))))))
          (pss_one (ps_if (pt_cmpR (op_neD (room_hu hr)) (pe_ix ix_any (pv 1) (pv 6) (fun _ _ => rfl)) (pe_ix ix_any (pv 1) (pv 3) (fun _ _ => rfl)) (nomark _)) (pss_one (ps_ret (pv 6))) pss_nil)) pss_nil)))
    (pss_one (ps_ret (pe_un un_neg pe_int)))), ?_⟩)
  · obtain ⟨vp, vt, vc, ps, val, c, d, i, rfl, _⟩ := h
    rfl
  · obtain ⟨vp, vt, vc, ps, val, c, d, i, rfl, g, hc, hre, hi, q⟩ := h
    obtain ⟨⟨pa, pvs, rfl, hpa, pp⟩, ⟨ta, tvs, rfl, hta, tt⟩, few⟩ := g
    obtain ⟨ca, c1, c2, rfl, hca, ⟨c1a, rfl, hc1⟩, ⟨c2a, rfl, hc2⟩⟩ := hc
    have lp := Paired.length pp
    have hpi : ps[i]? = some (ps.getD i (0, 0)) := by rw [List.getD_eq_getElem?_getD, List.getElem?_eq_getElem hi]; rfl
    obtain ⟨xi, exi, pqi, rfl, hpqi⟩ := pget2 pp hpi
    have hri := hre _ (List.mem_of_getElem? hpi)
    have hvi : (ps.map val)[i]? = some (val (ps.getD i (0, 0))) := by rw [List.getElem?_map, hpi]; rfl
    obtain ⟨tvi, etvi, htti⟩ := pget2 tt hvi
    generalize hP : ps.getD i (0, 0) = p at *
    refine ⟨_, rfl, _, rfl, pa, i, pvs, _, rfl, rfl, .inl hpa, exi, pqi, _, rfl, hpqi, rfl, _, _, rfl, _, _, rfl, rfl, ?_⟩
    refine ⟨_, rfl, pa, pvs, rfl, hpa, for_it walk_enum (fun j σ H' => ∃ (x6 x7 x8 : Option V), σ = [some (.ref pa), some (.ref ta), some (.ref ca), some (.int (i : Int)), some (.int (p.1 : Int)), some (.int (p.2 : Int)), x6, x7, x8] ∧ Same H H' ∧
      ∀ q ∈ ps.take j, TCM.clash val c d p q = false) ?_ (fun i σ H' _ ⟨_, _, _, _, sm, _⟩ => sm.seq hpa) ?_ ?_⟩
    · exact ⟨_, _, _, rfl, Same.refl H, fun q hq => absurd hq (by simp)⟩
    · rintro j x σ H1 H1' hj ⟨x6, x7, x8, rfl, sm, no⟩ ⟨T0, xj, xp, rfl, hT0, rfl, exj, exp_⟩
      cases exj
      obtain ⟨r, hr', pq, rfl, hpq⟩ := pget pp exp_
      have sm1 := same_then (o := .tup [.int ((j : Nat) : Int), .ref pq]) sm hT0
      have htv : (ps.map val)[j]? = some (val r) := by rw [List.getElem?_map, hr']; rfl
      obtain ⟨tv, etv, htt⟩ := pget2 tt htv
      have hr1 := hre r (List.mem_of_getElem? hr')
      have tks := take_more hr'
      have next : TCM.clash val c d p r = false → ∀ q ∈ ps.take (j + 1), TCM.clash val c d p q = false := fun e q hq => by
        rw [tks] at hq
        rcases List.mem_append.mp hq with hq | hq
        · exact no q hq
        · rw [List.mem_singleton.mp hq]; exact e
      refine ⟨T0, _, rfl, SqT.of upd_same, rfl, _, _, rfl, _, _, rfl, ⟨pq, _, rfl, sqT_keep (.of sm1) hpq, rfl, _, _, rfl, _, _, rfl, rfl, ?_⟩⟩
      refine ⟨rfl, ?_⟩
      refine ⟨_, rfl, ca, 0, _, _, rfl, rfl, sq_same sm1 hca, rfl, _, rfl, c1a, r.1, _, _, rfl, rfl, sq_same sm1 hc1, intsV_at hr1.1, _, rfl, ca, 0, _, _, rfl, rfl, sq_same sm1 hca, rfl, _, rfl, c1a, p.1, _, _, rfl, rfl, sq_same sm1 hc1, intsV_at hri.1, _, _, rfl, rfl, decide (((c.getD r.1 0 : Nat) : Int) = ((c.getD p.1 0 : Nat) : Int)), rfl, ?_⟩
      show if decide (((c.getD r.1 0 : Nat) : Int) = ((c.getD p.1 0 : Nat) : Int)) = true then _ else _
      have nokey : ¬ keyOf c d r = keyOf c d p → TCM.clash val c d p r = false := fun e => by
        unfold TCM.clash
        rw [decide_eq_false e, Bool.false_and]
      by_cases k1 : ((c.getD r.1 0 : Nat) : Int) = ((c.getD p.1 0 : Nat) : Int)
      · rw [decide_eq_true k1]
        refine iteT ?_
        refine ⟨_, rfl, ca, 1, _, _, rfl, rfl, sq_same sm1 hca, rfl, _, rfl, c2a, r.2, _, _, rfl, rfl, sq_same sm1 hc2, intsV_at hr1.2, _, rfl, ca, 1, _, _, rfl, rfl, sq_same sm1 hca, rfl, _, rfl, c2a, p.2, _, _, rfl, rfl, sq_same sm1 hc2, intsV_at hri.2, _, _, rfl, rfl, decide (((d.getD r.2 0 : Nat) : Int) = ((d.getD p.2 0 : Nat) : Int)), rfl, ?_⟩
        show if decide (((d.getD r.2 0 : Nat) : Int) = ((d.getD p.2 0 : Nat) : Int)) = true then _ else _
        by_cases k2 : ((d.getD r.2 0 : Nat) : Int) = ((d.getD p.2 0 : Nat) : Int)
        · rw [decide_eq_true k2]
          refine iteT ?_
          have ke : keyOf c d r = keyOf c d p := Prod.ext (by show c.getD r.1 0 = c.getD p.1 0; omega) (by show d.getD r.2 0 = d.getD p.2 0; omega)
          refine ⟨_, rfl, _, rfl, ta, j, tvs, tv, rfl, rfl, .inl (sm1.seq hta), etv, _, rfl, _, rfl, ta, i, tvs, tvi, rfl, rfl, .inl (sm1.seq hta), etvi, tvD (val r), tvD (val p), tvD_dp (htt.keep (.of sm1)), tvD_dp (htti.keep (.of sm1)), tvD_shaped _, tvD_shaped _, _, rfl, ?_⟩
          rw [tvD_eq]
          by_cases ve : val r = val p
          · rw [decide_eq_true ve]
            refine ⟨_, _, _, rfl, sm1, next ?_⟩
            unfold TCM.clash
            rw [decide_eq_true ke, decide_eq_false (fun z : val r ≠ val p => z ve)]
            all_goals rfl
          · rw [decide_eq_false ve]
            have cl : TCM.clashAt ps val c d i = some j := by
              unfold TCM.clashAt
              rw [hP]
              refine idx_some no hr' ?_
              unfold TCM.clash
              rw [decide_eq_true ke, decide_eq_true ve]
              rfl
            have fin := q _ sm1
            rw [cl] at fin
            exact ⟨_, rfl, fin⟩
        · rw [decide_eq_false k2]
          refine iteF ?_
          exact ⟨_, _, _, rfl, sm1, next (nokey fun e => k2 (by have e3 : d.getD r.2 0 = d.getD p.2 0 := congrArg Prod.snd e; rw [e3]))⟩
      · rw [decide_eq_false k1]
        refine iteF ?_
        exact iteF ⟨_, _, _, rfl, sm1, next (nokey fun e => k1 (by have e3 : c.getD r.1 0 = c.getD p.1 0 := congrArg Prod.fst e; rw [e3]))⟩
    · rintro σ H1 ⟨x6, x7, x8, rfl, sm, no⟩
      rw [lp, List.take_length] at no
      have cl : TCM.clashAt ps val c d i = none := by
        unfold TCM.clashAt
        rw [hP]
        exact List.findIdx?_eq_none_iff.mpr no
      have fin := q _ sm
      rw [cl] at fin
      exact ⟨1, rfl, fin⟩
theorem ok_firstClash (T : Txt mg) (D : DefAt K mg "first_clash" (topS 3) ["pairs", "values", "codes"]) (c1 : Cal P w K mg base 1 "clash_at" (spClash K) []) : Cal P w K mg base 2 "first_clash" (spFirstClash K) [] := by
  refine D.cal scFirstClash (fun vs H Q E h => ?_) (fun f cdv A outer s H vs Q E hr h => ⟨_, pss_cons (ps_for PassesOwn.never rfl (pi_range1 (by rfl) T.range (pa_cons (pe_callB call_len_seq (by rfl) T.len PySem.boot_len (pa_cons (pv 0) pa_nil)) pa_nil)) (pg_name (i := 3) scFirstClash.nd rfl (.inl rfl))
      (pss_cons (ps_set (i := 4) scFirstClash.nd rfl (.inl rfl) (C8.pe_c c1 hr (Nat.le_refl _) (by rfl) (pa_cons (pv 0) (pa_cons (pv 1) (pa_cons (pv 2) (pa_cons (pv 3) pa_nil))))))
      (pss_one (ps_if (pt_cmpR op_ge (pv 4) pe_int (nomark _)) (pss_one (ps_ret (pe_lst (pa_cons (pv 3) (pa_cons (pv 4) pa_nil))))) pss_nil))))
    (pss_one (ps_ret (pe_lst pa_nil))), ?_⟩)
  · obtain ⟨vp, vt, vc, ps, val, c, d, rfl, _⟩ := h
    rfl
  · obtain ⟨vp, vt, vc, ps, val, c, d, rfl, g, hc, hre, q⟩ := h
    obtain ⟨pa, pvs, rfl, hpa, pp⟩ := id g.pairs
    have lp := Paired.length pp
    have few := g.few
    refine ⟨_, rfl, pa, pvs, rfl, .inl hpa, _, rfl, ?_, ?_, for_range (lo := 0) (n := ((pvs.length : Nat) : Int).toNat) (fun i σ H' => ∃ (x3 x4 : Option V), σ = [some (.ref pa), some vt, some vc, x3, x4] ∧ Same H H' ∧ ∀ j, j < i → TCM.clashAt ps val c d j = none) ?_ ?_ ?_⟩
    · omega
    · omega
    · exact ⟨_, _, rfl, Same.refl H, fun j hj => absurd hj (Nat.not_lt_zero j)⟩
    · rintro i σ H1 hi ⟨x3, x4, rfl, sm, no⟩
      have hi' : i < ps.length := by omega
      refine ⟨_, rfl, _, rfl, _, rfl, _, rfl, .ref pa, vt, vc, ps, val, c, d, i, by rw [Int.zero_add]; rfl, g.same sm, hc.same sm, hre, hi', fun H2 s2 => ?_⟩
      refine ⟨_, rfl, _, _, rfl, rfl, _, rfl, ?_⟩
      cases e : TCM.clashAt ps val c d i with
      | none =>
        refine iteF ?_
        refine ⟨_, _, rfl, sm.trans s2, fun j hj => ?_⟩
        by_cases z : j = i
        · rw [z]; exact e
        · exact no j (by omega)
      | some j =>
        have nn : decide ((0 : Int) ≤ intOr (some j)) = true := decide_eq_true (by show (0 : Int) ≤ (j : Int); omega)
        rw [nn]
        refine iteT ?_
        refine ⟨_, rfl, _, rfl, (by show 2 ≤ sizeLine; decide), fun p hp => q _ p (same_then (sm.trans s2) hp) ?_⟩
        have e2 : TCM.firstIdx ps val c d = some (i, j) := some_range_at hi' (fun k hk => by rw [no k hk]; rfl) (by rw [e]; rfl)
        rw [e2]
        exact SqL.of (by rw [upd_same, Int.zero_add]; rfl)
    · rintro σ H1 ⟨x3, x4, rfl, sm, no⟩
      refine ⟨(by show 0 ≤ sizeLine; decide), fun p hp => q _ p (same_then sm hp) ?_⟩
      have e2 : TCM.firstIdx ps val c d = none := by
        refine List.findSome?_eq_none_iff.mpr fun j hj => ?_
        rw [no j (by have := List.mem_range.mp hj; omega)]
        rfl
      rw [e2]
      exact SqL.of upd_same
end
end TC
/-! The walks, 4: fewest_with, fewest_for, first_codes. -/
namespace TC
open PySem PySem.Spec PyProof.Rows L2
open TCM (Tv)
/-! ### tests whose parts are known -/
theorem tOr_of {t u : TT} {σ : L2.St} {H : Hp} {Q : Bool → Hp → Prop} (c1 c2 : Bool) (h1 : ∀ Q : Bool → Hp → Prop, Q c1 H → t σ H Q) (h2 : ∀ Q : Bool → Hp → Prop, Q c2 H → u σ H Q) (h : Q (c1 || c2) H) : tOr t u σ H Q := by
  refine h1 _ ?_
  cases c1 with
  | true => exact iteT h
  | false => exact iteF (h2 _ h)
theorem tAnd_of {t u : TT} {σ : L2.St} {H : Hp} {Q : Bool → Hp → Prop} (c1 : Bool) (h1 : ∀ Q : Bool → Hp → Prop, Q c1 H → t σ H Q) (h2 : c1 = true → u σ H Q) (h3 : c1 = false → Q false H) : tAnd t u σ H Q := by
  refine h1 _ ?_
  cases c1 with
  | true => exact iteT (h2 rfl)
  | false => exact iteF (h3 rfl)
theorem mx_cons (m : Nat) (r : List Nat) : (r.map fun (m : Nat) => (m : Int)).foldl max (m : Int) + 1 = (TCM.used (m :: r) : Int) := mx_used (m :: r)
theorem dec_nat0 (b : Nat) : decide ((b : Int) = 0) = (b == 0) := by
  refine TCM.bc ?_
  simp
theorem dec_lt (a b : Nat) : decide ((a : Int) < (b : Int)) = decide (a < b) := by
  refine TCM.bc ?_
  simp
abbrev nWith : List Str := ["pairs", "values", "code", "many", "best", "other", "used"]
theorem scWith : FnScope nWith ["pairs", "values", "code", "many"] (defScope (topS 5)) := ⟨rfl, rfl, rfl, by decide +kernel, rfl, by decide +kernel, by decide +kernel⟩
def spWith (K : PySem.W.Frag) : Sp := fun vs H Q _ => ∃ (vp vt vc : V) (ps : List (Nat × Nat)) (val : Nat × Nat → Tv) (c : List Nat) (n : Nat), vs = [vp, vt, vc, .int (n : Int)] ∧ Given K H vp vt ps val ∧ CodeA K H vc c ∧ 1 ≤ n ∧ n ≤ 5 ∧ (∀ p ∈ ps, p.1 < c.length ∧ p.2 < n) ∧
  ∀ H', Same H H' → Q (.int ((TCM.fewestWith ps val c n : Nat) : Int)) H'
abbrev nFor : List Str := ["pairs", "values", "counts", "messages", "best", "code", "used"]
theorem scFor : FnScope nFor ["pairs", "values", "counts", "messages"] (defScope (topS 6)) := ⟨rfl, rfl, rfl, by decide +kernel, rfl, by decide +kernel, by decide +kernel⟩
def spFor (K : PySem.W.Frag) : Sp := fun vs H Q _ => ∃ (vp vt : V) (ct : Addr) (ps : List (Nat × Nat)) (val : Nat × Nat → Tv) (nx ny k : Nat), vs = [vp, vt, .ref ct, .int (k : Int)] ∧ Given K H vp vt ps val ∧ SqT K H ct [.int (nx : Int), .int (ny : Int)] ∧ nx ≤ 5 ∧ 1 ≤ ny ∧ ny ≤ 5 ∧ k ≤ 5 ∧ (∀ p ∈ ps, p.1 < nx ∧ p.2 < ny) ∧
  ∀ H', Same H H' → Q (.int ((TCM.fewestFor ps val nx ny k : Nat) : Int)) H'
abbrev nFirst : List Str := ["pairs", "values", "counts", "limits", "code", "other"]
theorem scFirst : FnScope nFirst ["pairs", "values", "counts", "limits"] (defScope (topS 7)) := ⟨rfl, rfl, rfl, by decide +kernel, rfl, by decide +kernel, by decide +kernel⟩
/-- a list of two codes, or an empty one -/
def TwoCodes (K : PySem.W.Frag) (H : Hp) (a : Addr) : Option (List Nat × List Nat) → Prop
  | none => SqL K H a []
  | some cd => ∃ x y, SqL K H a [x, y] ∧ CodeT K H x cd.1 ∧ CodeT K H y cd.2
def spFirst (K : PySem.W.Frag) : Sp := fun vs H Q _ => ∃ (vp vt : V) (ct lt : Addr) (ps : List (Nat × Nat)) (val : Nat × Nat → Tv) (nx ny k j : Nat), vs = [vp, vt, .ref ct, .ref lt] ∧ Given K H vp vt ps val ∧ SqT K H ct [.int (nx : Int), .int (ny : Int)] ∧ SqL K H lt [.int (k : Int), .int (j : Int)] ∧
  nx ≤ 5 ∧ ny ≤ 5 ∧ k ≤ 5 ∧ j ≤ 5 ∧ (∀ p ∈ ps, p.1 < nx ∧ p.2 < ny) ∧ ∀ H' a, Same H H' → TwoCodes K H' a (TCM.firstCodesB ps val nx ny k j) → Q (.ref a) H'
section
variable {P : Program} {w : World} {K : PySem.W.Frag} {mg : Str → Option Value} {base : Heap}
theorem ok_with (T : Txt mg) (D : DefAt K mg "fewest_with" (topS 5) ["pairs", "values", "code", "many"]) (c1 : Cal P w K mg base 1 "canonical" (spCanon K) []) (c2 : Cal P w K mg base 1 "is_good" (spGood K) []) : Cal P w K mg base 2 "fewest_with" (spWith K) [] := by
  refine D.cal scWith (fun vs H Q E h => ?_) (fun f cdv A outer s H vs Q E hr h => ⟨_, pss_cons (ps_set (i := 4) scWith.nd rfl (.inl rfl) pe_int)
    (pss_cons (ps_for PassesOwn.never rfl (pi_list (C8.pe_c c1 hr (Nat.le_refl _) (by rfl) (pa_cons (pv 3) (pa_cons (pv 3) pa_nil)))) (pg_name (i := 5) scWith.nd rfl (.inl rfl))
      (pss_cons (ps_set (i := 6) scWith.nd rfl (.inl rfl) (pe_op op_add (pe_callB (cr_maxT rfl (room_hu hr)) (by rfl) T.max (by decide +kernel) (pa_cons (pv 5) pa_nil)) pe_int))
      (pss_one (ps_if (PW.pt (pw_and (PW.pt (pw_or (pt_cmp (pc_eqI (pv 4) pe_int)) (pw_or1 (pt_cmp (pc_lt (pv 6) (pv 4))))))
          (pw_and1 (pt_val (C8.pe_c c2 hr (Nat.le_refl _) (by rfl) (pa_cons (pv 0) (pa_cons (pv 1) (pa_cons (pe_tup (pa_cons (pv 2) (pa_cons (pv 5) pa_nil))) pa_nil))))))))
        (pss_one (ps_set (i := 4) scWith.nd rfl (.inl rfl) (pv 6))) pss_nil))))
    (pss_one (ps_ret (pv 4)))), ?_⟩)
  · obtain ⟨vp, vt, vc, ps, val, c, n, rfl, _⟩ := h
    rfl
  · obtain ⟨vp, vt, vc, ps, val, c, n, rfl, g, hc, h1, h5, hre, q⟩ := h
    refine ⟨_, rfl, _, rfl, n, n, rfl, h5, h5, fun H1 v s1 cl => ?_⟩
    obtain ⟨la, lvs, rfl, hla, pl⟩ := cl
    refine ⟨la, rfl, ⟨_, hla⟩, for_list (K := K) (a := la) (xs := lvs) (fun i σ H2 => ∃ (x5 x6 : Option V), σ = [some vp, some vt, some vc, some (.int (n : Int)), some (.int ((TCM.leastIn (TCM.goodB ps val c) ((Km540.canonicalCodes n n).take i) : Nat) : Int)), x5, x6] ∧ Same H1 H2) ?_ (fun i σ H2 _ ⟨_, _, _, s2⟩ => s2.seq hla) ?_ ?_⟩
    · exact ⟨_, _, rfl, Same.refl H1⟩
    · rintro i x σ H2 hi ⟨x5, x6, rfl, s2⟩
      obtain ⟨d, hd, da, rfl, hdt⟩ := pget pl hi
      have hdm := List.mem_of_getElem? hd
      have hdl := TCM.codes_len n h5 n h5 d hdm
      have hd2 := sqT_keep (.of s2) hdt
      have tks := take_more hd
      have step : TCM.leastIn (TCM.goodB ps val c) ((Km540.canonicalCodes n n).take (i + 1)) = if (TCM.leastIn (TCM.goodB ps val c) ((Km540.canonicalCodes n n).take i) == 0 || decide (TCM.used d < TCM.leastIn (TCM.goodB ps val c) ((Km540.canonicalCodes n n).take i))) && TCM.goodB ps val c d then TCM.used d else TCM.leastIn (TCM.goodB ps val c) ((Km540.canonicalCodes n n).take i) := by
        rw [tks]
        unfold TCM.leastIn
        rw [List.foldl_append]
        rfl
      generalize TCM.leastIn (TCM.goodB ps val c) ((Km540.canonicalCodes n n).take i) = b at step ⊢
      obtain ⟨m, r, rfl⟩ : ∃ m r, d = m :: r := by
        cases d with
        | nil => simp at hdl; omega
        | cons m r => exact ⟨m, r, rfl⟩
      refine ⟨_, rfl, da, (m : Int), r.map (fun (m : Nat) => (m : Int)), rfl, (by have := hd2; rw [intsV_map] at this; exact this), _, 1, rfl, rfl, ?_⟩
      simp only [mx_cons m r]
      refine tAnd_of (b == 0 || decide (TCM.used (m :: r) < b)) (fun Q q => tOr_of (b == 0) (decide (TCM.used (m :: r) < b)) (fun Q q => ⟨_, rfl, _, _, rfl, rfl, b == 0, congrArg V.bl (dec_nat0 b), q⟩) (fun Q q => ⟨_, rfl, _, rfl, _, _, rfl, rfl, _, congrArg V.bl (dec_lt _ b), q⟩) q) (fun e => ?_) (fun e => ?_)
      · refine ⟨_, rfl, _, rfl, _, rfl, _, rfl, (by show 2 ≤ sizeLine; decide), fun p hp => ?_⟩
        have s3 := same_then (o := .tup [vc, .ref da]) (s1.trans s2) hp
        have s23 := same_then (o := .tup [vc, .ref da]) s2 hp
        refine ⟨vp, vt, .ref p, ps, val, c, m :: r, rfl, g.same s3, ⟨p, vc, .ref da, rfl, .inr (SqT.of upd_same), hc.same s3, da, rfl, .inr (sqT_keep (.of s23) hdt)⟩, fun z hz => ⟨(hre z hz).1, by rw [hdl]; exact (hre z hz).2⟩, fun H3 s4 => ?_⟩
        refine ⟨_, rfl, ?_⟩
        rw [e, Bool.true_and] at step
        cases gd : TCM.goodB ps val c (m :: r) with
        | true =>
          rw [gd, if_pos rfl] at step
          rw [step]
          exact iteT ⟨_, rfl, _, _, rfl, s23.trans s4⟩
        | false =>
          rw [gd, if_neg Bool.false_ne_true] at step
          rw [step]
          exact iteF ⟨_, _, rfl, s23.trans s4⟩
      · rw [e, Bool.false_and, if_neg Bool.false_ne_true] at step
        rw [step]
        exact iteF ⟨_, _, rfl, s2⟩
    · rintro σ H2 ⟨x5, x6, rfl, s2⟩
      rw [Paired.length pl, List.take_length]
      exact ⟨_, rfl, q H2 (s1.trans s2)⟩
theorem ok_for (T : Txt mg) (D : DefAt K mg "fewest_for" (topS 6) ["pairs", "values", "counts", "messages"]) (c1 : Cal P w K mg base 1 "canonical" (spCanon K) []) (c2 : Cal P w K mg base 2 "fewest_with" (spWith K) []) : Cal P w K mg base 3 "fewest_for" (spFor K) [] := by
  refine D.cal scFor (fun vs H Q E h => ?_) (fun f cdv A outer s H vs Q E hr h => ⟨_, pss_cons (ps_set (i := 4) scFor.nd rfl (.inl rfl) pe_int)
    (pss_cons (ps_for PassesOwn.never rfl (pi_list (C8.pe_c c1 hr (by decide) (by rfl) (pa_cons (pe_ix ix_any (pv 2) pe_int (fun _ _ => rfl)) (pa_cons (pv 3) pa_nil)))) (pg_name (i := 5) scFor.nd rfl (.inl rfl))
      (pss_cons (ps_set (i := 6) scFor.nd rfl (.inl rfl) (C8.pe_c c2 hr (Nat.le_refl _) (by rfl) (pa_cons (pv 0) (pa_cons (pv 1) (pa_cons (pv 5) (pa_cons (pe_ix ix_any (pv 2) pe_int (fun _ _ => rfl)) pa_nil))))))
      (pss_one (ps_if (PW.pt (pw_and (pt_cmp (pc_gt (pv 6) pe_int)) (pw_and1 (PW.pt (pw_or (pt_cmp (pc_eqI (pv 4) pe_int)) (pw_or1 (pt_cmp (pc_lt (pv 6) (pv 4)))))))))
        (pss_one (ps_set (i := 4) scFor.nd rfl (.inl rfl) (pv 6))) pss_nil))))
    (pss_one (ps_ret (pv 4)))), ?_⟩)
  · obtain ⟨vp, vt, ct, ps, val, nx, ny, k, rfl, _⟩ := h
    rfl
  · obtain ⟨vp, vt, ct, ps, val, nx, ny, k, rfl, g, hct, hx5, hy1, hy5, hk, hre, q⟩ := h
    refine ⟨_, rfl, ct, 0, _, _, rfl, rfl, .inr hct, rfl, _, rfl, nx, k, rfl, hx5, hk, fun H1 v s1 cl => ?_⟩
    obtain ⟨la, lvs, rfl, hla, pl⟩ := cl
    refine ⟨la, rfl, ⟨_, hla⟩, for_list (K := K) (a := la) (xs := lvs) (fun i σ H2 => ∃ (x5 x6 : Option V), σ = [some vp, some vt, some (.ref ct), some (.int (k : Int)), some (.int ((((Km540.canonicalCodes nx k).take i).foldl (fun best c => TCM.forStep (TCM.fewestWith ps val c ny) best) 0 : Nat) : Int)), x5, x6] ∧ Same H1 H2) ?_ (fun i σ H2 _ ⟨_, _, _, s2⟩ => s2.seq hla) ?_ ?_⟩
    · exact ⟨_, _, rfl, Same.refl H1⟩
    · rintro i x σ H2 hi ⟨x5, x6, rfl, s2⟩
      obtain ⟨c, hc, ca, rfl, hcc⟩ := pget pl hi
      have hcm := List.mem_of_getElem? hc
      have hcl := TCM.codes_len nx hx5 k hk c hcm
      have step : ((Km540.canonicalCodes nx k).take (i + 1)).foldl (fun best c => TCM.forStep (TCM.fewestWith ps val c ny) best) 0 = TCM.forStep (TCM.fewestWith ps val c ny) (((Km540.canonicalCodes nx k).take i).foldl (fun best c => TCM.forStep (TCM.fewestWith ps val c ny) best) 0) := by
        rw [take_more hc, List.foldl_append]
        rfl
      generalize ((Km540.canonicalCodes nx k).take i).foldl (fun best c => TCM.forStep (TCM.fewestWith ps val c ny) best) 0 = b at step ⊢
      refine ⟨_, rfl, _, rfl, _, rfl, _, rfl, ct, 1, _, _, rfl, rfl, .inr (sqT_keep (.of (s1.trans s2)) hct), rfl, vp, vt, .ref ca, ps, val, c, ny, rfl, g.same (s1.trans s2), ⟨ca, rfl, .inr (sqT_keep (.of s2) hcc)⟩, hy1, hy5, fun z hz => ⟨by rw [hcl]; exact (hre z hz).1, (hre z hz).2⟩, fun H3 s3 => ?_⟩
      generalize TCM.fewestWith ps val c ny = u at step ⊢
      change _ = (if (decide (0 < u) && (b == 0 || decide (u < b))) = true then u else b) at step
      simp only [gName, tIfS]
      refine tAnd_of (decide (0 < u)) (fun Q q => ⟨_, rfl, _, _, rfl, rfl, _, congrArg V.bl (dec_lt 0 u), q⟩) (fun e => ?_) (fun e => ?_)
      · refine tOr_of (b == 0) (decide (u < b)) (fun Q q => ⟨_, rfl, _, _, rfl, rfl, b == 0, congrArg V.bl (dec_nat0 b), q⟩) (fun Q q => ⟨_, rfl, _, rfl, _, _, rfl, rfl, _, congrArg V.bl (dec_lt _ b), q⟩) ?_
        rw [e, Bool.true_and] at step
        cases z : (b == 0 || decide (u < b)) with
        | true =>
          rw [z, if_pos rfl] at step
          rw [step]
          exact iteT ⟨_, rfl, _, _, rfl, s2.trans s3⟩
        | false =>
          rw [z, if_neg Bool.false_ne_true] at step
          rw [step]
          exact iteF ⟨_, _, rfl, s2.trans s3⟩
      · rw [e, Bool.false_and, if_neg Bool.false_ne_true] at step
        rw [step]
        exact iteF ⟨_, _, rfl, s2.trans s3⟩
    · rintro σ H2 ⟨x5, x6, rfl, s2⟩
      rw [Paired.length pl, List.take_length]
      exact ⟨_, rfl, q H2 (s1.trans s2)⟩
theorem ok_first (D : DefAt K mg "first_codes" (topS 7) ["pairs", "values", "counts", "limits"]) (c1 : Cal P w K mg base 1 "canonical" (spCanon K) []) (c2 : Cal P w K mg base 1 "is_good" (spGood K) []) : Cal P w K mg base 2 "first_codes" (spFirst K) [] := by
  refine D.cal scFirst (fun vs H Q E h => ?_) (fun f cdv A outer s H vs Q E hr h => ⟨_, pss_cons (ps_for PassesOwn.never rfl (pi_list (C8.pe_c c1 hr (Nat.le_refl _) (by rfl) (pa_cons (pe_ix ix_any (pv 2) pe_int (fun _ _ => rfl)) (pa_cons (pe_ix ix_any (pv 3) pe_int (fun _ _ => rfl)) pa_nil)))) (pg_name (i := 4) scFirst.nd rfl (.inl rfl))
      (pss_one (ps_for PassesOwn.never rfl (pi_list (C8.pe_c c1 hr (Nat.le_refl _) (by rfl) (pa_cons (pe_ix ix_any (pv 2) pe_int (fun _ _ => rfl)) (pa_cons (pe_ix ix_any (pv 3) pe_int (fun _ _ => rfl)) pa_nil)))) (pg_name (i := 5) scFirst.nd rfl (.inl rfl))
        (pss_one (ps_if (pt_val (C8.pe_c c2 hr (Nat.le_refl _) (by rfl) (pa_cons (pv 0) (pa_cons (pv 1) (pa_cons (pe_tup (pa_cons (pv 4) (pa_cons (pv 5) pa_nil))) pa_nil)))))
          (pss_one (ps_ret (pe_lst (pa_cons (pv 4) (pa_cons (pv 5) pa_nil))))) pss_nil)))))
    (pss_one (ps_ret (pe_lst pa_nil))), ?_⟩)
  · obtain ⟨vp, vt, ct, lt, ps, val, nx, ny, k, j, rfl, _⟩ := h
    rfl
  · obtain ⟨vp, vt, ct, lt, ps, val, nx, ny, k, j, rfl, g, hct, hlt, hx5, hy5, hk, hj, hre, q⟩ := h
    refine ⟨_, rfl, ct, 0, _, _, rfl, rfl, .inr hct, rfl, _, rfl, lt, 0, _, _, rfl, rfl, .inl hlt, rfl, nx, k, rfl, hx5, hk, fun H1 v s1 cl => ?_⟩
    obtain ⟨la, lvs, rfl, hla, pl⟩ := cl
    refine ⟨la, rfl, ⟨_, hla⟩, for_list (K := K) (a := la) (xs := lvs) (fun i σ H2 => ∃ (x4 x5 : Option V), σ = [some vp, some vt, some (.ref ct), some (.ref lt), x4, x5] ∧ Same H1 H2 ∧
        ∀ c ∈ (Km540.canonicalCodes nx k).take i, (Km540.canonicalCodes ny j).find? (fun d => TCM.goodB ps val c d) = none) ?_ (fun i σ H2 _ ⟨_, _, _, s2, _⟩ => s2.seq hla) ?_ ?_⟩
    · exact ⟨_, _, rfl, Same.refl H1, fun c hc => absurd hc (by simp)⟩
    · rintro i x σ H2 hi ⟨x4, x5, rfl, s2, no⟩
      obtain ⟨c, hc, ca, rfl, hcc⟩ := pget pl hi
      have hcm := List.mem_of_getElem? hc
      have hcl := TCM.codes_len nx hx5 k hk c hcm
      have tks := take_more hc
      have s12 := s1.trans s2
      refine ⟨_, rfl, ct, 1, _, _, rfl, rfl, .inr (sqT_keep (.of s12) hct), rfl, _, rfl, lt, 1, _, _, rfl, rfl, .inl (s12.seq hlt), rfl, ny, j, rfl, hy5, hj, fun H3 v s3 cl2 => ?_⟩
      obtain ⟨lb, mvs, rfl, hlb, pm⟩ := cl2
      refine ⟨lb, rfl, ⟨_, hlb⟩, for_list (K := K) (a := lb) (xs := mvs) (fun r σ H4 => ∃ (x5 : Option V), σ = [some vp, some vt, some (.ref ct), some (.ref lt), some (.ref ca), x5] ∧ Same H3 H4 ∧
        ∀ d ∈ (Km540.canonicalCodes ny j).take r, TCM.goodB ps val c d = false) ?_ (fun i σ H4 _ ⟨_, _, s4, _⟩ => s4.seq hlb) ?_ ?_⟩
      · exact ⟨_, rfl, Same.refl H3, fun c hc => absurd hc (by simp)⟩
      · rintro r x σ H4 hr' ⟨x5, rfl, s4, no2⟩
        obtain ⟨d, hd, da, rfl, hdt⟩ := pget pm hr'
        have hdm := List.mem_of_getElem? hd
        have hdl := TCM.codes_len ny hy5 j hj d hdm
        have tks2 := take_more hd
        refine ⟨_, rfl, _, rfl, _, rfl, _, rfl, (by show 2 ≤ sizeLine; decide), fun p hp => ?_⟩
        have s24 := s3.trans s4
        have s5 := same_then (o := .tup [.ref ca, .ref da]) (s12.trans s24) hp
        have s25 := same_then (o := .tup [.ref ca, .ref da]) s24 hp
        have s45 := same_then (o := .tup [.ref ca, .ref da]) s4 hp
        refine ⟨vp, vt, .ref p, ps, val, c, d, rfl, g.same s5, ⟨p, .ref ca, .ref da, rfl, .inr (SqT.of upd_same), ⟨ca, rfl, .inr (sqT_keep (.of (s2.trans s25)) hcc)⟩, da, rfl, .inr (sqT_keep (.of s45) hdt)⟩, fun z hz => ⟨by rw [hcl]; exact (hre z hz).1, by rw [hdl]; exact (hre z hz).2⟩, fun H5 s6 => ?_⟩
        refine ⟨_, rfl, ?_⟩
        cases gd : TCM.goodB ps val c d with
        | true =>
          refine iteT ⟨_, rfl, _, rfl, (by show 2 ≤ sizeLine; decide), fun l hl => q _ l (same_then (s5.trans s6) hl) ?_⟩
          have e1 : (Km540.canonicalCodes ny j).find? (fun d => TCM.goodB ps val c d) = some d := by
            have e := idx_some (f := fun d => TCM.goodB ps val c d) no2 hd gd
            rw [TCM.find_idx [] _ (Km540.canonicalCodes ny j), e]
            show some ((Km540.canonicalCodes ny j).getD r []) = some d
            rw [List.getD_eq_getElem?_getD, hd]
            rfl
          have e2 : TCM.firstCodesB ps val nx ny k j = some (c, d) := by
            unfold TCM.firstCodesB
            refine some_at (fun c' hc' => ?_) hc ?_
            · rw [no c' hc']; rfl
            · rw [e1]; rfl
          rw [e2]
          exact ⟨.ref ca, .ref da, SqL.of upd_same, ⟨ca, rfl, sqT_keep (.of (same_then ((s2.trans s25).trans s6) hl)) hcc⟩, ⟨da, rfl, sqT_keep (.of (same_then (s45.trans s6) hl)) hdt⟩⟩
        | false =>
          refine iteF ⟨_, rfl, s45.trans s6, fun d' hd' => ?_⟩
          rw [tks2] at hd'
          rcases List.mem_append.mp hd' with z | z
          · exact no2 d' z
          · rw [List.mem_singleton.mp z]; exact gd
      · rintro σ H4 ⟨x5, rfl, s4, no2⟩
        rw [Paired.length pm, List.take_length] at no2
        refine ⟨_, _, rfl, s2.trans (s3.trans s4), fun c' hc' => ?_⟩
        rw [tks] at hc'
        rcases List.mem_append.mp hc' with z | z
        · exact no c' z
        · rw [List.mem_singleton.mp z]
          exact List.find?_eq_none.mpr fun d hd => by rw [no2 d hd]; simp
    · rintro σ H2 ⟨x4, x5, rfl, s2, no⟩
      rw [Paired.length pl, List.take_length] at no
      refine ⟨(by show 0 ≤ sizeLine; decide), fun p hp => q _ p (same_then (s1.trans s2) hp) ?_⟩
      have e2 : TCM.firstCodesB ps val nx ny k j = none := by
        refine List.findSome?_eq_none_iff.mpr fun c hc => ?_
        rw [no c hc]
        rfl
      rw [e2]
      exact SqL.of upd_same
end
end TC
/-! The walks, 5: colours, linked. -/
namespace TC
open PySem PySem.Spec PyProof.Rows L2
open TCM (Tv)
abbrev nCol : List Str := ["many", "links", "best", "code", "one", "other"]
theorem scCol : FnScope nCol ["many", "links"] (defScope (topS 8)) := ⟨rfl, rfl, rfl, by decide +kernel, rfl, by decide +kernel, by decide +kernel⟩
def spCol (K : PySem.W.Frag) : Sp := fun vs H Q _ => ∃ (vl : V) (links : List (Nat × Nat)) (n : Nat), vs = [.int (n : Int), vl] ∧ PairsL K H vl links ∧ 1 ≤ n ∧ n ≤ 5 ∧ links.length ≤ 625 ∧ (∀ l ∈ links, l.1 < n ∧ l.2 < n) ∧
  ∀ H', Same H H' → Q (.int ((TCM.coloursB links n : Nat) : Int)) H'
abbrev nLink : List Str := ["pairs", "source", "found", "one", "other"]
theorem scLink : FnScope nLink ["pairs", "source"] (defScope (topS 40)) := ⟨rfl, rfl, rfl, by decide +kernel, rfl, by decide +kernel, by decide +kernel⟩
def spLink (K : PySem.W.Frag) : Sp := fun vs H Q _ => ∃ (vp : V) (ps : List (Nat × Nat)) (src : Nat), vs = [vp, .int (src : Int)] ∧ PairsL K H vp ps ∧ ps.length ≤ 25 ∧ src ≤ 1 ∧ ∀ H' v, Same H H' → PairsL K H' v (TCM.linkedB ps src) → Q v H'
theorem linkedOne_len (ps : List (Nat × Nat)) (src : Nat) (p : Nat × Nat) : (TCM.linkedOne ps src p).length ≤ ps.length := by
  unfold TCM.linkedOne
  rw [List.length_map]
  exact List.length_filter_le _ _
theorem linked_len (ps : List (Nat × Nat)) (src : Nat) : ∀ l : List (Nat × Nat), (l.flatMap (TCM.linkedOne ps src)).length ≤ l.length * ps.length
  | [] => by simp
  | p :: l => by
    rw [List.flatMap_cons, List.length_append, List.length_cons, Nat.succ_mul]
    have := linked_len ps src l
    have := linkedOne_len ps src p
    omega
theorem coord_at {src : Nat} (h : src ≤ 1) (p : Nat × Nat) : [V.int (p.1 : Int), V.int (p.2 : Int)][src]? = some (.int ((TCM.coord src p : Nat) : Int)) := by
  rcases (show src = 0 ∨ src = 1 by omega) with e | e <;> subst e <;> rfl
section
variable {P : Program} {w : World} {K : PySem.W.Frag} {mg : Str → Option Value} {base : Heap}
theorem ok_col (T : Txt mg) (D : DefAt K mg "colours" (topS 8) ["many", "links"]) (c1 : Cal P w K mg base 1 "canonical" (spCanon K) []) : Cal P w K mg base 2 "colours" (spCol K) [] := by
  refine D.cal scCol (fun vs H Q E h => ?_) (fun f cdv A outer s H vs Q E hr h => ⟨_, pss_cons (ps_set (i := 2) scCol.nd rfl (.inl rfl) (pv 0))
    (pss_cons (ps_for PassesOwn.never rfl (pi_list (C8.pe_c c1 hr (Nat.le_refl _) (by rfl) (pa_cons (pv 0) (pa_cons (pv 0) pa_nil)))) (pg_name (i := 3) scCol.nd rfl (.inr rfl))
      (pss_one (ps_if (PW.pt (pw_and (pt_cmp (pc_lt (pe_op op_add (pe_callB (cr_maxT rfl (room_hu hr)) (by rfl) T.max (by decide +kernel) (pa_cons (pv 3) pa_nil)) pe_int) (pv 2)))
          (pw_and1 (pt_val (pe_callB (cr_all rfl) (by rfl) T.all (by decide +kernel) (pa_cons
            (pe_lc (own := [("one", 4), ("other", 5)]) (g := gTup K 2 (gCons (gName 4) (gCons (gName 5) gNil))) (tt := tYes) rfl scCol.nd (pi_list (pv 1)) (blkOk_by (N := nCol) (sc := defScope (topS 8)) (by decide +kernel))
              (fun _ _ _ _ _ => pg_tup rfl (pgs_cons (pg_name (i := 4) scCol.nd rfl (.inl rfl)) (pgs_cons (pg_name (i := 5) scCol.nd rfl (.inl rfl)) pgs_nil))) (fun _ _ _ _ _ => pts_nil)
              (fun _ _ _ _ _ => pe_cmp (pc_neI (pe_ix (r := rIxA K) ix_any (pv 3) (pv 4) (fun _ _ => rfl)) (pe_ix (r := rIxA K) ix_any (pv 3) (pv 5) (fun _ _ => rfl))))) pa_nil))))))
        (pss_one (ps_set (i := 2) scCol.nd rfl (.inl rfl) (pe_op op_add (pe_callB (cr_maxT rfl (room_hu hr)) (by rfl) T.max (by decide +kernel) (pa_cons (pv 3) pa_nil)) pe_int))) pss_nil)))
    (pss_one (ps_ret (pv 2)))), ?_⟩)
  · obtain ⟨vl, links, n, rfl, _⟩ := h
    rfl
  · obtain ⟨vl, links, n, rfl, hl, h1, h5, hlen, hre, q⟩ := h
    obtain ⟨lk, lks, rfl, hlk, plk⟩ := hl
    refine ⟨_, rfl, _, rfl, _, rfl, n, n, rfl, h5, h5, fun H1 v s1 cl => ?_⟩
    obtain ⟨la, lvs, rfl, hla, pl⟩ := cl
    refine ⟨la, rfl, ⟨_, hla⟩, for_list (K := K) (a := la) (xs := lvs) (fun i σ H2 => ∃ (x3 x4 x5 : Option V), σ = [some (.int (n : Int)), some (.ref lk), some (.int ((((Km540.canonicalCodes n n).take i).foldl (fun best c => if decide (TCM.used c < best) && links.all (TCM.apart c) then TCM.used c else best) n : Nat) : Int)), x3, x4, x5] ∧ Same H1 H2) ?_ (fun i σ H2 _ ⟨_, _, _, _, s2⟩ => s2.seq hla) ?_ ?_⟩
    · exact ⟨_, _, _, rfl, Same.refl H1⟩
    · rintro i x σ H2 hi ⟨x3, x4, x5, rfl, s2⟩
      obtain ⟨d, hd, da, rfl, hdt⟩ := pget pl hi
      have hdm := List.mem_of_getElem? hd
      have hdl := TCM.codes_len n h5 n h5 d hdm
      have hd2 := sqT_keep (.of s2) hdt
      have step : ((Km540.canonicalCodes n n).take (i + 1)).foldl (fun best c => if decide (TCM.used c < best) && links.all (TCM.apart c) then TCM.used c else best) n = if decide (TCM.used d < ((Km540.canonicalCodes n n).take i).foldl (fun best c => if decide (TCM.used c < best) && links.all (TCM.apart c) then TCM.used c else best) n) && links.all (TCM.apart d) then TCM.used d else ((Km540.canonicalCodes n n).take i).foldl (fun best c => if decide (TCM.used c < best) && links.all (TCM.apart c) then TCM.used c else best) n := by
        rw [take_more hd, List.foldl_append]
        rfl
      generalize ((Km540.canonicalCodes n n).take i).foldl (fun best c => if decide (TCM.used c < best) && links.all (TCM.apart c) then TCM.used c else best) n = b at step ⊢
      obtain ⟨m, r, rfl⟩ : ∃ m r, d = m :: r := by
        cases d with
        | nil => simp at hdl; omega
        | cons m r => exact ⟨m, r, rfl⟩
      have mx := mx_cons m r
      have hdi : ∀ {H3 : Hp}, Same H2 H3 → SqT K H3 da (((m : Int) :: r.map (fun (m : Nat) => (m : Int))).map V.int) := fun s3 => by
        have := sqT_keep (.of s3) hd2
        rw [intsV_map] at this
        exact this
      refine tAnd_of (decide (TCM.used (m :: r) < b)) (fun Q q => ⟨_, rfl, da, (m : Int), r.map (fun (m : Nat) => (m : Int)), rfl, hdi (Same.refl _), _, 1, rfl, rfl, _, rfl, _, _, rfl, rfl, _, congrArg V.bl ((congrArg (fun z : Int => decide (z < (b : Int))) mx).trans (dec_lt _ b)), q⟩) (fun e => ?_) (fun e => ?_)
      · refine ⟨_, rfl, lk, rfl, ⟨_, (s1.trans s2).seq hlk⟩, fun D hD => lc_list (K := K) (a := lk) (xs := lks) (fun t H3 => ∃ bs : List Bool, H3 D = some (.lst (bs.map V.bl)) ∧ Same H2 H3 ∧ bs = (links.take t).map (TCM.apart (m :: r))) ?_ (fun t H3 _ ⟨_, _, s3, _⟩ => (s1.trans (s2.trans s3)).seq hlk) ?_ ?_⟩
        · exact ⟨[], upd_same, same_upd hD, rfl⟩
        · rintro t x H3 ht ⟨bs, hD3, s3, rfl⟩
          obtain ⟨l, hl, pq, rfl, hpq⟩ := pget plk ht
          have hr1 := hre l (List.mem_of_getElem? hl)
          have s13 := s1.trans (s2.trans s3)
          have hd3 := sqT_keep (.of s3) hd2
          refine ⟨pq, _, rfl, sqT_keep (.of s13) hpq, rfl, _, _, rfl, _, _, rfl, rfl, rfl, ?_⟩
          refine ⟨_, rfl, _, rfl, da, l.1, _, _, rfl, rfl, .inr hd3, intsV_at (by rw [hdl]; exact hr1.1), _, rfl, _, rfl, da, l.2, _, _, rfl, rfl, .inr hd3, intsV_at (by rw [hdl]; exact hr1.2), _, _, rfl, rfl, ?_⟩
          have htl : t < links.length := (List.getElem?_eq_some_iff.mp hl).1
          have ev : V.bl (!decide ((((m :: r).getD l.1 0 : Nat) : Int) = (((m :: r).getD l.2 0 : Nat) : Int))) = V.bl (TCM.apart (m :: r) l) := by
            refine congrArg V.bl (TCM.bc ?_)
            unfold TCM.apart
            simp
            omega
          refine ⟨_, hD3, ?_, (links.take (t + 1)).map (TCM.apart (m :: r)), ?_, same_new s3 hD, rfl⟩
          · rw [List.length_map, List.length_map, sizeLine_eq]
            have := List.length_take_le' t links
            omega
          · rw [upd_same, take_more hl, List.map_append, List.map_append]
            exact congrArg (fun z => some (HO.lst (List.map V.bl (List.map (TCM.apart (m :: r)) (List.take t links)) ++ [z]))) ev
        · rintro H3 ⟨bs, hD3, s3, rfl⟩
          rw [Paired.length plk, List.take_length] at hD3
          refine ⟨D, links.map (TCM.apart (m :: r)), rfl, SqL.of hD3, _, rfl, ?_⟩
          have ea : (links.map (TCM.apart (m :: r))).all id = links.all (TCM.apart (m :: r)) := by
            rw [List.all_map]
            rfl
          rw [ea]
          rw [e, Bool.true_and] at step
          cases gd : links.all (TCM.apart (m :: r)) with
          | true =>
            rw [gd, if_pos rfl] at step
            rw [step]
            refine iteT ⟨_, rfl, da, (m : Int), r.map (fun (m : Nat) => (m : Int)), rfl, hdi s3, _, 1, rfl, rfl, some (.ref da), x4, x5, ?_, s2.trans s3⟩
            have := congrArg (fun z : Int => [some (V.int (n : Int)), some (V.ref lk), some (V.int z), some (V.ref da), x4, x5]) mx
            exact this
          | false =>
            rw [gd, if_neg Bool.false_ne_true] at step
            rw [step]
            exact iteF ⟨_, _, _, rfl, s2.trans s3⟩
      · rw [e, Bool.false_and, if_neg Bool.false_ne_true] at step
        rw [step]
        exact iteF ⟨_, _, _, rfl, s2⟩
    · rintro σ H2 ⟨x3, x4, x5, rfl, s2⟩
      rw [Paired.length pl, List.take_length]
      exact ⟨_, rfl, q H2 (s1.trans s2)⟩
theorem ok_link (D : DefAt K mg "linked" (topS 40) ["pairs", "source"]) : Cal P w K mg base 1 "linked" (spLink K) [] := by
  refine D.cal scLink (fun vs H Q E h => ?_) (fun f cdv A outer s H vs Q E hr h => ⟨_, pss_cons (ps_set (i := 2) scLink.nd rfl (.inl rfl) (pe_lst pa_nil))
    (pss_cons (ps_for PassesOwn.never rfl (pi_list (pv 0)) (pg_name (i := 3) scLink.nd rfl (.inl rfl))
      (pss_one (ps_for PassesOwn.never rfl (pi_list (pv 0)) (pg_name (i := 4) scLink.nd rfl (.inl rfl))
        (pss_one (ps_if (PW.pt (pw_and (pt_cmp (pc_eqI (pe_ix ix_any (pv 3) (pe_op op_sub pe_int (pv 1)) (fun _ _ => rfl)) (pe_ix ix_any (pv 4) (pe_op op_sub pe_int (pv 1)) (fun _ _ => rfl))))
            (pw_and1 (pt_cmp (pc_lt (pe_ix ix_any (pv 3) (pv 1) (fun _ _ => rfl)) (pe_ix ix_any (pv 4) (pv 1) (fun _ _ => rfl)))))))
          (pss_one (ps_expr (pe_bm PySem.F.plainAttrs_list PySem.F.slot_list_append PySem.F.type_list_append mt_append (pv 2) (pa_cons (pe_tup (pa_cons (pe_ix ix_any (pv 3) (pv 1) (fun _ _ => rfl)) (pa_cons (pe_ix ix_any (pv 4) (pv 1) (fun _ _ => rfl)) pa_nil))) pa_nil)))) pss_nil)))))
    (pss_one (ps_ret (pv 2)))), ?_⟩)
  · obtain ⟨vp, ps, src, rfl, _⟩ := h
    rfl
  · obtain ⟨vp, ps, src, rfl, ⟨pa, pvs, rfl, hpa, pp⟩, few, h1, q⟩ := h
    have lp := Paired.length pp
    have e1 : (1 : Int) - (src : Int) = ((1 - src : Nat) : Int) := by omega
    have h1' : 1 - src ≤ 1 := by omega
    refine ⟨(by show 0 ≤ sizeLine; decide), fun F hF => ?_⟩
    refine ⟨_, rfl, pa, rfl, ⟨_, (same_upd hF).seq hpa⟩, for_list (K := K) (a := pa) (xs := pvs) (fun i σ H2 => ∃ (x3 x4 : Option V) (vs : List V), σ = [some (.ref pa), some (.int (src : Int)), some (.ref F), x3, x4] ∧ Same H H2 ∧ H2 F = some (.lst vs) ∧
      Paired (PairT K H2) vs ((ps.take i).flatMap (TCM.linkedOne ps src))) ?_ (fun i σ H2 _ ⟨_, _, _, _, s2, _⟩ => s2.seq hpa) ?_ ?_⟩
    · exact ⟨_, _, [], rfl, same_upd hF, upd_same, .nil⟩
    · rintro i x σ H2 hi ⟨x3, x4, vs, rfl, s2, hF2, p2⟩
      obtain ⟨p, hp, pq, rfl, hpq⟩ := pget pp hi
      refine ⟨_, rfl, pa, rfl, ⟨_, s2.seq hpa⟩, for_list (K := K) (a := pa) (xs := pvs) (fun j σ H3 => ∃ (x4 : Option V) (vs : List V), σ = [some (.ref pa), some (.int (src : Int)), some (.ref F), some (.ref pq), x4] ∧ Same H H3 ∧ H3 F = some (.lst vs) ∧
        Paired (PairT K H3) vs ((ps.take i).flatMap (TCM.linkedOne ps src) ++ ((ps.take j).filter (TCM.linkB src p)).map fun q => (TCM.coord src p, TCM.coord src q))) ?_ (fun i σ H2 _ ⟨_, _, _, s2, _⟩ => s2.seq hpa) ?_ ?_⟩
      · exact ⟨_, vs, rfl, s2, hF2, by rw [List.take_zero, List.filter_nil, List.map_nil, List.append_nil]; exact p2⟩
      · rintro j x σ H3 hj ⟨x4, ws, rfl, s3, hF3, p3⟩
        obtain ⟨r, hr', rq, rfl, hrq⟩ := pget pp hj
        have tks := take_more hr'
        have hpq3 := sqT_keep (.of s3) hpq
        have hrq3 := sqT_keep (.of s3) hrq
        have skip : TCM.linkB src p r = false → ((ps.take (j + 1)).filter (TCM.linkB src p)) = (ps.take j).filter (TCM.linkB src p) := fun e => by
          rw [tks, List.filter_append, List.filter_cons, e]
          simp
        refine tAnd_of (decide (TCM.coord (1 - src) p = TCM.coord (1 - src) r)) (fun Q q => ⟨_, rfl, _, rfl, 1, _, rfl, rfl, pq, 1 - src, _, _, rfl, congrArg V.int e1, .inr hpq3, coord_at h1' p, _, rfl, _, rfl, 1, _, rfl, rfl, rq, 1 - src, _, _, rfl, congrArg V.int e1, .inr hrq3, coord_at h1' r, _, _, rfl, rfl, _, congrArg V.bl (TCM.bc (by simp; omega)), q⟩) (fun ea => ?_) (fun ea => ?_)
        · refine ⟨_, rfl, _, rfl, pq, src, _, _, rfl, rfl, .inr hpq3, coord_at h1 p, _, rfl, _, rfl, rq, src, _, _, rfl, rfl, .inr hrq3, coord_at h1 r, _, _, rfl, rfl, decide (TCM.coord src p < TCM.coord src r), congrArg V.bl (dec_lt _ _), ?_⟩
          cases eb : decide (TCM.coord src p < TCM.coord src r) with
          | true =>
            have el : TCM.linkB src p r = true := by
              unfold TCM.linkB
              rw [ea, eb]
              rfl
            have more : ((ps.take (j + 1)).filter (TCM.linkB src p)) = (ps.take j).filter (TCM.linkB src p) ++ [r] := by
              rw [tks, List.filter_append, List.filter_cons, el]
              simp
            refine iteT ?_
            refine ⟨_, rfl, .inl ⟨rfl, _, SqL.of hF3⟩, _, rfl, _, rfl, pq, src, _, _, rfl, rfl, .inr hpq3, coord_at h1 p, _, rfl, _, rfl, rq, src, _, _, rfl, rfl, .inr hrq3, coord_at h1 r, (by show 2 ≤ sizeLine; decide), fun t ht => ?_⟩
            have s4 := same_then (o := .tup [.int ((TCM.coord src p : Nat) : Int), .int ((TCM.coord src r : Nat) : Int)]) s3 ht
            have s34 : Same H3 _ := same_upd (o := .tup [.int ((TCM.coord src p : Nat) : Int), .int ((TCM.coord src r : Nat) : Int)]) ht
            have hF4 := s34 _ _ hF3
            have tk := tk_lst (o := .lst (ws ++ [.ref t])) hF4
            refine ⟨F, ws, _, rfl, rfl, hF4, ?_, _, ws ++ [.ref t], rfl, same_new s4 hF, upd_same, ?_⟩
            · have l3 := Paired.length p3
              have k1 := linked_len ps src (ps.take i)
              have k2 : (ps.take i).length ≤ ps.length := List.length_take_le' i ps
              have k3 : ((ps.take j).filter (TCM.linkB src p)).length ≤ ps.length := Nat.le_trans (List.length_filter_le _ _) (List.length_take_le' j ps)
              rw [List.length_append, List.length_map] at l3
              have k4 : (ps.take i).length * ps.length ≤ 25 * 25 := Nat.mul_le_mul (by omega) few
              rw [sizeLine_eq]
              omega
            · rw [more, List.map_append, ← List.append_assoc]
              exact paired_app (Paired.mapP p3 fun _ _ z => z.keep ((TK.of s34).trans tk)) (.cons ⟨t, rfl, sqT_keep tk (SqT.of upd_same)⟩ .nil)
          | false =>
            have el : TCM.linkB src p r = false := by
              unfold TCM.linkB
              rw [ea, eb]
              rfl
            exact iteF ⟨_, ws, rfl, s3, hF3, by rw [skip el]; exact p3⟩
        · have el : TCM.linkB src p r = false := by
            unfold TCM.linkB
            rw [ea]
            rfl
          exact iteF ⟨_, ws, rfl, s3, hF3, by rw [skip el]; exact p3⟩
      · rintro σ H3 ⟨x4, ws, rfl, s3, hF3, p3⟩
        rw [lp, List.take_length] at p3
        refine ⟨_, _, ws, rfl, s3, hF3, ?_⟩
        rw [take_more hp, List.flatMap_append]
        simp only [List.flatMap_cons, List.flatMap_nil, List.append_nil]
        exact p3
    · rintro σ H2 ⟨x3, x4, vs, rfl, s2, hF2, p2⟩
      rw [lp, List.take_length] at p2
      exact ⟨_, rfl, q H2 _ s2 ⟨F, vs, rfl, SqL.of hF2, p2⟩⟩
end
end TC
/-! The walks, 6: an instance in the heap; has, pairs, value, told, decoded. -/
namespace TC
open PySem PySem.Spec PyProof.Rows L2
open TCM (Tv valF SesOk)
open Km540 (Session possiblePairs)
/-! ### attributes -/
theorem lk_here {k : Str} {v : V} {r : List (Str × V)} : List.lookup k ((k, v) :: r) = some v := by
  have e : (k == k) = true := beq_self_eq_true k
  simp only [List.lookup, e]
theorem lk_past {k g : Str} {v : V} {r : List (Str × V)} (h : (k == g) = false) : List.lookup k ((g, v) :: r) = List.lookup k r := by
  simp only [List.lookup, h]
theorem put_here {f : Str} {v x : V} {r : List (Str × V)} : putF f v ((f, x) :: r) = (f, v) :: r := if_pos rfl
theorem put_past {f g : Str} {v x : V} {r : List (Str × V)} (h : ¬ g = f) : putF f v ((g, x) :: r) = (g, x) :: putF f v r := if_neg h
/-- where an instance's parts stand, its dicts' keys in order -/
structure IA where
  dx : Addr
  ct : Addr
  pd : Addr
  vd : Addr
  cl : Addr
  cx : Addr
  cy : Addr
  kp : List (Nat × Nat)
  kv : List ((Nat × Nat) × Nat)
def IA.fs (m : IA) : List (Str × V) := [("counts", .ref m.ct), ("possible", .ref m.pd), ("values_of", .ref m.vd), ("codes", .ref m.cl)]
/-- what may change -/
def IA.fp (m : IA) (i : Addr) : List Addr := [i, m.pd, m.vd, m.cl, m.cx, m.cy]
def dP (kp : List (Nat × Nat)) : List (List Key × V) := kp.map fun p => (kk p, V.bl true)
def dV (kv : List ((Nat × Nat) × Nat)) : List (List Key × V) := kv.map fun e => (kk e.1, V.int (e.2 : Int))
structure InstAt (CI : Addr) (H : Hp) (i : Addr) (s : Session) (m : IA) : Prop where
  ins : H i = some (.ins CI m.dx m.fs)
  cnt : H m.ct = some (.tup [.int (s.sources.xCount : Int), .int (s.sources.yCount : Int)])
  pos : H m.pd = some (.dT (dP m.kp))
  val : H m.vd = some (.dT (dV m.kv))
  cod : H m.cl = some (.lst [.ref m.cx, .ref m.cy])
  xco : H m.cx = some (.lst (intsV s.xCode))
  yco : H m.cy = some (.lst (intsV s.yCode))
  d1 : m.cl ≠ m.cx
  d2 : m.cl ≠ m.cy
  d3 : m.cx ≠ m.cy
  d4 : m.pd ≠ m.vd
  ok : SesOk s m.kp m.kv
theorem InstAt.same {CI : Addr} {H H' : Hp} {i : Addr} {s : Session} {m : IA} (h : InstAt CI H i s m) (k : Same H H') : InstAt CI H' i s m :=
  ⟨k _ _ h.ins, k _ _ h.cnt, k _ _ h.pos, k _ _ h.val, k _ _ h.cod, k _ _ h.xco, k _ _ h.yco, h.d1, h.d2, h.d3, h.d4, h.ok⟩
theorem fs_counts (m : IA) : m.fs.lookup ("counts" : Str) = some (.ref m.ct) := lk_here
theorem fs_possible (m : IA) : m.fs.lookup ("possible" : Str) = some (.ref m.pd) := (lk_past (by decide +kernel)).trans lk_here
theorem fs_values (m : IA) : m.fs.lookup ("values_of" : Str) = some (.ref m.vd) := (lk_past (by decide +kernel)).trans ((lk_past (by decide +kernel)).trans lk_here)
theorem fs_codes (m : IA) : m.fs.lookup ("codes" : Str) = some (.ref m.cl) := (lk_past (by decide +kernel)).trans ((lk_past (by decide +kernel)).trans ((lk_past (by decide +kernel)).trans lk_here))
theorem fs_none {x : Str} (m : IA) (h1 : (x == ("counts" : Str)) = false) (h2 : (x == ("possible" : Str)) = false) (h3 : (x == ("values_of" : Str)) = false) (h4 : (x == ("codes" : Str)) = false) : m.fs.lookup x = none :=
  (lk_past h1).trans ((lk_past h2).trans ((lk_past h3).trans ((lk_past h4).trans rfl)))
theorem put_counts (m : IA) (a : Addr) : putF "counts" (.ref a) m.fs = { m with ct := a }.fs := put_here
theorem put_possible (m : IA) (a : Addr) : putF "possible" (.ref a) m.fs = { m with pd := a }.fs := (put_past (by decide +kernel)).trans (congrArg _ put_here)
theorem put_values (m : IA) (a : Addr) : putF "values_of" (.ref a) m.fs = { m with vd := a }.fs := (put_past (by decide +kernel)).trans (congrArg _ ((put_past (by decide +kernel)).trans (congrArg _ put_here)))
theorem put_codes (m : IA) (a : Addr) : putF "codes" (.ref a) m.fs = { m with cl := a }.fs := (put_past (by decide +kernel)).trans (congrArg _ ((put_past (by decide +kernel)).trans (congrArg _ ((put_past (by decide +kernel)).trans (congrArg _ put_here)))))
/-- what the top has written of the class Instance -/
structure ClsI (K : PySem.W.Frag) (CI : Addr) : Prop where
  cl : Cls K CI
  nC : NoAttr K CI "counts"
  nP : NoAttr K CI "possible"
  nV : NoAttr K CI "values_of"
  nK : NoAttr K CI "codes"
/-- a method of the class as it stands behind the top -/
structure MetAt (K : PySem.W.Frag) (CI : Addr) (x qual : Str) (st : Stmt) (ps : List Str) : Prop where
  ex : ∃ f fd, L2.Fun K x qual st f fd ∧ Meth K CI x f ∧ Binds K fd ps []
abbrev Met := C8.Met
section
variable {P : Program} {w : World} {K : PySem.W.Frag} {mg : Str → Option Value} {base : Heap}
theorem MetAt.met {CI : Addr} {x qual : Str} {st : Stmt} {N ps : List Str} {k : Nat} {sp : Sp} (D : MetAt K CI x qual st ps) (c : Cls K CI) (S : FnScope N ps (defScope st)) (len : ∀ vs H Q E, sp vs H Q E → vs.length = ps.length)
    (hbody : ∀ (f : Addr) (cdv : Value) (A : Around) (outer : List Env) (s : Shared) (H : Hp) (vs : List V) (Q : VK) (E : XK), Room k (A.deeper (envOfC qual (defScope st) s.heap.objs.size f cdv)) → sp vs H Q E →
      ∃ t, PSs (cxOf CX0 P w K mg base N qual (defScope st) f cdv A outer s H E).nox (defBody st) t ∧ t { nx := fun _ H' => Q .non H', rt := Q } (start N vs) H) : Met P w K mg base (k + 1) CI x sp [] := by
  obtain ⟨f, fd, F, hm, hb⟩ := D.ex
  exact ⟨f, fd, ps, [], c, hm, F.ok S len (hbody f), hb, .nil⟩
end
/-! ### pairs that are keys -/
def PairH (H : Hp) (v : V) (p : Nat × Nat) : Prop := ∃ a, v = .ref a ∧ H a = some (.tup [.int (p.1 : Int), .int (p.2 : Int)])
abbrev PairsS (K : PySem.W.Frag) (H : Hp) (v : V) (l : List (Nat × Nat)) : Prop := ListOf (PairH H) K H v l
theorem PairH.t {K : PySem.W.Frag} {H : Hp} {v : V} {p : Nat × Nat} : PairH H v p → PairT K H v p := fun ⟨a, e, h⟩ => ⟨a, e, SqT.of h⟩
theorem PairH.same {H H' : Hp} {v : V} {p : Nat × Nat} (s : Same H H') : PairH H v p → PairH H' v p := fun ⟨a, e, h⟩ => ⟨a, e, s _ _ h⟩
theorem pairsS_l {K : PySem.W.Frag} {H : Hp} {v : V} {l : List (Nat × Nat)} : PairsS K H v l → PairsL K H v l := fun ⟨a, vs, e, h, p⟩ => ⟨a, vs, e, h, Paired.mapP p fun _ _ q => q.t⟩
theorem pairsS_same {K : PySem.W.Frag} {H H' : Hp} {v : V} {l : List (Nat × Nat)} (s : Same H H') : PairsS K H v l → PairsS K H' v l := fun ⟨a, vs, e, h, p⟩ => ⟨a, vs, e, s.seq h, Paired.mapP p fun _ _ q => q.same s⟩
theorem kk_kV (p : Nat × Nat) : (kk p).map kV = [V.int (p.1 : Int), V.int (p.2 : Int)] := rfl
def castP (p : Nat × Nat) : Int × Int := ((p.1 : Int), (p.2 : Int))
def toN (q : Int × Int) : Nat × Nat := (q.1.toNat, q.2.toNat)
theorem toN_cast (p : Nat × Nat) : toN (castP p) = p := rfl
theorem code5 (p : Nat × Nat) : TS.code 5 [(castP p).1, (castP p).2] = ((5 * p.1 + p.2 : Nat) : Int) := by
  show (p.1 : Int) * 5 ^ 1 + ((p.2 : Int) * 5 ^ 0 + 0) = _
  have e1 : (5 : Int) ^ 1 = 5 := by decide
  have e0 : (5 : Int) ^ 0 = 1 := by decide
  rw [e1, e0]
  omega
theorem sorted_pairs {qs : List (Int × Int)} {kp l : List (Nat × Nat)} (pm : qs.Perm (kp.map castP)) (hn : kp.Nodup) (hb : ∀ p ∈ kp, p.1 < 5 ∧ p.2 < 5) (pw : qs.Pairwise (fun x y => TS.code 5 [x.1, x.2] ≤ TS.code 5 [y.1, y.2]))
    (hl : l.Pairwise TCM.before) (hm : ∀ p, p ∈ kp ↔ p ∈ l) : qs = l.map castP := by
  have inv : ∀ q ∈ qs, castP (toN q) = q := fun q hq => by
    obtain ⟨p, _, rfl⟩ := List.mem_map.mp (pm.mem_iff.mp hq)
    rfl
  have e1 : (qs.map toN).map castP = qs := by
    rw [List.map_map]
    exact (List.map_congr_left inv).trans (List.map_id qs)
  have p2 : (qs.map toN).Perm kp := by
    have := pm.map toN
    rw [List.map_map] at this
    exact this.trans (by rw [show (toN ∘ castP) = id from rfl, List.map_id])
  have n2 : (qs.map toN).Nodup := p2.nodup_iff.mpr hn
  have pw2 : (qs.map toN).Pairwise (fun a b => 5 * a.1 + a.2 ≤ 5 * b.1 + b.2) := by
    rw [← e1, List.pairwise_map] at pw
    refine List.Pairwise.imp (fun {a b} h => ?_) pw
    rw [code5, code5] at h
    omega
  have pw3 : (qs.map toN).Pairwise TCM.before := by
    refine List.Pairwise.imp_of_mem (fun {a b} ha hb' h => ?_) (List.pairwise_and_iff.mpr ⟨pw2, n2⟩)
    have h1 := hb a (p2.mem_iff.mp ha)
    have h2 := hb b (p2.mem_iff.mp hb')
    have h3 : ¬ (a.1 = b.1 ∧ a.2 = b.2) := fun z => h.2 (Prod.ext z.1 z.2)
    unfold TCM.before
    omega
  rw [← e1, TCM.sorted_one pw3 hl fun p => (p2.mem_iff).trans (hm p)]
theorem paired_at {H : Hp} : ∀ {as : List Addr} {l : List (Nat × Nat)}, PairsAt H as (l.map castP) → Paired (PairH H) (as.map V.ref) l
  | [], [], _ => .nil
  | [], _ :: _, h => absurd h.len (by simp)
  | _ :: _, [], h => absurd h.len (by simp)
  | a :: as, p :: l, h => by
    refine .cons ⟨a, rfl, h.at_ 0 a (castP p) rfl rfl⟩ (paired_at ⟨by have := h.len; simpa using this, fun i b q h1 h2 => h.at_ (i + 1) b q (by simpa using h1) (by simpa using h2)⟩)
theorem pairsAt_same {H H' : Hp} {as : List Addr} {ps : List (Int × Int)} (s : Same H H') (h : PairsAt H as ps) : PairsAt H' as ps := ⟨h.len, fun i b p h1 h2 => s _ _ (h.at_ i b p h1 h2)⟩
theorem dV_look (k : Nat × Nat) : ∀ kv : List ((Nat × Nat) × Nat), valV (dV kv) (kk k) = (TCM.glook kv k).map fun n => V.int (n : Int)
  | [] => rfl
  | e :: kv => by
    have ih := dV_look k kv
    show valV ((kk e.1, V.int (e.2 : Int)) :: dV kv) (kk k) = _
    by_cases c : e.1 = k
    · rw [valV_pos (p := (kk e.1, V.int (e.2 : Int))) (by rw [c]), TCM.glook_pos c]
      rfl
    · rw [valV_neg (p := (kk e.1, V.int (e.2 : Int))) (fun z => c (kk_inj z)), TCM.glook_neg c, ih]
theorem dP_look (k : Nat × Nat) : ∀ kp : List (Nat × Nat), valV (dP kp) (kk k) = if k ∈ kp then some (V.bl true) else none
  | [] => rfl
  | p :: kp => by
    have ih := dP_look k kp
    show valV ((kk p, V.bl true) :: dP kp) (kk k) = _
    by_cases c : p = k
    · rw [valV_pos (p := (kk p, V.bl true)) (by rw [c]), if_pos (by rw [c]; exact List.mem_cons_self)]
    · rw [valV_neg (p := (kk p, V.bl true)) (fun z => c (kk_inj z)), ih]
      by_cases m : k ∈ kp
      · rw [if_pos m, if_pos (List.mem_cons_of_mem _ m)]
      · rw [if_neg m, if_neg (fun z => (List.mem_cons.mp z).elim (fun e => c e.symm) m)]

abbrev topM (j : Nat) : Stmt := inClass (topS 14) j
theorem scHas : FnScope ["self", "x", "y"] ["self", "x", "y"] (defScope (topM 1)) := ⟨rfl, rfl, rfl, by decide +kernel, rfl, by decide +kernel, by decide +kernel⟩
theorem scPairs : FnScope ["self"] ["self"] (defScope (topM 2)) := ⟨rfl, rfl, rfl, by decide +kernel, rfl, by decide +kernel, by decide +kernel⟩
theorem scValue : FnScope ["self", "pair"] ["self", "pair"] (defScope (topM 3)) := ⟨rfl, rfl, rfl, by decide +kernel, rfl, by decide +kernel, by decide +kernel⟩
abbrev nTold : List Str := ["self", "is_function", "pair"]
theorem scTold : FnScope nTold ["self", "is_function"] (defScope (topM 4)) := ⟨rfl, rfl, rfl, by decide +kernel, rfl, by decide +kernel, by decide +kernel⟩
abbrev nDec : List Str := ["self", "x_message", "y_message", "x", "y"]
theorem scDec : FnScope nDec ["self", "x_message", "y_message"] (defScope (topM 5)) := ⟨rfl, rfl, rfl, by decide +kernel, rfl, by decide +kernel, by decide +kernel⟩
def spHas (CI : Addr) : Sp := fun vs H Q _ => ∃ (i : Addr) (s : Session) (m : IA) (x y : Nat), vs = [.ref i, .int (x : Int), .int (y : Int)] ∧ InstAt CI H i s m ∧ Q (.bl (decide (x < s.sources.xCount) && decide (y < s.sources.yCount))) H
def spPairs (K : PySem.W.Frag) (CI : Addr) : Sp := fun vs H Q _ => ∃ (i : Addr) (s : Session) (m : IA), vs = [.ref i] ∧ InstAt CI H i s m ∧ ∀ H' v, Same H H' → PairsS K H' v (possiblePairs s.sources) → Q v H'
def spValue (CI : Addr) : Sp := fun vs H Q _ => ∃ (i b : Addr) (s : Session) (m : IA) (x y : Nat), vs = [.ref i, .ref b] ∧ InstAt CI H i s m ∧ H b = some (.tup [.int (x : Int), .int (y : Int)]) ∧ x < s.sources.xCount ∧ y < s.sources.yCount ∧ Q (.int ((Km540.value s.sources x y : Nat) : Int)) H
def spTold (K : PySem.W.Frag) (CI : Addr) : Sp := fun vs H Q _ => ∃ (i : Addr) (f : Bool) (s : Session) (m : IA), vs = [.ref i, .bl f] ∧ InstAt CI H i s m ∧ ∀ H' v, Same H H' → ValsL K H' v ((possiblePairs s.sources).map (valF s.sources f)) → Q v H'
/-- a list of the pair found, or an empty one -/
def OnePair (K : PySem.W.Frag) (H : Hp) (a : Addr) : Option (Nat × Nat) → Prop
  | none => SqL K H a []
  | some p => ∃ x, SqL K H a [x] ∧ PairH H x p
def spDec (K : PySem.W.Frag) (CI : Addr) : Sp := fun vs H Q _ => ∃ (i : Addr) (s : Session) (m : IA) (a b : Nat), vs = [.ref i, .int (a : Int), .int (b : Int)] ∧ InstAt CI H i s m ∧ ∀ H' l, Same H H' → OnePair K H' l (Km540.decode s.sources s.xCode s.yCode a b) → Q (.ref l) H'
section
variable {P : Program} {w : World} {K : PySem.W.Frag} {mg : Str → Option Value} {base : Heap} {CI : Addr}
theorem ok_has (C : ClsI K CI) (D : MetAt K CI "has" "Instance.has" (topM 1) ["self", "x", "y"]) : Met P w K mg base 1 CI "has" (spHas CI) [] := by
  refine D.met C.cl scHas (fun vs H Q E h => ?_) (fun f cdv A outer s H vs Q E hr h => ⟨_, pss_one (ps_ret (pe_and (pe_cmp (pc_lt (pv 1) (pe_ix ix_any (pe_fld (pv 0) rfl) pe_int (fun _ _ => rfl)))) (pe_one (pe_cmp (pc_lt (pv 2) (pe_ix ix_any (pe_fld (pv 0) rfl) pe_int (fun _ _ => rfl))))))), ?_⟩)
  · obtain ⟨i, s, m, x, y, rfl, _⟩ := h
    rfl
  · obtain ⟨i, s, m, x, y, rfl, hi, q⟩ := h
    refine ⟨_, rfl, _, rfl, i, CI, _, _, _, rfl, hi.ins, C.cl, C.nC, fs_counts m, m.ct, 0, _, _, rfl, rfl, .inr (SqT.of hi.cnt), rfl, _, _, rfl, rfl, _, congrArg V.bl (dec_lt x _), ?_⟩
    cases e : decide (x < s.sources.xCount) with
    | true =>
      rw [e, Bool.true_and] at q
      refine iteT ⟨_, rfl, _, rfl, i, CI, _, _, _, rfl, hi.ins, C.cl, C.nC, fs_counts m, m.ct, 1, _, _, rfl, rfl, .inr (SqT.of hi.cnt), rfl, _, _, rfl, rfl, ?_⟩
      rw [← dec_lt y s.sources.yCount] at q
      exact q
    | false =>
      rw [e, Bool.false_and] at q
      exact iteF q
theorem ok_pairs (T : Txt mg) (C : ClsI K CI) (D : MetAt K CI "pairs" "Instance.pairs" (topM 2) ["self"]) : Met P w K mg base 1 CI "pairs" (spPairs K CI) [] := by
  refine D.met C.cl scPairs (fun vs H Q E h => ?_) (fun f cdv A outer s H vs Q E hr h => ⟨_, pss_one (ps_ret (pe_callB (cr_sortedDT (B := 5) rfl) (by rfl) T.sorted (by decide +kernel) (pa_cons (pe_fld (pv 0) rfl) pa_nil))), ?_⟩)
  · obtain ⟨i, s, m, rfl, _⟩ := h
    rfl
  · obtain ⟨i, s, m, rfl, hi, q⟩ := h
    have few := hi.ok.few
    refine ⟨_, rfl, i, CI, _, _, _, rfl, hi.ins, C.cl, C.nP, fs_possible m, m.pd, dP m.kp, m.kp.map castP, rfl, hi.pos, ?_, by rw [List.length_map]; omega, fun p hp => ?_, fun qs as p pm pw pa hp => ?_⟩
    · unfold dP
      rw [List.map_map, List.map_map]
      rfl
    · obtain ⟨k, hk, rfl⟩ := List.mem_map.mp hp
      have b := hi.ok.in_ hk
      have x5 := hi.ok.x5
      have y5 := hi.ok.y5
      intro n hn
      rcases List.mem_cons.mp hn with e | hn
      · rw [e]; show (0 : Int) ≤ (k.1 : Int) ∧ (k.1 : Int) < 5; omega
      · rw [List.mem_singleton.mp hn]; show (0 : Int) ≤ (k.2 : Int) ∧ (k.2 : Int) < 5; omega
    · have e := sorted_pairs pm hi.ok.nodup (fun k hk => by
        have b := hi.ok.in_ hk
        have x5 := hi.ok.x5
        have y5 := hi.ok.y5
        omega) pw (TCM.possible_sorted s.sources) hi.ok.poss
      rw [e] at pa
      exact q _ _ (same_upd hp) ⟨p, _, rfl, SqL.of upd_same, paired_at (pairsAt_same (same_upd hp) pa)⟩
theorem ok_value (C : ClsI K CI) (D : MetAt K CI "value" "Instance.value" (topM 3) ["self", "pair"]) : Met P w K mg base 1 CI "value" (spValue CI) [] := by
  refine D.met C.cl scValue (fun vs H Q E h => ?_) (fun f cdv A outer s H vs Q E hr h => ⟨_, pss_one (ps_ret (pe_dget2 (hu_of hr) (pe_fld (pv 0) rfl) (pv 1) pe_int ⟨rfl, rfl, rfl, rfl⟩)), ?_⟩)
  · obtain ⟨i, b, s, m, x, y, rfl, _⟩ := h
    rfl
  · obtain ⟨i, b, s, m, x, y, rfl, hi, hb, hx, hy, q⟩ := h
    refine ⟨_, rfl, i, CI, _, _, _, rfl, hi.ins, C.cl, C.nV, fs_values m, m.vd, rfl, .inr ⟨_, .inl hi.val⟩, _, rfl, _, DGet.t (k := kk (x, y)) hi.val (by rw [kk_kV]; exact hb), ?_⟩
    rw [dV_look]
    have e := hi.ok.vals x y hx hy
    rw [← e] at q
    cases g : TCM.glook m.kv (x, y) with
    | none => rw [g] at q; exact q
    | some n => rw [g] at q; exact q
theorem ok_told (C : ClsI K CI) (D : MetAt K CI "told" "Instance.told" (topM 4) ["self", "is_function"]) (c1 : Met P w K mg base 1 CI "pairs" (spPairs K CI) []) (c2 : Met P w K mg base 1 CI "value" (spValue CI) []) : Met P w K mg base 2 CI "told" (spTold K CI) [] := by
  refine D.met C.cl scTold (fun vs H Q E h => ?_) (fun f cdv A outer s H vs Q E hr h => ⟨_, pss_cons (ps_if (pt_val (pv 1)) (pss_one (ps_ret
      (pe_lc (own := [("pair", 2)]) (g := gName 2) (tt := tYes) (te := tMeth CI "value" (spValue CI) [] E0 (tVar 0) (tCons (tVar 2) tNil)) rfl scTold.nd (pi_list (C8.pe_mt0 c1 hr (Nat.le_refl _) (pv 0))) (blkOk_by (N := nTold) (sc := defScope (topM 4)) (by decide +kernel))
        (fun _ _ _ _ _ => pg_name (i := 2) scTold.nd rfl (.inl rfl)) (fun _ _ _ _ _ => pts_nil) (fun _ _ _ _ _ => C8.pe_mt c2 hr (Nat.le_refl _) (pv 0) (pa_cons (pv 2) pa_nil))))) pss_nil)
    (pss_one (ps_ret (C8.pe_mt0 c1 hr (Nat.le_refl _) (pv 0)))), ?_⟩)
  · obtain ⟨i, f, s, m, rfl, _⟩ := h
    rfl
  · obtain ⟨i, f, s, m, rfl, hi, q⟩ := h
    have nf : ∀ {x : Str}, (x == ("counts" : Str)) = false → (x == ("possible" : Str)) = false → (x == ("values_of" : Str)) = false → (x == ("codes" : Str)) = false → m.fs.lookup x = none := fun h1 h2 h3 h4 => fs_none m h1 h2 h3 h4
    refine ⟨_, rfl, f, rfl, ?_⟩
    cases f with
    | false =>
      refine iteF ?_
      refine ⟨_, rfl, i, m.dx, m.fs, rfl, hi.ins, nf (by decide +kernel) (by decide +kernel) (by decide +kernel) (by decide +kernel), i, s, m, rfl, hi, fun H' v s1 hv => q H' v s1 ?_⟩
      obtain ⟨a, vs, rfl, ha, hp⟩ := hv
      refine ⟨a, vs, rfl, ha, ?_⟩
      have key : ∀ {vs : List V} {l : List (Nat × Nat)}, Paired (PairH H') vs l → Paired (TvT K H') vs (l.map (valF s.sources false)) := by
        intro vs l h
        induction h with
        | nil => exact .nil
        | cons h t ih =>
          obtain ⟨b, e, hb⟩ := h
          exact .cons ⟨b, e, SqT.of hb⟩ ih
      exact key hp
    | true =>
      refine iteT ?_
      refine ⟨_, rfl, i, m.dx, m.fs, rfl, hi.ins, nf (by decide +kernel) (by decide +kernel) (by decide +kernel) (by decide +kernel), i, s, m, rfl, hi, fun H1 v s1 hv => ?_⟩
      obtain ⟨a, vs, rfl, ha, hp⟩ := hv
      have few := TCM.possible_few hi.ok.x5 hi.ok.y5
      refine ⟨a, rfl, ⟨_, ha⟩, fun D hD => lc_list (K := K) (a := a) (xs := vs) (fun t H3 => ∃ ws : List V, H3 D = some (.lst ws) ∧ Same H1 H3 ∧ Paired (TvT K H3) ws (((possiblePairs s.sources).take t).map (valF s.sources true))) ?_ (fun t H3 _ ⟨_, _, s3, _⟩ => s3.seq ha) ?_ ?_⟩
      · exact ⟨[], upd_same, same_upd hD, .nil⟩
      · rintro t x H3 ht ⟨ws, hD3, s3, hw⟩
        obtain ⟨p, hp', b, rfl, hb⟩ := pget hp ht
        have pin := TCM.mem_possible.mp (show (p.1, p.2) ∈ possiblePairs s.sources from List.mem_of_getElem? hp')
        refine ⟨rfl, _, rfl, i, m.dx, m.fs, rfl, (hi.same (s1.trans s3)).ins, nf (by decide +kernel) (by decide +kernel) (by decide +kernel) (by decide +kernel), _, rfl, i, b, s, m, p.1, p.2, rfl, hi.same (s1.trans s3), s3 _ _ hb, pin.1, pin.2.1, ?_⟩
        have tk := tk_lst (o := .lst (ws ++ [.int ((Km540.value s.sources p.1 p.2 : Nat) : Int)])) hD3
        refine ⟨ws, hD3, ?_, _, upd_same, same_new s3 hD, ?_⟩
        · have l1 := Paired.length hw
          rw [List.length_map] at l1
          have l2 := List.length_take_le' t (possiblePairs s.sources)
          rw [sizeLine_eq]
          omega
        · rw [take_more hp', List.map_append]
          exact paired_app (Paired.mapP hw fun _ _ z => z.keep tk) (.cons rfl .nil)
      · rintro H3 ⟨ws, hD3, s3, hw⟩
        rw [Paired.length hp, List.take_length] at hw
        exact q H3 _ (s1.trans s3) ⟨D, ws, rfl, SqL.of hD3, hw⟩
theorem ok_dec (C : ClsI K CI) (D : MetAt K CI "decoded" "Instance.decoded" (topM 5) ["self", "x_message", "y_message"]) (c1 : Met P w K mg base 1 CI "pairs" (spPairs K CI) []) : Met P w K mg base 2 CI "decoded" (spDec K CI) [] := by
  refine D.met C.cl scDec (fun vs H Q E h => ?_) (fun f cdv A outer s H vs Q E hr h => ⟨_, pss_cons (ps_for PassesOwn.never rfl (pi_list (C8.pe_mt0 c1 hr (Nat.le_refl _) (pv 0))) (pg_tup rfl (pgs_cons (pg_name (i := 3) scDec.nd rfl (.inl rfl)) (pgs_cons (pg_name (i := 4) scDec.nd rfl (.inl rfl)) pgs_nil)))
      (pss_one (ps_if (PW.pt (pw_and (pt_cmp (pc_eqI (pe_ix ix_any (pe_ix ix_any (pe_fld (pv 0) rfl) pe_int (fun _ _ => rfl)) (pv 3) (fun _ _ => rfl)) (pv 1))) (pw_and1 (pt_cmp (pc_eqI (pe_ix ix_any (pe_ix ix_any (pe_fld (pv 0) rfl) pe_int (fun _ _ => rfl)) (pv 4) (fun _ _ => rfl)) (pv 2))))))
        (pss_one (ps_ret (pe_lst (pa_cons (pe_tup (pa_cons (pv 3) (pa_cons (pv 4) pa_nil))) pa_nil)))) pss_nil)))
    (pss_one (ps_ret (pe_lst pa_nil))), ?_⟩)
  · obtain ⟨i, s, m, a, b, rfl, _⟩ := h
    rfl
  · obtain ⟨i, s, m, ma, mb, rfl, hi, q⟩ := h
    have nf : ∀ {x : Str}, (x == ("counts" : Str)) = false → (x == ("possible" : Str)) = false → (x == ("values_of" : Str)) = false → (x == ("codes" : Str)) = false → m.fs.lookup x = none := fun h1 h2 h3 h4 => fs_none m h1 h2 h3 h4
    refine ⟨_, rfl, i, m.dx, m.fs, rfl, hi.ins, nf (by decide +kernel) (by decide +kernel) (by decide +kernel) (by decide +kernel), i, s, m, rfl, hi, fun H1 v s1 hv => ?_⟩
    obtain ⟨a, vs, rfl, ha, hp⟩ := hv
    refine ⟨a, rfl, ⟨_, ha⟩, for_list (K := K) (a := a) (xs := vs) (fun t σ H2 => ∃ (x3 x4 : Option V), σ = [some (.ref i), some (.int (ma : Int)), some (.int (mb : Int)), x3, x4] ∧ Same H1 H2 ∧
      ∀ p ∈ (possiblePairs s.sources).take t, (s.xCode.getD p.1 0 == ma && s.yCode.getD p.2 0 == mb) = false) ?_ (fun i σ H2 _ ⟨_, _, _, s2, _⟩ => s2.seq ha) ?_ ?_⟩
    · exact ⟨_, _, rfl, Same.refl H1, fun p hp => absurd hp (by simp)⟩
    · rintro t x σ H2 ht ⟨x3, x4, rfl, s2, no⟩
      obtain ⟨p, hp', b, rfl, hb⟩ := pget hp ht
      have pin := TCM.mem_possible.mp (show (p.1, p.2) ∈ possiblePairs s.sources from List.mem_of_getElem? hp')
      have h2 := hi.same (s1.trans s2)
      have next : (s.xCode.getD p.1 0 == ma && s.yCode.getD p.2 0 == mb) = false → ∀ p ∈ (possiblePairs s.sources).take (t + 1), (s.xCode.getD p.1 0 == ma && s.yCode.getD p.2 0 == mb) = false := fun e r hr => by
        rw [take_more hp'] at hr
        rcases List.mem_append.mp hr with z | z
        · exact no r z
        · rw [List.mem_singleton.mp z]; exact e
      have xl : p.1 < s.xCode.length := by rw [hi.ok.xlen]; exact pin.1
      have yl : p.2 < s.yCode.length := by rw [hi.ok.ylen]; exact pin.2.1
      refine ⟨b, _, rfl, SqT.of (s2 _ _ hb), rfl, _, _, rfl, _, _, rfl, rfl, ?_⟩
      refine tAnd_of (s.xCode.getD p.1 0 == ma) (fun Q q => ⟨_, rfl, i, CI, _, _, _, rfl, h2.ins, C.cl, C.nK, fs_codes m, m.cl, 0, _, _, rfl, rfl, .inl (SqL.of h2.cod), rfl, _, rfl, m.cx, p.1, _, _, rfl, rfl, .inl (SqL.of h2.xco), intsV_at xl, _, rfl, _, _, rfl, rfl, _, congrArg V.bl (TCM.bc (by simp; omega)), q⟩) (fun e => ?_) (fun e => ?_)
      · refine ⟨_, rfl, i, CI, _, _, _, rfl, h2.ins, C.cl, C.nK, fs_codes m, m.cl, 1, _, _, rfl, rfl, .inl (SqL.of h2.cod), rfl, _, rfl, m.cy, p.2, _, _, rfl, rfl, .inl (SqL.of h2.yco), intsV_at yl, _, rfl, _, _, rfl, rfl, (s.yCode.getD p.2 0 == mb), congrArg V.bl (TCM.bc (by simp; omega)), ?_⟩
        cases e2 : (s.yCode.getD p.2 0 == mb) with
        | true =>
          refine iteT ⟨_, rfl, _, rfl, (by show 2 ≤ sizeLine; decide), fun tp htp => ⟨(by show 1 ≤ sizeLine; decide), fun l hl => q _ l (same_then (same_then (s1.trans s2) htp) hl) ?_⟩⟩
          have e3 : Km540.decode s.sources s.xCode s.yCode ma mb = some p := by
            rw [TCM.decode_is, TCM.find_idx (0, 0), idx_some (f := fun p => s.xCode.getD p.1 0 == ma && s.yCode.getD p.2 0 == mb) no hp' (by show (s.xCode.getD p.1 0 == ma && s.yCode.getD p.2 0 == mb) = true; rw [e, e2]; rfl)]
            show some ((possiblePairs s.sources).getD t (0, 0)) = some p
            rw [List.getD_eq_getElem?_getD, hp']
            rfl
          rw [e3]
          exact ⟨.ref tp, SqL.of upd_same, tp, rfl, by rw [upd_ne (ne_of_none upd_same hl)]; exact upd_same⟩
        | false => exact iteF ⟨_, _, rfl, s2, next (by rw [e2, Bool.and_false])⟩
      · exact iteF ⟨_, _, rfl, s2, next (by rw [e, Bool.false_and])⟩
    · rintro σ H2 ⟨x3, x4, rfl, s2, no⟩
      rw [Paired.length hp, List.take_length] at no
      refine ⟨(by show 0 ≤ sizeLine; decide), fun l hl => q _ l (same_then (s1.trans s2) hl) ?_⟩
      have e3 : Km540.decode s.sources s.xCode s.yCode ma mb = none := by
        rw [TCM.decode_is]
        exact List.find?_eq_none.mpr fun p hp => by rw [no p hp]; simp
      rw [e3]
      exact SqL.of upd_same
end
end TC
/-! The walks, 7: Instance.__init__, swap; Holder.__init__. -/
namespace TC
open PySem PySem.Spec PyProof.Rows L2
open TCM (Tv valF SesOk swapP swapV)
open Km540 (Session possiblePairs)
/-! ### what is kept but for some places -/
def KeepBut (H H' : Hp) (S : List Addr) : Prop := ∀ b o, H b = some o → b ∉ S → H' b = some o
theorem KeepBut.of {H H' : Hp} {S : List Addr} (s : Same H H') : KeepBut H H' S := fun b o h _ => s b o h
theorem KeepBut.same {H H' : Hp} (k : KeepBut H H' []) : Same H H' := fun b o h => k b o h (by simp)
theorem KeepBut.trans {H H1 H2 : Hp} {S : List Addr} (a : KeepBut H H1 S) (b : KeepBut H1 H2 S) : KeepBut H H2 S := fun c o h hs => b c o (a c o h hs) hs
theorem KeepBut.mono {H H1 : Hp} {S S' : List Addr} (a : KeepBut H H1 S) (h : ∀ b ∈ S, b ∈ S') : KeepBut H H1 S' := fun c o e hs => a c o e fun z => hs (h c z)
theorem KeepBut.new {H H1 : Hp} {S : List Addr} {q : Addr} {o : HO} (a : KeepBut H H1 S) (hq : H1 q = none) : KeepBut H (upd H1 q o) S := fun c u e hs => by
  have h1 := a c u e hs
  rw [upd_ne (ne_of_none h1 hq)]
  exact h1
theorem KeepBut.upd {H H1 : Hp} {S : List Addr} {q : Addr} {o : HO} (a : KeepBut H H1 S) (hq : q ∈ S ∨ H q = none) : KeepBut H (L2.upd H1 q o) S := fun c u e hs => by
  have hne : c ≠ q := by
    rintro rfl
    rcases hq with z | z
    · exact hs z
    · rw [z] at e; cases e
  rw [upd_ne hne]
  exact a c u e hs
/-- what was new at the beginning need not be told -/
theorem KeepBut.less {H H1 H2 : Hp} {S : List Addr} {q : Addr} (a : KeepBut H H1 S) (b : KeepBut H1 H2 [q]) (hq : H q = none) : KeepBut H H2 S := fun c o e hs => b c o (a c o e hs) (by
  simp only [List.mem_singleton]
  exact ne_of_none e hq)
theorem lock_back {Hk H' : Hp} {d np : Addr} {u : HO} {od : Obj} (hd : Hk d = some u) (k : KeepBut (L2.upd Hk d (.frz od u)) H' [np]) : KeepBut Hk (L2.upd H' d u) [np] := fun b o e hb => by
  by_cases z : b = d
  · subst z
    rw [hd] at e
    cases e
    exact upd_same
  · rw [upd_ne z]
    exact k b o (by rw [upd_ne z]; exact e) hb
theorem mem1 {a b : Addr} : a ∉ [b] ↔ a ≠ b := by simp

abbrev nInit : List Str := ["self", "x_count", "y_count"]
theorem scInit : FnScope nInit ["self", "x_count", "y_count"] (defScope (topM 0)) := ⟨rfl, rfl, rfl, by decide +kernel, rfl, by decide +kernel, by decide +kernel⟩
def spInit (CI : Addr) : Sp := fun vs H Q _ => ∃ (p dx : Addr) (x y : Nat), vs = [.ref p, .int (x : Int), .int (y : Int)] ∧ H p = some (.ins CI dx []) ∧ 1 ≤ x ∧ x ≤ 5 ∧ 1 ≤ y ∧ y ≤ 5 ∧
  ∀ (H' : Hp) (m : IA), InstAt CI H' p (TCM.freshS x y) m → KeepBut H H' [p] → (∀ b ∈ [m.pd, m.vd, m.cl, m.cx, m.cy], H b = none) → Q .non H'
theorem rep_zero (n : Nat) : (List.replicate ((n : Int)).toNat [V.int 0]).flatten = intsV (List.replicate n 0) := by
  rw [Int.toNat_natCast]
  induction n with
  | zero => rfl
  | succ n ih =>
    rw [List.replicate_succ, List.flatten_cons, ih, List.replicate_succ]
    rfl
abbrev nSwap : List Str := ["self", "possible", "x", "y", "values"]
theorem scSwap : FnScope nSwap ["self"] (defScope (topM 6)) := ⟨rfl, rfl, rfl, by decide +kernel, rfl, by decide +kernel, by decide +kernel⟩
def Keep (H H' : Hp) (F F' : List Addr) : Prop := KeepBut H H' F ∧ ∀ b ∈ F', b ∈ F ∨ H b = none
def spSwap (CI : Addr) : Sp := fun vs H Q _ => ∃ (i : Addr) (s : Session) (m : IA), vs = [.ref i] ∧ InstAt CI H i s m ∧
  ∀ (H' : Hp) (m' : IA), InstAt CI H' i ⟨Km540.swapped s.sources, s.yCode, s.xCode⟩ m' → Keep H H' (m.fp i) (m'.fp i) → Q .non H'
theorem dP_snoc (kp : List (Nat × Nat)) (p : Nat × Nat) : dP kp ++ [(kk p, V.bl true)] = dP (kp ++ [p]) := by
  unfold dP
  rw [List.map_append]
  rfl
theorem dV_snoc (kv : List ((Nat × Nat) × Nat)) (e : (Nat × Nat) × Nat) : dV kv ++ [(kk e.1, V.int (e.2 : Int))] = dV (kv ++ [e]) := by
  unfold dV
  rw [List.map_append]
  rfl
theorem dP_at {kp : List (Nat × Nat)} {i : Nat} {k : List Key} {v : V} (h : (dP kp)[i]? = some (k, v)) : ∃ p, kp[i]? = some p ∧ k = kk p := by
  unfold dP at h
  rw [List.getElem?_map] at h
  cases e : kp[i]? with
  | none => rw [e] at h; cases h
  | some p => rw [e] at h; cases h; exact ⟨p, rfl, rfl⟩
theorem dV_at {kv : List ((Nat × Nat) × Nat)} {i : Nat} {k : List Key} {v : V} (h : (dV kv)[i]? = some (k, v)) : ∃ e, kv[i]? = some e ∧ k = kk e.1 := by
  unfold dV at h
  rw [List.getElem?_map] at h
  cases e : kv[i]? with
  | none => rw [e] at h; cases h
  | some p => rw [e] at h; cases h; exact ⟨p, rfl, rfl⟩
theorem not_take {A : Type} {l : List A} (h : l.Nodup) {i : Nat} {a : A} (ha : l[i]? = some a) : ¬ a ∈ l.take i := by
  intro m
  obtain ⟨j, hj⟩ := List.mem_iff_getElem?.mp m
  rw [List.getElem?_take] at hj
  by_cases z : j < i
  · rw [if_pos z] at hj
    have := nodup_ix' h hj ha
    omega
  · rw [if_neg z] at hj
    cases hj
where
  nodup_ix' {A : Type} {l : List A} (hN : l.Nodup) {i j : Nat} {x : A} (a : l[i]? = some x) (b : l[j]? = some x) : i = j := by
    obtain ⟨h1, e1⟩ := List.getElem?_eq_some_iff.mp a
    obtain ⟨h2, e2⟩ := List.getElem?_eq_some_iff.mp b
    exact (List.getElem_inj hN).mp (e1.trans e2.symm)
def f1 (ct : Addr) : List (Str × V) := [("counts", .ref ct)]
def f2 (ct pd : Addr) : List (Str × V) := [("counts", .ref ct), ("possible", .ref pd)]
def f3 (ct pd vd : Addr) : List (Str × V) := [("counts", .ref ct), ("possible", .ref pd), ("values_of", .ref vd)]
section
variable {P : Program} {w : World} {K : PySem.W.Frag} {mg : Str → Option Value} {base : Heap} {CI : Addr}
theorem ok_init {f : Addr} {fd : FuncData} (F : L2.Fun K "__init__" "Instance.__init__" (topM 0) f fd) (C : ClsI K CI) : FnOk P w K mg base CX0 1 f fd ["self", "x_count", "y_count"] (spInit CI) := by
  refine F.ok scInit (fun vs H Q E h => ?_) (fun cdv A outer s H vs Q E hr h => ⟨_, pss_cons (ps_fld (pv 0) (pe_tup (pa_cons (pv 1) (pa_cons (pv 2) pa_nil))) rfl)
    (pss_cons (ps_fld (pv 0) pe_dnewT rfl) (pss_cons (ps_fld (pv 0) pe_dnewT rfl)
    (pss_one (ps_fld (pv 0) (pe_lst (pa_cons (pe_op op_rep (pe_lst (pa_cons pe_int pa_nil)) (pv 1)) (pa_cons (pe_op op_rep (pe_lst (pa_cons pe_int pa_nil)) (pv 2)) pa_nil))) rfl)))), ?_⟩)
  · obtain ⟨p, dx, x, y, rfl, _⟩ := h
    rfl
  · obtain ⟨p, dx, x, y, rfl, hp, x1, x5, y1, y5, q⟩ := h
    refine ⟨_, rfl, _, rfl, (by show 2 ≤ sizeLine; decide), fun ct hct => ⟨_, rfl, p, CI, dx, [], rfl, (by rw [upd_ne (ne_of_none hp hct)]; exact hp), C.cl, C.nC, (by show 0 < 1000; decide), ?_⟩⟩
    generalize e1 : upd (upd H ct (.tup [.int (x : Int), .int (y : Int)])) p (.ins CI dx (putF "counts" (.ref ct) [])) = H1
    have npc : p ≠ ct := ne_of_none hp hct
    have k1 : KeepBut H H1 [p] := by rw [← e1]; exact ((KeepBut.of (Same.refl H)).new hct).upd (.inl (List.mem_singleton.mpr rfl))
    have p1 : H1 p = some (.ins CI dx (f1 ct)) := by rw [← e1]; exact upd_same
    have c1 : H1 ct = some (.tup [.int (x : Int), .int (y : Int)]) := by rw [← e1, upd_ne (Ne.symm npc)]; exact upd_same
    clear e1
    intro pd hpd
    have npd : H pd = none := by
      cases z : H pd with
      | none => rfl
      | some o =>
        by_cases ep : pd = p
        · rw [ep, p1] at hpd; cases hpd
        · rw [k1 pd o z (mem1.mpr ep)] at hpd; cases hpd
    refine ⟨_, rfl, p, CI, dx, _, rfl, (by rw [upd_ne (ne_of_none p1 hpd)]; exact p1), C.cl, C.nP, (by show 1 < 1000; decide), ?_⟩
    have eput1 : putF "possible" (.ref pd) (f1 ct) = (f2 ct pd) := (put_past (by decide +kernel)).trans rfl
    rw [eput1]
    generalize e2 : upd (upd H1 pd (.dT [])) p (.ins CI dx (f2 ct pd)) = H2
    have npp : p ≠ pd := ne_of_none p1 hpd
    have k2 : KeepBut H H2 [p] := by rw [← e2]; exact (k1.new hpd).upd (.inl (List.mem_singleton.mpr rfl))
    have p2 : H2 p = some (.ins CI dx (f2 ct pd)) := by rw [← e2]; exact upd_same
    have c2 : H2 ct = some (.tup [.int (x : Int), .int (y : Int)]) := by rw [← e2, upd_ne (Ne.symm npc), upd_ne (ne_of_none c1 hpd)]; exact c1
    have d2 : H2 pd = some (.dT []) := by rw [← e2, upd_ne (Ne.symm npp)]; exact upd_same
    clear e2
    intro vd hvd
    have nvd : H vd = none := by
      cases z : H vd with
      | none => rfl
      | some o =>
        by_cases ep : vd = p
        · rw [ep, p2] at hvd; cases hvd
        · rw [k2 vd o z (mem1.mpr ep)] at hvd; cases hvd
    refine ⟨_, rfl, p, CI, dx, _, rfl, (by rw [upd_ne (ne_of_none p2 hvd)]; exact p2), C.cl, C.nV, (by show 2 < 1000; decide), ?_⟩
    have eput2 : putF "values_of" (.ref vd) (f2 ct pd) = (f3 ct pd vd) := (put_past (by decide +kernel)).trans (congrArg _ ((put_past (by decide +kernel)).trans rfl))
    rw [eput2]
    generalize e3 : upd (upd H2 vd (.dT [])) p (.ins CI dx (f3 ct pd vd)) = H3
    have npv : p ≠ vd := ne_of_none p2 hvd
    have k3 : KeepBut H H3 [p] := by rw [← e3]; exact (k2.new hvd).upd (.inl (List.mem_singleton.mpr rfl))
    have p3 : H3 p = some (.ins CI dx (f3 ct pd vd)) := by rw [← e3]; exact upd_same
    have c3 : H3 ct = some (.tup [.int (x : Int), .int (y : Int)]) := by rw [← e3, upd_ne (Ne.symm npc), upd_ne (ne_of_none c2 hvd)]; exact c2
    have d3 : H3 pd = some (.dT []) := by rw [← e3, upd_ne (Ne.symm npp), upd_ne (ne_of_none d2 hvd)]; exact d2
    have v3 : H3 vd = some (.dT []) := by rw [← e3, upd_ne (Ne.symm npv)]; exact upd_same
    have dpv : pd ≠ vd := ne_of_none d2 hvd
    clear e3
    refine ⟨(by show 1 ≤ sizeLine; decide), fun z1 hz1 => ⟨_, rfl, z1, (x : Int), _, rfl, rfl, upd_same, (by omega), (by omega), ?_, fun cx hcx => ⟨(by show 1 ≤ sizeLine; decide), fun z2 hz2 => ⟨_, rfl, z2, (y : Int), _, rfl, rfl, upd_same, (by omega), (by omega), ?_, fun cy hcy => ⟨(by show 2 ≤ sizeLine; decide), fun cl hcl => ?_⟩⟩⟩⟩⟩
    · show 1 * ((x : Int)).toNat ≤ sizeLine
      rw [sizeLine_eq]; omega
    · show 1 * ((y : Int)).toNat ≤ sizeLine
      rw [sizeLine_eq]; omega
    rw [rep_zero] at hz2 hcy hcl ⊢
    rw [rep_zero] at hcl ⊢
    generalize e4 : upd (upd (upd (upd (upd H3 z1 (.lst [.int 0])) cx (.lst (intsV (List.replicate x 0)))) z2 (.lst [.int 0])) cy (.lst (intsV (List.replicate y 0)))) cl (.lst [.ref cx, .ref cy]) = H4
    have s34 : Same H3 H4 := by rw [← e4]; exact (same_upd hz1).trans ((same_upd hcx).trans ((same_upd hz2).trans ((same_upd hcy).trans (same_upd hcl))))
    have hcx4 : H4 cx = some (.lst (intsV (List.replicate x 0))) := by
      rw [← e4]
      exact ((same_upd hz2).trans ((same_upd hcy).trans (same_upd hcl))) _ _ upd_same
    have hcy4 : H4 cy = some (.lst (intsV (List.replicate y 0))) := by
      rw [← e4]
      exact (same_upd hcl) _ _ upd_same
    have hcl4 : H4 cl = some (.lst [.ref cx, .ref cy]) := by rw [← e4]; exact upd_same
    have n3 : ∀ {b : Addr}, H3 b = none → H b = none := fun {b} hb => by
      cases z : H b with
      | none => rfl
      | some o =>
        by_cases ep : b = p
        · rw [ep, p3] at hb; cases hb
        · rw [k3 b o z (mem1.mpr ep)] at hb; cases hb
    have n1 : H3 cx = none := (same_upd hz1).free hcx
    have n2 : H3 cy = none := ((same_upd hz1).trans ((same_upd hcx).trans (same_upd hz2))).free hcy
    have n4 : H3 cl = none := ((same_upd hz1).trans ((same_upd hcx).trans ((same_upd hz2).trans (same_upd hcy)))).free hcl
    have xy : cx ≠ cy := ne_of_none ((same_upd hz2) _ _ upd_same) hcy
    have lx : cl ≠ cx := Ne.symm (ne_of_none (((same_upd hz2).trans (same_upd hcy)) _ _ upd_same) hcl)
    have ly : cl ≠ cy := Ne.symm (ne_of_none upd_same hcl)
    clear e4
    refine ⟨_, rfl, p, CI, dx, _, rfl, s34 _ _ p3, C.cl, C.nK, (by show 3 < 1000; decide), ?_⟩
    have eput3 : putF "codes" (.ref cl) (f3 ct pd vd) = (⟨dx, ct, pd, vd, cl, cx, cy, [], []⟩ : IA).fs := (put_past (by decide +kernel)).trans (congrArg _ ((put_past (by decide +kernel)).trans (congrArg _ ((put_past (by decide +kernel)).trans rfl))))
    rw [eput3]
    have pne : ∀ {b : Addr} {o : HO}, H4 b = some o → (∀ C dx fs, o ≠ .ins C dx fs) → b ≠ p := fun {b o} hb ho e => by
      rw [e, s34 _ _ p3] at hb
      exact ho _ _ _ (Option.some.inj hb).symm
    have at5 : ∀ {b : Addr} {o : HO}, H4 b = some o → (∀ C dx fs, o ≠ .ins C dx fs) → (upd H4 p (.ins CI dx (⟨dx, ct, pd, vd, cl, cx, cy, [], []⟩ : IA).fs)) b = some o := fun {b o} hb ho => by rw [upd_ne (pne hb ho)]; exact hb
    refine q _ ⟨dx, ct, pd, vd, cl, cx, cy, [], []⟩ ⟨upd_same, at5 (s34 _ _ c3) (fun _ _ _ z => nomatch z), at5 (s34 _ _ d3) (fun _ _ _ z => nomatch z), at5 (s34 _ _ v3) (fun _ _ _ z => nomatch z), at5 hcl4 (fun _ _ _ z => nomatch z), at5 hcx4 (fun _ _ _ z => nomatch z), at5 hcy4 (fun _ _ _ z => nomatch z), lx, ly, xy, dpv, TCM.fresh_ok x1 x5 y1 y5⟩
      ((k3.trans (.of s34)).upd (.inl (List.mem_singleton.mpr rfl))) fun b hb => ?_
    simp only [List.mem_cons, List.not_mem_nil, or_false] at hb
    rcases hb with rfl | rfl | rfl | rfl | rfl
    · exact npd
    · exact nvd
    · exact n3 n4
    · exact n3 n1
    · exact n3 n2
end
end TC
/-! The walks, 8: swap. -/
namespace TC
open PySem PySem.Spec PyProof.Rows L2
open TCM (Tv valF SesOk swapP swapV)
open Km540 (Session possiblePairs)
section
variable {P : Program} {w : World} {K : PySem.W.Frag} {mg : Str → Option Value} {base : Heap} {CI : Addr}
theorem none_of {H H1 : Hp} {i b : Addr} {C dx : Addr} {fs : List (Str × V)} (k : KeepBut H H1 [i]) (hi : H1 i = some (.ins C dx fs)) (hb : H1 b = none) : H b = none := by
  cases z : H b with
  | none => rfl
  | some o =>
    by_cases ep : b = i
    · rw [ep, hi] at hb; cases hb
    · rw [k b o z (mem1.mpr ep)] at hb; cases hb
theorem ok_swap (C : ClsI K CI) (D : MetAt K CI "swap" "Instance.swap" (topM 6) ["self"]) : Met P w K mg base 1 CI "swap" (spSwap CI) [] := by
  refine D.met C.cl scSwap (fun vs H Q E h => ?_) (fun f cdv A outer s H vs Q E hr h => ⟨_,
    pss_cons (ps_fld (pv 0) (pe_tup (pa_cons (pe_ix ix_any (pe_fld (pv 0) rfl) pe_int (fun _ _ => rfl)) (pa_cons (pe_ix ix_any (pe_fld (pv 0) rfl) pe_int (fun _ _ => rfl)) pa_nil))) rfl)
    (pss_cons (ps_fld (pv 0) (pe_lst (pa_cons (pe_ix ix_any (pe_fld (pv 0) rfl) pe_int (fun _ _ => rfl)) (pa_cons (pe_ix ix_any (pe_fld (pv 0) rfl) pe_int (fun _ _ => rfl)) pa_nil))) rfl)
    (pss_cons (ps_set (i := 1) scSwap.nd rfl (.inl rfl) pe_dnewT)
    (pss_cons (ps_lock (ps_for PassesOwn.never rfl (pi_keys (pe_fld (pv 0) rfl)) (pg_tup rfl (pgs_cons (pg_name (i := 2) scSwap.nd rfl (.inl rfl)) (pgs_cons (pg_name (i := 3) scSwap.nd rfl (.inl rfl)) pgs_nil)))
      (pss_one (ps_dput (hu_of hr) (pv 1) (pe_tup (pa_cons (pv 3) (pa_cons (pv 2) pa_nil))) pe_bl rfl))))
    (pss_cons (ps_fld (pv 0) (pv 1) rfl)
    (pss_cons (ps_set (i := 4) scSwap.nd rfl (.inl rfl) pe_dnewT)
    (pss_cons (ps_lock (ps_for PassesOwn.never rfl (pi_keys (pe_fld (pv 0) rfl)) (pg_tup rfl (pgs_cons (pg_name (i := 2) scSwap.nd rfl (.inl rfl)) (pgs_cons (pg_name (i := 3) scSwap.nd rfl (.inl rfl)) pgs_nil)))
      (pss_one (ps_dput (hu_of hr) (pv 4) (pe_tup (pa_cons (pv 3) (pa_cons (pv 2) pa_nil))) (pe_dget (hu_of hr) (pe_fld (pv 0) rfl) (pe_tup (pa_cons (pv 2) (pa_cons (pv 3) pa_nil))) (fun _ _ => rfl)) rfl))))
    (pss_one (ps_fld (pv 0) (pv 4) rfl)))))))), ?_⟩)
  · obtain ⟨i, s, m, rfl, _⟩ := h
    rfl
  · obtain ⟨i, s, m, rfl, hi, q⟩ := h
    have ni : ∀ {b : Addr} {o : HO}, H b = some o → (∀ C dx fs, o ≠ .ins C dx fs) → b ≠ i := fun {b o} hb ho e => by
      rw [e, hi.ins] at hb
      exact ho _ _ _ (Option.some.inj hb).symm
    refine ⟨_, rfl, i, CI, _, _, _, rfl, hi.ins, C.cl, C.nC, fs_counts m, m.ct, 1, _, _, rfl, rfl, .inr (SqT.of hi.cnt), rfl, _, rfl, i, CI, _, _, _, rfl, hi.ins, C.cl, C.nC, fs_counts m, m.ct, 0, _, _, rfl, rfl, .inr (SqT.of hi.cnt), rfl, (by show 2 ≤ sizeLine; decide), fun p hp => ⟨_, rfl, i, CI, m.dx, m.fs, rfl, (by rw [upd_ne (ne_of_none hi.ins hp)]; exact hi.ins), C.cl, C.nC, (by show 4 < 1000; decide), ?_⟩⟩
    rw [put_counts m p]
    generalize e1 : upd (upd H p (.tup [.int (s.sources.yCount : Int), .int (s.sources.xCount : Int)])) i (.ins CI m.dx ({ m with ct := p } : IA).fs) = H1
    have k1 : KeepBut H H1 [i] := by rw [← e1]; exact ((KeepBut.of (Same.refl H)).new hp).upd (.inl (List.mem_singleton.mpr rfl))
    have i1 : H1 i = some (.ins CI m.dx ({ m with ct := p } : IA).fs) := by rw [← e1]; exact upd_same
    have p1 : H1 p = some (.tup [.int (s.sources.yCount : Int), .int (s.sources.xCount : Int)]) := by rw [← e1, upd_ne (Ne.symm (ne_of_none hi.ins hp))]; exact upd_same
    clear e1
    have at1 : ∀ {b : Addr} {o : HO}, H b = some o → (∀ C dx fs, o ≠ .ins C dx fs) → H1 b = some o := fun {b o} hb ho => k1 b o hb (mem1.mpr (ni hb ho))
    have cl1 := at1 hi.cod (fun _ _ _ z => nomatch z)
    refine ⟨_, rfl, i, CI, _, _, _, rfl, i1, C.cl, C.nK, fs_codes _, m.cl, 1, _, _, rfl, rfl, .inl (SqL.of cl1), rfl, _, rfl, i, CI, _, _, _, rfl, i1, C.cl, C.nK, fs_codes _, m.cl, 0, _, _, rfl, rfl, .inl (SqL.of cl1), rfl, (by show 2 ≤ sizeLine; decide), fun l hl => ⟨_, rfl, i, CI, m.dx, _, rfl, (by rw [upd_ne (ne_of_none i1 hl)]; exact i1), C.cl, C.nK, (by show 4 < 1000; decide), ?_⟩⟩
    rw [put_codes _ l]
    generalize e2 : upd (upd H1 l (.lst [.ref m.cy, .ref m.cx])) i (.ins CI m.dx ({ m with ct := p, cl := l } : IA).fs) = H2
    have nl : H l = none := none_of k1 i1 hl
    have il : i ≠ l := ne_of_none i1 hl
    have k12 : KeepBut H1 H2 [i] := by rw [← e2]; exact ((KeepBut.of (Same.refl H1)).new hl).upd (.inl (List.mem_singleton.mpr rfl))
    have k2 : KeepBut H H2 [i] := k1.trans k12
    have i2 : H2 i = some (.ins CI m.dx ({ m with ct := p, cl := l } : IA).fs) := by rw [← e2]; exact upd_same
    have l2 : H2 l = some (.lst [.ref m.cy, .ref m.cx]) := by rw [← e2, upd_ne (Ne.symm il)]; exact upd_same
    have p2 : H2 p = some (.tup [.int (s.sources.yCount : Int), .int (s.sources.xCount : Int)]) := k12 _ _ p1 (mem1.mpr fun e => by rw [e, i1] at p1; cases p1)
    clear e2
    intro np hnp
    have nnp : H np = none := none_of k2 i2 hnp
    have pdi : m.pd ≠ i := ni hi.pos (fun _ _ _ z => nomatch z)
    have pd2 : H2 m.pd = some (.dT (dP m.kp)) := k2 _ _ hi.pos (mem1.mpr pdi)
    have few := hi.ok.few
    have vfew := hi.ok.vfew
    -- the possible pairs
    have npd : m.pd ≠ np := ne_of_none pd2 hnp
    refine ⟨m.pd, .dT (dP m.kp), (by rw [upd_ne npd]; exact pd2), trivial, fun od => ?_⟩
    refine ⟨_, rfl, i, CI, _, _, _, rfl, (by rw [upd_ne (Ne.symm pdi), upd_ne (ne_of_none i2 hnp)]; exact i2), C.cl, C.nP, fs_possible ({ m with ct := p, cl := l } : IA), m.pd, od, rfl, .inr ⟨dP m.kp, upd_same, ?_⟩⟩
    refine for_it walk_keysT (fun t σ H' => ∃ (x2 x3 x4 : Option V), σ = [some (.ref i), some (.ref np), x2, x3, x4] ∧ KeepBut (upd (upd H2 np (.dT [])) m.pd (.frz od (.dT (dP m.kp)))) H' [np] ∧ H' np = some (.dT (dP ((m.kp.take t).map swapP)))) ?_ (fun t σ H' _ ⟨_, _, _, _, k, _⟩ => k _ _ upd_same (mem1.mpr npd)) ?_ ?_
    · exact ⟨_, _, _, rfl, KeepBut.of (Same.refl _), (by rw [upd_ne (Ne.symm npd)]; exact upd_same)⟩
    · rintro t x σ H0 H' ht ⟨x2, x3, x4, rfl, k, hnp'⟩ ⟨rfl, key, v, tq, hkv, rfl, htq⟩
      obtain ⟨pr, hpr, rfl⟩ := dP_at hkv
      refine ⟨tq, _, rfl, SqT.of (by rw [← kk_kV]; exact htq), rfl, _, _, rfl, _, _, rfl, rfl, ?_⟩
      refine ⟨_, rfl, _, rfl, _, rfl, (by show 2 ≤ sizeLine; decide), fun nt hnt => ?_⟩
      have hnp2 : (upd H' nt (.tup [.int (pr.2 : Int), .int (pr.1 : Int)])) np = some (.dT (dP ((m.kp.take t).map swapP))) := by rw [upd_ne (ne_of_none hnp' hnt)]; exact hnp'
      have hl1 : (dP ((m.kp.take t).map swapP)).length ≤ 25 := by
        unfold dP
        rw [List.length_map, List.length_map]
        have := List.length_take_le' t m.kp
        omega
      refine ⟨np, _, rfl, DPut.t (k := kk (swapP pr)) hnp2 (by rw [kk_kV]; exact upd_same) (by rw [sizeLine_eq]; omega), _, _, _, rfl, ?_, ?_⟩
      · exact (k.new hnt).upd (.inl (List.mem_singleton.mpr rfl))
      · rw [upd_same, take_more hpr, List.map_append]
        have hv : valV (dP ((m.kp.take t).map swapP)) (kk (swapP pr)) = none := by
          rw [dP_look, if_neg]
          intro hm
          obtain ⟨r, hr', e⟩ := List.mem_map.mp hm
          have := TCM.swapP_inj e
          subst this
          exact not_take hi.ok.nodup hpr hr'
        rw [putK_new _ hv, dP_snoc]
        rfl
    · rintro σ H' ⟨x2, x3, x4, rfl, k, hnp'⟩
      refine ⟨k _ _ upd_same (mem1.mpr npd), ?_⟩
      have kb := lock_back (by rw [upd_ne npd]; exact pd2) k
      have hnp3 : (upd H' m.pd (.dT (dP m.kp))) np = some (.dT (dP (m.kp.map swapP))) := by
        rw [upd_ne (Ne.symm npd), hnp']
        have e : (dP m.kp).length = m.kp.length := List.length_map _
        rw [e, List.take_length]
      generalize upd H' m.pd (.dT (dP m.kp)) = H3 at kb hnp3 ⊢
      clear k hnp'
      have k3 : KeepBut H H3 [i] := (k2.new (o := .dT []) hnp).less kb nnp
      have k23 : ∀ {b : Addr} {o : HO}, H2 b = some o → H3 b = some o := fun {b o} e => kb b o (by rw [upd_ne (ne_of_none e hnp)]; exact e) (mem1.mpr (ne_of_none e hnp))
      have i3 := k23 i2
      -- self.possible = possible
      refine ⟨_, rfl, _, rfl, i, CI, m.dx, _, rfl, i3, C.cl, C.nP, (by show 4 < 1000; decide), ?_⟩
      rw [put_possible _ np]
      generalize e4 : upd H3 i (.ins CI m.dx ({ m with ct := p, cl := l, pd := np } : IA).fs) = H4
      have k34 : KeepBut H3 H4 [i] := by rw [← e4]; exact (KeepBut.of (Same.refl H3)).upd (.inl (List.mem_singleton.mpr rfl))
      have k4 : KeepBut H H4 [i] := k3.trans k34
      have i4 : H4 i = some (.ins CI m.dx ({ m with ct := p, cl := l, pd := np } : IA).fs) := by rw [← e4]; exact upd_same
      have at34 : ∀ {b : Addr} {o : HO}, H3 b = some o → (∀ C dx fs, o ≠ .ins C dx fs) → H4 b = some o := fun {b o} hb ho => k34 b o hb (mem1.mpr fun e => by
        rw [e, i3] at hb
        exact ho _ _ _ (Option.some.inj hb).symm)
      have l4 := at34 (k23 l2) (fun _ _ _ z => nomatch z)
      have p4 := at34 (k23 p2) (fun _ _ _ z => nomatch z)
      have np4 := at34 hnp3 (fun _ _ _ z => nomatch z)
      clear e4
      intro nv hnv
      have nnv : H nv = none := none_of k4 i4 hnv
      have vdi : m.vd ≠ i := ni hi.val (fun _ _ _ z => nomatch z)
      have vd4 : H4 m.vd = some (.dT (dV m.kv)) := k4 _ _ hi.val (mem1.mpr vdi)
      have nvd : m.vd ≠ nv := ne_of_none vd4 hnv
      refine ⟨m.vd, .dT (dV m.kv), (by rw [upd_ne nvd]; exact vd4), trivial, fun od2 => ?_⟩
      have i5 : (upd (upd H4 nv (.dT [])) m.vd (.frz od2 (.dT (dV m.kv)))) i = some (.ins CI m.dx ({ m with ct := p, cl := l, pd := np } : IA).fs) := by rw [upd_ne (Ne.symm vdi), upd_ne (ne_of_none i4 hnv)]; exact i4
      refine ⟨_, rfl, i, CI, _, _, _, rfl, i5, C.cl, C.nV, fs_values _, m.vd, od2, rfl, .inr ⟨dV m.kv, upd_same, ?_⟩⟩
      refine for_it walk_keysT (fun t σ H' => ∃ (x2 x3 : Option V), σ = [some (.ref i), some (.ref np), x2, x3, some (.ref nv)] ∧ KeepBut (upd (upd H4 nv (.dT [])) m.vd (.frz od2 (.dT (dV m.kv)))) H' [nv] ∧ H' nv = some (.dT (dV ((m.kv.take t).map swapV)))) ?_ (fun t σ H' _ ⟨_, _, _, k, _⟩ => k _ _ upd_same (mem1.mpr nvd)) ?_ ?_
      · exact ⟨_, _, rfl, KeepBut.of (Same.refl _), (by rw [upd_ne (Ne.symm nvd)]; exact upd_same)⟩
      · rintro t x σ H0 H' ht ⟨x2, x3, rfl, k, hnv'⟩ ⟨rfl, key, v, tq, hkv, rfl, htq⟩
        obtain ⟨e, he, rfl⟩ := dV_at hkv
        have ine : i ≠ nv := ne_of_none i4 hnv
        refine ⟨tq, _, rfl, SqT.of (by rw [← kk_kV]; exact htq), rfl, _, _, rfl, _, _, rfl, rfl, ?_⟩
        refine ⟨_, rfl, i, CI, _, _, _, rfl, k _ _ i5 (mem1.mpr ine), C.cl, C.nV, fs_values _, _, rfl, _, rfl, (by show 2 ≤ sizeLine; decide), fun t1 ht1 => ?_⟩
        have vdk := k _ _ (show (upd (upd H4 nv (.dT [])) m.vd (.frz od2 (.dT (dV m.kv)))) m.vd = _ from upd_same) (mem1.mpr nvd)
        have vdk1 : (upd H' t1 (.tup [.int (e.1.1 : Int), .int (e.1.2 : Int)])) m.vd = some (.frz od2 (.dT (dV m.kv))) := by rw [upd_ne (ne_of_none vdk ht1)]; exact vdk
        have hg : TCM.glook m.kv e.1 = some e.2 := by
          have key : ∀ {l : List ((Nat × Nat) × Nat)}, (l.map (·.1)).Nodup → e ∈ l → TCM.glook l e.1 = some e.2 := by
            intro l
            induction l with
            | nil => intro _ h; cases h
            | cons a l ih =>
              intro hn hm
              rw [List.map_cons, List.nodup_cons] at hn
              rcases List.mem_cons.mp hm with z | z
              · rw [← z]; exact TCM.glook_pos rfl
              · rw [TCM.glook_neg (fun z2 => hn.1 (List.mem_map.mpr ⟨e, z, z2.symm⟩))]
                exact ih hn.2 z
          exact key hi.ok.vnodup (List.mem_of_getElem? he)
        refine ⟨m.vd, .int (e.2 : Int), rfl, .inr ⟨dV m.kv, kk e.1, t1, .inr ⟨od2, vdk1⟩, rfl, (by rw [kk_kV]; exact upd_same), (by rw [dV_look, hg]; rfl)⟩, ?_⟩
        refine ⟨_, rfl, _, rfl, _, rfl, (by show 2 ≤ sizeLine; decide), fun nt hnt => ?_⟩
        have hnv1 : (upd H' t1 (.tup [.int (e.1.1 : Int), .int (e.1.2 : Int)])) nv = some (.dT (dV ((m.kv.take t).map swapV))) := by rw [upd_ne (ne_of_none hnv' ht1)]; exact hnv'
        have hnv2 : (upd (upd H' t1 (.tup [.int (e.1.1 : Int), .int (e.1.2 : Int)])) nt (.tup [.int (e.1.2 : Int), .int (e.1.1 : Int)])) nv = some (.dT (dV ((m.kv.take t).map swapV))) := by rw [upd_ne (ne_of_none hnv1 hnt)]; exact hnv1
        have hl1 : (dV ((m.kv.take t).map swapV)).length ≤ 25 := by
          unfold dV
          rw [List.length_map, List.length_map]
          have := List.length_take_le' t m.kv
          omega
        refine ⟨nv, _, rfl, DPut.t (k := kk (swapP e.1)) hnv2 (by rw [kk_kV]; exact upd_same) (by rw [sizeLine_eq]; omega), _, _, rfl, ?_, ?_⟩
        · exact ((k.new ht1).new hnt).upd (.inl (List.mem_singleton.mpr rfl))
        · rw [upd_same, take_more he, List.map_append]
          have hv : valV (dV ((m.kv.take t).map swapV)) (kk (swapP e.1)) = none := by
            rw [dV_look, TCM.glook_swap]
            have : TCM.glook (m.kv.take t) e.1 = none := by
              cases z : TCM.glook (m.kv.take t) e.1 with
              | none => rfl
              | some n =>
                exfalso
                have hs : (TCM.glook (m.kv.take t) e.1).isSome = true := by rw [z]; rfl
                rw [← TCM.glook_any] at hs
                obtain ⟨a, ha, ea⟩ := List.any_eq_true.mp hs
                have ea := of_decide_eq_true ea
                have h1 : (m.kv.map (·.1))[t]? = some e.1 := by rw [List.getElem?_map, he]; rfl
                refine not_take hi.ok.vnodup h1 ?_
                rw [← List.map_take]
                exact List.mem_map.mpr ⟨a, ha, ea⟩
            rw [this]
            rfl
          rw [putK_new _ hv]
          show some (HO.dT (dV ((m.kv.take t).map swapV) ++ [(kk (swapV e).1, V.int ((swapV e).2 : Int))])) = _
          rw [dV_snoc]
          rfl
      · rintro σ H' ⟨x2, x3, rfl, k, hnv'⟩
        refine ⟨k _ _ upd_same (mem1.mpr nvd), ?_⟩
        have kb2 := lock_back (by rw [upd_ne nvd]; exact vd4) k
        have hnv3 : (upd H' m.vd (.dT (dV m.kv))) nv = some (.dT (dV (m.kv.map swapV))) := by
          rw [upd_ne (Ne.symm nvd), hnv']
          have e : (dV m.kv).length = m.kv.length := List.length_map _
          rw [e, List.take_length]
        generalize upd H' m.vd (.dT (dV m.kv)) = H5 at kb2 hnv3 ⊢
        clear k hnv'
        have k5 : KeepBut H H5 [i] := (k4.new (o := .dT []) hnv).less kb2 nnv
        have k45 : ∀ {b : Addr} {o : HO}, H4 b = some o → H5 b = some o := fun {b o} e => kb2 b o (by rw [upd_ne (ne_of_none e hnv)]; exact e) (mem1.mpr (ne_of_none e hnv))
        have i5' := k45 i4
        refine ⟨_, rfl, _, rfl, i, CI, m.dx, _, rfl, i5', C.cl, C.nV, (by show 4 < 1000; decide), ?_⟩
        rw [put_values _ nv]
        have k6 : KeepBut H (upd H5 i (.ins CI m.dx ({ m with ct := p, cl := l, pd := np, vd := nv } : IA).fs)) [i] := k5.upd (.inl (List.mem_singleton.mpr rfl))
        have at6 : ∀ {b : Addr} {o : HO}, H5 b = some o → (∀ C dx fs, o ≠ .ins C dx fs) → (upd H5 i (.ins CI m.dx ({ m with ct := p, cl := l, pd := np, vd := nv } : IA).fs)) b = some o := fun {b o} hb ho => by
          rw [upd_ne (fun e => by
            rw [e, i5'] at hb
            exact ho _ _ _ (Option.some.inj hb).symm)]
          exact hb
        have at0 : ∀ {b : Addr} {o : HO}, H b = some o → (∀ C dx fs, o ≠ .ins C dx fs) → (upd H5 i (.ins CI m.dx ({ m with ct := p, cl := l, pd := np, vd := nv } : IA).fs)) b = some o := fun {b o} hb ho => k6 b o hb (mem1.mpr (ni hb ho))
        refine q _ ⟨m.dx, p, np, nv, l, m.cy, m.cx, m.kp.map swapP, m.kv.map swapV⟩ ⟨upd_same, at6 (k45 p4) (fun _ _ _ z => nomatch z), at6 (k45 np4) (fun _ _ _ z => nomatch z), at6 hnv3 (fun _ _ _ z => nomatch z), at6 (k45 l4) (fun _ _ _ z => nomatch z), at0 hi.yco (fun _ _ _ z => nomatch z), at0 hi.xco (fun _ _ _ z => nomatch z),
          Ne.symm (ne_of_none hi.yco nl), Ne.symm (ne_of_none hi.xco nl), Ne.symm hi.d3, ne_of_none np4 hnv, hi.ok.swap⟩ ⟨k6.mono fun b hb => ?_, fun b hb => ?_⟩
        · rw [List.mem_singleton.mp hb]
          exact List.mem_cons_self
        · simp only [IA.fp, List.mem_cons, List.not_mem_nil, or_false] at hb ⊢
          rcases hb with rfl | rfl | rfl | rfl | rfl | rfl
          · exact .inl (.inl rfl)
          · exact .inr nnp
          · exact .inr nnv
          · exact .inr nl
          · exact .inl (.inr (.inr (.inr (.inr (.inr rfl)))))
          · exact .inl (.inr (.inr (.inr (.inr (.inl rfl)))))
end
end TC
/-! The walks, 9: the holder; create, swap_sources, list_codes. -/
namespace TC
open PySem PySem.Spec PyProof.Rows L2
open TCM (Tv valF SesOk)
open Km540 (Session possiblePairs)
structure ClsH (K : PySem.W.Frag) (CH : Addr) : Prop where
  cl : Cls K CH
  nI : NoAttr K CH "instance"
def hF (v : V) : List (Str × V) := [("instance", v)]
theorem hF_look (v : V) : (hF v).lookup ("instance" : Str) = some v := lk_here
theorem hF_put (v x : V) : putF "instance" x (hF v) = hF x := put_here
/-- the specification's state in the heap; F: what may change -/
def StAt (CH CI : Addr) (H : Hp) (own : Addr) (st : Km540.State) (F : List Addr) : Prop := match st with
  | none => ∃ dx, H own = some (.ins CH dx (hF .non)) ∧ F = [own]
  | some s => ∃ dx i m, H own = some (.ins CH dx (hF (.ref i))) ∧ InstAt CI H i s m ∧ F = own :: m.fp i
theorem StAt.same {CH CI : Addr} {H H' : Hp} {own : Addr} {st : Km540.State} {F : List Addr} (h : StAt CH CI H own st F) (k : Same H H') : StAt CH CI H' own st F := by
  cases st with
  | none =>
    obtain ⟨dx, h1, h2⟩ := h
    exact ⟨dx, k _ _ h1, h2⟩
  | some s =>
    obtain ⟨dx, i, m, h1, h2, h3⟩ := h
    exact ⟨dx, i, m, k _ _ h1, h2.same k, h3⟩
theorem own_out {CH CI : Addr} {H : Hp} {own i dx : Addr} {v : V} {s : Session} {m : IA} (hw : H own = some (.ins CH dx (hF v))) (hI : InstAt CI H i s m) : own ∉ m.fp i := fun hm => by
  simp only [IA.fp, List.mem_cons, List.not_mem_nil, or_false] at hm
  rcases hm with e | e | e | e | e | e
  · rw [e, hI.ins] at hw
    injection hw with hw
    injection hw with _ _ hw
    exact absurd (congrArg List.length hw) (by show ¬ 4 = 1; decide)
  · rw [e, hI.pos] at hw; cases hw
  · rw [e, hI.val] at hw; cases hw
  · rw [e, hI.cod] at hw; cases hw
  · rw [e, hI.xco] at hw; cases hw
  · rw [e, hI.yco] at hw; cases hw
/-- what the specification answers, and its state behind it -/
def out (st : Km540.State) (c : Km540.Call) : Km540.State × List Int := ((Km540.step st c).1, (Km540.step st c).2.num :: (Km540.step st c).2.nums)
def Answer (CH CI : Addr) (H : Hp) (own : Addr) (st : Km540.State) (F : List Addr) (c : Km540.Call) (Q : VK) : Prop :=
  ∀ (H' : Hp) (F' : List Addr) (a : Addr), StAt CH CI H' own (out st c).1 F' → Keep H H' F F' → H' a = some (.lst ((out st c).2.map V.int)) → (H a = none ∨ a ∈ F) → Q (.ref a) H'
theorem ans_read {CH CI : Addr} {H H' : Hp} {own : Addr} {st : Km540.State} {F : List Addr} {c : Km540.Call} {Q : VK} {a : Addr} {l : List V} (A : Answer CH CI H own st F c Q) (hs : StAt CH CI H own st F) (he : (out st c).1 = st) (k : Same H H') (ha : H' a = some (.lst l)) (hn : H a = none)
    (hl : l = (out st c).2.map V.int) : Q (.ref a) H' := by
  refine A H' F a ?_ ⟨KeepBut.of k, fun b hb => .inl hb⟩ (by rw [← hl]; exact ha) (.inl hn)
  rw [he]
  exact hs.same k
/-- the call that a number and its arguments tell -/
def deedCall : Nat → List Nat → Km540.Call
  | 0, [a, b] => .create a b
  | 1, [a, b, c] => .setPossible a b c
  | 2, [a, b, c] => .setValue a b c
  | 3, [a, b] => .setXMessage a b
  | 4, [a, b] => .setYMessage a b
  | 5, [] => .swapSources
  | 6, [] => .listCodes
  | 7, [] => .isLossless
  | 8, [] => .isFunctionCorrect
  | 9, [] => .losslessConflict
  | 10, [] => .functionConflict
  | 11, [a, b] => .decode a b
  | 12, [a, b] => .transmit a b
  | 13, [] => .losslessMinY
  | 14, [] => .functionMinY
  | 15, [a] => .losslessMinYFor a
  | 16, [a] => .functionMinYFor a
  | 17, [] => .losslessRegion
  | 18, [] => .functionRegion
  | 19, [] => .losslessMinTotal
  | 20, [] => .functionMinTotal
  | 21, [a, b] => .losslessFirstCodes a b
  | 22, [a, b] => .functionFirstCodes a b
  | 23, [a, b] => .useLosslessCodes a b
  | 24, [a, b] => .useFunctionCodes a b
  | 25, [] => .sideInformationBounds
  | _, _ => .summary
def spDeed (K : PySem.W.Frag) (CH CI : Addr) (n len : Nat) : Sp := fun vs H Q _ => ∃ (own nb : Addr) (st : Km540.State) (ns : List Nat) (F : List Addr), vs = [.ref own, .ref nb] ∧ ns.length = len ∧ StAt CH CI H own st F ∧ SqL K H nb (intsV ns) ∧ (n ≠ 0 → st ≠ none) ∧
  Answer CH CI H own st F (deedCall n ns) Q
theorem some_of {st : Km540.State} (h : st ≠ none) : ∃ s, st = some s := by
  cases st with
  | none => exact absurd rfl h
  | some s => exact ⟨s, rfl⟩
theorem len0 {l : List Nat} (h : l.length = 0) : l = [] := List.eq_nil_of_length_eq_zero h
theorem len1 {l : List Nat} (h : l.length = 1) : ∃ a, l = [a] := by
  match l, h with
  | [a], _ => exact ⟨a, rfl⟩
theorem len2 {l : List Nat} (h : l.length = 2) : ∃ a b, l = [a, b] := by
  match l, h with
  | [a, b], _ => exact ⟨a, b, rfl⟩
theorem len3 {l : List Nat} (h : l.length = 3) : ∃ a b c, l = [a, b, c] := by
  match l, h with
  | [a, b, c], _ => exact ⟨a, b, c, rfl⟩
theorem scHold : FnScope ["self"] ["self"] (defScope (inClass (topS 15) 0)) := ⟨rfl, rfl, rfl, by decide +kernel, rfl, by decide +kernel, by decide +kernel⟩
def spHold (CH : Addr) : Sp := fun vs H Q _ => ∃ (p dx : Addr), vs = [.ref p] ∧ H p = some (.ins CH dx []) ∧ Q .non (upd H p (.ins CH dx (hF .non)))
theorem scCreate : FnScope ["own", "numbers"] ["own", "numbers"] (defScope (topS 16)) := ⟨rfl, rfl, rfl, by decide +kernel, rfl, by decide +kernel, by decide +kernel⟩
theorem scSwapS : FnScope ["own", "numbers"] ["own", "numbers"] (defScope (topS 22)) := ⟨rfl, rfl, rfl, by decide +kernel, rfl, by decide +kernel, by decide +kernel⟩
abbrev nList : List Str := ["own", "numbers", "one"]
theorem scListC : FnScope nList ["own", "numbers"] (defScope (topS 23)) := ⟨rfl, rfl, rfl, by decide +kernel, rfl, by decide +kernel, by decide +kernel⟩
theorem chain_of {K : PySem.W.Frag} {nb : Addr} {ns : List Nat} {i x : Nat} {H : Hp} {σ : L2.St} {Q : Bool → Hp → Prop} (hσ : σ[1]? = some (some (.ref nb))) (hnb : SqL K H nb (intsV ns)) (hx : (intsV ns)[i]? = some (.int (x : Int))) (q : Q (!(decide (1 ≤ x) && decide (x ≤ 5))) H) :
    tNot (tTest (tChain (rI0 fun i j => .bl (decide (i ≤ j))) (rI0 fun i j => .bl (decide (i ≤ j))) (tC (.int 1)) (tOp (rIxA K) (tVar 1) (tC (.int (i : Int)))) (tC (.int 5)))) σ H Q := by
  have e1 : decide ((1 : Int) ≤ (x : Int)) = decide (1 ≤ x) := TCM.bc (by simp; omega)
  have e2 : decide ((x : Int) ≤ (5 : Int)) = decide (x ≤ 5) := TCM.bc (by simp; omega)
  refine ⟨_, hσ, nb, i, _, _, rfl, rfl, .inl hnb, hx, 1, (x : Int), rfl, rfl, decide (1 ≤ x), congrArg V.bl e1, ?_⟩
  cases e : decide (1 ≤ x) with
  | true =>
    rw [e, Bool.true_and] at q
    exact iteT ⟨(x : Int), 5, rfl, rfl, _, congrArg V.bl e2, q⟩
  | false =>
    rw [e, Bool.false_and] at q
    exact iteF ⟨false, rfl, q⟩
section
variable {P : Program} {w : World} {K : PySem.W.Frag} {mg : Str → Option Value} {base : Heap} {CI CH : Addr}
theorem ok_hold {f : Addr} {fd : FuncData} (F : L2.Fun K "__init__" "Holder.__init__" (inClass (topS 15) 0) f fd) (C : ClsH K CH) : FnOk P w K mg base CX0 1 f fd ["self"] (spHold CH) := by
  refine F.ok scHold (fun vs H Q E h => ?_) (fun cdv A outer s H vs Q E hr h => ⟨_, pss_one (ps_fld (pv 0) pe_non rfl), ?_⟩)
  · obtain ⟨p, dx, rfl, _⟩ := h
    rfl
  · obtain ⟨p, dx, rfl, hp, q⟩ := h
    exact ⟨_, rfl, p, CH, dx, [], rfl, hp, C.cl, C.nI, (by show 0 < 1000; decide), q⟩
abbrev MkI (P : Program) (w : World) (K : PySem.W.Frag) (mg : Str → Option Value) (base : Heap) (CI : Addr) : Prop := C8.Mak P w K mg base 1 "Instance" CI (spInit CI) []
theorem ok_create (T : Txt mg) (C : ClsH K CH) (M : MkI P w K mg base CI) (D : DefAt K mg "call_create" (topS 16) ["own", "numbers"]) : Cal P w K mg base 3 "call_create" (spDeed K CH CI 0 2) [] := by
  refine D.cal scCreate (fun vs H Q E h => ?_) (fun f cdv A outer s H vs Q E hr h => ⟨_,
    pss_cons (ps_if (PW.pt (pw_or (pt_not (pt_chain op_le op_le pe_int (pe_ix ix_any (pv 1) pe_int (fun _ _ => rfl)) (C8.pe_gc (by rfl) T.symbols))) (pw_or1 (pt_not (pt_chain op_le op_le pe_int (pe_ix ix_any (pv 1) pe_int (fun _ _ => rfl)) (C8.pe_gc (by rfl) T.symbols))))))
      (pss_one (ps_ret (pe_lst (pa_cons (pe_un un_neg pe_int) pa_nil)))) pss_nil)
    (pss_cons (ps_fld (pv 0) (C8.pe_mk M hr (by decide) (by rfl) (pa_cons (pe_ix ix_any (pv 1) pe_int (fun _ _ => rfl)) (pa_cons (pe_ix ix_any (pv 1) pe_int (fun _ _ => rfl)) pa_nil))) rfl)
    (pss_one (ps_ret (pe_lst (pa_cons pe_int pa_nil))))), ?_⟩)
  · obtain ⟨own, nb, st, ns, F, rfl, _⟩ := h
    rfl
  · obtain ⟨own, nb, st, ns, F, rfl, hl, hs, hnb, _, A⟩ := h
    obtain ⟨x, y, rfl⟩ := len2 hl
    have hown : ∃ dx v, H own = some (.ins CH dx (hF v)) ∧ own ∈ F := by
      cases st with
      | none => obtain ⟨dx, h1, rfl⟩ := hs; exact ⟨dx, _, h1, List.mem_singleton.mpr rfl⟩
      | some s => obtain ⟨dx, i, m, h1, _, rfl⟩ := hs; exact ⟨dx, _, h1, List.mem_cons_self⟩
    obtain ⟨dx, v, hw, hoF⟩ := hown
    refine tOr_of (!(decide (1 ≤ x) && decide (x ≤ 5))) (!(decide (1 ≤ y) && decide (y ≤ 5))) (fun Q q => chain_of (i := 0) rfl hnb rfl q) (fun Q q => chain_of (i := 1) rfl hnb rfl q) ?_
    cases e : (!(decide (1 ≤ x) && decide (x ≤ 5)) || !(decide (1 ≤ y) && decide (y ≤ 5))) with
    | true =>
      have bad : x = 0 ∨ Km540.maxSymbols < x ∨ y = 0 ∨ Km540.maxSymbols < y := by
        simp only [Bool.or_eq_true, Bool.not_eq_true', Bool.and_eq_false_iff, decide_eq_false_iff_not] at e
        unfold Km540.maxSymbols
        omega
      have eo : out st (deedCall 0 [x, y]) = (st, [-22]) := by
        show ((Km540.step st (.create x y)).1, (Km540.step st (.create x y)).2.num :: (Km540.step st (.create x y)).2.nums) = _
        unfold Km540.step
        dsimp only
        rw [if_pos bad]
        rfl
      refine iteT ⟨_, rfl, (by show 1 ≤ sizeLine; decide), fun a ha => ans_read A hs (by rw [eo]) (same_upd ha) upd_same ha (by rw [eo]; rfl)⟩
    | false =>
      have good : 1 ≤ x ∧ x ≤ 5 ∧ 1 ≤ y ∧ y ≤ 5 := by
        simp only [Bool.or_eq_false_iff, Bool.not_eq_false', Bool.and_eq_true, decide_eq_true_eq] at e
        omega
      have eo : out st (deedCall 0 [x, y]) = (some (TCM.freshS x y), [0]) := by
        show ((Km540.step st (.create x y)).1, (Km540.step st (.create x y)).2.num :: (Km540.step st (.create x y)).2.nums) = _
        unfold Km540.step
        dsimp only
        rw [if_neg (by unfold Km540.maxSymbols; omega)]
        rfl
      refine iteF ?_
      refine ⟨_, rfl, nb, 0, _, _, rfl, rfl, .inl hnb, rfl, _, rfl, nb, 1, _, _, rfl, rfl, .inl hnb, rfl, fun i di hi hdi hne => ?_⟩
      have s1 : Same H (upd (upd H di (.own i)) i (.ins CI di [])) := (same_upd hdi).trans (same_upd (by rw [upd_ne (Ne.symm hne)]; exact hi))
      refine ⟨i, di, x, y, rfl, upd_same, good.1, good.2.1, good.2.2.1, good.2.2.2, fun H' m hI k hnew => ⟨rfl, ?_⟩⟩
      have oi : own ≠ i := ne_of_none hw hi
      have kH : KeepBut H H' [i] := (KeepBut.of s1).trans k
      have hw' : H' own = some (.ins CH dx (hF v)) := kH _ _ hw (mem1.mpr oi)
      refine ⟨_, rfl, own, CH, dx, _, rfl, hw', C.cl, C.nI, (by show 1 < 1000; decide), ?_⟩
      rw [hF_put]
      refine ⟨(by show 1 ≤ sizeLine; decide), fun a ha => ?_⟩
      have hno : ∀ {b : Addr} {o : HO}, H' b = some o → (∀ C dx, o ≠ .ins C dx (hF v)) → (upd H' own (.ins CH dx (hF (.ref i)))) b = some o := fun {b o} hb ho => by
        rw [upd_ne (fun e => by
          rw [e, hw'] at hb
          exact ho _ _ (Option.some.inj hb).symm)]
        exact hb
      have hI2 : InstAt CI (upd H' own (.ins CH dx (hF (.ref i)))) i (TCM.freshS x y) m :=
        ⟨by rw [upd_ne (Ne.symm oi)]; exact hI.ins, hno hI.cnt (fun _ _ z => nomatch z), hno hI.pos (fun _ _ z => nomatch z), hno hI.val (fun _ _ z => nomatch z), hno hI.cod (fun _ _ z => nomatch z), hno hI.xco (fun _ _ z => nomatch z), hno hI.yco (fun _ _ z => nomatch z), hI.d1, hI.d2, hI.d3, hI.d4, hI.ok⟩
      have k2 : KeepBut H (upd H' own (.ins CH dx (hF (.ref i)))) F := by
        intro b o hb hbF
        have hbi : b ≠ i := ne_of_none hb hi
        rw [upd_ne (fun e : b = own => hbF (by rw [e]; exact hoF))]
        exact kH b o hb (mem1.mpr hbi)
      have han : H a = none := by
        cases z : H a with
        | none => rfl
        | some o =>
          by_cases eo : a = own
          · rw [eo, upd_same] at ha; cases ha
          · have h1 := kH a o z (mem1.mpr (ne_of_none z hi))
            rw [upd_ne eo, h1] at ha
            cases ha
      refine A _ (own :: m.fp i) a ?_ ⟨k2.new ha, fun b hb => ?_⟩ (by rw [eo]; exact upd_same) (.inl han)
      · rw [eo]
        exact ⟨dx, i, m, by rw [upd_ne (ne_of_none upd_same ha)]; exact upd_same, hI2.same (same_upd ha), rfl⟩
      · rcases List.mem_cons.mp hb with e | hb
        · rw [e]; exact .inl hoF
        · right
          rcases List.mem_cons.mp hb with e | hb
          · rw [e]; exact hi
          · exact s1.free (hnew b hb)
theorem ok_swapS (C : ClsH K CH) (D : DefAt K mg "call_swap_sources" (topS 22) ["own", "numbers"]) (c1 : Met P w K mg base 1 CI "swap" (spSwap CI) []) : Cal P w K mg base 2 "call_swap_sources" (spDeed K CH CI 5 0) [] := by
  refine D.cal scSwapS (fun vs H Q E h => ?_) (fun f cdv A outer s H vs Q E hr h => ⟨_, pss_cons (ps_expr (C8.pe_mt0 c1 hr (Nat.le_refl _) (pe_fld (pv 0) rfl))) (pss_one (ps_ret (pe_lst (pa_cons pe_int pa_nil)))), ?_⟩)
  · obtain ⟨own, nb, st, ns, F, rfl, _⟩ := h
    rfl
  · obtain ⟨own, nb, st, ns, F, rfl, hl, hs, hnb, hne, A⟩ := h
    obtain ⟨s, rfl⟩ := some_of (hne (by decide))
    obtain rfl := len0 hl
    obtain ⟨dx, i, m, hw, hI, rfl⟩ := hs
    refine ⟨_, rfl, own, CH, dx, _, _, rfl, hw, C.cl, C.nI, hF_look _, i, m.dx, m.fs, rfl, hI.ins, fs_none m (by decide +kernel) (by decide +kernel) (by decide +kernel) (by decide +kernel), i, s, m, rfl, hI, fun H' m' hI' k => ?_⟩
    refine ⟨(by show 1 ≤ sizeLine; decide), fun a ha => ?_⟩
    have on := own_out hw hI
    have hw' := k.1 _ _ hw on
    have han : H a = none ∨ a ∈ own :: m.fp i := by
      by_cases hm : a ∈ m.fp i
      · exact .inr (List.mem_cons_of_mem _ hm)
      · cases z : H a with
        | none => exact .inl rfl
        | some o => rw [k.1 a o z hm] at ha; cases ha
    refine A _ (own :: m'.fp i) a ⟨dx, i, m', by rw [upd_ne (ne_of_none hw' ha)]; exact hw', hI'.same (same_upd ha), rfl⟩ ⟨(k.1.mono fun b hb => List.mem_cons_of_mem _ hb).new ha, fun b hb => ?_⟩ upd_same han
    rcases List.mem_cons.mp hb with e | hb
    · rw [e]; exact .inl List.mem_cons_self
    · rcases k.2 b hb with h | h
      · exact .inl (List.mem_cons_of_mem _ h)
      · exact .inr h
theorem ok_listC (T : Txt mg) (CI' : ClsI K CI) (C : ClsH K CH) (D : DefAt K mg "call_list_codes" (topS 23) ["own", "numbers"]) : Cal P w K mg base 1 "call_list_codes" (spDeed K CH CI 6 0) [] := by
  refine D.cal scListC (fun vs H Q E h => ?_) (fun f cdv A outer s H vs Q E hr h => ⟨_, pss_cons (ps_set (i := 2) scListC.nd rfl (.inl rfl) (pe_fld (pv 0) rfl))
    (pss_one (ps_ret (pe_op op_cat (pe_op op_cat (pe_callTy call_list_of (by rfl) T.list (by decide +kernel) (pa_cons (pe_fld (pv 2) rfl) pa_nil)) (pe_ix ix_any (pe_fld (pv 2) rfl) pe_int (fun _ _ => rfl))) (pe_ix ix_any (pe_fld (pv 2) rfl) pe_int (fun _ _ => rfl))))), ?_⟩)
  · obtain ⟨own, nb, st, ns, F, rfl, _⟩ := h
    rfl
  · obtain ⟨own, nb, st, ns, F, rfl, hl, hs, hnb, hne, A⟩ := h
    obtain ⟨s, rfl⟩ := some_of (hne (by decide))
    obtain rfl := len0 hl
    have hs0 := hs
    obtain ⟨dx, i, m, hw, hI, rfl⟩ := hs
    have x5 := hI.ok.x5
    have y5 := hI.ok.y5
    have xl := hI.ok.xlen
    have yl := hI.ok.ylen
    refine ⟨_, rfl, own, CH, dx, _, _, rfl, hw, C.cl, C.nI, hF_look _, ?_⟩
    refine ⟨_, rfl, i, CI, _, _, _, rfl, hI.ins, CI'.cl, CI'.nC, fs_counts m, m.ct, _, rfl, .inr (SqT.of hI.cnt), fun l1 hl1 => ?_⟩
    have I1 := hI.same (same_upd (o := .lst [.int (s.sources.xCount : Int), .int (s.sources.yCount : Int)]) hl1)
    refine ⟨_, rfl, i, CI, _, _, _, rfl, I1.ins, CI'.cl, CI'.nK, fs_codes m, m.cl, 0, _, _, rfl, rfl, .inl (SqL.of I1.cod), rfl, l1, m.cx, _, _, rfl, rfl, upd_same, I1.xco, ?_, fun l2 hl2 => ?_⟩
    · rw [intsV_len, sizeLine_eq]
      show 2 + s.xCode.length ≤ _
      omega
    have I2 := I1.same (same_upd (o := .lst ([.int (s.sources.xCount : Int), .int (s.sources.yCount : Int)] ++ intsV s.xCode)) hl2)
    refine ⟨_, rfl, i, CI, _, _, _, rfl, I2.ins, CI'.cl, CI'.nK, fs_codes m, m.cl, 1, _, _, rfl, rfl, .inl (SqL.of I2.cod), rfl, l2, m.cy, _, _, rfl, rfl, upd_same, I2.yco, ?_, fun l3 hl3 => ?_⟩
    · rw [List.length_append, intsV_len, intsV_len, sizeLine_eq]
      show 2 + s.xCode.length + s.yCode.length ≤ _
      omega
    refine ans_read A hs0 rfl ((same_upd hl1).trans ((same_upd hl2).trans (same_upd hl3))) upd_same (((same_upd hl1).trans (same_upd hl2)).free hl3) ?_
    show _ = ((s.sources.xCount : Int) :: ([(s.sources.yCount : Int)] ++ Km540.toInts s.xCode ++ Km540.toInts s.yCode)).map V.int
    unfold Km540.toInts
    rw [List.map_cons, List.map_append, List.map_append, ← intsV_map, ← intsV_map]
    rfl
end
end TC
/-! The walks, 10: set_possible, set_value, the messages. -/
namespace TC
open PySem PySem.Spec PyProof.Rows L2
open TCM (Tv valF SesOk)
open Km540 (Session possiblePairs)
section
variable {CI CH : Addr} {H : Hp} {i : Addr} {s s' : Session} {m : IA}
theorem ne_obj {H : Hp} {a b : Addr} {o u : HO} (h : H a = some o) (h' : H b = some u) (d : o ≠ u) : a ≠ b := ne_of h h' d
theorem InstAt.setPd (h : InstAt CI H i s m) (kp' : List (Nat × Nat)) (ok : SesOk s' kp' m.kv) (e1 : s'.sources.xCount = s.sources.xCount) (e2 : s'.sources.yCount = s.sources.yCount) (e3 : s'.xCode = s.xCode) (e4 : s'.yCode = s.yCode) :
    InstAt CI (upd H m.pd (.dT (dP kp'))) i s' { m with kp := kp' } := by
  refine ⟨?_, ?_, upd_same, ?_, ?_, ?_, ?_, h.d1, h.d2, h.d3, h.d4, ok⟩
  · rw [upd_ne (ne_of h.ins h.pos (fun z => nomatch z))]; exact h.ins
  · rw [upd_ne (ne_of h.cnt h.pos (fun z => nomatch z)), e1, e2]; exact h.cnt
  · rw [upd_ne (Ne.symm h.d4)]; exact h.val
  · rw [upd_ne (ne_of h.cod h.pos (fun z => nomatch z))]; exact h.cod
  · rw [upd_ne (ne_of h.xco h.pos (fun z => nomatch z)), e3]; exact h.xco
  · rw [upd_ne (ne_of h.yco h.pos (fun z => nomatch z)), e4]; exact h.yco
theorem InstAt.setVd (h : InstAt CI H i s m) (kv' : List ((Nat × Nat) × Nat)) (ok : SesOk s' m.kp kv') (e1 : s'.sources.xCount = s.sources.xCount) (e2 : s'.sources.yCount = s.sources.yCount) (e3 : s'.xCode = s.xCode) (e4 : s'.yCode = s.yCode) :
    InstAt CI (upd H m.vd (.dT (dV kv'))) i s' { m with kv := kv' } := by
  refine ⟨?_, ?_, ?_, upd_same, ?_, ?_, ?_, h.d1, h.d2, h.d3, h.d4, ok⟩
  · rw [upd_ne (ne_of h.ins h.val (fun z => nomatch z))]; exact h.ins
  · rw [upd_ne (ne_of h.cnt h.val (fun z => nomatch z)), e1, e2]; exact h.cnt
  · rw [upd_ne h.d4]; exact h.pos
  · rw [upd_ne (ne_of h.cod h.val (fun z => nomatch z))]; exact h.cod
  · rw [upd_ne (ne_of h.xco h.val (fun z => nomatch z)), e3]; exact h.xco
  · rw [upd_ne (ne_of h.yco h.val (fun z => nomatch z)), e4]; exact h.yco
theorem InstAt.setCx (h : InstAt CI H i s m) (c : List Nat) (ok : SesOk { s with xCode := c } m.kp m.kv) : InstAt CI (upd H m.cx (.lst (intsV c))) i { s with xCode := c } m := by
  refine ⟨?_, ?_, ?_, ?_, ?_, upd_same, ?_, h.d1, h.d2, h.d3, h.d4, ok⟩
  · rw [upd_ne (ne_of h.ins h.xco (fun z => nomatch z))]; exact h.ins
  · rw [upd_ne (ne_of h.cnt h.xco (fun z => nomatch z))]; exact h.cnt
  · rw [upd_ne (ne_of h.pos h.xco (fun z => nomatch z))]; exact h.pos
  · rw [upd_ne (ne_of h.val h.xco (fun z => nomatch z))]; exact h.val
  · rw [upd_ne h.d1]; exact h.cod
  · rw [upd_ne (Ne.symm h.d3)]; exact h.yco
theorem InstAt.setCy (h : InstAt CI H i s m) (c : List Nat) (ok : SesOk { s with yCode := c } m.kp m.kv) : InstAt CI (upd H m.cy (.lst (intsV c))) i { s with yCode := c } m := by
  refine ⟨?_, ?_, ?_, ?_, ?_, ?_, upd_same, h.d1, h.d2, h.d3, h.d4, ok⟩
  · rw [upd_ne (ne_of h.ins h.yco (fun z => nomatch z))]; exact h.ins
  · rw [upd_ne (ne_of h.cnt h.yco (fun z => nomatch z))]; exact h.cnt
  · rw [upd_ne (ne_of h.pos h.yco (fun z => nomatch z))]; exact h.pos
  · rw [upd_ne (ne_of h.val h.yco (fun z => nomatch z))]; exact h.val
  · rw [upd_ne h.d2]; exact h.cod
  · rw [upd_ne h.d3]; exact h.xco
theorem ans_inst {own dx : Addr} {c : Km540.Call} {Q : VK} {H1 H2 : Hp} {m' : IA} {a : Addr} {l : List V} {ans : List Int} (A : Answer CH CI H own (some s) (own :: m.fp i) c Q) (hw : H own = some (.ins CH dx (hF (.ref i)))) (hI : InstAt CI H i s m)
    (s1 : Same H H1) (k : KeepBut H1 H2 (m.fp i)) (hI2 : InstAt CI H2 i s' m') (hfp : m'.fp i = m.fp i) (ha : H2 a = none) (e : out (some s) c = (some s', ans)) (hl : l = ans.map V.int) : Q (.ref a) (upd H2 a (.lst l)) := by
  have kk : KeepBut H H2 (m.fp i) := (KeepBut.of s1).trans k
  have hw' := kk _ _ hw (own_out hw hI)
  refine A _ (own :: m.fp i) a ?_ ⟨(kk.mono fun b hb => List.mem_cons_of_mem _ hb).new ha, fun b hb => .inl hb⟩ (by rw [e, upd_same, hl]) ?_
  · rw [e]
    exact ⟨dx, i, m', by rw [upd_ne (ne_of_none hw' ha)]; exact hw', hI2.same (same_upd ha), by rw [hfp]⟩
  · by_cases hm : a ∈ m.fp i
    · exact .inr (List.mem_cons_of_mem _ hm)
    · cases z : H a with
      | none => exact .inl rfl
      | some o => rw [kk a o z hm] at ha; cases ha
end
theorem keep_at {H : Hp} {q : Addr} {o : HO} {S : List Addr} (h : q ∈ S) : KeepBut H (upd H q o) S := (KeepBut.of (Same.refl H)).upd (.inl h)
theorem fp_pd (m : IA) (i : Addr) : m.pd ∈ m.fp i := by simp [IA.fp]
theorem fp_vd (m : IA) (i : Addr) : m.vd ∈ m.fp i := by simp [IA.fp]
theorem fp_cx (m : IA) (i : Addr) : m.cx ∈ m.fp i := by simp [IA.fp]
theorem fp_cy (m : IA) (i : Addr) : m.cy ∈ m.fp i := by simp [IA.fp]
theorem kk_ne {p q : Nat × Nat} (h : ¬ p = q) : ¬ kk p = kk q := fun e => h (kk_inj e)
theorem dP_put (kp : List (Nat × Nat)) (k : Nat × Nat) : putK (dP kp) (kk k) (.bl true) = dP (if k ∈ kp then kp else kp ++ [k]) := by
  by_cases m : k ∈ kp
  · rw [if_pos m]
    unfold putK
    rw [valV_any, dP_look, if_pos m, if_pos (show (some (V.bl true)).isSome = true from rfl)]
    unfold dP
    rw [List.map_map]
    refine List.map_congr_left fun p _ => ?_
    show (if kk p = kk k then (kk p, V.bl true) else (kk p, V.bl true)) = _
    split <;> rfl
  · rw [if_neg m, putK_new _ (by rw [dP_look, if_neg m]), dP_snoc]
theorem dP_drop (k : Nat × Nat) : ∀ kp : List (Nat × Nat), dropK (dP kp) (kk k) = dP (kp.filter fun p => decide (p ≠ k))
  | [] => rfl
  | p :: kp => by
    have ih := dP_drop k kp
    show dropK ((kk p, V.bl true) :: dP kp) (kk k) = _
    by_cases c : p = k
    · rw [dropK_pos (p := (kk p, V.bl true)) (by rw [c]), ih, List.filter_cons, if_neg (by simp [c])]
    · rw [dropK_neg (p := (kk p, V.bl true)) (kk_ne c), ih, List.filter_cons, if_pos (by simp [c])]
      rfl
theorem dV_put (kv : List ((Nat × Nat) × Nat)) (k : Nat × Nat) (n : Nat) : putK (dV kv) (kk k) (.int (n : Int)) = dV (TCM.gput kv k n) := by
  unfold putK TCM.gput
  rw [valV_any, dV_look, TCM.glook_any]
  cases g : TCM.glook kv k with
  | none =>
    show (if (none : Option V).isSome = true then _ else _) = dV (if (none : Option Nat).isSome = true then _ else _)
    rw [if_neg (by decide), if_neg (by decide)]
    exact dV_snoc kv (k, n)
  | some z =>
    show (if (some (V.int (z : Int))).isSome = true then _ else _) = dV (if (some z).isSome = true then _ else _)
    rw [if_pos (show (some (V.int (z:Int))).isSome = true from rfl), if_pos (show (some z).isSome = true from rfl)]
    unfold dV
    rw [List.map_map, List.map_map]
    refine List.map_congr_left fun e _ => ?_
    show (if kk e.1 = kk k then (kk e.1, V.int (n : Int)) else (kk e.1, V.int (e.2 : Int))) = (kk (if e.1 = k then (e.1, n) else e).1, V.int (((if e.1 = k then (e.1, n) else e).2 : Nat) : Int))
    by_cases c : e.1 = k
    · rw [if_pos (by rw [c]), if_pos c]
    · rw [if_neg (kk_ne c), if_neg c]
abbrev nSetP : List Str := ["own", "numbers", "x", "y", "possible", "one", "before"]
theorem scSetP : FnScope nSetP ["own", "numbers"] (defScope (topS 17)) := ⟨rfl, rfl, rfl, by decide +kernel, rfl, by decide +kernel, by decide +kernel⟩
abbrev nSetV : List Str := ["own", "numbers", "x", "y", "value", "one", "before"]
theorem scSetV : FnScope nSetV ["own", "numbers"] (defScope (topS 18)) := ⟨rfl, rfl, rfl, by decide +kernel, rfl, by decide +kernel, by decide +kernel⟩
abbrev nNew : List Str := ["own", "numbers", "source", "symbol", "message", "one", "code", "before"]
theorem scNew : FnScope nNew ["own", "numbers", "source"] (defScope (topS 19)) := ⟨rfl, rfl, rfl, by decide +kernel, rfl, by decide +kernel, by decide +kernel⟩
theorem scSetX : FnScope ["own", "numbers"] ["own", "numbers"] (defScope (topS 20)) := ⟨rfl, rfl, rfl, by decide +kernel, rfl, by decide +kernel, by decide +kernel⟩
theorem scSetY : FnScope ["own", "numbers"] ["own", "numbers"] (defScope (topS 21)) := ⟨rfl, rfl, rfl, by decide +kernel, rfl, by decide +kernel, by decide +kernel⟩
def spNew (K : PySem.W.Frag) (CH CI : Addr) : Sp := fun vs H Q _ => ∃ (own nb : Addr) (s : Session) (a b src : Nat) (F : List Addr), vs = [.ref own, .ref nb, .int (src : Int)] ∧ src ≤ 1 ∧ StAt CH CI H own (some s) F ∧ SqL K H nb (intsV [a, b]) ∧
  Answer CH CI H own (some s) F (if src = 0 then .setXMessage a b else .setYMessage a b) Q
section
variable {P : Program} {w : World} {K : PySem.W.Frag} {mg : Str → Option Value} {base : Heap} {CI CH : Addr}
theorem ok_setP (C : ClsH K CH) (C' : ClsI K CI) (D : DefAt K mg "call_set_possible" (topS 17) ["own", "numbers"]) (c1 : Met P w K mg base 1 CI "has" (spHas CI) []) : Cal P w K mg base 2 "call_set_possible" (spDeed K CH CI 1 3) [] := by
  refine D.cal scSetP (fun vs H Q E h => ?_) (fun f cdv A outer s H vs Q E hr h => ⟨_,
    pss_cons (ps_asg (pv 1) (pg_unl rfl (pgs_cons (pg_name (i := 2) scSetP.nd rfl (.inl rfl)) (pgs_cons (pg_name (i := 3) scSetP.nd rfl (.inl rfl)) (pgs_cons (pg_name (i := 4) scSetP.nd rfl (.inl rfl)) pgs_nil)))))
    (pss_cons (ps_set (i := 5) scSetP.nd rfl (.inl rfl) (pe_fld (pv 0) rfl))
    (pss_cons (ps_if (pt_not (pt_val (C8.pe_mt c1 hr (Nat.le_refl _) (pv 5) (pa_cons (pv 2) (pa_cons (pv 3) pa_nil))))) (pss_one (ps_ret (pe_lst (pa_cons (pe_un un_neg pe_int) pa_nil)))) pss_nil)
    (pss_cons (ps_if (pt_cmp (pc_gt (pv 4) pe_int)) (pss_one (ps_ret (pe_lst (pa_cons (pe_un un_neg pe_int) pa_nil)))) pss_nil)
    (pss_cons (ps_set (i := 6) scSetP.nd rfl (.inl rfl) (pe_ifExp (pt_cmp (pc_din (hu_of hr) (pe_tup (pa_cons (pv 2) (pa_cons (pv 3) pa_nil))) (pe_fld (pv 5) rfl))) pe_int pe_int))
    (pss_cons (ps_if (pt_cmp (pc_eqI (pv 4) pe_int)) (pss_one (ps_dput (hu_of hr) (pe_fld (pv 5) rfl) (pe_tup (pa_cons (pv 2) (pa_cons (pv 3) pa_nil))) pe_bl rfl))
        (pss_one (ps_if (pt_cmp (pc_eqI (pv 6) pe_int)) (pss_one (ps_expr (pe_dpopT (hu_of hr) (pe_fld (pv 5) rfl) (pe_tup (pa_cons (pv 2) (pa_cons (pv 3) pa_nil))) ⟨rfl, rfl, rfl, rfl⟩))) pss_nil)))
    (pss_one (ps_ret (pe_lst (pa_cons (pv 6) pa_nil))))))))), ?_⟩)
  · obtain ⟨own, nb, st, ns, F, rfl, _⟩ := h
    rfl
  · obtain ⟨own, nb, st, ns, F, rfl, hl, hs, hnb, hne, A⟩ := h
    obtain ⟨s, rfl⟩ := some_of (hne (by decide))
    obtain ⟨x, y, p, rfl⟩ := len3 hl
    have hs0 := hs
    obtain ⟨dx, i, m, hw, hI, rfl⟩ := hs
    have few := hI.ok.few
    refine ⟨_, rfl, nb, _, rfl, hnb, rfl, _, _, rfl, _, _, rfl, _, _, rfl, rfl, ?_⟩
    refine ⟨_, rfl, own, CH, dx, _, _, rfl, hw, C.cl, C.nI, hF_look _, ?_⟩
    refine ⟨_, rfl, i, m.dx, m.fs, rfl, hI.ins, fs_none m (by decide +kernel) (by decide +kernel) (by decide +kernel) (by decide +kernel), _, rfl, _, rfl, i, s, m, x, y, rfl, hI, _, rfl, ?_⟩
    cases e : (decide (x < s.sources.xCount) && decide (y < s.sources.yCount)) with
    | false =>
      have eo : out (some s) (deedCall 1 [x, y, p]) = (some s, [-2]) := by
        show ((Km540.step (some s) (.setPossible x y p)).1, (Km540.step (some s) (.setPossible x y p)).2.num :: (Km540.step (some s) (.setPossible x y p)).2.nums) = _
        unfold Km540.step
        dsimp only
        rw [if_pos (by simp only [Bool.and_eq_false_iff, decide_eq_false_iff_not] at e; omega)]
        rfl
      exact iteT ⟨_, rfl, (by show 1 ≤ sizeLine; decide), fun a ha => ans_read A hs0 (by rw [eo]) (same_upd ha) upd_same ha (by rw [eo]; rfl)⟩
    | true =>
      simp only [Bool.and_eq_true, decide_eq_true_eq] at e
      refine iteF ?_
      refine ⟨_, rfl, (p : Int), 1, rfl, rfl, decide (1 < p), congrArg V.bl (dec_lt 1 p), ?_⟩
      by_cases p1 : 1 < p
      · have eo : out (some s) (deedCall 1 [x, y, p]) = (some s, [-22]) := by
          show ((Km540.step (some s) (.setPossible x y p)).1, (Km540.step (some s) (.setPossible x y p)).2.num :: (Km540.step (some s) (.setPossible x y p)).2.nums) = _
          unfold Km540.step
          dsimp only
          rw [if_neg (by omega), if_pos p1]
          rfl
        rw [decide_eq_true p1]
        exact iteT ⟨_, rfl, (by show 1 ≤ sizeLine; decide), fun a ha => ans_read A hs0 (by rw [eo]) (same_upd ha) upd_same ha (by rw [eo]; rfl)⟩
      · rw [decide_eq_false p1]
        refine iteF ?_
        have eo : out (some s) (deedCall 1 [x, y, p]) = (some { s with sources := Km540.withPossible s.sources x y (p == 1) }, [if Km540.isPossible s.sources x y then 1 else 0]) := by
          show ((Km540.step (some s) (.setPossible x y p)).1, (Km540.step (some s) (.setPossible x y p)).2.num :: (Km540.step (some s) (.setPossible x y p)).2.nums) = _
          unfold Km540.step
          dsimp only
          rw [if_neg (by omega), if_neg p1]
          rfl
        refine ⟨_, rfl, _, rfl, (by show 2 ≤ sizeLine; decide), fun t1 ht1 => ?_⟩
        have s1 : Same H _ := same_upd (o := .tup [.int (x : Int), .int (y : Int)]) ht1
        have I1 := hI.same s1
        refine ⟨_, rfl, i, CI, _, _, _, rfl, I1.ins, C'.cl, C'.nP, fs_possible m, m.pd, _, rfl, DGet.t (k := kk (x, y)) I1.pos (by rw [kk_kV]; exact upd_same), _, rfl, ?_⟩
        have epo : Km540.isPossible s.sources x y = decide ((x, y) ∈ m.kp) := by
          refine TCM.bc ?_
          rw [decide_eq_true_eq, hI.ok.poss, TCM.mem_possible]
          exact ⟨fun h => ⟨e.1, e.2, h⟩, fun h => h.2.2⟩
        rw [dP_look]
        generalize upd H t1 (.tup [.int (x : Int), .int (y : Int)]) = H1 at s1 I1 ⊢
        -- behind «before = ..»
        have fin : ∀ (H2 : Hp) (m' : IA), KeepBut H1 H2 (m.fp i) → InstAt CI H2 i { s with sources := Km540.withPossible s.sources x y (p == 1) } m' → m'.fp i = m.fp i → ∀ (v6 : V), v6 = V.int (if decide ((x, y) ∈ m.kp) = true then 1 else 0) →
            ∀ a, H2 a = none → Q (.ref a) (upd H2 a (.lst [v6])) := fun H2 m' k hI2 hfp v6 hv a ha => ans_inst A hw hI s1 k hI2 hfp ha eo (by rw [hv, epo]; rfl)
        have body : ∀ (b : Int), V.int b = V.int (if decide ((x, y) ∈ m.kp) = true then 1 else 0) →
            tSeq (tIfS (tB (tEqI (tVar 4) (tC (V.int 1)))) (sDPut (tFld K (tVar 5) "possible") (tTup (tCons (tVar 2) (tCons (tVar 3) tNil))) (tC (V.bl true)))
              (tIfS (tB (tEqI (tVar 6) (tC (V.int 1)))) (tDrop (tDPopT (tFld K (tVar 5) "possible") (tTup (tCons (tVar 2) (tCons (tVar 3) tNil))))) tNext)) (tRet (tLst (tCons (tVar 6) tNil)))
              { nx := fun _ H' => Q .non H', rt := Q } [some (.ref own), some (.ref nb), some (.int (x : Int)), some (.int (y : Int)), some (.int (p : Int)), some (.ref i), some (.int b)] H1 := by
          intro b hb
          have hb' : b = (if decide ((x, y) ∈ m.kp) = true then 1 else 0) := by injection hb
          refine ⟨_, rfl, (p : Int), 1, rfl, rfl, decide (p = 1), congrArg V.bl (TCM.bc (by simp; omega)), ?_⟩
          by_cases pe : p = 1
          · rw [decide_eq_true pe]
            refine iteT ?_
            refine ⟨_, rfl, i, CI, _, _, _, rfl, I1.ins, C'.cl, C'.nP, fs_possible m, _, rfl, _, rfl, (by show 2 ≤ sizeLine; decide), fun t2 ht2 => ?_⟩
            have s2 : Same H1 _ := same_upd (o := .tup [.int (x : Int), .int (y : Int)]) ht2
            have I2 := I1.same s2
            have hl2 : (dP m.kp).length < sizeLine := by
              unfold dP
              rw [List.length_map, sizeLine_eq]
              omega
            refine ⟨m.pd, _, rfl, DPut.t (k := kk (x, y)) I2.pos (by rw [kk_kV]; exact upd_same) hl2, ?_⟩
            rw [dP_put]
            refine ⟨_, rfl, (by show 1 ≤ sizeLine; decide), fun a ha => fin _ { m with kp := if (x, y) ∈ m.kp then m.kp else m.kp ++ [(x, y)] } ((KeepBut.of s2).trans (keep_at (fp_pd m i))) (I2.setPd _ ?_ rfl rfl rfl rfl) rfl _ hb a ha⟩
            rw [show (p == 1) = true by simp [pe]]
            refine hI.ok.setP e.1 e.2 true (fun q => ?_) ?_
            · by_cases c : (x, y) ∈ m.kp
              · rw [if_pos c]
                by_cases d : q = (x, y)
                · rw [if_pos d, d]; simp [c]
                · rw [if_neg d]
              · rw [if_neg c]
                by_cases d : q = (x, y)
                · rw [if_pos d, d]; simp
                · rw [if_neg d]; simp [d]
            · by_cases c : (x, y) ∈ m.kp
              · rw [if_pos c]; exact hI.ok.nodup
              · rw [if_neg c]; exact TCM.nodup_snoc hI.ok.nodup c
          · have pb : (p == 1) = false := by simp [pe]
            rw [decide_eq_false pe]
            refine iteF ?_
            by_cases c : (x, y) ∈ m.kp
            · have b1 : b = 1 := by rw [hb', decide_eq_true c]; rfl
              refine ⟨_, rfl, b, 1, rfl, rfl, true, congrArg V.bl (decide_eq_true b1), ?_⟩
              refine iteT ?_
              refine ⟨_, rfl, i, CI, _, _, _, rfl, I1.ins, C'.cl, C'.nP, fs_possible m, m.pd, rfl, .inr ⟨_, .inl I1.pos⟩, _, rfl, _, rfl, (by show 2 ≤ sizeLine; decide), fun t2 ht2 => ?_⟩
              have s2 : Same H1 _ := same_upd (o := .tup [.int (x : Int), .int (y : Int)]) ht2
              have I2 := I1.same s2
              refine ⟨dP m.kp, kk (x, y), t2, .bl true, I2.pos, rfl, (by rw [kk_kV]; exact upd_same), (by rw [dP_look, if_pos c]), ?_⟩
              rw [dP_drop]
              refine ⟨_, rfl, (by show 1 ≤ sizeLine; decide), fun a ha => fin _ { m with kp := m.kp.filter fun q => decide (q ≠ (x, y)) } ((KeepBut.of s2).trans (keep_at (fp_pd m i))) (I2.setPd _ ?_ rfl rfl rfl rfl) rfl _ hb a ha⟩
              rw [pb]
              refine hI.ok.setP e.1 e.2 false (fun q => ?_) (List.Pairwise.filter _ hI.ok.nodup)
              by_cases d : q = (x, y)
              · rw [if_pos d, d]; simp
              · rw [if_neg d]; simp [d]
            · have b0 : b = 0 := by rw [hb', decide_eq_false c]; rfl
              refine ⟨_, rfl, b, 1, rfl, rfl, false, congrArg V.bl (decide_eq_false (by rw [b0]; decide)), ?_⟩
              refine iteF ?_
              refine ⟨_, rfl, (by show 1 ≤ sizeLine; decide), fun a ha => fin _ m (KeepBut.of (Same.refl _)) ?_ rfl _ hb a ha⟩
              have ok : SesOk { s with sources := Km540.withPossible s.sources x y (p == 1) } m.kp m.kv := by
                rw [pb]
                refine hI.ok.setP e.1 e.2 false (fun q => ?_) hI.ok.nodup
                by_cases d : q = (x, y)
                · rw [if_pos d, d]; simp [c]
                · rw [if_neg d]
              exact ⟨I1.ins, I1.cnt, I1.pos, I1.val, I1.cod, I1.xco, I1.yco, I1.d1, I1.d2, I1.d3, I1.d4, ok⟩
        by_cases c : (x, y) ∈ m.kp
        · rw [if_pos c]
          exact iteT (body 1 (by rw [decide_eq_true c]; rfl))
        · rw [if_neg c]
          exact iteF (body 0 (by rw [decide_eq_false c]; rfl))
theorem ok_setV (T : Txt mg) (C : ClsH K CH) (C' : ClsI K CI) (D : DefAt K mg "call_set_value" (topS 18) ["own", "numbers"]) (c1 : Met P w K mg base 1 CI "has" (spHas CI) []) (c2 : Met P w K mg base 1 CI "value" (spValue CI) []) : Cal P w K mg base 2 "call_set_value" (spDeed K CH CI 2 3) [] := by
  refine D.cal scSetV (fun vs H Q E h => ?_) (fun f cdv A outer s H vs Q E hr h => ⟨_,
    pss_cons (ps_asg (pv 1) (pg_unl rfl (pgs_cons (pg_name (i := 2) scSetV.nd rfl (.inl rfl)) (pgs_cons (pg_name (i := 3) scSetV.nd rfl (.inl rfl)) (pgs_cons (pg_name (i := 4) scSetV.nd rfl (.inl rfl)) pgs_nil)))))
    (pss_cons (ps_set (i := 5) scSetV.nd rfl (.inl rfl) (pe_fld (pv 0) rfl))
    (pss_cons (ps_if (pt_not (pt_val (C8.pe_mt c1 hr (Nat.le_refl _) (pv 5) (pa_cons (pv 2) (pa_cons (pv 3) pa_nil))))) (pss_one (ps_ret (pe_lst (pa_cons (pe_un un_neg pe_int) pa_nil)))) pss_nil)
    (pss_cons (ps_if (pt_cmp (pc_gt (pv 4) (C8.pe_gc (by rfl) T.value))) (pss_one (ps_ret (pe_lst (pa_cons (pe_un un_neg pe_int) pa_nil)))) pss_nil)
    (pss_cons (ps_set (i := 6) scSetV.nd rfl (.inl rfl) (C8.pe_mt c2 hr (Nat.le_refl _) (pv 5) (pa_cons (pe_tup (pa_cons (pv 2) (pa_cons (pv 3) pa_nil))) pa_nil)))
    (pss_cons (ps_dput (hu_of hr) (pe_fld (pv 5) rfl) (pe_tup (pa_cons (pv 2) (pa_cons (pv 3) pa_nil))) (pv 4) rfl)
    (pss_one (ps_ret (pe_lst (pa_cons (pv 6) pa_nil))))))))), ?_⟩)
  · obtain ⟨own, nb, st, ns, F, rfl, _⟩ := h
    rfl
  · obtain ⟨own, nb, st, ns, F, rfl, hl, hs, hnb, hne, A⟩ := h
    obtain ⟨s, rfl⟩ := some_of (hne (by decide))
    obtain ⟨x, y, n, rfl⟩ := len3 hl
    have hs0 := hs
    obtain ⟨dx, i, m, hw, hI, rfl⟩ := hs
    have vfew := hI.ok.vfew
    have hnf : ∀ {z : Str}, (z == ("counts" : Str)) = false → (z == ("possible" : Str)) = false → (z == ("values_of" : Str)) = false → (z == ("codes" : Str)) = false → m.fs.lookup z = none := fun h1 h2 h3 h4 => fs_none m h1 h2 h3 h4
    refine ⟨_, rfl, nb, _, rfl, hnb, rfl, _, _, rfl, _, _, rfl, _, _, rfl, rfl, ?_⟩
    refine ⟨_, rfl, own, CH, dx, _, _, rfl, hw, C.cl, C.nI, hF_look _, ?_⟩
    refine ⟨_, rfl, i, m.dx, m.fs, rfl, hI.ins, hnf (by decide +kernel) (by decide +kernel) (by decide +kernel) (by decide +kernel), _, rfl, _, rfl, i, s, m, x, y, rfl, hI, _, rfl, ?_⟩
    cases e : (decide (x < s.sources.xCount) && decide (y < s.sources.yCount)) with
    | false =>
      have eo : out (some s) (deedCall 2 [x, y, n]) = (some s, [-2]) := by
        show ((Km540.step (some s) (.setValue x y n)).1, (Km540.step (some s) (.setValue x y n)).2.num :: (Km540.step (some s) (.setValue x y n)).2.nums) = _
        unfold Km540.step
        dsimp only
        rw [if_pos (by simp only [Bool.and_eq_false_iff, decide_eq_false_iff_not] at e; omega)]
        rfl
      exact iteT ⟨_, rfl, (by show 1 ≤ sizeLine; decide), fun a ha => ans_read A hs0 (by rw [eo]) (same_upd ha) upd_same ha (by rw [eo]; rfl)⟩
    | true =>
      simp only [Bool.and_eq_true, decide_eq_true_eq] at e
      refine iteF ?_
      refine ⟨_, rfl, (n : Int), 9, rfl, rfl, decide (9 < n), congrArg V.bl (dec_lt 9 n), ?_⟩
      by_cases p1 : 9 < n
      · have eo : out (some s) (deedCall 2 [x, y, n]) = (some s, [-22]) := by
          show ((Km540.step (some s) (.setValue x y n)).1, (Km540.step (some s) (.setValue x y n)).2.num :: (Km540.step (some s) (.setValue x y n)).2.nums) = _
          unfold Km540.step
          dsimp only
          rw [if_neg (by omega), if_pos p1]
          rfl
        rw [decide_eq_true p1]
        exact iteT ⟨_, rfl, (by show 1 ≤ sizeLine; decide), fun a ha => ans_read A hs0 (by rw [eo]) (same_upd ha) upd_same ha (by rw [eo]; rfl)⟩
      · rw [decide_eq_false p1]
        refine iteF ?_
        have eo : out (some s) (deedCall 2 [x, y, n]) = (some { s with sources := { s.sources with values := s.sources.values.set (Km540.cellIndex s.sources x y) n } }, [((Km540.value s.sources x y : Nat) : Int)]) := by
          show ((Km540.step (some s) (.setValue x y n)).1, (Km540.step (some s) (.setValue x y n)).2.num :: (Km540.step (some s) (.setValue x y n)).2.nums) = _
          unfold Km540.step
          dsimp only
          rw [if_neg (by omega), if_neg p1]
          rfl
        refine ⟨_, rfl, i, m.dx, m.fs, rfl, hI.ins, hnf (by decide +kernel) (by decide +kernel) (by decide +kernel) (by decide +kernel), _, rfl, _, rfl, (by show 2 ≤ sizeLine; decide), fun t1 ht1 => ?_⟩
        have s1 : Same H _ := same_upd (o := .tup [.int (x : Int), .int (y : Int)]) ht1
        have I1 := hI.same s1
        refine ⟨i, t1, s, m, x, y, rfl, I1, upd_same, e.1, e.2, ?_⟩
        refine ⟨_, rfl, _, rfl, i, CI, _, _, _, rfl, I1.ins, C'.cl, C'.nV, fs_values m, _, rfl, _, rfl, (by show 2 ≤ sizeLine; decide), fun t2 ht2 => ?_⟩
        have s2 : Same H _ := same_then (o := .tup [.int (x : Int), .int (y : Int)]) s1 ht2
        have I2 := hI.same s2
        have hl2 : (dV m.kv).length < sizeLine := by
          unfold dV
          rw [List.length_map, sizeLine_eq]
          omega
        refine ⟨m.vd, _, rfl, DPut.t (k := kk (x, y)) I2.val (by rw [kk_kV]; exact upd_same) hl2, ?_⟩
        rw [dV_put]
        refine ⟨_, rfl, (by show 1 ≤ sizeLine; decide), fun a ha => ?_⟩
        exact ans_inst A hw hI s2 (keep_at (fp_vd m i)) (I2.setVd _ (hI.ok.setV e.1 e.2 n) rfl rfl rfl rfl) rfl ha eo rfl
theorem intsV_set (c : List Nat) (i n : Nat) : (intsV c).set i (.int (n : Int)) = intsV (c.set i n) := by
  unfold intsV
  rw [List.map_set]
theorem ok_new (T : Txt mg) (C : ClsH K CH) (C' : ClsI K CI) (D : DefAt K mg "new_message" (topS 19) ["own", "numbers", "source"]) : Cal P w K mg base 1 "new_message" (spNew K CH CI) [] := by
  refine D.cal scNew (fun vs H Q E h => ?_) (fun f cdv A outer s H vs Q E hr h => ⟨_,
    pss_cons (ps_asg (pv 1) (pg_unl rfl (pgs_cons (pg_name (i := 3) scNew.nd rfl (.inl rfl)) (pgs_cons (pg_name (i := 4) scNew.nd rfl (.inl rfl)) pgs_nil))))
    (pss_cons (ps_set (i := 5) scNew.nd rfl (.inl rfl) (pe_fld (pv 0) rfl))
    (pss_cons (ps_if (pt_cmp (pc_ge (pv 3) (pe_ix ix_any (pe_fld (pv 5) rfl) (pv 2) (fun _ _ => rfl)))) (pss_one (ps_ret (pe_lst (pa_cons (pe_un un_neg pe_int) pa_nil)))) pss_nil)
    (pss_cons (ps_if (pt_cmp (pc_gt (pv 4) (C8.pe_gc (by rfl) T.message))) (pss_one (ps_ret (pe_lst (pa_cons (pe_un un_neg pe_int) pa_nil)))) pss_nil)
    (pss_cons (ps_set (i := 6) scNew.nd rfl (.inl rfl) (pe_ix ix_any (pe_fld (pv 5) rfl) (pv 2) (fun _ _ => rfl)))
    (pss_cons (ps_set (i := 7) scNew.nd rfl (.inl rfl) (pe_ix ix_any (pv 6) (pv 3) (fun _ _ => rfl)))
    (pss_cons (ps_asg (pv 4) (pg_sub (pv 6) (pv 3) set_list))
    (pss_one (ps_ret (pe_lst (pa_cons (pv 7) pa_nil)))))))))), ?_⟩)
  · obtain ⟨own, nb, s, a, b, src, F, rfl, _⟩ := h
    rfl
  · obtain ⟨own, nb, s, y, n, src, F, rfl, h1, hs, hnb, A⟩ := h
    have hs0 := hs
    obtain ⟨dx, i, m, hw, hI, rfl⟩ := hs
    refine ⟨_, rfl, nb, _, rfl, hnb, rfl, _, _, rfl, _, _, rfl, rfl, ?_⟩
    refine ⟨_, rfl, own, CH, dx, _, _, rfl, hw, C.cl, C.nI, hF_look _, ?_⟩
    obtain ⟨cnt, ac, code, hcnt, hac, hcode, hlen, hcall⟩ : ∃ (cnt : Nat) (ac : Addr) (code : List Nat), [V.int (s.sources.xCount : Int), V.int (s.sources.yCount : Int)][src]? = some (.int (cnt : Int)) ∧ [V.ref m.cx, V.ref m.cy][src]? = some (.ref ac) ∧ H ac = some (.lst (intsV code)) ∧ code.length = cnt ∧
        ((src = 0 ∧ cnt = s.sources.xCount ∧ ac = m.cx ∧ code = s.xCode) ∨ (src = 1 ∧ cnt = s.sources.yCount ∧ ac = m.cy ∧ code = s.yCode)) := by
      rcases (show src = 0 ∨ src = 1 by omega) with e | e
      · subst e
        exact ⟨_, _, _, rfl, rfl, hI.xco, hI.ok.xlen, .inl ⟨rfl, rfl, rfl, rfl⟩⟩
      · subst e
        exact ⟨_, _, _, rfl, rfl, hI.yco, hI.ok.ylen, .inr ⟨rfl, rfl, rfl, rfl⟩⟩
    have eo : out (some s) (if src = 0 then .setXMessage y n else .setYMessage y n) = if cnt ≤ y then (some s, [-2]) else if 5 ≤ n then (some s, [-22]) else (some (if src = 0 then { s with xCode := code.set y n } else { s with yCode := code.set y n }), [((code.getD y 0 : Nat) : Int)]) := by
      rcases hcall with ⟨e1, e2, _, e4⟩ | ⟨e1, e2, _, e4⟩
      · subst e1 e2 e4
        rw [if_pos rfl, if_pos rfl]
        show ((Km540.step (some s) (.setXMessage y n)).1, (Km540.step (some s) (.setXMessage y n)).2.num :: (Km540.step (some s) (.setXMessage y n)).2.nums) = _
        unfold Km540.step Km540.maxSymbols
        dsimp only
        by_cases q1 : s.sources.xCount ≤ y
        · rw [if_pos q1, if_pos q1]; rfl
        · rw [if_neg q1, if_neg q1]
          by_cases q2 : 5 ≤ n
          · rw [if_pos q2, if_pos q2]; rfl
          · rw [if_neg q2, if_neg q2]; rfl
      · subst e1 e2 e4
        rw [if_neg (show ¬ (1 : Nat) = 0 by decide), if_neg (show ¬ (1 : Nat) = 0 by decide)]
        show ((Km540.step (some s) (.setYMessage y n)).1, (Km540.step (some s) (.setYMessage y n)).2.num :: (Km540.step (some s) (.setYMessage y n)).2.nums) = _
        unfold Km540.step Km540.maxSymbols
        dsimp only
        by_cases q1 : s.sources.yCount ≤ y
        · rw [if_pos q1, if_pos q1]; rfl
        · rw [if_neg q1, if_neg q1]
          by_cases q2 : 5 ≤ n
          · rw [if_pos q2, if_pos q2]; rfl
          · rw [if_neg q2, if_neg q2]; rfl
    refine ⟨_, rfl, _, rfl, i, CI, _, _, _, rfl, hI.ins, C'.cl, C'.nC, fs_counts m, _, rfl, m.ct, src, _, _, rfl, rfl, .inr (SqT.of hI.cnt), hcnt, _, _, rfl, rfl, decide (cnt ≤ y), congrArg V.bl (TCM.bc (by simp)), ?_⟩
    by_cases q1 : cnt ≤ y
    · rw [if_pos q1] at eo
      rw [decide_eq_true q1]
      exact iteT ⟨_, rfl, (by show 1 ≤ sizeLine; decide), fun a ha => ans_read A hs0 (by rw [eo]) (same_upd ha) upd_same ha (by rw [eo]; rfl)⟩
    · rw [if_neg q1] at eo
      rw [decide_eq_false q1]
      refine iteF ?_
      refine ⟨_, rfl, (n : Int), 4, rfl, rfl, decide (5 ≤ n), congrArg V.bl (TCM.bc (by simp; omega)), ?_⟩
      by_cases q2 : 5 ≤ n
      · rw [if_pos q2] at eo
        rw [decide_eq_true q2]
        exact iteT ⟨_, rfl, (by show 1 ≤ sizeLine; decide), fun a ha => ans_read A hs0 (by rw [eo]) (same_upd ha) upd_same ha (by rw [eo]; rfl)⟩
      · rw [if_neg q2] at eo
        rw [decide_eq_false q2]
        refine iteF ?_
        have yl : y < code.length := by omega
        refine ⟨_, rfl, i, CI, _, _, _, rfl, hI.ins, C'.cl, C'.nK, fs_codes m, _, rfl, m.cl, src, _, _, rfl, rfl, .inl (SqL.of hI.cod), hac, ?_⟩
        refine ⟨_, rfl, _, rfl, ac, y, _, _, rfl, rfl, .inl (SqL.of hcode), intsV_at yl, ?_⟩
        have ej : ixN (intsV code).length (y : Int) = some y := by
          unfold ixN
          rw [intsV_len, if_pos (by omega), if_pos (by omega)]
          simp
        refine ⟨_, rfl, _, rfl, _, rfl, ac, _, _, y, rfl, rfl, hcode, ej, ?_⟩
        rw [intsV_set]
        refine ⟨_, rfl, (by show 1 ≤ sizeLine; decide), fun a ha => ?_⟩
        rcases hcall with ⟨e1, e2, e3, e4⟩ | ⟨e1, e2, e3, e4⟩
        · subst e1 e3 e4
          have ok := hI.ok.codes (c := s.xCode.set y n) (d := s.yCode) (by rw [List.length_set]; exact hI.ok.xlen) hI.ok.ylen
          exact ans_inst A hw hI (Same.refl H) (keep_at (fp_cx m i)) (hI.setCx _ ok) rfl ha eo rfl
        · subst e1 e3 e4
          have ok := hI.ok.codes (c := s.xCode) (d := s.yCode.set y n) hI.ok.xlen (by rw [List.length_set]; exact hI.ok.ylen)
          exact ans_inst A hw hI (Same.refl H) (keep_at (fp_cy m i)) (hI.setCy _ ok) rfl ha eo rfl
theorem ok_setX (D : DefAt K mg "call_set_x_message" (topS 20) ["own", "numbers"]) (c1 : Cal P w K mg base 1 "new_message" (spNew K CH CI) []) : Cal P w K mg base 2 "call_set_x_message" (spDeed K CH CI 3 2) [] := by
  refine D.cal scSetX (fun vs H Q E h => ?_) (fun f cdv A outer s H vs Q E hr h => ⟨_, pss_one (ps_ret (C8.pe_c c1 hr (Nat.le_refl _) (by rfl) (pa_cons (pv 0) (pa_cons (pv 1) (pa_cons pe_int pa_nil))))), ?_⟩)
  · obtain ⟨own, nb, st, ns, F, rfl, _⟩ := h
    rfl
  · obtain ⟨own, nb, st, ns, F, rfl, hl, hs, hnb, hne, A⟩ := h
    obtain ⟨s, rfl⟩ := some_of (hne (by decide))
    obtain ⟨a, b, rfl⟩ := len2 hl
    exact ⟨_, rfl, _, rfl, own, nb, s, a, b, 0, F, rfl, by decide, hs, hnb, A⟩
theorem ok_setY (D : DefAt K mg "call_set_y_message" (topS 21) ["own", "numbers"]) (c1 : Cal P w K mg base 1 "new_message" (spNew K CH CI) []) : Cal P w K mg base 2 "call_set_y_message" (spDeed K CH CI 4 2) [] := by
  refine D.cal scSetY (fun vs H Q E h => ?_) (fun f cdv A outer s H vs Q E hr h => ⟨_, pss_one (ps_ret (C8.pe_c c1 hr (Nat.le_refl _) (by rfl) (pa_cons (pv 0) (pa_cons (pv 1) (pa_cons pe_int pa_nil))))), ?_⟩)
  · obtain ⟨own, nb, st, ns, F, rfl, _⟩ := h
    rfl
  · obtain ⟨own, nb, st, ns, F, rfl, hl, hs, hnb, hne, A⟩ := h
    obtain ⟨s, rfl⟩ := some_of (hne (by decide))
    obtain ⟨a, b, rfl⟩ := len2 hl
    exact ⟨_, rfl, _, rfl, own, nb, s, a, b, 1, F, rfl, by decide, hs, hnb, A⟩
end
end TC
/-! The walks, 11: judged, conflict. -/
namespace TC
open PySem PySem.Spec PyProof.Rows L2
open TCM (Tv valF SesOk)
open Km540 (Session possiblePairs)
/-- what is answered with nothing changed -/
def Told (H : Hp) (l : List Int) (Q : VK) : Prop := ∀ (H' : Hp) (a : Addr), Same H H' → H a = none → H' a = some (.lst (l.map V.int)) → Q (.ref a) H'
theorem Told.same {H H1 : Hp} {l : List Int} {Q : VK} (t : Told H l Q) (s : Same H H1) : Told H1 l Q := fun H' a k hn ha => t H' a (s.trans k) (s.free hn) ha
theorem Told.new {H : Hp} {l : List Int} {Q : VK} {a : Addr} {vs : List V} (t : Told H l Q) (hn : H a = none) (e : vs = l.map V.int) : Q (.ref a) (upd H a (.lst vs)) := t _ a (same_upd hn) hn (by rw [upd_same, e])
theorem Told.after {H H1 : Hp} {l : List Int} {Q : VK} {a : Addr} {vs : List V} (t : Told H l Q) (s : Same H H1) (hn : H1 a = none) (e : vs = l.map V.int) : Q (.ref a) (upd H1 a (.lst vs)) := (t.same s).new hn e
theorem Told.of {CH CI : Addr} {H : Hp} {own : Addr} {st : Km540.State} {F : List Addr} {c : Km540.Call} {Q : VK} {l : List Int} (A : Answer CH CI H own st F c Q) (hs : StAt CH CI H own st F) (he : (out st c).1 = st) (hl : (out st c).2 = l) : Told H l Q := fun H' a k hn ha =>
  ans_read A hs he k ha hn (by rw [hl])
def resL (r : Km540.Result) : List Int := r.num :: r.nums
def spRead (CH CI : Addr) (g : Session → Bool → List Int) : Sp := fun vs H Q _ => ∃ (own : Addr) (f : Bool) (s : Session) (dx i : Addr) (m : IA), vs = [.ref own, .bl f] ∧ H own = some (.ins CH dx (hF (.ref i))) ∧ InstAt CI H i s m ∧ Told H (g s f) Q
def gJudged (s : Session) (f : Bool) : List Int := [if Km540.isCorrect s.sources f s.xCode s.yCode then 1 else 0]
def gConflict (s : Session) (f : Bool) : List Int := resL (Km540.conflictResult (Km540.findConflict s.sources f s.xCode s.yCode))
theorem nf_has (m : IA) : m.fs.lookup ("has" : Str) = none := fs_none m (by decide +kernel) (by decide +kernel) (by decide +kernel) (by decide +kernel)
theorem nf_pairs (m : IA) : m.fs.lookup ("pairs" : Str) = none := fs_none m (by decide +kernel) (by decide +kernel) (by decide +kernel) (by decide +kernel)
theorem nf_value (m : IA) : m.fs.lookup ("value" : Str) = none := fs_none m (by decide +kernel) (by decide +kernel) (by decide +kernel) (by decide +kernel)
theorem nf_told (m : IA) : m.fs.lookup ("told" : Str) = none := fs_none m (by decide +kernel) (by decide +kernel) (by decide +kernel) (by decide +kernel)
theorem nf_dec (m : IA) : m.fs.lookup ("decoded" : Str) = none := fs_none m (by decide +kernel) (by decide +kernel) (by decide +kernel) (by decide +kernel)
section
variable {K : PySem.W.Frag} {CI : Addr} {H : Hp} {i : Addr} {s : Session} {m : IA}
theorem InstAt.codes (h : InstAt CI H i s m) : CodesA K H (.ref m.cl) s.xCode s.yCode := ⟨m.cl, .ref m.cx, .ref m.cy, rfl, .inl (SqL.of h.cod), ⟨m.cx, rfl, .inl (SqL.of h.xco)⟩, m.cy, rfl, .inl (SqL.of h.yco)⟩
theorem InstAt.reach (h : InstAt CI H i s m) : Reach (possiblePairs s.sources) s.xCode s.yCode := fun p hp => by
  have b := TCM.mem_possible.mp (show (p.1, p.2) ∈ possiblePairs s.sources from hp)
  rw [h.ok.xlen, h.ok.ylen]
  exact ⟨b.1, b.2.1⟩
theorem InstAt.within (_h : InstAt CI H i s m) : ∀ p ∈ possiblePairs s.sources, p.1 < s.sources.xCount ∧ p.2 < s.sources.yCount := fun p hp => by
  have b := TCM.mem_possible.mp (show (p.1, p.2) ∈ possiblePairs s.sources from hp)
  exact ⟨b.1, b.2.1⟩
theorem InstAt.given {H2 : Hp} {v1 v2 : V} {f : Bool} (h : InstAt CI H i s m) (hp : PairsS K H2 v1 (possiblePairs s.sources)) (ht : ValsL K H2 v2 ((possiblePairs s.sources).map (valF s.sources f))) : Given K H2 v1 v2 (possiblePairs s.sources) (valF s.sources f) :=
  ⟨pairsS_l hp, ht, TCM.possible_few h.ok.x5 h.ok.y5⟩
end
theorem first_lt {ps : List (Nat × Nat)} {val : Nat × Nat → Tv} {c d : List Nat} {i j : Nat} (h : TCM.firstIdx ps val c d = some (i, j)) : i < ps.length ∧ j < ps.length := by
  obtain ⟨k, hk, e⟩ := List.exists_of_findSome?_eq_some h
  obtain ⟨j', e1, e2⟩ := Option.map_eq_some_iff.mp e
  cases e2
  exact ⟨List.mem_range.mp hk, (List.findIdx?_eq_some_iff_getElem.mp e1).1⟩
theorem getD_at {l : List (Nat × Nat)} {i : Nat} (h : i < l.length) : l[i]? = some (l.getD i (0, 0)) := by
  rw [List.getD_eq_getElem?_getD, List.getElem?_eq_getElem h]
  rfl
abbrev nJudged : List Str := ["own", "is_function", "one"]
theorem scJudged : FnScope nJudged ["own", "is_function"] (defScope (topS 24)) := ⟨rfl, rfl, rfl, by decide +kernel, rfl, by decide +kernel, by decide +kernel⟩
abbrev nConf : List Str := ["own", "is_function", "one", "pairs", "places"]
theorem scConf : FnScope nConf ["own", "is_function"] (defScope (topS 25)) := ⟨rfl, rfl, rfl, by decide +kernel, rfl, by decide +kernel, by decide +kernel⟩
theorem scIsL : FnScope ["own", "numbers"] ["own", "numbers"] (defScope (topS 26)) := ⟨rfl, rfl, rfl, by decide +kernel, rfl, by decide +kernel, by decide +kernel⟩
theorem scIsF : FnScope ["own", "numbers"] ["own", "numbers"] (defScope (topS 27)) := ⟨rfl, rfl, rfl, by decide +kernel, rfl, by decide +kernel, by decide +kernel⟩
theorem scLC : FnScope ["own", "numbers"] ["own", "numbers"] (defScope (topS 28)) := ⟨rfl, rfl, rfl, by decide +kernel, rfl, by decide +kernel, by decide +kernel⟩
theorem scFC : FnScope ["own", "numbers"] ["own", "numbers"] (defScope (topS 29)) := ⟨rfl, rfl, rfl, by decide +kernel, rfl, by decide +kernel, by decide +kernel⟩
section
variable {P : Program} {w : World} {K : PySem.W.Frag} {mg : Str → Option Value} {base : Heap} {CI CH : Addr}
theorem ok_judged (C : ClsH K CH) (C' : ClsI K CI) (D : DefAt K mg "judged" (topS 24) ["own", "is_function"]) (c1 : Cal P w K mg base 1 "is_good" (spGood K) []) (m1 : Met P w K mg base 1 CI "pairs" (spPairs K CI) []) (m2 : Met P w K mg base 2 CI "told" (spTold K CI) []) : Cal P w K mg base 3 "judged" (spRead CH CI gJudged) [] := by
  refine D.cal scJudged (fun vs H Q E h => ?_) (fun f cdv A outer s H vs Q E hr h => ⟨_, pss_cons (ps_set (i := 2) scJudged.nd rfl (.inl rfl) (pe_fld (pv 0) rfl))
    (pss_one (ps_ret (pe_lst (pa_cons (pe_ifExp (pt_val (C8.pe_c c1 hr (by decide) (by rfl) (pa_cons (C8.pe_mt0 m1 hr (by decide) (pv 2)) (pa_cons (C8.pe_mt m2 hr (by decide) (pv 2) (pa_cons (pv 1) pa_nil)) (pa_cons (pe_fld (pv 2) rfl) pa_nil))))) pe_int pe_int) pa_nil)))), ?_⟩)
  · obtain ⟨own, f, s, dx, i, m, rfl, _⟩ := h
    rfl
  · obtain ⟨own, f, s, dx, i, m, rfl, hw, hI, q⟩ := h
    refine ⟨_, rfl, own, CH, dx, _, _, rfl, hw, C.cl, C.nI, hF_look _, ?_⟩
    refine ⟨_, rfl, i, m.dx, m.fs, rfl, hI.ins, nf_pairs m, i, s, m, rfl, hI, fun H1 v1 s1 hv1 => ?_⟩
    have I1 := hI.same s1
    refine ⟨_, rfl, i, m.dx, m.fs, rfl, I1.ins, nf_told m, _, rfl, i, f, s, m, rfl, I1, fun H2 v2 s2 hv2 => ?_⟩
    have I2 := I1.same s2
    refine ⟨_, rfl, i, CI, _, _, _, rfl, I2.ins, C'.cl, C'.nK, fs_codes m, v1, v2, .ref m.cl, _, _, _, _, rfl, I2.given (pairsS_same s2 hv1) hv2, I2.codes, I2.reach, fun H3 s3 => ?_⟩
    rw [← TCM.correct_is]
    have s03 := s1.trans (s2.trans s3)
    refine ⟨_, rfl, ?_⟩
    cases e : Km540.isCorrect s.sources f s.xCode s.yCode with
    | true => exact iteT ⟨(by show 1 ≤ sizeLine; decide), fun a ha => q.after s03 ha (by unfold gJudged; rw [e]; rfl)⟩
    | false => exact iteF ⟨(by show 1 ≤ sizeLine; decide), fun a ha => q.after s03 ha (by unfold gJudged; rw [e]; rfl)⟩
theorem ok_conflict (T : Txt mg) (C : ClsH K CH) (C' : ClsI K CI) (D : DefAt K mg "conflict" (topS 25) ["own", "is_function"]) (c1 : Cal P w K mg base 2 "first_clash" (spFirstClash K) []) (m1 : Met P w K mg base 1 CI "pairs" (spPairs K CI) []) (m2 : Met P w K mg base 2 CI "told" (spTold K CI) []) : Cal P w K mg base 3 "conflict" (spRead CH CI gConflict) [] := by
  refine D.cal scConf (fun vs H Q E h => ?_) (fun f cdv A outer s H vs Q E hr h => ⟨_, pss_cons (ps_set (i := 2) scConf.nd rfl (.inl rfl) (pe_fld (pv 0) rfl))
    (pss_cons (ps_set (i := 3) scConf.nd rfl (.inl rfl) (C8.pe_mt0 m1 hr (by decide) (pv 2)))
    (pss_cons (ps_set (i := 4) scConf.nd rfl (.inl rfl) (C8.pe_c c1 hr (by decide) (by rfl) (pa_cons (pv 3) (pa_cons (C8.pe_mt m2 hr (by decide) (pv 2) (pa_cons (pv 1) pa_nil)) (pa_cons (pe_fld (pv 2) rfl) pa_nil)))))
    (pss_cons (ps_if (pt_cmp (pc_eqI (pe_callB call_len_seq (by rfl) T.len PySem.boot_len (pa_cons (pv 4) pa_nil)) pe_int)) (pss_one (ps_ret (pe_lst (pa_cons (pe_un un_neg pe_int) pa_nil)))) pss_nil)
    (pss_one (ps_ret (pe_op op_cat (pe_callTy call_list_of (by rfl) T.list (by decide +kernel) (pa_cons (pe_ix ix_any (pv 3) (pe_ix ix_any (pv 4) pe_int (fun _ _ => rfl)) (fun _ _ => rfl)) pa_nil)) (pe_callTy call_list_of (by rfl) T.list (by decide +kernel) (pa_cons (pe_ix ix_any (pv 3) (pe_ix ix_any (pv 4) pe_int (fun _ _ => rfl)) (fun _ _ => rfl)) pa_nil)))))))), ?_⟩)
  · obtain ⟨own, f, s, dx, i, m, rfl, _⟩ := h
    rfl
  · obtain ⟨own, f, s, dx, i, m, rfl, hw, hI, q⟩ := h
    refine ⟨_, rfl, own, CH, dx, _, _, rfl, hw, C.cl, C.nI, hF_look _, ?_⟩
    refine ⟨_, rfl, i, m.dx, m.fs, rfl, hI.ins, nf_pairs m, i, s, m, rfl, hI, fun H1 v1 s1 hv1 => ?_⟩
    have I1 := hI.same s1
    refine ⟨_, rfl, _, rfl, i, m.dx, m.fs, rfl, I1.ins, nf_told m, _, rfl, i, f, s, m, rfl, I1, fun H2 v2 s2 hv2 => ?_⟩
    have I2 := I1.same s2
    refine ⟨_, rfl, i, CI, _, _, _, rfl, I2.ins, C'.cl, C'.nK, fs_codes m, v1, v2, .ref m.cl, _, _, _, _, rfl, I2.given (pairsS_same s2 hv1) hv2, I2.codes, I2.reach, fun H3 l s3 hl => ?_⟩
    have s03 := s1.trans (s2.trans s3)
    have s13 := s2.trans s3
    obtain ⟨pa, pvs, rfl, hpa, pp⟩ := pairsS_same s13 hv1
    refine ⟨_, rfl, l, _, rfl, .inl hl, _, _, rfl, rfl, decide (two (TCM.firstIdx (possiblePairs s.sources) (valF s.sources f) s.xCode s.yCode) = []), congrArg V.bl (TCM.bc (by
      rw [intsV_len]
      simp)), ?_⟩
    cases e : TCM.firstIdx (possiblePairs s.sources) (valF s.sources f) s.xCode s.yCode with
    | none =>
      refine iteT ⟨_, rfl, (by show 1 ≤ sizeLine; decide), fun a ha => q.after s03 ha ?_⟩
      unfold gConflict
      rw [TCM.conflict_idx, e]
      rfl
    | some ij =>
      obtain ⟨j, k⟩ := ij
      obtain ⟨lj, lk⟩ := first_lt e
      rw [e] at hl
      refine iteF ?_
      obtain ⟨vj, ej, ja, rfl, hj⟩ := pget2 pp (getD_at lj)
      obtain ⟨vk, ek, ka, rfl, hk⟩ := pget2 pp (getD_at lk)
      refine ⟨_, rfl, _, rfl, l, 0, _, _, rfl, rfl, .inl hl, rfl, pa, j, _, _, rfl, rfl, .inl hpa, ej, ja, _, rfl, .inr (SqT.of hj), fun l1 hl1 => ?_⟩
      have t1 : Same H3 _ := same_upd (o := .lst [.int (((possiblePairs s.sources).getD j (0, 0)).1 : Int), .int (((possiblePairs s.sources).getD j (0, 0)).2 : Int)]) hl1
      refine ⟨_, rfl, _, rfl, l, 1, _, _, rfl, rfl, .inl (t1.seq hl), rfl, pa, k, _, _, rfl, rfl, .inl (t1.seq hpa), ek, ka, _, rfl, .inr (SqT.of (t1 _ _ hk)), fun l2 hl2 => ?_⟩
      have t2 := same_upd (o := .lst [.int (((possiblePairs s.sources).getD k (0, 0)).1 : Int), .int (((possiblePairs s.sources).getD k (0, 0)).2 : Int)]) hl2
      refine ⟨l1, l2, _, _, rfl, rfl, t2 _ _ upd_same, upd_same, (by show 4 ≤ sizeLine; decide), fun a ha => q.after (s03.trans (t1.trans t2)) ha ?_⟩
      unfold gConflict
      rw [TCM.conflict_idx, e]
      rfl
theorem ok_isL (D : DefAt K mg "call_is_lossless" (topS 26) ["own", "numbers"]) (c1 : Cal P w K mg base 3 "judged" (spRead CH CI gJudged) []) : Cal P w K mg base 4 "call_is_lossless" (spDeed K CH CI 7 0) [] := by
  refine D.cal scIsL (fun vs H Q E h => ?_) (fun f cdv A outer s H vs Q E hr h => ⟨_, pss_one (ps_ret (C8.pe_c c1 hr (Nat.le_refl _) (by rfl) (pa_cons (pv 0) (pa_cons pe_bl pa_nil)))), ?_⟩)
  · obtain ⟨own, nb, st, ns, F, rfl, _⟩ := h
    rfl
  · obtain ⟨own, nb, st, ns, F, rfl, hl, hs, hnb, hne, A⟩ := h
    obtain ⟨s, rfl⟩ := some_of (hne (by decide))
    obtain rfl := len0 hl
    have hs0 := hs
    obtain ⟨dx, i, m, hw, hI, rfl⟩ := hs
    exact ⟨_, rfl, own, false, s, dx, i, m, rfl, hw, hI, Told.of A hs0 rfl rfl⟩
theorem ok_isF (D : DefAt K mg "call_is_function_correct" (topS 27) ["own", "numbers"]) (c1 : Cal P w K mg base 3 "judged" (spRead CH CI gJudged) []) : Cal P w K mg base 4 "call_is_function_correct" (spDeed K CH CI 8 0) [] := by
  refine D.cal scIsF (fun vs H Q E h => ?_) (fun f cdv A outer s H vs Q E hr h => ⟨_, pss_one (ps_ret (C8.pe_c c1 hr (Nat.le_refl _) (by rfl) (pa_cons (pv 0) (pa_cons pe_bl pa_nil)))), ?_⟩)
  · obtain ⟨own, nb, st, ns, F, rfl, _⟩ := h
    rfl
  · obtain ⟨own, nb, st, ns, F, rfl, hl, hs, hnb, hne, A⟩ := h
    obtain ⟨s, rfl⟩ := some_of (hne (by decide))
    obtain rfl := len0 hl
    have hs0 := hs
    obtain ⟨dx, i, m, hw, hI, rfl⟩ := hs
    exact ⟨_, rfl, own, true, s, dx, i, m, rfl, hw, hI, Told.of A hs0 rfl rfl⟩
theorem ok_lC (D : DefAt K mg "call_lossless_conflict" (topS 28) ["own", "numbers"]) (c1 : Cal P w K mg base 3 "conflict" (spRead CH CI gConflict) []) : Cal P w K mg base 4 "call_lossless_conflict" (spDeed K CH CI 9 0) [] := by
  refine D.cal scLC (fun vs H Q E h => ?_) (fun f cdv A outer s H vs Q E hr h => ⟨_, pss_one (ps_ret (C8.pe_c c1 hr (Nat.le_refl _) (by rfl) (pa_cons (pv 0) (pa_cons pe_bl pa_nil)))), ?_⟩)
  · obtain ⟨own, nb, st, ns, F, rfl, _⟩ := h
    rfl
  · obtain ⟨own, nb, st, ns, F, rfl, hl, hs, hnb, hne, A⟩ := h
    obtain ⟨s, rfl⟩ := some_of (hne (by decide))
    obtain rfl := len0 hl
    have hs0 := hs
    obtain ⟨dx, i, m, hw, hI, rfl⟩ := hs
    exact ⟨_, rfl, own, false, s, dx, i, m, rfl, hw, hI, Told.of A hs0 rfl rfl⟩
theorem ok_fC (D : DefAt K mg "call_function_conflict" (topS 29) ["own", "numbers"]) (c1 : Cal P w K mg base 3 "conflict" (spRead CH CI gConflict) []) : Cal P w K mg base 4 "call_function_conflict" (spDeed K CH CI 10 0) [] := by
  refine D.cal scFC (fun vs H Q E h => ?_) (fun f cdv A outer s H vs Q E hr h => ⟨_, pss_one (ps_ret (C8.pe_c c1 hr (Nat.le_refl _) (by rfl) (pa_cons (pv 0) (pa_cons pe_bl pa_nil)))), ?_⟩)
  · obtain ⟨own, nb, st, ns, F, rfl, _⟩ := h
    rfl
  · obtain ⟨own, nb, st, ns, F, rfl, hl, hs, hnb, hne, A⟩ := h
    obtain ⟨s, rfl⟩ := some_of (hne (by decide))
    obtain rfl := len0 hl
    have hs0 := hs
    obtain ⟨dx, i, m, hw, hI, rfl⟩ := hs
    exact ⟨_, rfl, own, true, s, dx, i, m, rfl, hw, hI, Told.of A hs0 rfl rfl⟩
end
end TC
/-! The walks, 12: decode, transmit. -/
namespace TC
open PySem PySem.Spec PyProof.Rows L2
open TCM (Tv valF SesOk)
open Km540 (Session possiblePairs)
abbrev nDecode : List Str := ["own", "numbers", "found"]
theorem scDecode : FnScope nDecode ["own", "numbers"] (defScope (topS 30)) := ⟨rfl, rfl, rfl, by decide +kernel, rfl, by decide +kernel, by decide +kernel⟩
abbrev nTrans : List Str := ["own", "numbers", "x", "y", "one", "pair", "is_value"]
theorem scTrans : FnScope nTrans ["own", "numbers"] (defScope (topS 31)) := ⟨rfl, rfl, rfl, by decide +kernel, rfl, by decide +kernel, by decide +kernel⟩
theorem dec_in {s : Km540.Sources} {c d : List Nat} {a b : Nat} {p : Nat × Nat} (h : Km540.decode s c d a b = some p) : p.1 < s.xCount ∧ p.2 < s.yCount := by
  rw [TCM.decode_is] at h
  have hm := List.mem_of_find?_eq_some h
  have b := TCM.mem_possible.mp (show (p.1, p.2) ∈ possiblePairs s from hm)
  exact ⟨b.1, b.2.1⟩
theorem dec_some {s : Km540.Sources} {c d : List Nat} {x y : Nat} (h : (x, y) ∈ possiblePairs s) : ∃ p, Km540.decode s c d (c.getD x 0) (d.getD y 0) = some p := by
  cases e : Km540.decode s c d (c.getD x 0) (d.getD y 0) with
  | some p => exact ⟨p, rfl⟩
  | none =>
    rw [TCM.decode_is] at e
    exact absurd (List.find?_eq_none.mp e (x, y) h) (by simp)
theorem pairD_eqv (p q : Nat × Nat) : PyData.eqv (.tuple [.int (p.1 : Int), .int (p.2 : Int)]) (.tuple [.int (q.1 : Int), .int (q.2 : Int)]) = decide (p = q) := by
  have h := tvD_eq (.p p.1 p.2) (.p q.1 q.2)
  exact h.trans (TCM.bc (by simp [Prod.ext_iff]))
section
variable {P : Program} {w : World} {K : PySem.W.Frag} {mg : Str → Option Value} {base : Heap} {CI CH : Addr}
theorem ok_decode (T : Txt mg) (C : ClsH K CH) (D : DefAt K mg "call_decode" (topS 30) ["own", "numbers"]) (m1 : Met P w K mg base 2 CI "decoded" (spDec K CI) []) (m2 : Met P w K mg base 1 CI "value" (spValue CI) []) : Cal P w K mg base 3 "call_decode" (spDeed K CH CI 11 2) [] := by
  refine D.cal scDecode (fun vs H Q E h => ?_) (fun f cdv A outer s H vs Q E hr h => ⟨_, pss_cons (ps_set (i := 2) scDecode.nd rfl (.inl rfl) (C8.pe_mt m1 hr (by decide) (pe_fld (pv 0) rfl) (pa_cons (pe_ix ix_any (pv 1) pe_int (fun _ _ => rfl)) (pa_cons (pe_ix ix_any (pv 1) pe_int (fun _ _ => rfl)) pa_nil))))
    (pss_cons (ps_if (pt_cmp (pc_eqI (pe_callB call_len_seq (by rfl) T.len PySem.boot_len (pa_cons (pv 2) pa_nil)) pe_int)) (pss_one (ps_ret (pe_lst (pa_cons (pe_un un_neg pe_int) pa_nil)))) pss_nil)
    (pss_one (ps_ret (pe_lst (pa_cons (pe_ix ix_any (pe_ix ix_any (pv 2) pe_int (fun _ _ => rfl)) pe_int (fun _ _ => rfl)) (pa_cons (pe_ix ix_any (pe_ix ix_any (pv 2) pe_int (fun _ _ => rfl)) pe_int (fun _ _ => rfl))
      (pa_cons (C8.pe_mt m2 hr (by decide) (pe_fld (pv 0) rfl) (pa_cons (pe_ix ix_any (pv 2) pe_int (fun _ _ => rfl)) pa_nil)) pa_nil))))))), ?_⟩)
  · obtain ⟨own, nb, st, ns, F, rfl, _⟩ := h
    rfl
  · obtain ⟨own, nb, st, ns, F, rfl, hl, hs, hnb, hne, A⟩ := h
    obtain ⟨s, rfl⟩ := some_of (hne (by decide))
    obtain ⟨x, y, rfl⟩ := len2 hl
    have hs0 := hs
    obtain ⟨dx, i, m, hw, hI, rfl⟩ := hs
    have q : Told H _ Q := Told.of A hs0 rfl rfl
    refine ⟨_, rfl, own, CH, dx, _, _, rfl, hw, C.cl, C.nI, hF_look _, i, m.dx, m.fs, rfl, hI.ins, nf_dec m, _, rfl, nb, 0, _, _, rfl, rfl, .inl hnb, rfl, _, rfl, nb, 1, _, _, rfl, rfl, .inl hnb, rfl, i, s, m, x, y, rfl, hI, fun H1 l s1 hl => ?_⟩
    have eo : (out (some s) (deedCall 11 [x, y])).2 = resL (match Km540.decode s.sources s.xCode s.yCode x y with
        | none => Km540.error (-33)
        | some p => ⟨(p.1 : Int), [(p.2 : Int), (Km540.value s.sources p.1 p.2 : Int)]⟩) := rfl
    rw [eo] at q
    have I1 := hI.same s1
    cases e : Km540.decode s.sources s.xCode s.yCode x y with
    | none =>
      rw [e] at hl q
      have hl : SqL K H1 l [] := hl
      refine ⟨_, rfl, l, [], rfl, .inl hl, 0, 0, rfl, rfl, true, rfl, ?_⟩
      exact iteT ⟨_, rfl, (by show 1 ≤ sizeLine; decide), fun a ha => q.after s1 ha rfl⟩
    | some p =>
      rw [e] at hl q
      obtain ⟨v, hl, b, rfl, hb⟩ := hl
      have pin := dec_in e
      refine ⟨_, rfl, l, _, rfl, .inl hl, 1, 0, rfl, rfl, false, rfl, ?_⟩
      refine iteF ?_
      refine ⟨_, rfl, l, 0, _, _, rfl, rfl, .inl hl, rfl, b, 0, _, _, rfl, rfl, .inr (SqT.of hb), rfl, _, rfl, l, 0, _, _, rfl, rfl, .inl hl, rfl, b, 1, _, _, rfl, rfl, .inr (SqT.of hb), rfl, ?_⟩
      refine ⟨_, rfl, own, CH, dx, _, _, rfl, s1 _ _ hw, C.cl, C.nI, hF_look _, i, m.dx, m.fs, rfl, I1.ins, nf_value m, _, rfl, l, 0, _, _, rfl, rfl, .inl hl, rfl, i, b, s, m, p.1, p.2, rfl, I1, hb, pin.1, pin.2, ?_⟩
      exact ⟨(by show 3 ≤ sizeLine; decide), fun a ha => q.after s1 ha rfl⟩
theorem ok_transmit (C : ClsH K CH) (C' : ClsI K CI) (D : DefAt K mg "call_transmit" (topS 31) ["own", "numbers"]) (m1 : Met P w K mg base 2 CI "decoded" (spDec K CI) []) (m2 : Met P w K mg base 1 CI "value" (spValue CI) []) (m3 : Met P w K mg base 1 CI "has" (spHas CI) []) : Cal P w K mg base 3 "call_transmit" (spDeed K CH CI 12 2) [] := by
  refine D.cal scTrans (fun vs H Q E h => ?_) (fun f cdv A outer s H vs Q E hr h => ⟨_,
    pss_cons (ps_asg (pv 1) (pg_unl rfl (pgs_cons (pg_name (i := 2) scTrans.nd rfl (.inl rfl)) (pgs_cons (pg_name (i := 3) scTrans.nd rfl (.inl rfl)) pgs_nil))))
    (pss_cons (ps_set (i := 4) scTrans.nd rfl (.inl rfl) (pe_fld (pv 0) rfl))
    (pss_cons (ps_if (pt_not (pt_val (C8.pe_mt m3 hr (by decide) (pv 4) (pa_cons (pv 2) (pa_cons (pv 3) pa_nil))))) (pss_one (ps_ret (pe_lst (pa_cons (pe_un un_neg pe_int) pa_nil)))) pss_nil)
    (pss_cons (ps_if (pt_cmp (pc_dnotin (hu_of hr) (pe_tup (pa_cons (pv 2) (pa_cons (pv 3) pa_nil))) (pe_fld (pv 4) rfl))) (pss_one (ps_ret (pe_lst (pa_cons (pe_un un_neg pe_int) pa_nil)))) pss_nil)
    (pss_cons (ps_set (i := 5) scTrans.nd rfl (.inl rfl) (pe_ix ix_any (C8.pe_mt m1 hr (by decide) (pv 4) (pa_cons (pe_ix ix_any (pe_ix ix_any (pe_fld (pv 4) rfl) pe_int (fun _ _ => rfl)) (pv 2) (fun _ _ => rfl)) (pa_cons (pe_ix ix_any (pe_ix ix_any (pe_fld (pv 4) rfl) pe_int (fun _ _ => rfl)) (pv 3) (fun _ _ => rfl)) pa_nil))) pe_int (fun _ _ => rfl)))
    (pss_cons (ps_set (i := 6) scTrans.nd rfl (.inl rfl) (pe_cmp (pc_eqI (C8.pe_mt m2 hr (by decide) (pv 4) (pa_cons (pv 5) pa_nil)) (C8.pe_mt m2 hr (by decide) (pv 4) (pa_cons (pe_tup (pa_cons (pv 2) (pa_cons (pv 3) pa_nil))) pa_nil)))))
    (pss_one (ps_ret (pe_lst (pa_cons (pe_ix ix_any (pv 5) pe_int (fun _ _ => rfl)) (pa_cons (pe_ix ix_any (pv 5) pe_int (fun _ _ => rfl))
      (pa_cons (pe_ifExp (pt_cmpR (op_eqD (room_hu hr)) (pv 5) (pe_tup (pa_cons (pv 2) (pa_cons (pv 3) pa_nil))) (nomark _)) pe_int pe_int) (pa_cons (pe_ifExp (pt_val (pv 6)) pe_int pe_int) pa_nil)))))))))))), ?_⟩)
  · obtain ⟨own, nb, st, ns, F, rfl, _⟩ := h
    rfl
  · obtain ⟨own, nb, st, ns, F, rfl, hl, hs, hnb, hne, A⟩ := h
    obtain ⟨s, rfl⟩ := some_of (hne (by decide))
    obtain ⟨x, y, rfl⟩ := len2 hl
    have hs0 := hs
    obtain ⟨dx, i, m, hw, hI, rfl⟩ := hs
    have q : Told H _ Q := Told.of A hs0 rfl rfl
    have eo : (out (some s) (deedCall 12 [x, y])).2 = resL (if s.sources.xCount ≤ x ∨ s.sources.yCount ≤ y then Km540.error (-2)
          else if Km540.isPossible s.sources x y = false then Km540.error (-33)
          else match Km540.decode s.sources s.xCode s.yCode (s.xCode.getD x 0) (s.yCode.getD y 0) with
          | none => Km540.error (-33)
          | some p => ⟨(p.1 : Int), [(p.2 : Int), (if p = (x, y) then 1 else 0),
            (if Km540.value s.sources p.1 p.2 = Km540.value s.sources x y then 1 else 0)]⟩) := rfl
    rw [eo] at q
    refine ⟨_, rfl, nb, _, rfl, hnb, rfl, _, _, rfl, _, _, rfl, rfl, ?_⟩
    refine ⟨_, rfl, own, CH, dx, _, _, rfl, hw, C.cl, C.nI, hF_look _, ?_⟩
    refine ⟨_, rfl, i, m.dx, m.fs, rfl, hI.ins, nf_has m, _, rfl, _, rfl, i, s, m, x, y, rfl, hI, _, rfl, ?_⟩
    cases e : (decide (x < s.sources.xCount) && decide (y < s.sources.yCount)) with
    | false =>
      rw [if_pos (by simp only [Bool.and_eq_false_iff, decide_eq_false_iff_not] at e; omega)] at q
      exact iteT ⟨_, rfl, (by show 1 ≤ sizeLine; decide), fun a ha => q.new ha rfl⟩
    | true =>
      simp only [Bool.and_eq_true, decide_eq_true_eq] at e
      rw [if_neg (by omega)] at q
      refine iteF ?_
      refine ⟨_, rfl, _, rfl, (by show 2 ≤ sizeLine; decide), fun t1 ht1 => ?_⟩
      have s1 : Same H _ := same_upd (o := .tup [.int (x : Int), .int (y : Int)]) ht1
      have I1 := hI.same s1
      refine ⟨_, rfl, i, CI, _, _, _, rfl, I1.ins, C'.cl, C'.nP, fs_possible m, m.pd, _, rfl, DGet.t (k := kk (x, y)) I1.pos (by rw [kk_kV]; exact upd_same), _, rfl, ?_⟩
      rw [dP_look]
      by_cases c : (x, y) ∈ m.kp
      · rw [if_pos c]
        refine iteF ?_
        have hin := (hI.ok.poss (x, y)).mp c
        rw [if_neg (by rw [(TCM.mem_possible.mp hin).2.2]; decide)] at q
        obtain ⟨p, ep⟩ := dec_some (c := s.xCode) (d := s.yCode) hin
        rw [ep] at q
        dsimp only at q
        have pin := dec_in ep
        have xl : x < s.xCode.length := by rw [hI.ok.xlen]; exact e.1
        have yl : y < s.yCode.length := by rw [hI.ok.ylen]; exact e.2
        refine ⟨_, rfl, i, m.dx, m.fs, rfl, I1.ins, nf_dec m, _, rfl, i, CI, _, _, _, rfl, I1.ins, C'.cl, C'.nK, fs_codes m, m.cl, 0, _, _, rfl, rfl, .inl (SqL.of I1.cod), rfl, _, rfl, m.cx, x, _, _, rfl, rfl, .inl (SqL.of I1.xco), intsV_at xl, ?_⟩
        refine ⟨_, rfl, i, CI, _, _, _, rfl, I1.ins, C'.cl, C'.nK, fs_codes m, m.cl, 1, _, _, rfl, rfl, .inl (SqL.of I1.cod), rfl, _, rfl, m.cy, y, _, _, rfl, rfl, .inl (SqL.of I1.yco), intsV_at yl, i, s, m, _, _, rfl, I1, fun H2 l s2 hl => ?_⟩
        rw [ep] at hl
        obtain ⟨v, hl, b, rfl, hb⟩ := hl
        have I2 := I1.same s2
        refine ⟨l, 0, _, _, rfl, rfl, .inl hl, rfl, ?_⟩
        refine ⟨_, rfl, i, m.dx, m.fs, rfl, I2.ins, nf_value m, _, rfl, i, b, s, m, p.1, p.2, rfl, I2, hb, pin.1, pin.2, ?_⟩
        refine ⟨_, rfl, i, m.dx, m.fs, rfl, I2.ins, nf_value m, _, rfl, _, rfl, (by show 2 ≤ sizeLine; decide), fun t3 ht3 => ?_⟩
        have s3 : Same H2 _ := same_upd (o := .tup [.int (x : Int), .int (y : Int)]) ht3
        have I3 := I2.same s3
        refine ⟨i, t3, s, m, x, y, rfl, I3, upd_same, e.1, e.2, ?_⟩
        have eI : decide (((Km540.value s.sources p.1 p.2 : Nat) : Int) = ((Km540.value s.sources x y : Nat) : Int)) = decide (Km540.value s.sources p.1 p.2 = Km540.value s.sources x y) := TCM.bc (by simp only [decide_eq_true_eq]; omega)
        refine ⟨_, _, rfl, rfl, ?_⟩
        have hb3 := s3 _ _ hb
        refine ⟨_, rfl, b, 0, _, _, rfl, rfl, .inr (SqT.of hb3), rfl, _, rfl, b, 1, _, _, rfl, rfl, .inr (SqT.of hb3), rfl, ?_⟩
        refine ⟨_, rfl, _, rfl, _, rfl, (by show 2 ≤ sizeLine; decide), fun t4 ht4 => ?_⟩
        have s4 := same_upd (o := .tup [.int (x : Int), .int (y : Int)]) ht4
        refine ⟨.tuple [.int (p.1 : Int), .int (p.2 : Int)], .tuple [.int (x : Int), .int (y : Int)], .tup (SqT.of (s4 _ _ hb3)) (.cons (.int _) (.cons (.int _) .nil)), .tup (SqT.of upd_same) (.cons (.int _) (.cons (.int _) .nil)), rfl, rfl, _, rfl, ?_⟩
        rw [pairD_eqv p (x, y)]
        have s04 := s1.trans (s2.trans (s3.trans s4))
        by_cases c1 : p = (x, y)
        · rw [decide_eq_true c1]
          rw [if_pos c1] at q
          refine iteT ⟨_, rfl, _, congrArg V.bl eI, ?_⟩
          by_cases c2 : Km540.value s.sources p.1 p.2 = Km540.value s.sources x y
          · rw [if_pos c2] at q
            rw [decide_eq_true c2]
            exact iteT ⟨(by show 4 ≤ sizeLine; decide), fun a ha => q.after s04 ha rfl⟩
          · rw [if_neg c2] at q
            rw [decide_eq_false c2]
            exact iteF ⟨(by show 4 ≤ sizeLine; decide), fun a ha => q.after s04 ha rfl⟩
        · rw [decide_eq_false c1]
          rw [if_neg c1] at q
          refine iteF ⟨_, rfl, _, congrArg V.bl eI, ?_⟩
          by_cases c2 : Km540.value s.sources p.1 p.2 = Km540.value s.sources x y
          · rw [if_pos c2] at q
            rw [decide_eq_true c2]
            exact iteT ⟨(by show 4 ≤ sizeLine; decide), fun a ha => q.after s04 ha rfl⟩
          · rw [if_neg c2] at q
            rw [decide_eq_false c2]
            exact iteF ⟨(by show 4 ≤ sizeLine; decide), fun a ha => q.after s04 ha rfl⟩
      · rw [if_neg c]
        have nin : Km540.isPossible s.sources x y = false := by
          cases z : Km540.isPossible s.sources x y with
          | false => rfl
          | true => exact absurd ((hI.ok.poss (x, y)).mpr (TCM.mem_possible.mpr ⟨e.1, e.2, z⟩)) c
        rw [if_pos nin] at q
        exact iteT ⟨_, rfl, (by show 1 ≤ sizeLine; decide), fun a ha => q.after s1 ha rfl⟩
end
end TC
/-! The walks, 13: least_now, least_for, told_for, region, least_total. -/
namespace TC
open PySem PySem.Spec PyProof.Rows L2
open TCM (Tv valF SesOk)
open Km540 (Session possiblePairs)
def FF (s : Session) (f : Bool) (k : Nat) : Nat := TCM.fewestFor (possiblePairs s.sources) (valF s.sources f) s.sources.xCount s.sources.yCount k
theorem ff_is {s : Session} {kp : List (Nat × Nat)} {kv : List ((Nat × Nat) × Nat)} (ok : SesOk s kp kv) (f : Bool) (k : Nat) : Km540.minYMessagesFor s.sources f k = TCM.ofN (FF s f k) := TCM.fewest_for ok.y1 ok.y5 f k
theorem res_of (n : Nat) : resL (Km540.optionResult (TCM.ofN n)) = if n = 0 then [-33] else [(n : Int)] := by
  unfold TCM.ofN
  by_cases z : n = 0
  · rw [if_pos z, if_pos z]; rfl
  · rw [if_neg z, if_neg z]; rfl
def gNow (s : Session) (f : Bool) : List Int := resL (Km540.optionResult (Km540.minYMessages s.sources f s.xCode))
def gRegion (s : Session) (f : Bool) : List Int := resL (Km540.regionResult s.sources f)
def gTotal (s : Session) (f : Bool) : List Int := resL (match Km540.minTotal s.sources f with
  | none => Km540.error (-33)
  | some p => ⟨(p.1 : Int), [(p.2 : Int)]⟩)
def gFor (s : Session) (f : Bool) (k : Nat) : List Int := resL (if 5 < k then Km540.error (-22) else Km540.optionResult (Km540.minYMessagesFor s.sources f k))
def spLF (CH CI : Addr) : Sp := fun vs H Q _ => ∃ (own : Addr) (f : Bool) (s : Session) (dx i : Addr) (m : IA) (k : Nat), vs = [.ref own, .bl f, .int (k : Int)] ∧ H own = some (.ins CH dx (hF (.ref i))) ∧ InstAt CI H i s m ∧ k ≤ 5 ∧ ∀ H', Same H H' → Q (.int ((FF s f k : Nat) : Int)) H'
def spTF (CH CI : Addr) : Sp := fun vs H Q _ => ∃ (own : Addr) (f : Bool) (s : Session) (dx i : Addr) (m : IA) (k : Nat), vs = [.ref own, .bl f, .int (k : Int)] ∧ H own = some (.ins CH dx (hF (.ref i))) ∧ InstAt CI H i s m ∧ Told H (gFor s f k) Q
abbrev nNow : List Str := ["own", "is_function", "one", "found"]
theorem scNow : FnScope nNow ["own", "is_function"] (defScope (topS 32)) := ⟨rfl, rfl, rfl, by decide +kernel, rfl, by decide +kernel, by decide +kernel⟩
abbrev nLF : List Str := ["own", "is_function", "limit", "one"]
theorem scLF : FnScope nLF ["own", "is_function", "limit"] (defScope (topS 33)) := ⟨rfl, rfl, rfl, by decide +kernel, rfl, by decide +kernel, by decide +kernel⟩
abbrev nTF : List Str := ["own", "is_function", "limit", "found"]
theorem scTF : FnScope nTF ["own", "is_function", "limit"] (defScope (topS 34)) := ⟨rfl, rfl, rfl, by decide +kernel, rfl, by decide +kernel, by decide +kernel⟩
abbrev nReg : List Str := ["own", "is_function", "many", "limit"]
theorem scReg : FnScope nReg ["own", "is_function"] (defScope (topS 35)) := ⟨rfl, rfl, rfl, by decide +kernel, rfl, by decide +kernel, by decide +kernel⟩
abbrev nTot : List Str := ["own", "is_function", "best", "limit", "found"]
theorem scTot : FnScope nTot ["own", "is_function"] (defScope (topS 36)) := ⟨rfl, rfl, rfl, by decide +kernel, rfl, by decide +kernel, by decide +kernel⟩
section
variable {P : Program} {w : World} {K : PySem.W.Frag} {mg : Str → Option Value} {base : Heap} {CI CH : Addr}
theorem ok_now (C : ClsH K CH) (C' : ClsI K CI) (D : DefAt K mg "least_now" (topS 32) ["own", "is_function"]) (c1 : Cal P w K mg base 2 "fewest_with" (spWith K) []) (m1 : Met P w K mg base 1 CI "pairs" (spPairs K CI) []) (m2 : Met P w K mg base 2 CI "told" (spTold K CI) []) : Cal P w K mg base 3 "least_now" (spRead CH CI gNow) [] := by
  refine D.cal scNow (fun vs H Q E h => ?_) (fun f cdv A outer s H vs Q E hr h => ⟨_, pss_cons (ps_set (i := 2) scNow.nd rfl (.inl rfl) (pe_fld (pv 0) rfl))
    (pss_cons (ps_set (i := 3) scNow.nd rfl (.inl rfl) (C8.pe_c c1 hr (by decide) (by rfl) (pa_cons (C8.pe_mt0 m1 hr (by decide) (pv 2)) (pa_cons (C8.pe_mt m2 hr (by decide) (pv 2) (pa_cons (pv 1) pa_nil)) (pa_cons (pe_ix ix_any (pe_fld (pv 2) rfl) pe_int (fun _ _ => rfl)) (pa_cons (pe_ix ix_any (pe_fld (pv 2) rfl) pe_int (fun _ _ => rfl)) pa_nil))))))
    (pss_one (ps_ret (pe_ifExp (pt_cmp (pc_gt (pv 3) pe_int)) (pe_lst (pa_cons (pv 3) pa_nil)) (pe_lst (pa_cons (pe_un un_neg pe_int) pa_nil)))))), ?_⟩)
  · obtain ⟨own, f, s, dx, i, m, rfl, _⟩ := h
    rfl
  · obtain ⟨own, f, s, dx, i, m, rfl, hw, hI, q⟩ := h
    refine ⟨_, rfl, own, CH, dx, _, _, rfl, hw, C.cl, C.nI, hF_look _, ?_⟩
    refine ⟨_, rfl, i, m.dx, m.fs, rfl, hI.ins, nf_pairs m, i, s, m, rfl, hI, fun H1 v1 s1 hv1 => ?_⟩
    have I1 := hI.same s1
    refine ⟨_, rfl, i, m.dx, m.fs, rfl, I1.ins, nf_told m, _, rfl, i, f, s, m, rfl, I1, fun H2 v2 s2 hv2 => ?_⟩
    have I2 := I1.same s2
    refine ⟨_, rfl, i, CI, _, _, _, rfl, I2.ins, C'.cl, C'.nK, fs_codes m, m.cl, 0, _, _, rfl, rfl, .inl (SqL.of I2.cod), rfl, _, rfl, i, CI, _, _, _, rfl, I2.ins, C'.cl, C'.nC, fs_counts m, m.ct, 1, _, _, rfl, rfl, .inr (SqT.of I2.cnt), rfl,
      v1, v2, .ref m.cx, possiblePairs s.sources, valF s.sources f, s.xCode, s.sources.yCount, rfl, I2.given (pairsS_same s2 hv1) hv2, ⟨m.cx, rfl, .inl (SqL.of I2.xco)⟩, hI.ok.y1, hI.ok.y5, fun p hp => ?_, fun H3 s3 => ?_⟩
    · rw [hI.ok.xlen]
      exact hI.within p hp
    have s03 := s1.trans (s2.trans s3)
    unfold gNow at q
    rw [TCM.fewest_with hI.ok.y1 hI.ok.y5 f s.xCode] at q
    generalize TCM.fewestWith (possiblePairs s.sources) (valF s.sources f) s.xCode s.sources.yCount = u at q ⊢
    have q : Told H (if u = 0 then [-33] else [(u : Int)]) Q := by rw [← res_of]; exact q
    refine ⟨_, rfl, _, _, rfl, rfl, decide (0 < u), congrArg V.bl (dec_lt 0 u), ?_⟩
    by_cases z : u = 0
    · rw [if_pos z] at q
      rw [decide_eq_false (by omega : ¬ 0 < u)]
      exact iteF ⟨_, rfl, (by show 1 ≤ sizeLine; decide), fun a ha => q.after s03 ha rfl⟩
    · rw [if_neg z] at q
      rw [decide_eq_true (by omega : 0 < u)]
      exact iteT ⟨_, rfl, (by show 1 ≤ sizeLine; decide), fun a ha => q.after s03 ha rfl⟩
theorem ok_lf (C : ClsH K CH) (C' : ClsI K CI) (D : DefAt K mg "least_for" (topS 33) ["own", "is_function", "limit"]) (c1 : Cal P w K mg base 3 "fewest_for" (spFor K) []) (m1 : Met P w K mg base 1 CI "pairs" (spPairs K CI) []) (m2 : Met P w K mg base 2 CI "told" (spTold K CI) []) : Cal P w K mg base 4 "least_for" (spLF CH CI) [] := by
  refine D.cal scLF (fun vs H Q E h => ?_) (fun f cdv A outer s H vs Q E hr h => ⟨_, pss_cons (ps_set (i := 3) scLF.nd rfl (.inl rfl) (pe_fld (pv 0) rfl))
    (pss_one (ps_ret (C8.pe_c c1 hr (by decide) (by rfl) (pa_cons (C8.pe_mt0 m1 hr (by decide) (pv 3)) (pa_cons (C8.pe_mt m2 hr (by decide) (pv 3) (pa_cons (pv 1) pa_nil)) (pa_cons (pe_fld (pv 3) rfl) (pa_cons (pv 2) pa_nil))))))), ?_⟩)
  · obtain ⟨own, f, s, dx, i, m, k, rfl, _⟩ := h
    rfl
  · obtain ⟨own, f, s, dx, i, m, k, rfl, hw, hI, hk, q⟩ := h
    refine ⟨_, rfl, own, CH, dx, _, _, rfl, hw, C.cl, C.nI, hF_look _, ?_⟩
    refine ⟨_, rfl, i, m.dx, m.fs, rfl, hI.ins, nf_pairs m, i, s, m, rfl, hI, fun H1 v1 s1 hv1 => ?_⟩
    have I1 := hI.same s1
    refine ⟨_, rfl, i, m.dx, m.fs, rfl, I1.ins, nf_told m, _, rfl, i, f, s, m, rfl, I1, fun H2 v2 s2 hv2 => ?_⟩
    have I2 := I1.same s2
    exact ⟨_, rfl, i, CI, _, _, _, rfl, I2.ins, C'.cl, C'.nC, fs_counts m, _, rfl, v1, v2, m.ct, possiblePairs s.sources, valF s.sources f, s.sources.xCount, s.sources.yCount, k, rfl, I2.given (pairsS_same s2 hv1) hv2, SqT.of I2.cnt, hI.ok.x5, hI.ok.y1, hI.ok.y5, hk, hI.within, fun H3 s3 => q H3 (s1.trans (s2.trans s3))⟩
theorem ok_tf (T : Txt mg) (D : DefAt K mg "told_for" (topS 34) ["own", "is_function", "limit"]) (c1 : Cal P w K mg base 4 "least_for" (spLF CH CI) []) : Cal P w K mg base 5 "told_for" (spTF CH CI) [] := by
  refine D.cal scTF (fun vs H Q E h => ?_) (fun f cdv A outer s H vs Q E hr h => ⟨_, pss_cons (ps_if (pt_cmp (pc_gt (pv 2) (C8.pe_gc (by rfl) T.limit))) (pss_one (ps_ret (pe_lst (pa_cons (pe_un un_neg pe_int) pa_nil)))) pss_nil)
    (pss_cons (ps_set (i := 3) scTF.nd rfl (.inl rfl) (C8.pe_c c1 hr (by decide) (by rfl) (pa_cons (pv 0) (pa_cons (pv 1) (pa_cons (pv 2) pa_nil)))))
    (pss_one (ps_ret (pe_ifExp (pt_cmp (pc_gt (pv 3) pe_int)) (pe_lst (pa_cons (pv 3) pa_nil)) (pe_lst (pa_cons (pe_un un_neg pe_int) pa_nil)))))), ?_⟩)
  · obtain ⟨own, f, s, dx, i, m, k, rfl, _⟩ := h
    rfl
  · obtain ⟨own, f, s, dx, i, m, k, rfl, hw, hI, q⟩ := h
    unfold gFor at q
    refine ⟨_, rfl, (k : Int), 5, rfl, rfl, decide (5 < k), congrArg V.bl (dec_lt 5 k), ?_⟩
    by_cases k5 : 5 < k
    · rw [if_pos k5] at q
      rw [decide_eq_true k5]
      exact iteT ⟨_, rfl, (by show 1 ≤ sizeLine; decide), fun a ha => q.new ha rfl⟩
    · rw [if_neg k5, ff_is hI.ok, res_of] at q
      rw [decide_eq_false k5]
      refine iteF ?_
      refine ⟨_, rfl, _, rfl, _, rfl, own, f, s, dx, i, m, k, rfl, hw, hI, by omega, fun H3 s03 => ?_⟩
      generalize FF s f k = u at q ⊢
      refine ⟨_, rfl, _, _, rfl, rfl, decide (0 < u), congrArg V.bl (dec_lt 0 u), ?_⟩
      by_cases z : u = 0
      · rw [if_pos z] at q
        rw [decide_eq_false (by omega : ¬ 0 < u)]
        exact iteF ⟨_, rfl, (by show 1 ≤ sizeLine; decide), fun a ha => q.after s03 ha rfl⟩
      · rw [if_neg z] at q
        rw [decide_eq_true (by omega : 0 < u)]
        exact iteT ⟨_, rfl, (by show 1 ≤ sizeLine; decide), fun a ha => q.after s03 ha rfl⟩
theorem region_is {s : Session} {kp : List (Nat × Nat)} {kv : List ((Nat × Nat) × Nat)} (ok : SesOk s kp kv) (f : Bool) : gRegion s f = ((s.sources.xCount : Nat) : Int) :: ((List.range s.sources.xCount).map fun k => FF s f (k + 1)).map fun (n : Nat) => (n : Int) := by
  unfold gRegion resL Km540.regionResult
  rw [List.map_map]
  dsimp only
  congr 1
  refine List.map_congr_left fun k _ => ?_
  rw [ff_is ok]
  unfold TCM.ofN
  dsimp only [Function.comp_apply]
  by_cases z : FF s f (k + 1) = 0
  · rw [if_pos z, z]; rfl
  · rw [if_neg z]
theorem ok_region (T : Txt mg) (C : ClsH K CH) (C' : ClsI K CI) (D : DefAt K mg "region" (topS 35) ["own", "is_function"]) (c1 : Cal P w K mg base 4 "least_for" (spLF CH CI) []) : Cal P w K mg base 5 "region" (spRead CH CI gRegion) [] := by
  refine D.cal scReg (fun vs H Q E h => ?_) (fun f cdv A outer s H vs Q E hr h => ⟨_, pss_cons (ps_set (i := 2) scReg.nd rfl (.inl rfl) (pe_ix ix_any (pe_fld (pe_fld (pv 0) rfl) rfl) pe_int (fun _ _ => rfl)))
    (pss_one (ps_ret (pe_op op_cat (pe_lst (pa_cons (pv 2) pa_nil))
      (pe_lc (own := [("limit", 3)]) (g := gName 3) (tt := tYes) (te := tCall (spLF CH CI) [] C8.E0 (tCons (tVar 0) (tCons (tVar 1) (tCons (tVar 3) tNil)))) rfl scReg.nd (pi_range2 (by rfl) T.range (pa_cons pe_int (pa_cons (pe_op op_add (pv 2) pe_int) pa_nil))) (blkOk_by (N := nReg) (sc := defScope (topS 35)) (by decide +kernel))
        (fun _ _ _ _ _ => pg_name (i := 3) scReg.nd rfl (.inl rfl)) (fun _ _ _ _ _ => pts_nil) (fun _ _ _ _ _ => C8.pe_c c1 hr (Nat.le_refl _) (by rfl) (pa_cons (pv 0) (pa_cons (pv 1) (pa_cons (pv 3) pa_nil)))))))), ?_⟩)
  · obtain ⟨own, f, s, dx, i, m, rfl, _⟩ := h
    rfl
  · obtain ⟨own, f, s, dx, i, m, rfl, hw, hI, q⟩ := h
    rw [region_is hI.ok] at q
    have x5 := hI.ok.x5
    refine ⟨_, rfl, own, CH, dx, _, _, rfl, hw, C.cl, C.nI, hF_look _, i, CI, _, _, _, rfl, hI.ins, C'.cl, C'.nC, fs_counts m, m.ct, 0, _, _, rfl, rfl, .inr (SqT.of hI.cnt), rfl, ?_⟩
    refine ⟨_, rfl, (by show 1 ≤ sizeLine; decide), fun l hl => ?_⟩
    have s1 : Same H _ := same_upd (o := .lst [.int ((s.sources.xCount : Nat) : Int)]) hl
    generalize e1 : upd H l (.lst [.int ((s.sources.xCount : Nat) : Int)]) = H1 at s1 ⊢
    have hl1 : H1 l = some (.lst [.int ((s.sources.xCount : Nat) : Int)]) := by rw [← e1]; exact upd_same
    clear e1
    refine ⟨_, rfl, _, _, rfl, rfl, _, _, rfl, ⟨by omega, by omega, by omega, by omega⟩, fun D hD => lc_range (lo := 1) (fun t H2 => Same H1 H2 ∧ H2 D = some (.lst (intsV ((List.range t).map fun k => FF s f (k + 1))))) ?_ ?_ ?_⟩
    · exact ⟨same_upd hD, upd_same⟩
    · rintro t H2 ht ⟨s2, hD2⟩
      have I2 := hI.same (s1.trans s2)
      refine ⟨rfl, _, rfl, _, rfl, _, rfl, own, f, s, dx, i, m, t + 1, ?_, s2 _ _ (s1 _ _ hw), I2, by omega, fun H3 s3 => ?_⟩
      · have e : (1 : Int) + (t : Int) = ((t + 1 : Nat) : Int) := by omega
        rw [e]
        rfl
      · refine ⟨_, s3 _ _ hD2, ?_, same_new (s2.trans s3) hD, ?_⟩
        · rw [intsV_len, List.length_map, List.length_range, sizeLine_eq]
          omega
        · rw [upd_same, List.range_succ, List.map_append]
          unfold intsV
          rw [List.map_append]
          rfl
    · rintro H2 ⟨s2, hD2⟩
      have en : ((s.sources.xCount : Int) + 1 - 1).toNat = s.sources.xCount := by omega
      rw [en] at hD2
      refine ⟨l, D, _, _, rfl, rfl, s2 _ _ hl1, hD2, ?_, fun a ha => q.after (s1.trans s2) ha ?_⟩
      · rw [intsV_len, List.length_map, List.length_range, sizeLine_eq]
        show 1 + s.sources.xCount ≤ _
        omega
      · rw [List.map_cons, ← intsV_map]
        rfl
def sumO (o : Option (Nat × Nat)) : Nat := match o with
  | none => 0
  | some p => p.1 + p.2
theorem two_sum (o : Option (Nat × Nat)) : ((two o).map fun (n : Nat) => (n : Int)).sum = ((sumO o : Nat) : Int) := by
  cases o with
  | none => rfl
  | some p =>
    show (p.1 : Int) + ((p.2 : Int) + 0) = ((p.1 + p.2 : Nat) : Int)
    omega
def totT (s : Session) (f : Bool) (t : Nat) : Option (Nat × Nat) := (List.range t).foldl (fun best k => TCM.totalStep (FF s f k) k best) none
theorem tt_step (s : Session) (f : Bool) (t : Nat) : totT s f (t + 1) = TCM.totalStep (FF s f t) t (totT s f t) := by
  unfold totT
  rw [List.range_succ, List.foldl_append]
  rfl
theorem tt_fin (s : Session) (f : Bool) : totT s f (s.sources.xCount + 1) = TCM.leastTotal (possiblePairs s.sources) (valF s.sources f) s.sources.xCount s.sources.yCount := rfl
theorem total_of (u t : Nat) (b : Option (Nat × Nat)) : TCM.totalStep u t b = if (decide (0 < u) && (b.isNone || decide (t + u < sumO b))) = true then some (t, u) else b := by
  unfold TCM.totalStep
  by_cases z : u = 0
  · rw [if_pos z, z]
    simp
  · rw [if_neg z, decide_eq_true (by omega : 0 < u), Bool.true_and]
    cases b with
    | none => rfl
    | some p =>
      show (if t + u < p.1 + p.2 then some (t, u) else some p) = if (false || decide (t + u < p.1 + p.2)) = true then some (t, u) else some p
      by_cases c : t + u < p.1 + p.2
      · rw [if_pos c, if_pos (by rw [decide_eq_true c]; rfl)]
      · rw [if_neg c, if_neg (by rw [decide_eq_false c]; decide)]
theorem total_is {s : Session} {kp : List (Nat × Nat)} {kv : List ((Nat × Nat) × Nat)} (ok : SesOk s kp kv) (f : Bool) : gTotal s f = (two (totT s f (s.sources.xCount + 1))).map fun (n : Nat) => (n : Int) := by
  unfold gTotal
  rw [tt_fin, TCM.least_total ok.y1 ok.y5]
  have h := TCM.leastTotal_some ok.y1 ok.y5 ok.x5 f
  cases e : TCM.leastTotal (possiblePairs s.sources) (valF s.sources f) s.sources.xCount s.sources.yCount with
  | none => exact absurd e h
  | some p => rfl
theorem ok_total (T : Txt mg) (C : ClsH K CH) (C' : ClsI K CI) (D : DefAt K mg "least_total" (topS 36) ["own", "is_function"]) (c1 : Cal P w K mg base 4 "least_for" (spLF CH CI) []) : Cal P w K mg base 5 "least_total" (spRead CH CI gTotal) [] := by
  refine D.cal scTot (fun vs H Q E h => ?_) (fun f cdv A outer s H vs Q E hr h => ⟨_, pss_cons (ps_set (i := 2) scTot.nd rfl (.inl rfl) (pe_lst pa_nil))
    (pss_cons (ps_for PassesOwn.never rfl (pi_range1 (by rfl) T.range (pa_cons (pe_op op_add (pe_ix ix_any (pe_fld (pe_fld (pv 0) rfl) rfl) pe_int (fun _ _ => rfl)) pe_int) pa_nil)) (pg_name (i := 3) scTot.nd rfl (.inl rfl))
      (pss_cons (ps_set (i := 4) scTot.nd rfl (.inl rfl) (C8.pe_c c1 hr (Nat.le_refl _) (by rfl) (pa_cons (pv 0) (pa_cons (pv 1) (pa_cons (pv 3) pa_nil)))))
      (pss_one (ps_if (PW.pt (pw_and (pt_cmp (pc_gt (pv 4) pe_int)) (pw_and1 (PW.pt (pw_or (pt_cmp (pc_eqI (pe_callB call_len_seq (by rfl) T.len PySem.boot_len (pa_cons (pv 2) pa_nil)) pe_int)) (pw_or1 (pt_cmp (pc_lt (pe_op op_add (pv 3) (pv 4)) (pe_callB (cr_sum rfl) (by rfl) T.sum (by decide +kernel) (pa_cons (pv 2) pa_nil))))))))))
        (pss_one (ps_set (i := 2) scTot.nd rfl (.inl rfl) (pe_lst (pa_cons (pv 3) (pa_cons (pv 4) pa_nil))))) pss_nil))))
    (pss_one (ps_ret (pv 2)))), ?_⟩)
  · obtain ⟨own, f, s, dx, i, m, rfl, _⟩ := h
    rfl
  · obtain ⟨own, f, s, dx, i, m, rfl, hw, hI, q⟩ := h
    rw [total_is hI.ok] at q
    have x5 := hI.ok.x5
    refine ⟨(by show 0 ≤ sizeLine; decide), fun l hl => ?_⟩
    have s1 : Same H _ := same_upd (o := .lst []) hl
    have I1 := hI.same s1
    have hw1 := s1 _ _ hw
    refine ⟨_, rfl, own, CH, dx, _, _, rfl, hw1, C.cl, C.nI, hF_look _, i, CI, _, _, _, rfl, I1.ins, C'.cl, C'.nC, fs_counts m, m.ct, 0, _, _, rfl, rfl, .inr (SqT.of I1.cnt), rfl, _, _, rfl, rfl, _, rfl, by omega, by omega,
      for_range (lo := 0) (fun t σ H2 => ∃ (a : Addr) (x3 x4 : Option V), σ = [some (.ref own), some (.bl f), some (.ref a), x3, x4] ∧ Same H H2 ∧ H a = none ∧ H2 a = some (.lst (intsV (two (totT s f t))))) ?_ ?_ ?_⟩
    · exact ⟨l, _, _, rfl, s1, hl, upd_same⟩
    · rintro t σ H2 ht ⟨a, x3, x4, rfl, s2, han, ha⟩
      have I2 := hI.same s2
      refine ⟨_, rfl, _, rfl, _, rfl, own, f, s, dx, i, m, t, by rw [Int.zero_add]; rfl, s2 _ _ hw, I2, by omega, fun H3 s3 => ?_⟩
      have step := tt_step s f t
      rw [total_of] at step
      have ha3 := s3 _ _ ha
      generalize totT s f t = b at step ha3 ⊢
      generalize FF s f t = u at step ⊢
      simp only [gName, tIfS]
      refine tAnd_of (decide (0 < u)) (fun Q q => ⟨_, rfl, _, _, rfl, rfl, _, congrArg V.bl (dec_lt 0 u), q⟩) (fun e => ?_) (fun e => ?_)
      · refine tOr_of b.isNone (decide (t + u < sumO b)) (fun Q q => ⟨_, rfl, a, _, rfl, .inl (SqL.of ha3), _, _, rfl, rfl, b.isNone, congrArg V.bl (by cases b <;> rfl), q⟩)
          (fun Q q => ⟨_, rfl, _, rfl, _, _, rfl, rfl, _, rfl, a, (two b).map fun (n : Nat) => (n : Int), rfl, by rw [← intsV_map]; exact SqL.of ha3, _, _, rfl, rfl, decide (t + u < sumO b), congrArg V.bl (TCM.bc (by
            rw [two_sum]
            simp only [decide_eq_true_eq]
            omega)), q⟩) ?_
        rw [e, Bool.true_and] at step
        cases z : (b.isNone || decide (t + u < sumO b)) with
        | true =>
          rw [z, if_pos rfl] at step
          refine iteT ⟨_, rfl, _, rfl, (by show 2 ≤ sizeLine; decide), fun c hc => ?_⟩
          refine ⟨c, _, _, rfl, same_then (s2.trans s3) hc, (s2.trans s3).free hc, ?_⟩
          rw [upd_same, step, Int.zero_add]
          rfl
        | false =>
          rw [z, if_neg Bool.false_ne_true] at step
          exact iteF ⟨a, _, _, rfl, s2.trans s3, han, by rw [step]; exact ha3⟩
      · rw [e, Bool.false_and, if_neg Bool.false_ne_true] at step
        exact iteF ⟨a, _, _, rfl, s2.trans s3, han, by rw [step]; exact ha3⟩
    · rintro σ H2 ⟨a, x3, x4, rfl, s2, han, ha⟩
      have en : ((s.sources.xCount : Int) + 1).toNat = s.sources.xCount + 1 := by omega
      rw [en] at ha
      exact ⟨_, rfl, q H2 a s2 han (by rw [← intsV_map]; exact ha)⟩
end
end TC
/-! The walks, 14: codes_for, told_codes, used_codes. -/
namespace TC
open PySem PySem.Spec PyProof.Rows L2
open TCM (Tv valF SesOk)
open Km540 (Session possiblePairs)
def faultOf (s : Session) (f : Bool) (k j : Nat) : Int × Option (List Nat × List Nat) :=
  if 5 < k ∨ 5 < j then (-22, none) else match TCM.firstCodesB (possiblePairs s.sources) (valF s.sources f) s.sources.xCount s.sources.yCount k j with
    | none => (-33, none)
    | some cd => (0, some cd)
theorem fault_cases (s : Session) (f : Bool) (k j : Nat) (hx : s.sources.xCount ≤ 5) (hy : s.sources.yCount ≤ 5) :
    (∃ e : Int, e < 0 ∧ faultOf s f k j = (e, none) ∧ (if 5 < k ∨ 5 < j then Km540.error (-22) else Km540.codesResult (Km540.firstCodes s.sources f k j)) = Km540.error e ∧
      (if 5 < k ∨ 5 < j then (some s, Km540.error (-22)) else match Km540.firstCodes s.sources f k j with
        | none => (some s, Km540.error (-33))
        | some codes => (some { s with xCode := codes.1, yCode := codes.2 }, Km540.number 0)) = (some s, Km540.error e)) ∨
    (∃ c d, faultOf s f k j = (0, some (c, d)) ∧ c.length = s.sources.xCount ∧ d.length = s.sources.yCount ∧ (if 5 < k ∨ 5 < j then Km540.error (-22) else Km540.codesResult (Km540.firstCodes s.sources f k j)) = Km540.listResult (c ++ d) ∧
      (if 5 < k ∨ 5 < j then (some s, Km540.error (-22)) else match Km540.firstCodes s.sources f k j with
        | none => (some s, Km540.error (-33))
        | some codes => (some { s with xCode := codes.1, yCode := codes.2 }, Km540.number 0)) = (some { s with xCode := c, yCode := d }, Km540.number 0)) := by
  unfold faultOf
  rw [TCM.first_codes]
  by_cases z : 5 < k ∨ 5 < j
  · rw [if_pos z, if_pos z, if_pos z]
    exact .inl ⟨-22, by decide, rfl, rfl, rfl⟩
  · rw [if_neg z, if_neg z, if_neg z]
    cases e : TCM.firstCodesB (possiblePairs s.sources) (valF s.sources f) s.sources.xCount s.sources.yCount k j with
    | none => exact .inl ⟨-33, by decide, rfl, rfl, rfl⟩
    | some cd =>
      obtain ⟨c, d⟩ := cd
      obtain ⟨h1, h2⟩ := TCM.first_in e
      exact .inr ⟨c, d, rfl, TCM.codes_len _ hx _ (by omega) _ h1, TCM.codes_len _ hy _ (by omega) _ h2, rfl, rfl⟩
def spCF (K : PySem.W.Frag) (CH CI : Addr) : Sp := fun vs H Q _ => ∃ (own nb : Addr) (f : Bool) (s : Session) (dx i : Addr) (m : IA) (k j : Nat), vs = [.ref own, .bl f, .ref nb] ∧ H own = some (.ins CH dx (hF (.ref i))) ∧ InstAt CI H i s m ∧ SqL K H nb (intsV [k, j]) ∧
  ∀ H' t l, Same H H' → H' t = some (.tup [.int (faultOf s f k j).1, .ref l]) → TwoCodes K H' l (faultOf s f k j).2 → Q (.ref t) H'
def gTC (s : Session) (f : Bool) (k j : Nat) : List Int := resL (if 5 < k ∨ 5 < j then Km540.error (-22) else Km540.codesResult (Km540.firstCodes s.sources f k j))
def spTC (K : PySem.W.Frag) (CH CI : Addr) : Sp := fun vs H Q _ => ∃ (own nb : Addr) (f : Bool) (s : Session) (dx i : Addr) (m : IA) (k j : Nat), vs = [.ref own, .bl f, .ref nb] ∧ H own = some (.ins CH dx (hF (.ref i))) ∧ InstAt CI H i s m ∧ SqL K H nb (intsV [k, j]) ∧ Told H (gTC s f k j) Q
def spUC (K : PySem.W.Frag) (CH CI : Addr) : Sp := fun vs H Q _ => ∃ (own nb : Addr) (f : Bool) (s : Session) (F : List Addr) (k j : Nat), vs = [.ref own, .bl f, .ref nb] ∧ StAt CH CI H own (some s) F ∧ SqL K H nb (intsV [k, j]) ∧
  Answer CH CI H own (some s) F (if f then .useFunctionCodes k j else .useLosslessCodes k j) Q
abbrev nCF : List Str := ["own", "is_function", "numbers", "one", "found"]
theorem scCF : FnScope nCF ["own", "is_function", "numbers"] (defScope (topS 37)) := ⟨rfl, rfl, rfl, by decide +kernel, rfl, by decide +kernel, by decide +kernel⟩
abbrev nTC : List Str := ["own", "is_function", "numbers", "fault", "codes"]
theorem scTC : FnScope nTC ["own", "is_function", "numbers"] (defScope (topS 38)) := ⟨rfl, rfl, rfl, by decide +kernel, rfl, by decide +kernel, by decide +kernel⟩
theorem scUC : FnScope nTC ["own", "is_function", "numbers"] (defScope (topS 39)) := ⟨rfl, rfl, rfl, by decide +kernel, rfl, by decide +kernel, by decide +kernel⟩
theorem InstAt.setCl {CI : Addr} {H : Hp} {i : Addr} {s : Session} {m : IA} (h : InstAt CI H i s m) {l x y : Addr} {c d : List Nat} (hl : H l = some (.lst [.ref x, .ref y])) (hx : H x = some (.lst (intsV c))) (hy : H y = some (.lst (intsV d))) (d1 : l ≠ x) (d2 : l ≠ y) (d3 : x ≠ y)
    (ok : SesOk { s with xCode := c, yCode := d } m.kp m.kv) : InstAt CI (upd H i (.ins CI m.dx (putF "codes" (.ref l) m.fs))) i { s with xCode := c, yCode := d } { m with cl := l, cx := x, cy := y } := by
  rw [put_codes]
  refine ⟨upd_same, ?_, ?_, ?_, ?_, ?_, ?_, d1, d2, d3, h.d4, ok⟩
  · rw [upd_ne (ne_of h.cnt h.ins (fun z => nomatch z))]; exact h.cnt
  · rw [upd_ne (ne_of h.pos h.ins (fun z => nomatch z))]; exact h.pos
  · rw [upd_ne (ne_of h.val h.ins (fun z => nomatch z))]; exact h.val
  · rw [upd_ne (ne_of hl h.ins (fun z => nomatch z))]; exact hl
  · rw [upd_ne (ne_of hx h.ins (fun z => nomatch z))]; exact hx
  · rw [upd_ne (ne_of hy h.ins (fun z => nomatch z))]; exact hy
section
variable {P : Program} {w : World} {K : PySem.W.Frag} {mg : Str → Option Value} {base : Heap} {CI CH : Addr}
theorem ok_cf (T : Txt mg) (C : ClsH K CH) (C' : ClsI K CI) (D : DefAt K mg "codes_for" (topS 37) ["own", "is_function", "numbers"]) (c1 : Cal P w K mg base 2 "first_codes" (spFirst K) []) (m1 : Met P w K mg base 1 CI "pairs" (spPairs K CI) []) (m2 : Met P w K mg base 2 CI "told" (spTold K CI) []) : Cal P w K mg base 3 "codes_for" (spCF K CH CI) [] := by
  refine D.cal scCF (fun vs H Q E h => ?_) (fun f cdv A outer s H vs Q E hr h => ⟨_, pss_cons (ps_if (pt_cmp (pc_gt (pe_callB (cr_max rfl) (by rfl) T.max (by decide +kernel) (pa_cons (pv 2) pa_nil)) (C8.pe_gc (by rfl) T.limit))) (pss_one (ps_ret (pe_tup (pa_cons (pe_un un_neg pe_int) (pa_cons (pe_lst pa_nil) pa_nil))))) pss_nil)
    (pss_cons (ps_set (i := 3) scCF.nd rfl (.inl rfl) (pe_fld (pv 0) rfl))
    (pss_cons (ps_set (i := 4) scCF.nd rfl (.inl rfl) (C8.pe_c c1 hr (by decide) (by rfl) (pa_cons (C8.pe_mt0 m1 hr (by decide) (pv 3)) (pa_cons (C8.pe_mt m2 hr (by decide) (pv 3) (pa_cons (pv 1) pa_nil)) (pa_cons (pe_fld (pv 3) rfl) (pa_cons (pv 2) pa_nil))))))
    (pss_one (ps_ret (pe_ifExp (pt_cmp (pc_gt (pe_callB call_len_seq (by rfl) T.len PySem.boot_len (pa_cons (pv 4) pa_nil)) pe_int)) (pe_tup (pa_cons pe_int (pa_cons (pv 4) pa_nil))) (pe_tup (pa_cons (pe_un un_neg pe_int) (pa_cons (pe_lst pa_nil) pa_nil)))))))), ?_⟩)
  · obtain ⟨own, nb, f, s, dx, i, m, k, j, rfl, _⟩ := h
    rfl
  · obtain ⟨own, nb, f, s, dx, i, m, k, j, rfl, hw, hI, hnb, q⟩ := h
    unfold faultOf at q
    refine ⟨_, rfl, nb, [(k : Int), (j : Int)], rfl, hnb, (by show 0 < 2; decide), fun mx hmx hle => ?_⟩
    have hk := hle k (by simp)
    have hj := hle j (by simp)
    have hm : mx = (k : Int) ∨ mx = (j : Int) := by simpa using hmx
    refine ⟨_, 5, rfl, rfl, decide (5 < k ∨ 5 < j), congrArg V.bl (TCM.bc (by simp only [decide_eq_true_eq]; omega)), ?_⟩
    by_cases z : 5 < k ∨ 5 < j
    · rw [if_pos z] at q
      rw [decide_eq_true z]
      exact iteT ⟨_, rfl, (by show 0 ≤ sizeLine; decide), fun l hl => ⟨(by show 2 ≤ sizeLine; decide), fun t ht => q _ t l ((same_upd hl).trans (same_upd ht)) upd_same (SqL.of ((same_upd ht) _ _ upd_same))⟩⟩
    · rw [if_neg z] at q
      rw [decide_eq_false z]
      refine iteF ?_
      refine ⟨_, rfl, own, CH, dx, _, _, rfl, hw, C.cl, C.nI, hF_look _, ?_⟩
      refine ⟨_, rfl, i, m.dx, m.fs, rfl, hI.ins, nf_pairs m, i, s, m, rfl, hI, fun H1 v1 s1 hv1 => ?_⟩
      have I1 := hI.same s1
      refine ⟨_, rfl, i, m.dx, m.fs, rfl, I1.ins, nf_told m, _, rfl, i, f, s, m, rfl, I1, fun H2 v2 s2 hv2 => ?_⟩
      have I2 := I1.same s2
      refine ⟨_, rfl, i, CI, _, _, _, rfl, I2.ins, C'.cl, C'.nC, fs_counts m, _, rfl, v1, v2, m.ct, nb, possiblePairs s.sources, valF s.sources f, s.sources.xCount, s.sources.yCount, k, j, rfl, I2.given (pairsS_same s2 hv1) hv2, SqT.of I2.cnt, (s1.trans s2).seq hnb, hI.ok.x5, hI.ok.y5, by omega, by omega, hI.within, fun H3 l s3 hl => ?_⟩
      have s03 := s1.trans (s2.trans s3)
      cases e : TCM.firstCodesB (possiblePairs s.sources) (valF s.sources f) s.sources.xCount s.sources.yCount k j with
      | none =>
        rw [e] at q hl
        have hl : SqL K H3 l [] := hl
        refine ⟨_, rfl, l, _, rfl, .inl hl, _, _, rfl, rfl, false, rfl, ?_⟩
        exact iteF ⟨_, rfl, (by show 0 ≤ sizeLine; decide), fun l hl => ⟨(by show 2 ≤ sizeLine; decide), fun t ht => q _ t l (s03.trans ((same_upd hl).trans (same_upd ht))) upd_same (SqL.of ((same_upd ht) _ _ upd_same))⟩⟩
      | some cd =>
        rw [e] at q hl
        obtain ⟨x, y, h0, h1, h2⟩ := hl
        refine ⟨_, rfl, l, _, rfl, .inl h0, _, _, rfl, rfl, true, rfl, ?_⟩
        exact iteT ⟨_, rfl, (by show 2 ≤ sizeLine; decide), fun t ht => q _ t l (s03.trans (same_upd ht)) upd_same ⟨x, y, (same_upd ht).seq h0, h1.keep (.of (same_upd ht)), h2.keep (.of (same_upd ht))⟩⟩
theorem ok_tc (T : Txt mg) (C : ClsH K CH) (C' : ClsI K CI) (D : DefAt K mg "told_codes" (topS 38) ["own", "is_function", "numbers"]) (c1 : Cal P w K mg base 3 "codes_for" (spCF K CH CI) []) : Cal P w K mg base 4 "told_codes" (spTC K CH CI) [] := by
  refine D.cal scTC (fun vs H Q E h => ?_) (fun f cdv A outer s H vs Q E hr h => ⟨_, pss_cons (ps_asg (C8.pe_c c1 hr (by decide) (by rfl) (pa_cons (pv 0) (pa_cons (pv 1) (pa_cons (pv 2) pa_nil)))) (pg_tup rfl (pgs_cons (pg_name (i := 3) scTC.nd rfl (.inl rfl)) (pgs_cons (pg_name (i := 4) scTC.nd rfl (.inl rfl)) pgs_nil))))
    (pss_cons (ps_if (pt_cmp (pc_lt (pv 3) pe_int)) (pss_one (ps_ret (pe_lst (pa_cons (pv 3) pa_nil)))) pss_nil)
    (pss_one (ps_ret (pe_op op_cat (pe_op op_cat (pe_lst (pa_cons (pe_callB (cr_sumT rfl) (by rfl) T.sum (by decide +kernel) (pa_cons (pe_fld (pe_fld (pv 0) rfl) rfl) pa_nil)) pa_nil)) (pe_callTy call_list_of (by rfl) T.list (by decide +kernel) (pa_cons (pe_ix ix_any (pv 4) pe_int (fun _ _ => rfl)) pa_nil))) (pe_callTy call_list_of (by rfl) T.list (by decide +kernel) (pa_cons (pe_ix ix_any (pv 4) pe_int (fun _ _ => rfl)) pa_nil)))))), ?_⟩)
  · obtain ⟨own, nb, f, s, dx, i, m, k, j, rfl, _⟩ := h
    rfl
  · obtain ⟨own, nb, f, s, dx, i, m, k, j, rfl, hw, hI, hnb, q⟩ := h
    refine ⟨_, rfl, _, rfl, _, rfl, own, nb, f, s, dx, i, m, k, j, rfl, hw, hI, hnb, fun H1 t l s1 ht hl => ?_⟩
    have x5 := hI.ok.x5
    have y5 := hI.ok.y5
    unfold gTC at q
    rcases fault_cases s f k j x5 y5 with ⟨e, e0, ef, eg, _⟩ | ⟨c, d, ef, lc, ld, eg, _⟩
    · rw [ef] at ht hl
      rw [eg] at q
      refine ⟨t, _, rfl, SqT.of ht, rfl, _, _, rfl, _, _, rfl, rfl, ?_⟩
      refine ⟨_, rfl, e, 0, rfl, rfl, true, congrArg V.bl (decide_eq_true e0), ?_⟩
      exact iteT ⟨_, rfl, (by show 1 ≤ sizeLine; decide), fun a ha => q.after s1 ha rfl⟩
    · rw [ef] at ht hl
      rw [eg] at q
      obtain ⟨x, y, h0, ⟨xa, rfl, h1⟩, ⟨ya, rfl, h2⟩⟩ := hl
      have I1 := hI.same s1
      refine ⟨t, _, rfl, SqT.of ht, rfl, _, _, rfl, _, _, rfl, rfl, ?_⟩
      refine ⟨_, rfl, 0, 0, rfl, rfl, false, rfl, ?_⟩
      refine iteF ?_
      refine ⟨_, rfl, own, CH, dx, _, _, rfl, s1 _ _ hw, C.cl, C.nI, hF_look _, i, CI, _, _, _, rfl, I1.ins, C'.cl, C'.nC, fs_counts m, m.ct, [(s.sources.xCount : Int), (s.sources.yCount : Int)], rfl, SqT.of I1.cnt, (by show 1 ≤ sizeLine; decide), fun l1 hl1 => ?_⟩
      have t1 := same_upd (o := .lst [.int [(s.sources.xCount : Int), (s.sources.yCount : Int)].sum]) hl1
      refine ⟨_, rfl, l, 0, _, _, rfl, rfl, .inl (t1.seq h0), rfl, xa, intsV c, rfl, .inr (sqT_keep (.of t1) h1), fun l2 hl2 => ?_⟩
      have t2 := same_upd (o := .lst (intsV c)) hl2
      refine ⟨l1, l2, _, _, rfl, rfl, t2 _ _ upd_same, upd_same, ?_, fun l3 hl3 => ?_⟩
      · rw [intsV_len, sizeLine_eq]
        show 1 + c.length ≤ _
        omega
      have t3 := same_upd (o := .lst ([.int [(s.sources.xCount : Int), (s.sources.yCount : Int)].sum] ++ intsV c)) hl3
      have t13 := t1.trans (t2.trans t3)
      refine ⟨_, rfl, l, 1, _, _, rfl, rfl, .inl (t13.seq h0), rfl, ya, intsV d, rfl, .inr (sqT_keep (.of t13) h2), fun l4 hl4 => ?_⟩
      have t4 := same_upd (o := .lst (intsV d)) hl4
      refine ⟨l3, l4, _, _, rfl, rfl, t4 _ _ upd_same, upd_same, ?_, fun a ha => q.after (s1.trans (t13.trans t4)) ha ?_⟩
      · rw [List.length_append, intsV_len, intsV_len, sizeLine_eq]
        show 1 + c.length + d.length ≤ _
        omega
      · show _ = (((c ++ d).length : Int) :: (c ++ d).map fun (x : Nat) => (x : Int)).map V.int
        rw [List.map_cons, ← intsV_map]
        have en : [(s.sources.xCount : Int), (s.sources.yCount : Int)].sum = ((c ++ d).length : Int) := by
          rw [List.length_append, lc, ld]
          show (s.sources.xCount : Int) + ((s.sources.yCount : Int) + 0) = _
          omega
        rw [en]
        unfold intsV
        rw [List.map_append]
        rfl
theorem ok_uc (T : Txt mg) (C : ClsH K CH) (C' : ClsI K CI) (D : DefAt K mg "used_codes" (topS 39) ["own", "is_function", "numbers"]) (c1 : Cal P w K mg base 3 "codes_for" (spCF K CH CI) []) : Cal P w K mg base 4 "used_codes" (spUC K CH CI) [] := by
  refine D.cal scUC (fun vs H Q E h => ?_) (fun f cdv A outer s H vs Q E hr h => ⟨_, pss_cons (ps_asg (C8.pe_c c1 hr (by decide) (by rfl) (pa_cons (pv 0) (pa_cons (pv 1) (pa_cons (pv 2) pa_nil)))) (pg_tup rfl (pgs_cons (pg_name (i := 3) scUC.nd rfl (.inl rfl)) (pgs_cons (pg_name (i := 4) scUC.nd rfl (.inl rfl)) pgs_nil))))
    (pss_cons (ps_if (pt_cmp (pc_lt (pv 3) pe_int)) (pss_one (ps_ret (pe_lst (pa_cons (pv 3) pa_nil)))) pss_nil)
    (pss_cons (ps_fld (pe_fld (pv 0) rfl) (pe_lst (pa_cons (pe_callTy call_list_of (by rfl) T.list (by decide +kernel) (pa_cons (pe_ix ix_any (pv 4) pe_int (fun _ _ => rfl)) pa_nil)) (pa_cons (pe_callTy call_list_of (by rfl) T.list (by decide +kernel) (pa_cons (pe_ix ix_any (pv 4) pe_int (fun _ _ => rfl)) pa_nil)) pa_nil))) rfl)
    (pss_one (ps_ret (pe_lst (pa_cons pe_int pa_nil)))))), ?_⟩)
  · obtain ⟨own, nb, f, s, F, k, j, rfl, _⟩ := h
    rfl
  · obtain ⟨own, nb, f, s, F, k, j, rfl, hs, hnb, A⟩ := h
    have hs0 := hs
    obtain ⟨dx, i, m, hw, hI, rfl⟩ := hs
    have x5 := hI.ok.x5
    have y5 := hI.ok.y5
    have eo : out (some s) (if f then .useFunctionCodes k j else .useLosslessCodes k j) = ((if 5 < k ∨ 5 < j then (some s, Km540.error (-22)) else match Km540.firstCodes s.sources f k j with
        | none => (some s, Km540.error (-33))
        | some codes => (some { s with xCode := codes.1, yCode := codes.2 }, Km540.number 0)).1, resL (if 5 < k ∨ 5 < j then (some s, Km540.error (-22)) else match Km540.firstCodes s.sources f k j with
        | none => (some s, Km540.error (-33))
        | some codes => (some { s with xCode := codes.1, yCode := codes.2 }, Km540.number 0)).2) := by
      cases f <;> rfl
    refine ⟨_, rfl, _, rfl, _, rfl, own, nb, f, s, dx, i, m, k, j, rfl, hw, hI, hnb, fun H1 t l s1 ht hl => ?_⟩
    rcases fault_cases s f k j x5 y5 with ⟨e, e0, ef, _, eg⟩ | ⟨c, d, ef, lc, ld, _, eg⟩
    · rw [ef] at ht hl
      rw [eg] at eo
      refine ⟨t, _, rfl, SqT.of ht, rfl, _, _, rfl, _, _, rfl, rfl, ?_⟩
      refine ⟨_, rfl, e, 0, rfl, rfl, true, congrArg V.bl (decide_eq_true e0), ?_⟩
      have q : Told H [e] Q := Told.of A hs0 (by rw [eo]) (by rw [eo]; rfl)
      exact iteT ⟨_, rfl, (by show 1 ≤ sizeLine; decide), fun a ha => q.after s1 ha rfl⟩
    · rw [ef] at ht hl
      rw [eg] at eo
      obtain ⟨x, y, h0, ⟨xa, rfl, h1⟩, ⟨ya, rfl, h2⟩⟩ := hl
      refine ⟨t, _, rfl, SqT.of ht, rfl, _, _, rfl, _, _, rfl, rfl, ?_⟩
      refine ⟨_, rfl, 0, 0, rfl, rfl, false, rfl, ?_⟩
      refine iteF ?_
      refine ⟨_, rfl, l, 0, _, _, rfl, rfl, .inl h0, rfl, xa, intsV c, rfl, .inr h1, fun cx hcx => ?_⟩
      have t1 : Same H1 _ := same_upd (o := .lst (intsV c)) hcx
      refine ⟨_, rfl, l, 1, _, _, rfl, rfl, .inl (t1.seq h0), rfl, ya, intsV d, rfl, .inr (sqT_keep (.of t1) h2), fun cy hcy => ?_⟩
      have t2 := same_upd (o := .lst (intsV d)) hcy
      refine ⟨(by show 2 ≤ sizeLine; decide), fun cl hcl => ?_⟩
      have t3 := same_upd (o := .lst [.ref cx, .ref cy]) hcl
      have nx : H cx = none := s1.free hcx
      have ny : H cy = none := (s1.trans t1).free hcy
      have nl : H cl = none := (s1.trans (t1.trans t2)).free hcl
      have d3 : cx ≠ cy := ne_of_none upd_same hcy
      have d1 : cl ≠ cx := Ne.symm (ne_of_none (t2 _ _ upd_same) hcl)
      have d2 : cl ≠ cy := Ne.symm (ne_of_none upd_same hcl)
      have s4 := s1.trans (t1.trans (t2.trans t3))
      have hx4 := (t2.trans t3) _ _ (upd_same (H := H1) (a := cx) (o := .lst (intsV c)))
      have hy4 := t3 _ _ upd_same
      have hl4 : (upd (upd (upd H1 cx (.lst (intsV c))) cy (.lst (intsV d))) cl (.lst [.ref cx, .ref cy])) cl = some (.lst [.ref cx, .ref cy]) := upd_same
      generalize upd (upd (upd H1 cx (.lst (intsV c))) cy (.lst (intsV d))) cl (.lst [.ref cx, .ref cy]) = H4 at s4 hx4 hy4 hl4 ⊢
      have I4 := hI.same s4
      have hw4 := s4 _ _ hw
      refine ⟨_, rfl, own, CH, dx, _, _, rfl, hw4, C.cl, C.nI, hF_look _, i, CI, m.dx, m.fs, rfl, I4.ins, C'.cl, C'.nK, (by show 4 < 1000; decide), ?_⟩
      have I5 := I4.setCl hl4 hx4 hy4 d1 d2 d3 (hI.ok.codes lc ld)
      have oi : own ≠ i := fun z => own_out hw hI (by rw [z]; simp [IA.fp])
      refine ⟨(by show 1 ≤ sizeLine; decide), fun a ha => ?_⟩
      have ai : a ≠ i := fun z => by rw [z, upd_same] at ha; cases ha
      have han : H a = none := s4.free (by rw [upd_ne ai] at ha; exact ha)
      refine A _ (own :: ({ m with cl := cl, cx := cx, cy := cy } : IA).fp i) a ?_ ⟨?_, fun b hb => ?_⟩ (by rw [eo, upd_same]; rfl) (.inl han)
      · rw [eo]
        exact ⟨dx, i, _, by rw [upd_ne (ne_of_none (by rw [upd_ne oi]; exact hw4) ha), upd_ne oi]; exact hw4, I5.same (same_upd ha), rfl⟩
      · exact ((KeepBut.of s4).upd (.inl (by simp [IA.fp]))).new ha
      · simp only [IA.fp, List.mem_cons, List.not_mem_nil, or_false] at hb ⊢
        rcases hb with rfl | rfl | rfl | rfl | rfl | rfl | rfl
        · exact .inl (.inl rfl)
        · exact .inl (.inr (.inl rfl))
        · exact .inl (.inr (.inr (.inl rfl)))
        · exact .inl (.inr (.inr (.inr (.inl rfl))))
        · exact .inr nl
        · exact .inr nx
        · exact .inr ny
end
end TC
/-! The walks, 15: side_information_bounds, summary, twofold. -/
namespace TC
open PySem PySem.Spec PyProof.Rows L2
open TCM (Tv valF SesOk)
open Km540 (Session possiblePairs)
/-! ### the number of different messages -/
theorem firsts_mono (ms : List Nat) (acc : List Int) (h : ∀ m : Nat, ms.contains m = acc.any (· == (m : Int))) (hl : ms.length = acc.length) : ∀ code : List Nat, (code.foldl (fun (messages : List Nat) (message : Nat) => if messages.contains message then messages else message :: messages) ms).length = (firsts acc (code.map fun (n : Nat) => (n : Int))).length := by
  intro code
  induction code generalizing ms acc with
  | nil => exact hl
  | cons m code ih =>
    rw [List.foldl_cons, List.map_cons]
    unfold firsts
    rw [← h m]
    by_cases c : ms.contains m = true
    · rw [if_pos c, if_pos c]
      exact ih ms acc h hl
    · rw [if_neg c, if_neg c]
      refine ih _ _ (fun k => ?_) (by rw [List.length_cons, List.length_append, hl]; rfl)
      rw [List.contains_cons, h k, List.any_append, Bool.or_comm]
      congr 1
      simp only [List.any_cons, List.any_nil, Bool.or_false]
      refine TCM.bc ?_
      simp only [beq_iff_eq]
      omega
theorem count_is (code : List Nat) : ((firsts [] (code.map fun (n : Nat) => (n : Int))).length : Nat) = Km540.messageCount code := (firsts_mono [] [] (fun _ => rfl) rfl code).symm
theorem linked_in {ps : List (Nat × Nat)} {src n : Nat} (h : ∀ p ∈ ps, TCM.coord src p < n) : ∀ l ∈ TCM.linkedB ps src, l.1 < n ∧ l.2 < n := fun l hl => by
  obtain ⟨p, hp, q, hq, _, e1, e2⟩ := TCM.mem_linked.mp (show (l.1, l.2) ∈ TCM.linkedB ps src from hl)
  exact ⟨by rw [← e1]; exact h p hp, by rw [← e2]; exact h q hq⟩
abbrev nSide : List Str := ["own", "numbers", "one", "pairs", "found", "source"]
theorem scSide : FnScope nSide ["own", "numbers"] (defScope (topS 41)) := ⟨rfl, rfl, rfl, by decide +kernel, rfl, by decide +kernel, by decide +kernel⟩
abbrev nSum : List Str := ["own", "numbers", "one"]
theorem scSum : FnScope nSum ["own", "numbers"] (defScope (topS 42)) := ⟨rfl, rfl, rfl, by decide +kernel, rfl, by decide +kernel, by decide +kernel⟩
abbrev nTwo : List Str := ["own", "deed", "numbers", "is_function"]
theorem scTwo : FnScope nTwo ["own", "deed", "numbers"] (defScope (topS 45)) := ⟨rfl, rfl, rfl, by decide +kernel, rfl, by decide +kernel, by decide +kernel⟩
/-- how many numbers belong to a deed -/
def needs : List (Nat × Nat) := [(0, 2), (1, 3), (2, 3), (3, 2), (4, 2), (11, 2), (12, 2), (15, 1), (16, 1), (21, 2), (22, 2), (23, 2), (24, 2)]
def need (n : Nat) : Nat := ((needs.find? fun e => e.1 == n).map (·.2)).getD 0
def spTwo (K : PySem.W.Frag) (CH CI : Addr) : Sp := fun vs H Q _ => ∃ (own nb : Addr) (s : Session) (ns : List Nat) (F : List Addr) (n : Nat), vs = [.ref own, .int (n : Int), .ref nb] ∧ 13 ≤ n ∧ n ≤ 24 ∧ ns.length = need n ∧ StAt CH CI H own (some s) F ∧ SqL K H nb (intsV ns) ∧ Answer CH CI H own (some s) F (deedCall n ns) Q
section
variable {P : Program} {w : World} {K : PySem.W.Frag} {mg : Str → Option Value} {base : Heap} {CI CH : Addr}
theorem ok_side (T : Txt mg) (C : ClsH K CH) (C' : ClsI K CI) (D : DefAt K mg "call_side_information_bounds" (topS 41) ["own", "numbers"]) (c1 : Cal P w K mg base 2 "colours" (spCol K) []) (c2 : Cal P w K mg base 1 "linked" (spLink K) []) (m1 : Met P w K mg base 1 CI "pairs" (spPairs K CI) []) : Cal P w K mg base 3 "call_side_information_bounds" (spDeed K CH CI 25 0) [] := by
  refine D.cal scSide (fun vs H Q E h => ?_) (fun f cdv A outer s H vs Q E hr h => ⟨_, pss_cons (ps_set (i := 2) scSide.nd rfl (.inr rfl) (pe_fld (pv 0) rfl))
    (pss_cons (ps_set (i := 3) scSide.nd rfl (.inr rfl) (C8.pe_mt0 m1 hr (by decide) (pv 2)))
    (pss_cons ((ps_setLc (i := 4) (own := [("source", 5)]) (g := gName 5) (tt := tYes) (te := tCall (spCol K) [] C8.E0 (tCons (tOp (rIxA K) (tFld K (tVar 2) "counts") (tVar 5)) (tCons (tCall (spLink K) [] C8.E0 (tCons (tVar 3) (tCons (tVar 5) tNil))) tNil))) rfl scSide.nd rfl rfl (sw_true rfl rfl rfl rfl) (pi_tup (pe_tup (pa_cons pe_int (pa_cons pe_int pa_nil)))) (blkOk_by (N := nSide) (sc := defScope (topS 41)) (by decide +kernel))
        (fun _ _ _ _ _ => pg_name (i := 5) scSide.nd rfl (.inl rfl)) (fun _ _ _ _ _ => pts_nil) (fun _ _ _ _ _ => C8.pe_c c1 hr (by decide) (by rfl) (pa_cons (pe_ix ix_any (pe_fld (pv 2) rfl) (pv 5) (fun _ _ => rfl)) (pa_cons (C8.pe_c c2 hr (by decide) (by rfl) (pa_cons (pv 3) (pa_cons (pv 5) pa_nil))) pa_nil)))))
    (pss_one (ps_ret (pe_op op_cat (pv 4) (pe_lst (pa_cons (pe_callB call_len_seq (by rfl) T.len PySem.boot_len (pa_cons (pv 3) pa_nil)) pa_nil))))))), ?_⟩)
  · obtain ⟨own, nb, st, ns, F, rfl, _⟩ := h
    rfl
  · obtain ⟨own, nb, st, ns, F, rfl, hl, hs, hnb, hne, A⟩ := h
    obtain ⟨s, rfl⟩ := some_of (hne (by decide))
    obtain rfl := len0 hl
    have hs0 := hs
    obtain ⟨dx, i, m, hw, hI, rfl⟩ := hs
    have q : Told H [(Km540.minMessages s.sources.xCount (Km540.areConfusable s.sources) : Int), (Km540.minMessages s.sources.yCount (Km540.areConfusable (Km540.swapped s.sources)) : Int), ((possiblePairs s.sources).length : Int)] Q := Told.of A hs0 rfl rfl
    have x5 := hI.ok.x5
    have y5 := hI.ok.y5
    rw [← TCM.side_x x5, ← TCM.side_y y5] at q
    refine ⟨_, rfl, own, CH, dx, _, _, rfl, hw, C.cl, C.nI, hF_look _, ?_⟩
    refine ⟨_, rfl, i, m.dx, m.fs, rfl, hI.ins, nf_pairs m, i, s, m, rfl, hI, fun H1 v1 s1 hv1 => ?_⟩
    have few := TCM.possible_few x5 y5
    have hpl := pairsS_l hv1
    have I1 := hI.same s1
    refine ⟨(by show 2 ≤ sizeLine; decide), fun tp htp => ⟨tp, rfl, ⟨_, SqT.of upd_same⟩, fun D hD => lc_tup (K := K) (a := tp) (xs := [.int 0, .int 1]) (fun t H2 => Same H1 H2 ∧ SqT K H2 tp [.int 0, .int 1] ∧ H2 D = some (.lst (intsV ([TCM.coloursB (TCM.linkedB (possiblePairs s.sources) 0) s.sources.xCount, TCM.coloursB (TCM.linkedB (possiblePairs s.sources) 1) s.sources.yCount].take t)))) ?_ (fun t H2 _ h => h.2.1) ?_ ?_⟩⟩
    · exact ⟨same_then (same_upd htp) hD, SqT.of ((same_upd hD) _ _ upd_same), upd_same⟩
    · rintro t x H2 ht ⟨s2, htp2, hD2⟩
      have t2 : t < 2 := (List.getElem?_eq_some_iff.mp ht).1
      have I2 := I1.same s2
      have hD1 : H1 D = none := by
        cases z : H1 D with
        | none => rfl
        | some o => rw [(same_upd htp) _ _ z] at hD; cases hD
      rcases (show t = 0 ∨ t = 1 by omega) with e | e
      · subst e
        cases ht
        refine ⟨rfl, _, rfl, i, CI, _, _, _, rfl, I2.ins, C'.cl, C'.nC, fs_counts m, _, rfl, m.ct, 0, _, _, rfl, rfl, .inr (SqT.of I2.cnt), rfl, _, rfl, _, rfl, v1, possiblePairs s.sources, 0, rfl, pairsL_same s2 hpl, few, by decide, fun H3 v s3 hv => ?_⟩
        refine ⟨v, TCM.linkedB (possiblePairs s.sources) 0, s.sources.xCount, rfl, hv, hI.ok.x1, x5, ?_, linked_in fun p hp => (hI.within p hp).1, fun H4 s4 => ?_⟩
        · have := linked_len (possiblePairs s.sources) 0 (possiblePairs s.sources)
          have h2 := Nat.mul_le_mul few few
          exact Nat.le_trans this h2
        · exact ⟨_, (s3.trans s4) _ _ hD2, by show 0 < sizeLine; decide, same_new (s2.trans (s3.trans s4)) hD1, sqT_keep (tk_lst ((s3.trans s4) _ _ hD2)) (sqT_keep (.of (s3.trans s4)) htp2), by rw [upd_same]; rfl⟩
      · subst e
        cases ht
        refine ⟨rfl, _, rfl, i, CI, _, _, _, rfl, I2.ins, C'.cl, C'.nC, fs_counts m, _, rfl, m.ct, 1, _, _, rfl, rfl, .inr (SqT.of I2.cnt), rfl, _, rfl, _, rfl, v1, possiblePairs s.sources, 1, rfl, pairsL_same s2 hpl, few, by decide, fun H3 v s3 hv => ?_⟩
        refine ⟨v, TCM.linkedB (possiblePairs s.sources) 1, s.sources.yCount, rfl, hv, hI.ok.y1, y5, ?_, linked_in fun p hp => (hI.within p hp).2, fun H4 s4 => ?_⟩
        · have := linked_len (possiblePairs s.sources) 1 (possiblePairs s.sources)
          have h2 := Nat.mul_le_mul few few
          exact Nat.le_trans this h2
        · exact ⟨_, (s3.trans s4) _ _ hD2, by show 1 < sizeLine; decide, same_new (s2.trans (s3.trans s4)) hD1, sqT_keep (tk_lst ((s3.trans s4) _ _ hD2)) (sqT_keep (.of (s3.trans s4)) htp2), by rw [upd_same]; rfl⟩
    · rintro H2 ⟨s2, _, hD2⟩
      obtain ⟨pa, pvs, rfl, hpa, pp⟩ := pairsL_same s2 hpl
      have lp := Paired.length pp
      refine ⟨_, rfl, _, rfl, pa, pvs, rfl, .inl hpa, (by show 1 ≤ sizeLine; decide), fun l hl => ?_⟩
      have s3 := same_upd (o := .lst [.int (pvs.length : Int)]) hl
      refine ⟨D, l, _, _, rfl, rfl, s3 _ _ hD2, upd_same, (by show 3 ≤ sizeLine; decide), fun a ha => q.after (s1.trans (s2.trans s3)) ha ?_⟩
      rw [lp]
      rfl
theorem ok_sum (T : Txt mg) (C : ClsH K CH) (C' : ClsI K CI) (D : DefAt K mg "call_summary" (topS 42) ["own", "numbers"]) : Cal P w K mg base 1 "call_summary" (spDeed K CH CI 26 0) [] := by
  refine D.cal scSum (fun vs H Q E h => ?_) (fun f cdv A outer s H vs Q E hr h => ⟨_, pss_cons (ps_set (i := 2) scSum.nd rfl (.inl rfl) (pe_fld (pv 0) rfl))
    (pss_one (ps_ret (pe_op op_cat (pe_callTy call_list_of (by rfl) T.list (by decide +kernel) (pa_cons (pe_fld (pv 2) rfl) pa_nil)) (pe_lst (pa_cons (pe_callB call_len_dT (by rfl) T.len PySem.boot_len (pa_cons (pe_fld (pv 2) rfl) pa_nil))
      (pa_cons (pe_lenSet2 (by rfl) T.len (by rfl) T.set (pe_ix ix_any (pe_fld (pv 2) rfl) pe_int (fun _ _ => rfl))) (pa_cons (pe_lenSet2 (by rfl) T.len (by rfl) T.set (pe_ix ix_any (pe_fld (pv 2) rfl) pe_int (fun _ _ => rfl))) pa_nil))))))), ?_⟩)
  · obtain ⟨own, nb, st, ns, F, rfl, _⟩ := h
    rfl
  · obtain ⟨own, nb, st, ns, F, rfl, hl, hs, hnb, hne, A⟩ := h
    obtain ⟨s, rfl⟩ := some_of (hne (by decide))
    obtain rfl := len0 hl
    have hs0 := hs
    obtain ⟨dx, i, m, hw, hI, rfl⟩ := hs
    have q : Told H [(s.sources.xCount : Int), (s.sources.yCount : Int), ((possiblePairs s.sources).length : Int), (Km540.messageCount s.xCode : Int), (Km540.messageCount s.yCode : Int)] Q := Told.of A hs0 rfl rfl
    have x5 := hI.ok.x5
    have y5 := hI.ok.y5
    have xl := hI.ok.xlen
    have yl := hI.ok.ylen
    refine ⟨_, rfl, own, CH, dx, _, _, rfl, hw, C.cl, C.nI, hF_look _, ?_⟩
    refine ⟨_, rfl, i, CI, _, _, _, rfl, hI.ins, C'.cl, C'.nC, fs_counts m, m.ct, _, rfl, .inr (SqT.of hI.cnt), fun l1 hl1 => ?_⟩
    have s1 : Same H _ := same_upd (o := .lst [.int (s.sources.xCount : Int), .int (s.sources.yCount : Int)]) hl1
    have I1 := hI.same s1
    refine ⟨_, rfl, i, CI, _, _, _, rfl, I1.ins, C'.cl, C'.nP, fs_possible m, m.pd, dP m.kp, rfl, I1.pos, ?_⟩
    refine ⟨_, rfl, i, CI, _, _, _, rfl, I1.ins, C'.cl, C'.nK, fs_codes m, m.cl, 0, _, _, rfl, rfl, .inl (SqL.of I1.cod), rfl, m.cx, s.xCode.map fun (n : Nat) => (n : Int), rfl, by rw [← intsV_map]; exact SqL.of I1.xco, by rw [List.length_map]; omega, ?_⟩
    refine ⟨_, rfl, i, CI, _, _, _, rfl, I1.ins, C'.cl, C'.nK, fs_codes m, m.cl, 1, _, _, rfl, rfl, .inl (SqL.of I1.cod), rfl, m.cy, s.yCode.map fun (n : Nat) => (n : Int), rfl, by rw [← intsV_map]; exact SqL.of I1.yco, by rw [List.length_map]; omega, ?_⟩
    refine ⟨(by show 3 ≤ sizeLine; decide), fun l2 hl2 => ?_⟩
    rw [count_is, count_is]
    have s2 := same_upd (o := .lst [.int ((dP m.kp).length : Int), .int ((Km540.messageCount s.xCode : Nat) : Int), .int ((Km540.messageCount s.yCode : Nat) : Int)]) hl2
    refine ⟨l1, l2, _, _, rfl, rfl, s2 _ _ upd_same, upd_same, (by show 5 ≤ sizeLine; decide), fun a ha => q.after (s1.trans s2) ha ?_⟩
    have e : (dP m.kp).length = (possiblePairs s.sources).length := by
      unfold dP
      rw [List.length_map]
      exact hI.ok.perm.length_eq
    rw [e]
    rfl
theorem ok_two (D : DefAt K mg "twofold" (topS 45) ["own", "deed", "numbers"]) (c1 : Cal P w K mg base 3 "least_now" (spRead CH CI gNow) []) (c2 : Cal P w K mg base 5 "told_for" (spTF CH CI) []) (c3 : Cal P w K mg base 5 "region" (spRead CH CI gRegion) [])
    (c4 : Cal P w K mg base 5 "least_total" (spRead CH CI gTotal) []) (c5 : Cal P w K mg base 4 "told_codes" (spTC K CH CI) []) (c6 : Cal P w K mg base 4 "used_codes" (spUC K CH CI) []) : Cal P w K mg base 6 "twofold" (spTwo K CH CI) [] := by
  refine D.cal scTwo (fun vs H Q E h => ?_) (fun f cdv A outer s H vs Q E hr h => ⟨_, pss_cons (ps_set (i := 3) scTwo.nd rfl (.inl rfl) (pe_cmp (pc_eqI (pe_op op_mod (pv 1) pe_int) pe_int)))
    (pss_cons (ps_if (pt_cmp (pc_le (pv 1) pe_int)) (pss_one (ps_ret (C8.pe_c c1 hr (by decide) (by rfl) (pa_cons (pv 0) (pa_cons (pv 3) pa_nil))))) pss_nil)
    (pss_cons (ps_if (pt_cmp (pc_le (pv 1) pe_int)) (pss_one (ps_ret (C8.pe_c c2 hr (by decide) (by rfl) (pa_cons (pv 0) (pa_cons (pv 3) (pa_cons (pe_ix ix_any (pv 2) pe_int (fun _ _ => rfl)) pa_nil)))))) pss_nil)
    (pss_cons (ps_if (pt_cmp (pc_le (pv 1) pe_int)) (pss_one (ps_ret (C8.pe_c c3 hr (by decide) (by rfl) (pa_cons (pv 0) (pa_cons (pv 3) pa_nil))))) pss_nil)
    (pss_cons (ps_if (pt_cmp (pc_le (pv 1) pe_int)) (pss_one (ps_ret (C8.pe_c c4 hr (by decide) (by rfl) (pa_cons (pv 0) (pa_cons (pv 3) pa_nil))))) pss_nil)
    (pss_cons (ps_if (pt_cmp (pc_le (pv 1) pe_int)) (pss_one (ps_ret (C8.pe_c c5 hr (by decide) (by rfl) (pa_cons (pv 0) (pa_cons (pv 3) (pa_cons (pv 2) pa_nil)))))) pss_nil)
    (pss_one (ps_ret (C8.pe_c c6 hr (by decide) (by rfl) (pa_cons (pv 0) (pa_cons (pv 3) (pa_cons (pv 2) pa_nil))))))))))), ?_⟩)
  · obtain ⟨own, nb, s, ns, F, n, rfl, _⟩ := h
    rfl
  · obtain ⟨own, nb, s, ns, F, n, rfl, h13, h24, hl, hs, hnb, A⟩ := h
    have hs0 := hs
    obtain ⟨dx, i, m, hw, hI, rfl⟩ := hs
    rcases (show n = 13 ∨ n = 14 ∨ n = 15 ∨ n = 16 ∨ n = 17 ∨ n = 18 ∨ n = 19 ∨ n = 20 ∨ n = 21 ∨ n = 22 ∨ n = 23 ∨ n = 24 by omega) with e | e | e | e | e | e | e | e | e | e | e | e <;> subst e
    · obtain rfl := len0 hl
      refine ⟨_, rfl, 13, 2, rfl, rfl, by decide, _, _, rfl, rfl, ?_⟩
      refine ⟨_, rfl, 13, 14, rfl, rfl, true, rfl, iteT ?_⟩
      exact ⟨_, rfl, _, rfl, own, false, s, dx, i, m, rfl, hw, hI, Told.of A hs0 rfl rfl⟩
    · obtain rfl := len0 hl
      refine ⟨_, rfl, 14, 2, rfl, rfl, by decide, _, _, rfl, rfl, ?_⟩
      refine ⟨_, rfl, 14, 14, rfl, rfl, true, rfl, iteT ?_⟩
      exact ⟨_, rfl, _, rfl, own, true, s, dx, i, m, rfl, hw, hI, Told.of A hs0 rfl rfl⟩
    · obtain ⟨k, rfl⟩ := len1 hl
      refine ⟨_, rfl, 15, 2, rfl, rfl, by decide, _, _, rfl, rfl, ?_⟩
      refine ⟨_, rfl, 15, 14, rfl, rfl, false, rfl, iteF ?_⟩
      refine ⟨_, rfl, 15, 16, rfl, rfl, true, rfl, iteT ?_⟩
      exact ⟨_, rfl, _, rfl, _, rfl, nb, 0, _, _, rfl, rfl, .inl hnb, rfl, own, false, s, dx, i, m, k, rfl, hw, hI, Told.of A hs0 rfl rfl⟩
    · obtain ⟨k, rfl⟩ := len1 hl
      refine ⟨_, rfl, 16, 2, rfl, rfl, by decide, _, _, rfl, rfl, ?_⟩
      refine ⟨_, rfl, 16, 14, rfl, rfl, false, rfl, iteF ?_⟩
      refine ⟨_, rfl, 16, 16, rfl, rfl, true, rfl, iteT ?_⟩
      exact ⟨_, rfl, _, rfl, _, rfl, nb, 0, _, _, rfl, rfl, .inl hnb, rfl, own, true, s, dx, i, m, k, rfl, hw, hI, Told.of A hs0 rfl rfl⟩
    · obtain rfl := len0 hl
      refine ⟨_, rfl, 17, 2, rfl, rfl, by decide, _, _, rfl, rfl, ?_⟩
      refine ⟨_, rfl, 17, 14, rfl, rfl, false, rfl, iteF ?_⟩
      refine ⟨_, rfl, 17, 16, rfl, rfl, false, rfl, iteF ?_⟩
      refine ⟨_, rfl, 17, 18, rfl, rfl, true, rfl, iteT ?_⟩
      exact ⟨_, rfl, _, rfl, own, false, s, dx, i, m, rfl, hw, hI, Told.of A hs0 rfl rfl⟩
    · obtain rfl := len0 hl
      refine ⟨_, rfl, 18, 2, rfl, rfl, by decide, _, _, rfl, rfl, ?_⟩
      refine ⟨_, rfl, 18, 14, rfl, rfl, false, rfl, iteF ?_⟩
      refine ⟨_, rfl, 18, 16, rfl, rfl, false, rfl, iteF ?_⟩
      refine ⟨_, rfl, 18, 18, rfl, rfl, true, rfl, iteT ?_⟩
      exact ⟨_, rfl, _, rfl, own, true, s, dx, i, m, rfl, hw, hI, Told.of A hs0 rfl rfl⟩
    · obtain rfl := len0 hl
      refine ⟨_, rfl, 19, 2, rfl, rfl, by decide, _, _, rfl, rfl, ?_⟩
      refine ⟨_, rfl, 19, 14, rfl, rfl, false, rfl, iteF ?_⟩
      refine ⟨_, rfl, 19, 16, rfl, rfl, false, rfl, iteF ?_⟩
      refine ⟨_, rfl, 19, 18, rfl, rfl, false, rfl, iteF ?_⟩
      refine ⟨_, rfl, 19, 20, rfl, rfl, true, rfl, iteT ?_⟩
      exact ⟨_, rfl, _, rfl, own, false, s, dx, i, m, rfl, hw, hI, Told.of A hs0 rfl rfl⟩
    · obtain rfl := len0 hl
      refine ⟨_, rfl, 20, 2, rfl, rfl, by decide, _, _, rfl, rfl, ?_⟩
      refine ⟨_, rfl, 20, 14, rfl, rfl, false, rfl, iteF ?_⟩
      refine ⟨_, rfl, 20, 16, rfl, rfl, false, rfl, iteF ?_⟩
      refine ⟨_, rfl, 20, 18, rfl, rfl, false, rfl, iteF ?_⟩
      refine ⟨_, rfl, 20, 20, rfl, rfl, true, rfl, iteT ?_⟩
      exact ⟨_, rfl, _, rfl, own, true, s, dx, i, m, rfl, hw, hI, Told.of A hs0 rfl rfl⟩
    · obtain ⟨k, j, rfl⟩ := len2 hl
      refine ⟨_, rfl, 21, 2, rfl, rfl, by decide, _, _, rfl, rfl, ?_⟩
      refine ⟨_, rfl, 21, 14, rfl, rfl, false, rfl, iteF ?_⟩
      refine ⟨_, rfl, 21, 16, rfl, rfl, false, rfl, iteF ?_⟩
      refine ⟨_, rfl, 21, 18, rfl, rfl, false, rfl, iteF ?_⟩
      refine ⟨_, rfl, 21, 20, rfl, rfl, false, rfl, iteF ?_⟩
      refine ⟨_, rfl, 21, 22, rfl, rfl, true, rfl, iteT ?_⟩
      exact ⟨_, rfl, _, rfl, _, rfl, own, nb, false, s, dx, i, m, k, j, rfl, hw, hI, hnb, Told.of A hs0 rfl rfl⟩
    · obtain ⟨k, j, rfl⟩ := len2 hl
      refine ⟨_, rfl, 22, 2, rfl, rfl, by decide, _, _, rfl, rfl, ?_⟩
      refine ⟨_, rfl, 22, 14, rfl, rfl, false, rfl, iteF ?_⟩
      refine ⟨_, rfl, 22, 16, rfl, rfl, false, rfl, iteF ?_⟩
      refine ⟨_, rfl, 22, 18, rfl, rfl, false, rfl, iteF ?_⟩
      refine ⟨_, rfl, 22, 20, rfl, rfl, false, rfl, iteF ?_⟩
      refine ⟨_, rfl, 22, 22, rfl, rfl, true, rfl, iteT ?_⟩
      exact ⟨_, rfl, _, rfl, _, rfl, own, nb, true, s, dx, i, m, k, j, rfl, hw, hI, hnb, Told.of A hs0 rfl rfl⟩
    · obtain ⟨k, j, rfl⟩ := len2 hl
      refine ⟨_, rfl, 23, 2, rfl, rfl, by decide, _, _, rfl, rfl, ?_⟩
      refine ⟨_, rfl, 23, 14, rfl, rfl, false, rfl, iteF ?_⟩
      refine ⟨_, rfl, 23, 16, rfl, rfl, false, rfl, iteF ?_⟩
      refine ⟨_, rfl, 23, 18, rfl, rfl, false, rfl, iteF ?_⟩
      refine ⟨_, rfl, 23, 20, rfl, rfl, false, rfl, iteF ?_⟩
      refine ⟨_, rfl, 23, 22, rfl, rfl, false, rfl, iteF ?_⟩
      exact ⟨_, rfl, _, rfl, _, rfl, own, nb, false, s, _, k, j, rfl, hs0, hnb, A⟩
    · obtain ⟨k, j, rfl⟩ := len2 hl
      refine ⟨_, rfl, 24, 2, rfl, rfl, by decide, _, _, rfl, rfl, ?_⟩
      refine ⟨_, rfl, 24, 14, rfl, rfl, false, rfl, iteF ?_⟩
      refine ⟨_, rfl, 24, 16, rfl, rfl, false, rfl, iteF ?_⟩
      refine ⟨_, rfl, 24, 18, rfl, rfl, false, rfl, iteF ?_⟩
      refine ⟨_, rfl, 24, 20, rfl, rfl, false, rfl, iteF ?_⟩
      refine ⟨_, rfl, 24, 22, rfl, rfl, false, rfl, iteF ?_⟩
      exact ⟨_, rfl, _, rfl, _, rfl, own, nb, true, s, _, k, j, rfl, hs0, hnb, A⟩
end
end TC
/-! The walks, 16: what is asked, call by call; answered. -/
namespace TC
open PySem PySem.Spec PyProof.Rows L2
open TCM (Tv valF SesOk)
open Km540 (Session possiblePairs)
theorem un32 {a : Int} (h : Km540Neutral.isUnsigned32 a = true) : ∃ n : Nat, a = (n : Int) := by
  unfold Km540Neutral.isUnsigned32 at h
  simp only [Bool.and_eq_true, decide_eq_true_eq] at h
  exact ⟨a.toNat, by omega⟩
theorem li0 {l : List Int} (h : l.length = 0) : l = [] := List.eq_nil_of_length_eq_zero h
theorem li1 {l : List Int} (h : l.length = 1) : ∃ a, l = [a] := by
  match l, h with
  | [a], _ => exact ⟨a, rfl⟩
theorem li2 {l : List Int} (h : l.length = 2) : ∃ a b, l = [a, b] := by
  match l, h with
  | [a, b], _ => exact ⟨a, b, rfl⟩
theorem li3 {l : List Int} (h : l.length = 3) : ∃ a b c, l = [a, b, c] := by
  match l, h with
  | [a, b, c], _ => exact ⟨a, b, c, rfl⟩
def castI (ns : List Nat) : List Int := ns.map fun (n : Nat) => (n : Int)
theorem castI_V (ns : List Nat) : (castI ns).map V.int = intsV ns := (intsV_map ns).symm
def Ones (d : Nat) (args : List Int) : Prop := ∃ ns : List Nat, args = castI ns ∧ ns.length = need d ∧ ∀ st, Km540Neutral.step st (PyKm540.whole [(d : Int) :: args]) = out st (deedCall d ns)
theorem one_call (d : Nat) (hd : d ≤ 26) (args : List Int) (hl : args.length = need d) (ha : Km540Neutral.asked1 (PyKm540.whole [(d : Int) :: args]) = true) : Ones d args := by
  rcases (show d = 0 ∨ d = 1 ∨ d = 2 ∨ d = 3 ∨ d = 4 ∨ d = 5 ∨ d = 6 ∨ d = 7 ∨ d = 8 ∨ d = 9 ∨ d = 10 ∨ d = 11 ∨ d = 12 ∨ d = 13 ∨ d = 14 ∨ d = 15 ∨ d = 16 ∨ d = 17 ∨ d = 18 ∨ d = 19 ∨ d = 20 ∨ d = 21 ∨ d = 22 ∨ d = 23 ∨ d = 24 ∨ d = 25 ∨ d = 26 by omega) with e | e | e | e | e | e | e | e | e | e | e | e | e | e | e | e | e | e | e | e | e | e | e | e | e | e | e <;> subst e
  · obtain ⟨a, b, rfl⟩ := li2 hl
    have ha : (Km540Neutral.isUnsigned32 a && Km540Neutral.isUnsigned32 b) = true := ha
    obtain ⟨h1, h2⟩ := Bool.and_eq_true_iff.mp ha
    obtain ⟨a, rfl⟩ := un32 h1
    obtain ⟨b, rfl⟩ := un32 h2
    exact ⟨[a, b], rfl, rfl, fun _ => rfl⟩
  · obtain ⟨a, b, c, rfl⟩ := li3 hl
    have ha : (Km540Neutral.isUnsigned32 a && Km540Neutral.isUnsigned32 b && Km540Neutral.isUnsigned32 c) = true := ha
    obtain ⟨h1, h3⟩ := Bool.and_eq_true_iff.mp ha
    obtain ⟨h1, h2⟩ := Bool.and_eq_true_iff.mp h1
    obtain ⟨a, rfl⟩ := un32 h1
    obtain ⟨b, rfl⟩ := un32 h2
    obtain ⟨c, rfl⟩ := un32 h3
    exact ⟨[a, b, c], rfl, rfl, fun _ => rfl⟩
  · obtain ⟨a, b, c, rfl⟩ := li3 hl
    have ha : (Km540Neutral.isUnsigned32 a && Km540Neutral.isUnsigned32 b && Km540Neutral.isUnsigned32 c) = true := ha
    obtain ⟨h1, h3⟩ := Bool.and_eq_true_iff.mp ha
    obtain ⟨h1, h2⟩ := Bool.and_eq_true_iff.mp h1
    obtain ⟨a, rfl⟩ := un32 h1
    obtain ⟨b, rfl⟩ := un32 h2
    obtain ⟨c, rfl⟩ := un32 h3
    exact ⟨[a, b, c], rfl, rfl, fun _ => rfl⟩
  · obtain ⟨a, b, rfl⟩ := li2 hl
    have ha : (Km540Neutral.isUnsigned32 a && Km540Neutral.isUnsigned32 b) = true := ha
    obtain ⟨h1, h2⟩ := Bool.and_eq_true_iff.mp ha
    obtain ⟨a, rfl⟩ := un32 h1
    obtain ⟨b, rfl⟩ := un32 h2
    exact ⟨[a, b], rfl, rfl, fun _ => rfl⟩
  · obtain ⟨a, b, rfl⟩ := li2 hl
    have ha : (Km540Neutral.isUnsigned32 a && Km540Neutral.isUnsigned32 b) = true := ha
    obtain ⟨h1, h2⟩ := Bool.and_eq_true_iff.mp ha
    obtain ⟨a, rfl⟩ := un32 h1
    obtain ⟨b, rfl⟩ := un32 h2
    exact ⟨[a, b], rfl, rfl, fun _ => rfl⟩
  · obtain rfl := li0 hl
    exact ⟨[], rfl, rfl, fun _ => rfl⟩
  · obtain rfl := li0 hl
    exact ⟨[], rfl, rfl, fun _ => rfl⟩
  · obtain rfl := li0 hl
    exact ⟨[], rfl, rfl, fun _ => rfl⟩
  · obtain rfl := li0 hl
    exact ⟨[], rfl, rfl, fun _ => rfl⟩
  · obtain rfl := li0 hl
    exact ⟨[], rfl, rfl, fun _ => rfl⟩
  · obtain rfl := li0 hl
    exact ⟨[], rfl, rfl, fun _ => rfl⟩
  · obtain ⟨a, b, rfl⟩ := li2 hl
    have ha : (Km540Neutral.isUnsigned32 a && Km540Neutral.isUnsigned32 b) = true := ha
    obtain ⟨h1, h2⟩ := Bool.and_eq_true_iff.mp ha
    obtain ⟨a, rfl⟩ := un32 h1
    obtain ⟨b, rfl⟩ := un32 h2
    exact ⟨[a, b], rfl, rfl, fun _ => rfl⟩
  · obtain ⟨a, b, rfl⟩ := li2 hl
    have ha : (Km540Neutral.isUnsigned32 a && Km540Neutral.isUnsigned32 b) = true := ha
    obtain ⟨h1, h2⟩ := Bool.and_eq_true_iff.mp ha
    obtain ⟨a, rfl⟩ := un32 h1
    obtain ⟨b, rfl⟩ := un32 h2
    exact ⟨[a, b], rfl, rfl, fun _ => rfl⟩
  · obtain rfl := li0 hl
    exact ⟨[], rfl, rfl, fun _ => rfl⟩
  · obtain rfl := li0 hl
    exact ⟨[], rfl, rfl, fun _ => rfl⟩
  · obtain ⟨a, rfl⟩ := li1 hl
    have ha : Km540Neutral.isUnsigned32 a = true := ha
    obtain ⟨a, rfl⟩ := un32 ha
    exact ⟨[a], rfl, rfl, fun _ => rfl⟩
  · obtain ⟨a, rfl⟩ := li1 hl
    have ha : Km540Neutral.isUnsigned32 a = true := ha
    obtain ⟨a, rfl⟩ := un32 ha
    exact ⟨[a], rfl, rfl, fun _ => rfl⟩
  · obtain rfl := li0 hl
    exact ⟨[], rfl, rfl, fun _ => rfl⟩
  · obtain rfl := li0 hl
    exact ⟨[], rfl, rfl, fun _ => rfl⟩
  · obtain rfl := li0 hl
    exact ⟨[], rfl, rfl, fun _ => rfl⟩
  · obtain rfl := li0 hl
    exact ⟨[], rfl, rfl, fun _ => rfl⟩
  · obtain ⟨a, b, rfl⟩ := li2 hl
    have ha : (Km540Neutral.isUnsigned32 a && Km540Neutral.isUnsigned32 b) = true := ha
    obtain ⟨h1, h2⟩ := Bool.and_eq_true_iff.mp ha
    obtain ⟨a, rfl⟩ := un32 h1
    obtain ⟨b, rfl⟩ := un32 h2
    exact ⟨[a, b], rfl, rfl, fun _ => rfl⟩
  · obtain ⟨a, b, rfl⟩ := li2 hl
    have ha : (Km540Neutral.isUnsigned32 a && Km540Neutral.isUnsigned32 b) = true := ha
    obtain ⟨h1, h2⟩ := Bool.and_eq_true_iff.mp ha
    obtain ⟨a, rfl⟩ := un32 h1
    obtain ⟨b, rfl⟩ := un32 h2
    exact ⟨[a, b], rfl, rfl, fun _ => rfl⟩
  · obtain ⟨a, b, rfl⟩ := li2 hl
    have ha : (Km540Neutral.isUnsigned32 a && Km540Neutral.isUnsigned32 b) = true := ha
    obtain ⟨h1, h2⟩ := Bool.and_eq_true_iff.mp ha
    obtain ⟨a, rfl⟩ := un32 h1
    obtain ⟨b, rfl⟩ := un32 h2
    exact ⟨[a, b], rfl, rfl, fun _ => rfl⟩
  · obtain ⟨a, b, rfl⟩ := li2 hl
    have ha : (Km540Neutral.isUnsigned32 a && Km540Neutral.isUnsigned32 b) = true := ha
    obtain ⟨h1, h2⟩ := Bool.and_eq_true_iff.mp ha
    obtain ⟨a, rfl⟩ := un32 h1
    obtain ⟨b, rfl⟩ := un32 h2
    exact ⟨[a, b], rfl, rfl, fun _ => rfl⟩
  · obtain rfl := li0 hl
    exact ⟨[], rfl, rfl, fun _ => rfl⟩
  · obtain rfl := li0 hl
    exact ⟨[], rfl, rfl, fun _ => rfl⟩
theorem shape_some {p : Int} {n k : Nat} (h : PyKm540.shape p = some (n, k)) : ∃ d : Nat, p = (d : Int) ∧ d ≤ 26 ∧ n = need d ∧ k = 0 := by
  have hp : 0 ≤ p ∧ p ≤ 26 := by
    refine Classical.byContradiction fun z => ?_
    unfold PyKm540.shape at h
    iterate 27 rw [if_neg (by omega)] at h
    cases h
  obtain ⟨d, rfl⟩ : ∃ d : Nat, p = (d : Int) := ⟨p.toNat, by omega⟩
  have key : ∀ d, d < 27 → PyKm540.shape ((d : Nat) : Int) = some (need d, 0) := by decide +kernel
  rw [key d (by omega)] at h
  injection h with h
  injection h with h1 h2
  exact ⟨d, rfl, by omega, h1.symm, h2.symm⟩
/-- the calls still to come, and what they answer from a state -/
def Rest (st : Km540.State) (rest tail : List Int) : Prop := ∃ (fuel : Nat) (cs : List (List (List Int))), PyFlat.calls PyKm540.shape fuel rest = some cs ∧ (∀ c ∈ cs, Km540Neutral.asked1 (PyKm540.whole c) = true) ∧
  tail = PyFlat.told (PyFlat.played Km540Neutral.step st (cs.map PyKm540.whole))
theorem Rest.end_ {st : Km540.State} {tail : List Int} (h : Rest st [] tail) : tail = [] := by
  obtain ⟨f, cs, e, _, t⟩ := h
  unfold PyFlat.calls at e
  cases e
  exact t
theorem Rest.more {st : Km540.State} {p : Int} {r tail : List Int} (h : Rest st (p :: r) tail) : ∃ (d : Nat) (ns : List Nat) (r' tail' : List Int), p = (d : Int) ∧ d ≤ 26 ∧ ns.length = need d ∧ r = castI ns ++ r' ∧
    tail = ((out st (deedCall d ns)).2.length : Int) :: ((out st (deedCall d ns)).2 ++ tail') ∧ Rest (out st (deedCall d ns)).1 r' tail' := by
  obtain ⟨f, cs, e, al, t⟩ := h
  cases f with
  | zero => unfold PyFlat.calls at e; cases e
  | succ f =>
    unfold PyFlat.calls at e
    cases ec : PyFlat.call PyKm540.shape (p :: r) with
    | none => rw [ec] at e; cases e
    | some ct =>
      obtain ⟨c, u⟩ := ct
      rw [ec] at e
      dsimp only at e
      cases er : PyFlat.calls PyKm540.shape f u with
      | none => rw [er] at e; cases e
      | some cs' =>
        rw [er] at e
        cases e
        unfold PyFlat.call at ec
        dsimp only at ec
        cases es : PyKm540.shape p with
        | none => rw [es] at ec; cases ec
        | some nk =>
          obtain ⟨n, k⟩ := nk
          obtain ⟨d, rfl, hd, rfl, rfl⟩ := shape_some es
          rw [es] at ec
          dsimp only at ec
          by_cases z : r.length < need d
          · rw [if_pos z] at ec; cases ec
          · rw [if_neg z] at ec
            unfold PyFlat.rows at ec
            cases ec
            obtain ⟨ns, e1, e2, e3⟩ := one_call d hd (r.take (need d)) (by rw [List.length_take]; omega) (al _ List.mem_cons_self)
            refine ⟨d, ns, r.drop (need d), _, rfl, hd, e2, ?_, ?_, ⟨f, cs', er, fun c hc => al c (List.mem_cons_of_mem _ hc), rfl⟩⟩
            · rw [← e1, List.take_append_drop]
            · rw [t, List.map_cons]
              show PyFlat.told ((Km540Neutral.step st (PyKm540.whole [(d : Int) :: r.take (need d)])).2 :: PyFlat.played Km540Neutral.step (Km540Neutral.step st (PyKm540.whole [(d : Int) :: r.take (need d)])).1 (cs'.map PyKm540.whole)) = _
              rw [e3]
              rfl
theorem rest_start {l : List Int} (h : PyKm540.answers_asked l = true) : Rest none l (PyKm540.answers l) ∧ (PyKm540.answers l).length ≤ 10000000 := by
  unfold PyKm540.answers_asked at h
  cases e : PyFlat.calls PyKm540.shape l.length l with
  | none => rw [e] at h; cases h
  | some raw =>
    rw [e] at h
    simp only [Bool.and_eq_true] at h
    obtain ⟨⟨⟨_, _⟩, ha⟩, hs⟩ := h
    unfold Km540Neutral.asked at ha
    simp only [Bool.and_eq_true] at ha
    refine ⟨⟨l.length, raw, e, fun c hc => List.all_eq_true.mp ha.2.2 _ (List.mem_map_of_mem hc), ?_⟩, of_decide_eq_true hs⟩
    unfold PyKm540.answers PyKm540.calls
    rw [e]
    rfl
/-! ### answered -/
/-- the two tables of the module -/
structure Tabs (P : Program) (w : World) (K : PySem.W.Frag) (mg : Str → Option Value) (base : Heap) (CI CH : Addr) (a : Addr) (kvs : List (Int × V)) (b : Addr) (nvs : List (Int × V)) : Prop where
  ga : ∃ u, mg "DEEDS" = some u ∧ RelV (.ref a) u
  ta : KTab K a kvs
  deeds : ∀ n : Nat, n ≤ 26 → (13 ≤ n ∧ n ≤ 24 ∧ tabV kvs (n : Int) = none) ∨ ∃ f, tabV kvs (n : Int) = some (.ref f) ∧ Held P w K mg base 4 f (spDeed K CH CI n (need n))
  gb : ∃ u, mg "NUMBERS" = some u ∧ RelV (.ref b) u
  tb : KTab K b nvs
  nums : ∀ n : Nat, n ≤ 26 → (tabV nvs (n : Int)).getD (.int 0) = .int (need n : Int)
theorem held_mono {P : Program} {w : World} {K : PySem.W.Frag} {mg : Str → Option Value} {base : Heap} {j k : Nat} {f : Addr} {sp : Sp} (h : Held P w K mg base j f sp) (l : j ≤ k) : Held P w K mg base k f sp := by
  obtain ⟨fd, ps, F, kp, b⟩ := h
  exact ⟨fd, ps, F.mono l, kp, b⟩
theorem step_none (c : Km540.Call) (h : ∀ a b, c ≠ .create a b) : Km540.step none c = (none, Km540.error (-11)) := by
  cases c with
  | create a b => exact absurd rfl (h a b)
  | _ => rfl
theorem deed_not {n : Nat} {ns : List Nat} (h : 0 < n) : ∀ a b, deedCall n ns ≠ .create a b := by
  intro a b e
  unfold deedCall at e
  split at e
  · omega
  all_goals cases e
theorem out_none {n : Nat} {ns : List Nat} (h : 0 < n) : out none (deedCall n ns) = (none, [-11]) := by
  unfold out
  rw [step_none _ (deed_not h)]
  rfl
theorem tAnd_if {t u : TT} {σ : L2.St} {H : Hp} {Q : Bool → Hp → Prop} (c1 c2 : Bool) (h1 : ∀ Q : Bool → Hp → Prop, Q c1 H → t σ H Q) (h2 : ∀ Q : Bool → Hp → Prop, Q c2 H → u σ H Q) (h : Q (c1 && c2) H) : tAnd t u σ H Q :=
  tAnd_of c1 h1 (fun e => h2 _ (by rw [e, Bool.true_and] at h; exact h)) (fun e => by rw [e, Bool.false_and] at h; exact h)
abbrev nAns : List Str := ["own", "deed", "numbers", "do_it"]
theorem scAns : FnScope nAns ["own", "deed", "numbers"] (defScope (topS 46)) := ⟨rfl, rfl, rfl, by decide +kernel, rfl, by decide +kernel, by decide +kernel⟩
def spAnswered (K : PySem.W.Frag) (CH CI : Addr) : Sp := fun vs H Q _ => ∃ (own nb : Addr) (st : Km540.State) (ns : List Nat) (F : List Addr) (n : Nat), vs = [.ref own, .int (n : Int), .ref nb] ∧ n ≤ 26 ∧ ns.length = need n ∧ StAt CH CI H own st F ∧ SqL K H nb (intsV ns) ∧ Answer CH CI H own st F (deedCall n ns) Q
section
variable {P : Program} {w : World} {K : PySem.W.Frag} {mg : Str → Option Value} {base : Heap} {CI CH ta tb : Addr} {kvs nvs : List (Int × V)}
theorem ok_answered (C : ClsH K CH) (D : DefAt K mg "answered" (topS 46) ["own", "deed", "numbers"]) (X : Tabs P w K mg base CI CH ta kvs tb nvs) (c1 : Cal P w K mg base 6 "twofold" (spTwo K CH CI) []) : Cal P w K mg base 7 "answered" (spAnswered K CH CI) [] := by
  refine D.cal scAns (fun vs H Q E h => ?_) (fun f cdv A outer s H vs Q E hr h => ⟨_,
    pss_cons (ps_if (PW.pt (pw_and (pt_cmp (pc_isN (pe_fld (pv 0) rfl))) (pw_and1 (pt_cmp (pc_gt (pv 1) pe_int))))) (pss_one (ps_ret (pe_lst (pa_cons (pe_un un_neg pe_int) pa_nil)))) pss_nil)
    (pss_cons (ps_if (pt_cmpR (op_in_tab X.ta) (pv 1) (C8.pe_gc (by rfl) X.ga) (by with_unfolding_all rfl))
      (pss_cons (ps_set (i := 3) scAns.nd rfl (.inl rfl) (pe_ix (ix_tab X.ta) (C8.pe_gc (by rfl) X.ga) (pv 1) (fun _ _ => rfl)))
        (pss_one (ps_ret (pe_callH (i := 3) (hr.mono (by decide : 4 ≤ 6)) rfl (.inl rfl) (pa_cons (pv 0) (pa_cons (pv 2) pa_nil)))))) pss_nil)
    (pss_one (ps_ret (C8.pe_c c1 hr (by decide) (by rfl) (pa_cons (pv 0) (pa_cons (pv 1) (pa_cons (pv 2) pa_nil))))))), ?_⟩)
  · obtain ⟨own, nb, st, ns, F, n, rfl, _⟩ := h
    rfl
  · obtain ⟨own, nb, st, ns, F, n, rfl, hn, hl, hs, hnb, A⟩ := h
    obtain ⟨dx, v, hw, hv⟩ : ∃ dx v, H own = some (.ins CH dx (hF v)) ∧ decide (v = V.non) = st.isNone := by
      cases st with
      | none => obtain ⟨dx, h1, rfl⟩ := hs; exact ⟨dx, _, h1, decide_eq_true rfl⟩
      | some s => obtain ⟨dx, i, m, h1, _, rfl⟩ := hs; exact ⟨dx, _, h1, decide_eq_false fun z => nomatch z⟩
    refine tAnd_if st.isNone (decide (0 < n)) (fun Q q => ⟨_, rfl, own, CH, dx, _, _, rfl, hw, C.cl, C.nI, hF_look _, st.isNone, congrArg V.bl hv, q⟩) (fun Q q => ⟨_, rfl, _, _, rfl, rfl, _, congrArg V.bl (dec_lt 0 n), q⟩) ?_
    cases e : (st.isNone && decide (0 < n)) with
    | true =>
      simp only [Bool.and_eq_true, Option.isNone_iff_eq_none, decide_eq_true_eq] at e
      obtain ⟨rfl, n0⟩ := e
      exact iteT ⟨_, rfl, (by show 1 ≤ sizeLine; decide), fun a ha => ans_read A hs (by rw [out_none n0]) (same_upd ha) upd_same ha (by rw [out_none n0]; rfl)⟩
    | false =>
      refine iteF ?_
      have hne : n ≠ 0 → st ≠ none := fun n0 z => by
        subst z
        rw [decide_eq_true (by omega : 0 < n)] at e
        cases e
      rcases X.deeds n hn with ⟨h13, h24, ht⟩ | ⟨f', ht, hh⟩
      · obtain ⟨s', rfl⟩ := some_of (hne (by omega))
        refine ⟨_, rfl, (n : Int), rfl, rfl, false, congrArg V.bl (by rw [ht]; rfl), ?_⟩
        exact iteF ⟨_, rfl, _, rfl, _, rfl, own, nb, s', ns, F, n, rfl, h13, h24, hl, hs, hnb, A⟩
      · refine ⟨_, rfl, (n : Int), rfl, rfl, true, congrArg V.bl (by rw [ht]; rfl), ?_⟩
        exact iteT ⟨_, rfl, (n : Int), .ref f', rfl, rfl, ht, f', _, rfl, hh, _, rfl, _, rfl, own, nb, st, ns, F, rfl, hl, hs, hnb, hne, A⟩
end
end TC
/-! The walks, 17: answers. -/
namespace TC
open PySem PySem.Spec PyProof.Rows L2
open TCM (Tv valF SesOk)
open Km540 (Session possiblePairs)
theorem InstAt.updL {CI : Addr} {H : Hp} {i fo : Addr} {s : Session} {m : IA} {l l' : List V} (h : InstAt CI H i s m) (hf : H fo = some (.lst l)) (nf : fo ∉ m.fp i) : InstAt CI (upd H fo (.lst l')) i s m := by
  simp only [IA.fp, List.mem_cons, List.not_mem_nil, or_false, not_or] at nf
  obtain ⟨n1, n2, n3, n4, n5, n6⟩ := nf
  refine ⟨?_, ?_, ?_, ?_, ?_, ?_, ?_, h.d1, h.d2, h.d3, h.d4, h.ok⟩
  · rw [upd_ne (Ne.symm n1)]; exact h.ins
  · rw [upd_ne (ne_of h.cnt hf (fun z => nomatch z))]; exact h.cnt
  · rw [upd_ne (Ne.symm n2)]; exact h.pos
  · rw [upd_ne (Ne.symm n3)]; exact h.val
  · rw [upd_ne (Ne.symm n4)]; exact h.cod
  · rw [upd_ne (Ne.symm n5)]; exact h.xco
  · rw [upd_ne (Ne.symm n6)]; exact h.yco
theorem StAt.updL {CH CI : Addr} {H : Hp} {own fo : Addr} {st : Km540.State} {F : List Addr} {l l' : List V} (h : StAt CH CI H own st F) (hf : H fo = some (.lst l)) (nf : fo ∉ F) : StAt CH CI (upd H fo (.lst l')) own st F := by
  cases st with
  | none =>
    obtain ⟨dx, h1, rfl⟩ := h
    exact ⟨dx, by rw [upd_ne (fun e => nf (List.mem_singleton.mpr e.symm))]; exact h1, rfl⟩
  | some s =>
    obtain ⟨dx, i, m, h1, h2, rfl⟩ := h
    exact ⟨dx, i, m, by rw [upd_ne (fun e => nf (by rw [e]; exact List.mem_cons_self))]; exact h1, h2.updL hf (fun z => nf (List.mem_cons_of_mem _ z)), rfl⟩
theorem cut_mid (pre : List Int) (d : Int) (ns : List Nat) (r : List Int) {lo hi : Int} (hlo : lo = ((pre.length + 1 : Nat) : Int)) (hhi : hi = ((pre.length + 1 + ns.length : Nat) : Int)) :
    cutV ((pre ++ d :: (castI ns ++ r)).map V.int) (some lo) (some hi) = intsV ns := by
  subst hlo hhi
  have hlen : ((pre ++ d :: (castI ns ++ r)).map V.int).length = pre.length + 1 + ns.length + r.length := by
    simp only [castI, List.length_map, List.length_append, List.length_cons]
    omega
  have e : (pre ++ d :: (castI ns ++ r)).map V.int = (pre ++ [d]).map V.int ++ (intsV ns ++ r.map V.int) := by
    rw [← castI_V]
    simp
  unfold cutV
  rw [HT.sIx_nat, HT.sIx_nat, hlen, e]
  have e1 : min (pre.length + 1) (pre.length + 1 + ns.length + r.length) = ((pre ++ [d]).map V.int).length := by
    simp only [List.length_map, List.length_append, List.length_singleton]
    omega
  have e2 : min (pre.length + 1 + ns.length) (pre.length + 1 + ns.length + r.length) - min (pre.length + 1) (pre.length + 1 + ns.length + r.length) = (intsV ns).length := by
    rw [intsV_len]
    omega
  rw [e2, e1, List.drop_left', List.take_left']
  all_goals rfl
abbrev nMain : List Str := ["calls", "own", "found", "at", "behind", "told"]
theorem scMain : FnScope nMain ["calls"] (defScope (topS 47)) := ⟨rfl, rfl, rfl, by decide +kernel, rfl, by decide +kernel, by decide +kernel⟩
def spMain (K : PySem.W.Frag) : Sp := fun vs H Q _ => ∃ (a : Addr) (ns : List Int), vs = [.ref a] ∧ SqL K H a (ns.map V.int) ∧ PyKm540.answers_asked ns = true ∧ ns.length ≤ 160 ∧ ∀ (H' : Hp) (p : Addr), H' p = some (.lst ((PyKm540.answers ns).map V.int)) → Q (.ref p) H'
section
variable {P : Program} {w : World} {K : PySem.W.Frag} {mg : Str → Option Value} {base : Heap} {CI CH ta tb : Addr} {kvs nvs : List (Int × V)}
abbrev MkH (P : Program) (w : World) (K : PySem.W.Frag) (mg : Str → Option Value) (base : Heap) (CH : Addr) : Prop := C8.Mak P w K mg base 1 "Holder" CH (spHold CH) []
theorem pe_mk0 {X : Cx} {k j : Nat} {C : Addr} {x : Str} {sp : Sp} {dvs : List V} {p pos : Pos} (c : C8.Mak X.prog X.w X.K X.mg X.base k x C sp dvs) (hr : Room j X.A) (hk : k + 1 ≤ j) (hg : Gl X x) (hdb : (x == ("__debug__" : Str)) = false := by decide) :
    PE X (.Call (.Name x p) [] [] pos) (tMake C sp dvs E0 tNil) := by
  obtain ⟨f, fd, ps, ds, M, F, hm, b, d⟩ := c.ex
  exact pe_make0 M F (hr.mono hk) hg hm b d pass0 hdb
theorem ok_main {f : Addr} {fd : FuncData} (T : Txt mg) (Fn : L2.Fun K "answers" "answers" (topS 47) f fd) (M : MkH P w K mg base CH) (X : Tabs P w K mg base CI CH ta kvs tb nvs) (c1 : Cal P w K mg base 7 "answered" (spAnswered K CH CI) []) : FnOk P w K mg base CX0 8 f fd ["calls"] (spMain K) := by
  refine Fn.ok scMain (fun vs H Q E h => ?_) (fun cdv A outer s H vs Q E hr h => ⟨_,
    pss_cons (ps_set (i := 1) scMain.nd rfl (.inl rfl) (pe_mk0 M hr (by decide) (by rfl)))
    (pss_cons (ps_set (i := 2) scMain.nd rfl (.inl rfl) (pe_lst pa_nil))
    (pss_cons (ps_set (i := 3) scMain.nd rfl (.inl rfl) pe_int)
    (pss_cons (ps_while PassesOwn.never (pt_cmp (pc_lt (pv 3) (pe_callB call_len_seq (by rfl) T.len PySem.boot_len (pa_cons (pv 0) pa_nil))))
      (pss_cons (ps_set (i := 4) scMain.nd rfl (.inl rfl) (pe_op op_add (pe_op op_add (pv 3) pe_int) (pe_kget2 X.tb (C8.pe_gc (by rfl) X.gb) (pe_ix ix_any (pv 0) (pv 3) (fun _ _ => rfl)) pe_int ⟨rfl, rfl, rfl, rfl⟩)))
      (pss_cons (ps_set (i := 5) scMain.nd rfl (.inl rfl) (C8.pe_c c1 hr (Nat.le_refl _) (by rfl) (pa_cons (pv 1) (pa_cons (pe_ix ix_any (pv 0) (pv 3) (fun _ _ => rfl)) (pa_cons (pe_slice sl_list (pv 0) (po_some (pe_op op_add (pv 3) pe_int)) (po_some (pv 4))) pa_nil)))))
      (pss_cons (ps_expr (pe_bm PySem.F.plainAttrs_list PySem.F.slot_list_append PySem.F.type_list_append mt_append (pv 2) (pa_cons (pe_callB call_len_seq (by rfl) T.len PySem.boot_len (pa_cons (pv 5) pa_nil)) pa_nil)))
      (pss_cons (ps_expr (pe_bm PySem.F.plainAttrs_list PySem.F.slot_list_extend PySem.F.type_list_extend mt_extend (pv 2) (pa_cons (pv 5) pa_nil)))
      (pss_one (ps_set (i := 3) scMain.nd rfl (.inl rfl) (pv 4))))))))
    (pss_one (ps_ret (pv 2)))))), ?_⟩)
  · obtain ⟨a, ns, rfl, _⟩ := h
    rfl
  · obtain ⟨a, ns, rfl, hc, hask, hns, q⟩ := h
    obtain ⟨hrest, hshort⟩ := rest_start hask
    intro own di ho hdi hne
    have s1 : Same H (upd (upd H di (.own own)) own (.ins CH di [])) := (same_upd hdi).trans (same_upd (by rw [upd_ne (Ne.symm hne)]; exact ho))
    refine ⟨own, di, rfl, upd_same, rfl, ?_⟩
    have s2 : Same H (upd (upd (upd H di (.own own)) own (.ins CH di [])) own (.ins CH di (hF .non))) := same_new s1 ho
    have hw : (upd (upd (upd H di (.own own)) own (.ins CH di [])) own (.ins CH di (hF .non))) own = some (.ins CH di (hF .non)) := upd_same
    generalize upd (upd (upd H di (.own own)) own (.ins CH di [])) own (.ins CH di (hF .non)) = H1 at s2 hw ⊢
    refine ⟨(by show 0 ≤ sizeLine; decide), fun fo hfo => ?_⟩
    have fow : fo ≠ own := fun e => by rw [e, hw] at hfo; cases hfo
    -- the loop
    let Pv : L2.St → Hp → Prop := fun σ H2 => ∃ (p : Nat) (x4 x5 : Option V) (st : Km540.State) (F : List Addr) (pre rest acc tail : List Int), σ = [some (.ref a), some (.ref own), some (.ref fo), some (.int (p : Int)), x4, x5] ∧ pre.length = p ∧ ns = pre ++ rest ∧ Same H H2 ∧
      StAt CH CI H2 own st F ∧ (∀ b ∈ F, H b = none) ∧ fo ∉ F ∧ H2 fo = some (.lst (acc.map V.int)) ∧ Rest st rest tail ∧ PyKm540.answers ns = acc ++ tail
    have μ0 : ∃ W : Nat → L2.St → Hp → Prop, W = fun m σ H2 => ∃ (p : Nat), m = ns.length - p ∧ p ≤ ns.length ∧ σ[3]? = some (some (.int (p : Int))) ∧ Pv σ H2 := ⟨_, rfl⟩
    obtain ⟨W, hW⟩ := μ0
    refine ⟨W, ⟨ns.length, ?_⟩, ?_⟩
    · rw [hW]
      exact ⟨0, rfl, Nat.zero_le _, rfl, 0, _, _, none, [own], [], ns, [], PyKm540.answers ns, rfl, rfl, rfl, s2.trans (same_upd hfo), ⟨di, by rw [upd_ne (Ne.symm fow)]; exact hw, rfl⟩, fun b hb => by rw [List.mem_singleton.mp hb]; exact ho, fun hb => fow (List.mem_singleton.mp hb), upd_same, hrest, rfl⟩
    · rintro m σ H2 hw2
      rw [hW] at hw2
      obtain ⟨p', hm, hp', hσ3, p, x4, x5, st, F, pre, rest, acc, tail, rfl, hpre, hsplit, s3, hst, hF0, hfF, hfo2, hR, hans⟩ := hw2
      have ep : p' = p := by
        have e : V.int (p : Int) = V.int (p' : Int) := Option.some.inj (Option.some.inj hσ3)
        injection e with e
        omega
      subst ep
      have hc2 := s3.seq hc
      refine ⟨_, rfl, _, rfl, a, _, rfl, .inl hc2, _, _, rfl, rfl, decide (p' < ns.length), congrArg V.bl (by rw [List.length_map]; exact dec_lt p' ns.length), ?_⟩
      cases rest with
      | nil =>
        have e0 : p' = ns.length := by rw [hsplit, List.append_nil]; exact hpre.symm
        rw [decide_eq_false (by omega : ¬ p' < ns.length)]
        refine iteF ?_
        have et := hR.end_
        rw [et, List.append_nil] at hans
        exact ⟨_, rfl, q H2 fo (by rw [hans]; exact hfo2)⟩
      | cons x r =>
        obtain ⟨d, ds, r', tail', rfl, hd, hds, rfl, ht, hR'⟩ := hR.more
        have hlen : ns.length = p' + 1 + ds.length + r'.length := by
          rw [hsplit]
          simp only [castI, List.length_append, List.length_cons, List.length_map]
          omega
        rw [decide_eq_true (by omega : p' < ns.length)]
        have hat : (ns.map V.int)[p']? = some (.int (d : Int)) := by
          rw [hsplit, List.getElem?_map, ← hpre, List.getElem?_append_right (Nat.le_refl _), Nat.sub_self]
          rfl
        refine iteT ⟨fun σ' H' => ∃ m', m' < m ∧ W m' σ' H', fun _ _ h => h, ?_⟩
        refine ⟨_, rfl, _, _, rfl, rfl, rfl, _, rfl, _, rfl, a, p', _, _, rfl, rfl, .inl hc2, hat, (d : Int), rfl, _, (need d : Int), rfl, X.nums d hd, ?_⟩
        refine ⟨_, rfl, _, rfl, _, rfl, a, p', _, _, rfl, rfl, .inl hc2, hat, _, rfl, _, rfl, _, _, rfl, rfl, _, rfl, _, rfl, _, rfl, a, _, rfl, hc2, fun sl hsl => ?_⟩
        have ecut : cutV (ns.map V.int) (some ((p' : Int) + 1)) (some ((p' : Int) + 1 + (need d : Int))) = intsV ds := by
          rw [hsplit]
          exact cut_mid pre d ds r' (by rw [hpre]; omega) (by rw [hpre, hds]; omega)
        rw [ecut]
        have s4 : Same H2 _ := same_upd (o := .lst (intsV ds)) hsl
        have hsl3 : (upd H2 sl (.lst (intsV ds))) sl = some (.lst (intsV ds)) := upd_same
        generalize upd H2 sl (.lst (intsV ds)) = H3 at s4 hsl3 ⊢
        have s03 := s3.trans s4
        have hfo3 := s4 _ _ hfo2
        refine ⟨own, sl, st, ds, F, d, rfl, hd, hds, hst.same s4, SqL.of hsl3, fun H4 F' tl hst4 hk htl hfree => ?_⟩
        generalize out st (deedCall d ds) = res at ht hR' hst4 htl
        have hfo4 : H4 fo = some (.lst (acc.map V.int)) := hk.1 _ _ hfo3 hfF
        have hfF' : fo ∉ F' := fun z => by
          rcases hk.2 fo z with z | z
          · exact hfF z
          · rw [hfo3] at z; cases z
        have ntf : tl ≠ fo := fun e => by
          rcases hfree with z | z
          · rw [e, hfo3] at z; cases z
          · rw [e] at z; exact hfF z
        have s04 : Same H H4 := fun b o hb => hk.1 b o (s03 _ _ hb) (fun z => by rw [hF0 b z] at hb; cases hb)
        have hF0' : ∀ b ∈ F', H b = none := fun b hb => by
          rcases hk.2 b hb with z | z
          · exact hF0 b z
          · exact s03.free z
        have n0 : H fo = none := s2.free hfo
        have hall : (acc ++ (((res.2.length : Nat) : Int) :: res.2)).length ≤ 10000000 := by
          have e := congrArg List.length hans
          rw [ht, List.length_append, List.length_cons, List.length_append] at e
          rw [List.length_append, List.length_cons]
          omega
        rw [List.length_append, List.length_cons] at hall
        refine ⟨_, rfl, .inl ⟨rfl, _, SqL.of hfo4⟩, _, rfl, tl, _, rfl, .inl (SqL.of htl), fo, _, _, rfl, rfl, hfo4, ?_, ?_⟩
        · rw [List.length_map, sizeLine_eq]; omega
        have hfo5 : (upd H4 fo (.lst (acc.map V.int ++ [.int ((res.2.map V.int).length : Int)]))) fo = some (.lst (acc.map V.int ++ [.int ((res.2.map V.int).length : Int)])) := upd_same
        have htl5 : (upd H4 fo (.lst (acc.map V.int ++ [.int ((res.2.map V.int).length : Int)]))) tl = some (.lst (res.2.map V.int)) := by rw [upd_ne ntf]; exact htl
        have hst5 := hst4.updL (l' := acc.map V.int ++ [.int ((res.2.map V.int).length : Int)]) hfo4 hfF'
        have s05 : Same H (upd H4 fo (.lst (acc.map V.int ++ [.int ((res.2.map V.int).length : Int)]))) := same_new s04 n0
        generalize upd H4 fo (.lst (acc.map V.int ++ [.int ((res.2.map V.int).length : Int)])) = H5 at hfo5 htl5 hst5 s05 ⊢
        refine ⟨_, rfl, .inl ⟨rfl, _, SqL.of hfo5⟩, _, rfl, fo, tl, _, _, rfl, rfl, hfo5, htl5, ?_, ?_⟩
        · rw [List.length_append, List.length_map, List.length_map, List.length_singleton, sizeLine_eq]; omega
        refine ⟨_, rfl, ns.length - (p' + 1 + need d), by rw [hm, hds.symm]; omega, ?_⟩
        rw [hW]
        have ei : (p' : Int) + 1 + (need d : Int) = ((p' + 1 + need d : Nat) : Int) := by omega
        refine ⟨p' + 1 + need d, rfl, by rw [← hds]; omega, by rw [← ei]; rfl, p' + 1 + need d, _, _, res.1, F', pre ++ (d : Int) :: castI ds, r', acc ++ (((res.2.length : Nat) : Int) :: res.2), tail', by rw [← ei]; rfl, ?_, ?_, same_new s05 n0, hst5.updL hfo5 hfF', hF0', hfF', ?_, hR', ?_⟩
        · simp only [castI, List.length_append, List.length_cons, List.length_map]
          omega
        · rw [hsplit]; simp
        · rw [upd_same, List.map_append, List.map_cons, List.length_map, List.append_assoc]
          rfl
        · rw [hans, ht]; simp
end
end TC
/-! The walks, 18: what the top has written, and all defs together. -/
namespace TC
open PySem PySem.Spec PyProof.Rows L2
/-- how arguments meet a def's parameters -/
def BindsOf (x qual : Str) (st : Stmt) (ps : List Str) : Prop := ∀ (kV doc pm : Value) (an : Option Addr) (cdv ct : Value) (us : List Value), us.length = ps.length → bindArgs (PySem.W.fnOf x qual (defArgs st) (defBody st) (defScope st) .none kV doc pm an cdv ct) ⟨us, []⟩ = pure (ps.zip us)
section
variable {K : PySem.W.Frag} {h : Heap} {mg : Str → Option Value} {x qual : Str} {st : Stmt} {ps : List Str} {f C : Addr} {od an : Option Addr} {sl : Array (Option Value)} {oc kV dc pm cd ct : Value}
theorem def_mk (X : K.In h) (G : h.Ns mainGlobals mg) (b : BindsOf x x st ps) (a : PySem.W.nsIn K mainGlobals x = some (some (.ref f))) (l : K.lookup f = some ⟨oc, od, .func (PySem.W.fnOf x x (defArgs st) (defBody st) (defScope st) .none kV dc pm an cd ct), sl⟩)
    (c : PySem.W.codeIn K cd x = true) (k : PySem.W.keepIn K (.ref f) = true) : DefAt K mg x st ps := by
  have F := fun_mk (st := st) l c k
  exact ⟨⟨f, _, F, PySem.W.mg_of X G a, F.binds b⟩⟩
theorem met_mk (b : BindsOf x qual st ps) (a : PySem.W.findIn K (.ref C) x = some (some (.ref f))) (i : PySem.W.isFn K (.ref f) = true) (l : K.lookup f = some ⟨oc, od, .func (PySem.W.fnOf x qual (defArgs st) (defBody st) (defScope st) .none kV dc pm an cd ct), sl⟩)
    (c : PySem.W.codeIn K cd qual = true) (k : PySem.W.keepIn K (.ref f) = true) : MetAt K C x qual st ps := by
  have F := fun_mk (st := st) l c k
  exact ⟨⟨f, _, F, ⟨a, i, k⟩, F.binds b⟩⟩
/-- a class's __init__ -/
structure IniAt (K : PySem.W.Frag) (C : Addr) (qual : Str) (st : Stmt) (ps : List Str) : Prop where
  ex : ∃ f fd, Mk K C f ∧ L2.Fun K "__init__" qual st f fd ∧ Binds K fd ps []
theorem ini_mk (b : BindsOf "__init__" qual st ps) (mk : PySem.W.makesIn K C = true) (a : PySem.W.findIn K (.ref C) "__init__" = some (some (.ref f))) (i : PySem.W.isFn K (.ref f) = true) (l : K.lookup f = some ⟨oc, od, .func (PySem.W.fnOf "__init__" qual (defArgs st) (defBody st) (defScope st) .none kV dc pm an cd ct), sl⟩)
    (c : PySem.W.codeIn K cd qual = true) (k : PySem.W.keepIn K (.ref f) = true) (kc : PySem.W.keepIn K (.ref C) = true) : IniAt K C qual st ps := by
  have F := fun_mk (st := st) l c k
  exact ⟨⟨f, _, ⟨mk, a, i, kc⟩, F, F.binds b⟩⟩
/-- answers itself, called from without -/
structure MainAt (K : PySem.W.Frag) (fa : Addr) : Prop where
  ex : ∃ fd : FuncData, L2.Fun K "answers" "answers" (topS 47) fa fd ∧ ∀ (s : Shared) (us : List Value), us.length = (["calls"] : List Str).length → BindsTo s fd ⟨us, []⟩ ((["calls"] : List Str).zip us)
theorem main_mk {fa : Addr} (X : K.In h) (G : h.Ns mainGlobals mg) (hfa : mg "answers" = some (.ref fa)) (a : PySem.W.nsIn K mainGlobals "answers" = some (some (.ref f))) (l : K.lookup f = some ⟨oc, od, .func (PySem.W.fnOf "answers" "answers" (defArgs (topS 47)) (defBody (topS 47)) (defScope (topS 47)) .none kV dc pm an cd ct), sl⟩)
    (c : PySem.W.codeIn K cd "answers" = true) (k : PySem.W.keepIn K (.ref f) = true) : MainAt K fa := by
  have e := hfa.symm.trans (PySem.W.mg_of X G a)
  cases e
  exact ⟨⟨_, fun_mk (st := topS 47) l c k, fun s us hu => match us, hu with | [_], _ => .of_eq rfl⟩⟩
theorem txt_mk {t1 t2 t3 t4 : Tok} (X : K.In h) (G : h.Ns mainGlobals mg) (z1 : PySem.W.nsIn K mainGlobals "range" = some none) (z2 : PySem.W.nsIn K mainGlobals "max" = some none) (z3 : PySem.W.nsIn K mainGlobals "min" = some none) (z4 : PySem.W.nsIn K mainGlobals "len" = some none)
    (z5 : PySem.W.nsIn K mainGlobals "enumerate" = some none) (z6 : PySem.W.nsIn K mainGlobals "all" = some none) (z7 : PySem.W.nsIn K mainGlobals "sum" = some none) (z8 : PySem.W.nsIn K mainGlobals "sorted" = some none) (z9 : PySem.W.nsIn K mainGlobals "list" = some none) (z10 : PySem.W.nsIn K mainGlobals "set" = some none)
    (n1 : PySem.W.nsIn K mainGlobals "MOST_SYMBOLS" = some (some (.int 5 t1))) (n2 : PySem.W.nsIn K mainGlobals "MOST_VALUE" = some (some (.int 9 t2))) (n3 : PySem.W.nsIn K mainGlobals "MOST_MESSAGE" = some (some (.int 4 t3))) (n4 : PySem.W.nsIn K mainGlobals "MOST_LIMIT" = some (some (.int 5 t4))) : Txt mg :=
  ⟨PySem.W.mg_none_of X G z1, PySem.W.mg_none_of X G z2, PySem.W.mg_none_of X G z3, PySem.W.mg_none_of X G z4, PySem.W.mg_none_of X G z5, PySem.W.mg_none_of X G z6, PySem.W.mg_none_of X G z7, PySem.W.mg_none_of X G z8, PySem.W.mg_none_of X G z9, PySem.W.mg_none_of X G z10,
    ⟨_, PySem.W.mg_of X G n1, _, rfl⟩, ⟨_, PySem.W.mg_of X G n2, _, rfl⟩, ⟨_, PySem.W.mg_of X G n3, _, rfl⟩, ⟨_, PySem.W.mg_of X G n4, _, rfl⟩⟩
end
/-! ### the tables -/
def numsK : List (Int × V) := needs.map fun e => ((e.1 : Int), V.int (e.2 : Int))
theorem nums_is : ∀ n : Nat, n < 27 → (tabV numsK (n : Int)).getD (.int 0) = .int (need n : Int) := by
  intro n hn
  rcases (show n = 0 ∨ n = 1 ∨ n = 2 ∨ n = 3 ∨ n = 4 ∨ n = 5 ∨ n = 6 ∨ n = 7 ∨ n = 8 ∨ n = 9 ∨ n = 10 ∨ n = 11 ∨ n = 12 ∨ n = 13 ∨ n = 14 ∨ n = 15 ∨ n = 16 ∨ n = 17 ∨ n = 18 ∨ n = 19 ∨ n = 20 ∨ n = 21 ∨ n = 22 ∨ n = 23 ∨ n = 24 ∨ n = 25 ∨ n = 26 by omega) with e | e | e | e | e | e | e | e | e | e | e | e | e | e | e | e | e | e | e | e | e | e | e | e | e | e | e <;> (subst e; rfl)
theorem tab_mk {K : PySem.W.Frag} {a : Addr} {es : Array DictEntry} {n : Nat} {kvs : List (Int × V)} (s : (a == sysModules) = false) (l : K.lookup a = some ⟨.type "dict", none, .dict es n, #[]⟩) (p : Paired (fun (e : DictEntry) (p : Int × V) => entOk e p.1 p.2) es.toList kvs) : KTab K a kvs := ⟨s, es, n, l, p⟩
def deedsK (f0 f1 f2 f3 f4 f5 f6 f7 f8 f9 f10 f11 f12 f25 f26 : Addr) : List (Int × V) := [(0, .ref f0), (1, .ref f1), (2, .ref f2), (3, .ref f3), (4, .ref f4), (5, .ref f5), (6, .ref f6), (7, .ref f7), (8, .ref f8), (9, .ref f9), (10, .ref f10), (11, .ref f11), (12, .ref f12), (25, .ref f25), (26, .ref f26)]
theorem bn_canonical : BindsOf "canonical" "canonical" (topS 1) ["many", "messages"] := fun _ _ _ _ _ _ us hl => match us, hl with | [_, _], _ => rfl
theorem bn_clash_at : BindsOf "clash_at" "clash_at" (topS 2) ["pairs", "values", "codes", "at"] := fun _ _ _ _ _ _ us hl => match us, hl with | [_, _, _, _], _ => rfl
theorem bn_first_clash : BindsOf "first_clash" "first_clash" (topS 3) ["pairs", "values", "codes"] := fun _ _ _ _ _ _ us hl => match us, hl with | [_, _, _], _ => rfl
theorem bn_is_good : BindsOf "is_good" "is_good" (topS 4) ["pairs", "values", "codes"] := fun _ _ _ _ _ _ us hl => match us, hl with | [_, _, _], _ => rfl
theorem bn_fewest_with : BindsOf "fewest_with" "fewest_with" (topS 5) ["pairs", "values", "code", "many"] := fun _ _ _ _ _ _ us hl => match us, hl with | [_, _, _, _], _ => rfl
theorem bn_fewest_for : BindsOf "fewest_for" "fewest_for" (topS 6) ["pairs", "values", "counts", "messages"] := fun _ _ _ _ _ _ us hl => match us, hl with | [_, _, _, _], _ => rfl
theorem bn_first_codes : BindsOf "first_codes" "first_codes" (topS 7) ["pairs", "values", "counts", "limits"] := fun _ _ _ _ _ _ us hl => match us, hl with | [_, _, _, _], _ => rfl
theorem bn_colours : BindsOf "colours" "colours" (topS 8) ["many", "links"] := fun _ _ _ _ _ _ us hl => match us, hl with | [_, _], _ => rfl
theorem bn_call_create : BindsOf "call_create" "call_create" (topS 16) ["own", "numbers"] := fun _ _ _ _ _ _ us hl => match us, hl with | [_, _], _ => rfl
theorem bn_call_set_possible : BindsOf "call_set_possible" "call_set_possible" (topS 17) ["own", "numbers"] := fun _ _ _ _ _ _ us hl => match us, hl with | [_, _], _ => rfl
theorem bn_call_set_value : BindsOf "call_set_value" "call_set_value" (topS 18) ["own", "numbers"] := fun _ _ _ _ _ _ us hl => match us, hl with | [_, _], _ => rfl
theorem bn_new_message : BindsOf "new_message" "new_message" (topS 19) ["own", "numbers", "source"] := fun _ _ _ _ _ _ us hl => match us, hl with | [_, _, _], _ => rfl
theorem bn_call_set_x_message : BindsOf "call_set_x_message" "call_set_x_message" (topS 20) ["own", "numbers"] := fun _ _ _ _ _ _ us hl => match us, hl with | [_, _], _ => rfl
theorem bn_call_set_y_message : BindsOf "call_set_y_message" "call_set_y_message" (topS 21) ["own", "numbers"] := fun _ _ _ _ _ _ us hl => match us, hl with | [_, _], _ => rfl
theorem bn_call_swap_sources : BindsOf "call_swap_sources" "call_swap_sources" (topS 22) ["own", "numbers"] := fun _ _ _ _ _ _ us hl => match us, hl with | [_, _], _ => rfl
theorem bn_call_list_codes : BindsOf "call_list_codes" "call_list_codes" (topS 23) ["own", "numbers"] := fun _ _ _ _ _ _ us hl => match us, hl with | [_, _], _ => rfl
theorem bn_judged : BindsOf "judged" "judged" (topS 24) ["own", "is_function"] := fun _ _ _ _ _ _ us hl => match us, hl with | [_, _], _ => rfl
theorem bn_conflict : BindsOf "conflict" "conflict" (topS 25) ["own", "is_function"] := fun _ _ _ _ _ _ us hl => match us, hl with | [_, _], _ => rfl
theorem bn_call_is_lossless : BindsOf "call_is_lossless" "call_is_lossless" (topS 26) ["own", "numbers"] := fun _ _ _ _ _ _ us hl => match us, hl with | [_, _], _ => rfl
theorem bn_call_is_function_correct : BindsOf "call_is_function_correct" "call_is_function_correct" (topS 27) ["own", "numbers"] := fun _ _ _ _ _ _ us hl => match us, hl with | [_, _], _ => rfl
theorem bn_call_lossless_conflict : BindsOf "call_lossless_conflict" "call_lossless_conflict" (topS 28) ["own", "numbers"] := fun _ _ _ _ _ _ us hl => match us, hl with | [_, _], _ => rfl
theorem bn_call_function_conflict : BindsOf "call_function_conflict" "call_function_conflict" (topS 29) ["own", "numbers"] := fun _ _ _ _ _ _ us hl => match us, hl with | [_, _], _ => rfl
theorem bn_call_decode : BindsOf "call_decode" "call_decode" (topS 30) ["own", "numbers"] := fun _ _ _ _ _ _ us hl => match us, hl with | [_, _], _ => rfl
theorem bn_call_transmit : BindsOf "call_transmit" "call_transmit" (topS 31) ["own", "numbers"] := fun _ _ _ _ _ _ us hl => match us, hl with | [_, _], _ => rfl
theorem bn_least_now : BindsOf "least_now" "least_now" (topS 32) ["own", "is_function"] := fun _ _ _ _ _ _ us hl => match us, hl with | [_, _], _ => rfl
theorem bn_least_for : BindsOf "least_for" "least_for" (topS 33) ["own", "is_function", "limit"] := fun _ _ _ _ _ _ us hl => match us, hl with | [_, _, _], _ => rfl
theorem bn_told_for : BindsOf "told_for" "told_for" (topS 34) ["own", "is_function", "limit"] := fun _ _ _ _ _ _ us hl => match us, hl with | [_, _, _], _ => rfl
theorem bn_region : BindsOf "region" "region" (topS 35) ["own", "is_function"] := fun _ _ _ _ _ _ us hl => match us, hl with | [_, _], _ => rfl
theorem bn_least_total : BindsOf "least_total" "least_total" (topS 36) ["own", "is_function"] := fun _ _ _ _ _ _ us hl => match us, hl with | [_, _], _ => rfl
theorem bn_codes_for : BindsOf "codes_for" "codes_for" (topS 37) ["own", "is_function", "numbers"] := fun _ _ _ _ _ _ us hl => match us, hl with | [_, _, _], _ => rfl
theorem bn_told_codes : BindsOf "told_codes" "told_codes" (topS 38) ["own", "is_function", "numbers"] := fun _ _ _ _ _ _ us hl => match us, hl with | [_, _, _], _ => rfl
theorem bn_used_codes : BindsOf "used_codes" "used_codes" (topS 39) ["own", "is_function", "numbers"] := fun _ _ _ _ _ _ us hl => match us, hl with | [_, _, _], _ => rfl
theorem bn_linked : BindsOf "linked" "linked" (topS 40) ["pairs", "source"] := fun _ _ _ _ _ _ us hl => match us, hl with | [_, _], _ => rfl
theorem bn_call_side_information_bounds : BindsOf "call_side_information_bounds" "call_side_information_bounds" (topS 41) ["own", "numbers"] := fun _ _ _ _ _ _ us hl => match us, hl with | [_, _], _ => rfl
theorem bn_call_summary : BindsOf "call_summary" "call_summary" (topS 42) ["own", "numbers"] := fun _ _ _ _ _ _ us hl => match us, hl with | [_, _], _ => rfl
theorem bn_twofold : BindsOf "twofold" "twofold" (topS 45) ["own", "deed", "numbers"] := fun _ _ _ _ _ _ us hl => match us, hl with | [_, _, _], _ => rfl
theorem bn_answered : BindsOf "answered" "answered" (topS 46) ["own", "deed", "numbers"] := fun _ _ _ _ _ _ us hl => match us, hl with | [_, _, _], _ => rfl
theorem bm_has : BindsOf "has" "Instance.has" (topM 1) ["self", "x", "y"] := fun _ _ _ _ _ _ us hl => match us, hl with | [_, _, _], _ => rfl
theorem bm_pairs : BindsOf "pairs" "Instance.pairs" (topM 2) ["self"] := fun _ _ _ _ _ _ us hl => match us, hl with | [_], _ => rfl
theorem bm_value : BindsOf "value" "Instance.value" (topM 3) ["self", "pair"] := fun _ _ _ _ _ _ us hl => match us, hl with | [_, _], _ => rfl
theorem bm_told : BindsOf "told" "Instance.told" (topM 4) ["self", "is_function"] := fun _ _ _ _ _ _ us hl => match us, hl with | [_, _], _ => rfl
theorem bm_decoded : BindsOf "decoded" "Instance.decoded" (topM 5) ["self", "x_message", "y_message"] := fun _ _ _ _ _ _ us hl => match us, hl with | [_, _, _], _ => rfl
theorem bm_swap : BindsOf "swap" "Instance.swap" (topM 6) ["self"] := fun _ _ _ _ _ _ us hl => match us, hl with | [_], _ => rfl
theorem bm_init : BindsOf "__init__" "Instance.__init__" (topM 0) ["self", "x_count", "y_count"] := fun _ _ _ _ _ _ us hl => match us, hl with | [_, _, _], _ => rfl
theorem bm_hold : BindsOf "__init__" "Holder.__init__" (inClass (topS 15) 0) ["self"] := fun _ _ _ _ _ _ us hl => match us, hl with | [_], _ => rfl
/-- all that the end finds in what the top has written -/
structure All (K : PySem.W.Frag) (mg : Str → Option Value) (CI CH : Addr) : Prop where
  T : Txt mg
  cI : ClsI K CI
  cH : ClsH K CH
  gI : mg "Instance" = some (.ref CI)
  gH : mg "Holder" = some (.ref CH)
  iI : IniAt K CI "Instance.__init__" (topM 0) ["self", "x_count", "y_count"]
  iH : IniAt K CH "Holder.__init__" (inClass (topS 15) 0) ["self"]
  d_canonical : DefAt K mg "canonical" (topS 1) ["many", "messages"]
  d_clash_at : DefAt K mg "clash_at" (topS 2) ["pairs", "values", "codes", "at"]
  d_first_clash : DefAt K mg "first_clash" (topS 3) ["pairs", "values", "codes"]
  d_is_good : DefAt K mg "is_good" (topS 4) ["pairs", "values", "codes"]
  d_fewest_with : DefAt K mg "fewest_with" (topS 5) ["pairs", "values", "code", "many"]
  d_fewest_for : DefAt K mg "fewest_for" (topS 6) ["pairs", "values", "counts", "messages"]
  d_first_codes : DefAt K mg "first_codes" (topS 7) ["pairs", "values", "counts", "limits"]
  d_colours : DefAt K mg "colours" (topS 8) ["many", "links"]
  d_call_create : DefAt K mg "call_create" (topS 16) ["own", "numbers"]
  d_call_set_possible : DefAt K mg "call_set_possible" (topS 17) ["own", "numbers"]
  d_call_set_value : DefAt K mg "call_set_value" (topS 18) ["own", "numbers"]
  d_new_message : DefAt K mg "new_message" (topS 19) ["own", "numbers", "source"]
  d_call_set_x_message : DefAt K mg "call_set_x_message" (topS 20) ["own", "numbers"]
  d_call_set_y_message : DefAt K mg "call_set_y_message" (topS 21) ["own", "numbers"]
  d_call_swap_sources : DefAt K mg "call_swap_sources" (topS 22) ["own", "numbers"]
  d_call_list_codes : DefAt K mg "call_list_codes" (topS 23) ["own", "numbers"]
  d_judged : DefAt K mg "judged" (topS 24) ["own", "is_function"]
  d_conflict : DefAt K mg "conflict" (topS 25) ["own", "is_function"]
  d_call_is_lossless : DefAt K mg "call_is_lossless" (topS 26) ["own", "numbers"]
  d_call_is_function_correct : DefAt K mg "call_is_function_correct" (topS 27) ["own", "numbers"]
  d_call_lossless_conflict : DefAt K mg "call_lossless_conflict" (topS 28) ["own", "numbers"]
  d_call_function_conflict : DefAt K mg "call_function_conflict" (topS 29) ["own", "numbers"]
  d_call_decode : DefAt K mg "call_decode" (topS 30) ["own", "numbers"]
  d_call_transmit : DefAt K mg "call_transmit" (topS 31) ["own", "numbers"]
  d_least_now : DefAt K mg "least_now" (topS 32) ["own", "is_function"]
  d_least_for : DefAt K mg "least_for" (topS 33) ["own", "is_function", "limit"]
  d_told_for : DefAt K mg "told_for" (topS 34) ["own", "is_function", "limit"]
  d_region : DefAt K mg "region" (topS 35) ["own", "is_function"]
  d_least_total : DefAt K mg "least_total" (topS 36) ["own", "is_function"]
  d_codes_for : DefAt K mg "codes_for" (topS 37) ["own", "is_function", "numbers"]
  d_told_codes : DefAt K mg "told_codes" (topS 38) ["own", "is_function", "numbers"]
  d_used_codes : DefAt K mg "used_codes" (topS 39) ["own", "is_function", "numbers"]
  d_linked : DefAt K mg "linked" (topS 40) ["pairs", "source"]
  d_call_side_information_bounds : DefAt K mg "call_side_information_bounds" (topS 41) ["own", "numbers"]
  d_call_summary : DefAt K mg "call_summary" (topS 42) ["own", "numbers"]
  d_twofold : DefAt K mg "twofold" (topS 45) ["own", "deed", "numbers"]
  d_answered : DefAt K mg "answered" (topS 46) ["own", "deed", "numbers"]
  m_has : MetAt K CI "has" "Instance.has" (topM 1) ["self", "x", "y"]
  m_pairs : MetAt K CI "pairs" "Instance.pairs" (topM 2) ["self"]
  m_value : MetAt K CI "value" "Instance.value" (topM 3) ["self", "pair"]
  m_told : MetAt K CI "told" "Instance.told" (topM 4) ["self", "is_function"]
  m_decoded : MetAt K CI "decoded" "Instance.decoded" (topM 5) ["self", "x_message", "y_message"]
  m_swap : MetAt K CI "swap" "Instance.swap" (topM 6) ["self"]
section
variable {P : Program} {w : World} {K : PySem.W.Frag} {mg : Str → Option Value} {base : Heap} {CI CH : Addr}
theorem held_at {x : Str} {k : Nat} {sp : Sp} {f : Addr} (c : Cal P w K mg base k x sp []) (g : mg x = some (.ref f)) (h : k ≤ 4) : Held P w K mg base 4 f sp := by
  obtain ⟨f', e, hh⟩ := cal_held c
  have e2 := e.symm.trans g
  cases e2
  exact held_mono hh h
theorem all_ok {fa dD dN f0 f1 f2 f3 f4 f5 f6 f7 f8 f9 f10 f11 f12 f25 f26 : Addr} {fd : FuncData} (A : All K mg CI CH) (F : L2.Fun K "answers" "answers" (topS 47) fa fd) (gD : mg "DEEDS" = some (.ref dD)) (tD : KTab K dD (deedsK f0 f1 f2 f3 f4 f5 f6 f7 f8 f9 f10 f11 f12 f25 f26)) (gN : mg "NUMBERS" = some (.ref dN)) (tN : KTab K dN numsK)
    (g0 : mg "call_create" = some (.ref f0))
    (g1 : mg "call_set_possible" = some (.ref f1))
    (g2 : mg "call_set_value" = some (.ref f2))
    (g3 : mg "call_set_x_message" = some (.ref f3))
    (g4 : mg "call_set_y_message" = some (.ref f4))
    (g5 : mg "call_swap_sources" = some (.ref f5))
    (g6 : mg "call_list_codes" = some (.ref f6))
    (g7 : mg "call_is_lossless" = some (.ref f7))
    (g8 : mg "call_is_function_correct" = some (.ref f8))
    (g9 : mg "call_lossless_conflict" = some (.ref f9))
    (g10 : mg "call_function_conflict" = some (.ref f10))
    (g11 : mg "call_decode" = some (.ref f11))
    (g12 : mg "call_transmit" = some (.ref f12))
    (g25 : mg "call_side_information_bounds" = some (.ref f25))
    (g26 : mg "call_summary" = some (.ref f26)) : FnOk P w K mg base CX0 8 fa fd ["calls"] (spMain K) := by
  have k_canon := ok_canon (P := P) (w := w) (base := base) A.T A.d_canonical
  have k_clash := ok_clash (P := P) (w := w) (base := base) A.T A.d_clash_at
  have k_fclash := ok_firstClash A.T A.d_first_clash k_clash
  have k_good := ok_good (P := P) (w := w) (base := base) A.T A.d_is_good
  have k_with := ok_with A.T A.d_fewest_with k_canon k_good
  have k_for := ok_for A.T A.d_fewest_for k_canon k_with
  have k_first := ok_first A.d_first_codes k_canon k_good
  have k_col := ok_col A.T A.d_colours k_canon
  have k_link := ok_link (P := P) (w := w) (base := base) A.d_linked
  have m_has := ok_has (P := P) (w := w) (mg := mg) (base := base) A.cI A.m_has
  have m_pairs := ok_pairs (P := P) (w := w) (base := base) A.T A.cI A.m_pairs
  have m_value := ok_value (P := P) (w := w) (mg := mg) (base := base) A.cI A.m_value
  have m_told := ok_told A.cI A.m_told m_pairs m_value
  have m_dec := ok_dec A.cI A.m_decoded m_pairs
  have m_swap := ok_swap (P := P) (w := w) (mg := mg) (base := base) A.cI A.m_swap
  have mkI : MkI P w K mg base CI := by
    obtain ⟨f, fd, mk, F, b⟩ := A.iI.ex
    exact ⟨⟨f, fd, _, [], mk, ok_init F A.cI, A.gI, b, .nil⟩⟩
  have mkH : MkH P w K mg base CH := by
    obtain ⟨f, fd, mk, F, b⟩ := A.iH.ex
    exact ⟨⟨f, fd, _, [], mk, ok_hold F A.cH, A.gH, b, .nil⟩⟩
  have k_create := ok_create A.T A.cH mkI A.d_call_create
  have k_setP := ok_setP A.cH A.cI A.d_call_set_possible m_has
  have k_setV := ok_setV A.T A.cH A.cI A.d_call_set_value m_has m_value
  have k_new := ok_new (P := P) (w := w) (base := base) A.T A.cH A.cI A.d_new_message
  have k_setX := ok_setX A.d_call_set_x_message k_new
  have k_setY := ok_setY A.d_call_set_y_message k_new
  have k_swapS := ok_swapS A.cH A.d_call_swap_sources m_swap
  have k_listC := ok_listC (P := P) (w := w) (base := base) A.T A.cI A.cH A.d_call_list_codes
  have k_judged := ok_judged A.cH A.cI A.d_judged k_good m_pairs m_told
  have k_conf := ok_conflict A.T A.cH A.cI A.d_conflict k_fclash m_pairs m_told
  have k_isL := ok_isL A.d_call_is_lossless k_judged
  have k_isF := ok_isF A.d_call_is_function_correct k_judged
  have k_lC := ok_lC A.d_call_lossless_conflict k_conf
  have k_fC := ok_fC A.d_call_function_conflict k_conf
  have k_decode := ok_decode A.T A.cH A.d_call_decode m_dec m_value
  have k_trans := ok_transmit A.cH A.cI A.d_call_transmit m_dec m_value m_has
  have k_now := ok_now A.cH A.cI A.d_least_now k_with m_pairs m_told
  have k_lf := ok_lf A.cH A.cI A.d_least_for k_for m_pairs m_told
  have k_tf := ok_tf A.T A.d_told_for k_lf
  have k_reg := ok_region A.T A.cH A.cI A.d_region k_lf
  have k_tot := ok_total A.T A.cH A.cI A.d_least_total k_lf
  have k_cf := ok_cf A.T A.cH A.cI A.d_codes_for k_first m_pairs m_told
  have k_tc := ok_tc A.T A.cH A.cI A.d_told_codes k_cf
  have k_uc := ok_uc A.T A.cH A.cI A.d_used_codes k_cf
  have k_side := ok_side A.T A.cH A.cI A.d_call_side_information_bounds k_col k_link m_pairs
  have k_sum := ok_sum (P := P) (w := w) (base := base) A.T A.cH A.cI A.d_call_summary
  have k_two := ok_two A.d_twofold k_now k_tf k_reg k_tot k_tc k_uc
  have X : Tabs P w K mg base CI CH dD (deedsK f0 f1 f2 f3 f4 f5 f6 f7 f8 f9 f10 f11 f12 f25 f26) dN numsK := by
    refine ⟨⟨_, gD, rfl⟩, tD, fun n hn => ?_, ⟨_, gN, rfl⟩, tN, fun n hn => nums_is n (by omega)⟩
    rcases (show n = 0 ∨ n = 1 ∨ n = 2 ∨ n = 3 ∨ n = 4 ∨ n = 5 ∨ n = 6 ∨ n = 7 ∨ n = 8 ∨ n = 9 ∨ n = 10 ∨ n = 11 ∨ n = 12 ∨ n = 13 ∨ n = 14 ∨ n = 15 ∨ n = 16 ∨ n = 17 ∨ n = 18 ∨ n = 19 ∨ n = 20 ∨ n = 21 ∨ n = 22 ∨ n = 23 ∨ n = 24 ∨ n = 25 ∨ n = 26 by omega) with e | e | e | e | e | e | e | e | e | e | e | e | e | e | e | e | e | e | e | e | e | e | e | e | e | e | e <;> subst e
    · exact .inr ⟨f0, rfl, held_at k_create g0 (by decide)⟩
    · exact .inr ⟨f1, rfl, held_at k_setP g1 (by decide)⟩
    · exact .inr ⟨f2, rfl, held_at k_setV g2 (by decide)⟩
    · exact .inr ⟨f3, rfl, held_at k_setX g3 (by decide)⟩
    · exact .inr ⟨f4, rfl, held_at k_setY g4 (by decide)⟩
    · exact .inr ⟨f5, rfl, held_at k_swapS g5 (by decide)⟩
    · exact .inr ⟨f6, rfl, held_at k_listC g6 (by decide)⟩
    · exact .inr ⟨f7, rfl, held_at k_isL g7 (by decide)⟩
    · exact .inr ⟨f8, rfl, held_at k_isF g8 (by decide)⟩
    · exact .inr ⟨f9, rfl, held_at k_lC g9 (by decide)⟩
    · exact .inr ⟨f10, rfl, held_at k_fC g10 (by decide)⟩
    · exact .inr ⟨f11, rfl, held_at k_decode g11 (by decide)⟩
    · exact .inr ⟨f12, rfl, held_at k_trans g12 (by decide)⟩
    · exact .inl ⟨by decide, by decide, rfl⟩
    · exact .inl ⟨by decide, by decide, rfl⟩
    · exact .inl ⟨by decide, by decide, rfl⟩
    · exact .inl ⟨by decide, by decide, rfl⟩
    · exact .inl ⟨by decide, by decide, rfl⟩
    · exact .inl ⟨by decide, by decide, rfl⟩
    · exact .inl ⟨by decide, by decide, rfl⟩
    · exact .inl ⟨by decide, by decide, rfl⟩
    · exact .inl ⟨by decide, by decide, rfl⟩
    · exact .inl ⟨by decide, by decide, rfl⟩
    · exact .inl ⟨by decide, by decide, rfl⟩
    · exact .inl ⟨by decide, by decide, rfl⟩
    · exact .inr ⟨f25, rfl, held_at k_side g25 (by decide)⟩
    · exact .inr ⟨f26, rfl, held_at k_sum g26 (by decide)⟩
  exact ok_main A.T F mkH X (ok_answered A.cH A.d_answered X k_two)
end
/-! ### step by step, for the end -/
section
variable {R : Prop} {K : PySem.W.Frag} {h : Heap} {mg : Str → Option Value} {x qual n : Str} {st : Stmt} {ps : List Str} {f C : Addr} {od an : Option Addr} {sl : Array (Option Value)} {oc kV dc pm cd ct : Value}
theorem def_to (X : K.In h) (G : h.Ns mainGlobals mg) (b : BindsOf x x st ps) (a : PySem.W.nsIn K mainGlobals x = some (some (.ref f))) (l : K.lookup f = some ⟨oc, od, .func (PySem.W.fnOf x x (defArgs st) (defBody st) (defScope st) .none kV dc pm an cd ct), sl⟩)
    (c : PySem.W.codeIn K cd x = true) (k : PySem.W.keepIn K (.ref f) = true) (r : DefAt K mg x st ps → R) : R := r (def_mk X G b a l c k)
theorem is_to {v : Value} (_ : K.In h) (x : Str) (a : PySem.W.nsIn K mainGlobals x = some (some v)) (r : PySem.W.nsIn K mainGlobals x = some (some v) → R) : R := r a
theorem met_to (_ : PySem.W.nsIn K mainGlobals n = some (some (.ref C))) (b : BindsOf x qual st ps) (a : PySem.W.findIn K (.ref C) x = some (some (.ref f))) (i : PySem.W.isFn K (.ref f) = true) (l : K.lookup f = some ⟨oc, od, .func (PySem.W.fnOf x qual (defArgs st) (defBody st) (defScope st) .none kV dc pm an cd ct), sl⟩)
    (c : PySem.W.codeIn K cd qual = true) (k : PySem.W.keepIn K (.ref f) = true) (r : MetAt K C x qual st ps → R) : R := r (met_mk b a i l c k)
theorem ini_to (_ : PySem.W.nsIn K mainGlobals n = some (some (.ref C))) (b : BindsOf "__init__" qual st ps) (mk : PySem.W.makesIn K C = true) (a : PySem.W.findIn K (.ref C) "__init__" = some (some (.ref f))) (i : PySem.W.isFn K (.ref f) = true) (l : K.lookup f = some ⟨oc, od, .func (PySem.W.fnOf "__init__" qual (defArgs st) (defBody st) (defScope st) .none kV dc pm an cd ct), sl⟩)
    (c : PySem.W.codeIn K cd qual = true) (k : PySem.W.keepIn K (.ref f) = true) (kc : PySem.W.keepIn K (.ref C) = true) (r : IniAt K C qual st ps → R) : R := r (ini_mk b mk a i l c k kc)
theorem cls_to (_ : PySem.W.nsIn K mainGlobals n = some (some (.ref C))) (pg : PySem.W.plainGet K C Str.empty = true) (hd : PySem.W.hasDictIn K C = true) (po : PySem.W.plainOver K C = true) (sa : PySem.W.findIn K (.ref C) "__setattr__" = some (some (.builtin "object.__setattr__"))) (r : Cls K C → R) : R := r ⟨pg, hd, po, sa⟩
theorem no_to (_ : PySem.W.nsIn K mainGlobals n = some (some (.ref C))) (x : Str) (a : PySem.W.findIn K (.ref C) x = some none) (r : NoAttr K C x → R) : R := r a
theorem main_to {fa : Addr} (X : K.In h) (G : h.Ns mainGlobals mg) (hfa : mg "answers" = some (.ref fa)) (a : PySem.W.nsIn K mainGlobals "answers" = some (some (.ref f))) (l : K.lookup f = some ⟨oc, od, .func (PySem.W.fnOf "answers" "answers" (defArgs (topS 47)) (defBody (topS 47)) (defScope (topS 47)) .none kV dc pm an cd ct), sl⟩)
    (c : PySem.W.codeIn K cd "answers" = true) (k : PySem.W.keepIn K (.ref f) = true) (r : MainAt K fa → R) : R := r (main_mk X G hfa a l c k)
theorem txt_to {t1 t2 t3 t4 : Tok} (X : K.In h) (G : h.Ns mainGlobals mg) (z1 : PySem.W.nsIn K mainGlobals "range" = some none) (z2 : PySem.W.nsIn K mainGlobals "max" = some none) (z3 : PySem.W.nsIn K mainGlobals "min" = some none) (z4 : PySem.W.nsIn K mainGlobals "len" = some none)
    (z5 : PySem.W.nsIn K mainGlobals "enumerate" = some none) (z6 : PySem.W.nsIn K mainGlobals "all" = some none) (z7 : PySem.W.nsIn K mainGlobals "sum" = some none) (z8 : PySem.W.nsIn K mainGlobals "sorted" = some none) (z9 : PySem.W.nsIn K mainGlobals "list" = some none) (z10 : PySem.W.nsIn K mainGlobals "set" = some none)
    (n1 : PySem.W.nsIn K mainGlobals "MOST_SYMBOLS" = some (some (.int 5 t1))) (n2 : PySem.W.nsIn K mainGlobals "MOST_VALUE" = some (some (.int 9 t2))) (n3 : PySem.W.nsIn K mainGlobals "MOST_MESSAGE" = some (some (.int 4 t3))) (n4 : PySem.W.nsIn K mainGlobals "MOST_LIMIT" = some (some (.int 5 t4))) (r : Txt mg → R) : R :=
  r (txt_mk X G z1 z2 z3 z4 z5 z6 z7 z8 z9 z10 n1 n2 n3 n4)
theorem tabN_to {dN : Addr} {es : Array DictEntry} {m : Nat} (_ : PySem.W.nsIn K mainGlobals "NUMBERS" = some (some (.ref dN))) (s : (dN == sysModules) = false) (l : K.lookup dN = some ⟨.type "dict", none, .dict es m, #[]⟩) (p : Paired (fun (e : DictEntry) (p : Int × V) => entOk e p.1 p.2) es.toList numsK) (r : KTab K dN numsK → R) : R := r (tab_mk s l p)
theorem tabD_to {dD f0 f1 f2 f3 f4 f5 f6 f7 f8 f9 f10 f11 f12 f25 f26 : Addr} {es : Array DictEntry} {m : Nat} (_ : PySem.W.nsIn K mainGlobals "DEEDS" = some (some (.ref dD))) (_ : PySem.W.nsIn K mainGlobals "call_create" = some (some (.ref f0))) (_ : PySem.W.nsIn K mainGlobals "call_set_possible" = some (some (.ref f1))) (_ : PySem.W.nsIn K mainGlobals "call_set_value" = some (some (.ref f2))) (_ : PySem.W.nsIn K mainGlobals "call_set_x_message" = some (some (.ref f3))) (_ : PySem.W.nsIn K mainGlobals "call_set_y_message" = some (some (.ref f4))) (_ : PySem.W.nsIn K mainGlobals "call_swap_sources" = some (some (.ref f5))) (_ : PySem.W.nsIn K mainGlobals "call_list_codes" = some (some (.ref f6))) (_ : PySem.W.nsIn K mainGlobals "call_is_lossless" = some (some (.ref f7))) (_ : PySem.W.nsIn K mainGlobals "call_is_function_correct" = some (some (.ref f8))) (_ : PySem.W.nsIn K mainGlobals "call_lossless_conflict" = some (some (.ref f9))) (_ : PySem.W.nsIn K mainGlobals "call_function_conflict" = some (some (.ref f10))) (_ : PySem.W.nsIn K mainGlobals "call_decode" = some (some (.ref f11))) (_ : PySem.W.nsIn K mainGlobals "call_transmit" = some (some (.ref f12))) (_ : PySem.W.nsIn K mainGlobals "call_side_information_bounds" = some (some (.ref f25))) (_ : PySem.W.nsIn K mainGlobals "call_summary" = some (some (.ref f26)))
    (s : (dD == sysModules) = false) (l : K.lookup dD = some ⟨.type "dict", none, .dict es m, #[]⟩) (p : Paired (fun (e : DictEntry) (p : Int × V) => entOk e p.1 p.2) es.toList (deedsK f0 f1 f2 f3 f4 f5 f6 f7 f8 f9 f10 f11 f12 f25 f26)) (r : KTab K dD (deedsK f0 f1 f2 f3 f4 f5 f6 f7 f8 f9 f10 f11 f12 f25 f26) → R) : R := r (tab_mk s l p)
theorem fin {P : Program} {w : World} {fa CI CH dD dN f0 f1 f2 f3 f4 f5 f6 f7 f8 f9 f10 f11 f12 f25 f26 : Addr} (X : K.In h) (G : h.Ns mainGlobals mg) (FA : MainAt K fa) (A : All K mg CI CH) (aD : PySem.W.nsIn K mainGlobals "DEEDS" = some (some (.ref dD))) (tD : KTab K dD (deedsK f0 f1 f2 f3 f4 f5 f6 f7 f8 f9 f10 f11 f12 f25 f26)) (aN : PySem.W.nsIn K mainGlobals "NUMBERS" = some (some (.ref dN))) (tN : KTab K dN numsK)
    (a0 : PySem.W.nsIn K mainGlobals "call_create" = some (some (.ref f0)))
    (a1 : PySem.W.nsIn K mainGlobals "call_set_possible" = some (some (.ref f1)))
    (a2 : PySem.W.nsIn K mainGlobals "call_set_value" = some (some (.ref f2)))
    (a3 : PySem.W.nsIn K mainGlobals "call_set_x_message" = some (some (.ref f3)))
    (a4 : PySem.W.nsIn K mainGlobals "call_set_y_message" = some (some (.ref f4)))
    (a5 : PySem.W.nsIn K mainGlobals "call_swap_sources" = some (some (.ref f5)))
    (a6 : PySem.W.nsIn K mainGlobals "call_list_codes" = some (some (.ref f6)))
    (a7 : PySem.W.nsIn K mainGlobals "call_is_lossless" = some (some (.ref f7)))
    (a8 : PySem.W.nsIn K mainGlobals "call_is_function_correct" = some (some (.ref f8)))
    (a9 : PySem.W.nsIn K mainGlobals "call_lossless_conflict" = some (some (.ref f9)))
    (a10 : PySem.W.nsIn K mainGlobals "call_function_conflict" = some (some (.ref f10)))
    (a11 : PySem.W.nsIn K mainGlobals "call_decode" = some (some (.ref f11)))
    (a12 : PySem.W.nsIn K mainGlobals "call_transmit" = some (some (.ref f12)))
    (a25 : PySem.W.nsIn K mainGlobals "call_side_information_bounds" = some (some (.ref f25)))
    (a26 : PySem.W.nsIn K mainGlobals "call_summary" = some (some (.ref f26))) :
    ∃ fd : FuncData, (∀ (s : Shared) (us : List Value), us.length = (["calls"] : List Str).length → BindsTo s fd ⟨us, []⟩ ((["calls"] : List Str).zip us)) ∧ ∀ base : Heap, K.In base → base.Ns mainGlobals mg → FnOk P w K mg base CX0 8 fa fd ["calls"] (spMain K) := by
  obtain ⟨fd, F, hb⟩ := FA.ex
  exact ⟨fd, hb, fun base _ _ => all_ok A F (PySem.W.mg_of X G aD) tD (PySem.W.mg_of X G aN) tN (PySem.W.mg_of X G a0) (PySem.W.mg_of X G a1) (PySem.W.mg_of X G a2) (PySem.W.mg_of X G a3) (PySem.W.mg_of X G a4) (PySem.W.mg_of X G a5) (PySem.W.mg_of X G a6) (PySem.W.mg_of X G a7) (PySem.W.mg_of X G a8) (PySem.W.mg_of X G a9) (PySem.W.mg_of X G a10) (PySem.W.mg_of X G a11) (PySem.W.mg_of X G a12) (PySem.W.mg_of X G a25) (PySem.W.mg_of X G a26)⟩
end
end TC
open PySem PySem.W PyProof.Rows
set_option maxRecDepth 100000 in
set_option maxHeartbeats 8000000 in
theorem PySem.Challenge.cw_twocoders_s01_answers_holds : PySem.Challenge.rw_twocoders_s01_answers.Holds := by
  w_on; k_headS; (case hw => exact ⟨[.list [.int 5]], by decide +kernel, by decide +kernel⟩)
  k_fillS
  refine L2.walk_specK (r := PySem.Challenge.rw_twocoders_s01_answers) (k := 8) (CX := L2.CX0) (ps := ["calls"]) (sp := TC.spMain) (by decide +kernel) rfl rfl ⟨rfl, by decide, by decide⟩ (fun w h Y => PySem.W.kIn_of Y) ?F ?S (fun _ _ _ _ z => z)
  case F =>
    intro w mg fa h Y KX G hmg
    clear Y
    refine' TC.def_to KX G TC.bn_canonical ?a_1 ?l_1 ?c_1 ?k_1 (fun d_canonical => ?_)
    (case a_1 => k_is)
    (case l_1 => k_is)
    (case c_1 => k_is)
    (case k_1 => k_is)
    refine' TC.def_to KX G TC.bn_clash_at ?a_2 ?l_2 ?c_2 ?k_2 (fun d_clash_at => ?_)
    (case a_2 => k_is)
    (case l_2 => k_is)
    (case c_2 => k_is)
    (case k_2 => k_is)
    refine' TC.def_to KX G TC.bn_first_clash ?a_3 ?l_3 ?c_3 ?k_3 (fun d_first_clash => ?_)
    (case a_3 => k_is)
    (case l_3 => k_is)
    (case c_3 => k_is)
    (case k_3 => k_is)
    refine' TC.def_to KX G TC.bn_is_good ?a_4 ?l_4 ?c_4 ?k_4 (fun d_is_good => ?_)
    (case a_4 => k_is)
    (case l_4 => k_is)
    (case c_4 => k_is)
    (case k_4 => k_is)
    refine' TC.def_to KX G TC.bn_fewest_with ?a_5 ?l_5 ?c_5 ?k_5 (fun d_fewest_with => ?_)
    (case a_5 => k_is)
    (case l_5 => k_is)
    (case c_5 => k_is)
    (case k_5 => k_is)
    refine' TC.def_to KX G TC.bn_fewest_for ?a_6 ?l_6 ?c_6 ?k_6 (fun d_fewest_for => ?_)
    (case a_6 => k_is)
    (case l_6 => k_is)
    (case c_6 => k_is)
    (case k_6 => k_is)
    refine' TC.def_to KX G TC.bn_first_codes ?a_7 ?l_7 ?c_7 ?k_7 (fun d_first_codes => ?_)
    (case a_7 => k_is)
    (case l_7 => k_is)
    (case c_7 => k_is)
    (case k_7 => k_is)
    refine' TC.def_to KX G TC.bn_colours ?a_8 ?l_8 ?c_8 ?k_8 (fun d_colours => ?_)
    (case a_8 => k_is)
    (case l_8 => k_is)
    (case c_8 => k_is)
    (case k_8 => k_is)
    refine' TC.def_to KX G TC.bn_call_create ?a_9 ?l_9 ?c_9 ?k_9 (fun d_call_create => ?_)
    (case a_9 => k_is)
    (case l_9 => k_is)
    (case c_9 => k_is)
    (case k_9 => k_is)
    refine' TC.def_to KX G TC.bn_call_set_possible ?a_10 ?l_10 ?c_10 ?k_10 (fun d_call_set_possible => ?_)
    (case a_10 => k_is)
    (case l_10 => k_is)
    (case c_10 => k_is)
    (case k_10 => k_is)
    refine' TC.def_to KX G TC.bn_call_set_value ?a_11 ?l_11 ?c_11 ?k_11 (fun d_call_set_value => ?_)
    (case a_11 => k_is)
    (case l_11 => k_is)
    (case c_11 => k_is)
    (case k_11 => k_is)
    refine' TC.def_to KX G TC.bn_new_message ?a_12 ?l_12 ?c_12 ?k_12 (fun d_new_message => ?_)
    (case a_12 => k_is)
    (case l_12 => k_is)
    (case c_12 => k_is)
    (case k_12 => k_is)
    refine' TC.def_to KX G TC.bn_call_set_x_message ?a_13 ?l_13 ?c_13 ?k_13 (fun d_call_set_x_message => ?_)
    (case a_13 => k_is)
    (case l_13 => k_is)
    (case c_13 => k_is)
    (case k_13 => k_is)
    refine' TC.def_to KX G TC.bn_call_set_y_message ?a_14 ?l_14 ?c_14 ?k_14 (fun d_call_set_y_message => ?_)
    (case a_14 => k_is)
    (case l_14 => k_is)
    (case c_14 => k_is)
    (case k_14 => k_is)
    refine' TC.def_to KX G TC.bn_call_swap_sources ?a_15 ?l_15 ?c_15 ?k_15 (fun d_call_swap_sources => ?_)
    (case a_15 => k_is)
    (case l_15 => k_is)
    (case c_15 => k_is)
    (case k_15 => k_is)
    refine' TC.def_to KX G TC.bn_call_list_codes ?a_16 ?l_16 ?c_16 ?k_16 (fun d_call_list_codes => ?_)
    (case a_16 => k_is)
    (case l_16 => k_is)
    (case c_16 => k_is)
    (case k_16 => k_is)
    refine' TC.def_to KX G TC.bn_judged ?a_17 ?l_17 ?c_17 ?k_17 (fun d_judged => ?_)
    (case a_17 => k_is)
    (case l_17 => k_is)
    (case c_17 => k_is)
    (case k_17 => k_is)
    refine' TC.def_to KX G TC.bn_conflict ?a_18 ?l_18 ?c_18 ?k_18 (fun d_conflict => ?_)
    (case a_18 => k_is)
    (case l_18 => k_is)
    (case c_18 => k_is)
    (case k_18 => k_is)
    refine' TC.def_to KX G TC.bn_call_is_lossless ?a_19 ?l_19 ?c_19 ?k_19 (fun d_call_is_lossless => ?_)
    (case a_19 => k_is)
    (case l_19 => k_is)
    (case c_19 => k_is)
    (case k_19 => k_is)
    refine' TC.def_to KX G TC.bn_call_is_function_correct ?a_20 ?l_20 ?c_20 ?k_20 (fun d_call_is_function_correct => ?_)
    (case a_20 => k_is)
    (case l_20 => k_is)
    (case c_20 => k_is)
    (case k_20 => k_is)
    refine' TC.def_to KX G TC.bn_call_lossless_conflict ?a_21 ?l_21 ?c_21 ?k_21 (fun d_call_lossless_conflict => ?_)
    (case a_21 => k_is)
    (case l_21 => k_is)
    (case c_21 => k_is)
    (case k_21 => k_is)
    refine' TC.def_to KX G TC.bn_call_function_conflict ?a_22 ?l_22 ?c_22 ?k_22 (fun d_call_function_conflict => ?_)
    (case a_22 => k_is)
    (case l_22 => k_is)
    (case c_22 => k_is)
    (case k_22 => k_is)
    refine' TC.def_to KX G TC.bn_call_decode ?a_23 ?l_23 ?c_23 ?k_23 (fun d_call_decode => ?_)
    (case a_23 => k_is)
    (case l_23 => k_is)
    (case c_23 => k_is)
    (case k_23 => k_is)
    refine' TC.def_to KX G TC.bn_call_transmit ?a_24 ?l_24 ?c_24 ?k_24 (fun d_call_transmit => ?_)
    (case a_24 => k_is)
    (case l_24 => k_is)
    (case c_24 => k_is)
    (case k_24 => k_is)
    refine' TC.def_to KX G TC.bn_least_now ?a_25 ?l_25 ?c_25 ?k_25 (fun d_least_now => ?_)
    (case a_25 => k_is)
    (case l_25 => k_is)
    (case c_25 => k_is)
    (case k_25 => k_is)
    refine' TC.def_to KX G TC.bn_least_for ?a_26 ?l_26 ?c_26 ?k_26 (fun d_least_for => ?_)
    (case a_26 => k_is)
    (case l_26 => k_is)
    (case c_26 => k_is)
    (case k_26 => k_is)
    refine' TC.def_to KX G TC.bn_told_for ?a_27 ?l_27 ?c_27 ?k_27 (fun d_told_for => ?_)
    (case a_27 => k_is)
    (case l_27 => k_is)
    (case c_27 => k_is)
    (case k_27 => k_is)
    refine' TC.def_to KX G TC.bn_region ?a_28 ?l_28 ?c_28 ?k_28 (fun d_region => ?_)
    (case a_28 => k_is)
    (case l_28 => k_is)
    (case c_28 => k_is)
    (case k_28 => k_is)
    refine' TC.def_to KX G TC.bn_least_total ?a_29 ?l_29 ?c_29 ?k_29 (fun d_least_total => ?_)
    (case a_29 => k_is)
    (case l_29 => k_is)
    (case c_29 => k_is)
    (case k_29 => k_is)
    refine' TC.def_to KX G TC.bn_codes_for ?a_30 ?l_30 ?c_30 ?k_30 (fun d_codes_for => ?_)
    (case a_30 => k_is)
    (case l_30 => k_is)
    (case c_30 => k_is)
    (case k_30 => k_is)
    refine' TC.def_to KX G TC.bn_told_codes ?a_31 ?l_31 ?c_31 ?k_31 (fun d_told_codes => ?_)
    (case a_31 => k_is)
    (case l_31 => k_is)
    (case c_31 => k_is)
    (case k_31 => k_is)
    refine' TC.def_to KX G TC.bn_used_codes ?a_32 ?l_32 ?c_32 ?k_32 (fun d_used_codes => ?_)
    (case a_32 => k_is)
    (case l_32 => k_is)
    (case c_32 => k_is)
    (case k_32 => k_is)
    refine' TC.def_to KX G TC.bn_linked ?a_33 ?l_33 ?c_33 ?k_33 (fun d_linked => ?_)
    (case a_33 => k_is)
    (case l_33 => k_is)
    (case c_33 => k_is)
    (case k_33 => k_is)
    refine' TC.def_to KX G TC.bn_call_side_information_bounds ?a_34 ?l_34 ?c_34 ?k_34 (fun d_call_side_information_bounds => ?_)
    (case a_34 => k_is)
    (case l_34 => k_is)
    (case c_34 => k_is)
    (case k_34 => k_is)
    refine' TC.def_to KX G TC.bn_call_summary ?a_35 ?l_35 ?c_35 ?k_35 (fun d_call_summary => ?_)
    (case a_35 => k_is)
    (case l_35 => k_is)
    (case c_35 => k_is)
    (case k_35 => k_is)
    refine' TC.def_to KX G TC.bn_twofold ?a_36 ?l_36 ?c_36 ?k_36 (fun d_twofold => ?_)
    (case a_36 => k_is)
    (case l_36 => k_is)
    (case c_36 => k_is)
    (case k_36 => k_is)
    refine' TC.def_to KX G TC.bn_answered ?a_37 ?l_37 ?c_37 ?k_37 (fun d_answered => ?_)
    (case a_37 => k_is)
    (case l_37 => k_is)
    (case c_37 => k_is)
    (case k_37 => k_is)
    refine' TC.main_to KX G hmg ?a_38 ?l_38 ?c_38 ?k_38 (fun fm => ?_)
    (case a_38 => k_is)
    (case l_38 => k_is)
    (case c_38 => k_is)
    (case k_38 => k_is)
    refine' TC.txt_to KX G ?z1_39 ?z2_39 ?z3_39 ?z4_39 ?z5_39 ?z6_39 ?z7_39 ?z8_39 ?z9_39 ?z10_39 ?n1_39 ?n2_39 ?n3_39 ?n4_39 (fun T => ?_)
    (case z1_39 => k_is)
    (case z2_39 => k_is)
    (case z3_39 => k_is)
    (case z4_39 => k_is)
    (case z5_39 => k_is)
    (case z6_39 => k_is)
    (case z7_39 => k_is)
    (case z8_39 => k_is)
    (case z9_39 => k_is)
    (case z10_39 => k_is)
    (case n1_39 => k_is)
    (case n2_39 => k_is)
    (case n3_39 => k_is)
    (case n4_39 => k_is)
    refine' TC.is_to KX "Instance" ?a_40 (fun aI => ?_)
    (case a_40 => k_is)
    refine' TC.is_to KX "Holder" ?a_41 (fun aH => ?_)
    (case a_41 => k_is)
    refine' TC.cls_to aI ?pg_42 ?hd_42 ?po_42 ?sa_42 (fun cI => ?_)
    (case pg_42 => k_is)
    (case hd_42 => k_is)
    (case po_42 => k_is)
    (case sa_42 => k_is)
    refine' TC.cls_to aH ?pg_43 ?hd_43 ?po_43 ?sa_43 (fun cH => ?_)
    (case pg_43 => k_is)
    (case hd_43 => k_is)
    (case po_43 => k_is)
    (case sa_43 => k_is)
    refine' TC.no_to aI "counts" ?a_44 (fun n_counts => ?_)
    (case a_44 => k_is)
    refine' TC.no_to aI "possible" ?a_45 (fun n_possible => ?_)
    (case a_45 => k_is)
    refine' TC.no_to aI "values_of" ?a_46 (fun n_values_of => ?_)
    (case a_46 => k_is)
    refine' TC.no_to aI "codes" ?a_47 (fun n_codes => ?_)
    (case a_47 => k_is)
    refine' TC.no_to aH "instance" ?a_48 (fun n_instance => ?_)
    (case a_48 => k_is)
    refine' TC.ini_to aI TC.bm_init ?mk_49 ?a_49 ?i_49 ?l_49 ?c_49 ?k_49 ?kc_49 (fun iI => ?_)
    (case mk_49 => k_is)
    (case a_49 => k_is)
    (case i_49 => k_is)
    (case l_49 => k_is)
    (case c_49 => k_is)
    (case k_49 => k_is)
    (case kc_49 => k_is)
    refine' TC.ini_to aH TC.bm_hold ?mk_50 ?a_50 ?i_50 ?l_50 ?c_50 ?k_50 ?kc_50 (fun iH => ?_)
    (case mk_50 => k_is)
    (case a_50 => k_is)
    (case i_50 => k_is)
    (case l_50 => k_is)
    (case c_50 => k_is)
    (case k_50 => k_is)
    (case kc_50 => k_is)
    refine' TC.met_to aI TC.bm_has ?a_51 ?i_51 ?l_51 ?c_51 ?k_51 (fun m_has => ?_)
    (case a_51 => k_is)
    (case i_51 => k_is)
    (case l_51 => k_is)
    (case c_51 => k_is)
    (case k_51 => k_is)
    refine' TC.met_to aI TC.bm_pairs ?a_52 ?i_52 ?l_52 ?c_52 ?k_52 (fun m_pairs => ?_)
    (case a_52 => k_is)
    (case i_52 => k_is)
    (case l_52 => k_is)
    (case c_52 => k_is)
    (case k_52 => k_is)
    refine' TC.met_to aI TC.bm_value ?a_53 ?i_53 ?l_53 ?c_53 ?k_53 (fun m_value => ?_)
    (case a_53 => k_is)
    (case i_53 => k_is)
    (case l_53 => k_is)
    (case c_53 => k_is)
    (case k_53 => k_is)
    refine' TC.met_to aI TC.bm_told ?a_54 ?i_54 ?l_54 ?c_54 ?k_54 (fun m_told => ?_)
    (case a_54 => k_is)
    (case i_54 => k_is)
    (case l_54 => k_is)
    (case c_54 => k_is)
    (case k_54 => k_is)
    refine' TC.met_to aI TC.bm_decoded ?a_55 ?i_55 ?l_55 ?c_55 ?k_55 (fun m_decoded => ?_)
    (case a_55 => k_is)
    (case i_55 => k_is)
    (case l_55 => k_is)
    (case c_55 => k_is)
    (case k_55 => k_is)
    refine' TC.met_to aI TC.bm_swap ?a_56 ?i_56 ?l_56 ?c_56 ?k_56 (fun m_swap => ?_)
    (case a_56 => k_is)
    (case i_56 => k_is)
    (case l_56 => k_is)
    (case c_56 => k_is)
    (case k_56 => k_is)
    refine' TC.is_to KX "call_create" ?a_57 (fun a0 => ?_)
    (case a_57 => k_is)
    refine' TC.is_to KX "call_set_possible" ?a_58 (fun a1 => ?_)
    (case a_58 => k_is)
    refine' TC.is_to KX "call_set_value" ?a_59 (fun a2 => ?_)
    (case a_59 => k_is)
    refine' TC.is_to KX "call_set_x_message" ?a_60 (fun a3 => ?_)
    (case a_60 => k_is)
    refine' TC.is_to KX "call_set_y_message" ?a_61 (fun a4 => ?_)
    (case a_61 => k_is)
    refine' TC.is_to KX "call_swap_sources" ?a_62 (fun a5 => ?_)
    (case a_62 => k_is)
    refine' TC.is_to KX "call_list_codes" ?a_63 (fun a6 => ?_)
    (case a_63 => k_is)
    refine' TC.is_to KX "call_is_lossless" ?a_64 (fun a7 => ?_)
    (case a_64 => k_is)
    refine' TC.is_to KX "call_is_function_correct" ?a_65 (fun a8 => ?_)
    (case a_65 => k_is)
    refine' TC.is_to KX "call_lossless_conflict" ?a_66 (fun a9 => ?_)
    (case a_66 => k_is)
    refine' TC.is_to KX "call_function_conflict" ?a_67 (fun a10 => ?_)
    (case a_67 => k_is)
    refine' TC.is_to KX "call_decode" ?a_68 (fun a11 => ?_)
    (case a_68 => k_is)
    refine' TC.is_to KX "call_transmit" ?a_69 (fun a12 => ?_)
    (case a_69 => k_is)
    refine' TC.is_to KX "call_side_information_bounds" ?a_70 (fun a25 => ?_)
    (case a_70 => k_is)
    refine' TC.is_to KX "call_summary" ?a_71 (fun a26 => ?_)
    (case a_71 => k_is)
    refine' TC.is_to KX "DEEDS" ?a_72 (fun aD => ?_)
    (case a_72 => k_is)
    refine' TC.is_to KX "NUMBERS" ?a_73 (fun aN => ?_)
    (case a_73 => k_is)
    refine' TC.tabD_to aD a0 a1 a2 a3 a4 a5 a6 a7 a8 a9 a10 a11 a12 a25 a26 ?s_74 ?l_74 ?p_74 (fun tD => ?_)
    (case s_74 => decide +kernel)
    (case l_74 => k_is)
    (case p_74 => exact .cons ⟨⟨_, rfl⟩, by decide +kernel, rfl⟩ (.cons ⟨⟨_, rfl⟩, by decide +kernel, rfl⟩ (.cons ⟨⟨_, rfl⟩, by decide +kernel, rfl⟩ (.cons ⟨⟨_, rfl⟩, by decide +kernel, rfl⟩ (.cons ⟨⟨_, rfl⟩, by decide +kernel, rfl⟩ (.cons ⟨⟨_, rfl⟩, by decide +kernel, rfl⟩ (.cons ⟨⟨_, rfl⟩, by decide +kernel, rfl⟩ (.cons ⟨⟨_, rfl⟩, by decide +kernel, rfl⟩ (.cons ⟨⟨_, rfl⟩, by decide +kernel, rfl⟩ (.cons ⟨⟨_, rfl⟩, by decide +kernel, rfl⟩ (.cons ⟨⟨_, rfl⟩, by decide +kernel, rfl⟩ (.cons ⟨⟨_, rfl⟩, by decide +kernel, rfl⟩ (.cons ⟨⟨_, rfl⟩, by decide +kernel, rfl⟩ (.cons ⟨⟨_, rfl⟩, by decide +kernel, rfl⟩ (.cons ⟨⟨_, rfl⟩, by decide +kernel, rfl⟩ (.nil))))))))))))))))
    refine' TC.tabN_to aN ?s_75 ?l_75 ?p_75 (fun tN => ?_)
    (case s_75 => decide +kernel)
    (case l_75 => k_is)
    (case p_75 => exact .cons ⟨⟨_, rfl⟩, by decide +kernel, _, rfl⟩ (.cons ⟨⟨_, rfl⟩, by decide +kernel, _, rfl⟩ (.cons ⟨⟨_, rfl⟩, by decide +kernel, _, rfl⟩ (.cons ⟨⟨_, rfl⟩, by decide +kernel, _, rfl⟩ (.cons ⟨⟨_, rfl⟩, by decide +kernel, _, rfl⟩ (.cons ⟨⟨_, rfl⟩, by decide +kernel, _, rfl⟩ (.cons ⟨⟨_, rfl⟩, by decide +kernel, _, rfl⟩ (.cons ⟨⟨_, rfl⟩, by decide +kernel, _, rfl⟩ (.cons ⟨⟨_, rfl⟩, by decide +kernel, _, rfl⟩ (.cons ⟨⟨_, rfl⟩, by decide +kernel, _, rfl⟩ (.cons ⟨⟨_, rfl⟩, by decide +kernel, _, rfl⟩ (.cons ⟨⟨_, rfl⟩, by decide +kernel, _, rfl⟩ (.cons ⟨⟨_, rfl⟩, by decide +kernel, _, rfl⟩ (.nil))))))))))))))
    exact TC.fin KX G fm ⟨T, ⟨cI, n_counts, n_possible, n_values_of, n_codes⟩, ⟨cH, n_instance⟩, PySem.W.mg_of KX G aI, PySem.W.mg_of KX G aH, iI, iH, d_canonical, d_clash_at, d_first_clash, d_is_good, d_fewest_with, d_fewest_for, d_first_codes, d_colours, d_call_create, d_call_set_possible, d_call_set_value, d_new_message, d_call_set_x_message, d_call_set_y_message, d_call_swap_sources, d_call_list_codes, d_judged, d_conflict, d_call_is_lossless, d_call_is_function_correct, d_call_lossless_conflict, d_call_function_conflict, d_call_decode, d_call_transmit, d_least_now, d_least_for, d_told_for, d_region, d_least_total, d_codes_for, d_told_codes, d_used_codes, d_linked, d_call_side_information_bounds, d_call_summary, d_twofold, d_answered, m_has, m_pairs, m_value, m_told, m_decoded, m_swap⟩ aD tD aN tN a0 a1 a2 a3 a4 a5 a6 a7 a8 a9 a10 a11 a12 a25 a26
  case S =>
    intro K H xs a hO hwi hask hx
    cases hx with
    | cons h1 h2 =>
      cases h2
      cases h1 with
      | lst hs ha =>
        have e := L2.ints_dw a.1 _ ha
        subst e
        have q : ((Codec.inLen 0 160 a.1 && a.1.all (Codec.inInt 0 4294967295)) && true) = true := hwi
        rw [Bool.and_eq_true, Bool.and_eq_true] at q
        exact ⟨_, a.1, rfl, hs, hask, (Codec.inNat_iff.mp q.1.1).2, fun H' p hp => .lst (L2.SqL.of hp) (L2.dw_ints _)⟩
