import PyProof.Rows.All
import Wide.All
import OpenK.AllK
import Wide.FinOn
import HandS.ForMost
import HandS.Deep
import HandS.Conv
import HandS.TupAny
import HandS.TupMul
import HandS.IsInst
import HandS.StrMore
import HandS.Flow
import HandS.Defaults
import KE.KDictKeyed
import KE.KeyNested
import KE.KDictDisplayH
import HandS.SortInts
import HandS.Replace
import HandS.Text
import HandS.Strs
import HandS.SetFor
import HandS.ReCall
import KE.SortData
import HandS.Iter
import KE.KDictCopyH
import HandS.TupSets
import HandS.Sort
import PyProof.RangeFor
import PyProof.RangeIter
import KE.KStateDown
import HandS.Base
import HandS.Call
import HandS.Ends
import HandS.More
import HandS.Words
import HandS.WordsExc
import HandS.Head0
import HandS.Head1
import HandS.Head2
import HandS.HeadEnd
import HandS.HeadHook1
import HandS.HeadHook2
import PySem.Challenge.RW_ringorflips_k36_whole_upper_stages_alone
set_option Elab.async false
set_option linter.all false
set_option maxRecDepth 100000
set_option maxHeartbeats 0
set_option autoImplicit false
/-! New tuples, told with their object: it has no dict of its own (so that its methods are found). -/
namespace DL
open PySem L2
/-- a new tuple's object -/
abbrev tobj (its : List Value) : Obj := { cls := .type "tuple", data := .seq its.toArray }
/-- what is wanted of a new tuple of these -/
def NewT (xs : List V) (H : Hp) (Q : VK) : Prop := ∀ (p : Addr) (ob : Obj), H p = none → ob.dict = none → Q (.ref p) (upd H p (.frz ob (.tup xs)))
section
variable {X : Cx} {pins : List (Addr × Obj)} {σ : St} {H : Hp} {s : Shared} {xs : List V} {its : List Value} {Q : VK}
theorem laidT (I : Inv X pins σ H s) (hz : xs.length ≤ sizeLine) (r : Vals xs its) (h : NewT xs H Q) {tk : Nat} : EP X pins σ Q (.ref s.heap.objs.size) { s with heap := s.heap.push (tobj its), toks := tk } := by
  have hf : H s.heap.objs.size = none := I.hok.fresh (Nat.le_refl _)
  refine ⟨.ref s.heap.objs.size, upd H s.heap.objs.size (.frz (tobj its) (.tup xs)), I.laid (t' := tk) (fun b u e => Heap.get?_push_of_some _ e) (Nat.le_refl _) ?_, rfl, h _ _ hf rfl⟩
  exact ⟨Heap.get?_push_size _ rfl, hz, its, r, ⟨_, Heap.get?_push_size _ rfl, rfl, _, rfl⟩⟩
def tTupF (t : TA) : TE := fun σ H Q => t σ H fun xs H1 => xs.length ≤ sizeLine ∧ NewT xs H1 Q
theorem pe_tupF {es : List Expr} {t : TA} {x1 : _} {pos : Pos} (h : PA X es t) : PE X (.Tuple es x1 pos) (tTupF t) := by
  refine ⟨fun pins s σ H Q I hq => ?_⟩
  refine wpAny_Tuple_spliced (thn (h.run pos pins s σ H _ I hq) fun us s1 ⟨xs, H1, I1, r, z, q⟩ => ⟨by rw [← r.length]; exact z, ?_⟩)
  exact laidT I1 z r q
/-- t + u -/
def rCatF (K : PySem.W.Frag) : R2 := fun x y H Q => ∃ a b xs ys, x = .ref a ∧ y = .ref b ∧ SqT K H a xs ∧ SqT K H b ys ∧ xs.length + ys.length ≤ sizeLine ∧
  (xs = [] → Q (.ref b) H) ∧ (xs ≠ [] → ys = [] → Q (.ref a) H) ∧ (xs ≠ [] → ys ≠ [] → NewT (xs ++ ys) H Q)
theorem nil_of {zs : List V} {ws : List Value} (r : Vals zs ws) : ws = [] ↔ zs = [] := by
  cases r with
  | nil => simp
  | cons _ _ => simp
theorem op_catF : L2.OpR X (binaryOp .Add) (rCatF X.K) := by
  intro pins s σ H x y v u Q I rx ry h
  obtain ⟨a, b, xs, ys, rfl, rfl, ha, hb, hz, q0, q1, q2⟩ := h
  cases rx
  cases ry
  obtain ⟨its, r1, p1, _⟩ := I.tuple ha
  obtain ⟨its2, r2, p2, _⟩ := I.tuple hb
  by_cases hx : xs = []
  · subst hx
    cases r1
    exact cat_tup0 p1 p2 ⟨.ref b, H, I, rfl, q0 rfl⟩
  · refine HT.cat_tup p1 p2 (fun z => hx ((nil_of r1).mp z)) (fun z => ⟨.ref a, H, I, rfl, q1 hx ((nil_of r2).mp z)⟩) (fun z => ?_) (by rw [← r1.length, ← r2.length]; exact hz)
    exact laidT I (by rw [List.length_append]; exact hz) (r1.append r2) (q2 hx fun w => z ((nil_of r2).mpr w))
theorem noI_tuple : typeLookup (.type "tuple") (dunderI "add") = pure none := by rw [typeLookup_type, builtinLookup_eq_fast]; kernel_rfl
theorem op_catI : L2.OpR X (inplaceOp .Add) (rCatF X.K) := by
  intro pins s σ H x y v u Q I rx ry h
  obtain ⟨a, b, xs, ys, rfl, rfl, ha, hb, hz, q0, q1, q2⟩ := h
  cases rx
  cases ry
  obtain ⟨its, r1, p1, _⟩ := I.tuple ha
  obtain ⟨its2, r2, p2, _⟩ := I.tuple hb
  obtain ⟨⟨cls, dd, data, sl⟩, ho, hc, n, hd⟩ := id p1
  obtain ⟨⟨cls2, dd2, data2, sl2⟩, ho2, hc2, n2, hd2⟩ := id p2
  simp only at hc hd hc2 hd2
  subst hc hd hc2 hd2
  refine wpAny_inplaceOp_concat ⟨_, ho, rfl⟩ ⟨_, ho2, rfl⟩ noI_tuple noFill_tuple_add seq_tuple_add ?_
  by_cases hx : xs = []
  · subst hx
    cases r1
    exact call_meets PySem.F.slot_tuple_add ⟨_, ho, rfl⟩ PySem.F.entry_tuple_add (PySem.F.args_tuple_add_2 _ _) (PyProof.Rows.tuple_addW0 a b ([] : List Value).toArray its2.toArray n n2 dd dd2 sl sl2 (by simp)) ⟨ho, ho2, ⟨.ref b, H, I, rfl, q0 rfl⟩⟩
  · have n1 : ¬ its.toArray.isEmpty = true := by
      intro z
      simp at z
      exact hx ((nil_of r1).mp z)
    by_cases hy : ys = []
    · subst hy
      cases r2
      exact call_meets PySem.F.slot_tuple_add ⟨_, ho, rfl⟩ PySem.F.entry_tuple_add (PySem.F.args_tuple_add_2 _ _) (PyProof.Rows.tuple_addW1 a b its.toArray ([] : List Value).toArray n n2 dd dd2 sl sl2 n1 (by simp)) ⟨ho, ho2, ⟨.ref a, H, I, rfl, q1 hx rfl⟩⟩
    · have n3 : ¬ its2.toArray.isEmpty = true := by
        intro z
        simp at z
        exact hy ((nil_of r2).mp z)
      refine call_meets PySem.F.slot_tuple_add ⟨_, ho, rfl⟩ PySem.F.entry_tuple_add (PySem.F.args_tuple_add_2 _ _) (PyProof.Rows.tuple_addW2 a b its.toArray its2.toArray n n2 dd dd2 sl sl2 n1 n3 (by rw [List.size_toArray, List.size_toArray, ← r1.length, ← r2.length]; exact hz)) ⟨ho, ho2, ?_⟩
      have e : its.toArray ++ its2.toArray = (its ++ its2).toArray := by simp
      rw [e]
      exact laidT (tk := s.toks) I (by rw [List.length_append]; exact hz) (r1.append r2) (q2 hx hy)
/-- t * k -/
theorem tuple_mulOne (l : Addr) (items : Array Value) (n : Nat) (dd : Option Addr) (sl : Array (Option Value)) (u : Tok) :
    Meets (Builtin.«tuple.__mul__» ⟨[.ref l, .int 1 u], []⟩) (fun _ R s => s.heap.get? l = some { cls := .type "tuple", dict := dd, data := .seq items n, slots := sl } ∧ R (.ok (.ret (.ref l))) s) :=
  .of_wp fun prog w A R s h => by
    obtain ⟨hp, g, d, tk, os⟩ := s
    obtain ⟨hl, h⟩ := h
    have f1 := AutoSeq1.idx_int
    have c0 : (decide ((1 : Int) < -(2 ^ 63)) || decide ((1 : Int) ≥ 2 ^ 63)) = false := by decide
    have c1 : (items.isEmpty || (1 : Int) == 1) = true := by simp
    wp_walk using wpAny_loadPart' hl
    exact ⟨_, rfl, h⟩
def rRepF (K : PySem.W.Frag) : R2 := fun x y H Q => ∃ l k xs, x = .ref l ∧ y = .int k ∧ SqT K H l xs ∧ xs ≠ [] ∧ 1 ≤ k ∧ k ≤ 1000 ∧ xs.length ≤ 1000 ∧ (k = 1 → Q (.ref l) H) ∧ (2 ≤ k → NewT (List.replicate k.toNat xs).flatten H Q)
theorem rep_len {α : Type} (xs : List α) (n : Nat) : (List.replicate n xs).flatten.length = n * xs.length := by
  induction n with
  | zero => simp
  | succ n ih => rw [List.replicate_succ, List.flatten_cons, List.length_append, ih, Nat.succ_mul, Nat.add_comm]
theorem Vals.repF {zs : List V} {ws : List Value} (r : Vals zs ws) : ∀ n : Nat, Vals (List.replicate n zs).flatten (List.replicate n ws).flatten
  | 0 => .nil
  | n + 1 => by
    rw [List.replicate_succ, List.flatten_cons, List.replicate_succ, List.flatten_cons]
    exact r.append (Vals.repF r n)
theorem op_repF : L2.OpR X (binaryOp .Mult) (rRepF X.K) := by
  intro pins s σ H x y v u Q I rx ry h
  obtain ⟨l, k, xs, rfl, rfl, hT, hne, h1, h2, hz, q1, q2⟩ := h
  cases rx
  obtain ⟨t, rfl⟩ := ry
  obtain ⟨its, r, ⟨⟨cls, dd, data, sl⟩, ho, hc, n, hd⟩, hs⟩ := I.tuple hT
  simp only at hc hd
  subst hc hd
  refine wpAny_binaryOp_repeat_ref (T := "tuple") (U := "int") (by decide) ⟨_, ho, rfl⟩ (fun s' => typeIs_int s' k t) noFill_tuple_mul F.fills_int_mul F.slot_int_rmul repeat_tuple F.slot_int_index.lookup ?_
  refine call_meets F.slot_int_rmul (typeIs_int s k t) F.entry_int_rmul (F.args_int_rmul_2 _ _) (int_rmul_tuple k t l its.toArray n dd sl) ⟨ho, rfl, ⟨_, ho, rfl⟩, ?_⟩
  by_cases hk : k = 1
  · subst hk
    exact call_meets F.slot_tuple_mul ⟨_, ho, rfl⟩ F.entry_tuple_mul (F.args_tuple_mul_2 _ _) (tuple_mulOne l its.toArray n dd sl t) ⟨ho, ⟨.ref l, H, I, rfl, q1 rfl⟩⟩
  · have hle := r.length
    have hn : its ≠ [] := fun e => hne ((nil_of r).mp e)
    have hi : its.toArray.isEmpty = false := by
      cases its with
      | nil => exact absurd rfl hn
      | cons a b => rfl
    have hsz0 : its.toArray.size = xs.length := by rw [List.size_toArray, hle]
    have hm : ((its.toArray.size : Nat) : Int) * k ≤ 1000000 := by
      rw [hsz0]
      have a1 : ((xs.length : Nat) : Int) * k ≤ 1000 * k := Int.mul_le_mul_of_nonneg_right (by omega) (by omega)
      omega
    have flen : ∀ n : Nat, n ≤ 1000 → n * xs.length ≤ 1000000 := fun n h => Nat.le_trans (Nat.mul_le_mul h hz) (by decide)
    have hk1 : k.toNat ≤ 1000 := by omega
    have hsl := sizeLine_eq
    have c0 : (decide (k < -(2 ^ 63)) || decide (k ≥ 2 ^ 63)) = false := by
      rw [decide_eq_false (by omega), decide_eq_false (by omega)]
      rfl
    have c1 : (its.toArray.isEmpty || k == 1) = false := by
      rw [hi, Bool.false_or]
      exact beq_eq_false_iff_ne.mpr hk
    have c2 : (decide (k ≤ 0) || its.toArray.isEmpty) = false := by
      rw [hi, Bool.or_false]
      exact decide_eq_false (by omega)
    have c4 : Builtin.Tuple.tupleTooMany (((its.toArray.size : Nat) : Int) * k) = false := by
      unfold Builtin.Tuple.tupleTooMany
      rw [hsl]
      exact decide_eq_false (by omega)
    refine call_meets F.slot_tuple_mul ⟨_, ho, rfl⟩ F.entry_tuple_mul (F.args_tuple_mul_2 _ _) (tuple_mulW l its.toArray n dd sl k t c0 c1 c2 (by omega) c4 ?_) ⟨ho, ?_⟩
    · rw [size_rep, List.size_toArray, rep_len, ← hle, hsl]
      have := flen k.toNat hk1
      omega
    · rw [size_rep]
      refine laidT (tk := s.toks) I ?_ (Vals.repF r k.toNat) (q2 (by omega))
      rw [rep_len, hsl]
      have := flen k.toNat hk1
      omega
/-- t[a:b] -/
def rSlF (K : PySem.W.Frag) : V → Option Int → Option Int → Hp → VK → Prop := fun x lo hi H Q => ∃ a xs, x = .ref a ∧ SqT K H a xs ∧
  (HT.sIx xs.length 0 lo = 0 ∧ HT.sIx xs.length xs.length hi = xs.length → Q (.ref a) H) ∧ (¬ (HT.sIx xs.length 0 lo = 0 ∧ HT.sIx xs.length xs.length hi = xs.length) → NewT (cutV xs lo hi) H Q)
theorem sl_tupF : SlR X (rSlF X.K) := by
  intro pins s σ H x v vl vu lo hi sl Q I rx hs pl pu h
  obtain ⟨a, xs, rfl, hx, q1, q2⟩ := h
  cases rx
  obtain ⟨its, r, ht, hz⟩ := I.tuple hx
  have hlen : its.toArray.size = xs.length := by rw [List.size_toArray]; exact r.length.symm
  refine ⟨"tuple", _, PyProof.Rows.slot_tuple_getitem.lookup, ht.typeIs, ?_⟩
  by_cases hw : HT.sIx xs.length 0 lo = 0 ∧ HT.sIx xs.length xs.length hi = xs.length
  · exact getItem_tuple_whole ht hs pl pu (by rw [hlen]; exact hw) ⟨.ref a, H, I, rfl, q1 hw⟩
  · refine HT.getItem_tuple_cut ht hs pl pu (by rw [hlen]; exact hw) ?_ (by rw [hlen]; exact hz)
    rw [hlen]
    exact laidT (tk := s.toks) I (Nat.le_trans (cutV_length xs lo hi) hz) ((r.drop (HT.sIx xs.length 0 lo)).take (HT.sIx xs.length xs.length hi - HT.sIx xs.length 0 lo)) (q2 hw)
/-- tuple(x) -/
theorem call_tupleF : CallR X (.type "tuple") (fun xs H Q => ∃ p ys, xs = [.ref p] ∧ ((SqL X.K H p ys ∧ NewT ys H Q) ∨ (SqT X.K H p ys ∧ Q (.ref p) H))) := by
  intro pins s σ H xs us Q I r h
  obtain ⟨p, ys, rfl, h⟩ := h
  obtain ⟨u, rfl, rx⟩ := vals1 r
  cases rx
  rcases h with ⟨hs, q⟩ | ⟨hs, q⟩
  · obtain ⟨its, rv, pl, hz⟩ := I.list hs
    refine call_tuple_list pl.isList (fun h' hk => ?_) (by rw [List.size_toArray, ← rv.length]; exact hz)
    have I1 : Inv X pins σ H { s with heap := h' } := I.kept (t' := s.toks) hk
    exact laidT (tk := s.toks) I1 hz rv q
  · obtain ⟨its, rv, pl, hz⟩ := I.tuple hs
    exact PyProof.Rows.call_tuple_tup pl ⟨.ref p, H, I, rfl, q⟩
def tTupRgF (te : St → Hp → (Int → Int → Hp → Prop) → Prop) : TE := fun σ H Q => te σ H fun a b H1 => RgOk a b ∧ NewT (rgV a b) H1 Q
theorem pe_tupRgF {e : Expr} {te : St → Hp → (Int → Int → Hp → Prop) → Prop} {p pos : Pos} (hc : X.calm = true) (hg : Gl X "tuple") (hm : X.mg "tuple" = none) (he : PRg X e te) (na : starEach [e] X.env = (false, eval e X.env) :: starEach [] X.env := by rfl) : PE X (.Call (.Name "tuple" p) [e] [] pos) (tTupRgF te) := by
  refine ⟨fun pins s σ H Q I h => ?_⟩
  refine PyProof.Rows.Call_ (ld_blt I hg hm PyProof.Rows.boot_tuple (PyProof.Rows.callWith_type1 (PyProof.Rows.args_cons (thn (he pins s σ H _ I h) fun x s1 ⟨r, a, b, t, u, v, H1, ex, hr, I1, ok, q⟩ => PyProof.Rows.args_nil ?_) na) na))
  subst ex
  obtain ⟨b1, b2, b3, b4, b5⟩ := ok
  refine call_tuple_range (n := (b - a).toNat) (I1.ok.hd hc) hr (small_one b1 b2 b3 b4) (PyProof.Rows.rangeSize_nat a b) b5 fun h' tk acc hk hi => ?_
  have I2 : Inv X pins σ H1 { s1 with heap := h', toks := tk } := I1.kept hk
  have e := laidT (s := { s1 with heap := h', toks := tk }) (tk := tk) I2 (by rw [rgV_length, sizeLine_eq]; omega) (vals_rg hi) q
  simpa using e
end
end DL

/-! Dicts whose keys are tuples of ints (nested too), over the abstract heap. -/
namespace DL
open PySem L2
/-! ### keys of ints and tuples alone -/
mutual
def pureK : NestedKey → Bool
  | .none => false
  | .num _ => true
  | .text _ => false
  | .tup ks => pureKs ks
def pureKs : List NestedKey → Bool
  | [] => true
  | k :: ks => pureK k && pureKs ks
end
mutual
def khash : NestedKey → Int
  | .none => 0
  | .num i => hashInt i
  | .text _ => 0
  | .tup ks => reduceHash (Builtin.Tuple.tupleHashOf (khashes ks))
def khashes : List NestedKey → List Int
  | [] => []
  | k :: ks => khash k :: khashes ks
end
mutual
theorem khash_eq (w : World) : ∀ k : NestedKey, pureK k = true → k.hash w = khash k
  | .none, h => by simp [pureK] at h
  | .num i, _ => rfl
  | .text _, h => by simp [pureK] at h
  | .tup ks, h => by
    simp only [NestedKey.hash, khash]
    rw [khashes_eq w ks (by simpa [pureK] using h)]
theorem khashes_eq (w : World) : ∀ ks : List NestedKey, pureKs ks = true → NestedKey.hashes w ks = khashes ks
  | [], _ => rfl
  | k :: ks, h => by
    simp only [pureKs, Bool.and_eq_true] at h
    simp only [NestedKey.hashes, khashes]
    rw [khash_eq w k h.1, khashes_eq w ks h.2]
end
mutual
theorem eqv_data : ∀ a b : NestedKey, PyData.eqv a.data b.data = NestedKey.beq a b
  | .none, .none => rfl
  | .num a, .num b => by
    simp only [NestedKey.data, PyData.eqv, NestedKey.beq]
    first | rfl | exact beq_eq_decide
  | .text a, .text b => by
    simp only [NestedKey.data, PyData.eqv, NestedKey.beq]
    first | rfl | exact beq_eq_decide | exact (beq_eq_decide).symm
  | .tup a, .tup b => by
    simp only [NestedKey.data, PyData.eqv, NestedKey.beq]
    exact eqv_datas a b
  | .none, .num _ => by simp [NestedKey.data, PyData.eqv, NestedKey.beq]
  | .none, .text _ => by simp [NestedKey.data, PyData.eqv, NestedKey.beq]
  | .none, .tup _ => by simp [NestedKey.data, PyData.eqv, NestedKey.beq]
  | .num _, .none => by simp [NestedKey.data, PyData.eqv, NestedKey.beq]
  | .num _, .text _ => by simp [NestedKey.data, PyData.eqv, NestedKey.beq]
  | .num _, .tup _ => by simp [NestedKey.data, PyData.eqv, NestedKey.beq]
  | .text _, .none => by simp [NestedKey.data, PyData.eqv, NestedKey.beq]
  | .text _, .num _ => by simp [NestedKey.data, PyData.eqv, NestedKey.beq]
  | .text _, .tup _ => by simp [NestedKey.data, PyData.eqv, NestedKey.beq]
  | .tup _, .none => by simp [NestedKey.data, PyData.eqv, NestedKey.beq]
  | .tup _, .num _ => by simp [NestedKey.data, PyData.eqv, NestedKey.beq]
  | .tup _, .text _ => by simp [NestedKey.data, PyData.eqv, NestedKey.beq]
theorem eqv_datas : ∀ a b : List NestedKey, PyData.eqvAll (NestedKey.datas a) (NestedKey.datas b) = NestedKey.beqAll a b
  | [], [] => rfl
  | a :: as, b :: bs => by
    simp only [NestedKey.datas, PyData.eqvAll, NestedKey.beqAll]
    rw [eqv_data a b, eqv_datas as bs]
  | [], _ :: _ => by simp [NestedKey.datas, PyData.eqvAll, NestedKey.beqAll]
  | _ :: _, [] => by simp [NestedKey.datas, PyData.eqvAll, NestedKey.beqAll]
end

/-! ### the dict as it stands -/
abbrev Ents := List (NestedKey × Addr × Value)
def entK (x : NestedKey × Addr × Value) : DictEntry := ⟨khash x.1, .ref x.2.1, x.2.2⟩
structure DicS (d : Addr) (xs : Ents) (h : Heap) : Prop where
  len : xs.length ≤ sizeLine
  low : (d == sysModules) = false
  pure : ∀ x ∈ xs, pureK x.1 = true
  nodup : (xs.map (·.1)).Nodup
  ob : ∃ o es ep, h.get? d = some o ∧ o.ExactDict ∧ o.data = .dict es ep ∧ es.toList = xs.map entK
def dicO (d : Addr) (xs : Ents) : HO := .ext (DicS d xs)
theorem dicO_ok {P : Program} {w : World} {H : Hp} {h : Heap} {d : Addr} {xs : Ents} (D : DicS d xs h) : ObjOk P w H h d (dicO d xs) := by
  refine ⟨D, ?_, fun h1 h2 D1 k => ?_⟩
  · obtain ⟨o, _, _, e, _⟩ := D.ob
    exact ⟨o, e⟩
  · obtain ⟨o, es, ep, e, r⟩ := D1.ob
    exact ⟨D1.len, D1.low, D1.pure, D1.nodup, o, es, ep, k o e, r⟩
theorem map_ent (P : Program) (w : World) : ∀ {xs : Ents}, (∀ x ∈ xs, pureK x.1 = true) → xs.map entK = xs.map (entryOfKey (nestedKind P w))
  | [], _ => rfl
  | x :: xs, h => by
    rw [List.map_cons, List.map_cons, map_ent P w fun y hy => h y (List.mem_cons_of_mem _ hy)]
    congr 1
    show (⟨khash x.1, .ref x.2.1, x.2.2⟩ : DictEntry) = ⟨x.1.hash w, .ref x.2.1, x.2.2⟩
    rw [khash_eq w x.1 (h x List.mem_cons_self)]
section
variable {X : Cx} {pins : List (Addr × Obj)} {σ : St} {H : Hp} {s : Shared} {d : Addr} {xs : Ents}
theorem dic_of (I : Inv X pins σ H s) (e : Rd H d (dicO d xs)) (keys : ∀ x ∈ xs, (nestedKind X.prog X.w).is s.heap x.1 x.2.1) : s.heap.DictOfH (nestedKind X.prog X.w) d xs := by
  obtain ⟨D, _⟩ := rd_of I.hok e
  obtain ⟨o, es, ep, h1, h2, h3, h4⟩ := D.ob
  exact ⟨o, es, ep, h1, h2, h3, by rw [h4]; exact map_ent X.prog X.w D.pure, keys, D.nodup⟩
theorem dic_low (I : Inv X pins σ H s) (e : Rd H d (dicO d xs)) : (d == sysModules) = false := (rd_of I.hok e).1.low
theorem dic_len (I : Inv X pins σ H s) (e : Rd H d (dicO d xs)) : xs.length ≤ sizeLine := (rd_of I.hok e).1.len
theorem dic_pure (I : Inv X pins σ H s) (e : Rd H d (dicO d xs)) : ∀ x ∈ xs, pureK x.1 = true := (rd_of I.hok e).1.pure
theorem mem_storedH {xs : Ents} {k : NestedKey} {b : Addr} {u : Value} : ∀ x ∈ storedH xs k b u, (∃ y ∈ xs, x.1 = y.1 ∧ x.2.1 = y.2.1) ∨ (x.1 = k ∧ x.2.1 = b) := by
  intro x hx
  unfold storedH at hx
  split at hx
  · obtain ⟨y, hy, rfl⟩ := List.mem_map.mp hx
    refine .inl ⟨y, hy, ?_⟩
    unfold putAt
    split <;> exact ⟨rfl, rfl⟩
  · rcases List.mem_append.mp hx with hx | hx
    · exact .inl ⟨x, hx, rfl, rfl⟩
    · simp at hx
      subst hx
      exact .inr ⟨rfl, rfl⟩
/-- d[k] -/
theorem dic_get {k : NestedKey} {b : Addr} {p : Addr × Value} {Q : Value → Shared → Prop} {A : Around} {E : Value → Shared → Prop} (hu : A.units + 9 < cLine) (I : Inv X pins σ H s) (e : Rd H d (dicO d xs)) (keys : ∀ x ∈ xs, (nestedKind X.prog X.w).is s.heap x.1 x.2.1) (hk : (nestedKind X.prog X.w).is s.heap k b) (hp : atKey xs k = some p)
    (h : ∀ t, Q p.2 { s with toks := t }) : wpAny (model X.prog X.w) A (getItem (.ref d) (.ref b)) Q E s :=
  wpAny_getItem_heap (knd := nestedKind X.prog X.w) (by show A.units + 1 + 8 < cLine; omega) hk (dic_of I e keys) hp (h _)
theorem dic_in {k : NestedKey} {b : Addr} {Q : Value → Shared → Prop} {A : Around} {E : Value → Shared → Prop} (hu : A.units + 9 < cLine) (I : Inv X pins σ H s) (e : Rd H d (dicO d xs)) (keys : ∀ x ∈ xs, (nestedKind X.prog X.w).is s.heap x.1 x.2.1) (hk : (nestedKind X.prog X.w).is s.heap k b)
    (h : ∀ t, Q (.bool (atKey xs k).isSome) { s with toks := t }) : wpAny (model X.prog X.w) A (compareOp .In (.ref b) (.ref d)) Q E s :=
  wpAny_in_heap (knd := nestedKind X.prog X.w) (by show A.units + 1 + 8 < cLine; omega) hk (dic_low I e) (dic_of I e keys) (h _)
theorem dic_notIn {k : NestedKey} {b : Addr} {Q : Value → Shared → Prop} {A : Around} {E : Value → Shared → Prop} (hu : A.units + 9 < cLine) (I : Inv X pins σ H s) (e : Rd H d (dicO d xs)) (keys : ∀ x ∈ xs, (nestedKind X.prog X.w).is s.heap x.1 x.2.1) (hk : (nestedKind X.prog X.w).is s.heap k b)
    (h : ∀ t, Q (.bool (!(atKey xs k).isSome)) { s with toks := t }) : wpAny (model X.prog X.w) A (compareOp .NotIn (.ref b) (.ref d)) Q E s :=
  notIn_keyed (knd := nestedKind X.prog X.w) (by show A.units + 1 + 8 < cLine; omega) hk (dic_low I e) ⟨xs, dic_of I e keys, rfl⟩ (by rw [valueAt_pairsH, Option.isSome_map]; exact h _)
/-- d[k] = v -/
theorem dic_set {k : NestedKey} {b : Addr} {u : Value} {Q : Unit → Shared → Prop} {A : Around} {E : Value → Shared → Prop} (hu : A.units + 9 < cLine) (I : Inv X pins σ H s) (e : H d = some (dicO d xs)) (keys : ∀ x ∈ xs, (nestedKind X.prog X.w).is s.heap x.1 x.2.1) (hk : (nestedKind X.prog X.w).is s.heap k b) (pk : pureK k = true) (hl : xs.length < sizeLine)
    (h : ∀ s', Inv X pins σ (upd H d (dicO d (storedH xs k b u))) s' → Q () s') : wpAny (model X.prog X.w) A (setItem (.ref d) (.ref b) u) Q E s := by
  refine wpAny_setItem_heap (knd := nestedKind X.prog X.w) (hsz := Nat.le_of_lt hl) (by show A.units + 1 + 8 < cLine; omega) hk (dic_of I (.inl e) keys) fun h' dd hs => h _ ?_
  obtain ⟨o, es, ep, h1, h2, h3, h4, _, h6⟩ := dd
  have pu : ∀ x ∈ storedH xs k b u, pureK x.1 = true := fun x hx => by
    rcases mem_storedH x hx with ⟨y, hy, e1, _⟩ | ⟨e1, _⟩
    · rw [e1]; exact dic_pure I (.inl e) y hy
    · rw [e1]; exact pk
  have hlen := storedH_length xs k b u
  exact I.write (x := d) (e := d) (by rw [e]; trivial) (.inl rfl) (fun c q hc z => (hs.2 c hc).trans z) ⟨o, h1⟩ (dicO_ok ⟨by omega, dic_low I (.inl e), pu, h6, o, es, ep, h1, h2, h3, by rw [h4]; exact (map_ent X.prog X.w pu).symm⟩)
/-- {} -/
theorem pe_dnewX {pos : Pos} : PE X (.Dict [] [] pos) (fun _ H Q => ∀ p, H p = none → Q (.ref p) (upd H p (dicO p []))) := ⟨fun pins s σ H Q I h => by
  refine wpAny_Dict_empty ⟨.ref s.heap.objs.size, _, I.laid (a := s.heap.objs.size) (o := dicO s.heap.objs.size []) (t' := s.toks) (fun _ _ q => Heap.get?_push_of_some _ q) (Nat.le_refl _) (dicO_ok ⟨Nat.zero_le _, ?_, fun x hx => by simp at hx, by simp, _, _, _, Heap.get?_push_size _ rfl, ⟨rfl, rfl, rfl⟩, rfl, rfl⟩), rfl, h _ (I.hok.fresh (Nat.le_refl _))⟩
  have := I.big
  exact beq_eq_false_iff_ne.mpr (Nat.ne_of_gt this)⟩
theorem dispH {prog : Program} {w : World} {K : Type} [DecidableEq K] {knd : HeapKind prog w K} {A : Around} {E : Value → Shared → Prop} {s : Shared} {env : Env} {keys : List (Option Expr)} {values : List Expr} {pos : Pos} {pairs : List (Sem Value × Sem Value)} {Q : Value → Shared → Prop} (hu : knd.room A)
    (hshape : (evalEachOpt keys env).zip ((evalEach values env).map fun v => do let x ← v; standAt pos; pure x) = pairs.map fun p => (some p.1, p.2)) (h0 : pairs ≠ []) (hlen : pairs.length ≤ 15)
    (h : wpAny (model prog w) A (evalPairs pairs) (fun vs s1 => ∃ ps, CarriesH knd s1.heap vs ps ∧ s1.heap.DictOfH knd s.heap.objs.size [] ∧
      ∀ h' tk, h'.DictOfH knd s.heap.objs.size (storedAllH [] ps) → Heap.SameBut s.heap.objs.size s1.heap h' → Q (.ref s.heap.objs.size) { s1 with heap := h', toks := tk }) E
      { s with heap := s.heap.push { cls := .type "dict", data := .dict #[] } }) :
    wpAny (model prog w) A (eval (.Dict keys values pos) env) Q E s := by
  rw [arm_eval_Dict, hshape, dictDisplay_pairs pairs h0 (by omega)]
  exact wpAny_bind (wpAny_standAt (wpAny_bind (wpAny_subDictH (knd := knd) (Q := fun d s' => wpAny (model prog w) A (pure (Value.ref d)) Q E s') hu hlen
    (wpAny_mono h (fun vs s1 h1 => by obtain ⟨ps, hc, hm, hq⟩ := h1; exact ⟨ps, hc, hm, fun h' tk a b => wpAny_pure (hq h' tk a b)⟩) fun _ _ e => e))))
/-- {k: v} -/
def tDispX (tk tv : TE) : TE := fun σ H Q => ∀ p, H p = none → tPairs [(tk, tv)] σ (upd H p (dicO p [])) fun ps H2 => H2 p = some (dicO p []) ∧ ∃ k b y, ps = [(.ref b, y)] ∧ pureK k = true ∧
  (∀ (h : Heap) (P : Program) (w : World), HOk P w H2 h → (nestedKind P w).is h k b) ∧ ∀ u, RelV y u → Q (.ref p) (upd H2 p (dicO p [(k, b, u)]))
theorem pe_dispX {k v : Expr} {tk tv : TE} {pos : Pos} (hu : X.A.units + 9 < cLine) (hk : PE X k tk) (hv : PE X v tv) : PE X (.Dict [some k] [v] pos) (tDispX tk tv) := by
  refine ⟨fun pins s σ H Q I h => ?_⟩
  have hn := I.hok.fresh (Nat.le_refl s.heap.objs.size)
  have hbig := I.big
  have new : DicS s.heap.objs.size [] (s.heap.push { cls := .type "dict", data := .dict #[] }) := ⟨Nat.zero_le _, beq_eq_false_iff_ne.mpr (Nat.ne_of_gt hbig), fun x hx => by simp at hx, by simp, _, _, _, Heap.get?_push_size _ rfl, ⟨rfl, rfl, rfl⟩, rfl, rfl⟩
  have I1 := I.laid (a := s.heap.objs.size) (o := dicO s.heap.objs.size []) (h' := s.heap.push { cls := .type "dict", data := .dict #[] }) (t' := s.toks) (fun _ _ q => Heap.get?_push_of_some _ q) (Nat.le_refl _) (dicO_ok new)
  have pp : PPs X pos [some k] [v] [(tk, tv)] := pps_cons hk hv pps_nil
  refine dispH (knd := nestedKind X.prog X.w) (pairs := pairTrees [some k] [v] X.env pos) (by show X.A.units + 8 < cLine; omega) (zip_pairTrees _ _ _ _ rfl rfl) (by simp [pairTrees]) (by simp [pairTrees]) ?_
  refine thn (pp.run pins _ σ _ _ I1 (h _ hn)) fun ws s2 ⟨ps, H2, I2, rel, e, k0, b, y, ep, pk, hk0, q⟩ => ?_
  subst ep
  cases rel with
  | @cons pq w0 _ _ r1 r2 =>
    cases r2
    obtain ⟨wk, wv⟩ := w0
    obtain ⟨r3, r4⟩ := r1
    cases r3
    have hD : s2.heap.DictOfH (nestedKind X.prog X.w) s.heap.objs.size [] := dic_of I2 (.inl e) (fun x hx => by simp at hx)
    refine ⟨[(k0, b, wv)], ⟨rfl, rfl, hk0 _ _ _ I2.hok, trivial⟩, hD, fun h' t dd hs => ?_⟩
    have es : storedAllH [] [(k0, b, wv)] = [(k0, b, wv)] := rfl
    rw [es] at dd
    obtain ⟨o, eo, ep, h1, h2, h3, h4, _, h6⟩ := dd
    have pu : ∀ x ∈ ([(k0, b, wv)] : Ents), pureK x.1 = true := fun x hx => by
      simp at hx
      subst hx
      exact pk
    refine ⟨.ref s.heap.objs.size, _, I2.write (x := s.heap.objs.size) (e := s.heap.objs.size) (by rw [e]; trivial) (.inl rfl) (fun c z hc zz => (hs.2 c hc).trans zz) ⟨o, h1⟩ (dicO_ok ⟨by rw [sizeLine_eq]; simp, dic_low I2 (.inl e), pu, h6, o, eo, ep, h1, h2, h3, by rw [h4]; exact (map_ent X.prog X.w pu).symm⟩), rfl, q wv r4⟩
end
end DL

/-! A layer of data over the layer of heaps: what a piece of syntax does, told over plain data alone. -/
namespace DL
open PySem L2

abbrev D := PyData
abbrev Hid := Addr → Bool
/-- the heap without what is hidden -/
def hid (M : Hid) (H : Hp) : Hp := fun a => if M a = true then none else H a
theorem hid_some {M : Hid} {H : Hp} {a : Addr} {o : HO} : hid M H a = some o ↔ M a = false ∧ H a = some o := by
  unfold hid
  cases M a <;> simp
theorem hid_upd {M : Hid} {H : Hp} {a : Addr} {o : HO} (h : M a = true) : hid M (upd H a o) = hid M H := by
  funext b
  unfold hid
  by_cases e : b = a
  · subst e; rw [if_pos h, if_pos h]
  · rw [upd_ne e]
theorem hid_sub {M : Hid} {H : Hp} : Same (hid M H) H := fun _ _ e => (hid_some.mp e).2
theorem hid_mono {M : Hid} {H H' : Hp} (h : Same H H') : Same (hid M H) (hid M H') := fun a o e => by
  obtain ⟨e1, e2⟩ := hid_some.mp e
  exact hid_some.mpr ⟨e1, h a o e2⟩
/-- all that is tracked stays, but for the pool -/
def SameP (P : Option Addr) (H H' : Hp) : Prop := ∀ a o, P ≠ some a → H a = some o → H' a = some o
theorem SameP.refl {P : Option Addr} {H : Hp} : SameP P H H := fun _ _ _ e => e
theorem SameP.of {P : Option Addr} {H H' : Hp} (h : Same H H') : SameP P H H' := fun a o _ e => h a o e
theorem SameP.trans {P : Option Addr} {H H1 H2 : Hp} (a : SameP P H H1) (b : SameP P H1 H2) : SameP P H H2 := fun c o n e => b c o n (a c o n e)
theorem SameP.hid {P : Option Addr} {M : Hid} {H H' : Hp} (h : SameP P H H') (hp : ∀ p, P = some p → M p = true) : Same (hid M H) (hid M H') := fun a o e => by
  obtain ⟨e1, e2⟩ := hid_some.mp e
  refine hid_some.mpr ⟨e1, h a o (fun q => ?_) e2⟩
  rw [hp a q] at e1
  cases e1

/-! ### dicts: keys are ints, or tuples of ints and such -/
mutual
def kOf : D → NestedKey
  | .int i => .num i
  | .tuple ds => .tup (kOfs ds)
  | _ => .none
def kOfs : List D → List NestedKey
  | [] => []
  | d :: ds => kOf d :: kOfs ds
end
mutual
def pureD : D → Bool
  | .int _ => true
  | .tuple ds => pureDs ds
  | _ => false
def pureDs : List D → Bool
  | [] => true
  | d :: ds => pureD d && pureDs ds
end
mutual
theorem pure_kOf : ∀ d : D, pureD d = true → pureK (kOf d) = true
  | .int _, _ => rfl
  | .tuple ds, h => by
    simp only [kOf, pureK]
    exact pure_kOfs ds (by simpa [pureD] using h)
  | .none, h => by simp [pureD] at h
  | .bool _, h => by simp [pureD] at h
  | .str _, h => by simp [pureD] at h
  | .list _, h => by simp [pureD] at h
  | .dict _, h => by simp [pureD] at h
theorem pure_kOfs : ∀ ds : List D, pureDs ds = true → pureKs (kOfs ds) = true
  | [], _ => rfl
  | d :: ds, h => by
    simp only [pureDs, Bool.and_eq_true] at h
    simp only [kOfs, pureKs, Bool.and_eq_true]
    exact ⟨pure_kOf d h.1, pure_kOfs ds h.2⟩
end
mutual
theorem data_kOf : ∀ d : D, pureD d = true → (kOf d).data = d
  | .int _, _ => rfl
  | .tuple ds, h => by
    simp only [kOf, NestedKey.data]
    rw [data_kOfs ds (by simpa [pureD] using h)]
  | .none, h => by simp [pureD] at h
  | .bool _, h => by simp [pureD] at h
  | .str _, h => by simp [pureD] at h
  | .list _, h => by simp [pureD] at h
  | .dict _, h => by simp [pureD] at h
theorem data_kOfs : ∀ ds : List D, pureDs ds = true → NestedKey.datas (kOfs ds) = ds
  | [], _ => rfl
  | d :: ds, h => by
    simp only [pureDs, Bool.and_eq_true] at h
    simp only [kOfs, NestedKey.datas]
    rw [data_kOf d h.1, data_kOfs ds h.2]
end
/-- a tuple that is a key -/
def tupKey (d : D) : Bool := match d with
  | .tuple ds => pureDs ds && decide ((kOf (.tuple ds)).depth ≤ 8)
  | _ => false
theorem tupKey_pure {d : D} (h : tupKey d = true) : pureD d = true := by
  cases d <;> simp [tupKey] at h
  simpa [pureD] using h.1
theorem tupKey_depth {d : D} (h : tupKey d = true) : (kOf d).depth ≤ 8 := by
  cases d <;> simp [tupKey] at h
  exact h.2
/-! ### values that are data -/
mutual
inductive Dv (K : PySem.W.Frag) (H : Hp) : V → D → Prop
  | non : Dv K H .non .none
  | bl (b : Bool) : Dv K H (.bl b) (.bool b)
  | int (i : Int) : Dv K H (.int i) (.int i)
  | str (x : Str) : Dv K H (.str x) (.str x)
  | lst {a : Addr} {xs : List V} {ds : List D} : H a = some (.lst xs) → DvAll K H xs ds → Dv K H (.ref a) (.list ds)
  | tup {a : Addr} {o : Obj} {xs : List V} {ds : List D} : H a = some (.frz o (.tup xs)) → o.dict = none → DvAll K H xs ds → Dv K H (.ref a) (.tuple ds)
  | dcK {a : Addr} {l : List (Key × V)} {m : List (D × D)} : Rd H a (.dK l) → KvI K H l m → Dv K H (.ref a) (.dict ((.bool false, .none) :: m))
  | dcX {a : Addr} {l : Ents} {m : List (D × D)} : Rd H a (dicO a l) → KvX K H l m → Dv K H (.ref a) (.dict ((.bool true, .none) :: m))
  | rng {a : Addr} {lo hi : Int} : H a = some (.rng lo hi) → Dv K H (.ref a) (.dict [(.int lo, .int hi)])
  | obj {a C dx : Addr} {fs : List (Str × V)} {m : List (D × D)} : H a = some (.ins C dx fs) → KvF K H fs m → Dv K H (.ref a) (.dict ((.str "", .int (C : Nat)) :: m))
inductive DvAll (K : PySem.W.Frag) (H : Hp) : List V → List D → Prop
  | nil : DvAll K H [] []
  | cons {v : V} {vs : List V} {d : D} {ds : List D} : Dv K H v d → DvAll K H vs ds → DvAll K H (v :: vs) (d :: ds)
inductive KvI (K : PySem.W.Frag) (H : Hp) : List (Key × V) → List (D × D) → Prop
  | nil : KvI K H [] []
  | cons {n : Int} {v : V} {d : D} {l : List (Key × V)} {m : List (D × D)} : Dv K H v d → KvI K H l m → KvI K H ((.inl n, v) :: l) ((.int n, d) :: m)
inductive KvX (K : PySem.W.Frag) (H : Hp) : Ents → List (D × D) → Prop
  | nil : KvX K H [] []
  | cons {b : Addr} {u : Value} {kd d : D} {v : V} {l : Ents} {m : List (D × D)} : Dv K H (.ref b) kd → tupKey kd = true → RelV v u → Dv K H v d → KvX K H l m → KvX K H ((kOf kd, b, u) :: l) ((kd, d) :: m)
inductive KvF (K : PySem.W.Frag) (H : Hp) : List (Str × V) → List (D × D) → Prop
  | nil : KvF K H [] []
  | cons {f : Str} {v : V} {d : D} {l : List (Str × V)} {m : List (D × D)} : Dv K H v d → KvF K H l m → KvF K H ((f, v) :: l) ((.str f, d) :: m)
end
variable {K : PySem.W.Frag}
theorem rd_mono {H H' : Hp} {a : Addr} {o : HO} (e : Same H H') (h : Rd H a o) : Rd H' a o := by
  rcases h with h | ⟨ob, h⟩
  · exact .inl (e _ _ h)
  · exact .inr ⟨ob, e _ _ h⟩
theorem same_seqT {H H' : Hp} {a : Addr} {xs : List V} (e : Same H H') (h : SqT K H a xs) : SqT K H' a xs := by
  rcases h with (h | ⟨o, h⟩) | h
  · exact .inl (.inl (e _ _ h))
  · exact .inl (.inr ⟨o, e _ _ h⟩)
  · exact .inr h
mutual
theorem Dv.mono' {H H' : Hp} (s : Same H H') : ∀ {v : V} {d : D}, Dv K H v d → Dv K H' v d
  | _, _, .non => .non
  | _, _, .bl b => .bl b
  | _, _, .int i => .int i
  | _, _, .str x => .str x
  | _, _, .lst e a => .lst (s _ _ e) (DvAll.mono' s a)
  | _, _, .tup e z a => .tup (s _ _ e) z (DvAll.mono' s a)
  | _, _, .dcK e a => .dcK (rd_mono s e) (KvI.mono s a)
  | _, _, .dcX e a => .dcX (rd_mono s e) (KvX.mono s a)
  | _, _, .rng e => .rng (s _ _ e)
  | _, _, .obj e a => .obj (s _ _ e) (KvF.mono s a)
theorem DvAll.mono' {H H' : Hp} (s : Same H H') : ∀ {vs : List V} {ds : List D}, DvAll K H vs ds → DvAll K H' vs ds
  | _, _, .nil => .nil
  | _, _, .cons a b => .cons (Dv.mono' s a) (DvAll.mono' s b)
theorem KvI.mono {H H' : Hp} (s : Same H H') : ∀ {l : List (Key × V)} {m : List (D × D)}, KvI K H l m → KvI K H' l m
  | _, _, .nil => .nil
  | _, _, .cons r t => .cons (Dv.mono' s r) (KvI.mono s t)
theorem KvX.mono {H H' : Hp} (s : Same H H') : ∀ {l : Ents} {m : List (D × D)}, KvX K H l m → KvX K H' l m
  | _, _, .nil => .nil
  | _, _, .cons r k e q t => .cons (Dv.mono' s r) k e (Dv.mono' s q) (KvX.mono s t)
theorem KvF.mono {H H' : Hp} (s : Same H H') : ∀ {l : List (Str × V)} {m : List (D × D)}, KvF K H l m → KvF K H' l m
  | _, _, .nil => .nil
  | _, _, .cons r t => .cons (Dv.mono' s r) (KvF.mono s t)
end
theorem Dv.mono {H H' : Hp} (s : Same H H') (d : D) (v : V) (h : Dv K H v d) : Dv K H' v d := Dv.mono' s h
theorem DvAll.mono {H H' : Hp} (s : Same H H') (ds : List D) (vs : List V) (h : DvAll K H vs ds) : DvAll K H' vs ds := DvAll.mono' s h
/-! without dicts -/
mutual
def noDct : D → Bool
  | .list ds => noDcts ds
  | .tuple ds => noDcts ds
  | .dict _ => false
  | _ => true
def noDcts : List D → Bool
  | [] => true
  | d :: ds => noDct d && noDcts ds
end
/-- data that can be compared -/
def shp (d : D) : Bool := SeqAt.shaped d && noDct d
theorem shp_s {d : D} (h : shp d = true) : SeqAt.shaped d = true := (Bool.and_eq_true_iff.mp h).1
theorem shp_n {d : D} (h : shp d = true) : noDct d = true := (Bool.and_eq_true_iff.mp h).2
mutual
theorem Dv.dp {H : Hp} : ∀ (d : D) (v : V), noDct d = true → Dv K H v d → Dp K H v d
  | .none, _, _, h => by cases h; exact .non
  | .bool b, _, _, h => by cases h; exact .bl b
  | .int i, _, _, h => by cases h; exact .int i
  | .str x, _, _, h => by cases h; exact .str x
  | .list ds, _, n, h => by
    cases h with
    | lst e a => exact .lst (SqL.of e) (DvAll.dp ds _ (by simpa [noDct] using n) a)
  | .tuple ds, _, n, h => by
    cases h with
    | tup e z a => exact .tup (.inl (.inr ⟨_, e⟩)) (DvAll.dp ds _ (by simpa [noDct] using n) a)
  | .dict _, _, n, h => by simp [noDct] at n
theorem DvAll.dp {H : Hp} : ∀ (ds : List D) (vs : List V), noDcts ds = true → DvAll K H vs ds → DpAll K H vs ds
  | [], _, _, h => by cases h; exact .nil
  | d :: ds, _, n, h => by
    simp only [noDcts, Bool.and_eq_true] at n
    cases h with
    | cons a b => exact .cons (Dv.dp d _ n.1 a) (DvAll.dp ds _ n.2 b)
end
theorem DvAll.length {H : Hp} : ∀ {vs : List V} {ds : List D}, DvAll K H vs ds → vs.length = ds.length
  | _, _, .nil => rfl
  | _, _, .cons _ t => by simp [DvAll.length t]
theorem DvAll.get {H : Hp} : ∀ {vs : List V} {ds : List D} (i : Nat) {d : D}, DvAll K H vs ds → ds[i]? = some d → ∃ v, vs[i]? = some v ∧ Dv K H v d
  | _, _, _, _, .nil, e => by simp at e
  | _, _, 0, _, .cons a _, e => by simp at e; subst e; exact ⟨_, rfl, a⟩
  | _, _, i + 1, _, .cons _ t, e => by
    obtain ⟨v, e1, h⟩ := DvAll.get i t (by simpa using e)
    exact ⟨v, by simpa using e1, h⟩
theorem DvAll.get' {H : Hp} : ∀ {vs : List V} {ds : List D} (i : Nat) {v : V}, DvAll K H vs ds → vs[i]? = some v → ∃ d, ds[i]? = some d ∧ Dv K H v d
  | _, _, _, _, .nil, e => by simp at e
  | _, _, 0, _, .cons a _, e => by simp at e; subst e; exact ⟨_, rfl, a⟩
  | _, _, i + 1, _, .cons _ t, e => by
    obtain ⟨v, e1, h⟩ := DvAll.get' i t (by simpa using e)
    exact ⟨v, by simpa using e1, h⟩
theorem DvAll.append {H : Hp} : ∀ {vs ws : List V} {ds es : List D}, DvAll K H vs ds → DvAll K H ws es → DvAll K H (vs ++ ws) (ds ++ es)
  | _, _, _, _, .nil, s => s
  | _, _, _, _, .cons r t, s => .cons r (DvAll.append t s)
theorem DvAll.take {H : Hp} : ∀ {vs : List V} {ds : List D} (n : Nat), DvAll K H vs ds → DvAll K H (vs.take n) (ds.take n)
  | _, _, 0, _ => .nil
  | _, _, _ + 1, .nil => .nil
  | _, _, n + 1, .cons r t => .cons r (DvAll.take n t)
theorem DvAll.drop {H : Hp} : ∀ {vs : List V} {ds : List D} (n : Nat), DvAll K H vs ds → DvAll K H (vs.drop n) (ds.drop n)
  | _, _, 0, r => r
  | _, _, _ + 1, .nil => .nil
  | _, _, n + 1, .cons _ t => DvAll.drop n t
theorem DvAll.set {H : Hp} {v : V} {d : D} (r : Dv K H v d) : ∀ {vs : List V} {ds : List D} (n : Nat), DvAll K H vs ds → DvAll K H (vs.set n v) (ds.set n d)
  | _, _, _, .nil => .nil
  | _, _, 0, .cons _ t => .cons r t
  | _, _, n + 1, .cons q t => .cons q (DvAll.set r n t)
theorem DvAll.eraseIdx {H : Hp} : ∀ {vs : List V} {ds : List D} (n : Nat), DvAll K H vs ds → DvAll K H (vs.eraseIdx n) (ds.eraseIdx n)
  | _, _, _, .nil => .nil
  | _, _, 0, .cons _ t => t
  | _, _, n + 1, .cons q t => .cons q (DvAll.eraseIdx n t)
theorem DvAll.replicate {H : Hp} : ∀ {vs : List V} {ds : List D} (n : Nat), DvAll K H vs ds → DvAll K H (List.replicate n vs).flatten (List.replicate n ds).flatten
  | _, _, 0, _ => .nil
  | _, _, n + 1, h => by
    rw [List.replicate_succ, List.flatten_cons, List.replicate_succ, List.flatten_cons]
    exact h.append (DvAll.replicate n h)
theorem DvAll.reverse {H : Hp} : ∀ {vs : List V} {ds : List D}, DvAll K H vs ds → DvAll K H vs.reverse ds.reverse
  | _, _, .nil => .nil
  | _, _, .cons r t => by
    rw [List.reverse_cons, List.reverse_cons]
    exact (DvAll.reverse t).append (.cons r .nil)
mutual
def flatD : D → Bool
  | .list _ => false
  | .dict _ => false
  | .tuple ds => flatAll ds
  | _ => true
def flatAll : List D → Bool
  | [] => true
  | d :: ds => flatD d && flatAll ds
end
mutual
theorem Dv.flat {H H' : Hp} (s : ∀ a o xs, H a = some (.frz o (.tup xs)) → H' a = some (.frz o (.tup xs))) : ∀ (d : D) (v : V), flatD d = true → Dv K H v d → Dv K H' v d
  | .none, _, _, h => by cases h; exact .non
  | .bool b, _, _, h => by cases h; exact .bl b
  | .int i, _, _, h => by cases h; exact .int i
  | .str x, _, _, h => by cases h; exact .str x
  | .list ds, _, f, h => by simp [flatD] at f
  | .tuple ds, _, f, h => by
    cases h with
    | tup e z a => exact .tup (s _ _ _ e) z (DvAll.flat s ds _ (by simpa [flatD] using f) a)
  | .dict _, _, f, h => by simp [flatD] at f
theorem DvAll.flat {H H' : Hp} (s : ∀ a o xs, H a = some (.frz o (.tup xs)) → H' a = some (.frz o (.tup xs))) : ∀ (ds : List D) (vs : List V), flatAll ds = true → DvAll K H vs ds → DvAll K H' vs ds
  | [], _, _, h => by cases h; exact .nil
  | d :: ds, _, f, h => by
    simp only [flatAll, Bool.and_eq_true] at f
    cases h with
    | cons a b => exact .cons (Dv.flat s d _ f.1 a) (DvAll.flat s ds _ f.2 b)
end

/-! ### the pool of a law -/
/-- at p stands a law's pool -/
def PoolAt (K : PySem.W.Frag) (M : Hid) (H : Hp) (p : Addr) : Prop :=
  ∃ (q : V) (ns : List Int) (i c n s : Int), H p = some (.lst [q, .int i, .int c, .int n, .int s]) ∧ Dv K (hid M H) q (.list (ns.map .int)) ∧ 0 ≤ i ∧ 0 ≤ n ∧ 0 ≤ s ∧ s < 1000003 ∧ ns.length ≤ 1000

/-! ### what the names hold -/
mutual
theorem nis {X : Cx} {pins : List (Addr × Obj)} {σ : St} {P : Program} {w : World} {H : Hp} {h : Heap} (I : HOk P w H h) : ∀ (d : D) (v : V) (u : Value), pureD d = true → Dv K H v d → RelV v u → NestedIs h (kOf d) u
  | .int i, _, _, _, q, r => by
    cases q
    obtain ⟨t, rfl⟩ := r
    exact .int _ _
  | .tuple ds, _, _, p, q, r => by
    cases q with
    | @tup a o xs _ e z q =>
      cases r
      obtain ⟨z, its, r, ob, ho, hc, n, hd⟩ := (show Rd H a (.tup xs) from .inr ⟨o, e⟩).ok I
      exact .tup ho hc hd (by
        have := niss (X := X) (pins := pins) (σ := σ) I ds _ its (by simpa [pureD] using p) q r
        simpa using this)
  | .none, _, _, p, _, _ => by simp [pureD] at p
  | .bool _, _, _, p, _, _ => by simp [pureD] at p
  | .str _, _, _, p, _, _ => by simp [pureD] at p
  | .list _, _, _, p, _, _ => by simp [pureD] at p
  | .dict _, _, _, p, _, _ => by simp [pureD] at p
theorem niss {X : Cx} {pins : List (Addr × Obj)} {σ : St} {P : Program} {w : World} {H : Hp} {h : Heap} (I : HOk P w H h) : ∀ (ds : List D) (vs : List V) (us : List Value), pureDs ds = true → DvAll K H vs ds → Vals vs us → NestedAll h (kOfs ds) us
  | [], _, _, _, q, r => by
    cases q
    cases r
    exact .nil
  | d :: ds, _, _, p, q, r => by
    simp only [pureDs, Bool.and_eq_true] at p
    cases q with
    | cons q1 q2 =>
      cases r with
      | cons r1 r2 => exact .cons (nis (X := X) (pins := pins) (σ := σ) I d _ _ p.1 q1 r1) (niss (X := X) (pins := pins) (σ := σ) I ds _ _ p.2 q2 r2)
end
theorem key_is {P : Program} {w : World} {H : Hp} {h : Heap} {d : D} {b : Addr} (X : Cx) (I : HOk P w H h) (t : tupKey d = true) (q : Dv K H (.ref b) d) : (nestedKind P w).is h (kOf d) b :=
  ⟨nis (X := X) (pins := []) (σ := []) I d _ _ (tupKey_pure t) q rfl, tupKey_depth t⟩
inductive Sl where
  /-- not known -/
  | un
  /-- data that nobody changes -/
  | im (d : D)
  /-- a list of one's own, at a -/
  | ml (a : Addr) (ds : List D)
  /-- a dict of one's own, at a: keys are ints, or (tk) tuples -/
  | md (tk : Bool) (a : Addr) (kvs : List (D × D))
  /-- the pool -/
  | pl
abbrev DEnv := List Sl
/-- the dict at a, its values read in Hv -/
def DctAt (K : PySem.W.Frag) (Hv H : Hp) (tk : Bool) (a : Addr) (kvs : List (D × D)) : Prop :=
  if tk = true then ∃ l, H a = some (dicO a l) ∧ KvX K Hv l kvs else ∃ l, H a = some (.dK l) ∧ KvI K Hv l kvs

/-- .. to be read: it may be locked -/
def DctR (K : PySem.W.Frag) (Hv H : Hp) (tk : Bool) (a : Addr) (kvs : List (D × D)) : Prop :=
  if tk = true then ∃ l, Rd H a (dicO a l) ∧ KvX K Hv l kvs else ∃ l, Rd H a (.dK l) ∧ KvI K Hv l kvs
theorem DctAt.rd {Hv H : Hp} {tk : Bool} {a : Addr} {kvs : List (D × D)} (h : DctAt K Hv H tk a kvs) : DctR K Hv H tk a kvs := by
  unfold DctAt at h
  unfold DctR
  split
  · rename_i c
    rw [if_pos c] at h
    obtain ⟨l, h1, h2⟩ := h
    exact ⟨l, .inl h1, h2⟩
  · rename_i c
    rw [if_neg c] at h
    obtain ⟨l, h1, h2⟩ := h
    exact ⟨l, .inl h1, h2⟩
theorem DctR.mono {Hv Hv' H H' : Hp} {tk : Bool} {a : Addr} {kvs : List (D × D)} (h : DctR K Hv H tk a kvs) (e : Same H H') (s : Same Hv Hv') : DctR K Hv' H' tk a kvs := by
  unfold DctR at h ⊢
  split
  · rename_i c
    rw [if_pos c] at h
    obtain ⟨l, h1, h2⟩ := h
    exact ⟨l, rd_mono e h1, h2.mono s⟩
  · rename_i c
    rw [if_neg c] at h
    obtain ⟨l, h1, h2⟩ := h
    exact ⟨l, rd_mono e h1, h2.mono s⟩
def SlotR (K : PySem.W.Frag) (P : Option Addr) (M : Hid) (H : Hp) (s : Option (Option V)) : Sl → Prop
  | .un => True
  | .im d => ∃ v, s = some (some v) ∧ Dv K (hid M H) v d
  | .ml a ds => s = some (some (.ref a)) ∧ ∃ vs, H a = some (.lst vs) ∧ DvAll K (hid M H) vs ds
  | .md tk a kvs => s = some (some (.ref a)) ∧ DctAt K (hid M H) H tk a kvs
  | .pl => ∃ p, P = some p ∧ s = some (some (.ref p))
def ownA : Sl → Option Addr
  | .ml a _ => some a
  | .md _ a _ => some a
  | _ => none
structure Rel (K : PySem.W.Frag) (P : Option Addr) (M : Hid) (σ : St) (H : Hp) (env : DEnv) : Prop where
  len : σ.length = env.length
  slot : ∀ (i : Nat) s, env[i]? = some s → SlotR K P M H σ[i]? s
  own : ∀ (i : Nat) s a, env[i]? = some s → ownA s = some a → M a = true ∧ P ≠ some a
  sep : ∀ (i j : Nat) s t a, env[i]? = some s → env[j]? = some t → ownA s = some a → ownA t = some a → i = j
  trk : ∀ a, M a = true → H a ≠ none
  pool : ∀ p, P = some p → M p = true ∧ PoolAt K M H p
theorem PoolAt.mono {M : Hid} {H H' : Hp} {p : Addr} (h : PoolAt K M H p) (e : H' p = H p) (s : Same (hid M H) (hid M H')) : PoolAt K M H' p := by
  obtain ⟨q, ns, i, c, n, z, h1, h2, r⟩ := h
  exact ⟨q, ns, i, c, n, z, by rw [e]; exact h1, h2.mono s, r⟩
theorem PoolAt.lower {M M' : Hid} {H : Hp} {p : Addr} (h : PoolAt K M H p) (s : Same (DL.hid M H) (DL.hid M' H)) : PoolAt K M' H p := by
  obtain ⟨q, ns, i, c, n, z, h1, h2, r⟩ := h
  exact ⟨q, ns, i, c, n, z, h1, h2.mono s, r⟩
theorem DctAt.mono {Hv Hv' H H' : Hp} {tk : Bool} {a : Addr} {kvs : List (D × D)} (h : DctAt K Hv H tk a kvs) (e : ∀ o, H a = some o → H' a = some o) (s : Same Hv Hv') : DctAt K Hv' H' tk a kvs := by
  unfold DctAt at h ⊢
  split at h
  · rename_i c
    obtain ⟨l, h1, h2⟩ := h
    rw [if_pos c]
    exact ⟨l, e _ h1, h2.mono s⟩
  · rename_i c
    obtain ⟨l, h1, h2⟩ := h
    rw [if_neg c]
    exact ⟨l, e _ h1, h2.mono s⟩
theorem SlotR.mono {P : Option Addr} {M : Hid} {H H' : Hp} {s : Option (Option V)} {t : Sl} (h : SlotR K P M H s t) (h1 : ∀ a o, ownA t = some a → H a = some o → H' a = some o) (h2 : Same (hid M H) (hid M H')) : SlotR K P M H' s t := by
  cases t with
  | un => trivial
  | im d => obtain ⟨v, e, r⟩ := h; exact ⟨v, e, r.mono h2⟩
  | ml a ds => obtain ⟨e, vs, r, q⟩ := h; exact ⟨e, vs, h1 a _ rfl r, q.mono h2⟩
  | md tk a kvs => obtain ⟨e, r⟩ := h; exact ⟨e, r.mono (fun o => h1 a o rfl) h2⟩
  | pl => exact h
/-- everything tracked stays -/
theorem Rel.same {P : Option Addr} {M : Hid} {σ : St} {H H' : Hp} {env : DEnv} (R : Rel K P M σ H env) (h : Same H H') : Rel K P M σ H' env where
  len := R.len
  slot := fun i s e => (R.slot i s e).mono (fun a o _ q => h a o q) (hid_mono h)
  own := R.own
  sep := R.sep
  trk := fun a e q => by
    cases z : H a with
    | none => exact R.trk a e z
    | some o => rw [h a o z] at q; cases q
  pool := fun p e => ⟨(R.pool p e).1, (R.pool p e).2.mono (by
    obtain ⟨_, q, ns, i, c, n, z, h1, _⟩ := R.pool p e
    rw [h1, h _ _ h1]) (hid_mono h)⟩
/-- a hidden thing, of nobody here, changes -/
theorem Rel.updHid {P : Option Addr} {M : Hid} {σ : St} {H : Hp} {env : DEnv} {a : Addr} {o : HO} (R : Rel K P M σ H env) (hM : M a = true) (hP : P ≠ some a) (ho : ∀ (i : Nat) s, env[i]? = some s → ownA s ≠ some a) : Rel K P M σ (upd H a o) env where
  len := R.len
  slot := fun i s e => (R.slot i s e).mono (fun b u q z => by rw [upd_ne (fun k => ho i s e (by rw [q, k]))]; exact z) (by rw [hid_upd hM]; exact Same.refl _)
  own := R.own
  sep := R.sep
  trk := fun b e q => by
    by_cases z : b = a
    · subst z; rw [upd_same] at q; cases q
    · rw [upd_ne z] at q; exact R.trk b e q
  pool := fun p e => ⟨(R.pool p e).1, (R.pool p e).2.mono (by rw [upd_ne (fun k => hP (by rw [e, k]))]) (by rw [hid_upd hM]; exact Same.refl _)⟩
/-- one thing more is hidden: a new one -/
def more (M : Hid) (a : Addr) : Hid := fun b => M b || b == a
theorem more_self {M : Hid} {a : Addr} : more M a a = true := by simp [more]
theorem more_of {M : Hid} {a b : Addr} (h : M b = true) : more M a b = true := by simp [more, h]
theorem more_ne {M : Hid} {a b : Addr} (h : b ≠ a) : more M a b = M b := by simp [more, h]
theorem hid_more_upd {M : Hid} {H : Hp} {a : Addr} {o : HO} (h : H a = none) : hid (more M a) (upd H a o) = hid M H := by
  funext b
  unfold hid
  by_cases e : b = a
  · subst e
    rw [if_pos more_self]
    cases M b <;> simp [h]
  · rw [more_ne e, upd_ne e]
theorem hid_more_sub {M : Hid} {H : Hp} {a : Addr} : Same (hid (more M a) H) (hid M H) := fun b o e => by
  obtain ⟨e1, e2⟩ := hid_some.mp e
  refine hid_some.mpr ⟨?_, e2⟩
  simp [more] at e1
  exact e1.1
theorem Rel.hide {P : Option Addr} {M : Hid} {σ : St} {H : Hp} {env : DEnv} {a : Addr} {o : HO} (R : Rel K P M σ H env) (h : H a = none) : Rel K P (more M a) σ (upd H a o) env where
  len := R.len
  slot := fun i s e => by
    have q := R.slot i s e
    have hs : Same H (upd H a o) := fun b u z => by rw [upd_ne (ne_of_none z h)]; exact z
    cases s with
    | un => trivial
    | im d => obtain ⟨v, e, r⟩ := q; exact ⟨v, e, by rw [hid_more_upd h]; exact r⟩
    | ml b ds => obtain ⟨e, vs, r, q⟩ := q; exact ⟨e, vs, hs _ _ r, by rw [hid_more_upd h]; exact q⟩
    | md tk b kvs => obtain ⟨e, r⟩ := q; exact ⟨e, by rw [hid_more_upd h]; exact r.mono (hs _) (Same.refl _)⟩
    | pl => exact q
  own := fun i s b e q => ⟨more_of (R.own i s b e q).1, (R.own i s b e q).2⟩
  sep := R.sep
  trk := fun b e q => by
    by_cases z : b = a
    · subst z; rw [upd_same] at q; cases q
    · rw [upd_ne z] at q; rw [more_ne z] at e; exact R.trk b e q
  pool := fun p e => by
    obtain ⟨m, q, ns, i, c, n, z, h1, h2, r⟩ := R.pool p e
    exact ⟨more_of m, q, ns, i, c, n, z, by rw [upd_ne (ne_of_none h1 h)]; exact h1, by rw [hid_more_upd h]; exact h2, r⟩
/-- and is shown again -/
theorem Rel.show {P : Option Addr} {M : Hid} {σ : St} {H : Hp} {env : DEnv} {a : Addr} (R : Rel K P (more M a) σ H env) (own : ∀ (i : Nat) s b, env[i]? = some s → ownA s = some b → M b = true) (hp : ∀ p, P = some p → M p = true) : Rel K P M σ H env where
  len := R.len
  slot := fun i s e => by
    have q := R.slot i s e
    cases s with
    | un => trivial
    | im d => obtain ⟨v, e, r⟩ := q; exact ⟨v, e, r.mono hid_more_sub⟩
    | ml b ds => obtain ⟨e, vs, r, q⟩ := q; exact ⟨e, vs, r, q.mono hid_more_sub⟩
    | md tk b kvs => obtain ⟨e, r⟩ := q; exact ⟨e, r.mono (fun _ z => z) hid_more_sub⟩
    | pl => exact q
  own := fun i s b e q => ⟨own i s b e q, (R.own i s b e q).2⟩
  sep := R.sep
  trk := fun b e => R.trk b (more_of e)
  pool := fun p e => ⟨hp p e, (R.pool p e).2.lower hid_more_sub⟩
end DL

namespace DL
open PySem L2
variable {K : PySem.W.Frag}

/-! ### operands -/
/-- a dict as data: first its kind -/
abbrev dctD (tk : Bool) (kvs : List (D × D)) : D := .dict ((.bool tk, .none) :: kvs)
inductive Op where
  | d (x : D)
  | v (i : Nat)
def Op.get (env : DEnv) : Op → Option D
  | .d x => some x
  | .v i => match env[i]? with
    | some (.ml _ ds) => some (.list ds)
    | some (.md tk _ kvs) => some (dctD tk kvs)
    | _ => none
def gets (env : DEnv) : List Op → Option (List D)
  | [] => some []
  | o :: os => match o.get env, gets env os with
    | some x, some xs => some (x :: xs)
    | _, _ => none
def Op.clean : Op → Bool
  | .d _ => true
  | .v _ => false
def OpR (K : PySem.W.Frag) (M : Hid) (H : Hp) (σ : St) (env : DEnv) (v : V) : Op → Prop
  | .d x => Dv K (hid M H) v x
  | .v i => σ[i]? = some (some v) ∧ ((∃ a ds, env[i]? = some (.ml a ds)) ∨ ∃ tk a kvs, env[i]? = some (.md tk a kvs))
inductive OpRs (K : PySem.W.Frag) (M : Hid) (H : Hp) (σ : St) (env : DEnv) : List V → List Op → Prop
  | nil : OpRs K M H σ env [] []
  | cons {v : V} {vs : List V} {o : Op} {os : List Op} : OpR K M H σ env v o → OpRs K M H σ env vs os → OpRs K M H σ env (v :: vs) (o :: os)
/-- data at v; a list may be one's own -/
inductive DvM (K : PySem.W.Frag) (M : Hid) (H : Hp) : V → D → Prop
  | im {v : V} {d : D} : Dv K (hid M H) v d → DvM K M H v d
  | ml {a : Addr} {vs : List V} {ds : List D} : H a = some (.lst vs) → DvAll K (hid M H) vs ds → DvM K M H (.ref a) (.list ds)
  | md {tk : Bool} {a : Addr} {kvs : List (D × D)} : DctAt K (hid M H) H tk a kvs → DvM K M H (.ref a) (dctD tk kvs)
inductive DvMs (K : PySem.W.Frag) (M : Hid) (H : Hp) : List V → List D → Prop
  | nil : DvMs K M H [] []
  | cons {v : V} {vs : List V} {d : D} {ds : List D} : DvM K M H v d → DvMs K M H vs ds → DvMs K M H (v :: vs) (d :: ds)
section
variable {P : Option Addr} {M : Hid} {σ : St} {H H' : Hp} {env : DEnv} {v : V} {o : Op} {d : D}
theorem OpR.step (h : OpR K M H σ env v o) (s : SameP P H H') (hp : ∀ p, P = some p → M p = true) : OpR K M H' σ env v o := by
  cases o with
  | d x => exact Dv.mono (s.hid hp) _ _ h
  | v i => exact h
theorem OpRs.step {vs : List V} {os : List Op} (h : OpRs K M H σ env vs os) (s : SameP P H H') (hp : ∀ p, P = some p → M p = true) : OpRs K M H' σ env vs os := by
  induction h with
  | nil => exact .nil
  | cons a _ ih => exact .cons (a.step s hp) ih
theorem OpR.rd (h : OpR K M H σ env v o) (R : Rel K P M σ H env) (e : o.get env = some d) : DvM K M H v d := by
  cases o with
  | d x => cases e; exact .im h
  | v i =>
    obtain ⟨h1, ⟨a, ds, h2⟩ | ⟨tk, a, kvs, h2⟩⟩ := h
    · have e' : Op.get env (.v i) = some (.list ds) := by simp [Op.get, h2]
      rw [e'] at e
      cases e
      obtain ⟨q1, vs, q2, q3⟩ := R.slot i _ h2
      rw [h1] at q1
      cases q1
      exact .ml q2 q3
    · have e' : Op.get env (.v i) = some (dctD tk kvs) := by simp [Op.get, h2]
      rw [e'] at e
      cases e
      obtain ⟨q1, q2⟩ := R.slot i _ h2
      rw [h1] at q1
      cases q1
      exact .md q2
theorem OpRs.rd {vs : List V} {os : List Op} (h : OpRs K M H σ env vs os) (R : Rel K P M σ H env) : ∀ {ds : List D}, gets env os = some ds → DvMs K M H vs ds := by
  induction h with
  | nil => intro ds e; cases e; exact .nil
  | @cons v vs o os a _ ih =>
    intro ds e
    unfold gets at e
    cases e1 : o.get env with
    | none => rw [e1] at e; simp at e
    | some x =>
      cases e2 : gets env os with
      | none => rw [e1, e2] at e; simp at e
      | some xs =>
        rw [e1, e2] at e
        cases e
        exact .cons (a.rd R e1) (ih e2)
theorem DctAt.dv {Hv : Hp} {tk : Bool} {a : Addr} {kvs : List (D × D)} (h : DctAt K Hv H tk a kvs) (s : Same Hv H) : Dv K H (.ref a) (dctD tk kvs) := by
  unfold DctAt at h
  split at h
  · rename_i c
    subst c
    obtain ⟨l, h1, h2⟩ := h
    exact .dcX (.inl h1) (h2.mono s)
  · rename_i c
    cases tk with
    | true => exact absurd rfl c
    | false =>
      obtain ⟨l, h1, h2⟩ := h
      exact .dcK (.inl h1) (h2.mono s)
theorem DvM.dv (h : DvM K M H v d) : Dv K H v d := by
  cases h with
  | im a => exact Dv.mono hid_sub _ _ a
  | ml e a => exact .lst e (DvAll.mono hid_sub _ _ a)
  | md e => exact e.dv hid_sub
theorem DvM.dct {tk : Bool} {kvs : List (D × D)} (h : DvM K M H v (dctD tk kvs)) : ∃ a, v = .ref a ∧ DctR K (hid M H) H tk a kvs := by
  cases h with
  | im a => cases a with
    | dcK e r => exact ⟨_, rfl, by unfold DctR; rw [if_neg (by decide)]; exact ⟨_, rd_mono hid_sub e, r⟩⟩
    | dcX e r => exact ⟨_, rfl, by unfold DctR; rw [if_pos rfl]; exact ⟨_, rd_mono hid_sub e, r⟩⟩
  | md e => exact ⟨_, rfl, e.rd⟩
theorem DvM.dp (h : DvM K M H v d) (n : noDct d = true) : Dp K H v d := Dv.dp _ _ n h.dv
theorem DvMs.length {vs : List V} {ds : List D} (h : DvMs K M H vs ds) : vs.length = ds.length := by
  induction h with
  | nil => rfl
  | cons _ _ ih => simp [ih]
theorem DvM.list {ds : List D} (h : DvM K M H v (.list ds)) : ∃ a vs, v = .ref a ∧ H a = some (.lst vs) ∧ DvAll K (hid M H) vs ds := by
  cases h with
  | im a => cases a with
    | lst e r => exact ⟨_, _, rfl, hid_sub _ _ e, r⟩
  | ml e a => exact ⟨_, _, rfl, e, a⟩
theorem DvM.tuple {ds : List D} (h : DvM K M H v (.tuple ds)) : ∃ a vs, v = .ref a ∧ SqT K H a vs ∧ DvAll K (hid M H) vs ds ∧ ∃ o, hid M H a = some (.frz o (.tup vs)) ∧ o.dict = Option.none := by
  cases h with
  | im a => cases a with
    | tup e z r => exact ⟨_, _, rfl, .inl (.inr ⟨_, hid_sub _ _ e⟩), r, _, e, z⟩
theorem DvM.int {i : Int} (h : DvM K M H v (.int i)) : v = .int i := by
  cases h with
  | im a => cases a; rfl
theorem DvM.bool {b : Bool} (h : DvM K M H v (.bool b)) : v = .bl b := by
  cases h with
  | im a => cases a; rfl
theorem DvM.str {b : Str} (h : DvM K M H v (.str b)) : v = .str b := by
  cases h with
  | im a => cases a; rfl
theorem DvM.none (h : DvM K M H v .none) : v = .non := by
  cases h with
  | im a => cases a; rfl
theorem Dv.none_iff (h : Dv K H v d) : v = .non ↔ d = .none := by
  constructor
  · rintro rfl; cases h; rfl
  · rintro rfl; cases h; rfl
/-- new things -/
theorem new_tup {p : Addr} {ob : Obj} {vs : List V} {ds : List D} (t : ∀ a, M a = true → H a ≠ Option.none) (hp : H p = Option.none) (hd : ob.dict = Option.none) (a : DvAll K (hid M H) vs ds) : Dv K (hid M (upd H p (.frz ob (.tup vs)))) (.ref p) (.tuple ds) := by
  have m : M p = false := by
    cases e : M p with
    | false => rfl
    | true => exact absurd hp (t p e)
  refine .tup (hid_some.mpr ⟨m, upd_same⟩) hd (DvAll.mono ?_ _ _ a)
  exact hid_mono fun b o e => by rw [upd_ne (ne_of_none e hp)]; exact e
theorem new_lst {p : Addr} {vs : List V} {ds : List D} (t : ∀ a, M a = true → H a ≠ Option.none) (hp : H p = Option.none) (a : DvAll K (hid M H) vs ds) : Dv K (hid M (upd H p (.lst vs))) (.ref p) (.list ds) := by
  have m : M p = false := by
    cases e : M p with
    | false => rfl
    | true => exact absurd hp (t p e)
  refine .lst (hid_some.mpr ⟨m, upd_same⟩) (DvAll.mono ?_ _ _ a)
  exact hid_mono fun b o e => by rw [upd_ne (ne_of_none e hp)]; exact e
theorem same_new {H : Hp} {p : Addr} {o : HO} (hp : H p = Option.none) : Same H (upd H p o) := fun b u e => by rw [upd_ne (ne_of_none e hp)]; exact e
end

/-! ### the judgements over data -/
abbrev DTE := DEnv → (Op → Prop) → Prop
abbrev DTT := DEnv → (Bool → Prop) → Prop
abbrev DTA := DEnv → (List Op → Prop) → Prop
def up (K : PySem.W.Frag) (ω : DTE) : TE := fun σ H Q => ∃ P M env κ, Rel K P M σ H env ∧ ω env κ ∧ ∀ v H' o, SameP P H H' → Rel K P M σ H' env → OpR K M H' σ env v o → κ o → Q v H'
def upT (K : PySem.W.Frag) (ω : DTT) : TT := fun σ H Q => ∃ P M env κ, Rel K P M σ H env ∧ ω env κ ∧ ∀ b H', SameP P H H' → Rel K P M σ H' env → κ b → Q b H'
def upA (K : PySem.W.Frag) (ω : DTA) : TA := fun σ H Q => ∃ P M env κ, Rel K P M σ H env ∧ ω env κ ∧ ∀ vs H' os, SameP P H H' → Rel K P M σ H' env → OpRs K M H' σ env vs os → κ os → Q vs H'
abbrev EV (X : Cx) (e : Expr) (ω : DTE) : Prop := PE X e (up X.K ω)
abbrev TV (X : Cx) (e : Expr) (ω : DTT) : Prop := PT X e (upT X.K ω)
abbrev WV (X : Cx) (e : Expr) (ω : DTT) : Prop := PW X e (upT X.K ω)
abbrev AV (X : Cx) (e : List Expr) (ω : DTA) : Prop := PA X e (upA X.K ω)
section
variable {X : Cx}
theorem PE.imp {e : Expr} {t t' : TE} (a : PE X e t) (h : ∀ σ H Q, t' σ H Q → t σ H Q) : PE X e t' := ⟨fun pins s σ H Q I hw => a.run pins s σ H Q I (h σ H Q hw)⟩
theorem PT.imp {e : Expr} {t t' : TT} (a : PT X e t) (h : ∀ σ H Q, t' σ H Q → t σ H Q) : PT X e t' := ⟨fun pins s σ H Q I hw => a.run pins s σ H Q I (h σ H Q hw)⟩
theorem PW.imp {e : Expr} {t t' : TT} (a : PW X e t) (h : ∀ σ H Q, t' σ H Q → t σ H Q) : PW X e t' := ⟨fun wh pins s σ H Q I hw => a.run wh pins s σ H Q I (h σ H Q hw)⟩
theorem PA.imp {e : List Expr} {t t' : TA} (a : PA X e t) (h : ∀ σ H Q, t' σ H Q → t σ H Q) : PA X e t' := ⟨fun pos pins s σ H Q I hw => a.run pos pins s σ H Q I (h σ H Q hw)⟩
theorem PS.imp {e : Stmt} {t t' : TS} (a : PS X e t) (h : ∀ D σ H, t' D σ H → t D σ H) : PS X e t' := ⟨fun pins s σ H D I hw => a.run pins s σ H D I (h D σ H hw)⟩
theorem PSs.imp {e : List Stmt} {t t' : TS} (a : PSs X e t) (h : ∀ D σ H, t' D σ H → t D σ H) : PSs X e t' := ⟨fun pins s σ H D I hw => a.run pins s σ H D I (h D σ H hw)⟩

/-! ### names, constants -/
def wVar (i : Nat) : DTE := fun env κ => match env[i]? with
  | some (.im d) => κ (.d d)
  | some (.ml _ _) => κ (.v i)
  | some (.md _ _ _) => κ (.v i)
  | _ => False
def wC (d : D) : DTE := fun _ κ => κ (.d d)
theorem ev_var {e : Expr} (i : Nat) (h : PE X e (tVar i)) : EV X e (wVar i) := by
  refine PE.imp h fun σ H Q ⟨P, M, env, κ, R, w, k⟩ => ?_
  unfold wVar at w
  split at w
  · rename_i d e
    obtain ⟨v, q, r⟩ := R.slot i _ e
    exact ⟨v, q, k v H (.d d) SameP.refl R r w⟩
  · rename_i a ds e
    obtain ⟨q, vs, r1, r2⟩ := R.slot i _ e
    exact ⟨_, q, k _ H (.v i) SameP.refl R ⟨q, .inl ⟨a, ds, e⟩⟩ w⟩
  · rename_i tk a kvs e
    obtain ⟨q, r⟩ := R.slot i _ e
    exact ⟨_, q, k _ H (.v i) SameP.refl R ⟨q, .inr ⟨tk, a, kvs, e⟩⟩ w⟩
  · exact w.elim
theorem ev_const {e : Expr} {v : V} {d : D} (h : PE X e (tC v)) (r : ∀ H, Dv X.K H v d) : EV X e (wC d) := by
  refine PE.imp h fun σ H Q ⟨P, M, env, κ, R, w, k⟩ => ?_
  exact k v H (.d d) SameP.refl R (r _) w
theorem ev_int {i : Int} {j : Tok} {pos : Pos} : EV X (.Constant (.int i) j pos) (wC (.int i)) := ev_const pe_int fun _ => .int i
theorem ev_bl {b : Bool} {j : Tok} {pos : Pos} : EV X (.Constant (.bool b) j pos) (wC (.bool b)) := ev_const pe_bl fun _ => .bl b
theorem ev_non {j : Tok} {pos : Pos} : EV X (.Constant .none j pos) (wC .none) := ev_const pe_non fun _ => .non
theorem ev_str {x : Str} {j : Tok} {pos : Pos} : EV X (.Constant (.str x) j pos) (wC (.str x)) := ev_const pe_str fun _ => .str x
/-- a constant of the module: an int or a text -/
theorem ev_globS {x z : Str} {pos : Pos} (hg : Gl X x) (hm : ∃ t, X.mg x = some (.str z t)) (hd : (x == ("__debug__" : Str)) = false := by decide) : EV X (.Name x pos) (wC (.str z)) := by
  obtain ⟨t, hm⟩ := hm
  exact ev_const (pe_glob (v := .str z) hg hm ⟨t, rfl⟩ hd) fun _ => .str z
theorem ev_globI {x : Str} {z : Int} {pos : Pos} (hg : Gl X x) (hm : ∃ t, X.mg x = some (.int z t)) (hd : (x == ("__debug__" : Str)) = false := by decide) : EV X (.Name x pos) (wC (.int z)) := by
  obtain ⟨t, hm⟩ := hm
  exact ev_const (pe_glob (v := .int z) hg hm ⟨t, rfl⟩ hd) fun _ => .int z

/-! ### two operands -/
def wBin (R : D → D → D → Prop) (a b : DTE) : DTE := fun env κ => a env fun x => b env fun y => ∃ d e z, x.get env = some d ∧ y.get env = some e ∧ R d e z ∧ κ (.d z)
/-- an operation by values does as one by data -/
def BinSem (K : PySem.W.Frag) (r : R2) (R : D → D → D → Prop) : Prop :=
  ∀ (M : Hid) (H : Hp) (v u : V) (d e z : D) (Q : VK), (∀ a, M a = true → H a ≠ none) → DvM K M H v d → DvM K M H u e → R d e z → (∀ w H', Same H H' → Dv K (hid M H') w z → Q w H') → r v u H Q
theorem up_bin {a b : DTE} {r : R2} {R : D → D → D → Prop} (sem : BinSem K r R) : ∀ σ H Q, up K (wBin R a b) σ H Q → tOp r (up K a) (up K b) σ H Q := by
  intro σ H Q ⟨P, M, env, κ, R0, w, k⟩
  refine ⟨P, M, env, _, R0, w, fun v H1 x s1 R1 o1 w1 => ?_⟩
  refine ⟨P, M, env, _, R1, w1, fun u H2 y s2 R2 o2 w2 => ?_⟩
  obtain ⟨d, e, z, e1, e2, hz, w3⟩ := w2
  have hp : ∀ p, P = some p → M p = true := fun p q => (R0.pool p q).1
  refine sem M H2 v u d e z Q R2.trk ((o1.step s2 hp).rd R2 e1) (o2.rd R2 e2) hz fun w' H3 s3 r3 => ?_
  exact k w' H3 (.d z) ((s1.trans s2).trans (SameP.of s3)) (R2.same s3) r3 w3
theorem ev_bin {a b : Expr} {wa wb : DTE} {op : Operator} {pos : Pos} {r : R2} {R : D → D → D → Prop} (ho : L2.OpR X (binaryOp op) r) (sem : BinSem X.K r R) (ha : EV X a wa) (hb : EV X b wb) : EV X (.BinOp a op b pos) (wBin R wa wb) :=
  PE.imp (pe_op ho ha hb) (up_bin sem)
theorem ev_cmp {a b : Expr} {wa wb : DTE} {op : CmpOp} {pos : Pos} {r : R2} {R : D → D → D → Prop} (ho : L2.OpR X (compareOp op) r) (sem : BinSem X.K r R) (ha : EV X a wa) (hb : EV X b wb) (hm : behindInMarks op b = false) : EV X (.Compare a [op] [b] pos) (wBin R wa wb) :=
  PE.imp (pe_cmpR ho ha hb hm) (up_bin sem)
theorem ev_ix {a b : Expr} {wa wb : DTE} {pos : Pos} {r : R2} {R : D → D → D → Prop} (ho : IxR X r) (sem : BinSem X.K r R) (ha : EV X a wa) (hb : EV X b wb) (hs : PlainIx b) : EV X (.Subscript a b pos) (wBin R wa wb) :=
  PE.imp (pe_ix ho ha hb hs) (up_bin sem)
/-- a value that is a bool, as a test -/
def wTest (a : DTE) : DTT := fun env κ => a env fun x => ∃ b, x = .d (.bool b) ∧ κ b
theorem tv_val {e : Expr} {a : DTE} (h : EV X e a) (he : ∀ whole, isTrue e X.env whole = (do let v ← whole; standAt e.pos; holding [v] (truthy v)) := by intro _; rfl) : TV X e (wTest a) := by
  refine PT.imp (pt_val h he) fun σ H Q ⟨P, M, env, κ, R, w, k⟩ => ?_
  refine ⟨P, M, env, _, R, w, fun v H1 x s1 R1 o1 w1 => ?_⟩
  obtain ⟨b, rfl, w2⟩ := w1
  exact ⟨b, DvM.bool (.im o1), k b H1 s1 R1 w2⟩
theorem tv_cmp {a b : Expr} {wa wb : DTE} {op : CmpOp} {pos : Pos} {r : R2} {R : D → D → D → Prop} (ho : L2.OpR X (compareOp op) r) (sem : BinSem X.K r R) (ha : EV X a wa) (hb : EV X b wb) (hm : behindInMarks op b = false) : TV X (.Compare a [op] [b] pos) (wTest (wBin R wa wb)) := by
  refine PT.imp (pt_cmpR ho ha hb hm) fun σ H Q ⟨P, M, env, κ, R, w, k⟩ => ?_
  refine up_bin sem σ H _ ⟨P, M, env, _, R, w, fun v H1 x s1 R1 o1 w1 => ?_⟩
  obtain ⟨b, rfl, w2⟩ := w1
  exact ⟨b, DvM.bool (.im o1), k b H1 s1 R1 w2⟩
def wAnd (a b : DTT) : DTT := fun env κ => a env fun x => if x = true then b env κ else κ false
def wOr (a b : DTT) : DTT := fun env κ => a env fun x => if x = true then κ true else b env κ
def wNot (a : DTT) : DTT := fun env κ => a env fun x => κ (!x)
theorem wv_and1 {a : Expr} {wa : DTT} {pos : Pos} (ha : TV X a wa) : WV X (.BoolOp .And [a] pos) wa := pw_and1 ha
theorem wv_or1 {a : Expr} {wa : DTT} {pos : Pos} (ha : TV X a wa) : WV X (.BoolOp .Or [a] pos) wa := pw_or1 ha
theorem wv_and {a b : Expr} {rest : List Expr} {wa wb : DTT} {pos : Pos} (ha : TV X a wa) (hb : WV X (.BoolOp .And (b :: rest) pos) wb) : WV X (.BoolOp .And (a :: b :: rest) pos) (wAnd wa wb) := by
  refine PW.imp (pw_and ha hb) fun σ H Q ⟨P, M, env, κ, R, w, k⟩ => ?_
  refine ⟨P, M, env, _, R, w, fun c H1 s1 R1 w1 => ?_⟩
  cases c with
  | true => exact ⟨P, M, env, _, R1, w1, fun c H2 s2 R2 w2 => k c H2 (s1.trans s2) R2 w2⟩
  | false => exact k false H1 s1 R1 w1
theorem wv_or {a b : Expr} {rest : List Expr} {wa wb : DTT} {pos : Pos} (ha : TV X a wa) (hb : WV X (.BoolOp .Or (b :: rest) pos) wb) : WV X (.BoolOp .Or (a :: b :: rest) pos) (wOr wa wb) := by
  refine PW.imp (pw_or ha hb) fun σ H Q ⟨P, M, env, κ, R, w, k⟩ => ?_
  refine ⟨P, M, env, _, R, w, fun c H1 s1 R1 w1 => ?_⟩
  cases c with
  | false => exact ⟨P, M, env, _, R1, w1, fun c H2 s2 R2 w2 => k c H2 (s1.trans s2) R2 w2⟩
  | true => exact k true H1 s1 R1 w1
theorem tv_pw {a : Expr} {wa : DTT} (h : WV X a wa) : TV X a wa := PW.pt h
theorem tv_not {a : Expr} {wa : DTT} {pos : Pos} (h : TV X a wa) : TV X (.UnaryOp .Not a pos) (wNot wa) := by
  refine PT.imp (pt_not h) fun σ H Q ⟨P, M, env, κ, R, w, k⟩ => ?_
  exact ⟨P, M, env, _, R, w, fun c H1 s1 R1 w1 => k _ H1 s1 R1 w1⟩
/-- the same as values -/
def wAndV (a b : DTE) : DTE := fun env κ => a env fun x => ∃ c, x = .d (.bool c) ∧ if c = true then b env κ else κ (.d (.bool false))
def wOrV (a b : DTE) : DTE := fun env κ => a env fun x => ∃ c, x = .d (.bool c) ∧ if c = true then κ (.d (.bool true)) else b env κ
def wNotV (a : DTE) : DTE := fun env κ => a env fun x => ∃ c, x = .d (.bool c) ∧ κ (.d (.bool (!c)))
theorem ev_one {op : BoolOp} {a : Expr} {wa : DTE} {pos : Pos} (ha : EV X a wa) : EV X (.BoolOp op [a] pos) wa := pe_one ha
theorem ev_and {a b : Expr} {rest : List Expr} {wa wb : DTE} {pos : Pos} (ha : EV X a wa) (hb : EV X (.BoolOp .And (b :: rest) pos) wb) : EV X (.BoolOp .And (a :: b :: rest) pos) (wAndV wa wb) := by
  refine PE.imp (pe_and ha hb) fun σ H Q ⟨P, M, env, κ, R, w, k⟩ => ?_
  refine ⟨P, M, env, _, R, w, fun v H1 x s1 R1 o1 w1 => ?_⟩
  obtain ⟨c, rfl, w2⟩ := w1
  refine ⟨c, DvM.bool (.im o1), ?_⟩
  cases c with
  | true => exact ⟨P, M, env, _, R1, w2, fun v H2 o s2 R2 o2 w3 => k v H2 o (s1.trans s2) R2 o2 w3⟩
  | false => exact k _ H1 (.d (.bool false)) s1 R1 (.bl false) w2
theorem ev_or {a b : Expr} {rest : List Expr} {wa wb : DTE} {pos : Pos} (ha : EV X a wa) (hb : EV X (.BoolOp .Or (b :: rest) pos) wb) : EV X (.BoolOp .Or (a :: b :: rest) pos) (wOrV wa wb) := by
  refine PE.imp (pe_or ha hb) fun σ H Q ⟨P, M, env, κ, R, w, k⟩ => ?_
  refine ⟨P, M, env, _, R, w, fun v H1 x s1 R1 o1 w1 => ?_⟩
  obtain ⟨c, rfl, w2⟩ := w1
  refine ⟨c, DvM.bool (.im o1), ?_⟩
  cases c with
  | false => exact ⟨P, M, env, _, R1, w2, fun v H2 o s2 R2 o2 w3 => k v H2 o (s1.trans s2) R2 o2 w3⟩
  | true => exact k _ H1 (.d (.bool true)) s1 R1 (.bl true) w2
theorem ev_not {a : Expr} {wa : DTE} {pos : Pos} (ha : EV X a wa) : EV X (.UnaryOp .Not a pos) (wNotV wa) := by
  refine PE.imp (pe_not ha) fun σ H Q ⟨P, M, env, κ, R, w, k⟩ => ?_
  refine ⟨P, M, env, _, R, w, fun v H1 x s1 R1 o1 w1 => ?_⟩
  obtain ⟨c, rfl, w2⟩ := w1
  exact ⟨c, DvM.bool (.im o1), k _ H1 (.d (.bool (!c))) s1 R1 (.bl _) w2⟩
def wIf (t : DTT) (a b : DTE) : DTE := fun env κ => t env fun c => if c = true then a env κ else b env κ
theorem ev_if {c a b : Expr} {t : DTT} {wa wb : DTE} {pos : Pos} (hc : TV X c t) (ha : EV X a wa) (hb : EV X b wb) : EV X (.IfExp c a b pos) (wIf t wa wb) := by
  refine PE.imp (pe_ifExp hc ha hb) fun σ H Q ⟨P, M, env, κ, R, w, k⟩ => ?_
  refine ⟨P, M, env, _, R, w, fun c H1 s1 R1 w1 => ?_⟩
  cases c with
  | true => exact ⟨P, M, env, _, R1, w1, fun v H2 o s2 R2 o2 w3 => k v H2 o (s1.trans s2) R2 o2 w3⟩
  | false => exact ⟨P, M, env, _, R1, w1, fun v H2 o s2 R2 o2 w3 => k v H2 o (s1.trans s2) R2 o2 w3⟩
/-- a is None, a is not None -/
def wIsN (a : DTE) : DTE := fun env κ => a env fun x => ∃ d, x = .d d ∧ ((d = .none → κ (.d (.bool true))) ∧ (d ≠ .none → κ (.d (.bool false))))
def wNotN (a : DTE) : DTE := fun env κ => a env fun x => ∃ d, x = .d d ∧ ((d = .none → κ (.d (.bool false))) ∧ (d ≠ .none → κ (.d (.bool true))))
theorem up_isN {a : DTE} : ∀ σ H Q, up K (wIsN a) σ H Q → tIsN (up K a) σ H Q := fun σ H Q ⟨P, M, env, κ, R, w, k⟩ => by
  refine ⟨P, M, env, _, R, w, fun v H1 x s1 R1 o1 w1 => ?_⟩
  obtain ⟨d, rfl, w2, w3⟩ := w1
  have e := Dv.none_iff (show Dv K _ v d from o1)
  by_cases hd : d = .none
  · rw [decide_eq_true (e.mpr hd)]
    exact k _ H1 (.d (.bool true)) s1 R1 (.bl _) (w2 hd)
  · rw [decide_eq_false (fun z => hd (e.mp z))]
    exact k _ H1 (.d (.bool false)) s1 R1 (.bl _) (w3 hd)
theorem up_notN {a : DTE} : ∀ σ H Q, up K (wNotN a) σ H Q → tNotN (up K a) σ H Q := fun σ H Q ⟨P, M, env, κ, R, w, k⟩ => by
  refine ⟨P, M, env, _, R, w, fun v H1 x s1 R1 o1 w1 => ?_⟩
  obtain ⟨d, rfl, w2, w3⟩ := w1
  have e := Dv.none_iff (show Dv K _ v d from o1)
  by_cases hd : d = .none
  · rw [decide_eq_true (e.mpr hd)]
    exact k _ H1 (.d (.bool false)) s1 R1 (.bl _) (w2 hd)
  · rw [decide_eq_false (fun z => hd (e.mp z))]
    exact k _ H1 (.d (.bool true)) s1 R1 (.bl _) (w3 hd)
theorem ev_isN {a : Expr} {wa : DTE} {j : Tok} {pos pos' : Pos} (ha : EV X a wa) : EV X (.Compare a [.Is] [.Constant .none j pos'] pos) (wIsN wa) := PE.imp (pe_cmp (pc_isN ha)) up_isN
theorem ev_notN {a : Expr} {wa : DTE} {j : Tok} {pos pos' : Pos} (ha : EV X a wa) : EV X (.Compare a [.IsNot] [.Constant .none j pos'] pos) (wNotN wa) := PE.imp (pe_cmp (pc_notN ha)) up_notN
theorem tv_isN {a : Expr} {wa : DTE} {j : Tok} {pos pos' : Pos} (ha : EV X a wa) : TV X (.Compare a [.Is] [.Constant .none j pos'] pos) (wTest (wIsN wa)) := by
  refine PT.imp (pt_cmp (pc_isN ha)) fun σ H Q ⟨P, M, env, κ, R, w, k⟩ => ?_
  refine up_isN σ H _ ⟨P, M, env, _, R, w, fun v H1 x s1 R1 o1 w1 => ?_⟩
  obtain ⟨b, rfl, w2⟩ := w1
  exact ⟨b, DvM.bool (.im o1), k b H1 s1 R1 w2⟩
theorem tv_notN {a : Expr} {wa : DTE} {j : Tok} {pos pos' : Pos} (ha : EV X a wa) : TV X (.Compare a [.IsNot] [.Constant .none j pos'] pos) (wTest (wNotN wa)) := by
  refine PT.imp (pt_cmp (pc_notN ha)) fun σ H Q ⟨P, M, env, κ, R, w, k⟩ => ?_
  refine up_notN σ H _ ⟨P, M, env, _, R, w, fun v H1 x s1 R1 o1 w1 => ?_⟩
  obtain ⟨b, rfl, w2⟩ := w1
  exact ⟨b, DvM.bool (.im o1), k b H1 s1 R1 w2⟩
/-- chains -/
def wChain (R R' : D → D → D → Prop) (a b c : DTE) : DTE := fun env κ => a env fun x => b env fun y => ∃ d e k, x.get env = some d ∧ y.get env = some e ∧ R d e (.bool k) ∧
  if k = true then c env fun u => ∃ f z, u.get env = some f ∧ R' e f z ∧ κ (.d z) else κ (.d (.bool false))
theorem up_chain {a b c : DTE} {r r' : R2} {R R' : D → D → D → Prop} (sem : BinSem K r R) (sem' : BinSem K r' R') : ∀ σ H Q, up K (wChain R R' a b c) σ H Q → tChain r r' (up K a) (up K b) (up K c) σ H Q := by
  intro σ H Q ⟨P, M, env, κ, R0, w, k⟩
  refine ⟨P, M, env, _, R0, w, fun v H1 x s1 R1 o1 w1 => ?_⟩
  refine ⟨P, M, env, _, R1, w1, fun u H2 y s2 R2 o2 w2 => ?_⟩
  obtain ⟨d, e, b, e1, e2, hz, w3⟩ := w2
  have hp : ∀ p, P = some p → M p = true := fun p q => (R0.pool p q).1
  refine sem M H2 v u d e _ _ R2.trk ((o1.step s2 hp).rd R2 e1) (o2.rd R2 e2) hz fun w' H3 s3 r3 => ?_
  have R3 := R2.same s3
  refine ⟨b, DvM.bool (.im r3), ?_⟩
  cases b with
  | false => exact k _ H3 (.d (.bool false)) ((s1.trans s2).trans (SameP.of s3)) R3 (.bl _) w3
  | true =>
    refine ⟨P, M, env, _, R3, w3, fun t H4 z s4 R4 o4 w4 => ?_⟩
    obtain ⟨f, g, e3, hg, w5⟩ := w4
    refine sem' M H4 u t e f g Q R4.trk (((o2.step (SameP.of (P := P) s3) hp).step s4 hp).rd R4 e2) (o4.rd R4 e3) hg fun w6 H5 s5 r5 => ?_
    exact k w6 H5 (.d g) ((((s1.trans s2).trans (SameP.of s3)).trans s4).trans (SameP.of s5)) (R4.same s5) r5 w5
theorem ev_chain {a b c : Expr} {wa wb wc : DTE} {op op' : CmpOp} {pos : Pos} {r r' : R2} {R R' : D → D → D → Prop} (ho : L2.OpR X (compareOp op) r) (ho' : L2.OpR X (compareOp op') r') (sem : BinSem X.K r R) (sem' : BinSem X.K r' R')
    (ha : EV X a wa) (hb : EV X b wb) (hc : EV X c wc) (hm : lastMarks [op, op'] [b, c] = false := by with_unfolding_all rfl) : EV X (.Compare a [op, op'] [b, c] pos) (wChain R R' wa wb wc) := PE.imp (pe_chain ho ho' ha hb hc hm) (up_chain sem sem')
theorem tv_chain {a b c : Expr} {wa wb wc : DTE} {op op' : CmpOp} {pos : Pos} {r r' : R2} {R R' : D → D → D → Prop} (ho : L2.OpR X (compareOp op) r) (ho' : L2.OpR X (compareOp op') r') (sem : BinSem X.K r R) (sem' : BinSem X.K r' R')
    (ha : EV X a wa) (hb : EV X b wb) (hc : EV X c wc) (hm : lastMarks [op, op'] [b, c] = false := by with_unfolding_all rfl) : TV X (.Compare a [op, op'] [b, c] pos) (wTest (wChain R R' wa wb wc)) := by
  refine PT.imp (pt_chain ho ho' ha hb hc hm) fun σ H Q ⟨P, M, env, κ, R, w, k⟩ => ?_
  refine up_chain sem sem' σ H _ ⟨P, M, env, _, R, w, fun v H1 x s1 R1 o1 w1 => ?_⟩
  obtain ⟨b, rfl, w2⟩ := w1
  exact ⟨b, DvM.bool (.im o1), k b H1 s1 R1 w2⟩

/-! ### arguments, displays, calls -/
def wNil : DTA := fun _ κ => κ []
def wCons (a : DTE) (r : DTA) : DTA := fun env κ => a env fun x => r env fun xs => κ (x :: xs)
theorem av_nil : AV X [] wNil := PA.imp pa_nil fun σ H Q ⟨P, M, env, κ, R, w, k⟩ => k [] H [] SameP.refl R .nil w
theorem av_cons {e : Expr} {es : List Expr} {a : DTE} {r : DTA} (ha : EV X e a) (hr : AV X es r) (hs : starEach (e :: es) X.env = (false, eval e X.env) :: starEach es X.env := by rfl) : AV X (e :: es) (wCons a r) := by
  refine PA.imp (pa_cons ha hr hs) fun σ H Q ⟨P, M, env, κ, R, w, k⟩ => ?_
  refine ⟨P, M, env, _, R, w, fun v H1 x s1 R1 o1 w1 => ?_⟩
  refine ⟨P, M, env, _, R1, w1, fun vs H2 os s2 R2 o2 w2 => ?_⟩
  exact k _ H2 _ (s1.trans s2) R2 (.cons (o1.step s2 fun p q => (R.pool p q).1) o2) w2
/-- the operands are plain data -/
def dats : List Op → Option (List D)
  | [] => some []
  | .d x :: os => (dats os).map (x :: ·)
  | .v _ :: _ => none
theorem OpRs.dats {M : Hid} {H : Hp} {σ : St} {env : DEnv} {vs : List V} {os : List Op} (h : OpRs K M H σ env vs os) : ∀ {ds : List D}, DL.dats os = some ds → DvAll K (hid M H) vs ds := by
  induction h with
  | nil => intro ds e; cases e; exact .nil
  | @cons v vs o os a _ ih =>
    intro ds e
    cases o with
    | v i => cases e
    | d x =>
      unfold DL.dats at e
      cases e2 : DL.dats os with
      | none => rw [e2] at e; cases e
      | some xs =>
        rw [e2] at e
        cases e
        exact .cons a (ih e2)
def wTup (a : DTA) : DTE := fun env κ => a env fun os => ∃ ds, dats os = some ds ∧ ds.length ≤ 1000 ∧ κ (.d (.tuple ds))
def wLst (a : DTA) : DTE := fun env κ => a env fun os => ∃ ds, dats os = some ds ∧ ds.length ≤ 1000 ∧ κ (.d (.list ds))
theorem le_line {n : Nat} (h : n ≤ 1000) : n ≤ sizeLine := Nat.le_trans h (by decide)
theorem ev_tup {es : List Expr} {a : DTA} {x1 : _} {pos : Pos} (h : AV X es a) : EV X (.Tuple es x1 pos) (wTup a) := by
  refine PE.imp (pe_tupF h) fun σ H Q ⟨P, M, env, κ, R, w, k⟩ => ?_
  refine ⟨P, M, env, _, R, w, fun vs H1 os s1 R1 o1 w1 => ?_⟩
  obtain ⟨ds, e, hl, w2⟩ := w1
  have r := o1.dats e
  refine ⟨by rw [r.length]; exact le_line hl, fun p ob hp hd => ?_⟩
  exact k _ _ (.d (.tuple ds)) (s1.trans (SameP.of (same_new hp))) (R1.same (same_new hp)) (new_tup R1.trk hp hd r) w2
theorem ev_lst {es : List Expr} {a : DTA} {pos : Pos} (h : AV X es a) : EV X (.List es pos) (wLst a) := by
  refine PE.imp (pe_lst h) fun σ H Q ⟨P, M, env, κ, R, w, k⟩ => ?_
  refine ⟨P, M, env, _, R, w, fun vs H1 os s1 R1 o1 w1 => ?_⟩
  obtain ⟨ds, e, hl, w2⟩ := w1
  have r := o1.dats e
  refine ⟨by rw [r.length]; exact le_line hl, fun p hp => ?_⟩
  exact k _ _ (.d (.list ds)) (s1.trans (SameP.of (same_new hp))) (R1.same (same_new hp)) (new_lst R1.trk hp r) w2
/-- a built-in by values -/
def CallSem (K : PySem.W.Frag) (r : List V → Hp → VK → Prop) (R : List D → D → Prop) : Prop :=
  ∀ (M : Hid) (H : Hp) (vs : List V) (ds : List D) (z : D) (Q : VK), (∀ a, M a = true → H a ≠ none) → DvMs K M H vs ds → R ds z → (∀ w H', Same H H' → Dv K (hid M H') w z → Q w H') → r vs H Q
def wBlt (R : List D → D → Prop) (a : DTA) : DTE := fun env κ => a env fun os => ∃ ds z, gets env os = some ds ∧ R ds z ∧ κ (.d z)
theorem up_blt {a : DTA} {r : List V → Hp → VK → Prop} {R : List D → D → Prop} (sem : CallSem K r R) : ∀ σ H Q, up K (wBlt R a) σ H Q → tCB r (upA K a) σ H Q := by
  intro σ H Q ⟨P, M, env, κ, R0, w, k⟩
  refine ⟨P, M, env, _, R0, w, fun vs H1 os s1 R1 o1 w1 => ?_⟩
  obtain ⟨ds, z, e, hz, w2⟩ := w1
  exact sem M H1 vs ds z Q R1.trk (o1.rd R1 e) hz fun w' H2 s2 r2 => k w' H2 (.d z) (s1.trans (SameP.of s2)) (R1.same s2) r2 w2
theorem ev_callB {x : Str} {p pos : Pos} {e : Expr} {es : List Expr} {a : DTA} {id : String} {r : List V → Hp → VK → Prop} {R : List D → D → Prop} (hc : CallR X (.builtin id) r) (sem : CallSem X.K r R) (hg : Gl X x) (hm : X.mg x = none) (hv : bootBuiltins x = some (.builtin id))
    (ha : AV X (e :: es) a) (hn : x ≠ "__name__" := by decide) (hdb : (x == ("__debug__" : Str)) = false := by decide) (he : starEach (e :: es) X.env = (false, eval e X.env) :: starEach es X.env := by rfl) (hpl : (backTo pos (starEach es X.env)).any (·.1) = false := by rfl) : EV X (.Call (.Name x p) (e :: es) [] pos) (wBlt R a) :=
  PE.imp (pe_callB hc hg hm hv ha hn hdb he hpl) (up_blt sem)
theorem ev_callTy {x : Str} {p pos : Pos} {e : Expr} {es : List Expr} {a : DTA} {T : String} {r : List V → Hp → VK → Prop} {R : List D → D → Prop} (hc : CallR X (.type T) r) (sem : CallSem X.K r R) (hg : Gl X x) (hm : X.mg x = none) (hv : bootBuiltins x = some (.type T))
    (ha : AV X (e :: es) a) (hn : x ≠ "__name__" := by decide) (hdb : (x == ("__debug__" : Str)) = false := by decide) (he : starEach (e :: es) X.env = (false, eval e X.env) :: starEach es X.env := by rfl) (hpl : (backTo pos (starEach es X.env)).any (·.1) = false := by rfl) : EV X (.Call (.Name x p) (e :: es) [] pos) (wBlt R a) :=
  PE.imp (pe_callTy hc hg hm hv ha hn hdb he hpl) (up_blt sem)
end
end DL

namespace DL
open PySem L2
variable {K : PySem.W.Frag}

/-! ### a def's promise over data -/
abbrev DSp := List D → (D → Prop) → Prop
def Mono (g : DSp) : Prop := ∀ ds (p q : D → Prop), (∀ d, p d → q d) → g ds p → g ds q
def spF (K : PySem.W.Frag) (n : Nat) (g : DSp) : Sp := fun vs H Q _ => ∃ M ds, (∀ a, M a = true → H a ≠ none) ∧ DvAll K (hid M H) vs ds ∧ ds.length = n ∧ g ds fun d => ∀ v H', Same H H' → Dv K (hid M H') v d → Q v H'
/-- the first argument is the pool -/
def spP (K : PySem.W.Frag) (n : Nat) (g : DSp) : Sp := fun vs H Q _ => ∃ M p us ds, vs = .ref p :: us ∧ M p = true ∧ PoolAt K M H p ∧ (∀ a, M a = true → H a ≠ none) ∧ DvAll K (hid M H) us ds ∧ ds.length = n ∧
  g ds fun d => ∀ v H', SameP (some p) H H' → PoolAt K M H' p → Dv K (hid M H') v d → Q v H'
theorem spF_len {n : Nat} {g : DSp} : ∀ vs H Q E, spF K n g vs H Q E → vs.length = n := fun vs H Q E ⟨M, ds, _, r, e, _⟩ => by rw [r.length, e]
theorem spP_len {n : Nat} {g : DSp} : ∀ vs H Q E, spP K n g vs H Q E → vs.length = n + 1 := fun vs H Q E ⟨M, p, us, ds, e1, _, _, _, r, e, _⟩ => by rw [e1, List.length_cons, r.length, e]
/-- a part of what is hidden -/
def minus (M : Hid) (as : List Addr) : Hid := fun a => M a && !as.contains a
theorem hid_minus {M : Hid} {as : List Addr} {H : Hp} : Same (hid M H) (hid (minus M as) H) := fun a o e => by
  obtain ⟨e1, e2⟩ := hid_some.mp e
  exact hid_some.mpr ⟨by simp [minus, e1], e2⟩
theorem OpRs.own {P : Option Addr} {M : Hid} {H : Hp} {σ : St} {env : DEnv} (R : Rel K P M σ H env) {vs : List V} {os : List Op} (h : OpRs K M H σ env vs os) : ∀ {ds : List D}, gets env os = some ds →
    ∃ as : List Addr, (∀ a ∈ as, ∃ o, H a = some o ∧ ∀ ob xs, o ≠ .frz ob (.tup xs)) ∧ DvAll K (hid (minus M as) H) vs ds := by
  induction h with
  | nil => intro ds e; cases e; exact ⟨[], by simp, .nil⟩
  | @cons v vs o os a b ih =>
    intro ds e
    unfold gets at e
    cases e1 : o.get env with
    | none => rw [e1] at e; simp at e
    | some x =>
      cases e2 : gets env os with
      | none => rw [e1, e2] at e; simp at e
      | some xs =>
        rw [e1, e2] at e
        cases e
        obtain ⟨as, h1, h2⟩ := ih e2
        have up : ∀ c : Addr, Same (hid (minus M as) H) (hid (minus M (c :: as)) H) := fun c b o e => by
          obtain ⟨e1, e2⟩ := hid_some.mp e
          refine hid_some.mpr ⟨?_, e2⟩
          simp [minus] at e1 ⊢
          intro z
          intro _
          exact e1 z
        cases a.rd R e1 with
        | im r => exact ⟨as, h1, .cons (Dv.mono hid_minus _ _ r) h2⟩
        | @ml c ws es q r =>
          refine ⟨c :: as, ?_, .cons (.lst (hid_some.mpr ⟨by simp [minus], q⟩) (DvAll.mono hid_minus _ _ r)) (DvAll.mono (up c) _ _ h2)⟩
          intro a ha
          rcases List.mem_cons.mp ha with rfl | ha
          · exact ⟨_, q, fun _ _ e => by cases e⟩
          · exact h1 a ha
        | @md tk c kvs q =>
          have rest : Dv K (hid (minus M (c :: as)) H) (.ref c) (dctD tk kvs) ∧ ∃ o, H c = some o ∧ ∀ ob xs, o ≠ .frz ob (.tup xs) := by
            unfold DctAt at q
            split at q
            · rename_i cc
              subst cc
              obtain ⟨l, z1, z2⟩ := q
              exact ⟨.dcX (.inl (hid_some.mpr ⟨by simp [minus], z1⟩)) (z2.mono hid_minus), _, z1, fun _ _ e => by cases e⟩
            · rename_i cc
              cases tk with
              | true => exact absurd rfl cc
              | false =>
                obtain ⟨l, z1, z2⟩ := q
                exact ⟨.dcK (.inl (hid_some.mpr ⟨by simp [minus], z1⟩)) (z2.mono hid_minus), _, z1, fun _ _ e => by cases e⟩
          refine ⟨c :: as, ?_, .cons rest.1 (DvAll.mono (up c) _ _ h2)⟩
          intro a ha
          rcases List.mem_cons.mp ha with rfl | ha
          · exact rest.2
          · exact h1 a ha
/-- a call: its operands may be one's own lists where the answer holds no list -/
def wCall (n : Nat) (g : DSp) (a : DTA) : DTE := fun env κ => a env fun os => ∃ ds, gets env os = some ds ∧ ds.length = n ∧ g ds fun z => (flatD z || (dats os).isSome) = true ∧ κ (.d z)
theorem gets_dats {env : DEnv} : ∀ {os : List Op} {ds es : List D}, dats os = some ds → gets env os = some es → ds = es
  | [], _, _, h, h' => by cases h; cases h'; rfl
  | .v _ :: _, _, _, h, _ => by cases h
  | .d x :: os, ds, es, h, h' => by
    unfold dats at h
    unfold gets at h'
    cases e : dats os with
    | none => rw [e] at h; cases h
    | some xs =>
      rw [e] at h
      cases h
      cases e2 : gets env os with
      | none => rw [e2] at h'; simp [Op.get] at h'
      | some ys =>
        rw [e2] at h'
        simp [Op.get] at h'
        rw [← h', gets_dats e e2]
section
variable {X : Cx}
theorem up_call {n : Nat} {g : DSp} {a : DTA} {E : XK} (mono : Mono g) : ∀ σ H Q, up K (wCall n g a) σ H Q → tCall (spF K n g) [] E (upA K a) σ H Q := by
  intro σ H Q ⟨P, M, env, κ, R0, w, k⟩
  refine ⟨P, M, env, _, R0, w, fun vs H1 os s1 R1 o1 w1 => ?_⟩
  obtain ⟨ds, e, hl, w2⟩ := w1
  rw [List.append_nil]
  cases hd : dats os with
  | some es =>
    have ee := gets_dats hd e
    subst ee
    refine ⟨M, es, R1.trk, o1.dats hd, hl, mono _ _ _ (fun d ⟨_, hk⟩ v H' s r => ?_) w2⟩
    exact k v H' (.d d) (s1.trans (SameP.of s)) (R1.same s) r hk
  | none =>
    obtain ⟨as, h1, h2⟩ := o1.own R1 e
    refine ⟨minus M as, ds, fun a ha => R1.trk a (by simp [minus] at ha; exact ha.1), h2, hl, mono _ _ _ (fun d ⟨hf, hk⟩ v H' s r => ?_) w2⟩
    rw [hd] at hf
    simp at hf
    refine k v H' (.d d) (s1.trans (SameP.of s)) (R1.same s) (Dv.flat (fun a o xs q => ?_) _ _ hf r) hk
    obtain ⟨q1, q2⟩ := hid_some.mp q
    refine hid_some.mpr ⟨?_, q2⟩
    simp [minus] at q1
    cases hm : M a with
    | false => rfl
    | true =>
      obtain ⟨ys, q3, q4⟩ := h1 a (q1 hm)
      rw [s _ _ q3] at q2
      cases q2
      exact (q4 _ _ rfl).elim
theorem ev_call {x : Str} {p pos : Pos} {e : Expr} {es : List Expr} {a : DTA} {f : Addr} {fd : FuncData} {ps : List Str} {k n : Nat} {g : DSp} (F : FnOk X.prog X.w X.K X.mg X.base CX0 k f fd ps (spF X.K n g)) (mono : Mono g) (hr : Room k X.A) (hm : X.mg x = some (.ref f)) (hk : PySem.W.keepIn X.K (.ref f) = true) (hb : Binds X.K fd ps [])
    (ha : AV X (e :: es) a) (hg : Gl X x := by rfl) (hdb : (x == ("__debug__" : Str)) = false := by decide) (he : starEach (e :: es) X.env = (false, eval e X.env) :: starEach es X.env := by rfl) (hpl : (backTo pos (starEach es X.env)).any (·.1) = false := by rfl) : EV X (.Call (.Name x p) (e :: es) [] pos) (wCall n g a) :=
  PE.imp (pe_call F hr hg hm hk hb .nil pass0 ha hdb he hpl) (up_call mono)
/-- a call with the pool (in slot i) ahead -/
def wCallP (i n : Nat) (g : DSp) (a : DTA) : DTE := fun env κ => env[i]? = some .pl ∧ a env fun os => ∃ ds, dats os = some ds ∧ ds.length = n ∧ g ds fun z => κ (.d z)
theorem Rel.pooled {P : Option Addr} {M : Hid} {σ : St} {H H' : Hp} {env : DEnv} (R : Rel K P M σ H env) (s : SameP P H H') (hp : ∀ p, P = some p → PoolAt K M H' p) : Rel K P M σ H' env where
  len := R.len
  slot := fun i t e => (R.slot i t e).mono (fun a o q z => s a o (R.own i t a e q).2 z) (s.hid fun p q => (R.pool p q).1)
  own := R.own
  sep := R.sep
  trk := fun a e q => by
    by_cases hP : P = some a
    · obtain ⟨_, _, _, _, _, _, z, _⟩ := hp a hP
      rw [q] at z; cases z
    · cases z : H a with
      | none => exact R.trk a e z
      | some o => rw [s a o hP z] at q; cases q
  pool := fun p e => ⟨(R.pool p e).1, hp p e⟩
theorem up_callP {i n : Nat} {g : DSp} {a : DTA} {E : XK} (mono : Mono g) : ∀ σ H Q, up K (wCallP i n g a) σ H Q → tCall (spP K n g) [] E (tCons (tVar i) (upA K a)) σ H Q := by
  intro σ H Q ⟨P, M, env, κ, R0, ⟨w0, w⟩, k⟩
  obtain ⟨p, hP, hs⟩ := R0.slot i _ w0
  refine ⟨_, hs, P, M, env, _, R0, w, fun vs H1 os s1 R1 o1 w1 => ?_⟩
  obtain ⟨ds, e, hl, w2⟩ := w1
  rw [List.append_nil]
  refine ⟨M, p, vs, ds, rfl, (R1.pool p hP).1, (R1.pool p hP).2, R1.trk, o1.dats e, hl, mono _ _ _ (fun d hk v H' s q r => ?_) w2⟩
  subst hP
  exact k v H' (.d d) (s1.trans s) (R1.pooled s fun p' e' => by cases e'; exact q) r hk
theorem ev_callP {x : Str} {p pos : Pos} {e : Expr} {es : List Expr} {a : DTA} {f : Addr} {fd : FuncData} {ps : List Str} {k n : Nat} {g : DSp} (i : Nat) (F : FnOk X.prog X.w X.K X.mg X.base CX0 k f fd ps (spP X.K n g)) (mono : Mono g) (hr : Room k X.A) (hm : X.mg x = some (.ref f)) (hk : PySem.W.keepIn X.K (.ref f) = true) (hb : Binds X.K fd ps [])
    (hp : PE X e (tVar i)) (ha : AV X es a) (hg : Gl X x := by rfl) (hdb : (x == ("__debug__" : Str)) = false := by decide) (he : starEach (e :: es) X.env = (false, eval e X.env) :: starEach es X.env := by rfl) (hpl : (backTo pos (starEach es X.env)).any (·.1) = false := by rfl) : EV X (.Call (.Name x p) (e :: es) [] pos) (wCallP i n g a) :=
  PE.imp (pe_call F hr hg hm hk hb .nil pass0 (pa_cons hp ha he) hdb he hpl) (up_callP mono)

/-! ### what is walked -/
abbrev DTI := DEnv → (List D → Prop) → Prop
/-- the walk yields these, while what is shown stays -/
def ItS (K : PySem.W.Frag) (M : Hid) (H : Hp) (J : It) (ds : List D) : Prop :=
  ∀ H', Same (hid M H) (hid M H') → ∀ i, (∀ d, ds[i]? = some d → J.go i H' ∧ ∀ x H3, J.yld i H' x H3 → H3 = H' ∧ Dv K (hid M H) x d) ∧ (ds[i]? = none → i ≤ ds.length → J.stop i H')
/-- .. while all but the pool stays -/
def ItW (K : PySem.W.Frag) (P : Option Addr) (M : Hid) (H : Hp) (J : It) (ds : List D) : Prop :=
  ∀ H', SameP P H H' → ∀ i, (∀ d, ds[i]? = some d → J.go i H' ∧ ∀ x H3, J.yld i H' x H3 → H3 = H' ∧ Dv K (hid M H) x d) ∧ (ds[i]? = none → i ≤ ds.length → J.stop i H')
theorem ItS.w {P : Option Addr} {M : Hid} {H : Hp} {J : It} {ds : List D} (h : ItS K M H J ds) (hp : ∀ p, P = some p → M p = true) : ItW K P M H J ds := fun H' s => h H' (s.hid hp)
def upI (K : PySem.W.Frag) (ι : DTI) : TI := fun σ H R => ∃ P M env κ, Rel K P M σ H env ∧ ι env κ ∧ ∀ J H' ds, SameP P H H' → Rel K P M σ H' env → ItS K M H' J ds → κ ds → R J H'
def upIw (K : PySem.W.Frag) (ι : DTI) : TI := fun σ H R => ∃ P M env κ, Rel K P M σ H env ∧ ι env κ ∧ ∀ J H' ds, SameP P H H' → Rel K P M σ H' env → ItW K P M H' J ds → κ ds → R J H'
abbrev IV (X : Cx) (tg it : Expr) (ι : DTI) : Prop := PI X tg it (upI X.K ι)
abbrev IW (X : Cx) (tg it : Expr) (ι : DTI) : Prop := PI X tg it (upIw X.K ι)
theorem PI.imp {tg it : Expr} {t t' : TI} (a : PI X tg it t) (h : ∀ σ H Q, t' σ H Q → t σ H Q) : PI X tg it t' := ⟨fun pins s σ H Q I hw => a.run pins s σ H Q I (h σ H Q hw)⟩
theorem iv_w {tg it : Expr} {ι : DTI} (h : IV X tg it ι) : IW X tg it ι := PI.imp h fun σ H Q ⟨P, M, env, κ, R, w, k⟩ =>
  ⟨P, M, env, κ, R, w, fun J H' ds s R' i w' => k J H' ds s R' (i.w fun p q => (R'.pool p q).1) w'⟩
def wIt (a : DTE) (f : D → Option (List D)) : DTI := fun env κ => a env fun o => ∃ d ds, o = .d d ∧ f d = some ds ∧ κ ds
def wItV (a : DTE) : DTI := fun env κ => a env fun o => ∃ ds, o.get env = some (.list ds) ∧ κ ds
def isTup : D → Option (List D)
  | .tuple ds => some ds
  | _ => none
def isLst : D → Option (List D)
  | .list ds => some ds
  | _ => none
theorem get_len {α : Type} {l : List α} {i : Nat} (h : l[i]? = none) (h2 : i ≤ l.length) : i = l.length := by
  have := List.getElem?_eq_none_iff.mp h
  omega
theorem iv_tup {tg l : Expr} {a : DTE} (h : EV X l a) : IV X tg l (wIt a isTup) := by
  refine PI.imp (pi_tup h) fun σ H Q ⟨P, M, env, κ, R, w, k⟩ => ?_
  refine ⟨P, M, env, _, R, w, fun v H1 o s1 R1 o1 w1 => ?_⟩
  obtain ⟨d, ds, rfl, e, w2⟩ := w1
  cases d with
  | tuple es =>
    cases e
    obtain ⟨a, vs, rfl, q1, q2, q3⟩ := DvM.tuple (.im o1)
    obtain ⟨ob, q3, _⟩ := q3
    refine ⟨a, rfl, ⟨vs, q1⟩, k _ H1 _ s1 R1 (fun H' s i => ?_) w2⟩
    have q4 : SqT X.K H' a vs := .inl (.inr ⟨ob, hid_sub _ _ (s _ _ q3)⟩)
    refine ⟨fun d e => ?_, fun e hi => ⟨vs, q4, by rw [q2.length, get_len e hi]; exact Nat.le_refl _⟩⟩
    obtain ⟨v, e2, r⟩ := q2.get i e
    refine ⟨⟨vs, v, q4, e2⟩, fun x H3 y => ?_⟩
    obtain ⟨y1, y2⟩ := y
    have := y2 vs q4
    rw [e2] at this
    cases this
    exact ⟨y1, r⟩
  | _ => cases e
theorem iv_lst {tg l : Expr} {a : DTE} (h : EV X l a) : IV X tg l (wIt a isLst) := by
  refine PI.imp (pi_list h) fun σ H Q ⟨P, M, env, κ, R, w, k⟩ => ?_
  refine ⟨P, M, env, _, R, w, fun v H1 o s1 R1 o1 w1 => ?_⟩
  obtain ⟨d, ds, rfl, e, w2⟩ := w1
  cases d with
  | list es =>
    cases e
    have o1 : Dv X.K (hid M H1) v (.list ds) := o1
    cases o1 with
    | @lst a vs _ q1 q2 =>
    refine ⟨a, rfl, ⟨vs, SqL.of (hid_sub _ _ q1)⟩, k _ H1 _ s1 R1 (fun H' s i => ?_) w2⟩
    have q4 : SqL X.K H' a vs := SqL.of (hid_sub _ _ (s _ _ q1))
    refine ⟨fun d e => ?_, fun e hi => ⟨vs, q4, by rw [q2.length, get_len e hi]; exact Nat.le_refl _⟩⟩
    obtain ⟨v, e2, r⟩ := q2.get i e
    refine ⟨⟨vs, v, q4, e2⟩, fun x H3 y => ?_⟩
    obtain ⟨y1, y2⟩ := y
    have := y2 vs q4
    rw [e2] at this
    cases this
    exact ⟨y1, r⟩
  | _ => cases e
/-- a list, perhaps one's own -/
theorem iw_lst {tg l : Expr} {a : DTE} (h : EV X l a) : IW X tg l (wItV a) := by
  refine PI.imp (pi_list h) fun σ H Q ⟨P, M, env, κ, R, w, k⟩ => ?_
  refine ⟨P, M, env, _, R, w, fun v H1 o s1 R1 o1 w1 => ?_⟩
  obtain ⟨es, e, w2⟩ := w1
  have q := o1.rd R1 e
  have nP : ∀ a vs, (v = .ref a) → H1 a = some (.lst vs) → (P ≠ some a) := fun a vs ev q1 hP => by
    cases o with
    | d x =>
      cases e
      cases o1 with
      | lst q1 q2 =>
        cases ev
        have := (hid_some.mp q1).1
        rw [(R1.pool a hP).1] at this
        cases this
    | v i =>
      obtain ⟨h1, ⟨b, ds, h2⟩ | ⟨tk, b, kvs, h2⟩⟩ := o1
      · obtain ⟨z1, _⟩ := R1.slot i _ h2
        rw [h1] at z1
        rw [ev] at z1
        cases z1
        exact (R1.own i _ _ h2 rfl).2 hP
      · obtain ⟨z1, _⟩ := R1.slot i _ h2
        rw [h1] at z1
        rw [ev] at z1
        cases z1
        exact (R1.own i _ _ h2 rfl).2 hP
  obtain ⟨a, vs, rfl, q1, q2⟩ := q.list
  refine ⟨a, rfl, ⟨vs, SqL.of q1⟩, k _ H1 es s1 R1 (fun H' s i => ?_) w2⟩
  have q4 : SqL X.K H' a vs := SqL.of (s _ _ (nP a vs rfl q1) q1)
  refine ⟨fun d e => ?_, fun e hi => ⟨vs, q4, by rw [q2.length, get_len e hi]; exact Nat.le_refl _⟩⟩
  obtain ⟨v, e2, r⟩ := q2.get i e
  refine ⟨⟨vs, v, q4, e2⟩, fun x H3 y => ?_⟩
  obtain ⟨y1, y2⟩ := y
  have := y2 vs q4
  rw [e2] at this
  cases this
  exact ⟨y1, r⟩
/-- the ints lo, lo + 1, .. -/
def rangeD (lo : Int) (n : Nat) : List D := (List.range n).map fun (i : Nat) => .int (lo + i)
theorem rangeD_get {lo : Int} {n i : Nat} : (rangeD lo n)[i]? = if i < n then some (.int (lo + i)) else none := by
  unfold rangeD
  rw [List.getElem?_map]
  by_cases h : i < n
  · rw [if_pos h, List.getElem?_range h]; rfl
  · rw [if_neg h, List.getElem?_eq_none (by simpa using h)]; rfl
theorem rangeD_len {lo : Int} {n : Nat} : (rangeD lo n).length = n := by simp [rangeD]
def wRng1 (a : DTE) : DTI := fun env κ => a env fun o => ∃ j, o = .d (.int j) ∧ -1000000000 ≤ j ∧ j ≤ 1000000000 ∧ κ (rangeD 0 j.toNat)
def wRng2 (a b : DTE) : DTI := fun env κ => a env fun o => b env fun u => ∃ i j, o = .d (.int i) ∧ u = .d (.int j) ∧ -1000000000 ≤ i ∧ i ≤ 1000000000 ∧ -1000000000 ≤ j ∧ j ≤ 1000000000 ∧ κ (rangeD i (j - i).toNat)
theorem its_range {M : Hid} {H : Hp} {lo : Int} {n : Nat} : ItS K M H (Itr lo n) (rangeD lo n) := fun H' s i => by
  rw [rangeD_get]
  refine ⟨fun d e => ?_, fun e hi => ?_⟩
  · by_cases h : i < n
    · rw [if_pos h] at e
      cases e
      exact ⟨h, fun x H3 ⟨y1, y2⟩ => ⟨y1, by rw [y2]; exact .int _⟩⟩
    · rw [if_neg h] at e; cases e
  · by_cases h : i < n
    · rw [if_pos h] at e; cases e
    · exact Nat.le_of_not_lt h
theorem iv_rng1 {tg a : Expr} {wa : DTE} {p pos : Pos} (hm : X.mg "range" = none) (ha : EV X a wa) (hg : Gl X "range" := by rfl) (hs : starEach [a] X.env = (false, eval a X.env) :: starEach [] X.env := by rfl) (hs' : starEach [a] X.env = [(false, eval a X.env)] := by rfl) : IV X tg (.Call (.Name "range" p) [a] [] pos) (wRng1 wa) := by
  refine PI.imp (pi_range1 hg hm (pa_cons ha pa_nil hs) hs') fun σ H Q ⟨P, M, env, κ, R, w, k⟩ => ?_
  refine ⟨P, M, env, _, R, w, fun v H1 o s1 R1 o1 w1 => ?_⟩
  obtain ⟨j, rfl, h1, h2, w2⟩ := w1
  refine ⟨j, ?_, by omega, by omega, k _ H1 _ s1 R1 its_range w2⟩
  rw [DvM.int (.im o1)]
theorem iv_rng2 {tg a b : Expr} {wa wb : DTE} {p pos : Pos} (hm : X.mg "range" = none) (ha : EV X a wa) (hb : EV X b wb) (hg : Gl X "range" := by rfl) (hs : starEach [a, b] X.env = (false, eval a X.env) :: starEach [b] X.env := by rfl) (hs' : starEach [b] X.env = (false, eval b X.env) :: starEach [] X.env := by rfl) (h3 : starEach [a, b] X.env = [(false, eval a X.env), (false, eval b X.env)] := by rfl) (h4 : starEach [b] X.env = [(false, eval b X.env)] := by rfl) : IV X tg (.Call (.Name "range" p) [a, b] [] pos) (wRng2 wa wb) := by
  refine PI.imp (pi_range2 hg hm (pa_cons ha (pa_cons hb pa_nil hs') hs) h3 h4) fun σ H Q ⟨P, M, env, κ, R, w, k⟩ => ?_
  refine ⟨P, M, env, _, R, w, fun v H1 o s1 R1 o1 w1 => ?_⟩
  refine ⟨P, M, env, _, R1, w1, fun u H2 o' s2 R2 o2 w2 => ?_⟩
  obtain ⟨i, j, rfl, rfl, h1, h2, h3, h4, w3⟩ := w2
  refine ⟨i, j, ?_, ⟨by omega, by omega, by omega, by omega⟩, k _ H2 _ (s1.trans s2) R2 its_range w3⟩
  rw [DvM.int (.im o1), DvM.int (.im o2)]
/-- a text, sign by sign -/
def isStr : D → Option (List D)
  | .str x => some (x.cps.toList.map fun c => .str ⟨#[c]⟩)
  | _ => none
theorem iv_str {tg l : Expr} {a : DTE} (h : EV X l a) : IV X tg l (wIt a isStr) := by
  refine PI.imp (pi_str h) fun σ H Q ⟨P, M, env, κ, R, w, k⟩ => ?_
  refine ⟨P, M, env, _, R, w, fun v H1 o s1 R1 o1 w1 => ?_⟩
  obtain ⟨d, ds, rfl, e, w2⟩ := w1
  cases d with
  | str x =>
    cases e
    refine ⟨x, DvM.str (.im o1), k _ H1 _ s1 R1 (fun H' s i => ?_) w2⟩
    rw [List.getElem?_map]
    refine ⟨fun d e => ?_, fun e hi => ?_⟩
    · cases e2 : x.cps.toList[i]? with
      | none => rw [e2] at e; cases e
      | some c =>
        rw [e2] at e
        cases e
        have h1 : i < x.cps.size := by
          have := (List.getElem?_eq_some_iff.mp e2).1
          simpa using this
        have e2' : x.cps[i]? = some c := by rw [← e2]; simp
        refine ⟨h1, fun y H3 ⟨y1, c', y2, y3⟩ => ⟨y1, ?_⟩⟩
        rw [e2'] at y2
        cases y2
        rw [y3]
        exact .str _
    · have e : x.cps.toList[i]? = none := by
        cases e2 : x.cps.toList[i]? with
        | none => rfl
        | some c => rw [e2] at e; cases e
      have := List.getElem?_eq_none_iff.mp e
      show x.cps.size ≤ i
      simpa using this
  | _ => cases e

/-! ### targets -/
abbrev DTG := D → DEnv → (DEnv → Prop) → Prop
/-- g does over values as γ over data; it touches the slots at vs alone -/
def GSem (K : PySem.W.Frag) (g : TG) (γ : DTG) (vs : List Nat) : Prop :=
  ∀ (P : Option Addr) (M : Hid) (σ : St) (H : Hp) (env : DEnv) (v : V) (d : D) (κ : DEnv → Prop) (Q : St → Hp → Prop), Rel K P M σ H env → Dv K (hid M H) v d → γ d env κ →
    (∀ σ' env', Rel K P M σ' H env' → wipe σ' vs = wipe σ vs → (∀ (i : Nat) s a, env'[i]? = some s → ownA s = some a → env[i]? = some s) → κ env' → Q σ' H) → g v σ H Q
theorem Rel.set {P : Option Addr} {M : Hid} {σ : St} {H : Hp} {env : DEnv} (R : Rel K P M σ H env) (i : Nat) {v : V} {d : D} (h : Dv K (hid M H) v d) : Rel K P M (σ.set i (some v)) H (env.set i (.im d)) where
  len := by rw [List.length_set, List.length_set]; exact R.len
  slot := fun j s e => by
    by_cases hj : i = j
    · subst hj
      by_cases hl : i < env.length
      · rw [List.getElem?_set_self hl] at e
        cases e
        refine ⟨v, ?_, h⟩
        rw [List.getElem?_set_self (by rw [R.len]; exact hl)]
      · rw [List.getElem?_eq_none (by rw [List.length_set]; omega)] at e; cases e
    · rw [List.getElem?_set_ne hj] at e ⊢
      exact R.slot j s e
  own := fun j s a e q => by
    by_cases hj : i = j
    · subst hj
      by_cases hl : i < env.length
      · rw [List.getElem?_set_self hl] at e; cases e; cases q
      · rw [List.getElem?_eq_none (by rw [List.length_set]; omega)] at e; cases e
    · rw [List.getElem?_set_ne hj] at e
      exact R.own j s a e q
  sep := fun j k s t a e1 e2 q1 q2 => by
    have go : ∀ (j : Nat) s, (env.set i (.im d))[j]? = some s → ownA s = some a → env[j]? = some s := fun j s e q => by
      by_cases hj : i = j
      · subst hj
        by_cases hl : i < env.length
        · rw [List.getElem?_set_self hl] at e; cases e; cases q
        · rw [List.getElem?_eq_none (by rw [List.length_set]; omega)] at e; cases e
      · rw [List.getElem?_set_ne hj] at e; exact e
    exact R.sep j k s t a (go j s e1 q1) (go k t e2 q2) q1 q2
  trk := R.trk
  pool := R.pool
theorem set_own {env : DEnv} {i : Nat} {d : D} : ∀ (j : Nat) s a, (env.set i (.im d))[j]? = some s → ownA s = some a → env[j]? = some s := fun j s a e q => by
  by_cases hj : i = j
  · subst hj
    by_cases hl : i < env.length
    · rw [List.getElem?_set_self hl] at e; cases e; cases q
    · rw [List.getElem?_eq_none (by rw [List.length_set]; omega)] at e; cases e
  · rw [List.getElem?_set_ne hj] at e; exact e
theorem wipe_out {σ : St} {i : Nat} {x : Option V} : ∀ (ws : List Nat), i ∉ ws → wipe (σ.set i x) ws = (wipe σ ws).set i x := by
  intro ws
  induction ws with
  | nil => intro _; rfl
  | cons w ws ih =>
    intro hn
    unfold wipe
    rw [ih (fun z => hn (List.mem_cons_of_mem _ z)), List.set_comm _ _ (fun z => hn (by rw [z]; exact List.mem_cons_self))]
theorem wipe_set {σ : St} {i : Nat} {x : Option V} : ∀ {vs : List Nat}, i ∈ vs → wipe (σ.set i x) vs = wipe σ vs
  | v :: vs, h => by
    unfold wipe
    by_cases hv : i ∈ vs
    · rw [wipe_set hv]
    · have e : i = v := by
        rcases List.mem_cons.mp h with e | e
        · exact e
        · exact absurd e hv
      subst e
      rw [wipe_out vs hv, List.set_set]
theorem wipe_wipe {σ : St} : ∀ vs : List Nat, wipe (wipe σ vs) vs = wipe σ vs
  | [] => rfl
  | v :: vs => by
    show (wipe ((wipe σ vs).set v none) vs).set v none = (wipe σ vs).set v none
    by_cases h : v ∈ vs
    · rw [wipe_set h, wipe_wipe vs]
    · rw [wipe_out vs h, wipe_wipe vs, List.set_set]
def wN (i : Nat) : DTG := fun d env κ => κ (env.set i (.im d))
theorem gs_name (i : Nat) {vs : List Nat} (h : i ∈ vs) : GSem K (gName i) (wN i) vs := fun P M σ H env v d κ Q R r w k =>
  k _ _ (R.set i r) (wipe_set h) set_own w
def wN2 (i j : Nat) : DTG := fun d env κ => ∃ x y, d = .tuple [x, y] ∧ κ ((env.set i (.im x)).set j (.im y))
theorem gs_two (i j : Nat) {vs : List Nat} (hi : i ∈ vs) (hj : j ∈ vs) : GSem K (gTup K 2 (gCons (gName i) (gCons (gName j) gNil))) (wN2 i j) vs := by
  intro P M σ H env v d κ Q R r w k
  obtain ⟨x, y, rfl, w⟩ := w
  obtain ⟨a, us, rfl, q1, q2, _⟩ := DvM.tuple (.im r)
  cases q2 with
  | @cons v1 r1 _ _ h1 t1 =>
    cases t1 with
    | @cons v2 r2 _ _ h2 t2 =>
      cases t2
      refine ⟨a, _, rfl, q1, rfl, v1, [v2], rfl, v2, [], rfl, rfl, ?_⟩
      exact k _ _ ((R.set i h1).set j h2) (by rw [wipe_set hj, wipe_set hi]) (fun n s b e q => set_own n s b (set_own n s b e q) q) w
def wN3 (i j l : Nat) : DTG := fun d env κ => ∃ x y z, d = .tuple [x, y, z] ∧ κ (((env.set i (.im x)).set j (.im y)).set l (.im z))
theorem gs_three (i j l : Nat) {vs : List Nat} (hi : i ∈ vs) (hj : j ∈ vs) (hl : l ∈ vs) : GSem K (gTup K 3 (gCons (gName i) (gCons (gName j) (gCons (gName l) gNil)))) (wN3 i j l) vs := by
  intro P M σ H env v d κ Q R r w k
  obtain ⟨x, y, z, rfl, w⟩ := w
  obtain ⟨a, us, rfl, q1, q2, _⟩ := DvM.tuple (.im r)
  cases q2 with
  | @cons v1 r1 _ _ h1 t1 =>
    cases t1 with
    | @cons v2 r2 _ _ h2 t2 =>
      cases t2 with
      | @cons v3 r3 _ _ h3 t3 =>
        cases t3
        refine ⟨a, _, rfl, q1, rfl, v1, [v2, v3], rfl, v2, [v3], rfl, v3, [], rfl, rfl, ?_⟩
        exact k _ _ (((R.set i h1).set j h2).set l h3) (by rw [wipe_set hl, wipe_set hj, wipe_set hi]) (fun n s b e q => set_own n s b (set_own n s b (set_own n s b e q) q) q) w

/-! ### list comprehensions -/
def wipeE (env : DEnv) : List Nat → DEnv
  | [] => env
  | v :: vs => (wipeE env vs).set v .un
theorem Rel.un {P : Option Addr} {M : Hid} {σ : St} {H : Hp} {env : DEnv} (R : Rel K P M σ H env) (i : Nat) (x : Option V) : Rel K P M (σ.set i x) H (env.set i .un) where
  len := by rw [List.length_set, List.length_set]; exact R.len
  slot := fun j s e => by
    by_cases hj : i = j
    · subst hj
      by_cases hl : i < env.length
      · rw [List.getElem?_set_self hl] at e
        cases e
        trivial
      · rw [List.getElem?_eq_none (by rw [List.length_set]; omega)] at e; cases e
    · rw [List.getElem?_set_ne hj] at e ⊢
      exact R.slot j s e
  own := fun j s a e q => by
    by_cases hj : i = j
    · subst hj
      by_cases hl : i < env.length
      · rw [List.getElem?_set_self hl] at e; cases e; cases q
      · rw [List.getElem?_eq_none (by rw [List.length_set]; omega)] at e; cases e
    · rw [List.getElem?_set_ne hj] at e
      exact R.own j s a e q
  sep := fun j k s t a e1 e2 q1 q2 => by
    have go : ∀ (j : Nat) s, (env.set i .un)[j]? = some s → ownA s = some a → env[j]? = some s := fun j s e q => by
      by_cases hj : i = j
      · subst hj
        by_cases hl : i < env.length
        · rw [List.getElem?_set_self hl] at e; cases e; cases q
        · rw [List.getElem?_eq_none (by rw [List.length_set]; omega)] at e; cases e
      · rw [List.getElem?_set_ne hj] at e; exact e
    exact R.sep j k s t a (go j s e1 q1) (go k t e2 q2) q1 q2
  trk := R.trk
  pool := R.pool
theorem Rel.wipe {P : Option Addr} {M : Hid} {σ : St} {H : Hp} {env : DEnv} (R : Rel K P M σ H env) : ∀ vs : List Nat, Rel K P M (L2.wipe σ vs) H (wipeE env vs)
  | [] => R
  | v :: vs => (Rel.wipe R vs).un v none
theorem wipeE_own {env : DEnv} : ∀ {vs : List Nat} (j : Nat) s a, (wipeE env vs)[j]? = some s → ownA s = some a → env[j]? = some s
  | [], _, _, _, e, _ => e
  | v :: vs, j, s, a, e, q => by
    unfold wipeE at e
    by_cases hj : v = j
    · subst hj
      by_cases hl : v < (wipeE env vs).length
      · rw [List.getElem?_set_self hl] at e; cases e; cases q
      · rw [List.getElem?_eq_none (by rw [List.length_set]; omega)] at e; cases e
    · rw [List.getElem?_set_ne hj] at e
      exact wipeE_own j s a e q
abbrev TVs (X : Cx) (ifs : List Expr) (ω : DTT) : Prop := PTs X ifs (upT X.K ω)
def wYes : DTT := fun _ κ => κ true
theorem PTs.imp {e : List Expr} {t t' : TT} (a : PTs X e t) (h : ∀ σ H Q, t' σ H Q → t σ H Q) : PTs X e t' := ⟨fun pins s σ H Q I hw => a.run pins s σ H Q I (h σ H Q hw)⟩
theorem tvs_nil : TVs X [] wYes := PTs.imp pts_nil fun σ H Q ⟨P, M, env, κ, R, w, k⟩ => k true H SameP.refl R w
theorem tvs_one {c : Expr} {t : DTT} (h : TV X c t) : TVs X [c] t := pts_one h
/-- the items one by one -/
def lcW (f : D → (Option D → Prop) → Prop) (κ : List D → Prop) : List D → List D → Prop
  | [], acc => κ acc
  | d :: ds, acc => f d fun r => match r with
    | some y => lcW f κ ds (acc ++ [y])
    | none => lcW f κ ds acc
def elW (g : DTG) (t : DTT) (e : DTE) (env : DEnv) (d : D) (k : Option D → Prop) : Prop :=
  g d env fun env' => t env' fun b => if b = true then e env' (fun o => ∃ y, o = .d y ∧ k (some y)) else k none
def wLc (ι : DTI) (g : DTG) (t : DTT) (e : DTE) (vs : List Nat) : DTE := fun env κ => ι env fun ds => ds.length ≤ 1000000 ∧ lcW (elW g t e (wipeE env vs)) (fun ys => κ (.d (.list ys))) ds []
theorem up_lc {ι : DTI} {g : TG} {γ : DTG} {t : DTT} {e : DTE} {vs : List Nat} (hg : GSem K g γ vs) : ∀ σ H Q, up K (wLc ι γ t e vs) σ H Q → tLc (upIw K ι) g (upT K t) (up K e) vs σ H Q := by
  intro σ H Q ⟨P, M, env, κ, R0, w, k⟩
  refine ⟨P, M, env, _, R0, w, fun J H1 ds s1 R1 it w1 => ?_⟩
  obtain ⟨hlen, w1⟩ := w1
  intro D0 hD
  have mP : ∀ p, P = some p → M p = true := fun p q => (R1.pool p q).1
  have mO : ∀ (i : Nat) s b, env[i]? = some s → ownA s = some b → M b = true := fun i s b e q => (R1.own i s b e q).1
  have oD : ∀ (i : Nat) s, env[i]? = some s → ownA s ≠ some D0 := fun i s e q => R1.trk D0 (R1.own i s D0 e q).1 hD
  have pD : P ≠ some D0 := fun q => R1.trk D0 (mP D0 q) hD
  have mD : M D0 = false := by
    cases e : M D0 with
    | false => rfl
    | true => exact absurd hD (R1.trk D0 e)
  let St := fun (i : Nat) (H' : Hp) => ∃ acc vacc, H' D0 = some (.lst vacc) ∧ DvAll K (hid (more M D0) H') vacc acc ∧ acc.length ≤ i ∧ SameP P H1 H' ∧ Rel K P (more M D0) σ H' env ∧ lcW (elW γ t e (wipeE env vs)) (fun ys => κ (.d (.list ys))) (ds.drop i) acc
  have s0 : Same H1 (upd H1 D0 (.lst [])) := same_new hD
  refine ⟨fun i m H' => m = ds.length - i ∧ i ≤ ds.length ∧ St i H', ⟨_, rfl, Nat.zero_le _, [], [], upd_same, .nil, Nat.le_refl _, SameP.of s0, R1.hide hD, by simpa using w1⟩, ?_⟩
  rintro i m H2 ⟨rfl, hi, acc, vacc, hA, rA, lA, sA, RA, wA⟩
  by_cases hlt : i < ds.length
  · -- a turn
    refine .inr ⟨((it H2 sA i).1 ds[i] (by simp [hlt])).1, fun H' => i + 1 ≤ ds.length ∧ St (i + 1) H', fun H' p => ⟨ds.length - (i + 1), by omega, rfl, p.1, p.2⟩, fun x H3 y => ?_⟩
    obtain ⟨e3, rx⟩ := ((it H2 sA i).1 ds[i] (by simp [hlt])).2 x H3 y
    subst e3
    have hs : Same (hid M H1) (hid (more M D0) H3) := by
      have h1 : Same (hid M H1) (hid (more M D0) (upd H1 D0 (.lst []))) := by rw [hid_more_upd hD]; exact Same.refl _
      refine h1.trans fun a o e => ?_
      obtain ⟨e1, e2⟩ := hid_some.mp e
      refine hid_some.mpr ⟨e1, sA a o (fun q => ?_) ?_⟩
      · rw [more_of (mP a q)] at e1; cases e1
      · have ne : a ≠ D0 := fun q => by subst q; rw [more_self] at e1; cases e1
        rwa [upd_ne ne] at e2
    have wB : elW γ t e (wipeE env vs) ds[i] (fun r => match r with
        | some y => lcW (elW γ t e (wipeE env vs)) (fun ys => κ (.d (.list ys))) (ds.drop (i + 1)) (acc ++ [y])
        | none => lcW (elW γ t e (wipeE env vs)) (fun ys => κ (.d (.list ys))) (ds.drop (i + 1)) acc) := by
      rw [List.drop_eq_getElem_cons hlt] at wA
      exact wA
    refine hg P (more M D0) _ H3 _ x ds[i] _ _ (RA.wipe vs) (Dv.mono hs _ _ rx) wB fun σ4 env4 R4 hw hown w4 => ?_
    refine ⟨?_, P, more M D0, env4, _, R4, w4, fun b H5 s5 R5 w5 => ?_⟩
    · rw [hw, wipe_wipe]
    have back : ∀ {H' : Hp}, SameP P H3 H' → Rel K P (more M D0) σ4 H' env4 → Rel K P (more M D0) σ H' env := fun {H'} s R' =>
      RA.pooled s fun p e => (R'.pool p e).2
    cases b with
    | false =>
      refine iteF ?_
      refine ⟨hlt, acc, vacc, s5 _ _ pD hA, DvAll.mono (s5.hid fun p q => more_of (mP p q)) _ _ rA, by omega, sA.trans s5, back s5 R5, w5⟩
    | true =>
      refine iteT ?_
      refine ⟨P, more M D0, env4, _, R5, w5, fun v H6 o s6 R6 o6 w6 => ?_⟩
      obtain ⟨y, rfl, w7⟩ := w6
      have s56 := s5.trans s6
      have hA6 : H6 D0 = some (.lst vacc) := s56 _ _ pD hA
      have rA6 := DvAll.mono (s56.hid fun p q => more_of (mP p q)) _ _ rA
      refine ⟨vacc, hA6, ?_, hlt, acc ++ [y], vacc ++ [v], upd_same, ?_, by simp; omega, ?_, ?_, w7⟩
      · rw [rA.length]
        exact Nat.lt_of_le_of_lt (Nat.le_trans lA (Nat.le_trans hi hlen)) (by decide)
      · rw [hid_upd more_self]
        exact rA6.append (.cons o6 .nil)
      · intro a o hp e
        have ne : a ≠ D0 := fun q => by subst q; rw [hD] at e; cases e
        rw [upd_ne ne]
        exact (sA.trans s56) a o hp e
      · exact (back s56 R6).updHid more_self pD oD
  · have e : i = ds.length := by omega
    subst e
    refine .inl ⟨(it H2 sA ds.length).2 (by simp) (Nat.le_refl _), ?_⟩
    rw [List.drop_length] at wA
    refine k _ H2 (.d (.list acc)) (s1.trans sA) (RA.show mO mP) ?_ wA
    exact .lst (hid_some.mpr ⟨mD, hA⟩) (DvAll.mono hid_more_sub _ _ rA)
theorem ev_lc {elt tg iter : Expr} {ifs : List Expr} {scope : Scope} {own : List (Str × Nat)} {pos : Pos} {ι : DTI} {g : TG} {γ : DTG} {t : DTT} {e : DTE} (hc : X.calm = true) (hN : X.N.Nodup) (hi : IW X tg iter ι) (ok : BlkOk X.N X.env.scope scope own) (gs : GSem X.K g γ (own.map (·.2)))
    (hg : ∀ (s : Shared) (H : Hp) (C : Addr) (cl : List (Str × Addr)) (fp : List Addr), PG (X.blk s H scope (compEnvC scope cl C X.env) fp) tg g) (ht : ∀ (s : Shared) (H : Hp) (C : Addr) (cl : List (Str × Addr)) (fp : List Addr), TVs (X.blk s H scope (compEnvC scope cl C X.env) fp) ifs t)
    (he : ∀ (s : Shared) (H : Hp) (C : Addr) (cl : List (Str × Addr)) (fp : List Addr), EV (X.blk s H scope (compEnvC scope cl C X.env) fp) elt e) (hs : ∀ x, foldedSetIterable iter X.env x = pure x := by intro _; rfl) :
    EV X (.ListComp elt [⟨tg, iter, ifs, 0⟩] scope pos) (wLc ι γ t e (own.map (·.2))) := PE.imp (pe_lc hc hN hi ok hg ht he hs) (up_lc gs)
end
end DL

namespace DL
open PySem L2
variable {K : PySem.W.Frag}

/-! ### statements -/
structure DEnds where
  nx : DEnv → Prop
  rt : D → DEnv → Prop
  bk : DEnv → Prop := fun _ => False
  ct : DEnv → Prop := fun _ => False
abbrev DTS := DEnds → DEnv → Prop
/-- the state of a def's body: M0 is hidden by the caller, He the heap at the entry -/
structure RelS (K : PySem.W.Frag) (P : Option Addr) (M0 : Hid) (He : Hp) (σ : St) (H : Hp) (env : DEnv) : Prop where
  rel : ∃ M, Rel K P M σ H env ∧ (∀ a, M0 a = true → M a = true) ∧ (∀ a, M a = true → M0 a = true ∨ He a = none)
  same : SameP P He H
  mine : ∀ (i : Nat) s a, env[i]? = some s → ownA s = some a → He a = none
  trk : ∀ a, M0 a = true → He a ≠ none
structure EndsR (K : PySem.W.Frag) (P : Option Addr) (M0 : Hid) (He : Hp) (D0 : Ends) (δ : DEnds) : Prop where
  nx : ∀ σ H env, RelS K P M0 He σ H env → δ.nx env → D0.nx σ H
  rt : ∀ v σ H env d, RelS K P M0 He σ H env → Dv K (hid M0 H) v d → δ.rt d env → D0.rt v H
  bk : ∀ σ H env, RelS K P M0 He σ H env → δ.bk env → D0.bk σ H
  ct : ∀ σ H env, RelS K P M0 He σ H env → δ.ct env → D0.ct σ H
def upS (K : PySem.W.Frag) (τ : DTS) : TS := fun D0 σ H => ∃ P M0 He δ env, RelS K P M0 He σ H env ∧ EndsR K P M0 He D0 δ ∧ τ δ env
abbrev SV (X : Cx) (st : Stmt) (τ : DTS) : Prop := PS X st (upS X.K τ)
abbrev SVs (X : Cx) (st : List Stmt) (τ : DTS) : Prop := PSs X st (upS X.K τ)
section
variable {P : Option Addr} {M0 M : Hid} {He H H' : Hp} {σ : St} {env env' : DEnv}
/-- an expression has run -/
theorem RelS.step (R : RelS K P M0 He σ H env) (h0 : ∀ a, M0 a = true → M a = true) (h1 : ∀ a, M a = true → M0 a = true ∨ He a = none) (s : SameP P H H') (r : Rel K P M σ H' env) : RelS K P M0 He σ H' env :=
  ⟨⟨M, r, h0, h1⟩, R.same.trans s, R.mine, R.trk⟩
theorem RelS.sub {σ' : St} (R : RelS K P M0 He σ H env) (h0 : ∀ a, M0 a = true → M a = true) (h1 : ∀ a, M a = true → M0 a = true ∨ He a = none) (r : Rel K P M σ' H env') (o : ∀ (i : Nat) s a, env'[i]? = some s → ownA s = some a → env[i]? = some s) : RelS K P M0 He σ' H env' :=
  ⟨⟨M, r, h0, h1⟩, R.same, fun i s a e q => R.mine i s a (o i s a e q) q, R.trk⟩
end
section
variable {X : Cx}
def wSeq (a b : DTS) : DTS := fun δ env => a { δ with nx := b δ } env
def wNext : DTS := fun δ env => δ.nx env
theorem svs_nil : SVs X [] wNext := PSs.imp pss_nil fun D0 σ H ⟨P, M0, He, δ, env, R, E, w⟩ => E.nx σ H env R w
theorem svs_one {st : Stmt} {a : DTS} (h : SV X st a) : SVs X [st] a := pss_one h
theorem svs_cons {st : Stmt} {rest : List Stmt} {a b : DTS} (h1 : SV X st a) (h2 : SVs X rest b) : SVs X (st :: rest) (wSeq a b) := by
  refine PSs.imp (pss_cons h1 h2) fun D0 σ H ⟨P, M0, He, δ, env, R, E, w⟩ => ?_
  exact ⟨P, M0, He, { δ with nx := b δ }, env, R, ⟨fun σ' H' env' R' w' => ⟨P, M0, He, δ, env', R', E, w'⟩, E.rt, E.bk, E.ct⟩, w⟩
def wRet (a : DTE) : DTS := fun δ env => a env fun o => ∃ d, o.get env = some d ∧ δ.rt d env
theorem dv_back {P : Option Addr} {M0 M : Hid} {He H : Hp} {σ : St} {env : DEnv} {v : V} {o : Op} {d : D} (R : RelS K P M0 He σ H env) (h0 : ∀ a, M0 a = true → M a = true) (r : Rel K P M σ H env) (q : OpR K M H σ env v o) (e : o.get env = some d) : Dv K (hid M0 H) v d := by
  have up : Same (hid M H) (hid M0 H) := fun a o e => by
    obtain ⟨e1, e2⟩ := hid_some.mp e
    refine hid_some.mpr ⟨?_, e2⟩
    cases z : M0 a with
    | false => rfl
    | true => rw [h0 a z] at e1; cases e1
  cases o with
  | d x => cases e; exact Dv.mono up _ _ q
  | v i =>
    obtain ⟨h1, ⟨a, ds, h2⟩ | ⟨tk, a, kvs, h2⟩⟩ := q
    · have e' : Op.get env (.v i) = some (.list ds) := by simp [Op.get, h2]
      rw [e'] at e
      cases e
      obtain ⟨q1, vs, q2, q3⟩ := r.slot i _ h2
      rw [h1] at q1
      cases q1
      refine .lst (hid_some.mpr ⟨?_, q2⟩) (DvAll.mono up _ _ q3)
      cases z : M0 a with
      | false => rfl
      | true => exact absurd (R.mine i _ a h2 rfl) (R.trk a z)
    · have e' : Op.get env (.v i) = some (dctD tk kvs) := by simp [Op.get, h2]
      rw [e'] at e
      cases e
      obtain ⟨q1, q2⟩ := r.slot i _ h2
      rw [h1] at q1
      cases q1
      have m0 : M0 a = false := by
        cases z : M0 a with
        | false => rfl
        | true => exact absurd (R.mine i _ a h2 rfl) (R.trk a z)
      unfold DctAt at q2
      split at q2
      · rename_i c
        subst c
        obtain ⟨l, z1, z2⟩ := q2
        exact .dcX (.inl (hid_some.mpr ⟨m0, z1⟩)) (z2.mono up)
      · rename_i c
        cases tk with
        | true => exact absurd rfl c
        | false =>
          obtain ⟨l, z1, z2⟩ := q2
          exact .dcK (.inl (hid_some.mpr ⟨m0, z1⟩)) (z2.mono up)
theorem sv_ret {e : Expr} {a : DTE} {pos : Pos} (h : EV X e a) : SV X (.Return (some e) pos) (wRet a) := by
  refine PS.imp (ps_ret h) fun D0 σ H ⟨P, M0, He, δ, env, R, E, w⟩ => ?_
  obtain ⟨M, r, h0, h1⟩ := R.rel
  refine ⟨P, M, env, _, r, w, fun v H1 o s1 R1 o1 ⟨d, e1, w1⟩ => ?_⟩
  have R' := R.step h0 h1 s1 R1
  exact E.rt v σ H1 env d R' (dv_back R' h0 R1 o1 e1) w1
/-- return a, b: lists of one's own may be among them -/
def wRetT (a : DTA) : DTS := fun δ env => a env fun os => ∃ ds, gets env os = some ds ∧ ds.length ≤ 1000 ∧ δ.rt (.tuple ds) env
theorem dvs_back {P : Option Addr} {M0 M : Hid} {He H : Hp} {σ : St} {env : DEnv} (R : RelS K P M0 He σ H env) (h0 : ∀ a, M0 a = true → M a = true) (r : Rel K P M σ H env) {vs : List V} {os : List Op} (q : OpRs K M H σ env vs os) : ∀ {ds : List D}, gets env os = some ds → DvAll K (hid M0 H) vs ds := by
  induction q with
  | nil => intro ds e; cases e; exact .nil
  | @cons v vs o os a b ih =>
    intro ds e
    unfold gets at e
    cases e1 : o.get env with
    | none => rw [e1] at e; simp at e
    | some x =>
      cases e2 : gets env os with
      | none => rw [e1, e2] at e; simp at e
      | some xs =>
        rw [e1, e2] at e
        cases e
        exact .cons (dv_back R h0 r a e1) (ih e2)
theorem sv_retT {es : List Expr} {a : DTA} {x1 : _} {pos tpos : Pos} (h : AV X es a) : SV X (.Return (some (.Tuple es x1 tpos)) pos) (wRetT a) := by
  refine PS.imp (ps_ret (pe_tupF h)) fun D0 σ H ⟨P, M0, He, δ, env, R, E, w⟩ => ?_
  obtain ⟨M, r, h0, h1⟩ := R.rel
  refine ⟨P, M, env, _, r, w, fun vs H1 os s1 R1 o1 ⟨ds, e1, hl, w1⟩ => ?_⟩
  have R' := R.step h0 h1 s1 R1
  have q := dvs_back R' h0 R1 o1 e1
  refine ⟨by rw [q.length]; exact le_line hl, fun p ob hp hd => ?_⟩
  have R2 := R'.step h0 h1 (H' := upd H1 p (.frz ob (.tup vs))) (SameP.of (same_new hp)) (R1.same (same_new hp))
  exact E.rt (.ref p) σ _ env _ R2 (new_tup (M := M0) (H := H1) (fun a e => R1.trk a (h0 a e)) hp hd q) w1
def wRetN : DTS := fun δ env => δ.rt .none env
theorem sv_retN {pos : Pos} : SV X (.Return none pos) wRetN := PS.imp ps_retN fun D0 σ H ⟨P, M0, He, δ, env, R, E, w⟩ => E.rt .non σ H env .none R .non w
def wIfS (t : DTT) (a b : DTS) : DTS := fun δ env => t env fun c => if c = true then a δ env else b δ env
theorem sv_if {c : Expr} {x y : List Stmt} {t : DTT} {a b : DTS} {pos : Pos} (hc : TV X c t) (ha : SVs X x a) (hb : SVs X y b) : SV X (.If c x y pos) (wIfS t a b) := by
  refine PS.imp (ps_if hc ha hb) fun D0 σ H ⟨P, M0, He, δ, env, R, E, w⟩ => ?_
  obtain ⟨M, r, h0, h1⟩ := R.rel
  refine ⟨P, M, env, _, r, w, fun c H1 s1 R1 w1 => ?_⟩
  have R' := R.step h0 h1 s1 R1
  cases c with
  | true => exact ⟨P, M0, He, δ, env, R', E, w1⟩
  | false => exact ⟨P, M0, He, δ, env, R', E, w1⟩
def wBrk : DTS := fun δ env => δ.bk env
def wCnt : DTS := fun δ env => δ.ct env
theorem sv_brk {pos : Pos} : SV X (.Break pos) wBrk := PS.imp ps_break fun D0 σ H ⟨P, M0, He, δ, env, R, E, w⟩ => E.bk σ H env R w
theorem sv_cnt {pos : Pos} : SV X (.Continue pos) wCnt := PS.imp ps_continue fun D0 σ H ⟨P, M0, He, δ, env, R, E, w⟩ => E.ct σ H env R w
theorem sv_pass {pos : Pos} : SV X (.Pass pos) wNext := PS.imp ps_pass fun D0 σ H ⟨P, M0, He, δ, env, R, E, w⟩ => E.nx σ H env R w
def wNever : DTS := fun _ _ => False
theorem sv_never {st : Stmt} : SV X st wNever := PS.imp ps_never fun D0 σ H ⟨P, M0, He, δ, env, R, E, w⟩ => w.elim

/-! ### assignments -/
def wAsg (a : DTE) (γ : DTG) : DTS := fun δ env => a env fun o => ∃ d, o = .d d ∧ γ d env δ.nx
theorem up_asg {a : DTE} {g : TG} {γ : DTG} {vs : List Nat} (gs : GSem K g γ vs) : ∀ D0 σ H, upS K (wAsg a γ) D0 σ H → tAsg (up K a) g D0 σ H := by
  intro D0 σ H ⟨P, M0, He, δ, env, R, E, w⟩
  obtain ⟨M, r, h0, h1⟩ := R.rel
  refine ⟨P, M, env, _, r, w, fun v H1 o s1 R1 o1 ⟨d, e, w1⟩ => ?_⟩
  subst e
  have R' := R.step h0 h1 s1 R1
  exact gs P M σ H1 env v d _ _ R1 o1 w1 fun σ' env' R2 _ own w2 => E.nx σ' H1 env' (R'.sub h0 h1 R2 own) w2
theorem sv_set {x : Str} {e : Expr} {a : DTE} {pos pos' : Pos} (i : Nat) (hN : X.N.Nodup) (he : EV X e a) (hi : X.N[i]? = some x := by rfl) (hx : Loc X.env.scope x := by first | exact Or.inl rfl | exact Or.inr rfl) (hs : swapsWith e (some (.Name x pos')) pos.line X.env = pure false := by rfl)
    (hf : X.fn x = true ∨ X.env.scope.names.lookup x = some .local := by first | exact .inl rfl | exact .inr rfl) : SV X (.Assign [.Name x pos'] e pos) (wAsg a (wN i)) :=
  PS.imp (ps_set hN hi hx he hs hf) (up_asg (gs_name i (vs := [i]) (by simp)))
theorem sv_asg {tg e : Expr} {a : DTE} {g : TG} {γ : DTG} {vs : List Nat} {pos : Pos} (gs : GSem X.K g γ vs) (he : EV X e a) (hg : PG X tg g) (hs : swapsWithSole [tg] e pos.line X.env = pure false := by rfl) (hw : swappedStores [tg] e X.env = pure none := by rfl)
    (h1 : (assignEach [tg] X.env).map (·.2) = [assign tg X.env] := by rfl) : SV X (.Assign [tg] e pos) (wAsg a γ) :=
  PS.imp (ps_asg he hg hs hw h1) (up_asg gs)
/-- x = [..]: a comprehension stored on its line -/
theorem sv_setLc {i : Nat} {y : Str} {py : Pos} {elt tg iter : Expr} {ifs : List Expr} {scope : Scope} {own : List (Str × Nat)} {pos spos : Pos} {ι : DTI} {g : TG} {γ : DTG} {t : DTT} {e : DTE} (hc : X.calm = true) (hN : X.N.Nodup) (hi : IW X tg iter ι) (ok : BlkOk X.N X.env.scope scope own) (gs : GSem X.K g γ (own.map (·.2)))
    (hg : ∀ (s : Shared) (H : Hp) (C : Addr) (cl : List (Str × Addr)) (fp : List Addr), PG (X.blk s H scope (compEnvC scope cl C X.env) fp) tg g) (ht : ∀ (s : Shared) (H : Hp) (C : Addr) (cl : List (Str × Addr)) (fp : List Addr), TVs (X.blk s H scope (compEnvC scope cl C X.env) fp) ifs t)
    (he : ∀ (s : Shared) (H : Hp) (C : Addr) (cl : List (Str × Addr)) (fp : List Addr), EV (X.blk s H scope (compEnvC scope cl C X.env) fp) elt e)
    (hsw : swapsWith (.ListComp elt [⟨tg, iter, ifs, 0⟩] scope pos) (some (.Name y py)) spos.line X.env = pure true) (hy : X.N[i]? = some y := by rfl) (hyl : X.env.scope.names.lookup y = some .local := by rfl) (hs : ∀ x, foldedSetIterable iter X.env x = pure x := by intro _; rfl) :
    SV X (.Assign [.Name y py] (.ListComp elt [⟨tg, iter, ifs, 0⟩] scope pos) spos) (wAsg (wLc ι γ t e (own.map (·.2))) (wN i)) := by
  refine PS.imp (ps_setLc (te := up X.K e) (tt := upT X.K t) hc hN hy hyl hsw hi ok hg ht he hs) fun D0 σ H h => ?_
  have h2 := up_asg (gs_name (K := X.K) i (vs := [i]) (by simp)) D0 σ H h
  exact up_lc gs σ H _ h2
/-- a, b = x, y with plain local names -/
def wPar (i j : Nat) (a : DTA) : DTS := fun δ env => a env fun os => ∃ x y, dats os = some [x, y] ∧ δ.nx ((env.set i (.im x)).set j (.im y))
theorem sv_par {x y : Str} {e1 e2 : Expr} {a : DTA} {px py pt : Pos} {kt k2 pt2 : _} {pos : Pos} (i j : Nat) (hc : X.calm = true) (hN : X.N.Nodup) (hij : i ≠ j) (ha : AV X [e1, e2] a) (hw : swappedStores [.Tuple [.Name x px, .Name y py] kt pt] (.Tuple [e1, e2] k2 pt2) X.env = pure (some [x, y]))
    (hi : X.N[i]? = some x := by rfl) (hj : X.N[j]? = some y := by rfl) (hx : X.env.scope.names.lookup x = some .local := by rfl) (hy : X.env.scope.names.lookup y = some .local := by rfl) 
    (hs : swapsWithSole [.Tuple [.Name x px, .Name y py] kt pt] (.Tuple [e1, e2] k2 pt2) pos.line X.env = pure false := by rfl) :
    SV X (.Assign [.Tuple [.Name x px, .Name y py] kt pt] (.Tuple [e1, e2] k2 pt2) pos) (wPar i j a) := by
  refine PS.imp (ps_par hc hN hi hj hij hx hy ha hw hs) fun D0 σ H ⟨P, M0, He, δ, env, R, E, w⟩ => ?_
  obtain ⟨M, r, h0, h1⟩ := R.rel
  refine ⟨P, M, env, _, r, w, fun vs H1 os s1 R1 o1 ⟨x, y, e, w1⟩ => ?_⟩
  have R' := R.step h0 h1 s1 R1
  have q := o1.dats e
  cases q with
  | @cons v1 r1 _ _ q1 t1 =>
    cases t1 with
    | @cons v2 r2 _ _ q2 t2 =>
      cases t2
      exact ⟨v1, v2, rfl, E.nx _ H1 _ (R'.sub h0 h1 ((R1.set i q1).set j q2) fun n s b e q => set_own n s b (set_own n s b e q) q) w1⟩
/-- x op= e -/
def wAug (i : Nat) (R : D → D → D → Prop) (a : DTE) : DTS := fun δ env => ∃ d, env[i]? = some (.im d) ∧ a env fun o => ∃ e z, o.get env = some e ∧ R d e z ∧ δ.nx (env.set i (.im z))
theorem sv_aug {x : Str} {e : Expr} {a : DTE} {op : Operator} {pos pos' : Pos} {r : R2} {R : D → D → D → Prop} (i : Nat) (ho : L2.OpR X (inplaceOp op) r) (sem : BinSem X.K r R) (hN : X.N.Nodup) (he : EV X e a) (hi : X.N[i]? = some x := by rfl) (hx : Loc X.env.scope x := by first | exact Or.inl rfl | exact Or.inr rfl)
    (hf : X.fn x = true ∨ X.env.scope.names.lookup x = some .local := by first | exact .inl rfl | exact .inr rfl) : SV X (.AugAssign (.Name x pos') op e pos) (wAug i R a) := by
  have ip : PIp X op r := ho
  refine PS.imp (ps_aug hN hi hx he ip hf) fun D0 σ H ⟨P, M0, He, δ, env, R, E, w⟩ => ?_
  obtain ⟨d, e0, w⟩ := w
  obtain ⟨M, r, h0, h1⟩ := R.rel
  obtain ⟨v, q0, q1⟩ := r.slot i _ e0
  refine ⟨v, q0, P, M, env, _, r, w, fun u H1 o s1 R1 o1 ⟨f, z, e1, hz, w1⟩ => ?_⟩
  have hp : ∀ p, P = some p → M p = true := fun p q => (r.pool p q).1
  refine sem M H1 v u d f z _ R1.trk (.im (Dv.mono (s1.hid hp) _ _ q1)) (o1.rd R1 e1) hz fun w' H2 s2 r2 => ?_
  have R2 := R1.same s2
  have R' := R.step h0 h1 (s1.trans (SameP.of s2)) R2
  exact E.nx _ H2 _ (R'.sub h0 h1 (R2.set i r2) set_own) w1

/-! ### lists of one's own -/
/-- an expression that makes a new list -/
abbrev DTF := DEnv → (List D → Prop) → Prop
def upF (K : PySem.W.Frag) (φ : DTF) : TE := fun σ H Q => ∃ P M env κ, Rel K P M σ H env ∧ φ env κ ∧ ∀ p vs H' ds, SameP P H H' → Rel K P M σ H' env → H' p = none → DvAll K (hid M H') vs ds → κ ds → Q (.ref p) (upd H' p (.lst vs))
abbrev FV (X : Cx) (e : Expr) (φ : DTF) : Prop := PE X e (upF X.K φ)
def fLst (a : DTA) : DTF := fun env κ => a env fun os => ∃ ds, dats os = some ds ∧ ds.length ≤ 1000 ∧ κ ds
theorem fv_lst {es : List Expr} {a : DTA} {pos : Pos} (h : AV X es a) : FV X (.List es pos) (fLst a) := by
  refine PE.imp (pe_lst h) fun σ H Q ⟨P, M, env, κ, R, w, k⟩ => ?_
  refine ⟨P, M, env, _, R, w, fun vs H1 os s1 R1 o1 ⟨ds, e, hl, w1⟩ => ?_⟩
  have r := o1.dats e
  exact ⟨by rw [r.length]; exact le_line hl, fun p hp => k p vs H1 ds s1 R1 hp r w1⟩
/-- a new list is data -/
def wF (φ : DTF) : DTE := fun env κ => φ env fun ds => κ (.d (.list ds))
theorem ev_f {e : Expr} {φ : DTF} (h : FV X e φ) : EV X e (wF φ) := by
  refine PE.imp h fun σ H Q ⟨P, M, env, κ, R, w, k⟩ => ?_
  refine ⟨P, M, env, _, R, w, fun p vs H1 ds s1 R1 hp r w1 => ?_⟩
  exact k _ _ (.d (.list ds)) (s1.trans (SameP.of (same_new hp))) (R1.same (same_new hp)) (new_lst R1.trk hp r) w1
theorem Rel.setL {P : Option Addr} {M : Hid} {σ : St} {H : Hp} {env : DEnv} (R : Rel K P M σ H env) (i : Nat) {p : Addr} {vs : List V} {ds : List D} (hp : H p = none) (r : DvAll K (hid M H) vs ds) : Rel K P (more M p) (σ.set i (some (.ref p))) (upd H p (.lst vs)) (env.set i (.ml p ds)) := by
  have R2 := R.hide (o := .lst vs) hp
  have nP : P ≠ some p := fun q => R.trk p (R.pool p q).1 hp
  have nO : ∀ (j : Nat) s, env[j]? = some s → ownA s ≠ some p := fun j s e q => R.trk p (R.own j s p e q).1 hp
  have at_ : ∀ (j : Nat) s, (env.set i (.ml p ds))[j]? = some s → (j = i ∧ s = .ml p ds ∧ i < env.length) ∨ (j ≠ i ∧ env[j]? = some s) := fun j s e => by
    by_cases hj : i = j
    · subst hj
      by_cases hl : i < env.length
      · rw [List.getElem?_set_self hl] at e; cases e; exact .inl ⟨rfl, rfl, hl⟩
      · rw [List.getElem?_eq_none (by rw [List.length_set]; omega)] at e; cases e
    · rw [List.getElem?_set_ne hj] at e; exact .inr ⟨Ne.symm hj, e⟩
  refine ⟨by rw [List.length_set, List.length_set]; exact R.len, fun j s e => ?_, fun j s a e q => ?_, fun j k s t a e1 e2 q1 q2 => ?_, R2.trk, R2.pool⟩
  · rcases at_ j s e with ⟨rfl, rfl, hl⟩ | ⟨hj, e'⟩
    · refine ⟨?_, vs, upd_same, ?_⟩
      · rw [List.getElem?_set_self (by rw [R.len]; exact hl)]
      · rw [hid_more_upd hp]; exact r
    · rw [List.getElem?_set_ne (Ne.symm hj)]
      exact R2.slot j s e'
  · rcases at_ j s e with ⟨rfl, rfl, hl⟩ | ⟨hj, e'⟩
    · cases q; exact ⟨more_self, nP⟩
    · exact R2.own j s a e' q
  · rcases at_ j s e1 with ⟨rfl, rfl, hl⟩ | ⟨hj, e1'⟩
    · cases q1
      rcases at_ k t e2 with ⟨rfl, _, _⟩ | ⟨hk, e2'⟩
      · rfl
      · exact absurd q2 (nO k t e2')
    · rcases at_ k t e2 with ⟨rfl, rfl, _⟩ | ⟨hk, e2'⟩
      · cases q2
        exact absurd q1 (nO j s e1')
      · exact R.sep j k s t a e1' e2' q1 q2
def wSetL (i : Nat) (φ : DTF) : DTS := fun δ env => φ env fun ds => ∀ a, δ.nx (env.set i (.ml a ds))
theorem sv_setL {x : Str} {e : Expr} {φ : DTF} {pos pos' : Pos} (i : Nat) (hN : X.N.Nodup) (he : FV X e φ) (hi : X.N[i]? = some x := by rfl) (hx : Loc X.env.scope x := by first | exact Or.inl rfl | exact Or.inr rfl) (hs : swapsWith e (some (.Name x pos')) pos.line X.env = pure false := by rfl)
    (hf : X.fn x = true ∨ X.env.scope.names.lookup x = some .local := by first | exact .inl rfl | exact .inr rfl) : SV X (.Assign [.Name x pos'] e pos) (wSetL i φ) := by
  refine PS.imp (ps_set hN hi hx he hs hf) fun D0 σ H ⟨P, M0, He, δ, env, R, E, w⟩ => ?_
  obtain ⟨M, r, h0, h1⟩ := R.rel
  refine ⟨P, M, env, _, r, w, fun p vs H1 ds s1 R1 hp q w1 => ?_⟩
  have R' := R.step h0 h1 s1 R1
  have hep : He p = none := by
    cases z : He p with
    | none => rfl
    | some o =>
      by_cases hP : P = some p
      · exact absurd hp (R1.trk p (R1.pool p hP).1)
      · rw [R'.same p o hP z] at hp; cases hp
  refine E.nx _ _ _ ⟨⟨more M p, R1.setL i hp q, fun a e => more_of (h0 a e), fun a e => ?_⟩, R'.same.trans (SameP.of (same_new hp)), fun j s a e z => ?_, R.trk⟩ (w1 p)
  · by_cases ha : a = p
    · subst ha; exact .inr hep
    · rw [more_ne ha] at e; exact h1 a e
  · by_cases hj : i = j
    · subst hj
      by_cases hl : i < env.length
      · rw [List.getElem?_set_self hl] at e; cases e; cases z; exact hep
      · rw [List.getElem?_eq_none (by rw [List.length_set]; omega)] at e; cases e
    · rw [List.getElem?_set_ne hj] at e
      exact R.mine j s a e z
/-- one's own list is written -/
theorem RelS.wrL {P : Option Addr} {M0 M : Hid} {He H : Hp} {σ : St} {env : DEnv} (R : RelS K P M0 He σ H env) (R1 : Rel K P M σ H env) (h0 : ∀ a, M0 a = true → M a = true) (h1 : ∀ a, M a = true → M0 a = true ∨ He a = none) {i : Nat} {a : Addr} {ds es : List D} {vs : List V} (e : env[i]? = some (.ml a ds)) (q : DvAll K (hid M H) vs es) :
    RelS K P M0 He σ (upd H a (.lst vs)) (env.set i (.ml a es)) := by
  have hi : i < env.length := (List.getElem?_eq_some_iff.mp e).1
  have hM := (R1.own i _ a e rfl).1
  have hP := (R1.own i _ a e rfl).2
  have at_ : ∀ (j : Nat) s, (env.set i (.ml a es))[j]? = some s → (j = i ∧ s = .ml a es) ∨ (j ≠ i ∧ env[j]? = some s) := fun j s e => by
    by_cases hj : i = j
    · subst hj
      rw [List.getElem?_set_self hi] at e; cases e; exact .inl ⟨rfl, rfl⟩
    · rw [List.getElem?_set_ne hj] at e; exact .inr ⟨Ne.symm hj, e⟩
  refine ⟨⟨M, ⟨by rw [List.length_set]; exact R1.len, fun j s e' => ?_, fun j s b e' z => ?_, fun j k s t b e1 e2 q1 q2 => ?_, fun b e' z => ?_, fun p e' => ?_⟩, h0, h1⟩, fun b o hp e' => ?_, fun j s b e' z => ?_, R.trk⟩
  · rcases at_ j s e' with ⟨rfl, rfl⟩ | ⟨hj, e''⟩
    · refine ⟨(R1.slot j _ e).1, vs, upd_same, ?_⟩
      rw [hid_upd hM]; exact q
    · refine (R1.slot j s e'').mono (fun b o z1 z2 => ?_) (by rw [hid_upd hM]; exact Same.refl _)
      rw [upd_ne (fun k => hj (R1.sep j i s _ a e'' e (by rw [z1, k]) rfl))]
      exact z2
  · rcases at_ j s e' with ⟨rfl, rfl⟩ | ⟨hj, e''⟩
    · cases z; exact ⟨hM, hP⟩
    · exact R1.own j s b e'' z
  · rcases at_ j s e1 with ⟨rfl, rfl⟩ | ⟨hj, e1'⟩
    · cases q1
      rcases at_ k t e2 with ⟨rfl, _⟩ | ⟨hk, e2'⟩
      · rfl
      · exact R1.sep j k _ t a e e2' rfl q2
    · rcases at_ k t e2 with ⟨rfl, rfl⟩ | ⟨hk, e2'⟩
      · cases q2
        exact R1.sep j k s _ a e1' e q1 rfl
      · exact R1.sep j k s t b e1' e2' q1 q2
  · by_cases hb : b = a
    · subst hb; rw [upd_same] at z; cases z
    · rw [upd_ne hb] at z; exact R1.trk b e' z
  · exact ⟨(R1.pool p e').1, (R1.pool p e').2.mono (by rw [upd_ne (fun k => hP (by rw [e', k]))]) (by rw [hid_upd hM]; exact Same.refl _)⟩
  · rw [upd_ne (ne_of_none e' (R.mine i _ a e rfl))]
    exact R.same b o hp e'
  · rcases at_ j s e' with ⟨rfl, rfl⟩ | ⟨hj, e''⟩
    · cases z; exact R.mine j _ a e rfl
    · exact R.mine j s b e'' z
/-- x.append(e) -/
def wApp (i : Nat) (a : DTE) : DTS := fun δ env => ∃ b ds, env[i]? = some (.ml b ds) ∧ a env fun o => ∃ y, o = .d y ∧ ds.length < 1000000 ∧ δ.nx (env.set i (.ml b (ds ++ [y])))
theorem lt_line {n : Nat} (h : n < 1000000) : n < sizeLine := Nat.lt_trans h (by decide)
theorem sv_app {o e : Expr} {a : DTE} {apos cpos pos : Pos} (i : Nat) (ho : PE X o (tVar i)) (he : EV X e a) (hs : swapsWith (.Call (.Attribute o "append" apos) [e] [] cpos) none pos.line X.env = pure false := by rfl) (hbase : attributeBase o "append" X.env (eval o X.env) = eval o X.env := by rfl)
    (hfew : ((backTo cpos (starEach [e] X.env)).all (fun x => !x.1) && (backToKw cpos (keywordEach [] X.env)).all (fun x => x.1.isSome)
      && decide (([e] : List Expr).length + ([] : List Keyword).length + (if ([] : List Keyword).isEmpty then 0 else 1) < 30)) = true := by rfl)
    (hline : (apos.endLine == cpos.line) = true := by rfl) (hst : starEach [e] X.env = (false, eval e X.env) :: starEach [] X.env := by rfl) (hplain : (backTo cpos (starEach ([] : List Expr) X.env)).any (·.1) = false := by rfl) :
    SV X (.Expr (.Call (.Attribute o "append" apos) [e] [] cpos) pos) (wApp i a) := by
  refine PS.imp (ps_expr (pe_bm PySem.F.plainAttrs_list PySem.F.slot_list_append PySem.F.type_list_append mt_append ho (pa_cons he pa_nil hst) hbase hfew hline hst hplain) hs) fun D0 σ H ⟨P, M0, He, δ, env, R, E, w⟩ => ?_
  obtain ⟨b, ds, e0, w⟩ := w
  obtain ⟨M, r, h0, h1⟩ := R.rel
  obtain ⟨q1, vs, q2, q3⟩ := r.slot i _ e0
  refine ⟨_, q1, .inl ⟨rfl, _, SqL.of q2⟩, P, M, env, _, r, w, fun v H1 o s1 R1 o1 ⟨y, e1, hl, w1⟩ => ?_⟩
  subst e1
  have R' := R.step h0 h1 s1 R1
  obtain ⟨_, ws, p2, p3⟩ := R1.slot i _ e0
  have hP := (R1.own i _ b e0 rfl).2
  have ee : ws = vs := by
    have := s1 b _ hP q2
    rw [p2] at this
    cases this
    rfl
  subst ee
  exact ⟨b, ws, v, rfl, rfl, p2, by rw [p3.length]; exact lt_line hl, E.nx _ _ _ (R'.wrL R1 h0 h1 e0 (p3.append (.cons o1 .nil))) w1⟩
/-- x.append(y.pop(e)) -/
def wAppPop (i j : Nat) (a : DTE) : DTS := fun δ env => ∃ b c ds es, env[i]? = some (.ml b ds) ∧ env[j]? = some (.ml c es) ∧ a env fun o => ∃ (n : Nat) (y : D), o = .d (.int n) ∧ es[n]? = some y ∧ ds.length < 1000000 ∧ n < 1000000 ∧ δ.nx ((env.set j (.ml c (es.eraseIdx n))).set i (.ml b (ds ++ [y])))
theorem sv_appPop {o o2 e : Expr} {a : DTE} {apos cpos apos2 cpos2 pos : Pos} (i j : Nat) (hij : i ≠ j) (ho : PE X o (tVar i)) (ho2 : PE X o2 (tVar j)) (he : EV X e a)
    (hs : swapsWith (.Call (.Attribute o "append" apos) [.Call (.Attribute o2 "pop" apos2) [e] [] cpos2] [] cpos) none pos.line X.env = pure false := by rfl) (hbase : attributeBase o "append" X.env (eval o X.env) = eval o X.env := by rfl)
    (hfew : ((backTo cpos (starEach [.Call (.Attribute o2 "pop" apos2) [e] [] cpos2] X.env)).all (fun x => !x.1) && (backToKw cpos (keywordEach [] X.env)).all (fun x => x.1.isSome)
      && decide (([.Call (.Attribute o2 "pop" apos2) [e] [] cpos2] : List Expr).length + ([] : List Keyword).length + (if ([] : List Keyword).isEmpty then 0 else 1) < 30)) = true := by rfl)
    (hline : (apos.endLine == cpos.line) = true := by rfl) (hst : starEach [.Call (.Attribute o2 "pop" apos2) [e] [] cpos2] X.env = (false, eval (.Call (.Attribute o2 "pop" apos2) [e] [] cpos2) X.env) :: starEach [] X.env := by rfl) (hplain : (backTo cpos (starEach ([] : List Expr) X.env)).any (·.1) = false := by rfl)
    (hbase2 : attributeBase o2 "pop" X.env (eval o2 X.env) = eval o2 X.env := by rfl)
    (hfew2 : ((backTo cpos2 (starEach [e] X.env)).all (fun x => !x.1) && (backToKw cpos2 (keywordEach [] X.env)).all (fun x => x.1.isSome)
      && decide (([e] : List Expr).length + ([] : List Keyword).length + (if ([] : List Keyword).isEmpty then 0 else 1) < 30)) = true := by rfl)
    (hline2 : (apos2.endLine == cpos2.line) = true := by rfl) (hst2 : starEach [e] X.env = (false, eval e X.env) :: starEach [] X.env := by rfl) (hplain2 : (backTo cpos2 (starEach ([] : List Expr) X.env)).any (·.1) = false := by rfl) :
    SV X (.Expr (.Call (.Attribute o "append" apos) [.Call (.Attribute o2 "pop" apos2) [e] [] cpos2] [] cpos) pos) (wAppPop i j a) := by
  refine PS.imp (ps_expr (pe_bm PySem.F.plainAttrs_list PySem.F.slot_list_append PySem.F.type_list_append mt_append ho (pa_cons (pe_bm PySem.F.plainAttrs_list PySem.F.slot_list_pop PySem.F.type_list_pop mt_popAt ho2 (pa_cons he pa_nil hst2) hbase2 hfew2 hline2 hst2 hplain2) pa_nil hst) hbase hfew hline hst hplain) hs) fun D0 σ H ⟨P, M0, He, δ, env, R, E, w⟩ => ?_
  obtain ⟨b, c, ds, es, e0, e0', w⟩ := w
  obtain ⟨M, r, h0, h1⟩ := R.rel
  obtain ⟨q1, vs, q2, q3⟩ := r.slot i _ e0
  obtain ⟨q1', vs', q2', q3'⟩ := r.slot j _ e0'
  refine ⟨_, q1, .inl ⟨rfl, _, SqL.of q2⟩, _, q1', .inl ⟨rfl, _, SqL.of q2'⟩, P, M, env, _, r, w, fun v H1 o s1 R1 o1 ⟨n, y, e1, e2, hl, hn, w1⟩ => ?_⟩
  subst e1
  have R' := R.step h0 h1 s1 R1
  have ev : v = .int (n : Int) := DvM.int (.im o1)
  subst ev
  have p2 := s1 b _ (r.own i _ b e0 rfl).2 q2
  have p2' := s1 c _ (r.own j _ c e0' rfl).2 q2'
  have hid1 := s1.hid fun p q => (r.pool p q).1
  have p3 := DvAll.mono hid1 _ _ q3
  have p3' := DvAll.mono hid1 _ _ q3'
  obtain ⟨u, u1, u2⟩ := p3'.get n e2
  have hlt : n < vs'.length := (List.getElem?_eq_some_iff.mp u1).1
  have R2 := R'.wrL R1 h0 h1 e0' (p3'.eraseIdx n)
  have hbc : b ≠ c := fun k => hij (r.sep i j _ _ c e0 e0' (by rw [k]; rfl) rfl)
  have g2 : (env.set j (.ml c (es.eraseIdx n)))[i]? = some (.ml b ds) := by rw [List.getElem?_set_ne (Ne.symm hij)]; exact e0
  have hM := (R1.own j _ c e0' rfl).1
  have R3 : Rel X.K P M σ (upd H1 c (.lst (vs'.eraseIdx n))) (env.set j (.ml c (es.eraseIdx n))) := by
    obtain ⟨M', Q, _, _⟩ := R2.rel
    refine ⟨Q.len, fun k s e => ?_, fun k s a e z => ?_, Q.sep, fun a e z => ?_, fun p e => ?_⟩
    · by_cases hk : j = k
      · subst hk
        rw [List.getElem?_set_self (List.getElem?_eq_some_iff.mp e0').1] at e
        cases e
        refine ⟨q1', _, upd_same, ?_⟩
        rw [hid_upd hM]
        exact p3'.eraseIdx n
      · rw [List.getElem?_set_ne hk] at e
        refine (R1.slot k s e).mono (fun a o z1 z2 => ?_) (by rw [hid_upd hM]; exact Same.refl _)
        rw [upd_ne (fun x => hk (R1.sep j k _ s c e0' e rfl (by rw [z1, x])))]
        exact z2
    · by_cases hk : j = k
      · subst hk
        rw [List.getElem?_set_self (List.getElem?_eq_some_iff.mp e0').1] at e
        cases e
        cases z
        exact R1.own j _ c e0' rfl
      · rw [List.getElem?_set_ne hk] at e
        exact R1.own k s a e z
    · by_cases ha : a = c
      · subst ha; rw [upd_same] at z; cases z
      · rw [upd_ne ha] at z; exact R1.trk a e z
    · exact ⟨(R1.pool p e).1, (R1.pool p e).2.mono (by rw [upd_ne (fun k => (R1.own j _ c e0' rfl).2 (by rw [e, k]))]) (by rw [hid_upd hM]; exact Same.refl _)⟩
  refine ⟨c, vs', n, n, u, rfl, rfl, p2', by omega, by omega, ?_, u1, b, vs, u, rfl, rfl, by rw [upd_ne hbc]; exact p2, by rw [q3.length]; exact lt_line hl, E.nx _ _ _ (R2.wrL R3 h0 h1 g2 ?_) w1⟩
  · have h := ixN_seq (n := vs'.length) (i := (n : Int)) (j := n) (by unfold ixN; rw [if_pos (by omega), if_pos (by omega)]; simp)
    exact h.1
  · rw [hid_upd hM]
    exact p3.append (.cons u2 .nil)

/-- x[i] = e -/
def wPut (i : Nat) (j : Nat) (a : DTE) : DTS := fun δ env => a env fun o => ∃ y b ds, o = .d y ∧ env[i]? = some (.ml b ds) ∧ j < ds.length ∧ j < 1000000 ∧ δ.nx (env.set i (.ml b (ds.set j y)))
theorem sv_put {o e : Expr} {a : DTE} {j : Nat} {jz : Int} {jk : Tok} {c0 pos' pos : Pos} (i : Nat) (hj : jz = (j : Int)) (ho : PE X o (tVar i)) (he : EV X e a) (hs : swapsWithSole [.Subscript o (.Constant (.int jz) jk c0) pos'] e pos.line X.env = pure false := by rfl) (hw : swappedStores [.Subscript o (.Constant (.int jz) jk c0) pos'] e X.env = pure none := by rfl)
    (hq : (assignEach [.Subscript o (.Constant (.int jz) jk c0) pos'] X.env).map (·.2) = [assign (.Subscript o (.Constant (.int jz) jk c0) pos') X.env] := by rfl)
    (ha : ∀ v, assign (.Subscript o (.Constant (.int jz) jk c0) pos') X.env v = (do
      let ov ← holding [v] (eval o X.env)
      let iv ← holding [v, ov] (eval (.Constant (.int jz) jk c0) X.env)
      standAt pos'
      holding [v, ov, iv] (setItem ov iv v)
      release [v, ov, iv] []) := by intro _; rfl) : SV X (.Assign [.Subscript o (.Constant (.int jz) jk c0) pos'] e pos) (wPut i j a) := by
  refine PS.imp (ps_asg he (pg_sub ho pe_int set_list ha) hs hw hq) fun D0 σ H ⟨P, M0, He, δ, env, R, E, w⟩ => ?_
  subst hj
  obtain ⟨M, r, h0, h1⟩ := R.rel
  refine ⟨P, M, env, _, r, w, fun v H1 o s1 R1 o1 ⟨y, b, ds, e1, e0, hl, hm, w1⟩ => ?_⟩
  subst e1
  have R' := R.step h0 h1 s1 R1
  obtain ⟨q1, vs, q2, q3⟩ := R1.slot i _ e0
  refine ⟨_, q1, b, vs, j, j, rfl, rfl, q2, ?_, E.nx _ _ _ (R'.wrL R1 h0 h1 e0 (q3.set o1 j)) w1⟩
  unfold ixN
  rw [if_pos (by omega), if_pos (by rw [q3.length]; omega)]
  simp

/-! ### loops -/
def wWhile (c : DTT) (b : DTS) : DTS := fun δ env => ∃ (I : DEnv → Prop) (m : DEnv → Nat), I env ∧ ∀ e, I e → c e fun k => if k = true then b { nx := fun e' => I e' ∧ m e' < m e, rt := δ.rt, ct := fun e' => I e' ∧ m e' < m e, bk := δ.nx } e else δ.nx e
theorem sv_while {c : Expr} {body : List Stmt} {t : DTT} {b : DTS} {pos : Pos} (hp : PassesOwn (model X.prog X.w) X.A X.env X.xe) (hc : TV X c t) (hb : SVs X body b) : SV X (.While c body [] pos) (wWhile t b) := by
  refine PS.imp (ps_while hp hc hb) fun D0 σ H ⟨P, M0, He, δ, env, R, E, I, m, i0, w⟩ => ?_
  refine ⟨fun n σ H => ∃ e, n = m e ∧ RelS X.K P M0 He σ H e ∧ I e, ⟨_, env, rfl, R, i0⟩, ?_⟩
  rintro n σ1 H1 ⟨e, rfl, R1, i1⟩
  obtain ⟨M, r, h0, h1⟩ := R1.rel
  refine ⟨P, M, e, _, r, w e i1, fun k H2 s2 R2 w2 => ?_⟩
  have R' := R1.step h0 h1 s2 R2
  cases k with
  | false => exact E.nx _ _ _ R' w2
  | true =>
    refine ⟨fun σ' H' => ∃ e', m e' < m e ∧ RelS X.K P M0 He σ' H' e' ∧ I e', fun σ' H' ⟨e', a, b, c⟩ => ⟨m e', a, e', rfl, b, c⟩, ?_⟩
    exact ⟨P, M0, He, { nx := fun e' => I e' ∧ m e' < m e, rt := δ.rt, ct := fun e' => I e' ∧ m e' < m e, bk := δ.nx }, e, R', ⟨fun σ' H' e' R3 q => ⟨e', q.2, R3, q.1⟩, E.rt, E.nx, fun σ' H' e' R3 q => ⟨e', q.2, R3, q.1⟩⟩, w2⟩
/-- the state from here on, as if the body began here -/
theorem RelS.rebase {P : Option Addr} {M0 M : Hid} {He H : Hp} {σ : St} {env : DEnv} (R : RelS K P M0 He σ H env) (r : Rel K P M σ H env) (h0 : ∀ a, M0 a = true → M a = true) (h1 : ∀ a, M a = true → M0 a = true ∨ He a = none) :
    ∃ He', RelS K P M0 He' σ H env ∧ (∀ σ' H' env', RelS K P M0 He' σ' H' env' → RelS K P M0 He σ' H' env' ∧ Same (hid M H) (hid M H')) ∧ ∀ a o, M a = false → H a = some o → He' a = some o := by
  refine ⟨hid (fun a => M a && !M0 a) H, ⟨⟨M, r, h0, fun a e => ?_⟩, fun a o _ e => hid_sub a o e, fun i s a e q => ?_, fun a e z => ?_⟩, fun σ' H' env' R' => ?_, fun a o e1 e2 => hid_some.mpr ⟨by simp [e1], e2⟩⟩
  · cases z : M0 a with
    | true => exact .inl rfl
    | false => exact .inr (by unfold hid; rw [if_pos (by simp [e, z])])
  · have m := (r.own i s a e q).1
    have n : M0 a = false := by
      cases z : M0 a with
      | false => rfl
      | true => exact absurd (R.mine i s a e q) (R.trk a z)
    unfold hid
    rw [if_pos (by simp [m, n])]
  · unfold hid at z
    rw [if_neg (by simp [e])] at z
    exact r.trk a (h0 a e) z
  · have key : ∀ a o, He a = some o → P ≠ some a → hid (fun a => M a && !M0 a) H a = some o := fun a o e hP => by
      refine hid_some.mpr ⟨?_, R.same a o hP e⟩
      cases m : M a with
      | false => rfl
      | true =>
        rcases h1 a m with z | z
        · simp [z]
        · rw [e] at z; cases z
    obtain ⟨M', r', h0', h1'⟩ := R'.rel
    refine ⟨⟨⟨M', r', h0', fun a e => ?_⟩, fun a o hP e => R'.same a o hP (key a o e hP), fun i s a e q => ?_, R.trk⟩, fun a o e => ?_⟩
    · rcases h1' a e with z | z
      · exact .inl z
      · cases q : He a with
        | none => exact .inr rfl
        | some o =>
          by_cases hP : P = some a
          · have m := (r.pool a hP).1
            rcases h1 a m with z' | z'
            · exact .inl z'
            · rw [q] at z'; cases z'
          · rw [key a o q hP] at z; cases z
    · have z := R'.mine i s a e q
      cases x : He a with
      | none => rfl
      | some o => rw [key a o x (r'.own i s a e q).2] at z; cases z
    · obtain ⟨e1, e2⟩ := hid_some.mp e
      refine hid_some.mpr ⟨e1, R'.same a o (fun q => ?_) (hid_some.mpr ⟨by simp [e1], e2⟩)⟩
      have m := (r.pool a q).1
      rw [e1] at m; cases m
def forW (γ : DTG) (b : DTS) (δ : DEnds) : List D → DEnv → Prop
  | [], env => δ.nx env
  | d :: ds, env => γ d env fun env' => b { nx := forW γ b δ ds, rt := δ.rt, ct := forW γ b δ ds, bk := δ.nx } env'
def wFor (ι : DTI) (γ : DTG) (b : DTS) : DTS := fun δ env => ι env fun ds => forW γ b δ ds env
theorem sv_for {tg iter : Expr} {body : List Stmt} {ι : DTI} {g : TG} {γ : DTG} {b : DTS} {vs : List Nat} {pos : Pos} (hp : PassesOwn (model X.prog X.w) X.A X.env X.xe) (hc : X.calm = true) (gs : GSem X.K g γ vs) (hi : IV X tg iter ι) (hg : PG X tg g) (hb : SVs X body b)
    (hs : ∀ x, foldedSetIterable iter X.env x = pure x := by intro _; rfl) : SV X (.For tg iter body [] pos) (wFor ι γ b) := by
  refine PS.imp (ps_for hp hc hi hg hb hs) fun D0 σ H ⟨P, M0, He, δ, env, R, E, w⟩ => ?_
  obtain ⟨M, r, h0, h1⟩ := R.rel
  refine ⟨P, M, env, _, r, w, fun J H1 ds s1 R1 it w1 => ?_⟩
  have R' := R.step h0 h1 s1 R1
  obtain ⟨He', Rb, back, low⟩ := R'.rebase R1 h0 h1
  have E' : EndsR X.K P M0 He' D0 δ := ⟨fun σ H e q => E.nx σ H e (back _ _ _ q).1, fun v σ H e d q => E.rt v σ H e d (back _ _ _ q).1, fun σ H e q => E.bk σ H e (back _ _ _ q).1, fun σ H e q => E.ct σ H e (back _ _ _ q).1⟩
  refine ⟨fun i n σ' H' => n = ds.length - i ∧ i ≤ ds.length ∧ ∃ e, RelS X.K P M0 He' σ' H' e ∧ forW γ b δ (ds.drop i) e, ⟨_, rfl, Nat.zero_le _, env, Rb, by simpa using w1⟩, ?_⟩
  rintro i n σ2 H2 ⟨rfl, hi, e, R2, w2⟩
  have st := (back _ _ _ R2).2
  by_cases hlt : i < ds.length
  · obtain ⟨g1, g2⟩ := (it H2 st i).1 ds[i] (by simp [hlt])
    refine .inr ⟨g1, fun σ' H' => i + 1 ≤ ds.length ∧ ∃ e, RelS X.K P M0 He' σ' H' e ∧ forW γ b δ (ds.drop (i + 1)) e, fun σ' H' q => ⟨ds.length - (i + 1), by omega, rfl, q.1, q.2⟩, fun x H3 y => ?_⟩
    obtain ⟨e3, rx⟩ := g2 x H3 y
    subst e3
    rw [List.drop_eq_getElem_cons hlt] at w2
    obtain ⟨M2, r2, h02, h12⟩ := R2.rel
    have rx2 : Dv X.K (hid M2 H3) x ds[i] := Dv.mono (fun a o e => by
      obtain ⟨e1, e2⟩ := hid_some.mp e
      refine hid_some.mpr ⟨?_, (hid_some.mp (st a o e)).2⟩
      cases z : M2 a with
      | false => rfl
      | true =>
        rcases h12 a z with q | q
        · rw [h0 a q] at e1; cases e1
        · have k := low a o e1 e2
          rw [q] at k; cases k) _ _ rx
    refine gs P M2 σ2 H3 e x ds[i] _ _ r2 rx2 w2 fun σ4 e4 R4 _ own w4 => ?_
    exact ⟨P, M0, He', { nx := forW γ b δ (ds.drop (i + 1)), rt := δ.rt, ct := forW γ b δ (ds.drop (i + 1)), bk := δ.nx }, e4, R2.sub h02 h12 R4 own, ⟨fun σ' H' e' R5 q => ⟨hlt, e', R5, q⟩, E'.rt, E'.nx, fun σ' H' e' R5 q => ⟨hlt, e', R5, q⟩⟩, w4⟩
  · have ei : i = ds.length := by omega
    subst ei
    rw [List.drop_length] at w2
    exact .inl ⟨(it H2 st ds.length).2 (by simp) (Nat.le_refl _), E'.nx _ _ _ R2 w2⟩
end
end DL

namespace DL
open PySem L2
variable {K : PySem.W.Frag}

/-! ### operations, by data -/
def AddR : D → D → D → Prop
  | .int i, .int j, z => z = .int (i + j)
  | .str x, .str y, z => x.length + y.length ≤ 1000000 ∧ z = .str (x ++ y)
  | .tuple xs, .tuple ys, z => xs.length + ys.length ≤ 1000000 ∧ z = .tuple (xs ++ ys)
  | .list xs, .list ys, z => xs.length + ys.length ≤ 1000000 ∧ z = .list (xs ++ ys)
  | _, _, _ => False
theorem mil {n : Nat} (h : n ≤ 1000000) : n ≤ sizeLine := Nat.le_trans h (by decide)
abbrev rAddI : R2 := rI0 fun i j => .int (i + j)
abbrev rAddS2 : R2 := fun x y H Q => ∃ i j, x = .str i ∧ y = .str j ∧ i.length + j.length ≤ sizeLine ∧ Q (.str (i ++ j)) H
def rAddAll (K : PySem.W.Frag) : R2 := fun x y H Q => rAddI x y H Q ∨ (rAddS2 x y H Q ∨ (rCatF K x y H Q ∨ rCat x y H Q))
theorem op_addAll {X : Cx} : L2.OpR X (binaryOp .Add) (rAddAll X.K) := op_add.or (op_add_str.or (op_catF.or op_cat))
theorem sem_add : BinSem K (rAddAll K) AddR := by
  intro M H v u d e z Q t hv hu hz q
  cases d <;> cases e <;> simp only [AddR] at hz
  case int.int i j =>
    subst hz
    exact .inl ⟨i, j, hv.int, hu.int, q _ H (Same.refl _) (.int _)⟩
  case str.str x y =>
    obtain ⟨h1, rfl⟩ := hz
    exact .inr (.inl ⟨x, y, hv.str, hu.str, mil h1, q _ H (Same.refl _) (.str _)⟩)
  case list.list xs ys =>
    obtain ⟨h1, rfl⟩ := hz
    obtain ⟨a, vs, rfl, a1, a2⟩ := hv.list
    obtain ⟨b, us, rfl, b1, b2⟩ := hu.list
    refine .inr (.inr (.inr ⟨a, b, vs, us, rfl, rfl, a1, b1, by rw [a2.length, b2.length]; exact mil h1, fun p hp => ?_⟩))
    exact q _ _ (same_new hp) (new_lst t hp (a2.append b2))
  case tuple.tuple xs ys =>
    obtain ⟨h1, rfl⟩ := hz
    obtain ⟨a, vs, rfl, a1, a2, a3⟩ := hv.tuple
    obtain ⟨b, us, rfl, b1, b2, b3⟩ := hu.tuple
    refine .inr (.inr (.inl ⟨a, b, vs, us, rfl, rfl, a1, b1, by rw [a2.length, b2.length]; exact mil h1, fun e => ?_, fun _ e => ?_, fun _ _ p ob hp hd => ?_⟩))
    · subst e
      cases a2
      obtain ⟨o, b3, b4⟩ := b3
      exact q _ H (Same.refl _) (.tup b3 b4 b2)
    · subst e
      cases b2
      rw [List.append_nil] at q
      obtain ⟨o, a3, a4⟩ := a3
      exact q _ H (Same.refl _) (.tup a3 a4 a2)
    · exact q _ _ (same_new hp) (new_tup t hp hd (a2.append b2))
def IntR (C : Int → Int → Prop) (f : Int → Int → D) : D → D → D → Prop
  | .int i, .int j, z => C i j ∧ z = f i j
  | _, _, _ => False
theorem sem_int {C C' : Int → Int → Prop} {f : Int → Int → D} {g : Int → Int → V} (hC : ∀ i j, C' i j → C i j) (h : ∀ H i j, Dv K H (g i j) (f i j)) : BinSem K (rI C g) (IntR C' f) := by
  intro M H v u d e z Q t hv hu hz q
  cases d <;> cases e <;> simp only [IntR] at hz
  case int.int i j =>
    obtain ⟨h1, rfl⟩ := hz
    exact ⟨i, j, hv.int, hu.int, hC i j h1, q _ H (Same.refl _) (h _ i j)⟩
theorem sem_int0 {f : Int → Int → D} {g : Int → Int → V} (h : ∀ H i j, Dv K H (g i j) (f i j)) : BinSem K (rI0 g) (IntR (fun _ _ => True) f) := by
  intro M H v u d e z Q t hv hu hz q
  cases d <;> cases e <;> simp only [IntR] at hz
  case int.int i j =>
    obtain ⟨h1, rfl⟩ := hz
    exact ⟨i, j, hv.int, hu.int, q _ H (Same.refl _) (h _ i j)⟩
def AddIR : D → D → D → Prop := IntR (fun _ _ => True) fun i j => .int (i + j)
theorem sem_addI : BinSem K (rI0 fun i j => .int (i + j)) AddIR := sem_int0 fun _ _ _ => .int _
def SubR : D → D → D → Prop := IntR (fun _ _ => True) fun i j => .int (i - j)
theorem sem_sub : BinSem K (rI0 fun i j => .int (i - j)) SubR := sem_int0 fun _ _ _ => .int _
def MulIR : D → D → D → Prop := IntR (fun i j => (-(2 ^ 64) < i ∧ i < 2 ^ 64) ∨ (-(2 ^ 64) < j ∧ j < 2 ^ 64)) fun i j => .int (i * j)
theorem sem_mulI : BinSem K (rI CMul fun i j => .int (i * j)) MulIR := sem_int (fun _ _ h => h) fun _ _ _ => .int _
def DivR : D → D → D → Prop := IntR (fun _ j => 0 < j ∧ j < 1073741824) fun i j => .int (i / j)
theorem sem_div : BinSem K (rI CDiv fun i j => .int (i / j)) DivR := sem_int (fun _ _ h => h) fun _ _ _ => .int _
def ModR : D → D → D → Prop := IntR (fun _ j => 0 < j) fun i j => .int (i % j)
theorem sem_mod : BinSem K (rI (fun _ j => 0 < j) fun i j => .int (i % j)) ModR := sem_int (fun _ _ h => h) fun _ _ _ => .int _
def LtR : D → D → D → Prop := IntR (fun _ _ => True) fun i j => .bool (decide (i < j))
theorem sem_lt : BinSem K (rI0 fun i j => .bl (decide (i < j))) LtR := sem_int0 fun _ _ _ => .bl _
def LeR : D → D → D → Prop := IntR (fun _ _ => True) fun i j => .bool (decide (i ≤ j))
theorem sem_le : BinSem K (rI0 fun i j => .bl (decide (i ≤ j))) LeR := sem_int0 fun _ _ _ => .bl _
def GtR : D → D → D → Prop := IntR (fun _ _ => True) fun i j => .bool (decide (j < i))
theorem sem_gt : BinSem K (rI0 fun i j => .bl (decide (j < i))) GtR := sem_int0 fun _ _ _ => .bl _
def GeR : D → D → D → Prop := IntR (fun _ _ => True) fun i j => .bool (decide (j ≤ i))
theorem sem_ge : BinSem K (rI0 fun i j => .bl (decide (j ≤ i))) GeR := sem_int0 fun _ _ _ => .bl _
/-- == and != -/
def EqR : D → D → D → Prop := fun d e z => shp d = true ∧ shp e = true ∧ z = .bool (PyData.eqv d e)
def NeR : D → D → D → Prop := fun d e z => shp d = true ∧ shp e = true ∧ z = .bool (!PyData.eqv d e)
theorem sem_eq : BinSem K (rEqD K) EqR := fun M H v u d e z Q t hv hu hz q => by
  obtain ⟨h1, h2, rfl⟩ := hz
  exact ⟨d, e, hv.dp (shp_n h1), hu.dp (shp_n h2), shp_s h1, shp_s h2, q _ H (Same.refl _) (.bl _)⟩
theorem sem_ne : BinSem K (rNeD K) NeR := fun M H v u d e z Q t hv hu hz q => by
  obtain ⟨h1, h2, rfl⟩ := hz
  exact ⟨d, e, hv.dp (shp_n h1), hu.dp (shp_n h2), shp_s h1, shp_s h2, q _ H (Same.refl _) (.bl _)⟩
/-- in, not in -/
def InR (neg : Bool) : D → D → D → Prop := fun d e z => match e with
  | .list es => shp d = true ∧ shp (.list es) = true ∧ z = .bool ((es.any fun y => PyData.eqv y d) != neg)
  | .tuple es => shp d = true ∧ shp (.tuple es) = true ∧ z = .bool ((es.any fun y => PyData.eqv y d) != neg)
  | .str y => ∃ x, d = .str x ∧ z = .bool ((!(Builtin.Str.occurrences y x 0 y.length 1).isEmpty) != neg)
  | _ => False
def rInT (K : PySem.W.Frag) (neg : Bool) : R2 := fun x y H Q => ∃ d ds, Dp K H x d ∧ Dp K H y (.tuple ds) ∧ SeqAt.shaped d = true ∧ SeqAt.shaped (.tuple ds) = true ∧ Q (.bl ((ds.any fun z => PyData.eqv z d) != neg)) H
theorem op_inT {X : Cx} (hu : X.A.units + 65 < cLine) : L2.OpR X (compareOp .In) (rInT X.K false) := by
  intro pins s σ H x y v u Q I rx ry h
  obtain ⟨d, ds, hd, he, sd, se, q⟩ := h
  obtain ⟨as, r1⟩ := Dp.reads I d x v hd rx
  obtain ⟨bs, r2⟩ := Dp.reads I (.tuple ds) y u he ry
  rw [Bool.bne_false] at q
  exact SeqAt.in_tuple_reads r2 r1 (SeqAt.canLay_of_shaped se) (SeqAt.canLay_of_shaped sd) (PyProof.Rows.room_in_shaped sd hu) ⟨.bl _, H, I, rfl, q⟩
theorem op_notInT {X : Cx} (hu : X.A.units + 65 < cLine) : L2.OpR X (compareOp .NotIn) (rInT X.K true) := by
  intro pins s σ H x y v u Q I rx ry h
  obtain ⟨d, ds, hd, he, sd, se, q⟩ := h
  obtain ⟨as, r1⟩ := Dp.reads I d x v hd rx
  obtain ⟨bs, r2⟩ := Dp.reads I (.tuple ds) y u he ry
  rw [Bool.bne_true] at q
  exact SeqAt.notIn_tuple_reads r2 r1 (SeqAt.canLay_of_shaped se) (SeqAt.canLay_of_shaped sd) (PyProof.Rows.room_in_shaped sd hu) ⟨.bl _, H, I, rfl, q⟩
abbrev rInSt : R2 := fun x y H Q => ∃ i j, x = .str i ∧ y = .str j ∧ Q (.bl (!(Builtin.Str.occurrences j i 0 j.length 1).isEmpty)) H
abbrev rNotInSt : R2 := fun x y H Q => ∃ i j, x = .str i ∧ y = .str j ∧ Q (.bl (!(!(Builtin.Str.occurrences j i 0 j.length 1).isEmpty))) H
def rInAll (K : PySem.W.Frag) : R2 := fun x y H Q => rInD K x y H Q ∨ (rInT K false x y H Q ∨ rInSt x y H Q)
def rNotInAll (K : PySem.W.Frag) : R2 := fun x y H Q => rNotInD K x y H Q ∨ (rInT K true x y H Q ∨ rNotInSt x y H Q)
theorem op_inAll {X : Cx} {k : Nat} (hr : Room k X.A) : L2.OpR X (compareOp .In) (rInAll X.K) := by
  have hu : X.A.units + 65 < cLine := by have := hr.un; omega
  exact (op_inD hu).or ((op_inT hu).or op_in_str)
theorem op_notInAll {X : Cx} {k : Nat} (hr : Room k X.A) : L2.OpR X (compareOp .NotIn) (rNotInAll X.K) := by
  have hu : X.A.units + 65 < cLine := by have := hr.un; omega
  exact (op_notInD hu).or ((op_notInT hu).or op_notIn_str)
theorem sem_in : BinSem K (rInAll K) (InR false) := by
  intro M H v u d e z Q t hv hu hz q
  cases e with
  | list es =>
    obtain ⟨h1, h2, rfl⟩ := hz
    rw [Bool.bne_false] at q
    exact .inl ⟨d, es, hv.dp (shp_n h1), hu.dp (shp_n h2), shp_s h1, shp_s h2, q _ H (Same.refl _) (.bl _)⟩
  | tuple es =>
    obtain ⟨h1, h2, rfl⟩ := hz
    exact .inr (.inl ⟨d, es, hv.dp (shp_n h1), hu.dp (shp_n h2), shp_s h1, shp_s h2, q _ H (Same.refl _) (.bl _)⟩)
  | str y =>
    obtain ⟨x, rfl, rfl⟩ := hz
    rw [Bool.bne_false] at q
    exact .inr (.inr ⟨_, _, hv.str, hu.str, q _ H (Same.refl _) (.bl _)⟩)
  | _ => exact False.elim hz
theorem sem_notIn : BinSem K (rNotInAll K) (InR true) := by
  intro M H v u d e z Q t hv hu hz q
  cases e with
  | list es =>
    obtain ⟨h1, h2, rfl⟩ := hz
    rw [Bool.bne_true] at q
    exact .inl ⟨d, es, hv.dp (shp_n h1), hu.dp (shp_n h2), shp_s h1, shp_s h2, q _ H (Same.refl _) (.bl _)⟩
  | tuple es =>
    obtain ⟨h1, h2, rfl⟩ := hz
    exact .inr (.inl ⟨d, es, hv.dp (shp_n h1), hu.dp (shp_n h2), shp_s h1, shp_s h2, q _ H (Same.refl _) (.bl _)⟩)
  | str y =>
    obtain ⟨x, rfl, rfl⟩ := hz
    rw [Bool.bne_true] at q
    exact .inr (.inr ⟨_, _, hv.str, hu.str, q _ H (Same.refl _) (.bl _)⟩)
  | _ => exact False.elim hz
/-- an item -/
def IxD : D → D → D → Prop
  | .list es, .int i, z => atI es i = some z
  | .tuple es, .int i, z => atI es i = some z
  | .str x, .int i, z => x.length ≤ 1000000 ∧ ∃ c, atI x.cps.toList i = some c ∧ z = .str ⟨#[c]⟩
  | _, _, _ => False
theorem atI_dv {H : Hp} {vs : List V} {ds : List D} {i : Int} {z : D} (r : DvAll K H vs ds) (h : atI ds i = some z) : ∃ v, atI vs i = some v ∧ Dv K H v z := by
  unfold atI at h ⊢
  rw [r.length]
  cases e : ixN ds.length i with
  | none => rw [e] at h; cases h
  | some j =>
    rw [e] at h
    exact r.get j h
theorem sem_ix : BinSem K (rIx K) IxD := by
  intro M H v u d e z Q t hv hu hz q
  cases d <;> cases e <;> simp only [IxD] at hz
  case list.int es i =>
    obtain ⟨a, vs, rfl, a1, a2⟩ := hv.list
    obtain ⟨w, e1, e2⟩ := atI_dv a2 hz
    exact .inl ⟨a, vs, i, w, rfl, hu.int, SqL.of a1, e1, q _ H (Same.refl _) e2⟩
  case tuple.int es i =>
    obtain ⟨a, vs, rfl, a1, a2, _⟩ := hv.tuple
    obtain ⟨w, e1, e2⟩ := atI_dv a2 hz
    exact .inr (.inl ⟨a, vs, i, w, rfl, hu.int, a1, e1, q _ H (Same.refl _) e2⟩)
  case str.int x i =>
    obtain ⟨h1, c, h2, rfl⟩ := hz
    exact .inr (.inr ⟨x, i, c, hv.str, hu.int, mil h1, h2, q _ H (Same.refl _) (.str _)⟩)
/-- a slice -/
def cutD (ds : List D) (lo hi : Option Int) : List D := (ds.drop (HT.sIx ds.length 0 lo)).take (HT.sIx ds.length ds.length hi - HT.sIx ds.length 0 lo)
def SlD : D → Option Int → Option Int → D → Prop
  | .list es, lo, hi, z => z = .list (cutD es lo hi)
  | .tuple es, lo, hi, z => z = .tuple (cutD es lo hi)
  | .str x, lo, hi, z => x.length ≤ 1000000 ∧ z = .str (cutS x lo hi)
  | _, _, _, _ => False
abbrev DTO := DEnv → (Option Int → Prop) → Prop
def upO (K : PySem.W.Frag) (ω : DTO) : St → Hp → (Option Int → Hp → Prop) → Prop := fun σ H Q => ∃ P M env κ, Rel K P M σ H env ∧ ω env κ ∧ ∀ i H', SameP P H H' → Rel K P M σ H' env → κ i → Q i H'
section
variable {X : Cx}
abbrev OV (X : Cx) (e : Option Expr) (ω : DTO) : Prop := PO X e (upO X.K ω)
def wNoPart : DTO := fun _ κ => κ none
def wPart (a : DTE) : DTO := fun env κ => a env fun o => ∃ i, o = .d (.int i) ∧ κ (some i)
theorem PO.imp {e : Option Expr} {t t' : St → Hp → (Option Int → Hp → Prop) → Prop} (a : PO X e t) (h : ∀ σ H Q, t' σ H Q → t σ H Q) : PO X e t' := by
  first
    | exact ⟨fun pins s σ H Q I hw => a.run pins s σ H Q I (h σ H Q hw)⟩
    | exact fun pins s σ H Q I hw => a pins s σ H Q I (h σ H Q hw)
theorem ov_none : OV X none wNoPart := PO.imp po_none fun σ H Q ⟨P, M, env, κ, R, w, k⟩ => k none H SameP.refl R w
theorem ov_some {e : Expr} {a : DTE} (h : EV X e a) : OV X (some e) (wPart a) := by
  refine PO.imp (po_some h) fun σ H Q ⟨P, M, env, κ, R, w, k⟩ => ?_
  refine ⟨P, M, env, _, R, w, fun v H1 o s1 R1 o1 ⟨i, e, w1⟩ => ?_⟩
  subst e
  exact ⟨i, DvM.int (.im o1), k _ H1 s1 R1 w1⟩
def wSl (a : DTE) (l h : DTO) : DTE := fun env κ => a env fun o => l env fun lo => h env fun hi => ∃ d z, o.get env = some d ∧ SlD d lo hi z ∧ κ (.d z)
def rSlAll (K : PySem.W.Frag) : V → Option Int → Option Int → Hp → VK → Prop := fun x lo hi H Q => rSlL K x lo hi H Q ∨ (rSlF K x lo hi H Q ∨ rSlS x lo hi H Q)
theorem sl_all : SlR X (rSlAll X.K) := sl_list.or (sl_tupF.or sl_str)
theorem cut_dv {H : Hp} {vs : List V} {ds : List D} {lo hi : Option Int} (r : DvAll K H vs ds) : DvAll K H (cutV vs lo hi) (cutD ds lo hi) := by
  unfold cutV cutD
  rw [r.length]
  exact (r.drop _).take _
theorem ev_slice {e : Expr} {a : DTE} {lo hi : Option Expr} {l h : DTO} {p2 pos : Pos} (he : EV X e a) (hl : OV X lo l) (hh : OV X hi h) : EV X (.Subscript e (.Slice lo hi none p2) pos) (wSl a l h) := by
  refine PE.imp (pe_slice sl_all he hl hh) fun σ H Q ⟨P, M, env, κ, R, w, k⟩ => ?_
  refine ⟨P, M, env, _, R, w, fun v H1 o s1 R1 o1 w1 => ?_⟩
  refine ⟨P, M, env, _, R1, w1, fun i H2 s2 R2 w2 => ?_⟩
  refine ⟨P, M, env, _, R2, w2, fun j H3 s3 R3 w3 => ?_⟩
  obtain ⟨d, z, e1, hz, w4⟩ := w3
  have hp : ∀ p, P = some p → M p = true := fun p q => (R.pool p q).1
  have q := ((o1.step s2 hp).step s3 hp).rd R3 e1
  have s := (s1.trans s2).trans s3
  cases d <;> simp only [SlD] at hz
  case list es =>
    subst hz
    obtain ⟨a, vs, rfl, a1, a2⟩ := q.list
    exact .inl ⟨a, vs, rfl, SqL.of a1, fun p hp => k _ _ (.d _) (s.trans (SameP.of (same_new hp))) (R3.same (same_new hp)) (new_lst R3.trk hp (cut_dv a2)) w4⟩
  case tuple es =>
    subst hz
    obtain ⟨a, vs, rfl, a1, a2, a3⟩ := q.tuple
    refine .inr (.inl ⟨a, vs, rfl, a1, fun ⟨h1, h2⟩ => ?_, fun _ p ob hp hd => k _ _ (.d _) (s.trans (SameP.of (same_new hp))) (R3.same (same_new hp)) (new_tup R3.trk hp hd (cut_dv a2)) w4⟩)
    rw [a2.length] at h1 h2
    have e2 : cutD es i j = es := by
      unfold cutD
      rw [h1, h2]
      simp
    rw [e2] at w4
    obtain ⟨o, a3, a4⟩ := a3
    exact k _ H3 (.d (.tuple es)) s R3 (.tup a3 a4 a2) w4
  case str x =>
    obtain ⟨h1, rfl⟩ := hz
    exact .inr (.inr ⟨x, q.str, mil h1, k _ H3 (.d (.str _)) s R3 (.str _) w4⟩)
end

/-! ### built-ins, by data -/
def LenR : List D → D → Prop
  | [.list es], z => z = .int es.length
  | [.tuple es], z => z = .int es.length
  | [.str x], z => x.length ≤ 1000000 ∧ z = .int x.length
  | _, _ => False
theorem sem_len : CallSem K (fun xs H Q => ∃ x n, xs = [x] ∧ LenV K x H n ∧ Q (.int n) H) LenR := by
  intro M H vs ds z Q t h hz q
  cases h with
  | nil => simp only [LenR] at hz
  | @cons v vs d ds h1 h2 =>
    cases h2 with
    | @cons _ _ _ _ _ _ => cases d <;> simp only [LenR] at hz
    | nil =>
      cases d <;> simp only [LenR] at hz
      case list es =>
        subst hz
        obtain ⟨a, us, rfl, a1, a2⟩ := h1.list
        exact ⟨_, us.length, rfl, .inl ⟨us, SqL.of a1, rfl⟩, by rw [a2.length]; exact q _ H (Same.refl _) (.int _)⟩
      case tuple es =>
        subst hz
        obtain ⟨a, us, rfl, a1, a2, _⟩ := h1.tuple
        exact ⟨_, us.length, rfl, .inr ⟨us, a1, rfl⟩, by rw [a2.length]; exact q _ H (Same.refl _) (.int _)⟩
      case str x =>
        obtain ⟨h3, rfl⟩ := hz
        rw [h1.str]
        exact ⟨_, x.length, rfl, ⟨mil h3, rfl⟩, q _ H (Same.refl _) (.int _)⟩
theorem bools_dv {H : Hp} : ∀ {vs : List V} {bs : List Bool}, DvAll K H vs (bs.map .bool) → vs = bs.map V.bl
  | _, [], h => by cases h; rfl
  | _, b :: bs, h => by
    cases h with
    | cons a t => cases a; rw [bools_dv t]; rfl
theorem ints_dv {H : Hp} : ∀ {vs : List V} {ns : List Int}, DvAll K H vs (ns.map .int) → vs = ns.map V.int
  | _, [], h => by cases h; rfl
  | _, b :: bs, h => by
    cases h with
    | cons a t => cases a; rw [ints_dv t]; rfl
theorem dv_ints {H : Hp} : ∀ (ns : List Int), DvAll K H (ns.map V.int) (ns.map .int)
  | [] => .nil
  | n :: ns => .cons (.int n) (dv_ints ns)
def AllR : List D → D → Prop := fun ds z => ∃ bs : List Bool, ds = [.list (bs.map .bool)] ∧ z = .bool (bs.all id)
def AnyR : List D → D → Prop := fun ds z => ∃ bs : List Bool, ds = [.list (bs.map .bool)] ∧ z = .bool (bs.any id)
def SumR : List D → D → Prop := fun ds z => ∃ ns : List Int, ds = [.list (ns.map .int)] ∧ z = .int ns.sum
def MaxR : List D → D → Prop := fun ds z => ∃ (ns : List Int) (m : Int), ds = [.list (ns.map .int)] ∧ m ∈ ns ∧ (∀ y ∈ ns, y ≤ m) ∧ z = .int m
theorem one_list {M : Hid} {H : Hp} {vs : List V} {es : List D} (h : DvMs K M H vs [.list es]) : ∃ a us, vs = [.ref a] ∧ H a = some (.lst us) ∧ DvAll K (hid M H) us es := by
  cases h with
  | cons h1 h2 =>
    cases h2
    obtain ⟨a, us, rfl, a1, a2⟩ := h1.list
    exact ⟨a, us, rfl, a1, a2⟩
theorem sem_all : CallSem K (rAll K) AllR := by
  intro M H vs ds z Q t h hz q
  obtain ⟨bs, rfl, rfl⟩ := hz
  obtain ⟨a, us, rfl, a1, a2⟩ := one_list h
  rw [bools_dv a2] at a1
  exact ⟨a, bs, rfl, SqL.of a1, q _ H (Same.refl _) (.bl _)⟩
theorem sem_any : CallSem K (rAny K) AnyR := by
  intro M H vs ds z Q t h hz q
  obtain ⟨bs, rfl, rfl⟩ := hz
  obtain ⟨a, us, rfl, a1, a2⟩ := one_list h
  rw [bools_dv a2] at a1
  exact ⟨a, bs, rfl, SqL.of a1, q _ H (Same.refl _) (.bl _)⟩
theorem sem_sum : CallSem K (rSum K) SumR := by
  intro M H vs ds z Q t h hz q
  obtain ⟨ns, rfl, rfl⟩ := hz
  obtain ⟨a, us, rfl, a1, a2⟩ := one_list h
  rw [ints_dv a2] at a1
  exact ⟨a, ns, rfl, SqL.of a1, q _ H (Same.refl _) (.int _)⟩
theorem sem_max : CallSem K (rMax K) MaxR := by
  intro M H vs ds z Q t h hz q
  obtain ⟨ns, m, rfl, hm, hle, rfl⟩ := hz
  obtain ⟨a, us, rfl, a1, a2⟩ := one_list h
  rw [ints_dv a2] at a1
  refine ⟨a, ns, rfl, SqL.of a1, List.length_pos_of_mem hm, fun m' h1 h2 => ?_⟩
  have e : m' = m := Int.le_antisymm (hle m' h1) (h2 m hm)
  subst e
  exact q _ H (Same.refl _) (.int _)
def ListR : List D → D → Prop
  | [.list es], z => z = .list es
  | [.tuple es], z => z = .list es
  | _, _ => False
def TupR : List D → D → Prop
  | [.list es], z => z = .tuple es
  | [.tuple es], z => z = .tuple es
  | _, _ => False
theorem sem_tuple : CallSem K (fun xs H Q => ∃ p ys, xs = [.ref p] ∧ ((SqL K H p ys ∧ NewT ys H Q) ∨ (SqT K H p ys ∧ Q (.ref p) H))) TupR := by
  intro M H vs ds z Q t h hz q
  cases h with
  | nil => simp only [TupR] at hz
  | @cons v vs d ds h1 h2 =>
    cases h2 with
    | @cons _ _ _ _ _ _ => cases d <;> simp only [TupR] at hz
    | nil =>
      cases d <;> simp only [TupR] at hz
      case list es =>
        subst hz
        obtain ⟨a, us, rfl, a1, a2⟩ := h1.list
        exact ⟨a, us, rfl, .inl ⟨SqL.of a1, fun p ob hp hd => q _ _ (same_new hp) (new_tup t hp hd a2)⟩⟩
      case tuple es =>
        subst hz
        obtain ⟨a, us, rfl, a1, a2, a3⟩ := h1.tuple
        exact ⟨a, us, rfl, .inr ⟨a1, q _ H (Same.refl _) (let ⟨_, b3, b4⟩ := a3; .tup b3 b4 a2)⟩⟩
def IntOf : List D → D → Prop
  | [.int i], z => z = .int i
  | [.bool b], z => z = .int (if b then 1 else 0)
  | _, _ => False
theorem sem_intOf : CallSem K (fun xs H Q => (∃ i, xs = [.int i] ∧ Q (.int i) H) ∨ ∃ k, xs = [.bl k] ∧ Q (.int (if k then 1 else 0)) H) IntOf := by
  intro M H vs ds z Q t h hz q
  cases h with
  | nil => simp only [IntOf] at hz
  | @cons v vs d ds h1 h2 =>
    cases h2 with
    | @cons _ _ _ _ _ _ => cases d <;> simp only [IntOf] at hz
    | nil =>
      cases d <;> simp only [IntOf] at hz
      case int i => subst hz; rw [h1.int]; exact .inl ⟨i, rfl, q _ H (Same.refl _) (.int _)⟩
      case bool b => subst hz; rw [h1.bool]; exact .inr ⟨b, rfl, q _ H (Same.refl _) (.int _)⟩
/-- the built-in's promise: a new list -/
def CallSemF (K : PySem.W.Frag) (r : List V → Hp → VK → Prop) (R : List D → (List D → Prop) → Prop) : Prop :=
  ∀ (M : Hid) (H : Hp) (vs : List V) (ds : List D) (κ : List D → Prop) (Q : VK), (∀ a, M a = true → H a ≠ none) → DvMs K M H vs ds → R ds κ → (∀ p us es, H p = none → DvAll K (hid M H) us es → κ es → Q (.ref p) (upd H p (.lst us))) → r vs H Q
def fBlt (R : List D → (List D → Prop) → Prop) (a : DTA) : DTF := fun env κ => a env fun os => ∃ ds, gets env os = some ds ∧ R ds κ
theorem up_bltF {a : DTA} {r : List V → Hp → VK → Prop} {R : List D → (List D → Prop) → Prop} (sem : CallSemF K r R) : ∀ σ H Q, upF K (fBlt R a) σ H Q → tCB r (upA K a) σ H Q := by
  intro σ H Q ⟨P, M, env, κ, R0, w, k⟩
  refine ⟨P, M, env, _, R0, w, fun vs H1 os s1 R1 o1 w1 => ?_⟩
  obtain ⟨ds, e, hz⟩ := w1
  exact sem M H1 vs ds κ Q R1.trk (o1.rd R1 e) hz fun p us es hp r hk => k p us H1 es s1 R1 hp r hk
section
variable {X : Cx}
theorem fv_callB {x : Str} {p pos : Pos} {e : Expr} {es : List Expr} {a : DTA} {id : String} {r : List V → Hp → VK → Prop} {R : List D → (List D → Prop) → Prop} (hc : CallR X (.builtin id) r) (sem : CallSemF X.K r R) (hg : Gl X x) (hm : X.mg x = none) (hv : bootBuiltins x = some (.builtin id))
    (ha : AV X (e :: es) a) (hn : x ≠ "__name__" := by decide) (hdb : (x == ("__debug__" : Str)) = false := by decide) (he : starEach (e :: es) X.env = (false, eval e X.env) :: starEach es X.env := by rfl) (hpl : (backTo pos (starEach es X.env)).any (·.1) = false := by rfl) : FV X (.Call (.Name x p) (e :: es) [] pos) (fBlt R a) :=
  PE.imp (pe_callB hc hg hm hv ha hn hdb he hpl) (up_bltF sem)
theorem fv_callTy {x : Str} {p pos : Pos} {e : Expr} {es : List Expr} {a : DTA} {T : String} {r : List V → Hp → VK → Prop} {R : List D → (List D → Prop) → Prop} (hc : CallR X (.type T) r) (sem : CallSemF X.K r R) (hg : Gl X x) (hm : X.mg x = none) (hv : bootBuiltins x = some (.type T))
    (ha : AV X (e :: es) a) (hn : x ≠ "__name__" := by decide) (hdb : (x == ("__debug__" : Str)) = false := by decide) (he : starEach (e :: es) X.env = (false, eval e X.env) :: starEach es X.env := by rfl) (hpl : (backTo pos (starEach es X.env)).any (·.1) = false := by rfl) : FV X (.Call (.Name x p) (e :: es) [] pos) (fBlt R a) :=
  PE.imp (pe_callTy hc hg hm hv ha hn hdb he hpl) (up_bltF sem)
end
def ListF : List D → (List D → Prop) → Prop
  | [.list es], κ => κ es
  | [.tuple es], κ => κ es
  | _, _ => False
theorem sem_list : CallSemF K (fun xs H Q => ∃ p ys, xs = [.ref p] ∧ (SqL K H p ys ∨ SqT K H p ys) ∧ ∀ l, H l = none → Q (.ref l) (upd H l (.lst ys))) ListF := by
  intro M H vs ds κ Q t h hz q
  cases h with
  | nil => simp only [ListF] at hz
  | @cons v vs d ds h1 h2 =>
    cases h2 with
    | @cons _ _ _ _ _ _ => cases d <;> simp only [ListF] at hz
    | nil =>
      cases d <;> simp only [ListF] at hz
      case list es =>
        obtain ⟨a, us, rfl, a1, a2⟩ := h1.list
        exact ⟨a, us, rfl, .inl (SqL.of a1), fun p hp => q p us es hp a2 hz⟩
      case tuple es =>
        obtain ⟨a, us, rfl, a1, a2, a3⟩ := h1.tuple
        exact ⟨a, us, rfl, .inr a1, fun p hp => q p us es hp a2 hz⟩
/-- sorted of a list of ints -/
def SortIF : List D → (List D → Prop) → Prop := fun ds κ => ∃ ns : List Int, ds = [.list (ns.map .int)] ∧ ∀ ns' : List Int, ns'.Perm ns → ns'.Pairwise (· ≤ ·) → κ (ns'.map .int)
theorem sem_sortI : CallSemF K (rSortedI K) SortIF := by
  intro M H vs ds κ Q t h hz q
  obtain ⟨ns, rfl, hz⟩ := hz
  obtain ⟨a, us, rfl, a1, a2⟩ := one_list h
  rw [ints_dv a2] at a1
  exact ⟨a, ns, rfl, SqL.of a1, fun ns' p h1 h2 hp => q p _ _ hp (dv_ints ns') (hz ns' h1 h2)⟩
/-! range as an argument -/
section
variable {X : Cx}
def fRng1 (a : DTE) : DTF := fun env κ => a env fun o => ∃ j, o = .d (.int j) ∧ -1000000 ≤ j ∧ j ≤ 1000000 ∧ κ (rangeD 0 j.toNat)
theorem rgV_dv {H : Hp} {j : Int} : DvAll K H (rgV 0 j) (rangeD 0 j.toNat) := by
  unfold rgV rangeD
  rw [Int.sub_zero]
  generalize j.toNat = n
  induction n with
  | zero => exact .nil
  | succ n ih =>
    rw [List.range_succ, List.map_append, List.map_append]
    exact ih.append (.cons (.int _) .nil)
theorem fv_listRg {a : Expr} {wa : DTE} {p p2 pos pos2 : Pos} (hc : X.calm = true) (hm : X.mg "list" = none) (hm2 : X.mg "range" = none) (ha : EV X a wa) (hg : Gl X "list" := by rfl) (hg2 : Gl X "range" := by rfl) (na : starEach [a] X.env = (false, eval a X.env) :: starEach [] X.env := by rfl)
    (nb : starEach [.Call (.Name "range" p2) [a] [] pos2] X.env = (false, eval (.Call (.Name "range" p2) [a] [] pos2) X.env) :: starEach [] X.env := by rfl) : FV X (.Call (.Name "list" p) [.Call (.Name "range" p2) [a] [] pos2] [] pos) (fRng1 wa) := by
  refine PE.imp (pe_listRg hc hg hm (prg_1 hg2 hm2 ha na) nb) fun σ H Q ⟨P, M, env, κ, R, w, k⟩ => ?_
  refine ⟨P, M, env, _, R, w, fun v H1 o s1 R1 o1 ⟨j, e, h1, h2, w1⟩ => ?_⟩
  subst e
  refine ⟨j, DvM.int (.im o1), ⟨by omega, by omega, by omega, by omega, by omega⟩, fun q hq => k q _ H1 _ s1 R1 hq rgV_dv w1⟩
def wTupRg (a : DTE) : DTE := fun env κ => a env fun o => ∃ j, o = .d (.int j) ∧ -1000000 ≤ j ∧ j ≤ 1000000 ∧ κ (.d (.tuple (rangeD 0 j.toNat)))
theorem ev_tupRg {a : Expr} {wa : DTE} {p p2 pos pos2 : Pos} (hc : X.calm = true) (hm : X.mg "tuple" = none) (hm2 : X.mg "range" = none) (ha : EV X a wa) (hg : Gl X "tuple" := by rfl) (hg2 : Gl X "range" := by rfl) (na : starEach [a] X.env = (false, eval a X.env) :: starEach [] X.env := by rfl)
    (nb : starEach [.Call (.Name "range" p2) [a] [] pos2] X.env = (false, eval (.Call (.Name "range" p2) [a] [] pos2) X.env) :: starEach [] X.env := by rfl) : EV X (.Call (.Name "tuple" p) [.Call (.Name "range" p2) [a] [] pos2] [] pos) (wTupRg wa) := by
  refine PE.imp (pe_tupRgF hc hg hm (prg_1 hg2 hm2 ha na) nb) fun σ H Q ⟨P, M, env, κ, R, w, k⟩ => ?_
  refine ⟨P, M, env, _, R, w, fun v H1 o s1 R1 o1 ⟨j, e, h1, h2, w1⟩ => ?_⟩
  subst e
  refine ⟨j, DvM.int (.im o1), ⟨by omega, by omega, by omega, by omega, by omega⟩, fun q ob hq hd => k _ _ (.d _) (s1.trans (SameP.of (same_new hq))) (R1.same (same_new hq)) (new_tup R1.trk hq hd rgV_dv) w1⟩
/-- isinstance -/
def tyD : D → String
  | .none => "NoneType"
  | .bool _ => "bool"
  | .int _ => "int"
  | .str _ => "str"
  | .list _ => "list"
  | .tuple _ => "tuple"
  | .dict _ => "dict"
theorem tyx {M : Hid} {H : Hp} {v : V} {d : D} (h : DvM K M H v d) (nd : noDct d = true) : TyX K H v (.type (tyD d)) := by
  cases d with
  | none => rw [h.none]; exact .base .non
  | bool b => rw [h.bool]; exact .base (.bl b)
  | int b => rw [h.int]; exact .base (.int b)
  | str b => rw [h.str]; exact .base (.str b)
  | list es =>
    obtain ⟨a, us, rfl, a1, a2⟩ := h.list
    exact .base (.lst a1)
  | tuple es =>
    obtain ⟨a, us, rfl, a1, a2, _⟩ := h.tuple
    rcases a1 with (a1 | ⟨o, a1⟩) | ⟨o, its, n, a1, a3, _⟩
    · exact .base (.tup a1)
    · exact .fTuple a1
    · exact .kTuple a1 a3
  | dict _ => simp [noDct] at nd
def wIsi (T : String) (a : DTE) : DTE := fun env κ => a env fun o => ∃ d b, o.get env = some d ∧ noDct d = true ∧ kitB (tyD d) T = some b ∧ κ (.d (.bool b))
theorem ev_isi {e : Expr} {x : Str} {a : DTE} {T : String} {p px pos : Pos} (hm : X.mg "isinstance" = none) (hmx : X.mg x = none) (hv : bootBuiltins x = some (.type T)) (he : EV X e a) (hg : Gl X "isinstance" := by rfl) (hgx : Gl X x := by rfl) (hn : x ≠ "__name__" := by decide) (hd : (x == ("__debug__" : Str)) = false := by decide)
    (h1 : starEach [e, .Name x px] X.env = (false, eval e X.env) :: starEach [.Name x px] X.env := by rfl) (h2 : (backTo pos (starEach [.Name x px] X.env)).any (·.1) = false := by rfl) (h3 : starEach [.Name x px] X.env = (false, eval (.Name x px) X.env) :: starEach [] X.env := by rfl) :
    EV X (.Call (.Name "isinstance" p) [e, .Name x px] [] pos) (wIsi T a) := by
  refine PE.imp (pe_callB call_isi hg hm PyProof.Rows.boot_isinstance (pa_cons he (pa_cons (pe_bltn (v := .ty T) hgx hmx hv rfl hn hd) pa_nil h3) h1) (by decide) (by decide) h1 h2) fun σ H Q ⟨P, M, env, κ, R, w, k⟩ => ?_
  refine ⟨P, M, env, _, R, w, fun v H1 o s1 R1 o1 ⟨d, b, e1, nd, e2, w1⟩ => ?_⟩
  exact ⟨v, .ty T, _, _, b, rfl, .ty T, tyx (o1.rd R1 e1) nd, kit_ty e2, k _ H1 (.d (.bool b)) s1 R1 (.bl b) w1⟩
/-- text.index(sign) -/
def wSIndex (x : Str) (a : DTE) : DTE := fun env κ => a env fun o => ∃ y i rest, o = .d (.str y) ∧ Builtin.Str.occurrences x y 0 x.length 1 = i :: rest ∧ κ (.d (.int (i : Nat)))
theorem ev_sindex {o e : Expr} {x : Str} {a : DTE} {apos cpos : Pos} (ho : PE X o (tC (.str x))) (he : EV X e a) (hbase : attributeBase o "index" X.env (eval o X.env) = eval o X.env := by rfl)
    (hfew : ((backTo cpos (starEach [e] X.env)).all (fun x => !x.1) && (backToKw cpos (keywordEach [] X.env)).all (fun x => x.1.isSome)
      && decide (([e] : List Expr).length + ([] : List Keyword).length + (if ([] : List Keyword).isEmpty then 0 else 1) < 30)) = true := by rfl)
    (hline : (apos.endLine == cpos.line) = true := by rfl) (hst : starEach [e] X.env = (false, eval e X.env) :: starEach [] X.env := by rfl) (hplain : (backTo cpos (starEach ([] : List Expr) X.env)).any (·.1) = false := by rfl) :
    EV X (.Call (.Attribute o "index" apos) [e] [] cpos) (wSIndex x a) := by
  refine PE.imp (pe_bm PySem.F.plainAttrs_str PySem.F.slot_str_index PySem.F.type_str_index mt_sindex ho (pa_cons he pa_nil hst) hbase hfew hline hst hplain) fun σ H Q ⟨P, M, env, κ, R, w, k⟩ => ?_
  refine ⟨rfl, P, M, env, _, R, w, fun v H1 o s1 R1 o1 ⟨y, i, rest, e1, e2, w1⟩ => ?_⟩
  subst e1
  exact ⟨x, y, i, rest, rfl, by rw [DvM.str (.im o1)], e2, k _ H1 (.d (.int i)) s1 R1 (.int _) w1⟩
/-- xs.index(y) of a list -/
def wLIndex (a b : DTE) : DTE := fun env κ => a env fun o => ∃ ds, o.get env = some (.list ds) ∧ b env fun u => ∃ (d : D) (j : Nat) (z : D), u.get env = some d ∧ shp (.list ds) = true ∧ shp d = true ∧ ds[j]? = some z ∧ PyData.eqv z d = true ∧
  (∀ (m : Nat) (z' : D), m < j → ds[m]? = some z' → PyData.eqv z' d = false) ∧ κ (.d (.int (j : Nat)))
theorem ev_lindex {k : Nat} (hr : Room k X.A) {o e : Expr} {a b : DTE} {apos cpos : Pos} (ho : EV X o a) (he : EV X e b) (hbase : attributeBase o "index" X.env (eval o X.env) = eval o X.env := by rfl)
    (hfew : ((backTo cpos (starEach [e] X.env)).all (fun x => !x.1) && (backToKw cpos (keywordEach [] X.env)).all (fun x => x.1.isSome)
      && decide (([e] : List Expr).length + ([] : List Keyword).length + (if ([] : List Keyword).isEmpty then 0 else 1) < 30)) = true := by rfl)
    (hline : (apos.endLine == cpos.line) = true := by rfl) (hst : starEach [e] X.env = (false, eval e X.env) :: starEach [] X.env := by rfl) (hplain : (backTo cpos (starEach ([] : List Expr) X.env)).any (·.1) = false := by rfl) :
    EV X (.Call (.Attribute o "index" apos) [e] [] cpos) (wLIndex a b) := by
  have hu : X.A.units + 65 < cLine := by have := hr.un; omega
  refine PE.imp (pe_bm PySem.F.plainAttrs_list PySem.F.slot_list_index PySem.F.type_list_index (mt_indexD hu) ho (pa_cons he pa_nil hst) hbase hfew hline hst hplain) fun σ H Q ⟨P, M, env, κ, R, w, k⟩ => ?_
  refine ⟨P, M, env, _, R, w, fun v H1 o s1 R1 o1 ⟨ds, e1, w1⟩ => ?_⟩
  obtain ⟨p, us, rfl, q1, q2⟩ := (o1.rd R1 e1).list
  refine ⟨.inl ⟨rfl, _, SqL.of q1⟩, P, M, env, _, R1, w1, fun u H2 o' s2 R2 o2 ⟨d, j, z, e2, h1, h2, h3, h4, h5, w2⟩ => ?_⟩
  have hp : ∀ p, P = some p → M p = true := fun p q => (R.pool p q).1
  exact ⟨p, u, d, ds, j, z, rfl, rfl, ((o1.step s2 hp).rd R2 e1).dp (shp_n h1), (o2.rd R2 e2).dp (shp_n h2), shp_s h1, shp_s h2, h3, h4, h5, k _ H2 (.d (.int j)) (s1.trans s2) R2 (.int _) w2⟩
end
end DL

namespace DL
open PySem L2
variable {K : PySem.W.Frag}

/-! ### tuple * int, text * int, tuple += tuple -/
section
variable {X : Cx}
/-- text * int -/
def rRepS : R2 := fun x y H Q => ∃ z k, x = .str z ∧ y = .int k ∧ 0 ≤ k ∧ k ≤ 1000 ∧ z.length ≤ 10000 ∧ Q (.str ⟨(List.replicate k.toNat z.cps.toList).flatten.toArray⟩) H
theorem flat_rep (z : Array Nat) : ∀ n : Nat, (List.replicate n z).foldl (· ++ ·) #[] = (List.replicate n z.toList).flatten.toArray := by
  have go : ∀ (n : Nat) (acc : List Nat), (List.replicate n z).foldl (· ++ ·) acc.toArray = (acc ++ (List.replicate n z.toList).flatten).toArray := by
    intro n
    induction n with
    | zero => intro acc; simp
    | succ n ih =>
      intro acc
      rw [List.replicate_succ, List.foldl_cons, List.replicate_succ, List.flatten_cons]
      have e : acc.toArray ++ z = (acc ++ z.toList).toArray := by
        apply Array.ext'
        simp
      rw [e, ih]
      simp
  intro n
  exact go n []
theorem op_repS : L2.OpR X (binaryOp .Mult) rRepS := by
  intro pins s σ H x y v u Q I rx ry h
  obtain ⟨z, k, rfl, rfl, h0, h1, h2, q⟩ := h
  obtain ⟨t, rfl⟩ := rx
  obtain ⟨t', rfl⟩ := ry
  have e0 : ∀ c : Prop, [Decidable c] → ¬ c → decide c = false := fun c _ h => decide_eq_false h
  refine PySem.P.mul_str (by rw [decide_eq_false (by omega), decide_eq_false (by omega)]; rfl) (fun hn _ => ?_) (fun hn _ => ?_) ?_
  · intro hc
    have : ((2 : Int) ^ 63 - 1) / k ≥ 10000 := by
      have h3 : (10000 : Int) * k ≤ 2 ^ 63 - 1 := by omega
      exact (Int.le_ediv_iff_mul_le (by omega)).mpr h3
    omega
  · unfold Builtin.Str.tooLong
    have h3 : z.length * k.toNat ≤ 10000 * 1000 := Nat.mul_le_mul h2 (by omega)
    first
      | exact decide_eq_false (by rw [sizeLine_eq]; omega)
      | (simp only [sizeLine_eq]; exact decide_eq_false (by omega))
  · have lenOk : (List.replicate k.toNat z.cps.toList).flatten.length ≤ 10000000 := by
      have h3 : k.toNat * z.cps.toList.length ≤ 1000 * 10000 := Nat.mul_le_mul (by omega) (by rw [Array.length_toList]; exact h2)
      rw [List.length_flatten, List.map_replicate, List.sum_replicate_nat]
      omega
    by_cases hk : k < 1
    · rw [if_pos hk]
      have ek : k = 0 := by omega
      subst ek
      have e : (⟨(List.replicate (Int.toNat 0) z.cps.toList).flatten.toArray⟩ : Str) = Str.empty := rfl
      rw [e] at q
      exact ⟨Nat.zero_le _, .str Str.empty, H, I.tok _, ⟨_, rfl⟩, q⟩
    · rw [if_neg hk]
      by_cases hc : (k == 1 || z.length == 0) = true
      · rw [if_pos hc]
        have e : (⟨(List.replicate k.toNat z.cps.toList).flatten.toArray⟩ : Str) = z := by
          simp only [Bool.or_eq_true, beq_iff_eq] at hc
          rcases hc with hc | hc
          · subst hc
            show (⟨([z.cps.toList].flatten).toArray⟩ : Str) = z
            simp
          · have : z.cps.toList = [] := by
              have h3 : z.cps.size = 0 := hc
              exact List.eq_nil_of_length_eq_zero (by simpa using h3)
            have e2 : z = ⟨#[]⟩ := by
              obtain ⟨c⟩ := z
              simp at this
              rw [this]
            rw [this, e2]
            simp
        rw [e] at q
        exact ⟨.str z, H, I, ⟨t, rfl⟩, q⟩
      · rw [if_neg hc, flat_rep]
        refine ⟨?_, .str _, H, I.tok _, ⟨_, rfl⟩, q⟩
        show (List.replicate k.toNat z.cps.toList).flatten.toArray.size ≤ sizeLine
        rw [List.size_toArray]
        exact Nat.le_trans lenOk (by decide)
end
def MulR : D → D → D → Prop
  | .int i, .int j, z => ((-(2 ^ 64) < i ∧ i < 2 ^ 64) ∨ (-(2 ^ 64) < j ∧ j < 2 ^ 64)) ∧ z = .int (i * j)
  | .tuple xs, .int k, z => xs ≠ [] ∧ 1 ≤ k ∧ k ≤ 1000 ∧ xs.length ≤ 1000 ∧ z = .tuple (List.replicate k.toNat xs).flatten
  | .str x, .int k, z => 0 ≤ k ∧ k ≤ 1000 ∧ x.length ≤ 10000 ∧ z = .str ⟨(List.replicate k.toNat x.cps.toList).flatten.toArray⟩
  | _, _, _ => False
abbrev rMulI : R2 := rI CMul fun i j => .int (i * j)
def rMulAll (K : PySem.W.Frag) : R2 := fun x y H Q => rMulI x y H Q ∨ (rRepF K x y H Q ∨ rRepS x y H Q)
theorem op_mulAll {X : Cx} : L2.OpR X (binaryOp .Mult) (rMulAll X.K) := op_mul.or (op_repF.or op_repS)
theorem sem_mul : BinSem K (rMulAll K) MulR := by
  intro M H v u d e z Q t hv hu hz q
  cases d <;> cases e <;> simp only [MulR] at hz
  case int.int i j =>
    obtain ⟨h1, rfl⟩ := hz
    exact .inl ⟨i, j, hv.int, hu.int, h1, q _ H (Same.refl _) (.int _)⟩
  case tuple.int xs k =>
    obtain ⟨h1, h2, h3, h4, rfl⟩ := hz
    obtain ⟨a, vs, rfl, a1, a2, a3⟩ := hv.tuple
    refine .inr (.inl ⟨a, k, vs, rfl, hu.int, a1, fun e => ?_, h2, h3, by rw [a2.length]; exact h4, fun hk => ?_, fun _ p ob hp hd => ?_⟩)
    · subst e; cases a2; exact h1 rfl
    · subst hk
      have e : (List.replicate (Int.toNat 1) xs).flatten = xs := by
        show ([xs].flatten) = xs
        simp
      rw [e] at q
      obtain ⟨o, a3, a4⟩ := a3
      exact q _ H (Same.refl _) (.tup a3 a4 a2)
    · exact q _ _ (same_new hp) (new_tup t hp hd (a2.replicate _))
  case str.int x k =>
    obtain ⟨h1, h2, h3, rfl⟩ := hz
    exact .inr (.inr ⟨x, k, hv.str, hu.int, h1, h2, h3, q _ H (Same.refl _) (.str _)⟩)
/-! += -/
section
variable {X : Cx}
def rIAdd (K : PySem.W.Frag) : R2 := fun x y H Q => rAddI x y H Q ∨ (rAddS2 x y H Q ∨ rCatF K x y H Q)
theorem op_iadd : L2.OpR X (inplaceOp .Add) (rIAdd X.K) := iop_add.or (iop_add_str.or op_catI)
def IAddR : D → D → D → Prop
  | .int i, .int j, z => z = .int (i + j)
  | .str x, .str y, z => x.length + y.length ≤ 1000000 ∧ z = .str (x ++ y)
  | .tuple xs, .tuple ys, z => xs.length + ys.length ≤ 1000000 ∧ z = .tuple (xs ++ ys)
  | _, _, _ => False
theorem sem_iadd : BinSem K (rIAdd K) IAddR := by
  intro M H v u d e z Q t hv hu hz q
  cases d <;> cases e <;> simp only [IAddR] at hz
  case int.int i j =>
    subst hz
    exact .inl ⟨i, j, hv.int, hu.int, q _ H (Same.refl _) (.int _)⟩
  case str.str x y =>
    obtain ⟨h1, rfl⟩ := hz
    exact .inr (.inl ⟨x, y, hv.str, hu.str, mil h1, q _ H (Same.refl _) (.str _)⟩)
  case tuple.tuple xs ys =>
    obtain ⟨h1, rfl⟩ := hz
    obtain ⟨a, vs, rfl, a1, a2, a3⟩ := hv.tuple
    obtain ⟨b, us, rfl, b1, b2, b3⟩ := hu.tuple
    refine .inr (.inr ⟨a, b, vs, us, rfl, rfl, a1, b1, by rw [a2.length, b2.length]; exact mil h1, fun e => ?_, fun _ e => ?_, fun _ _ p ob hp hd => ?_⟩)
    · subst e
      cases a2
      obtain ⟨o, b3, b4⟩ := b3
      exact q _ H (Same.refl _) (.tup b3 b4 b2)
    · subst e
      cases b2
      rw [List.append_nil] at q
      obtain ⟨o, a3, a4⟩ := a3
      exact q _ H (Same.refl _) (.tup a3 a4 a2)
    · exact q _ _ (same_new hp) (new_tup t hp hd (a2.append b2))
theorem sem_idiv : BinSem K (rI CDiv fun i j => .int (i / j)) DivR := sem_div
end

/-! ### a def -/
def startE (n : Nat) (ds : List D) : DEnv := ds.map Sl.im ++ List.replicate (n - ds.length) .un
theorem rel_start {M : Hid} {H : Hp} {N : List Str} {vs : List V} {ds : List D} (t : ∀ a, M a = true → H a ≠ none) (r : DvAll K (hid M H) vs ds) : Rel K none M (L2.start N vs) H (startE N.length ds) where
  len := by simp [L2.start, startE, r.length]
  slot := fun i s e => by
    unfold startE at e
    by_cases h : i < ds.length
    · rw [List.getElem?_append_left (by simpa using h), List.getElem?_map] at e
      cases e2 : ds[i]? with
      | none => rw [e2] at e; cases e
      | some d =>
        rw [e2] at e
        cases e
        obtain ⟨v, q1, q2⟩ := r.get i e2
        refine ⟨v, ?_, q2⟩
        unfold L2.start
        rw [List.getElem?_append_left (by rw [List.length_map, r.length]; exact h), List.getElem?_map, q1]
        rfl
    · rw [List.getElem?_append_right (by simpa using Nat.le_of_not_lt h)] at e
      have := List.mem_of_getElem? e
      rw [List.mem_replicate] at this
      rw [this.2]
      trivial
  own := fun i s a e q => by
    have hs : s = .un ∨ ∃ d, s = .im d := by
      unfold startE at e
      have := List.mem_of_getElem? e
      rw [List.mem_append, List.mem_replicate, List.mem_map] at this
      rcases this with ⟨d, _, z⟩ | ⟨_, z⟩
      · exact .inr ⟨d, z.symm⟩
      · exact .inl z
    rcases hs with rfl | ⟨d, rfl⟩ <;> cases q
  sep := fun i j s u a e _ q _ => by
    have hs : s = .un ∨ ∃ d, s = .im d := by
      unfold startE at e
      have := List.mem_of_getElem? e
      rw [List.mem_append, List.mem_replicate, List.mem_map] at this
      rcases this with ⟨d, _, z⟩ | ⟨_, z⟩
      · exact .inr ⟨d, z.symm⟩
      · exact .inl z
    rcases hs with rfl | ⟨d, rfl⟩ <;> cases q
  trk := t
  pool := fun p e => by cases e
theorem startE_own {n : Nat} {ds : List D} : ∀ (i : Nat) s a, (startE n ds)[i]? = some s → ownA s = some a → False := fun i s a e q => by
  have hs : s = .un ∨ ∃ d, s = .im d := by
    unfold startE at e
    have := List.mem_of_getElem? e
    rw [List.mem_append, List.mem_replicate, List.mem_map] at this
    rcases this with ⟨d, _, z⟩ | ⟨_, z⟩
    · exact .inr ⟨d, z.symm⟩
    · exact .inl z
  rcases hs with rfl | ⟨d, rfl⟩ <;> cases q
section
variable {P : Program} {w : World} {mg : Str → Option Value} {base : Heap} {x qual : Str} {params : Arguments} {body : List Stmt} {scope : Scope} {f : Addr} {fd : FuncData} {N ps : List Str}
/-- a def without the pool -/
theorem fn_data {k n : Nat} {g : DSp} (F : FunD K x qual params body scope [] [] f fd) (S : FnScope N ps scope) (hn : ps.length = n) (mono : Mono g) (τ : DTS)
    (der : ∀ (cdv : Value) (A : Around) (outer : List Env) (s : Shared) (H : Hp) (E : XK), Room k (A.deeper (PyProof.Rows.envOfC qual scope s.heap.objs.size f cdv)) → SVs (cxOf CX0 P w K mg base N qual scope f cdv A outer s H E).nox body τ)
    (pure : ∀ ds κ, ds.length = n → g ds κ → τ { nx := fun _ => κ .none, rt := fun d _ => κ d } (startE N.length ds)) : FnOk P w K mg base CX0 (k + 1) f fd ps (spF K n g) := by
  refine F.ok S (fun vs H Q E h => (spF_len vs H Q E h).trans hn.symm) (fun cdv A outer s H vs Q E hr h => ⟨upS K τ, PSs.nox (der cdv A outer s H E hr), ?_⟩)
  obtain ⟨M, ds, t, r, hl, hg⟩ := h
  refine ⟨none, M, H, _, _, ⟨⟨M, rel_start t r, fun _ e => e, fun _ e => .inl e⟩, SameP.refl, fun i s a e q => (startE_own i s a e q).elim, t⟩, ⟨?_, ?_, ?_, ?_⟩, pure ds _ hl hg⟩
  · intro σ H' env R q
    exact q .non H' (fun a o e => R.same a o (fun z => by cases z) e) .non
  · intro v σ H' env d R q1 q2
    exact q2 v H' (fun a o e => R.same a o (fun z => by cases z) e) q1
  · intro σ H' env R q; exact q.elim
  · intro σ H' env R q; exact q.elim
/-- a def whose first parameter is the pool -/
theorem fn_pool {k n : Nat} {g : DSp} (F : FunD K x qual params body scope [] [] f fd) (S : FnScope N ps scope) (hn : ps.length = n + 1) (mono : Mono g) (τ : DTS)
    (der : ∀ (cdv : Value) (A : Around) (outer : List Env) (s : Shared) (H : Hp) (E : XK), Room k (A.deeper (PyProof.Rows.envOfC qual scope s.heap.objs.size f cdv)) → SVs (cxOf CX0 P w K mg base N qual scope f cdv A outer s H E).nox body τ)
    (pure : ∀ ds κ, ds.length = n → g ds κ → τ { nx := fun _ => κ .none, rt := fun d _ => κ d } (.pl :: startE (N.length - 1) ds)) (hN : 1 ≤ N.length) : FnOk P w K mg base CX0 (k + 1) f fd ps (spP K n g) := by
  refine F.ok S (fun vs H Q E h => (spP_len vs H Q E h).trans hn.symm) (fun cdv A outer s H vs Q E hr h => ⟨upS K τ, PSs.nox (der cdv A outer s H E hr), ?_⟩)
  obtain ⟨M, p, us, ds, rfl, mp, pool, t, r, hl, hg⟩ := h
  have R0 := rel_start (K := K) (N := N.tail) t r
  have ht : N.tail.length = N.length - 1 := by simp
  rw [ht] at R0
  have eS : L2.start N (.ref p :: us) = some (.ref p) :: L2.start N.tail us := by
    unfold L2.start
    rw [List.map_cons, List.cons_append, List.length_cons, ht]
    congr 3
    omega
  rw [eS]
  refine ⟨some p, M, H, _, _, ⟨⟨M, ⟨by simpa using R0.len, fun i s e => ?_, fun i s a e q => ?_, fun i j s u a e1 e2 q1 q2 => ?_, t, fun p' e => ?_⟩, fun _ e => e, fun _ e => .inl e⟩, SameP.refl, fun i s a e q => ?_, t⟩, ⟨?_, ?_, ?_, ?_⟩, pure ds _ hl hg⟩
  · cases i with
    | zero => simp at e; subst e; exact ⟨p, rfl, rfl⟩
    | succ i =>
      have := R0.slot i s (by simpa using e)
      rw [List.getElem?_cons_succ]
      cases s with
      | pl => obtain ⟨_, z, _⟩ := this; cases z
      | un => trivial
      | im d => exact this
      | ml a ds => exact this
      | md tk a ds => exact this
  · cases i with
    | zero => simp at e; subst e; cases q
    | succ i => exact (startE_own i s a (by simpa using e) q).elim
  · cases i with
    | zero => simp at e1; subst e1; cases q1
    | succ i => exact (startE_own i s a (by simpa using e1) q1).elim
  · cases e; exact ⟨mp, pool⟩
  · cases i with
    | zero => simp at e; subst e; cases q
    | succ i => exact (startE_own i s a (by simpa using e) q).elim
  · intro σ H' env R q
    obtain ⟨M', R1, h0, _⟩ := R.rel
    refine q .non H' R.same ((R1.pool p rfl).2.lower fun a o e => ?_) .non
    obtain ⟨e1, e2⟩ := hid_some.mp e
    refine hid_some.mpr ⟨?_, e2⟩
    cases z : M a with
    | false => rfl
    | true => rw [h0 a z] at e1; cases e1
  · intro v σ H' env d R q1 q2
    obtain ⟨M', R1, h0, _⟩ := R.rel
    refine q2 v H' R.same ((R1.pool p rfl).2.lower fun a o e => ?_) q1
    obtain ⟨e1, e2⟩ := hid_some.mp e
    refine hid_some.mpr ⟨?_, e2⟩
    cases z : M a with
    | false => rfl
    | true => rw [h0 a z] at e1; cases e1
  · intro σ H' env R q; exact q.elim
  · intro σ H' env R q; exact q.elim
end
end DL

namespace DL
open PySem L2
variable {K : PySem.W.Frag}

/-! ### -x, a constant's text as a receiver -/
def wNeg (a : DTE) : DTE := fun env κ => a env fun o => ∃ i, o = .d (.int i) ∧ κ (.d (.int (-i)))
section
variable {X : Cx}
theorem ev_neg {a : Expr} {wa : DTE} {pos : Pos} (ha : EV X a wa) : EV X (.UnaryOp .USub a pos) (wNeg wa) := by
  refine PE.imp (pe_un un_neg ha) fun σ H Q ⟨P, M, env, κ, R, w, k⟩ => ?_
  refine ⟨P, M, env, _, R, w, fun v H1 o s1 R1 o1 ⟨i, e, w1⟩ => ?_⟩
  subst e
  exact ⟨i, DvM.int (.im o1), k _ H1 (.d (.int (-i))) s1 R1 (.int _) w1⟩
theorem ev_globS0 {x z : Str} {pos : Pos} (hg : Gl X x) (hm : ∃ t, X.mg x = some (.str z t)) (hd : (x == ("__debug__" : Str)) = false := by decide) : PE X (.Name x pos) (tC (.str z)) := by
  obtain ⟨t, hm⟩ := hm
  exact pe_glob (v := .str z) hg hm ⟨t, rfl⟩ hd

/-! ### t.index(y) of a tuple of any data -/
def rTIndexD (K : PySem.W.Frag) : V → List V → Hp → VK → Prop := fun x xs H Q => ∃ (a : Addr) (y : V) (d : D) (ds : List D) (j : Nat) (z : D), x = V.ref a ∧ xs = [y] ∧ Dp K H (V.ref a) (.tuple ds) ∧ Dp K H y d ∧
  SeqAt.shaped (.tuple ds) = true ∧ SeqAt.shaped d = true ∧ ds[j]? = some z ∧ PyData.eqv z d = true ∧ (∀ (m : Nat) (z' : D), m < j → ds[m]? = some z' → PyData.eqv z' d = false) ∧ Q (.int (j : Nat)) H
theorem mt_tindexD (hu : X.A.units + 65 < cLine) : MtR X "tuple.index" (rTIndexD X.K) := by
  intro pins s σ H x xs v us Q I rx rxs h
  obtain ⟨a, y, d, ds, j, z, rfl, rfl, hl, hy, sl, sd, hz, hzj, hno, q⟩ := h
  cases rx
  cases rxs with
  | cons ry rt =>
    rename_i uy ut
    cases rt
    obtain ⟨bs, r1⟩ := Dp.reads I d y uy hy ry
    have hxs : PyData.canLayAll0 ds = true := SeqAt.canLay_of_shaped sl
    have hroom : X.A.units + 1 + min (PyData.depthAll ds) d.depth < cLine := PyProof.Rows.room_in_shaped sd hu
    cases hl with
    | tup hs ha =>
      obtain ⟨its, rv, ⟨⟨cls, dd, data, sls⟩, ho, hc, n, hdt⟩, hlen⟩ := I.tuple hs
      simp only at hc hdt
      subst hc hdt
      obtain ⟨as, h4⟩ := Dp.readsAll I ds _ its ha rv
      have hn : its.length = ds.length := SeqAt.ReadsAll.length ds its as h4
      have hmap : its.map (SeqAt.readOf s.heap) = ds := SeqAt.readsAll_map ds its as hxs h4
      have hvl := rv.length
      have hsl := sizeLine_eq
      obtain ⟨hjd, _⟩ := List.getElem?_eq_some_iff.mp hz
      have hj : j < its.toArray.size := by rw [List.size_toArray]; omega
      have at_ : ∀ (m : Nat) (hm : m < its.toArray.size) (z' : D), ds[m]? = some z' → SeqAt.readOf s.heap its.toArray[m] = z' := by
        intro m hm z' hz'
        have hml : m < its.length := by simpa using hm
        rw [← hmap, List.getElem?_map, List.getElem?_eq_getElem hml] at hz'
        simpa using hz'
      refine call_meets PySem.F.slot_tuple_index ⟨_, ho, rfl⟩ PySem.F.entry_tuple_index (PySem.F.args_tuple_index_2 _ _)
        (TI.tuple_indexAt a its.toArray n dd sls uy (fun u => PyData.eqv (SeqAt.readOf s.heap u) d) j hj ?_ ?_) ⟨ho, SeqAt.items_eqAt (vs := its.toArray) (show ReadsAll s.heap its.toArray.toList ds as from h4) r1 hxs (SeqAt.canLay_of_shaped sd) hroom, ?_⟩
      · show PyData.eqv (SeqAt.readOf s.heap its.toArray[j]) d = true
        rw [at_ j hj z hz]
        exact hzj
      · intro m hm hmj
        have hmd : m < ds.length := by omega
        show PyData.eqv (SeqAt.readOf s.heap its.toArray[m]) d = false
        rw [at_ m hm _ (List.getElem?_eq_getElem hmd)]
        exact hno m _ hmj (List.getElem?_eq_getElem hmd)
      · exact ⟨.int (j : Nat), H, I.tok _, ⟨_, rfl⟩, q⟩
end
end DL

namespace DL
open PySem L2
variable {K : PySem.W.Frag}
/-! ### dicts -/
/-- a key of the kind -/
def keyOk (tk : Bool) (d : D) : Bool := if tk = true then tupKey d else match d with
  | .int _ => true
  | _ => false
def dget (kvs : List (D × D)) (k : D) : Option D := (kvs.find? fun x => PyData.eqv x.1 k).map (·.2)
def dput (kvs : List (D × D)) (k v : D) : List (D × D) := if (dget kvs k).isSome = true then kvs.map (fun x => if PyData.eqv x.1 k = true then (x.1, v) else x) else kvs ++ [(k, v)]
theorem eqv_kOf {a b : D} (ha : pureD a = true) (hb : pureD b = true) : PyData.eqv a b = decide (kOf a = kOf b) := by
  rw [NestedKey.decide_eq, ← eqv_data, data_kOf a ha, data_kOf b hb]
theorem eqv_int (n m : Int) : PyData.eqv (.int n) (.int m) = decide (n = m) := by
  have := eqv_kOf (a := .int n) (b := .int m) rfl rfl
  rw [this]
  by_cases h : n = m
  · subst h; simp
  · rw [decide_eq_false h, decide_eq_false (fun e => h (by simpa [kOf] using e))]
theorem dget_nil (k : D) : dget [] k = none := rfl
theorem dget_pos {a v k : D} {m : List (D × D)} (e : PyData.eqv a k = true) : dget ((a, v) :: m) k = some v := by simp [dget, List.find?_cons, e]
theorem dget_neg {a v k : D} {m : List (D × D)} (e : PyData.eqv a k = false) : dget ((a, v) :: m) k = dget m k := by simp [dget, List.find?_cons, e]
theorem KvI.get {H : Hp} {n : Int} : ∀ {l : List (Key × V)} {m : List (D × D)}, KvI K H l m → match dget m (.int n) with
    | some z => ∃ v, valV l (.inl n) = some v ∧ Dv K H v z
    | none => valV l (.inl n) = none
  | _, _, .nil => rfl
  | _, _, @KvI.cons _ _ n' v d l m r t => by
    by_cases e : n' = n
    · subst e
      rw [dget_pos (by rw [eqv_int]; simp)]
      exact ⟨v, valV_pos rfl, r⟩
    · rw [dget_neg (by rw [eqv_int]; simp [e]), valV_neg (by simpa using e)]
      exact KvI.get t
theorem atKey_pos {xs : Ents} {k : NestedKey} {p : Addr × Value} : atKey ((k, p) :: xs) k = some p := by simp [atKey, List.find?_cons]
theorem atKey_neg {xs : Ents} {k k' : NestedKey} {p : Addr × Value} (h : ¬ k' = k) : atKey ((k', p) :: xs) k = atKey xs k := by simp [atKey, List.find?_cons, h]
theorem KvX.get {H : Hp} {kd : D} (hk : tupKey kd = true) : ∀ {l : Ents} {m : List (D × D)}, KvX K H l m → match dget m kd with
    | some z => ∃ p v, atKey l (kOf kd) = some p ∧ RelV v p.2 ∧ Dv K H v z
    | none => atKey l (kOf kd) = none
  | _, _, .nil => rfl
  | _, _, @KvX.cons _ _ b u k' d v l m r k e q t => by
    have ev := eqv_kOf (tupKey_pure k) (tupKey_pure hk)
    by_cases h : kOf k' = kOf kd
    · rw [dget_pos (by rw [ev]; simp [h]), h]
      exact ⟨(b, u), v, atKey_pos, e, q⟩
    · rw [dget_neg (by rw [ev]; simp [h]), atKey_neg h]
      exact KvX.get hk t
theorem KvI.append {H : Hp} : ∀ {l l' : List (Key × V)} {m m' : List (D × D)}, KvI K H l m → KvI K H l' m' → KvI K H (l ++ l') (m ++ m')
  | _, _, _, _, .nil, s => s
  | _, _, _, _, .cons r t, s => .cons r (KvI.append t s)
theorem KvX.append {H : Hp} : ∀ {l l' : Ents} {m m' : List (D × D)}, KvX K H l m → KvX K H l' m' → KvX K H (l ++ l') (m ++ m')
  | _, _, _, _, .nil, s => s
  | _, _, _, _, .cons r k e q t, s => .cons r k e q (KvX.append t s)
theorem KvI.length {H : Hp} : ∀ {l : List (Key × V)} {m : List (D × D)}, KvI K H l m → l.length = m.length
  | _, _, .nil => rfl
  | _, _, .cons _ t => by simp [KvI.length t]
theorem KvX.length {H : Hp} : ∀ {l : Ents} {m : List (D × D)}, KvX K H l m → l.length = m.length
  | _, _, .nil => rfl
  | _, _, .cons _ _ _ _ t => by simp [KvX.length t]
theorem KvI.mapPut {H : Hp} {n : Int} {v : V} {z : D} (hv : Dv K H v z) : ∀ {l : List (Key × V)} {m : List (D × D)}, KvI K H l m → KvI K H (l.map fun kv => if kv.1 = .inl n then (kv.1, v) else kv) (m.map fun x => if PyData.eqv x.1 (.int n) = true then (x.1, z) else x)
  | _, _, .nil => .nil
  | _, _, @KvI.cons _ _ n' w d l m r t => by
    rw [List.map_cons, List.map_cons]
    by_cases e : n' = n
    · subst e
      rw [if_pos rfl, if_pos (by rw [eqv_int]; simp)]
      exact .cons hv (KvI.mapPut hv t)
    · rw [if_neg (by simpa using e), if_neg (by rw [eqv_int]; simpa using e)]
      exact .cons r (KvI.mapPut hv t)
theorem KvX.mapPut {H : Hp} {kd : D} {v : V} {u : Value} {z : D} (hk : tupKey kd = true) (ru : RelV v u) (hv : Dv K H v z) : ∀ {l : Ents} {m : List (D × D)}, KvX K H l m → KvX K H (l.map (putAt (kOf kd) u)) (m.map fun x => if PyData.eqv x.1 kd = true then (x.1, z) else x)
  | _, _, .nil => .nil
  | _, _, @KvX.cons _ _ b w k' d x l m r k e q t => by
    rw [List.map_cons, List.map_cons]
    have ev := eqv_kOf (tupKey_pure k) (tupKey_pure hk)
    unfold putAt
    by_cases h : kOf k' = kOf kd
    · rw [if_pos h, if_pos (by rw [ev]; simpa using h)]
      exact .cons r k ru hv (KvX.mapPut hk ru hv t)
    · rw [if_neg h, if_neg (by rw [ev]; simpa using h)]
      exact .cons r k e q (KvX.mapPut hk ru hv t)
theorem KvI.put {H : Hp} {n : Int} {v : V} {z : D} {l : List (Key × V)} {m : List (D × D)} (r : KvI K H l m) (hv : Dv K H v z) : KvI K H (putK l (.inl n) v) (dput m (.int n) z) := by
  have g := r.get (n := n)
  unfold putK dput
  cases e : dget m (.int n) with
  | none =>
    rw [e] at g
    have : (l.any fun kv => decide (kv.1 = .inl n)) = false := by rw [valV_any, g]; rfl
    rw [this, if_neg (by decide), if_neg (by decide)]
    exact r.append (.cons hv .nil)
  | some y =>
    rw [e] at g
    obtain ⟨w, g, _⟩ := g
    have : (l.any fun kv => decide (kv.1 = .inl n)) = true := by rw [valV_any, g]; rfl
    rw [if_pos this, if_pos (show (some y).isSome = true from rfl)]
    exact r.mapPut hv
theorem KvX.put {H : Hp} {kd : D} {v : V} {b : Addr} {u : Value} {z : D} {l : Ents} {m : List (D × D)} (r : KvX K H l m) (hb : Dv K H (.ref b) kd) (hk : tupKey kd = true) (ru : RelV v u) (hv : Dv K H v z) : KvX K H (storedH l (kOf kd) b u) (dput m kd z) := by
  have g := r.get hk
  unfold storedH dput
  cases e : dget m kd with
  | none =>
    rw [e] at g
    rw [g, if_neg (by decide), if_neg (by decide)]
    exact r.append (.cons hb hk ru hv .nil)
  | some y =>
    rw [e] at g
    obtain ⟨p, w, g, _⟩ := g
    rw [g, if_pos (show (some p).isSome = true from rfl), if_pos (show (some y).isSome = true from rfl)]
    exact r.mapPut hk ru hv
theorem KvX.keys {H : Hp} : ∀ {l : Ents} {m : List (D × D)}, KvX K H l m → ∀ x ∈ l, ∃ d, x.1 = kOf d ∧ tupKey d = true ∧ Dv K H (.ref x.2.1) d
  | _, _, .nil, _, h => by simp at h
  | _, _, .cons r k e q t, x, h => by
    rcases List.mem_cons.mp h with rfl | h
    · exact ⟨_, rfl, k, r⟩
    · exact KvX.keys t x h
theorem dget_rd {H : Hp} {a : Addr} {kvs : List (Key × V)} {n : Int} (e : Rd H a (.dK kvs)) : DGet H a (kV (.inl n)) (valV kvs (.inl n)) := .inl ⟨kvs, .inl n, e, rfl, rfl⟩
section
variable {X : Cx} {pins : List (Addr × Obj)} {σ : St} {H : Hp} {s : Shared} {a : Addr} {xs : Ents}
theorem keys_is (I : Inv X pins σ H s) (h : ∀ x ∈ xs, ∃ d, x.1 = kOf d ∧ tupKey d = true ∧ Dv K H (.ref x.2.1) d) : ∀ x ∈ xs, (nestedKind X.prog X.w).is s.heap x.1 x.2.1 := fun x hx => by
  obtain ⟨d, e, k, r⟩ := h x hx
  rw [e]
  exact key_is X I.hok k r
/-- a dict's two forms -/
theorem dct_two {Hv H' : Hp} {tk : Bool} {kvs : List (D × D)} {y : V} {d : D} (h : DctR K Hv H tk a kvs) (ok : keyOk tk d = true) (r : Dv K H' y d) :
    (∃ l n, Rd H a (.dK l) ∧ KvI K Hv l kvs ∧ d = .int n ∧ y = kV (.inl n) ∧ tk = false) ∨ ∃ l b, Rd H a (dicO a l) ∧ KvX K Hv l kvs ∧ tupKey d = true ∧ y = .ref b ∧ tk = true := by
  unfold DctR at h
  cases tk with
  | false =>
    rw [if_neg (by decide)] at h
    obtain ⟨l, h1, h2⟩ := h
    cases d <;> simp [keyOk] at ok
    cases r
    exact .inl ⟨l, _, h1, h2, rfl, rfl, rfl⟩
  | true =>
    rw [if_pos rfl] at h
    obtain ⟨l, h1, h2⟩ := h
    have ok : tupKey d = true := by simpa [keyOk] using ok
    cases d <;> simp [tupKey] at ok
    cases r
    exact .inr ⟨l, _, h1, h2, by simpa [tupKey] using ok, rfl, rfl⟩
theorem dct_two' {Hv H' : Hp} {tk : Bool} {kvs : List (D × D)} {y : V} {d : D} (h : DctAt K Hv H tk a kvs) (ok : keyOk tk d = true) (r : Dv K H' y d) :
    (∃ l n, H a = some (.dK l) ∧ KvI K Hv l kvs ∧ d = .int n ∧ y = kV (.inl n) ∧ tk = false) ∨ ∃ l b, H a = some (dicO a l) ∧ KvX K Hv l kvs ∧ tupKey d = true ∧ y = .ref b ∧ tk = true := by
  unfold DctAt at h
  cases tk with
  | false =>
    rw [if_neg (by decide)] at h
    obtain ⟨l, h1, h2⟩ := h
    cases d <;> simp [keyOk] at ok
    cases r
    exact .inl ⟨l, _, h1, h2, rfl, rfl, rfl⟩
  | true =>
    rw [if_pos rfl] at h
    obtain ⟨l, h1, h2⟩ := h
    have ok : tupKey d = true := by simpa [keyOk] using ok
    cases d <;> simp [tupKey] at ok
    cases r
    exact .inr ⟨l, _, h1, h2, by simpa [tupKey] using ok, rfl, rfl⟩
def rDIn (K : PySem.W.Frag) (neg : Bool) : R2 := fun y x H Q => ∃ a tk kvs d, x = .ref a ∧ DctR K H H tk a kvs ∧ Dv K H y d ∧ keyOk tk d = true ∧ Q (.bl ((dget kvs d).isSome != neg)) H
theorem op_dIn (hu : X.A.units + 9 < cLine) : L2.OpR X (compareOp .In) (rDIn X.K false) := by
  intro pins s σ H y x u v Q I ry rx h
  obtain ⟨a, tk, kvs, d, rfl, hd, hy, ok, q⟩ := h
  rw [Bool.bne_false] at q
  cases rx
  rcases dct_two hd ok hy with ⟨l, n, h1, h2, rfl, rfl, _⟩ | ⟨l, b, h1, h2, hk, rfl, _⟩
  · have g := h2.get (n := n)
    refine d_in (by omega) I (dget_rd h1) ry fun s' I' => ⟨.bl _, H, I', rfl, ?_⟩
    cases e : dget kvs (.int n) with
    | none => rw [e] at g q; rw [g]; exact q
    | some z => rw [e] at g q; obtain ⟨w, g, _⟩ := g; rw [g]; exact q
  · cases ry
    have g := h2.get hk
    refine dic_in hu I h1 (keys_is I h2.keys) (key_is X I.hok hk hy) fun t => ⟨.bl _, H, I.tok t, rfl, ?_⟩
    cases e : dget kvs d with
    | none => rw [e] at g q; rw [g]; exact q
    | some z => rw [e] at g q; obtain ⟨p, w, g, _⟩ := g; rw [g]; exact q
theorem op_dNotIn (hu : X.A.units + 9 < cLine) : L2.OpR X (compareOp .NotIn) (rDIn X.K true) := by
  intro pins s σ H y x u v Q I ry rx h
  obtain ⟨a, tk, kvs, d, rfl, hd, hy, ok, q⟩ := h
  rw [Bool.bne_true] at q
  cases rx
  rcases dct_two hd ok hy with ⟨l, n, h1, h2, rfl, rfl, _⟩ | ⟨l, b, h1, h2, hk, rfl, _⟩
  · have g := h2.get (n := n)
    refine d_notIn (by omega) I (dget_rd h1) ry fun s' I' => ⟨.bl _, H, I', rfl, ?_⟩
    cases e : dget kvs (.int n) with
    | none => rw [e] at g q; rw [g]; exact q
    | some z => rw [e] at g q; obtain ⟨w, g, _⟩ := g; rw [g]; exact q
  · cases ry
    have g := h2.get hk
    refine dic_notIn hu I h1 (keys_is I h2.keys) (key_is X I.hok hk hy) fun t => ⟨.bl _, H, I.tok t, rfl, ?_⟩
    cases e : dget kvs d with
    | none => rw [e] at g q; rw [g]; exact q
    | some z => rw [e] at g q; obtain ⟨p, w, g, _⟩ := g; rw [g]; exact q
def InDR (neg : Bool) : D → D → D → Prop := fun d e z => ∃ tk kvs, e = dctD tk kvs ∧ keyOk tk d = true ∧ z = .bool ((dget kvs d).isSome != neg)
theorem DctR.up {M : Hid} {tk : Bool} {kvs : List (D × D)} (h : DctR K (hid M H) H tk a kvs) : DctR K H H tk a kvs := h.mono (Same.refl _) hid_sub
theorem sem_dIn {neg : Bool} : BinSem K (rDIn K neg) (InDR neg) := by
  intro M H v u d e z Q t hv hu hz q
  obtain ⟨tk, kvs, rfl, ok, rfl⟩ := hz
  obtain ⟨a, rfl, h⟩ := hu.dct
  exact ⟨a, tk, kvs, d, rfl, h.up, hv.dv, ok, q _ H (Same.refl _) (.bl _)⟩
end
section
variable {X : Cx}
/-- d[k] -/
def rDIx (K : PySem.W.Frag) : R2 := fun x y H Q => ∃ Hv a tk kvs d z, Same Hv H ∧ x = .ref a ∧ DctR K Hv H tk a kvs ∧ Dv K H y d ∧ keyOk tk d = true ∧ dget kvs d = some z ∧ ∀ v, Dv K Hv v z → Q v H
theorem ix_dict (hu : X.A.units + 9 < cLine) : IxR X (rDIx X.K) := by
  intro value slice pins s σ H x y v u Q I rx ry h hsub
  obtain ⟨Hv, a, tk, kvs, d, z, sm, rfl, hd, hy, ok, hz, q⟩ := h
  cases rx
  have go : s.TypeIs (.ref a) "dict" ∧ wpAny (model X.prog X.w) X.A (getItem (.ref a) u) (EP X pins σ Q) X.xe s := by
    rcases dct_two hd ok hy with ⟨l, n, h1, h2, rfl, rfl, _⟩ | ⟨l, b, h1, h2, hk, rfl, _⟩
    · have g := h2.get (n := n)
      rw [hz] at g
      obtain ⟨w, g, r⟩ := g
      have G : DGet H a (kV (.inl n)) (some w) := by rw [← g]; exact dget_rd h1
      exact ⟨dict_typeIs I G, d_getItem (by omega) I G ry fun w' s' I' rw' => ⟨w, H, I', rw', q w r⟩⟩
    · cases ry
      have g := h2.get hk
      rw [hz] at g
      obtain ⟨p, w, g, r1, r2⟩ := g
      refine ⟨(dic_of I h1 (keys_is I (h2.mono sm).keys)).typeIs, dic_get hu I h1 (keys_is I (h2.mono sm).keys) (key_is X I.hok hk hy) g fun t => ⟨w, H, I.tok t, r1, q w r2⟩⟩
  unfold PyProof.Rows.subscriptTail
  refine wpAny_bind ?_
  rw [getitemInPython_of_ne go.1.not_modules]
  refine wpAny_bind (wpAny_specialOf go.1 PySem.F.slot_dict_getitem.lookup ?_)
  have fin : wpAny (model X.prog X.w) X.A (subscripted slice false (.ref a) u) (fun r s3 => wpAny (model X.prog X.w) X.A (letTemporaryGo value (.ref a) r >>= fun _ => pure r) (EP X pins σ Q) X.xe s3) X.xe s := by
    rw [hsub]
    exact wpAny_operating (wpAny_mono go.2 (fun r s3 h3 => wpAny_bind (wpAny_letTemporaryGo (wpAny_pure h3))) fun _ _ x => x)
  first
    | exact wpAny_pure (wpAny_bind fin)
    | exact wpAny_bind (wpAny_pure (wpAny_bind fin))
    | exact wpAny_bind fin
def IxDR : D → D → D → Prop := fun d e z => ∃ tk kvs, d = dctD tk kvs ∧ keyOk tk e = true ∧ dget kvs e = some z
theorem sem_dIx : BinSem K (rDIx K) IxDR := by
  intro M H v u d e z Q t hv hu hz q
  obtain ⟨tk, kvs, rfl, ok, hz⟩ := hz
  obtain ⟨a, rfl, h⟩ := hv.dct
  exact ⟨hid M H, a, tk, kvs, e, z, hid_sub, rfl, h, hu.dv, ok, hz, fun w r => q w H (Same.refl _) r⟩

/-! ### an own thing -/
theorem Rel.setO {P : Option Addr} {M : Hid} {σ : St} {H : Hp} {env : DEnv} (R : Rel K P M σ H env) (i : Nat) {p : Addr} {o : HO} {s : Sl} (hp : H p = none) (hs : ownA s = some p) (sl : SlotR K P (more M p) (upd H p o) (some (some (.ref p))) s) : Rel K P (more M p) (σ.set i (some (.ref p))) (upd H p o) (env.set i s) := by
  have R2 := R.hide (o := o) hp
  have nP : P ≠ some p := fun q => R.trk p (R.pool p q).1 hp
  have nO : ∀ (j : Nat) s, env[j]? = some s → ownA s ≠ some p := fun j s e q => R.trk p (R.own j s p e q).1 hp
  have at_ : ∀ (j : Nat) t, (env.set i s)[j]? = some t → (j = i ∧ t = s ∧ i < env.length) ∨ (j ≠ i ∧ env[j]? = some t) := fun j t e => by
    by_cases hj : i = j
    · subst hj
      by_cases hl : i < env.length
      · rw [List.getElem?_set_self hl] at e; cases e; exact .inl ⟨rfl, rfl, hl⟩
      · rw [List.getElem?_eq_none (by rw [List.length_set]; omega)] at e; cases e
    · rw [List.getElem?_set_ne hj] at e; exact .inr ⟨Ne.symm hj, e⟩
  refine ⟨by rw [List.length_set, List.length_set]; exact R.len, fun j t e => ?_, fun j t a e q => ?_, fun j k t u a e1 e2 q1 q2 => ?_, R2.trk, R2.pool⟩
  · rcases at_ j t e with ⟨rfl, rfl, hl⟩ | ⟨hj, e'⟩
    · rw [List.getElem?_set_self (by rw [R.len]; exact hl)]
      exact sl
    · rw [List.getElem?_set_ne (Ne.symm hj)]
      exact R2.slot j t e'
  · rcases at_ j t e with ⟨rfl, rfl, hl⟩ | ⟨hj, e'⟩
    · rw [hs] at q; cases q; exact ⟨more_self, nP⟩
    · exact R2.own j t a e' q
  · rcases at_ j t e1 with ⟨rfl, rfl, hl⟩ | ⟨hj, e1'⟩
    · rw [hs] at q1; cases q1
      rcases at_ k u e2 with ⟨rfl, _, _⟩ | ⟨hk, e2'⟩
      · rfl
      · exact absurd q2 (nO k u e2')
    · rcases at_ k u e2 with ⟨rfl, rfl, _⟩ | ⟨hk, e2'⟩
      · rw [hs] at q2; cases q2
        exact absurd q1 (nO j t e1')
      · exact R.sep j k t u a e1' e2' q1 q2
theorem RelS.setO {P : Option Addr} {M0 M : Hid} {He H : Hp} {σ : St} {env : DEnv} (R' : RelS K P M0 He σ H env) (R1 : Rel K P M σ H env) (h0 : ∀ a, M0 a = true → M a = true) (h1 : ∀ a, M a = true → M0 a = true ∨ He a = none) (i : Nat) {p : Addr} {o : HO} {s : Sl} (hp : H p = none) (hs : ownA s = some p)
    (sl : SlotR K P (more M p) (upd H p o) (some (some (.ref p))) s) : RelS K P M0 He (σ.set i (some (.ref p))) (upd H p o) (env.set i s) := by
  have hep : He p = none := by
    cases z : He p with
    | none => rfl
    | some o =>
      by_cases hP : P = some p
      · exact absurd hp (R1.trk p (R1.pool p hP).1)
      · rw [R'.same p o hP z] at hp; cases hp
  refine ⟨⟨more M p, R1.setO i hp hs sl, fun a e => more_of (h0 a e), fun a e => ?_⟩, R'.same.trans (SameP.of (same_new hp)), fun j t a e z => ?_, R'.trk⟩
  · by_cases ha : a = p
    · subst ha; exact .inr hep
    · rw [more_ne ha] at e; exact h1 a e
  · by_cases hj : i = j
    · subst hj
      by_cases hl : i < env.length
      · rw [List.getElem?_set_self hl] at e; cases e; rw [hs] at z; cases z; exact hep
      · rw [List.getElem?_eq_none (by rw [List.length_set]; omega)] at e; cases e
    · rw [List.getElem?_set_ne hj] at e
      exact R'.mine j t a e z
/-- one's own thing is written -/
theorem RelS.wrO {P : Option Addr} {M0 M : Hid} {He H : Hp} {σ : St} {env : DEnv} (R : RelS K P M0 He σ H env) (R1 : Rel K P M σ H env) (h0 : ∀ a, M0 a = true → M a = true) (h1 : ∀ a, M a = true → M0 a = true ∨ He a = none) {i : Nat} {a : Addr} {s0 s1 : Sl} {o : HO} (e : env[i]? = some s0) (z0 : ownA s0 = some a) (z1 : ownA s1 = some a)
    (q : SlotR K P M (upd H a o) σ[i]? s1) : RelS K P M0 He σ (upd H a o) (env.set i s1) := by
  have hi : i < env.length := (List.getElem?_eq_some_iff.mp e).1
  have hM := (R1.own i _ a e z0).1
  have hP := (R1.own i _ a e z0).2
  have at_ : ∀ (j : Nat) s, (env.set i s1)[j]? = some s → (j = i ∧ s = s1) ∨ (j ≠ i ∧ env[j]? = some s) := fun j s e => by
    by_cases hj : i = j
    · subst hj
      rw [List.getElem?_set_self hi] at e; cases e; exact .inl ⟨rfl, rfl⟩
    · rw [List.getElem?_set_ne hj] at e; exact .inr ⟨Ne.symm hj, e⟩
  refine ⟨⟨M, ⟨by rw [List.length_set]; exact R1.len, fun j s e' => ?_, fun j s b e' z => ?_, fun j k s t b e1 e2 q1 q2 => ?_, fun b e' z => ?_, fun p e' => ?_⟩, h0, h1⟩, fun b o hp e' => ?_, fun j s b e' z => ?_, R.trk⟩
  · rcases at_ j s e' with ⟨rfl, rfl⟩ | ⟨hj, e''⟩
    · exact q
    · refine (R1.slot j s e'').mono (fun b o y1 y2 => ?_) (by rw [hid_upd hM]; exact Same.refl _)
      rw [upd_ne (fun k => hj (R1.sep j i s _ a e'' e (by rw [y1, k]) z0))]
      exact y2
  · rcases at_ j s e' with ⟨rfl, rfl⟩ | ⟨hj, e''⟩
    · rw [z1] at z; cases z; exact ⟨hM, hP⟩
    · exact R1.own j s b e'' z
  · rcases at_ j s e1 with ⟨rfl, rfl⟩ | ⟨hj, e1'⟩
    · rw [z1] at q1; cases q1
      rcases at_ k t e2 with ⟨rfl, _⟩ | ⟨hk, e2'⟩
      · rfl
      · exact R1.sep j k _ t a e e2' z0 q2
    · rcases at_ k t e2 with ⟨rfl, rfl⟩ | ⟨hk, e2'⟩
      · rw [z1] at q2; cases q2
        exact R1.sep j k s _ a e1' e q1 z0
      · exact R1.sep j k s t b e1' e2' q1 q2
  · by_cases hb : b = a
    · subst hb; rw [upd_same] at z; cases z
    · rw [upd_ne hb] at z; exact R1.trk b e' z
  · exact ⟨(R1.pool p e').1, (R1.pool p e').2.mono (by rw [upd_ne (fun k => hP (by rw [e', k]))]) (by rw [hid_upd hM]; exact Same.refl _)⟩
  · rw [upd_ne (ne_of_none e' (R.mine i _ a e z0))]
    exact R.same b o hp e'
  · rcases at_ j s e' with ⟨rfl, rfl⟩ | ⟨hj, e''⟩
    · rw [z1] at z; cases z; exact R.mine j _ a e z0
    · exact R.mine j s b e'' z
/-! ### x = {} -/
def wDNew (i : Nat) (tk : Bool) : DTS := fun δ env => ∀ a, δ.nx (env.set i (.md tk a []))
theorem sv_dnew {x : Str} {pos pos' dpos : Pos} (i : Nat) (tk : Bool) (hN : X.N.Nodup) (hi : X.N[i]? = some x := by rfl) (hx : Loc X.env.scope x := by first | exact Or.inl rfl | exact Or.inr rfl) (hs : swapsWith (.Dict [] [] dpos) (some (.Name x pos')) pos.line X.env = pure false := by rfl)
    (hf : X.fn x = true ∨ X.env.scope.names.lookup x = some .local := by first | exact .inl rfl | exact .inr rfl) : SV X (.Assign [.Name x pos'] (.Dict [] [] dpos) pos) (wDNew i tk) := by
  cases tk with
  | false =>
    refine PS.imp (ps_set hN hi hx pe_dnewK hs hf) fun D0 σ H ⟨P, M0, He, δ, env, R, E, w⟩ => fun p hp => ?_
    obtain ⟨M, r, h0, h1⟩ := R.rel
    exact E.nx _ _ _ (R.setO r h0 h1 i (s := .md false p []) hp rfl ⟨rfl, by unfold DctAt; rw [if_neg (by decide)]; exact ⟨[], upd_same, .nil⟩⟩) (w p)
  | true =>
    refine PS.imp (ps_set hN hi hx pe_dnewX hs hf) fun D0 σ H ⟨P, M0, He, δ, env, R, E, w⟩ => fun p hp => ?_
    obtain ⟨M, r, h0, h1⟩ := R.rel
    exact E.nx _ _ _ (R.setO r h0 h1 i (s := .md true p []) hp rfl ⟨rfl, by unfold DctAt; rw [if_pos rfl]; exact ⟨[], upd_same, .nil⟩⟩) (w p)
/-! ### d[k] = v -/
def sXPut (K : PySem.W.Frag) (td ty tv : TE) : TS := fun D σ H => tv σ H fun v H1 => td σ H1 fun x H2 => ty σ H2 fun y H3 => ∃ a, x = .ref a ∧ ((∃ H4, DPut H3 a y v H4 ∧ D.nx σ H4) ∨
  ∃ xs b d, H3 a = some (dicO a xs) ∧ y = .ref b ∧ (∀ x ∈ xs, ∃ d, x.1 = kOf d ∧ tupKey d = true ∧ Dv K H3 (.ref x.2.1) d) ∧ Dv K H3 y d ∧ tupKey d = true ∧ xs.length < sizeLine ∧ ∀ u, RelV v u → D.nx σ (upd H3 a (dicO a (storedH xs (kOf d) b u))))
theorem ps_xput {o i value : Expr} {pos pos' : Pos} {td ty tv : TE} (hu : X.A.units + 9 < cLine) (ho : PE X o td) (hi : PE X i ty) (hv : PE X value tv) (hs : swapsWith value (some (.Subscript o i pos')) pos.line X.env = pure false) :
    PS X (.Assign [.Subscript o i pos'] value pos) (sXPut X.K td ty tv) := by
  refine ⟨fun pins s σ H D I h => ?_⟩
  refine wpAny_Assign_Subscript (thn (hv.run pins s σ H _ I h) fun r s1 ⟨v, H1, I1, rv, q1⟩ => thn (ho.run pins s1 σ H1 _ I1 q1) fun u s2 ⟨x, H2, I2, rx, q2⟩ => thn (hi.run pins s2 σ H2 _ I2 q2) fun iv s3 ⟨y, H3, I3, ry, a, ex, g⟩ => ?_) hs
  subst ex
  obtain rfl : u = Value.ref a := rx
  rcases g with ⟨H4, g, q3⟩ | ⟨xs, b, d, e, ey, ks, hd, hk, hl, q3⟩
  · exact d_setItem (by omega) I3 g ry rv fun s4 I4 => ⟨σ, H4, I4, q3⟩
  · subst ey
    cases ry
    exact dic_set hu I3 e (keys_is I3 ks) (key_is X I3.hok hk hd) (pure_kOf d (tupKey_pure hk)) hl fun s4 I4 => ⟨σ, _, I4, q3 r rv⟩
def wDPut (i : Nat) (wk wv : DTE) : DTS := fun δ env => ∃ tk a kvs, env[i]? = some (.md tk a kvs) ∧ wv env fun o => ∃ z, o = .d z ∧ wk env fun u => ∃ k, u = .d k ∧ keyOk tk k = true ∧ kvs.length < 1000000 ∧ δ.nx (env.set i (.md tk a (dput kvs k z)))
theorem sv_dput {k0 : Nat} (hr : Room k0 X.A) {o e value : Expr} {wk wv : DTE} {pos pos' : Pos} (i : Nat) (ho : PE X o (tVar i)) (hk : EV X e wk) (hv : EV X value wv) (hs : swapsWith value (some (.Subscript o e pos')) pos.line X.env = pure false := by rfl) :
    SV X (.Assign [.Subscript o e pos'] value pos) (wDPut i wk wv) := by
  have hu : X.A.units + 9 < cLine := by have := hr.un; omega
  refine PS.imp (ps_xput hu ho hk hv hs) fun D0 σ H ⟨P, M0, He, δ, env, R, E, w⟩ => ?_
  obtain ⟨tk, a, kvs, e0, w⟩ := w
  obtain ⟨M, r, h0, h1⟩ := R.rel
  have hp : ∀ p, P = some p → M p = true := fun p q => (r.pool p q).1
  refine ⟨P, M, env, _, r, w, fun v H1 o1 s1 R1 q1 ⟨z, ez, w1⟩ => ?_⟩
  subst ez
  obtain ⟨y1, y2⟩ := R1.slot i _ e0
  refine ⟨_, y1, P, M, env, _, R1, w1, fun y H3 u s3 R3 q3 ⟨k, ek, ok, hl, w3⟩ => ?_⟩
  subst ek
  have R' := R.step h0 h1 (s1.trans s3) R3
  obtain ⟨y1', y2'⟩ := R3.slot i _ e0
  refine ⟨a, rfl, ?_⟩
  have hM := (R3.own i _ a e0 rfl).1
  have vz : Dv X.K (hid M H3) v z := Dv.mono (s3.hid hp) _ _ q1
  rcases dct_two' y2' ok q3 with ⟨l, n, g1, g2, rfl, rfl, rfl⟩ | ⟨l, b, g1, g2, hk, rfl, rfl⟩
  · refine .inl ⟨_, DPut.k g1 (by rw [g2.length]; exact lt_line hl), E.nx _ _ _ (R'.wrO R3 h0 h1 e0 rfl (s1 := .md false a (dput kvs (.int n) z)) rfl ⟨y1', ?_⟩) w3⟩
    unfold DctAt
    rw [if_neg (by decide)]
    exact ⟨_, upd_same, by rw [hid_upd hM]; exact g2.put vz⟩
  · refine .inr ⟨l, b, k, g1, rfl, (g2.mono hid_sub).keys, Dv.mono hid_sub _ _ q3, hk, by rw [g2.length]; exact lt_line hl, fun u ru => E.nx _ _ _ (R'.wrO R3 h0 h1 e0 rfl (s1 := .md true a (dput kvs k z)) rfl ⟨y1', ?_⟩) w3⟩
    unfold DctAt
    rw [if_pos rfl]
    exact ⟨_, upd_same, by rw [hid_upd hM]; exact g2.put q3 hk ru vz⟩
/-! ### x = {k: v}, k a tuple -/
def wDDisp (i : Nat) (wk wv : DTE) : DTS := fun δ env => wk env fun o => ∃ k, o = .d k ∧ tupKey k = true ∧ wv env fun u => ∃ z, u = .d z ∧ ∀ a, δ.nx (env.set i (.md true a [(k, z)]))
theorem sv_ddisp {k0 : Nat} (hr : Room k0 X.A) {x : Str} {e f : Expr} {wk wv : DTE} {pos pos' dpos : Pos} (i : Nat) (hN : X.N.Nodup) (hk : EV X e wk) (hv : EV X f wv) (hi : X.N[i]? = some x := by rfl) (hx : Loc X.env.scope x := by first | exact Or.inl rfl | exact Or.inr rfl) (hs : swapsWith (.Dict [some e] [f] dpos) (some (.Name x pos')) pos.line X.env = pure false := by rfl)
    (hf : X.fn x = true ∨ X.env.scope.names.lookup x = some .local := by first | exact .inl rfl | exact .inr rfl) : SV X (.Assign [.Name x pos'] (.Dict [some e] [f] dpos) pos) (wDDisp i wk wv) := by
  have hu : X.A.units + 9 < cLine := by have := hr.un; omega
  refine PS.imp (ps_set hN hi hx (pe_dispX hu hk hv) hs hf) fun D0 σ H ⟨P, M0, He, δ, env, R, E, w⟩ => fun p hp => ?_
  obtain ⟨M, r, h0, h1⟩ := R.rel
  have hpP : ∀ q, P = some q → M q = true := fun p q => (r.pool p q).1
  have nP : P ≠ some p := fun q => r.trk p (r.pool p q).1 hp
  have nO : ∀ (j : Nat) s, env[j]? = some s → ownA s ≠ some p := fun j s e q => r.trk p (r.own j s p e q).1 hp
  -- the dict being made is hidden
  have r1 := r.hide (o := dicO p []) hp
  refine ⟨P, more M p, env, _, r1, w, fun v H1 o s1 R1 q1 ⟨k, ek, kk, w1⟩ => ?_⟩
  subst ek
  refine ⟨P, more M p, env, _, R1, w1, fun v2 H2 o2 s2 R2 q2 ⟨z, ez, w2⟩ => ?_⟩
  subst ez
  have hp2 : H2 p = some (dicO p []) := s2 _ _ nP (s1 _ _ nP upd_same)
  have hmm : ∀ q, P = some q → more M p q = true := fun q e => more_of (hpP q e)
  have q1' : Dv X.K (hid (more M p) H2) v k := Dv.mono (s2.hid hmm) _ _ q1
  have vr : ∃ b, v = .ref b := by
    cases k <;> simp [tupKey] at kk
    cases q1
    exact ⟨_, rfl⟩
  obtain ⟨b, rfl⟩ := vr
  refine ⟨hp2, kOf k, b, v2, rfl, pure_kOf k (tupKey_pure kk), fun h P' w' I => key_is X I kk (Dv.mono hid_sub _ _ q1'), fun u ru => ?_⟩
  have sx : SameP P H H2 := fun a o hP e => s2 a o hP (s1 a o hP (by rw [upd_ne (ne_of_none e hp)]; exact e))
  -- the state without p, then p anew
  refine E.nx _ _ _ ?_ (w2 p)
  have hep : He p = none := by
    cases z : He p with
    | none => rfl
    | some o => rw [R.same p o nP z] at hp; cases hp
  have at_ : ∀ (j : Nat) t, (env.set i (.md true p [(k, z)]))[j]? = some t → (j = i ∧ t = .md true p [(k, z)] ∧ i < env.length) ∨ (j ≠ i ∧ env[j]? = some t) := fun j t e => by
    by_cases hj : i = j
    · subst hj
      by_cases hl : i < env.length
      · rw [List.getElem?_set_self hl] at e; cases e; exact .inl ⟨rfl, rfl, hl⟩
      · rw [List.getElem?_eq_none (by rw [List.length_set]; omega)] at e; cases e
    · rw [List.getElem?_set_ne hj] at e; exact .inr ⟨Ne.symm hj, e⟩
  have R3 : Rel X.K P (more M p) σ (upd H2 p (dicO p [(kOf k, b, u)])) env := R2.updHid more_self nP nO
  refine ⟨⟨more M p, ⟨by rw [List.length_set, List.length_set]; exact R3.len, fun j t e => ?_, fun j t a e q => ?_, fun j l t t' a e1 e2 y1 y2 => ?_, R3.trk, R3.pool⟩, fun a e => more_of (h0 a e), fun a e => ?_⟩, fun a o hP e => ?_, fun j t a e y => ?_, R.trk⟩
  · rcases at_ j t e with ⟨rfl, rfl, hl⟩ | ⟨hj, e'⟩
    · rw [List.getElem?_set_self (by rw [R3.len]; exact hl)]
      refine ⟨rfl, ?_⟩
      unfold DctAt
      rw [if_pos rfl]
      exact ⟨_, upd_same, by rw [hid_upd more_self]; exact .cons q1' kk ru q2 .nil⟩
    · rw [List.getElem?_set_ne (Ne.symm hj)]
      exact R3.slot j t e'
  · rcases at_ j t e with ⟨rfl, rfl, hl⟩ | ⟨hj, e'⟩
    · cases q; exact ⟨more_self, nP⟩
    · exact R3.own j t a e' q
  · rcases at_ j t e1 with ⟨rfl, rfl, hl⟩ | ⟨hj, e1'⟩
    · cases y1
      rcases at_ l t' e2 with ⟨rfl, _, _⟩ | ⟨hk, e2'⟩
      · rfl
      · exact absurd y2 (nO l t' e2')
    · rcases at_ l t' e2 with ⟨rfl, rfl, _⟩ | ⟨hk, e2'⟩
      · cases y2
        exact absurd y1 (nO j t e1')
      · exact R3.sep j l t t' a e1' e2' y1 y2
  · by_cases ha : a = p
    · subst ha; exact .inr hep
    · rw [more_ne ha] at e; exact h1 a e
  · rw [upd_ne (ne_of_none e hep)]
    exact sx a o hP (R.same a o hP e)
  · rcases at_ j t e with ⟨rfl, rfl, hl⟩ | ⟨hj, e'⟩
    · cases y; exact hep
    · exact R.mine j t a e' y
end
end DL

namespace DL
open PySem L2
variable {K : PySem.W.Frag}
/-! ### the law's own defs -/
def spLaw (K : PySem.W.Frag) : Sp := fun vs H Q _ => ∃ (a : Addr) (ns : List Int), vs = [.ref a] ∧ ns.length ≤ 63 ∧ SqL K H a (ns.map V.int) ∧ ∀ H', Q (.bl true) H'
def oneH (p : Addr) : Hid := fun b => b == p
def spPool (K : PySem.W.Frag) : Sp := fun vs H Q _ => ∃ (a : Addr) (ns : List Int), vs = [.ref a] ∧ ns.length ≤ 63 ∧ SqL K H a (ns.map V.int) ∧ ∀ p H', Same H H' → H' p ≠ none → PoolAt K (oneH p) H' p → Q (.ref p) H'
theorem same_sqL {H H' : Hp} {a : Addr} {xs : List V} (e : Same H H') (h : SqL K H a xs) : SqL K H' a xs := by
  rcases h with (h | ⟨o, h⟩) | h
  · exact .inl (.inl (e _ _ h))
  · exact .inl (.inr ⟨o, e _ _ h⟩)
  · exact .inr h
def rIntOf : List V → Hp → VK → Prop := fun xs H Q => (∃ i, xs = [.int i] ∧ Q (.int i) H) ∨ ∃ k, xs = [.bl k] ∧ Q (.int (if k then 1 else 0)) H
def rListOf (K : PySem.W.Frag) : List V → Hp → VK → Prop := fun xs H Q => ∃ p ys, xs = [.ref p] ∧ (SqL K H p ys ∨ SqT K H p ys) ∧ ∀ l, H l = none → Q (.ref l) (upd H l (.lst ys))
def t_pool (K : PySem.W.Frag) : TS := tSeq (tAsg (tC (.int 7)) (gName 1)) (tSeq
  (tFor (iList K (tSl (rSlL K) (tVar 0) tNoPart (tPart (tC (.int 63))))) (gName 2) (tAsg (tOp (rI (fun _ j => 0 < j) fun i j => .int (i % j)) (tCB rIntOf (tCons (tOp (rI0 fun i j => .int (i + j)) (tOp (rI CMul fun i j => .int (i * j)) (tVar 1) (tC (.int 31))) (tVar 2)) tNil)) (tC (.int 1000003))) (gName 1)))
  (tRet (tLst (tCons (tCB (rListOf K) (tCons (tVar 0) tNil)) (tCons (tC (.int 0)) (tCons (tC (.int 0)) (tCons (tC (.int 0)) (tCons (tVar 1) tNil))))))))
theorem pure_pool (vs : List V) (H : Hp) (Q : VK) (E : XK) (h : spPool K vs H Q E) : t_pool K { nx := fun _ H' => Q .non H', rt := Q } (L2.start ["script", "salt", "cell"] vs) H := by
  obtain ⟨a, ns, rfl, hl, hs, hQ⟩ := h
  have hin : ∀ v ∈ cutV (ns.map V.int) none (some 63), ∃ n, v = .int n := fun v hv => by
    unfold cutV at hv
    have := List.mem_of_mem_drop (List.mem_of_mem_take hv)
    obtain ⟨n, _, e⟩ := List.mem_map.mp this
    exact ⟨n, e.symm⟩
  refine ⟨_, rfl, 63, rfl, a, _, rfl, hs, fun p hp => ?_⟩
  generalize hc : cutV (ns.map V.int) none (some 63) = cs at hin
  have s1 : Same H (upd H p (.lst cs)) := same_new hp
  have hq : SqL K (upd H p (.lst cs)) p cs := SqL.of upd_same
  refine ⟨p, rfl, ⟨cs, hq⟩, fun i m σ H' => H' = upd H p (.lst cs) ∧ m = cs.length - i ∧ i ≤ cs.length ∧ ∃ (z : Int) (c : Option V), 0 ≤ z ∧ z < 1000003 ∧ σ = [some (.ref a), some (.int z), c], ⟨_, rfl, rfl, Nat.zero_le _, 7, none, by decide, by decide, rfl⟩, ?_⟩
  rintro i m σ H' ⟨rfl, rfl, hi, z, c, h0, h1, rfl⟩
  by_cases hlt : i < cs.length
  · refine .inr ⟨⟨cs, cs[i], hq, by simp [hlt]⟩, fun σ' H' => H' = upd H p (.lst cs) ∧ i + 1 ≤ cs.length ∧ ∃ (z : Int) (c : Option V), 0 ≤ z ∧ z < 1000003 ∧ σ' = [some (.ref a), some (.int z), c], fun σ' H' q => ⟨_, by omega, q.1, rfl, q.2.1, q.2.2⟩, fun x H3 y => ?_⟩
    obtain ⟨e3, y2⟩ := y
    have e4 := y2 cs hq
    obtain ⟨n, en⟩ := hin x (List.mem_of_getElem? e4)
    subst en
    subst e3
    refine ⟨_, rfl, z, 31, rfl, rfl, .inr (by decide), _, rfl, z * 31, n, rfl, rfl, .inl ⟨_, rfl, _, 1000003, rfl, rfl, (show (0 : Int) < 1000003 by decide), rfl, hlt, _, _, Int.emod_nonneg _ (by decide), Int.emod_lt_of_pos _ (by decide), rfl⟩⟩
  · refine .inl ⟨⟨cs, hq, by omega⟩, ?_⟩
    refine ⟨_, rfl, a, _, rfl, .inl (same_sqL s1 hs), fun l hl => ?_⟩
    refine ⟨_, rfl, (show 5 ≤ sizeLine by decide), fun r hr => ?_⟩
    have s2 := s1.trans (same_new (o := .lst (ns.map V.int)) hl)
    have hlr : l ≠ r := fun e => by subst e; rw [upd_same] at hr; cases hr
    refine hQ r _ (s2.trans (same_new hr)) (by rw [upd_same]; simp) ⟨.ref l, ns, 0, 0, 0, z, upd_same, ?_, by decide, by decide, h0, h1, by omega⟩
    refine .lst (hid_some.mpr ⟨by simp [oneH, hlr], by rw [upd_ne hlr]; exact upd_same⟩) (dv_ints ns)
/-! the law itself: the rest of its body stands ahead of the data -/
section
variable {P : Program} {w : World} {mg : Str → Option Value} {base : Heap} {x qual : Str} {params : Arguments} {st0 : Stmt} {body : List Stmt} {scope : Scope} {f : Addr} {fd : FuncData} {N : List Str}
theorem fn_law {k : Nat} (F : FunD K x qual params (st0 :: body) scope [] [] f fd) (S : FnScope N ["script"] scope) (τ : DTS)
    (der0 : ∀ (cdv : Value) (A : Around) (outer : List Env) (s : Shared) (H : Hp) (E : XK), Room k (A.deeper (PyProof.Rows.envOfC qual scope s.heap.objs.size f cdv)) → PS (cxOf CX0 P w K mg base N qual scope f cdv A outer s H E).nox st0 (tAsg (tCall (spPool K) [] E0 (tCons (tVar 0) tNil)) (gName 1)))
    (der : ∀ (cdv : Value) (A : Around) (outer : List Env) (s : Shared) (H : Hp) (E : XK), Room k (A.deeper (PyProof.Rows.envOfC qual scope s.heap.objs.size f cdv)) → SVs (cxOf CX0 P w K mg base N qual scope f cdv A outer s H E).nox body τ)
    (pure : τ { nx := fun _ => False, rt := fun d _ => d = .bool true } (.un :: .pl :: List.replicate (N.length - 2) .un)) (hN : 2 ≤ N.length) : FnOk P w K mg base CX0 (k + 1) f fd ["script"] (spLaw K) := by
  refine F.ok S (fun vs H Q E h => by obtain ⟨a, ns, rfl, _⟩ := h; rfl) (fun cdv A outer s H vs Q E hr h => ⟨tSeq (tAsg (tCall (spPool K) [] E0 (tCons (tVar 0) tNil)) (gName 1)) (upS K τ), PSs.nox (pss_cons (der0 cdv A outer s H E hr) (der cdv A outer s H E hr)), ?_⟩)
  obtain ⟨a, ns, rfl, hl, hs, hQ⟩ := h
  have eS : L2.start N [.ref a] = some (.ref a) :: List.replicate (N.length - 1) none := by
    unfold L2.start
    rfl
  rw [eS]
  refine ⟨_, rfl, a, ns, rfl, hl, hs, fun p H' sm hp pool => ?_⟩
  refine ⟨some p, oneH p, H', _, _, ⟨⟨oneH p, ⟨?_, ?_, ?_, ?_, ?_, ?_⟩, fun _ e => e, fun _ e => .inl e⟩, SameP.refl, ?_, ?_⟩, ⟨?_, ?_, ?_, ?_⟩, pure⟩
  · simp; omega
  · intro i t e
    cases i with
    | zero => simp at e; subst e; trivial
    | succ i =>
      cases i with
      | zero =>
        simp at e
        subst e
        refine ⟨p, rfl, ?_⟩
        show ((some (V.ref a) :: List.replicate (N.length - 1) none).set 1 (some (.ref p)))[1]? = _
        rw [List.getElem?_set_self (by simp; omega)]
      | succ i =>
        have := List.mem_of_getElem? (show (List.replicate (N.length - 2) Sl.un)[i]? = some t from by simpa using e)
        rw [(List.mem_replicate.mp this).2]
        trivial
  · intro i t b e q
    have : t = .un ∨ t = .pl := by
      have := List.mem_of_getElem? e
      simp at this
      rcases this with h | h | h
      · exact .inl h
      · exact .inr h
      · exact .inl h.2
    rcases this with rfl | rfl <;> cases q
  · intro i j t u b e _ q _
    have : t = .un ∨ t = .pl := by
      have := List.mem_of_getElem? e
      simp at this
      rcases this with h | h | h
      · exact .inl h
      · exact .inr h
      · exact .inl h.2
    rcases this with rfl | rfl <;> cases q
  · intro b e
    have : b = p := by simpa [oneH] using e
    rw [this]; exact hp
  · intro q e
    cases e
    exact ⟨by simp [oneH], pool⟩
  · intro i t b e q
    have : t = .un ∨ t = .pl := by
      have := List.mem_of_getElem? e
      simp at this
      rcases this with h | h | h
      · exact .inl h
      · exact .inr h
      · exact .inl h.2
    rcases this with rfl | rfl <;> cases q
  · intro b e
    have : b = p := by simpa [oneH] using e
    rw [this]; exact hp
  · intro σ H2 env R q; exact q.elim
  · intro v σ H2 env d R q1 q2
    subst q2
    cases q1
    exact hQ H2
  · intro σ H2 env R q; exact q.elim
  · intro σ H2 env R q; exact q.elim
/-! a draw: the pool as a list of its own -/
def drawEnds (p : Addr) (κ : D → Prop) : DEnds where
  nx := fun _ => False
  rt := fun d env => ∃ (r : Int) (ns : List Int) (i c n s : Int), d = .int r ∧ env[0]? = some (.ml p [.list (ns.map .int), .int i, .int c, .int n, .int s]) ∧ 0 ≤ i ∧ 0 ≤ n ∧ 0 ≤ s ∧ s < 1000003 ∧ ns.length ≤ 1000 ∧ κ d
theorem fn_draw {k n : Nat} {ps : List Str} {g : DSp} (F : FunD K x qual params body scope [] [] f fd) (S : FnScope N ps scope) (hn : ps.length = n + 1) (τ : DTS)
    (der : ∀ (cdv : Value) (A : Around) (outer : List Env) (s : Shared) (H : Hp) (E : XK), Room k (A.deeper (PyProof.Rows.envOfC qual scope s.heap.objs.size f cdv)) → SVs (cxOf CX0 P w K mg base N qual scope f cdv A outer s H E).nox body τ)
    (pure : ∀ ds κ p (ns : List Int) (i c m s : Int), ds.length = n → 0 ≤ i → 0 ≤ m → 0 ≤ s → s < 1000003 → ns.length ≤ 1000 → g ds κ → τ (drawEnds p κ) (.ml p [.list (ns.map .int), .int i, .int c, .int m, .int s] :: startE (N.length - 1) ds)) (hN : 1 ≤ N.length) : FnOk P w K mg base CX0 (k + 1) f fd ps (spP K n g) := by
  refine F.ok S (fun vs H Q E h => (spP_len vs H Q E h).trans hn.symm) (fun cdv A outer s H vs Q E hr h => ⟨upS K τ, PSs.nox (der cdv A outer s H E hr), ?_⟩)
  obtain ⟨M, p, us, ds, rfl, mp, pool, t, r, hl, hg⟩ := h
  have R0 := rel_start (K := K) (N := N.tail) t r
  have ht : N.tail.length = N.length - 1 := by simp
  rw [ht] at R0
  have eS : L2.start N (.ref p :: us) = some (.ref p) :: L2.start N.tail us := by
    unfold L2.start
    rw [List.map_cons, List.cons_append, List.length_cons, ht]
    congr 3
    omega
  rw [eS]
  obtain ⟨q, ns, i, c, m, z, h1, h2, b1, b2, b3, b4, b5⟩ := pool
  have two : ∀ (j : Nat) s a, (Sl.ml p [.list (ns.map .int), .int i, .int c, .int m, .int z] :: startE (N.length - 1) ds)[j]? = some s → ownA s = some a → j = 0 ∧ a = p := fun j s a e w => by
    cases j with
    | zero => simp at e; subst e; cases w; exact ⟨rfl, rfl⟩
    | succ j => exact (startE_own j s a (by simpa using e) w).elim
  refine ⟨none, fun a => M a && a != p, fun a => if a = p then none else H a, _, _, ⟨⟨M, ⟨by simpa using R0.len, fun j s e => ?_, fun j s a e w => ?_, fun j l s u a e1 e2 w1 w2 => ?_, t, fun p' e => by cases e⟩, fun a e => ?_, fun a e => ?_⟩, fun a o _ e => ?_, fun j s a e w => ?_, fun a e => ?_⟩, ⟨?_, ?_, ?_, ?_⟩, pure ds _ p ns i c m z hl b1 b2 b3 b4 b5 hg⟩
  · cases j with
    | zero =>
      simp at e
      subst e
      exact ⟨rfl, _, h1, .cons h2 (.cons (.int _) (.cons (.int _) (.cons (.int _) (.cons (.int _) .nil))))⟩
    | succ j =>
      have := R0.slot j s (by simpa using e)
      rw [List.getElem?_cons_succ]
      exact this
  · obtain ⟨_, rfl⟩ := two j s a e w
    exact ⟨mp, by simp⟩
  · rw [(two j s a e1 w1).1, (two l u a e2 w2).1]
  · simp at e; exact e.1
  · by_cases ha : a = p
    · exact .inr (by rw [if_pos ha])
    · exact .inl (by simp [e, ha])
  · by_cases ha : a = p
    · rw [if_pos ha] at e; cases e
    · rw [if_neg ha] at e; exact e
  · obtain ⟨_, rfl⟩ := two j s a e w
    rw [if_pos rfl]
  · simp at e
    rw [if_neg e.2]
    exact t a e.1
  · intro σ H' env R w; exact w.elim
  · intro v σ H' env d R q1 q2
    obtain ⟨r', ns', i', c', m', z', rfl, e0, c1, c2, c3, c4, c5, hk⟩ := q2
    cases q1
    obtain ⟨M', R1, h0, h1'⟩ := R.rel
    obtain ⟨y1, vs, y2, y3⟩ := R1.slot 0 _ e0
    have hpm := (R1.own 0 _ p e0 rfl).1
    have sub : ∀ a, M a = true → M' a = true := fun a e => by
      by_cases ha : a = p
      · rw [ha]; exact hpm
      · exact h0 a (by simp [e, ha])
    have smH : Same (hid M' H') (hid M H') := fun a o e => by
      obtain ⟨e1, e2⟩ := hid_some.mp e
      refine hid_some.mpr ⟨?_, e2⟩
      cases zz : M a with
      | false => rfl
      | true => rw [sub a zz] at e1; cases e1
    refine hk _ H' (fun a o hP e => R.same a o (by simp) (by rw [if_neg (fun k => hP (by rw [k]))]; exact e)) ?_ (.int _)
    cases y3 with
    | cons z1 y3 =>
      cases y3 with
      | cons z2 y3 =>
        cases y3 with
        | cons z3 y3 =>
          cases y3 with
          | cons z4 y3 =>
            cases y3 with
            | cons z5 y3 =>
              cases y3
              cases z2; cases z3; cases z4; cases z5
              exact ⟨_, ns', i', c', m', z', y2, Dv.mono smH _ _ z1, c1, c2, c3, c4, c5⟩
  · intro σ H' env R w; exact w.elim
  · intro σ H' env R w; exact w.elim
end
end DL

namespace DL
open PySem L2
variable {K : PySem.W.Frag}
/-! ### sorted(set(t)), t a tuple of ints -/
def rSetTI (K : PySem.W.Frag) (w : World) : List V → Hp → VK → Prop := fun xs H Q => ∃ (a : Addr) (ns : List Int), xs = [.ref a] ∧ SqT K H a (ns.map V.int) ∧ ns.length < 64 ∧ ∀ p c, H p = none → c ≤ ns.length → Q (.ref p) (upd H p (SetO w p (fun j => decide (j ∈ ns)) c))
section
variable {X : Cx}
theorem cr_setTI (hc : X.calm = true) : CallR X (.type "set") (rSetTI X.K X.w) := by
  intro pins s σ H xs us Q I r h
  obtain ⟨a, ns, rfl, hs, hl, q⟩ := h
  rw [Vals.ref1 r]
  obtain ⟨its, rv, pt, hz⟩ := I.tuple hs
  have hi : PyProof.Rows.IntsAre its.toArray.toList ns := intsAre_of (by simpa using rv)
  refine call_set_tupI ns (I.ok.hd hc) (show s.heap.IsTuple a its.toArray from pt) hi (by unfold scanBound; omega) fun h' tk c R hcn k => ?_
  refine ⟨.ref s.heap.objs.size, upd H s.heap.objs.size (SetO X.w s.heap.objs.size (fun j => decide (j ∈ ns)) c), I.laid (t' := tk) k (Nat.le_refl _) (setO_new R), rfl, q _ c (I.hok.fresh (Nat.le_refl _)) hcn⟩
def fSortSetI (a : DTE) : DTF := fun env κ => a env fun o => ∃ ns : List Int, o.get env = some (.tuple (ns.map .int)) ∧ ns.length < 64 ∧ ∀ ns' : List Int, ns'.Pairwise (· < ·) → (∀ k, k ∈ ns' ↔ k ∈ ns) → κ (ns'.map .int)
theorem dv_ints_of {H : Hp} : ∀ {ns : List Int} {vs : List V}, DvAll K H vs (ns.map .int) → vs = ns.map V.int
  | [], _, h => by cases h; rfl
  | n :: ns, _, h => by
    cases h with
    | cons a b => cases a; rw [dv_ints_of b]; rfl
theorem fv_sortSetI {x y : Str} {p p2 pos pos2 : Pos} {e : Expr} {a : DTE} (hc : X.calm = true) (hm : X.mg x = none) (hm2 : X.mg y = none) (he : EV X e a) (hv : bootBuiltins x = some (.builtin "sorted")) (hv2 : bootBuiltins y = some (.type "set")) (hg : Gl X x := by rfl) (hg2 : Gl X y := by rfl) (hn : x ≠ "__name__" := by decide) (hn2 : y ≠ "__name__" := by decide)
    (hdb : (x == ("__debug__" : Str)) = false := by decide) (hdb2 : (y == ("__debug__" : Str)) = false := by decide) (h1 : starEach [e] X.env = (false, eval e X.env) :: starEach [] X.env := by rfl)
    (h2 : starEach [.Call (.Name y p2) [e] [] pos2] X.env = (false, eval (.Call (.Name y p2) [e] [] pos2) X.env) :: starEach [] X.env := by rfl) (hpl : (backTo pos (starEach ([] : List Expr) X.env)).any (·.1) = false := by rfl) (hpl2 : (backTo pos2 (starEach ([] : List Expr) X.env)).any (·.1) = false := by rfl) :
    FV X (.Call (.Name x p) [.Call (.Name y p2) [e] [] pos2] [] pos) (fSortSetI a) := by
  refine PE.imp (pe_callB (cr_sortedSet hc) hg hm hv (pa_cons (pe_callTy (cr_setTI hc) hg2 hm2 hv2 (pa_cons he pa_nil h1) hn2 hdb2 h1 hpl2) pa_nil h2) hn hdb h2 hpl) fun σ H Q ⟨P, M, env, κ, R, w, k⟩ => ?_
  refine ⟨P, M, env, _, R, w, fun v H1 o s1 R1 o1 ⟨ns, e1, hl, w1⟩ => ?_⟩
  obtain ⟨a, vs, rfl, q1, q2, _⟩ := (o1.rd R1 e1).tuple
  have ev := dv_ints_of q2
  subst ev
  refine ⟨a, ns, rfl, q1, hl, fun p c hp hcn => ?_⟩
  have sm := same_new (o := SetO X.w p (fun j => decide (j ∈ ns)) c) hp
  refine ⟨p, _, c, rfl, upd_same, by omega, fun ns' p' h3 h4 h5 hp' => ?_⟩
  exact k p' _ _ _ (s1.trans (SameP.of sm)) (R1.same sm) hp' (dv_ints ns') (w1 ns' h3 fun k => by rw [h4 k]; simp)
end

/-! ### items one by one -/
theorem lcW_all {f : D → (Option D → Prop) → Prop} {κ : List D → Prop} (g : D → D) : ∀ (ds acc : List D), (∀ d ∈ ds, ∀ k : Option D → Prop, k (some (g d)) → f d k) → κ (acc ++ ds.map g) → lcW f κ ds acc
  | [], acc, _, h => by simpa [lcW] using h
  | d :: ds, acc, hf, h => by
    unfold lcW
    refine hf d List.mem_cons_self _ ?_
    exact lcW_all g ds (acc ++ [g d]) (fun e he => hf e (List.mem_cons_of_mem _ he)) (by simpa using h)
theorem lcW_opt {f : D → (Option D → Prop) → Prop} {κ : List D → Prop} (g : D → Option D) : ∀ (ds acc : List D), (∀ d ∈ ds, ∀ k : Option D → Prop, k (g d) → f d k) → κ (acc ++ ds.filterMap g) → lcW f κ ds acc
  | [], acc, _, h => by simpa [lcW] using h
  | d :: ds, acc, hf, h => by
    unfold lcW
    refine hf d List.mem_cons_self _ ?_
    cases e : g d with
    | none => exact lcW_opt g ds acc (fun e he => hf e (List.mem_cons_of_mem _ he)) (by simpa [List.filterMap_cons, e] using h)
    | some y => exact lcW_opt g ds (acc ++ [y]) (fun e he => hf e (List.mem_cons_of_mem _ he)) (by simpa [List.filterMap_cons, e] using h)

/-! ### small data: it can be compared -/
inductive Sm : Nat → D → Prop
  | non {n : Nat} : Sm n .none
  | bl {n : Nat} {b : Bool} : Sm n (.bool b)
  | int {n : Nat} {i : Int} : Sm n (.int i)
  | str {n : Nat} {x : Str} : PyData.strOk x = true → Sm n (.str x)
  | lst {n : Nat} {ds : List D} : ds.length ≤ 100000 → (∀ d ∈ ds, Sm n d) → Sm (n + 1) (.list ds)
  | tup {n : Nat} {ds : List D} : ds.length ≤ 100000 → (∀ d ∈ ds, Sm n d) → Sm (n + 1) (.tuple ds)
theorem lay_all : ∀ {ds : List D}, (∀ d ∈ ds, d.canLay0 = true) → PyData.canLayAll0 ds = true
  | [], _ => rfl
  | d :: ds, h => by
    unfold PyData.canLayAll0
    rw [h d List.mem_cons_self, lay_all fun e he => h e (List.mem_cons_of_mem _ he)]
    rfl
theorem noDcts_all : ∀ {ds : List D}, (∀ d ∈ ds, noDct d = true) → noDcts ds = true
  | [], _ => rfl
  | d :: ds, h => by
    unfold noDcts
    rw [h d List.mem_cons_self, noDcts_all fun e he => h e (List.mem_cons_of_mem _ he)]
    rfl
theorem depth_all {n : Nat} : ∀ {ds : List D}, (∀ d ∈ ds, d.depth ≤ n) → PyData.depthAll ds ≤ n
  | [], _ => Nat.zero_le _
  | d :: ds, h => by
    unfold PyData.depthAll
    exact Nat.max_le.mpr ⟨h d List.mem_cons_self, depth_all fun e he => h e (List.mem_cons_of_mem _ he)⟩
theorem Sm.all {n : Nat} {d : D} (h : Sm n d) : d.canLay0 = true ∧ d.depth ≤ n ∧ noDct d = true := by
  induction h with
  | non => exact ⟨rfl, Nat.zero_le _, rfl⟩
  | bl => exact ⟨rfl, Nat.zero_le _, rfl⟩
  | int => exact ⟨rfl, Nat.zero_le _, rfl⟩
  | str h => exact ⟨h, Nat.zero_le _, rfl⟩
  | lst _ _ ih => exact ⟨lay_all fun d hd => (ih d hd).1, Nat.succ_le_succ (depth_all fun d hd => (ih d hd).2.1), noDcts_all fun d hd => (ih d hd).2.2⟩
  | tup _ _ ih => exact ⟨lay_all fun d hd => (ih d hd).1, Nat.succ_le_succ (depth_all fun d hd => (ih d hd).2.1), noDcts_all fun d hd => (ih d hd).2.2⟩
theorem Sm.shp {n : Nat} {d : D} (h : Sm n d) (hn : n ≤ 64 := by decide) : shp d = true := by
  obtain ⟨h1, h2, h3⟩ := h.all
  unfold DL.shp SeqAt.shaped
  rw [h1, h3, decide_eq_true (Nat.le_trans h2 hn)]
  rfl
theorem Sm.up {n m : Nat} {d : D} (h : Sm n d) (hm : n ≤ m) : Sm m d := by
  induction h generalizing m with
  | non => exact .non
  | bl => exact .bl
  | int => exact .int
  | str h => exact .str h
  | lst h1 _ ih => cases m with
    | zero => omega
    | succ m => exact .lst h1 fun d hd => ih d hd (by omega)
  | tup h1 _ ih => cases m with
    | zero => omega
    | succ m => exact .tup h1 fun d hd => ih d hd (by omega)
mutual
theorem eqv_refl : ∀ d : D, noDct d = true → PyData.eqv d d = true
  | .none, _ => rfl
  | .bool b, _ => by simp [PyData.eqv]
  | .int i, _ => by simp [PyData.eqv]
  | .str x, _ => by simp [PyData.eqv]
  | .list ds, h => by
    simp only [PyData.eqv]
    exact eqv_refls ds (by simpa [noDct] using h)
  | .tuple ds, h => by
    simp only [PyData.eqv]
    exact eqv_refls ds (by simpa [noDct] using h)
  | .dict _, h => by simp [noDct] at h
theorem eqv_refls : ∀ ds : List D, noDcts ds = true → PyData.eqvAll ds ds = true
  | [], _ => rfl
  | d :: ds, h => by
    simp only [noDcts, Bool.and_eq_true] at h
    simp only [PyData.eqvAll, Bool.and_eq_true]
    exact ⟨eqv_refl d h.1, eqv_refls ds h.2⟩
end
/-! kinds -/
theorem kit1 : kitB "NoneType" "tuple" = some false := rfl
theorem kit2 : kitB "NoneType" "list" = some false := rfl
theorem kit3 : kitB "NoneType" "bool" = some false := rfl
theorem kit4 : kitB "NoneType" "int" = some false := rfl
theorem kit5 : kitB "NoneType" "str" = some false := rfl
theorem kit6 : kitB "bool" "tuple" = some false := rfl
theorem kit7 : kitB "bool" "list" = some false := rfl
theorem kit8 : kitB "bool" "bool" = some true := rfl
theorem kit9 : kitB "bool" "int" = some true := rfl
theorem kit10 : kitB "bool" "str" = some false := rfl
theorem kit11 : kitB "int" "tuple" = some false := rfl
theorem kit12 : kitB "int" "list" = some false := rfl
theorem kit13 : kitB "int" "bool" = some false := rfl
theorem kit14 : kitB "int" "int" = some true := rfl
theorem kit15 : kitB "int" "str" = some false := rfl
theorem kit16 : kitB "str" "tuple" = some false := rfl
theorem kit17 : kitB "str" "list" = some false := rfl
theorem kit18 : kitB "str" "bool" = some false := rfl
theorem kit19 : kitB "str" "int" = some false := rfl
theorem kit20 : kitB "str" "str" = some true := rfl
theorem kit21 : kitB "list" "tuple" = some false := rfl
theorem kit22 : kitB "list" "list" = some true := rfl
theorem kit23 : kitB "list" "bool" = some false := rfl
theorem kit24 : kitB "list" "int" = some false := rfl
theorem kit25 : kitB "list" "str" = some false := rfl
theorem kit26 : kitB "tuple" "tuple" = some true := rfl
theorem kit27 : kitB "tuple" "list" = some false := rfl
theorem kit28 : kitB "tuple" "bool" = some false := rfl
theorem kit29 : kitB "tuple" "int" = some false := rfl
theorem kit30 : kitB "tuple" "str" = some false := rfl
theorem ty1 : tyD .none = "NoneType" := rfl
theorem ty2 {b : Bool} : tyD (.bool b) = "bool" := rfl
theorem ty3 {i : Int} : tyD (.int i) = "int" := rfl
theorem ty4 {x : Str} : tyD (.str x) = "str" := rfl
theorem ty5 {ds : List D} : tyD (.list ds) = "list" := rfl
theorem ty6 {ds : List D} : tyD (.tuple ds) = "tuple" := rfl
theorem it1 {ds : List D} : isTup (.tuple ds) = some ds := rfl
theorem it2 {ds : List D} : isLst (.list ds) = some ds := rfl
theorem it3 {ds : List D} : isLst (.tuple ds) = none := rfl
theorem it4 {x : Str} : isStr (.str x) = some (x.cps.toList.map fun c => .str ⟨#[c]⟩) := rfl
theorem shp_bl {b : Bool} : shp (.bool b) = true := (Sm.bl (n := 0)).shp
theorem shp_int {b : Int} : shp (.int b) = true := (Sm.int (n := 0)).shp
theorem shp_non : shp .none = true := (Sm.non (n := 0)).shp
theorem eqv_bl {b c : Bool} : PyData.eqv (.bool b) (.bool c) = (b == c) := by simp [PyData.eqv]
theorem eqv_ii {b c : Int} : PyData.eqv (.int b) (.int c) = (b == c) := by simp [PyData.eqv]
/-! ### _law_same: of like things -/
/-- at n levels to go -/
def g_same : Nat → DSp
  | 0 => fun _ _ => False
  | n + 1 => fun ds κ => ∃ d, ds = [d, d] ∧ Sm n d ∧ κ (.bool true)
theorem mono_same : ∀ n, Mono (g_same n)
  | 0 => fun ds p q h w => w.elim
  | n + 1 => fun ds p q h ⟨d, e, h1, w⟩ => ⟨d, e, h1, h _ w⟩
def t_same (g : DSp) : DTS := wSeq (wIfS (wOr (wTest (wIsi "tuple" (wVar 1))) (wTest (wIsi "list" (wVar 1)))) (wSeq (wIfS (wOr (wTest (wBin NeR (wIsi "tuple" (wVar 1)) (wIsi "tuple" (wVar 0)))) (wOr (wTest (wBin NeR (wIsi "list" (wVar 1)) (wIsi "list" (wVar 0)))) (wTest (wBin NeR (wBlt LenR (wCons (wVar 0) (wNil))) (wBlt LenR (wCons (wVar 1) (wNil))))))) (wRet (wC (.bool false))) (wNext)) (wRet (wBin EqR (wBlt LenR (wCons (wLc (wRng1 (wBlt LenR (wCons (wVar 1) (wNil)))) (wN 2) (wNot (wTest (wCall 2 g (wCons (wBin IxD (wVar 0) (wVar 2)) (wCons (wBin IxD (wVar 1) (wVar 2)) (wNil)))))) (wVar 2) [2]) (wNil))) (wC (.int 0))))) (wNext)) (wSeq (wIfS (wTest (wIsN (wVar 1))) (wRet (wIsN (wVar 0))) (wNext)) (wSeq (wIfS (wOr (wTest (wIsi "bool" (wVar 1))) (wTest (wIsi "bool" (wVar 0)))) (wRet (wAndV (wIsi "bool" (wVar 1)) (wAndV (wIsi "bool" (wVar 0)) (wBin EqR (wVar 0) (wVar 1))))) (wNext)) (wSeq (wIfS (wTest (wIsi "int" (wVar 1))) (wRet (wAndV (wIsi "int" (wVar 0)) (wBin EqR (wVar 0) (wVar 1)))) (wNext)) (wRet (wAndV (wIsi "str" (wVar 0)) (wAndV (wIsi "str" (wVar 1)) (wBin EqR (wVar 0) (wVar 1))))))))
theorem atI_nat {α : Type} {xs : List α} {i : Nat} : atI xs (i : Int) = xs[i]? := by
  unfold atI ixN
  by_cases h : i < xs.length
  · rw [if_pos (by omega), if_pos (by omega)]
    simp
  · rw [if_pos (by omega), if_neg (by omega), List.getElem?_eq_none (by omega)]
    rfl
theorem ixD_list {ds : List D} {i : Nat} {z : D} : IxD (.list ds) (.int (i : Nat)) z = (ds[i]? = some z) := by simp [IxD, atI_nat]
theorem ixD_tup {ds : List D} {i : Nat} {z : D} : IxD (.tuple ds) (.int (i : Nat)) z = (ds[i]? = some z) := by simp [IxD, atI_nat]
theorem rangeD_mem {n : Nat} {d : D} (h : d ∈ rangeD 0 n) : ∃ i : Nat, i < n ∧ d = .int (i : Nat) := by
  unfold rangeD at h
  obtain ⟨i, h1, h2⟩ := List.mem_map.mp h
  exact ⟨i, by simpa using h1, by rw [← h2]; simp⟩
theorem fm_none {α β : Type} (l : List α) : l.filterMap (fun _ => (none : Option β)) = [] := by induction l <;> simp_all
theorem pure_same (n : Nat) (ds : List D) (κ : D → Prop) (hl : ds.length = 2) (h : g_same (n + 1) ds κ) : t_same (g_same n) { nx := fun _ => κ .none, rt := fun d _ => κ d } (startE 3 ds) := by
  obtain ⟨d, rfl, sm, hk⟩ := h
  have nd := sm.all.2.2
  cases sm with
  | int =>
    simp [t_same, wSeq, wIfS, wOr, wAnd, wNot, wTest, wIsi, wVar, startE, Op.get, Op.clean, noDct, ty1, ty2, ty3, ty4, ty5, ty6, wNext, wIsN, wNotN, wRet, wRetT, wRetN, wAndV, wOrV, wNotV, wIf, wBin, wBlt, wC, wCons, wNil, wTup, dats, gets, wAsg, wN, wN2, wN3, wPar, wAug, wCall, wCallP, wSetL, wF, fLst, fBlt, wApp, wPut, wNeg, wLc, wYes, elW, wipeE, wTupRg, fRng1, wRng1, wRng2, wIt, wItV, it1, it2, it3, it4, wChain, wSl, wNoPart, wPart, wDPut, wDDisp, wDNew, kit1, kit2, kit3, kit4, kit5, kit6, kit7, kit8, kit9, kit10, kit11, kit12, kit13, kit14, kit15, kit16, kit17, kit18, kit19, kit20, kit21, kit22, kit23, kit24, kit25, kit26, kit27, kit28, kit29, kit30, shp_bl, shp_int, shp_non, eqv_bl, eqv_ii, EqR]
    exact hk
  | bl =>
    simp [t_same, wSeq, wIfS, wOr, wAnd, wNot, wTest, wIsi, wVar, startE, Op.get, Op.clean, noDct, ty1, ty2, ty3, ty4, ty5, ty6, wNext, wIsN, wNotN, wRet, wRetT, wRetN, wAndV, wOrV, wNotV, wIf, wBin, wBlt, wC, wCons, wNil, wTup, dats, gets, wAsg, wN, wN2, wN3, wPar, wAug, wCall, wCallP, wSetL, wF, fLst, fBlt, wApp, wPut, wNeg, wLc, wYes, elW, wipeE, wTupRg, fRng1, wRng1, wRng2, wIt, wItV, it1, it2, it3, it4, wChain, wSl, wNoPart, wPart, wDPut, wDDisp, wDNew, kit1, kit2, kit3, kit4, kit5, kit6, kit7, kit8, kit9, kit10, kit11, kit12, kit13, kit14, kit15, kit16, kit17, kit18, kit19, kit20, kit21, kit22, kit23, kit24, kit25, kit26, kit27, kit28, kit29, kit30, shp_bl, shp_int, shp_non, eqv_bl, eqv_ii, EqR]
    exact hk
  | non =>
    simp [t_same, wSeq, wIfS, wOr, wAnd, wNot, wTest, wIsi, wVar, startE, Op.get, Op.clean, noDct, ty1, ty2, ty3, ty4, ty5, ty6, wNext, wIsN, wNotN, wRet, wRetT, wRetN, wAndV, wOrV, wNotV, wIf, wBin, wBlt, wC, wCons, wNil, wTup, dats, gets, wAsg, wN, wN2, wN3, wPar, wAug, wCall, wCallP, wSetL, wF, fLst, fBlt, wApp, wPut, wNeg, wLc, wYes, elW, wipeE, wTupRg, fRng1, wRng1, wRng2, wIt, wItV, it1, it2, it3, it4, wChain, wSl, wNoPart, wPart, wDPut, wDDisp, wDNew, kit1, kit2, kit3, kit4, kit5, kit6, kit7, kit8, kit9, kit10, kit11, kit12, kit13, kit14, kit15, kit16, kit17, kit18, kit19, kit20, kit21, kit22, kit23, kit24, kit25, kit26, kit27, kit28, kit29, kit30, shp_bl, shp_int, shp_non, eqv_bl, eqv_ii, EqR]
    exact hk
  | str h =>
    have s1 : shp (.str _) = true := (Sm.str (n := 0) h).shp
    simp [t_same, wSeq, wIfS, wOr, wAnd, wNot, wTest, wIsi, wVar, startE, Op.get, Op.clean, noDct, ty1, ty2, ty3, ty4, ty5, ty6, wNext, wIsN, wNotN, wRet, wRetT, wRetN, wAndV, wOrV, wNotV, wIf, wBin, wBlt, wC, wCons, wNil, wTup, dats, gets, wAsg, wN, wN2, wN3, wPar, wAug, wCall, wCallP, wSetL, wF, fLst, fBlt, wApp, wPut, wNeg, wLc, wYes, elW, wipeE, wTupRg, fRng1, wRng1, wRng2, wIt, wItV, it1, it2, it3, it4, wChain, wSl, wNoPart, wPart, wDPut, wDDisp, wDNew, kit1, kit2, kit3, kit4, kit5, kit6, kit7, kit8, kit9, kit10, kit11, kit12, kit13, kit14, kit15, kit16, kit17, kit18, kit19, kit20, kit21, kit22, kit23, kit24, kit25, kit26, kit27, kit28, kit29, kit30, shp_bl, shp_int, shp_non, eqv_bl, eqv_ii, EqR, s1, PyData.eqv]
    exact hk
  | @lst m es h1 h2 =>
    simp [t_same, wSeq, wIfS, wOr, wAnd, wNot, wTest, wIsi, wVar, startE, Op.get, Op.clean, noDct, ty1, ty2, ty3, ty4, ty5, ty6, wNext, wIsN, wNotN, wRet, wRetT, wRetN, wAndV, wOrV, wNotV, wIf, wBin, wBlt, wC, wCons, wNil, wTup, dats, gets, wAsg, wN, wN2, wN3, wPar, wAug, wCall, wCallP, wSetL, wF, fLst, fBlt, wApp, wPut, wNeg, wLc, wYes, elW, wipeE, wTupRg, fRng1, wRng1, wRng2, wIt, wItV, it1, it2, it3, it4, wChain, wSl, wNoPart, wPart, wDPut, wDDisp, wDNew, kit1, kit2, kit3, kit4, kit5, kit6, kit7, kit8, kit9, kit10, kit11, kit12, kit13, kit14, kit15, kit16, kit17, kit18, kit19, kit20, kit21, kit22, kit23, kit24, kit25, kit26, kit27, kit28, kit29, kit30, shp_bl, shp_int, shp_non, eqv_bl, eqv_ii, EqR, NeR, LenR]
    refine ⟨by simpa [noDct] using nd, by omega, by rw [rangeD_len]; omega, lcW_opt (fun _ => none) _ _ (fun d hd k w => ?_) (by rw [fm_none]; simpa using hk)⟩
    obtain ⟨i, hi, rfl⟩ := rangeD_mem hd
    have e : es[i]? = some es[i] := List.getElem?_eq_getElem hi
    simp [wSeq, wIfS, wOr, wAnd, wNot, wTest, wIsi, wVar, startE, Op.get, Op.clean, noDct, ty1, ty2, ty3, ty4, ty5, ty6, wNext, wIsN, wNotN, wRet, wRetT, wRetN, wAndV, wOrV, wNotV, wIf, wBin, wBlt, wC, wCons, wNil, wTup, dats, gets, wAsg, wN, wN2, wN3, wPar, wAug, wCall, wCallP, wSetL, wF, fLst, fBlt, wApp, wPut, wNeg, wLc, wYes, elW, wipeE, wTupRg, fRng1, wRng1, wRng2, wIt, wItV, it1, it2, it3, it4, wChain, wSl, wNoPart, wPart, wDPut, wDDisp, wDNew, kit1, kit2, kit3, kit4, kit5, kit6, kit7, kit8, kit9, kit10, kit11, kit12, kit13, kit14, kit15, kit16, kit17, kit18, kit19, kit20, kit21, kit22, kit23, kit24, kit25, kit26, kit27, kit28, kit29, kit30, shp_bl, shp_int, shp_non, eqv_bl, eqv_ii, ixD_list, e, flatD, g_same]
    exact ⟨h2 _ (List.getElem_mem hi), w⟩
  | @tup m es h1 h2 =>
    simp [t_same, wSeq, wIfS, wOr, wAnd, wNot, wTest, wIsi, wVar, startE, Op.get, Op.clean, noDct, ty1, ty2, ty3, ty4, ty5, ty6, wNext, wIsN, wNotN, wRet, wRetT, wRetN, wAndV, wOrV, wNotV, wIf, wBin, wBlt, wC, wCons, wNil, wTup, dats, gets, wAsg, wN, wN2, wN3, wPar, wAug, wCall, wCallP, wSetL, wF, fLst, fBlt, wApp, wPut, wNeg, wLc, wYes, elW, wipeE, wTupRg, fRng1, wRng1, wRng2, wIt, wItV, it1, it2, it3, it4, wChain, wSl, wNoPart, wPart, wDPut, wDDisp, wDNew, kit1, kit2, kit3, kit4, kit5, kit6, kit7, kit8, kit9, kit10, kit11, kit12, kit13, kit14, kit15, kit16, kit17, kit18, kit19, kit20, kit21, kit22, kit23, kit24, kit25, kit26, kit27, kit28, kit29, kit30, shp_bl, shp_int, shp_non, eqv_bl, eqv_ii, EqR, NeR, LenR]
    refine ⟨by simpa [noDct] using nd, by omega, by rw [rangeD_len]; omega, lcW_opt (fun _ => none) _ _ (fun d hd k w => ?_) (by rw [fm_none]; simpa using hk)⟩
    obtain ⟨i, hi, rfl⟩ := rangeD_mem hd
    have e : es[i]? = some es[i] := List.getElem?_eq_getElem hi
    simp [wSeq, wIfS, wOr, wAnd, wNot, wTest, wIsi, wVar, startE, Op.get, Op.clean, noDct, ty1, ty2, ty3, ty4, ty5, ty6, wNext, wIsN, wNotN, wRet, wRetT, wRetN, wAndV, wOrV, wNotV, wIf, wBin, wBlt, wC, wCons, wNil, wTup, dats, gets, wAsg, wN, wN2, wN3, wPar, wAug, wCall, wCallP, wSetL, wF, fLst, fBlt, wApp, wPut, wNeg, wLc, wYes, elW, wipeE, wTupRg, fRng1, wRng1, wRng2, wIt, wItV, it1, it2, it3, it4, wChain, wSl, wNoPart, wPart, wDPut, wDDisp, wDNew, kit1, kit2, kit3, kit4, kit5, kit6, kit7, kit8, kit9, kit10, kit11, kit12, kit13, kit14, kit15, kit16, kit17, kit18, kit19, kit20, kit21, kit22, kit23, kit24, kit25, kit26, kit27, kit28, kit29, kit30, shp_bl, shp_int, shp_non, eqv_bl, eqv_ii, ixD_tup, e, flatD, g_same]
    exact ⟨h2 _ (List.getElem_mem hi), w⟩
end DL

namespace DL
open PySem L2
variable {K : PySem.W.Frag}
section
variable {X : Cx}
/-! ### t.index(y) -/
def tyFrz (x : V) (H : Hp) : Prop := ∃ a ob xs, x = .ref a ∧ H a = some (.frz ob (.tup xs)) ∧ ob.dict = none
theorem ty_frz : TyOk X "tuple" tyFrz := by
  intro pins σ H s x v I r ty
  obtain ⟨a, ob, xs, rfl, e, hd⟩ := ty
  cases r
  obtain ⟨z, its, rv, o, ho, hc, n, hdt⟩ := (show Rd H a (.tup xs) from .inr ⟨ob, e⟩).ok I.hok
  have h2 := (I.hok a _ e).1
  rw [ho] at h2
  cases h2
  refine ⟨⟨_, ho, hc⟩, fun b q => ?_⟩
  cases q
  exact ⟨_, ho, hd⟩
def wTIndex (a b : DTE) : DTE := fun env κ => a env fun o => ∃ ds, o = .d (.tuple ds) ∧ b env fun u => ∃ (d : D) (j : Nat) (z : D), u.get env = some d ∧ shp (.tuple ds) = true ∧ shp d = true ∧ ds[j]? = some z ∧ PyData.eqv z d = true ∧
  (∀ (m : Nat) (z' : D), m < j → ds[m]? = some z' → PyData.eqv z' d = false) ∧ κ (.d (.int (j : Nat)))
theorem ev_tindex {k : Nat} (hr : Room k X.A) {o e : Expr} {a b : DTE} {apos cpos : Pos} (ho : EV X o a) (he : EV X e b) (hbase : attributeBase o "index" X.env (eval o X.env) = eval o X.env := by rfl)
    (hfew : ((backTo cpos (starEach [e] X.env)).all (fun x => !x.1) && (backToKw cpos (keywordEach [] X.env)).all (fun x => x.1.isSome)
      && decide (([e] : List Expr).length + ([] : List Keyword).length + (if ([] : List Keyword).isEmpty then 0 else 1) < 30)) = true := by rfl)
    (hline : (apos.endLine == cpos.line) = true := by rfl) (hst : starEach [e] X.env = (false, eval e X.env) :: starEach [] X.env := by rfl) (hplain : (backTo cpos (starEach ([] : List Expr) X.env)).any (·.1) = false := by rfl) :
    EV X (.Call (.Attribute o "index" apos) [e] [] cpos) (wTIndex a b) := by
  have hu : X.A.units + 65 < cLine := by have := hr.un; omega
  refine PE.imp (pe_mG ty_frz PySem.F.plainAttrs_tuple PySem.F.slot_tuple_index PySem.F.type_tuple_index (mt_tindexD hu) ho (pa_cons he pa_nil hst) hbase hfew hline hst hplain) fun σ H Q ⟨P, M, env, κ, R, w, k⟩ => ?_
  refine ⟨P, M, env, _, R, w, fun v H1 o s1 R1 o1 ⟨ds, e1, w1⟩ => ?_⟩
  subst e1
  obtain ⟨p, us, rfl, q1, q2, ob, q3, q4⟩ := DvM.tuple (M := M) (H := H1) (.im o1)
  refine ⟨⟨p, ob, us, rfl, hid_sub _ _ q3, q4⟩, P, M, env, _, R1, w1, fun u H2 o' s2 R2 o2 ⟨d, j, z, e2, h1, h2, h3, h4, h5, w2⟩ => ?_⟩
  have hp : ∀ p, P = some p → M p = true := fun p q => (R.pool p q).1
  exact ⟨p, u, d, ds, j, z, rfl, rfl, DvM.dp (M := M) (H := H2) (.im (Dv.mono (s2.hid hp) _ _ o1)) (shp_n h1), (o2.rd R2 e2).dp (shp_n h2), shp_s h1, shp_s h2, h3, h4, h5, k _ H2 (.d (.int j)) (s1.trans s2) R2 (.int _) w2⟩
/-! ### sorted(xs), xs any data that are alike -/
open PySem.W in
def SortD : List D → (List D → Prop) → Prop := fun ds κ => ∃ es : List D, ds = [.list es] ∧ AllAlike es ∧ Sortable es ∧ es.length ≤ 1000000 ∧ (∀ d ∈ es, d.depth ≤ 60 ∧ noDct d = true) ∧ κ (es.mergeSort (dataLe false id))
open PySem.W in
def rSortD (K : PySem.W.Frag) : List V → Hp → VK → Prop := fun vs H Q => ∃ (a : Addr) (xs : List V) (es : List D), vs = [.ref a] ∧ SqL K H a xs ∧ DvAll K H xs es ∧ AllAlike es ∧ Sortable es ∧ es.length ≤ 1000000 ∧ (∀ d ∈ es, d.depth ≤ 60 ∧ noDct d = true) ∧
  ∀ p (ys : List V), H p = none → (∃ bs : List (V × D), bs.map (·.1) = ys ∧ bs.map (·.2) = es.mergeSort (dataLe false id) ∧ ∀ b ∈ bs, b ∈ xs.zip es) → Q (.ref p) (upd H p (.lst ys))
open PySem.W in
theorem each_zip {pins : List (Addr × Obj)} {σ : St} {H : Hp} {s : Shared} (I : Inv X pins σ H s) : ∀ {xs : List V} {es : List D} {us : List Value}, Vals xs us → DvAll X.K H xs es → (∀ d ∈ es, noDct d = true) →
    EachIs (fun v (b : V × D) => RelV b.1 v) us (xs.zip es) ∧ EachIs (fun v (b : V × D) => ∃ as, Reads s.heap v b.2 as) us (xs.zip es)
  | _, _, _, .nil, .nil, _ => ⟨.nil, .nil⟩
  | _, _, _, .cons r1 r2, .cons d1 d2, h => by
    obtain ⟨a, b⟩ := each_zip I r2 d2 fun d hd => h d (List.mem_cons_of_mem _ hd)
    exact ⟨.cons r1 a, .cons (Dp.reads I _ _ _ (Dv.dp _ _ (h _ List.mem_cons_self) d1) r1) b⟩
open PySem.W in
theorem each_vals : ∀ {us : List Value} {bs : List (V × D)}, EachIs (fun v (b : V × D) => RelV b.1 v) us bs → Vals (bs.map (·.1)) us
  | _, _, .nil => .nil
  | _, _, .cons r t => .cons r (each_vals t)
open PySem.W in
theorem cr_sortD (hu : X.A.units + 64 < cLine) : CallR X (.builtin "sorted") (rSortD X.K) := by
  intro pins s σ H vs us Q I r h
  obtain ⟨a, xs, es, rfl, hs, hd, hal, hk, hl, hb, q⟩ := h
  rw [Vals.ref1 r]
  obtain ⟨its, rv, pl, hz⟩ := I.list hs
  obtain ⟨e1, e2⟩ := each_zip I rv hd fun d h => (hb d h).2
  have hz2 : (xs.zip es).map (·.2) = es := by
    rw [← List.unzip_snd]
    have := List.unzip_zip (l₁ := xs) (l₂ := es) hd.length
    rw [this]
  have len : (xs.zip es).length = es.length := by rw [List.length_zip, hd.length, Nat.min_self]
  refine sorted_data (R := fun v (b : V × D) => RelV b.1 v) (enc := fun b : V × D => b.2) (bs := xs.zip es) (by simpa using pl.isList) e1 e2 (by rw [hz2]; exact hal) (by rw [hz2]; exact hk) (by rw [len, sizeLine_eq]; omega) (fun b hb2 => ?_) fun out ho eo => ?_
  · have : b.2 ∈ es := by rw [← hz2]; exact List.mem_map.mpr ⟨b, hb2, rfl⟩
    have := (hb _ this).1
    omega
  · obtain ⟨e, hg⟩ := PyProof.Rows.sortedAll_at s.heap its (List.toArray out)
    have hn : H (s.heap.objs.size + 1) = none := I.hok.fresh (Nat.le_succ _)
    have vv := each_vals eo
    refine ⟨.ref (s.heap.objs.size + 1), upd H (s.heap.objs.size + 1) (.lst (((xs.zip es).mergeSort (dataLe false fun b : V × D => b.2)).map (·.1))), I.laid (t' := s.toks) (fun b u e => PyProof.Rows.sortedAll_old e) (Nat.le_succ _) ⟨?_, out, e, vv, hg⟩, rfl, q _ _ hn ⟨(xs.zip es).mergeSort (dataLe false fun b : V × D => b.2), rfl, ?_, fun b hb2 => List.mem_mergeSort.mp hb2⟩⟩
    · rw [List.length_map, List.length_mergeSort, len, sizeLine_eq]; omega
    · conv => rhs; rw [← hz2]
      exact List.map_mergeSort fun a _ b _ => rfl
theorem dvAll_zip {H : Hp} : ∀ {us : List V} {es : List D}, DvAll K H us es → ∀ b ∈ us.zip es, Dv K H b.1 b.2
  | _, _, .nil, b, hb => by simp at hb
  | _, _, .cons r t, b, hb => by
    rw [List.zip_cons_cons] at hb
    rcases List.mem_cons.mp hb with rfl | hb
    · exact r
    · exact dvAll_zip t b hb
theorem sem_sortD : CallSemF K (rSortD K) SortD := by
  intro M H vs ds κ Q t h hz q
  obtain ⟨es, rfl, h1, h2, h3, h4, hk⟩ := hz
  obtain ⟨a, us, rfl, a1, a2⟩ := one_list h
  refine ⟨a, us, es, rfl, SqL.of a1, DvAll.mono hid_sub _ _ a2, h1, h2, h3, h4, fun p ys hp ⟨bs, b1, b2, b3⟩ => ?_⟩
  refine q p ys _ hp ?_ hk
  rw [← b1, ← b2]
  have key := dvAll_zip a2
  clear b1 b2
  induction bs with
  | nil => exact .nil
  | cons b bs ih => exact .cons (key b (b3 b List.mem_cons_self)) (ih fun c hc => b3 c (List.mem_cons_of_mem _ hc))
end
end DL

namespace DL
open PySem L2
variable {K : PySem.W.Frag}
section
variable {X : Cx}
/-! ### d.get(k) -/
def tyDct (x : V) (H : Hp) : Prop := ∃ a, x = .ref a ∧ ((∃ l, Rd H a (.dK l)) ∨ ∃ l, Rd H a (dicO a l))
theorem ty_dct : TyOk X "dict" tyDct := by
  intro pins σ H s x v I r ty
  obtain ⟨a, rfl, ⟨l, e⟩ | ⟨l, e⟩⟩ := ty
  · cases r
    obtain ⟨_, _, vs, _, o, es, ep, h1, h2, _⟩ := dk_rd I.hok e
    refine ⟨⟨o, h1, h2.1⟩, fun b q => ?_⟩
    cases q
    exact ⟨o, h1, h2.2.1⟩
  · cases r
    obtain ⟨o, es, ep, h1, h2, _⟩ := (rd_of I.hok e).1.ob
    refine ⟨⟨o, h1, h2.1⟩, fun b q => ?_⟩
    cases q
    exact ⟨o, h1, h2.2.1⟩
def rDGet (K : PySem.W.Frag) : V → List V → Hp → VK → Prop := fun x xs H Q => ∃ Hv a tk kvs d y, Same Hv H ∧ x = .ref a ∧ xs = [y] ∧ DctR K Hv H tk a kvs ∧ Dv K H y d ∧ keyOk tk d = true ∧ ∀ v, Dv K Hv v ((dget kvs d).getD .none) → Q v H
theorem mt_dget (hu : X.A.units + 9 < cLine) : MtR X "dict.get" (rDGet X.K) := by
  intro pins s σ H x xs v us Q I rx rxs h
  obtain ⟨Hv, a, tk, kvs, d, y, sm, rfl, rfl, hd, hy, ok, q⟩ := h
  cases rx
  obtain ⟨u, rfl, ry⟩ := vals1 rxs
  rcases dct_two hd ok hy with ⟨l, n, h1, h2, rfl, rfl, _⟩ | ⟨l, b, h1, h2, hk, rfl, _⟩
  · have g := h2.get (n := n)
    refine d_get1 (by omega) I (dget_rd h1) ry fun w' s' I' rw' => ⟨_, H, I', rw', ?_⟩
    cases e : dget kvs (.int n) with
    | none => rw [e] at g q; rw [g]; exact q _ .non
    | some z => rw [e] at g q; obtain ⟨w, g, r⟩ := g; rw [g]; exact q _ r
  · cases ry
    have g := h2.get hk
    have ks := keys_is I (h2.mono sm).keys
    refine get_keyed (knd := nestedKind X.prog X.w) (by show X.A.units + 1 + 8 < cLine; omega) (key_is X I.hok hk hy) (dic_low I h1) ⟨l, dic_of I h1 ks, rfl⟩ ?_
    rw [valueAt_pairsH]
    cases e : dget kvs d with
    | none =>
      rw [e] at g q
      rw [g]
      exact ⟨.non, H, I.tok _, rfl, q _ .non⟩
    | some z =>
      rw [e] at g q
      obtain ⟨p, w, g, r1, r2⟩ := g
      rw [g]
      exact ⟨w, H, I.tok _, r1, q w r2⟩
def wDGet (a b : DTE) : DTE := fun env κ => a env fun o => ∃ tk kvs, o.get env = some (dctD tk kvs) ∧ b env fun u => ∃ k, u = .d k ∧ keyOk tk k = true ∧ κ (.d ((dget kvs k).getD .none))
theorem DctR.ty {H : Hp} {Hv : Hp} {tk : Bool} {a : Addr} {kvs : List (D × D)} (h : DctR K Hv H tk a kvs) : tyDct (.ref a) H := by
  unfold DctR at h
  split at h
  · obtain ⟨l, e, _⟩ := h
    exact ⟨a, rfl, .inr ⟨l, e⟩⟩
  · obtain ⟨l, e, _⟩ := h
    exact ⟨a, rfl, .inl ⟨l, e⟩⟩
theorem ev_dget {k : Nat} (hr : Room k X.A) {o e : Expr} {a b : DTE} {apos cpos : Pos} (ho : EV X o a) (he : EV X e b) (hbase : attributeBase o "get" X.env (eval o X.env) = eval o X.env := by rfl)
    (hfew : ((backTo cpos (starEach [e] X.env)).all (fun x => !x.1) && (backToKw cpos (keywordEach [] X.env)).all (fun x => x.1.isSome)
      && decide (([e] : List Expr).length + ([] : List Keyword).length + (if ([] : List Keyword).isEmpty then 0 else 1) < 30)) = true := by rfl)
    (hline : (apos.endLine == cpos.line) = true := by rfl) (hst : starEach [e] X.env = (false, eval e X.env) :: starEach [] X.env := by rfl) (hplain : (backTo cpos (starEach ([] : List Expr) X.env)).any (·.1) = false := by rfl) :
    EV X (.Call (.Attribute o "get" apos) [e] [] cpos) (wDGet a b) := by
  have hu : X.A.units + 9 < cLine := by have := hr.un; omega
  refine PE.imp (pe_mG ty_dct PySem.F.plainAttrs_dict PySem.F.slot_dict_get PySem.F.type_dict_get (mt_dget hu) ho (pa_cons he pa_nil hst) hbase hfew hline hst hplain) fun σ H Q ⟨P, M, env, κ, R, w, k⟩ => ?_
  refine ⟨P, M, env, _, R, w, fun v H1 o s1 R1 o1 ⟨tk, kvs, e1, w1⟩ => ?_⟩
  obtain ⟨p, rfl, q1⟩ := (o1.rd R1 e1).dct
  refine ⟨q1.ty, P, M, env, _, R1, w1, fun u H2 o' s2 R2 o2 ⟨d, e2, ok, w2⟩ => ?_⟩
  subst e2
  have hp : ∀ p, P = some p → M p = true := fun p q => (R.pool p q).1
  obtain ⟨p', e', q2⟩ := ((o1.step s2 hp).rd R2 e1).dct
  cases e'
  exact ⟨hid M H2, p, tk, kvs, d, u, hid_sub, rfl, rfl, q2, Dv.mono hid_sub _ _ o2, ok, fun v r => k v H2 (.d _) (s1.trans s2) R2 r w2⟩
/-! ### a dict's entries as they stand -/
theorem kvi_keys {H : Hp} : ∀ {l : List (Key × V)} {m : List (D × D)}, KvI K H l m → DvAll K H (l.map fun p => kV p.1) (m.map (·.1)) ∧ DvAll K H (l.map (·.2)) (m.map (·.2))
  | _, _, .nil => ⟨.nil, .nil⟩
  | _, _, .cons r t => ⟨.cons (.int _) (kvi_keys t).1, .cons r (kvi_keys t).2⟩
theorem kvx_vals {H : Hp} : ∀ {l : Ents} {m : List (D × D)}, KvX K H l m → DvAll K H (l.map fun x => V.ref x.2.1) (m.map (·.1)) ∧ ∃ vs, DvAll K H vs (m.map (·.2)) ∧ Vals vs (l.map fun x => x.2.2)
  | _, _, .nil => ⟨.nil, [], .nil, .nil⟩
  | _, _, .cons r k e q t => by
    obtain ⟨a, vs, b, c⟩ := kvx_vals t
    exact ⟨.cons r a, _, .cons q b, .cons e c⟩
theorem vals_at : ∀ {vs : List V} {us : List Value} {i : Nat} {u : Value}, Vals vs us → us[i]? = some u → ∃ v, vs[i]? = some v ∧ RelV v u
  | _, _, _, _, .nil, e => by simp at e
  | _, _, 0, _, .cons r _, e => by simp at e; subst e; exact ⟨_, rfl, r⟩
  | _, _, i + 1, _, .cons _ t, e => by
    obtain ⟨v, h1, h2⟩ := vals_at (i := i) t (by simpa using e)
    exact ⟨v, by simpa using h1, h2⟩
theorem dct_raw {pins : List (Addr × Obj)} {σ : St} {H Hv : Hp} {s : Shared} {tk : Bool} {a : Addr} {kvs : List (D × D)} (I : Inv X pins σ H s) (h : DctR X.K Hv H tk a kvs) :
    (a == sysModules) = false ∧ kvs.length ≤ sizeLine ∧ ∃ es ep ks vs, s.heap.DictRaw a es ep ∧ es.size = kvs.length ∧ DvAll X.K Hv ks (kvs.map (·.1)) ∧ DvAll X.K Hv vs (kvs.map (·.2)) ∧
      ∀ i (hi : i < es.size), (∃ k, ks[i]? = some k ∧ RelV k es[i].key) ∧ ∃ v, vs[i]? = some v ∧ RelV v es[i].val := by
  unfold DctR at h
  split at h
  · obtain ⟨l, e, r⟩ := h
    obtain ⟨D, _⟩ := rd_of I.hok e
    obtain ⟨o, es, ep, h1, h2, h3, h4⟩ := D.ob
    obtain ⟨q1, vs, q2, q3⟩ := kvx_vals r
    have hsz : es.size = l.length := by rw [← Array.length_toList, h4, List.length_map]
    refine ⟨D.low, by rw [← r.length]; exact D.len, es, ep, _, vs, ⟨o, h1, h2, h3⟩, by rw [hsz, r.length], q1, q2, fun i hi => ?_⟩
    have hx : l[i]? = some l[i] := List.getElem?_eq_getElem (by omega)
    have he : es[i] = entK l[i] := by
      have : es.toList[i]? = some (entK l[i]) := by rw [h4, List.getElem?_map, hx]; rfl
      have h5 : es.toList[i]? = some es[i] := by simp [hi]
      rw [h5] at this
      exact Option.some.inj this
    rw [he]
    refine ⟨⟨.ref l[i].2.1, by rw [List.getElem?_map, hx]; rfl, rfl⟩, ?_⟩
    exact vals_at q3 (by rw [List.getElem?_map, hx]; rfl)
  · obtain ⟨l, e, r⟩ := h
    obtain ⟨z, hd, vs, rel, dd⟩ := dk_rd I.hok e
    obtain ⟨es, ep, hr, hs, hi⟩ := dd.raw
    have hl : l.length = vs.length := Paired.length rel
    obtain ⟨q1, q2⟩ := kvi_keys r
    refine ⟨hd, by rw [← r.length]; exact z, es, ep, _, _, hr, by rw [hs, ← hl, r.length], q1, q2, fun i h2 => ?_⟩
    have hx : l[i]? = some l[i] := List.getElem?_eq_getElem (by omega)
    obtain ⟨u, hu, ru⟩ := paired_get rel hx
    obtain ⟨b1, b2⟩ := hi i h2 u.1 u.2 (by rw [hu])
    rw [b2]
    refine ⟨⟨_, by rw [List.getElem?_map, hx]; rfl, ?_⟩, _, by rw [List.getElem?_map, hx]; rfl, ru.2⟩
    show RelV (kV l[i].1) es[i].key
    rw [ru.1]
    exact relV_key b1
/-! ### list(d.values()), list(d) -/
def vwO (p d : Addr) : HO := .ext fun h => h.IsValuesView p d
theorem vwO_ok {P : Program} {w : World} {H : Hp} {h : Heap} {p d : Addr} (D : h.IsValuesView p d) : ObjOk P w H h p (vwO p d) :=
  ⟨D, let ⟨o, e, _⟩ := D; ⟨o, e⟩, fun h1 h2 D1 k => let ⟨o, e, r⟩ := D1; ⟨o, k o e, r⟩⟩
def rDVals : V → List V → Hp → VK → Prop := fun x xs H Q => xs = [] ∧ tyDct x H ∧ ∀ a p, x = .ref a → H p = none → Q (.ref p) (upd H p (vwO p a))
theorem mt_dvals : MtR X "dict.values" rDVals := by
  intro pins s σ H x xs v us Q I rx rxs h
  obtain ⟨rfl, ⟨a, rfl, ty⟩, q⟩ := h
  cases rx
  cases rxs
  have key : (a == sysModules) = false ∧ ∃ es ep, s.heap.DictRaw a es ep := by
    rcases ty with ⟨l, e⟩ | ⟨l, e⟩
    · obtain ⟨_, hd, vs, _, o, es, ep, h1, h2, h3, _⟩ := dk_rd I.hok e
      exact ⟨hd, es, ep, o, h1, h2, h3⟩
    · obtain ⟨D, _⟩ := rd_of I.hok e
      obtain ⟨o, es, ep, h1, h2, h3, _⟩ := D.ob
      exact ⟨D.low, es, ep, o, h1, h2, h3⟩
  obtain ⟨hd, es, ep, hr⟩ := key
  refine call_meetsIn PySem.F.slot_dict_values hr.typeIs PySem.F.entry_dict_values (PySem.F.args_dict_values_1 _) (meets_dict_values_raw a hd) ⟨⟨es, ep, hr⟩, ?_⟩
  refine ⟨.ref s.heap.objs.size, upd H s.heap.objs.size (vwO s.heap.objs.size a), I.laid (t' := s.toks) (fun b u e => Heap.get?_push_of_some _ e) (Nat.le_refl _) (vwO_ok ⟨_, Heap.get?_push_size _ rfl, rfl, rfl⟩), rfl, q a _ rfl (I.hok.fresh (Nat.le_refl _))⟩
def rListV (K : PySem.W.Frag) : List V → Hp → VK → Prop := fun xs H Q => ∃ Hv p a tk kvs, xs = [.ref p] ∧ H p = some (vwO p a) ∧ DctR K Hv H tk a kvs ∧ ∀ l ys, H l = none → DvAll K Hv ys (kvs.map (·.2)) → Q (.ref l) (upd H l (.lst ys))
theorem items_vals {P : Nat → Value → Prop} {acc : Array Value} {n : Nat} {vs : List V} (h : ItemsOf P acc n) (hl : vs.length = n) (hP : ∀ i u, i < n → P i u → ∃ v, vs[i]? = some v ∧ RelV v u) : Vals vs acc.toList := by
  have go : ∀ (us : List Value) (ws : List V), us.length = ws.length → (∀ (i : Nat) u, us[i]? = some u → ∃ v, ws[i]? = some v ∧ RelV v u) → Vals ws us := by
    intro us
    induction us with
    | nil => intro ws hw _; cases ws with
      | nil => exact .nil
      | cons _ _ => simp at hw
    | cons u us ih =>
      intro ws hw hh
      cases ws with
      | nil => simp at hw
      | cons v ws =>
        obtain ⟨v', e, r⟩ := hh 0 u rfl
        simp at e
        subst e
        exact .cons r (ih ws (by simpa using hw) fun i u hu => by
          obtain ⟨v2, e2, r2⟩ := hh (i + 1) u (by simpa using hu)
          exact ⟨v2, by simpa using e2, r2⟩)
  refine go _ _ (by rw [Array.length_toList, h.1, hl]) fun i u hu => ?_
  have hi : i < n := by
    have := (List.getElem?_eq_some_iff.mp hu).1
    rw [Array.length_toList, h.1] at this
    exact this
  exact hP i u hi (h.2 i u (by simpa using hu))
theorem cr_listV (hc : X.calm = true) : CallR X (.type "list") (rListV X.K) := by
  intro pins s σ H xs us Q I r h
  obtain ⟨Hv, p, a, tk, kvs, rfl, hp, hd, q⟩ := h
  rw [Vals.ref1 r]
  obtain ⟨lo, hz, es, ep, ks, vs, hr, hs, dk, dv, ent⟩ := dct_raw I hd
  have hv : s.heap.IsValuesView p a := (I.hok p _ hp).1
  have hlv : vs.length = es.size := by rw [dv.length, List.length_map, hs]
  refine PySem.W.kdl_call (PySem.KdlSrc.rawValues (d := a) (r := p) (es := es) (ep := ep)) (I.ok.hd hc) ⟨hv, hr⟩ (by rw [hs]; exact hz) fun h' t acc c hk hl hacc => ?_
  have I1 : Inv X pins σ H { s with heap := h' } := I.kept (t' := s.toks) hk
  have vv := items_vals hacc hlv fun i u hi ⟨h2, e⟩ => by
    subst e
    exact (ent i h2).2
  refine ⟨.ref s.heap.objs.size, upd H s.heap.objs.size (.lst vs), ?_, rfl, q _ vs (I.hok.fresh (Nat.le_refl _)) dv⟩
  exact I.laid (a := s.heap.objs.size) (t' := t) hk (Nat.le_refl _) ⟨by rw [hlv, hs]; exact hz, acc.toList, c, vv, by rw [hl]⟩
def fDVals (a : DTE) : DTF := fun env κ => a env fun o => ∃ tk kvs, o.get env = some (dctD tk kvs) ∧ κ (kvs.map (·.2))
theorem fv_dvals {x : Str} {o : Expr} {a : DTE} {p pos apos cpos : Pos} (hc : X.calm = true) (hm : X.mg x = none) (ho : EV X o a) (hv : bootBuiltins x = some (.type "list")) (hg : Gl X x := by rfl) (hn : x ≠ "__name__" := by decide) (hdb : (x == ("__debug__" : Str)) = false := by decide)
    (hbase : attributeBase o "values" X.env (eval o X.env) = eval o X.env := by rfl) (hline : (apos.endLine == cpos.line) = true := by rfl)
    (h2 : starEach [.Call (.Attribute o "values" apos) [] [] cpos] X.env = (false, eval (.Call (.Attribute o "values" apos) [] [] cpos) X.env) :: starEach [] X.env := by rfl) (hpl : (backTo pos (starEach ([] : List Expr) X.env)).any (·.1) = false := by rfl) :
    FV X (.Call (.Name x p) [.Call (.Attribute o "values" apos) [] [] cpos] [] pos) (fDVals a) := by
  refine PE.imp (pe_callTy (cr_listV hc) hg hm hv (pa_cons (pe_mG0 ty_dct PySem.F.plainAttrs_dict PySem.F.slot_dict_values PySem.F.type_dict_values mt_dvals ho hbase hline) pa_nil h2) hn hdb h2 hpl) fun σ H Q ⟨P, M, env, κ, R, w, k⟩ => ?_
  refine ⟨P, M, env, _, R, w, fun v H1 o s1 R1 o1 ⟨tk, kvs, e1, w1⟩ => ?_⟩
  obtain ⟨q, rfl, q1⟩ := (o1.rd R1 e1).dct
  refine ⟨q1.ty, rfl, q1.ty, fun a' p e hp => ?_⟩
  cases e
  have sm := same_new (o := vwO p q) hp
  refine ⟨hid M (upd H1 p (vwO p q)), p, q, tk, kvs, rfl, upd_same, q1.mono sm (hid_mono sm), fun l ys hl dv => ?_⟩
  exact k l ys _ _ (s1.trans (SameP.of sm)) (R1.same sm) hl dv w1
end
end DL

namespace DL
open PySem L2
variable {K : PySem.W.Frag}
/-! ### what was locked is open again -/
def SameU (H H' : Hp) : Prop := ∀ b o, H b = some o → H' b = some o ∨ ∃ ob u, o = .frz ob u ∧ H' b = some u ∧ ∀ xs, u ≠ .tup xs
theorem rd_U {H H' : Hp} {a : Addr} {o : HO} (s : SameU H H') (h : Rd H a o) (n : ∀ ob u, o ≠ .frz ob u) : Rd H' a o := by
  rcases h with h | ⟨ob, h⟩
  · rcases s _ _ h with h' | ⟨ob, u, e, _⟩
    · exact .inl h'
    · exact absurd e (n _ _)
  · rcases s _ _ h with h' | ⟨ob', u, e, h', _⟩
    · exact .inr ⟨ob, h'⟩
    · cases e; exact .inl h'
mutual
theorem Dv.monoU {H H' : Hp} (s : SameU H H') : ∀ {v : V} {d : D}, Dv K H v d → Dv K H' v d
  | _, _, .non => .non
  | _, _, .bl b => .bl b
  | _, _, .int i => .int i
  | _, _, .str x => .str x
  | _, _, .lst e a => .lst (by
      rcases s _ _ e with h | ⟨_, _, h, _⟩
      · exact h
      · cases h) (DvAll.monoU s a)
  | _, _, .tup e z a => .tup (by
      rcases s _ _ e with h | ⟨_, u, h, _, h3⟩
      · exact h
      · cases h; exact absurd rfl (h3 _)) z (DvAll.monoU s a)
  | _, _, .dcK e a => .dcK (rd_U s e (fun _ _ z => by cases z)) (KvI.monoU s a)
  | _, _, .dcX e a => .dcX (rd_U s e (fun _ _ z => by cases z)) (KvX.monoU s a)
  | _, _, .rng e => .rng (by
      rcases s _ _ e with h | ⟨_, _, h, _⟩
      · exact h
      · cases h)
  | _, _, .obj e a => .obj (by
      rcases s _ _ e with h | ⟨_, _, h, _⟩
      · exact h
      · cases h) (KvF.monoU s a)
theorem DvAll.monoU {H H' : Hp} (s : SameU H H') : ∀ {vs : List V} {ds : List D}, DvAll K H vs ds → DvAll K H' vs ds
  | _, _, .nil => .nil
  | _, _, .cons a b => .cons (Dv.monoU s a) (DvAll.monoU s b)
theorem KvI.monoU {H H' : Hp} (s : SameU H H') : ∀ {l : List (Key × V)} {m : List (D × D)}, KvI K H l m → KvI K H' l m
  | _, _, .nil => .nil
  | _, _, .cons r t => .cons (Dv.monoU s r) (KvI.monoU s t)
theorem KvX.monoU {H H' : Hp} (s : SameU H H') : ∀ {l : Ents} {m : List (D × D)}, KvX K H l m → KvX K H' l m
  | _, _, .nil => .nil
  | _, _, .cons r k e q t => .cons (Dv.monoU s r) k e (Dv.monoU s q) (KvX.monoU s t)
theorem KvF.monoU {H H' : Hp} (s : SameU H H') : ∀ {l : List (Str × V)} {m : List (D × D)}, KvF K H l m → KvF K H' l m
  | _, _, .nil => .nil
  | _, _, .cons r t => .cons (Dv.monoU s r) (KvF.monoU s t)
end
theorem hid_U {M : Hid} {H H' : Hp} (s : SameU H H') : SameU (hid M H) (hid M H') := fun b o e => by
  obtain ⟨e1, e2⟩ := hid_some.mp e
  rcases s b o e2 with h | ⟨ob, u, h1, h2, h3⟩
  · exact .inl (hid_some.mpr ⟨e1, h⟩)
  · exact .inr ⟨ob, u, h1, hid_some.mpr ⟨e1, h2⟩, h3⟩
theorem unl_U {H : Hp} {a : Addr} {od : Obj} {u : HO} (e : H a = some (.frz od u)) (n : ∀ xs, u ≠ .tup xs) : SameU H (upd H a u) := fun b o h => by
  by_cases hb : b = a
  · subst hb
    rw [e] at h
    cases h
    exact .inr ⟨od, u, rfl, upd_same, n⟩
  · exact .inl (by rw [upd_ne hb]; exact h)
theorem Rel.unlock {P : Option Addr} {M : Hid} {σ : St} {H : Hp} {env : DEnv} {a : Addr} {od : Obj} {u : HO} (R : Rel K P M σ H env) (e : H a = some (.frz od u)) (n : ∀ xs, u ≠ .tup xs) : Rel K P M σ (upd H a u) env := by
  have sU := unl_U e n
  have nz : ∀ {b : Addr} {o : HO}, H b = some o → (∀ ob v, o ≠ .frz ob v) → upd H a u b = some o := fun {b o} h1 h2 => by
    by_cases hb : b = a
    · subst hb; rw [e] at h1; cases h1; exact absurd rfl (h2 _ _)
    · rw [upd_ne hb]; exact h1
  refine ⟨R.len, fun i s h => ?_, R.own, R.sep, fun b h1 h2 => ?_, fun p h => ?_⟩
  · have q := R.slot i s h
    cases s with
    | un => trivial
    | im d => obtain ⟨v, e1, r⟩ := q; exact ⟨v, e1, r.monoU (hid_U sU)⟩
    | ml b ds => obtain ⟨e1, vs, r, q⟩ := q; exact ⟨e1, vs, nz r (fun _ _ z => by cases z), q.monoU (hid_U sU)⟩
    | md tk b kvs =>
      obtain ⟨e1, r⟩ := q
      refine ⟨e1, ?_⟩
      unfold DctAt at r ⊢
      split
      · rename_i c
        rw [if_pos c] at r
        obtain ⟨l, r1, r2⟩ := r
        exact ⟨l, nz r1 (fun _ _ z => by cases z), r2.monoU (hid_U sU)⟩
      · rename_i c
        rw [if_neg c] at r
        obtain ⟨l, r1, r2⟩ := r
        exact ⟨l, nz r1 (fun _ _ z => by cases z), r2.monoU (hid_U sU)⟩
    | pl => exact q
  · by_cases hb : b = a
    · subst hb; rw [upd_same] at h2; cases h2
    · rw [upd_ne hb] at h2; exact R.trk b h1 h2
  · obtain ⟨m, q, ns, i, c, k, z, h1, h2, r⟩ := R.pool p h
    exact ⟨m, q, ns, i, c, k, z, nz h1 (fun _ _ z => by cases z), h2.monoU (hid_U sU), r⟩
theorem RelS.unlock {P : Option Addr} {M0 : Hid} {He H : Hp} {σ : St} {env : DEnv} {a : Addr} {od : Obj} {u : HO} (R : RelS K P M0 He σ H env) (e : H a = some (.frz od u)) (n : ∀ xs, u ≠ .tup xs) (hn : He a = none) : RelS K P M0 He σ (upd H a u) env := by
  obtain ⟨M, r, h0, h1⟩ := R.rel
  refine ⟨⟨M, r.unlock e n, h0, h1⟩, fun b o hP h => ?_, R.mine, R.trk⟩
  rw [upd_ne (ne_of_none h hn)]
  exact R.same b o hP h
/-! ### for k in d -/
def Itx (d : Addr) (od : Obj) (u : HO) (ks : List V) : It :=
  ⟨fun i H => H d = some (.frz od u) ∧ i < ks.length, fun i H x H' => H' = H ∧ ks[i]? = some x, fun i H => H d = some (.frz od u) ∧ ks.length ≤ i⟩
section
variable {X : Cx}
theorem turn_x {P : Program} {w : World} {tg : Expr} {d : Addr} {od : Obj} {u : HO} {ks : List V} {es : Array DictEntry} {ep : Nat} (it : Addr) (hod : od.data = .dict es ep) (hsz : es.size = ks.length) (hk : ∀ i (hi : i < es.size), ∃ k, ks[i]? = some k ∧ RelV k es[i].key) :
    Turn P w K tg (Itx d od u ks) [it] it (fun i h => h.IsKeyIter it d i ks.length ep) where
  mem := by simp
  obj := fun i h st b hb => by
    have e : b = it := by simpa using hb
    subst e
    obtain ⟨oi, e, c, dd⟩ := st
    exact ⟨oi, e, fun v z => by rw [dd] at z; cases z⟩
  keep := fun i h h' st k => st.at fun oi e => k it (by simp) oi e
  item := by
    intro X hP hw hK hc i pins s σ H E I hf st hg
    subst hP hw hK
    obtain ⟨hd, hi⟩ := hg
    obtain ⟨f0, f1, f2, f3, f4, f5⟩ := hf it (by simp)
    have hgd := (I.hok d _ hd).1
    have hi2 : i < es.size := by omega
    obtain ⟨k, hk1, hk2⟩ := hk i hi2
    refine next_key_item st hgd hod hsz (Array.getElem?_eq_getElem hi2) fun h' st' sb => ?_
    have I1 : Inv X pins σ H { s with heap := h' } := I.turned (t' := s.toks) (fun b ob hb e => (sb.2 b hb).trans e) f0 f1 f3 f4 f5
    obtain ⟨oi, e, c, dd⟩ := id st'
    exact ⟨es[i].key, rfl, go_of (s := { s with heap := h' }) e c dd (by decide) ⟨k, H, I1, hk2, ⟨rfl, hk1⟩, st', fun b hb => (hf b hb).1⟩⟩
  done := by
    intro X hP hw hK hc i pins s σ H E I hf st hg
    subst hP hw hK
    obtain ⟨hd, hi⟩ := hg
    obtain ⟨f0, f1, f2, f3, f4, f5⟩ := hf it (by simp)
    have hgd := (I.hok d _ hd).1
    exact next_key_end (I.ok.hd hc) st hgd hod hsz hi fun h' eb => ⟨rfl, I.turned (t' := s.toks) (fun b ob hb e => eb b ob hb e) f0 f1 f3 f4 f5⟩
  self := fun A i s Q E st h => wpAny_pyIter_keyiter st h
def iKeysX (K : PySem.W.Frag) (td : TE) : TI := fun σ H R => td σ H fun x H1 => ∃ d od u Hv tk kvs, x = .ref d ∧ H1 d = some (.frz od u) ∧ DctR K Hv H1 tk d kvs ∧ ∀ ks, DvAll K Hv ks (kvs.map (·.1)) → R (Itx d od u ks) H1
theorem pi_keysX {tg e : Expr} {td : TE} (he : PE X e td) : PI X tg e (iKeysX X.K td) := by
  refine ⟨fun pins s σ H R I h => ?_⟩
  refine thn (he.run pins s σ H _ I h) fun v s1 ⟨x, H1, I1, rx, d, od, u, Hv, tk, kvs, ex, hd, D, q⟩ => ?_
  subst ex
  obtain rfl : v = Value.ref d := rx
  obtain ⟨hs, hz, es, ep, ks, vs, ⟨o, ho, hx, hdt⟩, hsz, dk, dv, ent⟩ := dct_raw I1 D
  have hgd := (I1.hok d _ hd).1
  rw [ho] at hgd
  cases hgd
  have hlk : es.size = ks.length := by rw [hsz, dk.length, List.length_map]
  refine iter_keys hs ho hx hdt (pi_one (tk := s1.toks) I1 _ (turn_x _ hdt hlk fun i hi => (ent i hi).1) ⟨_, Heap.get?_push_size _ rfl, rfl, ?_⟩ (q ks dk))
  rw [hlk] <;> rfl
def wForK (i : Nat) (γ : DTG) (b : DTS) : DTS := fun δ env => ∃ tk a kvs, env[i]? = some (.md tk a kvs) ∧ forW γ b δ (kvs.map (·.1)) (env.set i (.im (dctD tk kvs)))
theorem PoolAt.mono2 {M M' : Hid} {H H' : Hp} {p : Addr} (h : PoolAt K M H p) (e : H' p = H p) (s : Same (hid M H) (hid M' H')) : PoolAt K M' H' p := by
  obtain ⟨q, ns, i, c, n, z, h1, h2, r⟩ := h
  exact ⟨q, ns, i, c, n, z, by rw [e]; exact h1, h2.mono s, r⟩
theorem SlotR.mono2 {P : Option Addr} {M M' : Hid} {H H' : Hp} {s : Option (Option V)} {t : Sl} (h : SlotR K P M H s t) (h1 : ∀ a o, ownA t = some a → H a = some o → H' a = some o) (h2 : Same (hid M H) (hid M' H')) : SlotR K P M' H' s t := by
  cases t with
  | un => trivial
  | im d => obtain ⟨v, e, r⟩ := h; exact ⟨v, e, r.mono h2⟩
  | ml a ds => obtain ⟨e, vs, r, q⟩ := h; exact ⟨e, vs, h1 a _ rfl r, q.mono h2⟩
  | md tk a kvs => obtain ⟨e, r⟩ := h; exact ⟨e, r.mono (fun o => h1 a o rfl) h2⟩
  | pl => exact h
theorem Rel.lock {P : Option Addr} {M : Hid} {σ : St} {H : Hp} {env : DEnv} {i : Nat} {tk : Bool} {a : Addr} {kvs : List (D × D)} {od : Obj} {u : HO} (r : Rel K P M σ H env) (e0 : env[i]? = some (.md tk a kvs)) (hD : DctR K (hid M H) (upd H a (.frz od u)) tk a kvs) :
    Same (hid M H) (hid (fun c => M c && c != a) (upd H a (.frz od u))) ∧ Rel K P (fun c => M c && c != a) σ (upd H a (.frz od u)) (env.set i (.im (dctD tk kvs))) := by
  have hi : i < env.length := (List.getElem?_eq_some_iff.mp e0).1
  obtain ⟨y1, _⟩ := r.slot i _ e0
  have hM := (r.own i _ a e0 rfl).1
  have hP := (r.own i _ a e0 rfl).2
  have sH : Same (hid M H) (hid (fun c => M c && c != a) (upd H a (.frz od u))) := fun c o e => by
    obtain ⟨e1, e2⟩ := hid_some.mp e
    have hc : c ≠ a := fun z => by subst z; rw [hM] at e1; cases e1
    exact hid_some.mpr ⟨by simp [e1], by rw [upd_ne hc]; exact e2⟩
  have at_ : ∀ (j : Nat) s, (env.set i (.im (dctD tk kvs)))[j]? = some s → (j = i ∧ s = .im (dctD tk kvs)) ∨ (j ≠ i ∧ env[j]? = some s) := fun j s e => by
    by_cases hj : i = j
    · subst hj
      rw [List.getElem?_set_self hi] at e; cases e; exact .inl ⟨rfl, rfl⟩
    · rw [List.getElem?_set_ne hj] at e; exact .inr ⟨Ne.symm hj, e⟩
  refine ⟨sH, by rw [List.length_set]; exact r.len, fun j s e => ?_, fun j s b e q => ?_, fun j k s t b e1 e2 q1 q2 => ?_, fun b e q => ?_, fun p e => ?_⟩
  · rcases at_ j s e with ⟨rfl, rfl⟩ | ⟨hj, e'⟩
    · refine ⟨.ref a, y1, ?_⟩
      have sh : hid (fun c => M c && c != a) (upd H a (.frz od u)) a = some (.frz od u) := hid_some.mpr ⟨by simp, upd_same⟩
      unfold DctR at hD
      have fz : ∀ {v : HO}, Rd (upd H a (.frz od u)) a v → (∀ ob z, v ≠ .frz ob z) → Rd (hid (fun c => M c && c != a) (upd H a (.frz od u))) a v := fun {v} h nz => by
        rcases h with h | ⟨ob, h⟩
        · rw [upd_same] at h; cases h; exact absurd rfl (nz _ _)
        · rw [upd_same] at h; cases h; exact .inr ⟨od, sh⟩
      split at hD
      · rename_i c
        subst c
        obtain ⟨l, z1, z2⟩ := hD
        exact .dcX (fz z1 (fun _ _ z => by cases z)) (z2.mono sH)
      · rename_i c
        cases tk with
        | true => exact absurd rfl c
        | false =>
          obtain ⟨l, z1, z2⟩ := hD
          exact .dcK (fz z1 (fun _ _ z => by cases z)) (z2.mono sH)
    · refine SlotR.mono2 (r.slot j s e') (fun b o q1 q2 => ?_) sH
      rw [upd_ne (fun z => hj (r.sep j i s _ a e' e0 (by rw [q1, z]) rfl))]
      exact q2
  · rcases at_ j s e with ⟨rfl, rfl⟩ | ⟨hj, e'⟩
    · cases q
    · have hb : b ≠ a := fun z => hj (r.sep j i s _ a e' e0 (by rw [q, z]) rfl)
      exact ⟨by simp [(r.own j s b e' q).1, hb], (r.own j s b e' q).2⟩
  · rcases at_ j s e1 with ⟨rfl, rfl⟩ | ⟨hj, e1'⟩
    · cases q1
    · rcases at_ k t e2 with ⟨rfl, rfl⟩ | ⟨hk, e2'⟩
      · cases q2
      · exact r.sep j k s t b e1' e2' q1 q2
  · simp at e
    rw [upd_ne e.2] at q
    exact r.trk b e.1 q
  · have hp : p ≠ a := fun z => hP (by rw [e, z])
    exact ⟨by simp [(r.pool p e).1, hp], (r.pool p e).2.mono2 (by rw [upd_ne hp]) sH⟩
theorem sv_forK {x : Str} {tg : Expr} {px : Pos} {body : List Stmt} {g : TG} {γ : DTG} {b : DTS} {vs : List Nat} {pos : Pos} (i : Nat) (hp : PassesOwn (model X.prog X.w) X.A X.env X.xe) (hc : X.calm = true) (gs : GSem X.K g γ vs) (ho : PE X (.Name x px) (tVar i)) (hg : PG X tg g) (hb : SVs X body b)
    (hs : ∀ y, foldedSetIterable (.Name x px) X.env y = pure y := by intro _; rfl) : SV X (.For tg (.Name x px) body [] pos) (wForK i γ b) := by
  refine PS.imp (ps_lock (ps_for hp hc (pi_keysX ho) hg hb hs)) fun D0 σ H ⟨P, M0, He, δ, env, R, E, w⟩ => ?_
  obtain ⟨tk, a, kvs, e0, w⟩ := w
  obtain ⟨M, r, h0, h1⟩ := R.rel
  obtain ⟨y1, y2⟩ := r.slot i _ e0
  have hea : He a = none := R.mine i _ a e0 rfl
  have hM0 : M0 a = false := by
    cases z : M0 a with
    | false => rfl
    | true => exact absurd hea (R.trk a z)
  have hu : ∃ u, H a = some u ∧ Mut (some u) ∧ (∀ xs, u ≠ .tup xs) ∧ ∀ od, DctR X.K (hid M H) (upd H a (.frz od u)) tk a kvs := by
    unfold DctAt at y2
    split at y2
    · rename_i c
      obtain ⟨l, q1, q2⟩ := y2
      exact ⟨_, q1, True.intro, (fun _ z => by cases z), fun od => by unfold DctR; rw [if_pos c]; exact ⟨l, .inr ⟨od, upd_same⟩, q2⟩⟩
    · rename_i c
      obtain ⟨l, q1, q2⟩ := y2
      exact ⟨_, q1, True.intro, (fun _ z => by cases z), fun od => by unfold DctR; rw [if_neg c]; exact ⟨l, .inr ⟨od, upd_same⟩, q2⟩⟩
  obtain ⟨u, hua, mu, nt, hD⟩ := hu
  refine ⟨a, u, hua, mu, fun od => ?_⟩
  obtain ⟨sH, r1⟩ := r.lock e0 (hD od)
  have h0' : ∀ c, M0 c = true → (M c && c != a) = true := fun c e => by
    have : c ≠ a := fun z => by subst z; rw [hM0] at e; cases e
    simp [h0 c e, this]
  have h1' : ∀ c, (M c && c != a) = true → M0 c = true ∨ He c = none := fun c e => by
    simp at e
    exact h1 c e.1
  have R1 : RelS X.K P M0 He σ (upd H a (.frz od u)) (env.set i (.im (dctD tk kvs))) := ⟨⟨_, r1, h0', h1'⟩, fun c o hP e => by rw [upd_ne (ne_of_none e hea)]; exact R.same c o hP e, fun j s c e q => R.mine j s c (set_own j s c e q) q, R.trk⟩
  obtain ⟨He', Rb, back, low⟩ := R1.rebase r1 h0' h1'
  have fr : ∀ {H' : Hp}, Same (hid (fun c => M c && c != a) (upd H a (.frz od u))) (hid (fun c => M c && c != a) H') → H' a = some (.frz od u) := fun {H'} st => (hid_some.mp (st a _ (hid_some.mpr ⟨by simp, upd_same⟩))).2
  generalize hk : kvs.map (·.1) = ds at w
  refine ⟨.ref a, y1, a, od, u, hid M H, tk, kvs, rfl, upd_same, hD od, fun ks dk => ?_⟩
  rw [hk] at dk
  have E' : EndsR X.K P M0 He' ⟨fun σ' H' => H' a = some (.frz od u) ∧ D0.nx σ' (upd H' a u), fun v H' => H' a = some (.frz od u) ∧ D0.rt v (upd H' a u), fun σ' H' => H' a = some (.frz od u) ∧ D0.bk σ' (upd H' a u), fun σ' H' => H' a = some (.frz od u) ∧ D0.ct σ' (upd H' a u)⟩ δ :=
    ⟨fun σ' H' e q z => ⟨fr (back _ _ _ q).2, E.nx _ _ _ ((back _ _ _ q).1.unlock (fr (back _ _ _ q).2) nt hea) z⟩,
     fun v σ' H' e d q rv z => ⟨fr (back _ _ _ q).2, E.rt _ _ _ _ _ ((back _ _ _ q).1.unlock (fr (back _ _ _ q).2) nt hea) (rv.monoU (hid_U (unl_U (fr (back _ _ _ q).2) nt))) z⟩,
     fun σ' H' e q z => ⟨fr (back _ _ _ q).2, E.bk _ _ _ ((back _ _ _ q).1.unlock (fr (back _ _ _ q).2) nt hea) z⟩,
     fun σ' H' e q z => ⟨fr (back _ _ _ q).2, E.ct _ _ _ ((back _ _ _ q).1.unlock (fr (back _ _ _ q).2) nt hea) z⟩⟩
  have hlen : ks.length = ds.length := dk.length
  refine ⟨fun i n σ' H' => n = ds.length - i ∧ i ≤ ds.length ∧ ∃ e, RelS X.K P M0 He' σ' H' e ∧ forW γ b δ (ds.drop i) e, ⟨_, rfl, Nat.zero_le _, _, Rb, by simpa using w⟩, ?_⟩
  rintro i n σ2 H2 ⟨rfl, hi, e, R2, w2⟩
  have st := (back _ _ _ R2).2
  by_cases hlt : i < ds.length
  · refine .inr ⟨⟨fr st, by omega⟩, fun σ' H' => i + 1 ≤ ds.length ∧ ∃ e, RelS X.K P M0 He' σ' H' e ∧ forW γ b δ (ds.drop (i + 1)) e, fun σ' H' q => ⟨ds.length - (i + 1), by omega, rfl, q.1, q.2⟩, fun x H3 y => ?_⟩
    obtain ⟨e3, hx⟩ := y
    subst e3
    obtain ⟨d', e4, rx⟩ := dk.get' i hx
    have e5 : d' = ds[i] := by
      rw [List.getElem?_eq_getElem hlt] at e4
      exact (Option.some.inj e4).symm
    subst e5
    rw [List.drop_eq_getElem_cons hlt] at w2
    obtain ⟨M2, r2, h02, h12⟩ := R2.rel
    have rx1 := Dv.mono sH _ _ rx
    have rx2 : Dv X.K (hid M2 H3) x ds[i] := Dv.mono (fun c o e => by
      obtain ⟨e1, e2⟩ := hid_some.mp e
      refine hid_some.mpr ⟨?_, (hid_some.mp (st c o e)).2⟩
      cases z : M2 c with
      | false => rfl
      | true =>
        rcases h12 c z with q | q
        · rw [h0' c q] at e1; cases e1
        · have k := low c o e1 e2
          rw [q] at k; cases k) _ _ rx1
    refine gs P M2 σ2 H3 e x ds[i] _ _ r2 rx2 w2 fun σ4 e4 R4 _ own w4 => ?_
    exact ⟨P, M0, He', { nx := forW γ b δ (ds.drop (i + 1)), rt := δ.rt, ct := forW γ b δ (ds.drop (i + 1)), bk := δ.nx }, e4, R2.sub h02 h12 R4 own, ⟨fun σ' H' e' R5 q => ⟨hlt, e', R5, q⟩, E'.rt, E'.nx, fun σ' H' e' R5 q => ⟨hlt, e', R5, q⟩⟩, w4⟩
  · have ei : i = ds.length := by omega
    subst ei
    rw [List.drop_length] at w2
    exact .inl ⟨⟨fr st, by omega⟩, E'.nx _ _ _ R2 w2⟩
end
end DL

namespace DL
open PySem L2
variable {K : PySem.W.Frag}
/-! ### x, y = [..], [..]: two lists of one's own -/
/-- a hidden thing of nobody becomes one's own -/
theorem Rel.adopt {P : Option Addr} {M : Hid} {σ : St} {H : Hp} {env : DEnv} (R : Rel K P M σ H env) (i : Nat) {p : Addr} {s : Sl} (hM : M p = true) (hP : P ≠ some p) (hn : ∀ (j : Nat) t, env[j]? = some t → ownA t ≠ some p) (hs : ownA s = some p) (sl : SlotR K P M H (some (some (.ref p))) s) :
    Rel K P M (σ.set i (some (.ref p))) H (env.set i s) := by
  have at_ : ∀ (j : Nat) t, (env.set i s)[j]? = some t → (j = i ∧ t = s ∧ i < env.length) ∨ (j ≠ i ∧ env[j]? = some t) := fun j t e => by
    by_cases hj : i = j
    · subst hj
      by_cases hl : i < env.length
      · rw [List.getElem?_set_self hl] at e; cases e; exact .inl ⟨rfl, rfl, hl⟩
      · rw [List.getElem?_eq_none (by rw [List.length_set]; omega)] at e; cases e
    · rw [List.getElem?_set_ne hj] at e; exact .inr ⟨Ne.symm hj, e⟩
  refine ⟨by rw [List.length_set, List.length_set]; exact R.len, fun j t e => ?_, fun j t a e q => ?_, fun j k t u a e1 e2 q1 q2 => ?_, R.trk, R.pool⟩
  · rcases at_ j t e with ⟨rfl, rfl, hl⟩ | ⟨hj, e'⟩
    · rw [List.getElem?_set_self (by rw [R.len]; exact hl)]
      exact sl
    · rw [List.getElem?_set_ne (Ne.symm hj)]
      exact R.slot j t e'
  · rcases at_ j t e with ⟨rfl, rfl, hl⟩ | ⟨hj, e'⟩
    · rw [hs] at q; cases q; exact ⟨hM, hP⟩
    · exact R.own j t a e' q
  · rcases at_ j t e1 with ⟨rfl, rfl, hl⟩ | ⟨hj, e1'⟩
    · rw [hs] at q1; cases q1
      rcases at_ k u e2 with ⟨rfl, _, _⟩ | ⟨hk, e2'⟩
      · rfl
      · exact absurd q2 (hn k u e2')
    · rcases at_ k u e2 with ⟨rfl, rfl, _⟩ | ⟨hk, e2'⟩
      · rw [hs] at q2; cases q2
        exact absurd q1 (hn j t e1')
      · exact R.sep j k t u a e1' e2' q1 q2
section
variable {X : Cx}
def wParL (i j : Nat) (φ ψ : DTF) : DTS := fun δ env => φ env fun ds => ψ env fun es => ∀ a b, δ.nx ((env.set i (.ml a ds)).set j (.ml b es))
theorem sv_parL {x y : Str} {e1 e2 : Expr} {φ ψ : DTF} {px py pt : Pos} {kt k2 pt2 : _} {pos : Pos} (i j : Nat) (hc : X.calm = true) (hN : X.N.Nodup) (hij : i ≠ j) (h1 : FV X e1 φ) (h2 : FV X e2 ψ) (hw : swappedStores [.Tuple [.Name x px, .Name y py] kt pt] (.Tuple [e1, e2] k2 pt2) X.env = pure (some [x, y]))
    (hi : X.N[i]? = some x := by rfl) (hj : X.N[j]? = some y := by rfl) (hx : X.env.scope.names.lookup x = some .local := by rfl) (hy : X.env.scope.names.lookup y = some .local := by rfl)
    (hs : swapsWithSole [.Tuple [.Name x px, .Name y py] kt pt] (.Tuple [e1, e2] k2 pt2) pos.line X.env = pure false := by rfl)
    (s1 : starEach [e1, e2] X.env = (false, eval e1 X.env) :: starEach [e2] X.env := by rfl) (s2 : starEach [e2] X.env = (false, eval e2 X.env) :: starEach [] X.env := by rfl) :
    SV X (.Assign [.Tuple [.Name x px, .Name y py] kt pt] (.Tuple [e1, e2] k2 pt2) pos) (wParL i j φ ψ) := by
  refine PS.imp (ps_par hc hN hi hj hij hx hy (pa_cons h1 (pa_cons h2 pa_nil s2) s1) hw hs) fun D0 σ H ⟨P, M0, He, δ, env, R, E, w⟩ => ?_
  obtain ⟨M, r, h0, h1⟩ := R.rel
  refine ⟨P, M, env, _, r, w, fun p vs H1 ds s1 R1 hp q w1 => ?_⟩
  have R' := R.step h0 h1 s1 R1
  have nP : P ≠ some p := fun q => R1.trk p (R1.pool p q).1 hp
  have nO : ∀ (j : Nat) s, env[j]? = some s → ownA s ≠ some p := fun j s e q => R1.trk p (R1.own j s p e q).1 hp
  have hep : He p = none := by
    cases z : He p with
    | none => rfl
    | some o => rw [R'.same p o nP z] at hp; cases hp
  have r2 := R1.hide (o := .lst vs) hp
  refine ⟨P, more M p, env, _, r2, w1, fun p2 us H2 es s2 R2 hp2 q2 w2 => ⟨_, _, rfl, ?_⟩⟩
  have hl : H2 p = some (.lst vs) := s2 _ _ nP upd_same
  have hpP : ∀ q, P = some q → more M p q = true := fun q e => more_of (R1.pool q e).1
  have dv : DvAll X.K (hid (more M p) H2) vs ds := by
    refine DvAll.mono (s2.hid hpP) _ _ ?_
    rw [hid_more_upd hp]; exact q
  have r3 := R2.adopt i (s := .ml p ds) more_self nP nO rfl ⟨rfl, vs, hl, dv⟩
  have m0 : ∀ c, M0 c = true → more M p c = true := fun c e => more_of (h0 c e)
  have m1 : ∀ c, more M p c = true → M0 c = true ∨ He c = none := fun c e => by
    by_cases hc : c = p
    · subst hc; exact .inr hep
    · rw [more_ne hc] at e; exact h1 c e
  have R3 : RelS X.K P M0 He (σ.set i (some (.ref p))) H2 (env.set i (.ml p ds)) := ⟨⟨_, r3, m0, m1⟩, fun c o hP e => s2 c o hP (by rw [upd_ne (ne_of_none e hep)]; exact R'.same c o hP e), fun k s c e z => by
    by_cases hk : i = k
    · subst hk
      by_cases hl : i < env.length
      · rw [List.getElem?_set_self hl] at e; cases e; cases z; exact hep
      · rw [List.getElem?_eq_none (by rw [List.length_set]; omega)] at e; cases e
    · rw [List.getElem?_set_ne hk] at e
      exact R.mine k s c e z, R.trk⟩
  exact E.nx _ _ _ (R3.setO r3 m0 m1 j (s := .ml p2 es) hp2 rfl ⟨rfl, us, upd_same, by rw [hid_more_upd hp2]; exact q2⟩) (w2 p p2)
/-! ### text.join(xs) -/
end
end DL

namespace DL
open PySem L2
variable {K : PySem.W.Frag}
/-! ### a range in a name -/
def rgD (lo hi : Int) : D := .dict [(.int lo, .int hi)]
section
variable {X : Cx}
theorem cr_range1 : CallR X (.type "range") (fun vs H Q => ∃ j, vs = [V.int j] ∧ ∀ p, H p = none → Q (.ref p) (upd H p (.rng 0 j))) := by
  intro pins s σ H vs us Q I r h
  obtain ⟨j, rfl, q⟩ := h
  cases r with
  | cons r rr =>
    cases rr
    obtain ⟨t, rfl⟩ := r
    refine PySem.call_range_1 ⟨.ref s.heap.objs.size, upd H s.heap.objs.size (.rng 0 j), I.laid (t' := s.toks + 1 + 1) (fun b o e => Heap.get?_push_of_some _ e) (Nat.le_refl _) ?_, rfl, q _ (I.hok.fresh (Nat.le_refl _))⟩
    exact ⟨_, _, _, Heap.get?_push_size _ rfl⟩
def RngR : List D → D → Prop := fun ds z => ∃ j, ds = [.int j] ∧ z = rgD 0 j
theorem sem_rng : CallSem K (fun vs H Q => ∃ j, vs = [V.int j] ∧ ∀ p, H p = none → Q (.ref p) (upd H p (.rng 0 j))) RngR := by
  intro M H vs ds z Q t h hz q
  obtain ⟨j, rfl, rfl⟩ := hz
  cases h with
  | cons a b =>
    cases b
    rw [DvM.int a]
    refine ⟨j, rfl, fun p hp => q _ _ (same_new hp) (.rng (hid_some.mpr ⟨?_, upd_same⟩))⟩
    cases e : M p with
    | false => rfl
    | true => exact absurd hp (t p e)
theorem pi_rngV {tg l : Expr} {tl : TE} (hl : PE X l tl) : PI X tg l (fun σ H R => tl σ H fun x H1 => ∃ a lo hi, x = .ref a ∧ H1 a = some (.rng lo hi) ∧ -(2 ^ 62) ≤ lo ∧ lo < 2 ^ 62 ∧ -(2 ^ 62) ≤ hi ∧ hi < 2 ^ 62 ∧ R (Itr lo (hi - lo).toNat) H1) := by
  refine ⟨fun pins s σ H R I h => ?_⟩
  refine thn (hl.run pins s σ H _ I h) fun v s1 ⟨x, H1, I1, r1, q1⟩ => ?_
  obtain ⟨a, lo, hi, e, hq, h1, h2, h3, h4, q⟩ := q1
  subst e
  cases r1
  obtain ⟨t, u, v, ho⟩ : ∃ t u v, s1.heap.get? a = some { cls := .type "range", data := .fields #[.int lo t, .int hi u, .int 1 v] } := I1.hok a _ hq
  refine wpAny_pyIter_range ho (small_one h1 h2 h3 h4) ?_
  refine ⟨s1.heap.objs.size, [s1.heap.objs.size], _, _, H1, rfl, I1.kept (t' := s1.toks) fun b o e => Heap.get?_push_of_some _ e, turn_range _ lo (hi - lo).toNat, ?_, fun b hb => ?_, q⟩
  · have e1 : lo + ((0 : Nat) : Int) * 1 = lo := by simp
    have e2 : (((hi - lo).toNat : Nat) : Int) - ((0 : Nat) : Int) = Builtin.Range.rangeSize lo hi 1 := by rw [rangeSize_one]; split <;> omega
    show IsRangeIter _ _ (lo + ((0 : Nat) : Int) * 1) ((((hi - lo).toNat : Nat) : Int) - ((0 : Nat) : Int)) 1
    rw [e1, e2]
    exact Heap.get?_push_size _ rfl
  · have e : b = s1.heap.objs.size := by simpa using hb
    subst e
    exact I1.fpOk (Nat.le_refl _) (I1.hok.fresh (Nat.le_refl _))
/-- walking a range held in a name -/
def wRngV (a : DTE) : DTI := fun env κ => a env fun o => ∃ lo hi, o = .d (rgD lo hi) ∧ -1000000000 ≤ lo ∧ lo ≤ 1000000000 ∧ -1000000000 ≤ hi ∧ hi ≤ 1000000000 ∧ κ (rangeD lo (hi - lo).toNat)
theorem iv_rngV {tg l : Expr} {a : DTE} (h : EV X l a) : IV X tg l (wRngV a) := by
  refine PI.imp (pi_rngV h) fun σ H Q ⟨P, M, env, κ, R, w, k⟩ => ?_
  refine ⟨P, M, env, _, R, w, fun v H1 o s1 R1 o1 w1 => ?_⟩
  obtain ⟨lo, hi, rfl, h1, h2, h3, h4, w2⟩ := w1
  have o2 : Dv X.K (hid M H1) v (rgD lo hi) := o1
  unfold rgD at o2
  cases o2 with
  | rng e => exact ⟨_, lo, hi, rfl, hid_sub _ _ e, by omega, by omega, by omega, by omega, k _ H1 _ s1 R1 its_range w2⟩
end
/-! ### [e for a in xs for b in ys] -/
def lcA (f : D → List D → (List D → Prop) → Prop) (κ : List D → Prop) : List D → List D → Prop
  | [], acc => κ acc
  | d :: ds, acc => f d acc fun acc' => lcA f κ ds acc'
def el2 (γ : DTG) (t : DTT) (ι1 : DTI) (γ1 : DTG) (t1 : DTT) (e : DTE) (vs1 : List Nat) (env : DEnv) (d : D) (acc : List D) (k : List D → Prop) : Prop :=
  γ d env fun env2 => t env2 fun b => if b = true then ι1 env2 fun ds1 => ds1.length ≤ 1000 ∧ lcW (elW γ1 t1 e (wipeE env2 vs1)) k ds1 acc else k acc
def wLc2 (ι : DTI) (γ : DTG) (t : DTT) (ι1 : DTI) (γ1 : DTG) (t1 : DTT) (e : DTE) (vs vs1 : List Nat) : DTE := fun env κ => ι env fun ds => ds.length ≤ 1000 ∧ lcA (el2 γ t ι1 γ1 t1 e vs1 (wipeE env vs)) (fun ys => κ (.d (.list ys))) ds []
section
variable {X : Cx}
theorem up_lc2 {ι ι1 : DTI} {g g1 : TG} {γ γ1 : DTG} {t t1 : DTT} {e : DTE} {vs vs1 : List Nat} (hg : GSem K g γ vs) (hg1 : GSem K g1 γ1 vs1) :
    ∀ σ H Q, up K (wLc2 ι γ t ι1 γ1 t1 e vs vs1) σ H Q → tLc2 (upIw K ι) g (upT K t) (upI K ι1) g1 (upT K t1) (up K e) vs vs1 σ H Q := by
  intro σ H Q ⟨P, M, env, κ, R0, w, k⟩
  refine ⟨P, M, env, _, R0, w, fun J H1 ds s1 R1 it w1 => ?_⟩
  obtain ⟨hlen, w1⟩ := w1
  intro D0 hD
  have mP : ∀ p, P = some p → M p = true := fun p q => (R1.pool p q).1
  have mO : ∀ (i : Nat) s b, env[i]? = some s → ownA s = some b → M b = true := fun i s b e q => (R1.own i s b e q).1
  have oD : ∀ (i : Nat) s, env[i]? = some s → ownA s ≠ some D0 := fun i s e q => R1.trk D0 (R1.own i s D0 e q).1 hD
  have pD : P ≠ some D0 := fun q => R1.trk D0 (mP D0 q) hD
  have mD : M D0 = false := by
    cases e : M D0 with
    | false => rfl
    | true => exact absurd hD (R1.trk D0 e)
  let St := fun (i : Nat) (H' : Hp) => ∃ acc vacc, H' D0 = some (.lst vacc) ∧ DvAll K (hid (more M D0) H') vacc acc ∧ acc.length ≤ i * 1000 ∧ SameP P H1 H' ∧ Rel K P (more M D0) σ H' env ∧ lcA (el2 γ t ι1 γ1 t1 e vs1 (wipeE env vs)) (fun ys => κ (.d (.list ys))) (ds.drop i) acc
  have s0 : Same H1 (upd H1 D0 (.lst [])) := same_new hD
  refine ⟨fun i m H' => m = ds.length - i ∧ i ≤ ds.length ∧ St i H', ⟨_, rfl, Nat.zero_le _, [], [], upd_same, .nil, Nat.le_refl _, SameP.of s0, R1.hide hD, by simpa using w1⟩, ?_⟩
  rintro i m H2 ⟨rfl, hi, acc, vacc, hA, rA, lA, sA, RA, wA⟩
  by_cases hlt : i < ds.length
  · refine .inr ⟨((it H2 sA i).1 ds[i] (by simp [hlt])).1, fun H' => i + 1 ≤ ds.length ∧ St (i + 1) H', fun H' p => ⟨ds.length - (i + 1), by omega, rfl, p.1, p.2⟩, fun x H3 y => ?_⟩
    obtain ⟨e3, rx⟩ := ((it H2 sA i).1 ds[i] (by simp [hlt])).2 x H3 y
    subst e3
    have hs : Same (hid M H1) (hid (more M D0) H3) := by
      have h1 : Same (hid M H1) (hid (more M D0) (upd H1 D0 (.lst []))) := by rw [hid_more_upd hD]; exact Same.refl _
      refine h1.trans fun a o e => ?_
      obtain ⟨e1, e2⟩ := hid_some.mp e
      refine hid_some.mpr ⟨e1, sA a o (fun q => ?_) ?_⟩
      · rw [more_of (mP a q)] at e1; cases e1
      · have ne : a ≠ D0 := fun q => by subst q; rw [more_self] at e1; cases e1
        rwa [upd_ne ne] at e2
    have wB : el2 γ t ι1 γ1 t1 e vs1 (wipeE env vs) ds[i] acc (fun acc' => lcA (el2 γ t ι1 γ1 t1 e vs1 (wipeE env vs)) (fun ys => κ (.d (.list ys))) (ds.drop (i + 1)) acc') := by
      rw [List.drop_eq_getElem_cons hlt] at wA
      exact wA
    refine hg P (more M D0) _ H3 _ x ds[i] _ _ (RA.wipe vs) (Dv.mono hs _ _ rx) wB fun σ4 env4 R4 hw hown w4 => ?_
    refine ⟨?_, P, more M D0, env4, _, R4, w4, fun b H5 s5 R5 w5 => ?_⟩
    · rw [hw, wipe_wipe]
    have back : ∀ {H' : Hp}, SameP P H3 H' → Rel K P (more M D0) σ4 H' env4 → Rel K P (more M D0) σ H' env := fun {H'} s R' =>
      RA.pooled s fun p e => (R'.pool p e).2
    have mP' : ∀ p, P = some p → more M D0 p = true := fun p q => more_of (mP p q)
    cases b with
    | false =>
      refine iteF ?_
      rw [if_neg (by decide)] at w5
      refine ⟨hlt, acc, vacc, s5 _ _ pD hA, DvAll.mono (s5.hid mP') _ _ rA, by omega, sA.trans s5, back s5 R5, w5⟩
    | true =>
      refine iteT ?_
      rw [if_pos rfl] at w5
      refine ⟨P, more M D0, env4, _, R5, w5, fun J1 H6 ds1 s6 R6 it1 w6 => ?_⟩
      obtain ⟨hlen1, w6⟩ := w6
      have s56 := s5.trans s6
      have oD4 : ∀ (i : Nat) s, env4[i]? = some s → ownA s ≠ some D0 := fun i s e q => oD i s (wipeE_own i s D0 (hown i s D0 e q) q) q
      let St1 := fun (j : Nat) (H' : Hp) => ∃ acc1 vacc1, H' D0 = some (.lst vacc1) ∧ DvAll K (hid (more M D0) H') vacc1 acc1 ∧ acc1.length ≤ i * 1000 + j ∧ SameP P H1 H' ∧ Same (hid (more M D0) H6) (hid (more M D0) H') ∧ Rel K P (more M D0) σ4 H' env4 ∧ Rel K P (more M D0) σ H' env ∧
        lcW (elW γ1 t1 e (wipeE env4 vs1)) (fun acc' => lcA (el2 γ t ι1 γ1 t1 e vs1 (wipeE env vs)) (fun ys => κ (.d (.list ys))) (ds.drop (i + 1)) acc') (ds1.drop j) acc1
      refine ⟨fun j k H' => k = ds1.length - j ∧ j ≤ ds1.length ∧ St1 j H', ⟨_, rfl, Nat.zero_le _, acc, vacc, s56 _ _ pD hA, DvAll.mono (s56.hid mP') _ _ rA, by omega, sA.trans s56, Same.refl _, R6, back s56 R6, by simpa using w6⟩, ?_⟩
      rintro j k1 H7 ⟨rfl, hj, acc1, vacc1, hA1, rA1, lA1, sA1, sH1, R7, R7', wA1⟩
      by_cases hjl : j < ds1.length
      · refine .inr ⟨((it1 H7 sH1 j).1 ds1[j] (by simp [hjl])).1, fun H' => j + 1 ≤ ds1.length ∧ St1 (j + 1) H', fun H' p => ⟨ds1.length - (j + 1), by omega, rfl, p.1, p.2⟩, fun x1 H8 y1 => ?_⟩
        obtain ⟨e8, rx1⟩ := ((it1 H7 sH1 j).1 ds1[j] (by simp [hjl])).2 x1 H8 y1
        subst e8
        have wB1 : elW γ1 t1 e (wipeE env4 vs1) ds1[j] (fun r => match r with
            | some y => lcW (elW γ1 t1 e (wipeE env4 vs1)) (fun acc' => lcA (el2 γ t ι1 γ1 t1 e vs1 (wipeE env vs)) (fun ys => κ (.d (.list ys))) (ds.drop (i + 1)) acc') (ds1.drop (j + 1)) (acc1 ++ [y])
            | none => lcW (elW γ1 t1 e (wipeE env4 vs1)) (fun acc' => lcA (el2 γ t ι1 γ1 t1 e vs1 (wipeE env vs)) (fun ys => κ (.d (.list ys))) (ds.drop (i + 1)) acc') (ds1.drop (j + 1)) acc1) := by
          rw [List.drop_eq_getElem_cons hjl] at wA1
          exact wA1
        refine hg1 P (more M D0) _ H8 _ x1 ds1[j] _ _ (R7.wipe vs1) (Dv.mono sH1 _ _ rx1) wB1 fun σ9 env9 R9 hw9 hown9 w9 => ?_
        refine ⟨?_, P, more M D0, env9, _, R9, w9, fun b1 H10 s10 R10 w10 => ?_⟩
        · rw [hw9, wipe_wipe]
        have bk : ∀ {H' : Hp}, SameP P H8 H' → Rel K P (more M D0) σ9 H' env9 → Rel K P (more M D0) σ4 H' env4 ∧ Rel K P (more M D0) σ H' env := fun {H'} s R' =>
          ⟨R7.pooled s fun p e => (R'.pool p e).2, R7'.pooled s fun p e => (R'.pool p e).2⟩
        cases b1 with
        | false =>
          refine iteF ?_
          obtain ⟨b1, b2⟩ := bk s10 R10
          exact ⟨hjl, acc1, vacc1, s10 _ _ pD hA1, DvAll.mono (s10.hid mP') _ _ rA1, by omega, sA1.trans s10, sH1.trans (s10.hid mP'), b1, b2, w10⟩
        | true =>
          refine iteT ?_
          refine ⟨P, more M D0, env9, _, R10, w10, fun v H11 o s11 R11 o11 w11 => ?_⟩
          obtain ⟨y, rfl, w12⟩ := w11
          have sE := s10.trans s11
          have hA11 : H11 D0 = some (.lst vacc1) := sE _ _ pD hA1
          have rA11 := DvAll.mono (sE.hid mP') _ _ rA1
          obtain ⟨b1, b2⟩ := bk sE R11
          refine ⟨vacc1, hA11, ?_, hjl, acc1 ++ [y], vacc1 ++ [v], upd_same, ?_, by simp; omega, ?_, ?_, ?_, ?_, w12⟩
          · rw [rA1.length]
            have e1 : acc1.length ≤ 1000000 := by omega
            exact Nat.lt_of_le_of_lt e1 (by decide)
          · rw [hid_upd more_self]
            exact rA11.append (.cons o11 .nil)
          · intro a o hp e
            have ne : a ≠ D0 := fun q => by subst q; rw [hD] at e; cases e
            rw [upd_ne ne]
            exact (sA1.trans sE) a o hp e
          · rw [hid_upd more_self]
            exact sH1.trans (sE.hid mP')
          · exact b1.updHid more_self pD oD4
          · exact b2.updHid more_self pD oD
      · have e : j = ds1.length := by omega
        subst e
        refine .inl ⟨(it1 H7 sH1 ds1.length).2 (by simp) (Nat.le_refl _), hlt, acc1, vacc1, hA1, rA1, by omega, sA1, R7', ?_⟩
        rw [List.drop_length] at wA1
        exact wA1
  · have e : i = ds.length := by omega
    subst e
    refine .inl ⟨(it H2 sA ds.length).2 (by simp) (Nat.le_refl _), ?_⟩
    rw [List.drop_length] at wA
    refine k _ H2 (.d (.list acc)) (s1.trans sA) (RA.show mO mP) ?_ wA
    exact .lst (hid_some.mpr ⟨mD, hA⟩) (DvAll.mono hid_more_sub _ _ rA)
theorem ev_lc2 {elt tg iter tg1 iter1 : Expr} {ifs ifs1 : List Expr} {scope : Scope} {own : List (Str × Nat)} {vs1 : List Nat} {pos : Pos} {ι ι1 : DTI} {g g1 : TG} {γ γ1 : DTG} {t t1 : DTT} {e : DTE} (hc : X.calm = true) (hN : X.N.Nodup) (hi : IW X tg iter ι) (ok : BlkOk X.N X.env.scope scope own) (hv : ∀ i ∈ vs1, i ∈ own.map (·.2)) (gs : GSem X.K g γ (own.map (·.2))) (gs1 : GSem X.K g1 γ1 vs1)
    (hg : ∀ (s : Shared) (H : Hp) (C : Addr) (cl : List (Str × Addr)) (fp : List Addr), PG (X.blk s H scope (compEnvC scope cl C X.env) fp) tg g) (ht : ∀ (s : Shared) (H : Hp) (C : Addr) (cl : List (Str × Addr)) (fp : List Addr), TVs (X.blk s H scope (compEnvC scope cl C X.env) fp) ifs t)
    (hi1 : ∀ (s : Shared) (H : Hp) (C : Addr) (cl : List (Str × Addr)) (fp : List Addr), IV (X.blk s H scope (compEnvC scope cl C X.env) fp) tg1 iter1 ι1)
    (hg1 : ∀ (s : Shared) (H : Hp) (C : Addr) (cl : List (Str × Addr)) (fp : List Addr), PG (X.blk s H scope (compEnvC scope cl C X.env) fp) tg1 g1) (ht1 : ∀ (s : Shared) (H : Hp) (C : Addr) (cl : List (Str × Addr)) (fp : List Addr), TVs (X.blk s H scope (compEnvC scope cl C X.env) fp) ifs1 t1)
    (he : ∀ (s : Shared) (H : Hp) (C : Addr) (cl : List (Str × Addr)) (fp : List Addr), EV (X.blk s H scope (compEnvC scope cl C X.env) fp) elt e) (hs : ∀ x, foldedSetIterable iter X.env x = pure x := by intro _; rfl) (hs1 : ∀ env x, foldedSetIterable iter1 env x = pure x := by intro _ _; rfl) :
    EV X (.ListComp elt [⟨tg, iter, ifs, 0⟩, ⟨tg1, iter1, ifs1, 0⟩] scope pos) (wLc2 ι γ t ι1 γ1 t1 e (own.map (·.2)) vs1) := PE.imp (pe_lc2 hc hN hi ok hv hg ht hi1 hg1 ht1 he hs hs1) (up_lc2 gs gs1)
theorem sv_setLc2 {i : Nat} {y : Str} {py : Pos} {elt tg iter tg1 iter1 : Expr} {ifs ifs1 : List Expr} {scope : Scope} {own : List (Str × Nat)} {vs1 : List Nat} {pos spos : Pos} {ι ι1 : DTI} {g g1 : TG} {γ γ1 : DTG} {t t1 : DTT} {e : DTE} (hc : X.calm = true) (hN : X.N.Nodup) (hi : IW X tg iter ι) (ok : BlkOk X.N X.env.scope scope own) (hv : ∀ i ∈ vs1, i ∈ own.map (·.2)) (gs : GSem X.K g γ (own.map (·.2))) (gs1 : GSem X.K g1 γ1 vs1)
    (hg : ∀ (s : Shared) (H : Hp) (C : Addr) (cl : List (Str × Addr)) (fp : List Addr), PG (X.blk s H scope (compEnvC scope cl C X.env) fp) tg g) (ht : ∀ (s : Shared) (H : Hp) (C : Addr) (cl : List (Str × Addr)) (fp : List Addr), TVs (X.blk s H scope (compEnvC scope cl C X.env) fp) ifs t)
    (hi1 : ∀ (s : Shared) (H : Hp) (C : Addr) (cl : List (Str × Addr)) (fp : List Addr), IV (X.blk s H scope (compEnvC scope cl C X.env) fp) tg1 iter1 ι1)
    (hg1 : ∀ (s : Shared) (H : Hp) (C : Addr) (cl : List (Str × Addr)) (fp : List Addr), PG (X.blk s H scope (compEnvC scope cl C X.env) fp) tg1 g1) (ht1 : ∀ (s : Shared) (H : Hp) (C : Addr) (cl : List (Str × Addr)) (fp : List Addr), TVs (X.blk s H scope (compEnvC scope cl C X.env) fp) ifs1 t1)
    (he : ∀ (s : Shared) (H : Hp) (C : Addr) (cl : List (Str × Addr)) (fp : List Addr), EV (X.blk s H scope (compEnvC scope cl C X.env) fp) elt e)
    (hsw : swapsWith (.ListComp elt [⟨tg, iter, ifs, 0⟩, ⟨tg1, iter1, ifs1, 0⟩] scope pos) (some (.Name y py)) spos.line X.env = pure true) (hy : X.N[i]? = some y := by rfl) (hyl : X.env.scope.names.lookup y = some .local := by rfl) (hs : ∀ x, foldedSetIterable iter X.env x = pure x := by intro _; rfl) (hs1 : ∀ env x, foldedSetIterable iter1 env x = pure x := by intro _ _; rfl) :
    SV X (.Assign [.Name y py] (.ListComp elt [⟨tg, iter, ifs, 0⟩, ⟨tg1, iter1, ifs1, 0⟩] scope pos) spos) (wAsg (wLc2 ι γ t ι1 γ1 t1 e (own.map (·.2)) vs1) (wN i)) := by
  refine PS.imp (ps_setLc2 (te := up X.K e) (tt := upT X.K t) (tt1 := upT X.K t1) (wi1 := upI X.K ι1) hc hN hy hyl hsw hi ok hv hg ht hi1 hg1 ht1 he hs hs1) fun D0 σ H h => ?_
  have h2 := up_asg (gs_name (K := X.K) i (vs := [i]) (by simp)) D0 σ H h
  exact up_lc2 gs gs1 σ H _ h2
end
end DL

namespace DL
open PySem L2
variable {K : PySem.W.Frag}
/-! ### sorted(set(xs)), xs a list of tuples of ints, of any lengths but 0 -/
section
open PySem.W PySem.Calls PyProof.Rows
theorem dataLe_tups {β : Type} (x : β → List Int) : dataLe false (fun b => .tuple ((x b).map .int)) = fun p q => decide (x p ≤ x q) := by
  funext p q
  show (!dataLt (.tuple ((x q).map .int)) (.tuple ((x p).map .int))) = _
  rw [dataLt_tuple]
  show (!rowLt ((x q).map .int) ((x p).map .int)) = _
  rw [dataLt_ints]
  by_cases h : x q < x p
  · have h' : ¬ x p ≤ x q := fun r => List.not_lt.mpr r h
    simp [h, h']
  · have h' : x p ≤ x q := List.not_lt.mp h
    simp [h, h']
theorem alike_ints : ∀ xs ys : List Int, alikeAll (xs.map .int) (ys.map .int) = true
  | [], _ => by simp [alikeAll]
  | x :: xs, [] => by simp [alikeAll]
  | x :: xs, y :: ys => by simp [alikeAll, alike, alike_ints xs ys]
variable {prog : Program} {w : World} {A : Around} {E : Value → Shared → Prop} {s : Shared} {β : Type} {vs : List Value} {bs : List β} {enc : β → PyData} {R : Value → β → Prop}
theorem list_sort_data' {a : Addr} {n : Nat} {Q : Value → Shared → Prop} (ho : s.heap.get? a = some (seqObj "list" vs.toArray n)) (e : EachIs R vs bs) (er' : EachIs (fun v b => ∃ as, Reads (sortingHeap s.heap a vs) v (enc b) as) vs bs) (hal : AllAlike (bs.map enc)) (hk : Sortable (bs.map enc)) (hL : bs.length ≤ sizeLine)
    (hu : ∀ b, b ∈ bs → A.units + 1 + (enc b).depth < cLine) (h : ∀ out, out.length = bs.length → EachIs R out (bs.mergeSort (dataLe false enc)) → Q .none { s with heap := sortedHeap s.heap a vs (List.toArray out) }) :
    wpAny (model prog w) A (call (.builtin "list.sort") [.ref a]) Q E s := by
  refine wpAny_call_entry slot_list_sort ⟨_, ho, rfl⟩ entry_list_sort (list_sort_vals (κ := dataKind (sortingHeap s.heap a vs) (bs.map enc)) ho (SortsAt.data (s := { s with heap := sortingHeap s.heap a vs }) (each_map (R := fun v d => ∃ as, Reads (sortingHeap s.heap a vs) v d as) enc er') hal hk (bound_map hu)) (by rw [e.length]; exact hL) ⟨.none, rfl, ?_⟩) (args_list_sort _)
  exact h _ (by rw [sortVals_length false rfl]; exact e.length) (sortVals_data false e er' hal)
theorem each_refs : ∀ (L : List (Addr × List Int)), EachIs (fun v (q : Addr × List Int) => v = Value.ref q.1) (L.map fun q => Value.ref q.1) L
  | [] => .nil
  | q :: L => .cons rfl (each_refs L)
theorem refs_each : ∀ {us : List Value} {L : List (Addr × List Int)}, EachIs (fun v (q : Addr × List Int) => v = Value.ref q.1) us L → us = L.map fun q => Value.ref q.1
  | _, _, .nil => rfl
  | _, _, .cons r t => by rw [r, refs_each t]; rfl
theorem reads_ints {h : Heap} : ∀ {ns : List Int} {us : List Value}, PyProof.Rows.IntsAre us ns → ReadsAll h us (ns.map .int) []
  | _, _, .nil => .nil
  | _, _, .cons (n := n) t r => .cons (as := []) (.int n t) (reads_ints r)
end
section
open PySem.W PySem.Calls PyProof.Rows
variable {P : Program} {w : World} {A : Around} {E : Value → Shared → Prop} {s : Shared}
theorem sorted_setD {a : Addr} {L : List (Addr × List Int)} {es : Array (Int × Value)} {ep : Nat} {t : SetTable} {Q : Value → Shared → Prop} (R : SetTR P w s.heap a L es ep t) (hh : A.handled = none) (hu : A.units + 5 < cLine)
    (hne : ∀ p ∈ L, p.2 ≠ [])
    (hQ : ∀ s' p (out : Array Value) (c : Nat) (L' : List (Addr × List Int)), (∀ b o, s.heap.get? b = some o → s'.heap.get? b = some o) → s'.gens = s.gens → s'.os = s.os → s.heap.objs.size ≤ p →
      s'.heap.get? p = some (seqObj "list" out c) → out.toList = L'.map (fun q => Value.ref q.1) → L'.Perm L → L'.Pairwise (fun q r => q.2 ≤ r.2) → Q (.ref p) s') :
    wpAny (model P w) A (call (.builtin "sorted") [.ref a]) Q E s := by
  obtain ⟨o, ho, hex, hd⟩ := R.ob
  have hsz := R.size
  have hfew := R.few
  refine Calls.call_function_entry kind_sorted plain_sorted entry_sorted (args_sorted1 _) ?_
  unfold Builtin.«sorted»
  refine wpAny_bind (m := checkCount "sorted" 1 1 _) (wpAny_pure ?_)
  refine wpAny_bind (collect_set (A := A.in1) hh ⟨o, ho, hex.1, hd⟩ R.fits (by unfold scanBound; omega) R.tab.ris R.led fun s1 vs k1 hz g1 o1 pm => ?_)
  have hes : es.toList.map (·.2) = L.map fun q => Value.ref q.1 := by
    rw [R.rows]
    unfold L2.rowsOf
    rw [List.map_map] <;> rfl
  rw [hes] at pm
  have ord : ∀ vs : List Value, (∀ v ∈ vs, ∃ q ∈ L, v = Value.ref q.1) → ∃ L1 : List (Addr × List Int), vs = L1.map (fun q => Value.ref q.1) ∧ ∀ q ∈ L1, q ∈ L := by
    intro vs
    induction vs with
    | nil => intro _; exact ⟨[], rfl, fun q hq => (by cases hq)⟩
    | cons v vs ih =>
      intro hv
      obtain ⟨q, hq, e⟩ := hv v List.mem_cons_self
      obtain ⟨L1, e1, hs⟩ := ih fun u hu => hv u (List.mem_cons_of_mem _ hu)
      refine ⟨q :: L1, by rw [List.map_cons, e, e1], fun r hr => ?_⟩
      rcases List.mem_cons.mp hr with z | z
      · rw [z]; exact hq
      · exact hs r z
  have one : ∀ q ∈ L, ∀ r ∈ L, q.1 = r.1 → q = r := fun q hq r hr e => by
    have a1 := R.tup q hq
    have a2 := R.tup r hr
    rw [e] at a1
    have e2 : q.2 = r.2 := a1.inj a2
    exact Prod.ext e e2
  have perm_of : ∀ L1 : List (Addr × List Int), (∀ q ∈ L1, q ∈ L) → (L1.map (fun q => Value.ref q.1)).Perm (L.map fun q => Value.ref q.1) → L1.Perm L := by
    intro L1 hs pm1
    have nL : L.Nodup := nodup_of_map R.nd
    have nref : (L.map fun q => Value.ref q.1).Nodup := by
      refine List.pairwise_map.mpr (List.Pairwise.imp_of_mem (fun {q r} hq hr hne e => ?_) nL)
      injection e with e
      exact hne (one q hq r hr e)
    have n1 : L1.Nodup := nodup_of_map (pm1.nodup_iff.mpr nref)
    refine (List.perm_ext_iff_of_nodup n1 nL).mpr fun q => ⟨hs q, fun hq => ?_⟩
    have hm : Value.ref q.1 ∈ L1.map (fun q => Value.ref q.1) := pm1.mem_iff.mpr (List.mem_map.mpr ⟨q, hq, rfl⟩)
    obtain ⟨r, hr, e⟩ := List.mem_map.mp hm
    injection e with e
    rw [← one r (hs r hr) q hq e]
    exact hr
  obtain ⟨L1, e1, hs1⟩ := ord vs fun v hv => by
    obtain ⟨q, hq, e⟩ := List.mem_map.mp (pm.mem_iff.mp hv)
    exact ⟨q, hq, e.symm⟩
  have p1 : L1.Perm L := perm_of L1 hs1 (by rw [← e1]; exact pm)
  have hvl : vs.length < 64 := by rw [pm.length_eq, List.length_map]; exact hfew
  refine wpAny_bind (wpAny_newList ?_ (by rw [sizeLine_eq]; omega))
  have hoL : (s1.heap.push (seqObj "list" vs.toArray 0)).get? s1.heap.objs.size = some (seqObj "list" vs.toArray 0) := Heap.get?_push_size _ rfl
  have keep : ∀ b o, s.heap.get? b = some o → (sortingHeap (s1.heap.push (seqObj "list" vs.toArray 0)) s1.heap.objs.size vs).get? b = some o := fun b o e => by
    have e2 := k1 b o e
    exact sortingHeap_old (Nat.ne_of_lt (Heap.lt_size e2)) (Heap.get?_push_of_some _ e2)
  let enc : Addr × List Int → PyData := fun q => .tuple (q.2.map .int)
  have er : EachIs (fun v (q : Addr × List Int) => ∃ as, Reads (sortingHeap (s1.heap.push (seqObj "list" vs.toArray 0)) s1.heap.objs.size vs) v (enc q) as) vs L1 := by
    rw [e1]
    have go : ∀ l : List (Addr × List Int), (∀ q ∈ l, q ∈ L) → EachIs (fun v (q : Addr × List Int) => ∃ as, Reads (sortingHeap (s1.heap.push (seqObj "list" vs.toArray 0)) s1.heap.objs.size vs) v (enc q) as) (l.map fun q => Value.ref q.1) l := by
      intro l
      induction l with
      | nil => intro _; exact .nil
      | cons q l ih =>
        intro hl
        refine .cons ?_ (ih fun r hr => hl r (List.mem_cons_of_mem _ hr))
        obtain ⟨o', items, n', ho', hc', hd', hi'⟩ := R.tup q (hl q List.mem_cons_self)
        exact ⟨[], Reads.tuple (keep _ _ ho') hc' hd' (reads_ints (ints_of_items hi'))⟩
    have := go L1 hs1
    rw [e1] at this
    exact this
  have rr : EachIs (fun v (q : Addr × List Int) => v = Value.ref q.1) vs L1 := by rw [e1]; exact each_refs L1
  have hal : AllAlike (L1.map enc) := AllAlike.of fun b b' => by
    show alike (.tuple _) (.tuple _) = true
    rw [alike]
    exact alike_ints _ _
  have hk : Sortable (L1.map enc) := .inl fun d hd => by
    obtain ⟨q, hq, rfl⟩ := List.mem_map.mp hd
    have := hne q (hs1 q hq)
    cases e : q.2 with
    | nil => exact absurd e this
    | cons x r => exact ⟨_, _, by show PyData.tuple (q.2.map .int) = _; rw [e]; rfl⟩
  have hdep : ∀ ns : List Int, PyData.depthAll (ns.map .int) = 0 := by
    intro ns
    induction ns with
    | nil => rfl
    | cons n ns ih => simp [PyData.depthAll, PyData.depth, ih]
  refine wpAny_bind (wpAny_holding (list_sort_data' (s := { s1 with heap := s1.heap.push (seqObj "list" vs.toArray 0) }) (enc := enc) (bs := L1) hoL rr er hal hk (by rw [p1.length_eq, sizeLine_eq]; omega) (fun b hb => ?_) fun out ho2 eo => ?_))
  · have : (enc b).depth ≤ 1 := by
      show (PyData.tuple (b.2.map .int)).depth ≤ 1
      simp [PyData.depth, hdep]
    have : A.in1.units = A.units + 1 := rfl
    omega
  have eq := refs_each eo
  obtain ⟨c, hc⟩ := sortedHeap_at (vs := vs) (out := out.toArray) hoL
  refine wpAny_pure ⟨_, rfl, hQ _ s1.heap.objs.size out.toArray c (L1.mergeSort (dataLe false enc)) (fun b u e => ?_) g1 o1 hz hc (by simpa using eq) ((List.mergeSort_perm _ _).trans p1) ?_⟩
  · have q := k1 b u e
    have hlt := Heap.lt_size q
    show (sortedHeap (s1.heap.push (seqObj "list" vs.toArray 0)) s1.heap.objs.size vs out.toArray).get? b = some u
    rw [sortedHeap_old (Nat.ne_of_lt hlt) (by rw [size_push']; exact Nat.lt_succ_of_lt hlt)]
    exact Heap.get?_push_of_some _ q
  · have : (dataLe false enc) = fun p q => decide (p.2 ≤ q.2) := dataLe_tups (fun q : Addr × List Int => q.2)
    rw [this]
    refine (List.pairwise_mergeSort (le := fun p q : Addr × List Int => decide (p.2 ≤ q.2)) (fun a b c h1 h2 => ?_) (fun a b => ?_) L1).imp fun h => by simpa using h
    · simp only [decide_eq_true_eq] at *
      exact List.le_trans h1 h2
    · simp only [Bool.or_eq_true, decide_eq_true_eq]
      exact List.le_total _ _
end
section
variable {X : Cx}
def rSortedTD (K : PySem.W.Frag) (P : Program) (w : World) : List V → Hp → VK → Prop := fun vs H Q => ∃ (a : Addr) (L : List (Addr × List Int)), vs = [V.ref a] ∧ H a = some (SetTO P w a L) ∧ (∀ p ∈ L, SqT K H p.1 (p.2.map V.int)) ∧ (∀ p ∈ L, p.2 ≠ []) ∧
  ∀ (L' : List (Addr × List Int)) (p : Addr), L'.Perm L → (L'.map (·.2)).Nodup → L'.length < 64 → L'.Pairwise (fun q r => q.2 ≤ r.2) → H p = none → Q (.ref p) (upd H p (.lst (L'.map fun q => V.ref q.1)))
theorem cr_sortedTD (hc : X.calm = true) (hu : X.A.units + 5 < cLine) : CallR X (.builtin "sorted") (rSortedTD X.K X.prog X.w) := by
  intro pins s σ H vs us Q I r h
  obtain ⟨a, L, rfl, ha, hk, hB, q⟩ := h
  have R0 : SetT0 X.prog X.w s.heap a L := (I.hok a _ ha).1
  obtain ⟨es, ep, t, R⟩ := R0.full fun p hp => I.isT (hk p hp)
  rw [Vals.ref1 r]
  refine sorted_setD R (I.ok.hd hc) hu hB fun s' p out c L' k g o hp hg hout pm pw => ?_
  have hfew : L'.length < 64 := by rw [pm.length_eq]; exact R.few
  have hlen : (L'.map fun q => V.ref q.1).length ≤ sizeLine := by rw [List.length_map, sizeLine_eq]; omega
  have hn : H p = none := I.hok.fresh hp
  have hv : Vals (L'.map fun q => V.ref q.1) out.toList := by rw [hout]; exact vals_of_refs L'
  have J : Inv X pins σ (upd H p (.lst (L'.map fun q => V.ref q.1))) { s with heap := s'.heap, gens := s'.gens, drawn := s'.drawn, toks := s'.toks } :=
    I.call (ch := []) (Un.laid k hp hn) (I.hok.laid k hp ⟨hlen, out.toList, c, hv, hg⟩) (by rw [g]; exact I.bare) (fun _ z => nomatch z)
  have e : s' = { s with heap := s'.heap, gens := s'.gens, drawn := s'.drawn, toks := s'.toks } := by
    cases s'
    cases s
    cases o
    rfl
  rw [e]
  exact ⟨.ref p, upd H p (.lst (L'.map fun q => V.ref q.1)), J, rfl, q L' p pm ((pm.map _).nodup_iff.mpr R.nd) hfew pw hn⟩
/-- a tuple of ints -/
def tupI (ns : List Int) : D := .tuple (ns.map .int)
def fSortSetT (a : DTE) : DTF := fun env κ => a env fun o => ∃ kss : List (List Int), o.get env = some (.list (kss.map tupI)) ∧ kss.length < 64 ∧ (∀ k ∈ kss, k ≠ []) ∧ ∀ ks' : List (List Int), ks'.Pairwise (· < ·) → (∀ k, k ∈ ks' ↔ k ∈ kss) → κ (ks'.map tupI)
theorem tups_of {H : Hp} : ∀ {kss : List (List Int)} {vs : List V}, DvAll K H vs (kss.map tupI) → ∃ ks : List (Addr × List Int), vs = ks.map (fun p => V.ref p.1) ∧ ks.map (·.2) = kss ∧ ∀ p ∈ ks, Dv K H (.ref p.1) (tupI p.2) ∧ SqT K H p.1 (p.2.map V.int)
  | [], _, h => by
    cases h
    exact ⟨[], rfl, rfl, fun p hp => by cases hp⟩
  | k :: kss, _, h => by
    cases h with
    | cons a b =>
      obtain ⟨ks, e1, e2, h3⟩ := tups_of b
      have a' := a
      unfold tupI at a
      cases a with
      | tup e z q =>
        rename_i ad ob xs
        have := dv_ints_of q
        subst this
        refine ⟨(ad, k) :: ks, by rw [e1]; rfl, by rw [List.map_cons, e2], fun p hp => ?_⟩
        rcases List.mem_cons.mp hp with rfl | hp
        · exact ⟨a', .inl (.inr ⟨_, e⟩)⟩
        · exact h3 p hp
theorem dv_tups {H : Hp} : ∀ {ks : List (Addr × List Int)}, (∀ p ∈ ks, Dv K H (.ref p.1) (tupI p.2)) → DvAll K H (ks.map fun p => V.ref p.1) ((ks.map (·.2)).map tupI)
  | [], _ => .nil
  | p :: ks, h => .cons (h p List.mem_cons_self) (dv_tups fun q hq => h q (List.mem_cons_of_mem _ hq))
theorem fv_sortSetT {k0 : Nat} (hr : Room k0 X.A) {x y : Str} {p p2 pos pos2 : Pos} {e : Expr} {a : DTE} (hc : X.calm = true) (hm : X.mg x = none) (hm2 : X.mg y = none) (he : EV X e a) (hv : bootBuiltins x = some (.builtin "sorted")) (hv2 : bootBuiltins y = some (.type "set")) (hg : Gl X x := by rfl) (hg2 : Gl X y := by rfl) (hn : x ≠ "__name__" := by decide) (hn2 : y ≠ "__name__" := by decide)
    (hdb : (x == ("__debug__" : Str)) = false := by decide) (hdb2 : (y == ("__debug__" : Str)) = false := by decide) (h1 : starEach [e] X.env = (false, eval e X.env) :: starEach [] X.env := by rfl)
    (h2 : starEach [.Call (.Name y p2) [e] [] pos2] X.env = (false, eval (.Call (.Name y p2) [e] [] pos2) X.env) :: starEach [] X.env := by rfl) (hpl : (backTo pos (starEach ([] : List Expr) X.env)).any (·.1) = false := by rfl) (hpl2 : (backTo pos2 (starEach ([] : List Expr) X.env)).any (·.1) = false := by rfl) :
    FV X (.Call (.Name x p) [.Call (.Name y p2) [e] [] pos2] [] pos) (fSortSetT a) := by
  have hu : X.A.units + 64 < cLine := by have := hr.un; omega
  refine PE.imp (pe_callB (cr_sortedTD hc (by omega)) hg hm hv (pa_cons (pe_callTy (cr_setOfT hc hu) hg2 hm2 hv2 (pa_cons he pa_nil h1) hn2 hdb2 h1 hpl2) pa_nil h2) hn hdb h2 hpl) fun σ H Q ⟨P, M, env, κ, R, w, k⟩ => ?_
  refine ⟨P, M, env, _, R, w, fun v H1 o s1 R1 o1 ⟨kss, e1, hl, hne, w1⟩ => ?_⟩
  obtain ⟨a, vs, rfl, q1, q2⟩ := (o1.rd R1 e1).list
  obtain ⟨ks, rfl, rfl, h3⟩ := tups_of q2
  refine ⟨a, ks, rfl, SqL.of q1, fun p hp => same_seqT hid_sub (h3 p hp).2, by simpa using hl, fun p L hp hL1 hL2 => ?_⟩
  have sm := same_new (o := SetTO X.prog X.w p L) hp
  refine ⟨p, L, rfl, upd_same, fun q hq => same_seqT sm (same_seqT hid_sub (h3 q (hL1 q hq)).2), fun q hq => hne q.2 (List.mem_map.mpr ⟨q, hL1 q hq, rfl⟩), fun L' p' h4 h5 h6 h7 hp' => ?_⟩
  refine k p' _ _ _ (s1.trans (SameP.of sm)) (R1.same sm) hp' (dv_tups fun q hq => Dv.mono (hid_mono sm) _ _ (h3 q (hL1 q (h4.mem_iff.mp hq))).1) (w1 _ ?_ fun k => ?_)
  · have : (L'.map (·.2)).Pairwise (· ≤ ·) := List.pairwise_map.mpr h7
    refine (this.and h5).imp fun {x y} ⟨a, b⟩ => ?_
    by_cases h : x < y
    · exact h
    · exact absurd (List.le_antisymm a (List.not_lt.mp h)) b
  · constructor
    · intro hk
      obtain ⟨q, hq, rfl⟩ := List.mem_map.mp hk
      exact List.mem_map.mpr ⟨q, hL1 q (h4.mem_iff.mp hq), rfl⟩
    · intro hk
      obtain ⟨q, hq, rfl⟩ := List.mem_map.mp hk
      exact ((h4.map (·.2)).mem_iff).mpr (hL2 q hq)
end
end DL

namespace DL
open PySem L2
variable {K : PySem.W.Frag}
/-! ### x, y = [..], e: a list of one's own and data -/
section
variable {X : Cx}
def wParLD (i j : Nat) (φ : DTF) (ψ : DTE) : DTS := fun δ env => φ env fun ds => ψ env fun o => ∃ z, o = .d z ∧ ∀ a, δ.nx ((env.set i (.ml a ds)).set j (.im z))
theorem sv_parLD {x y : Str} {e1 e2 : Expr} {φ : DTF} {ψ : DTE} {px py pt : Pos} {kt k2 pt2 : _} {pos : Pos} (i j : Nat) (hc : X.calm = true) (hN : X.N.Nodup) (hij : i ≠ j) (h1 : FV X e1 φ) (h2 : EV X e2 ψ) (hw : swappedStores [.Tuple [.Name x px, .Name y py] kt pt] (.Tuple [e1, e2] k2 pt2) X.env = pure (some [x, y]))
    (hi : X.N[i]? = some x := by rfl) (hj : X.N[j]? = some y := by rfl) (hx : X.env.scope.names.lookup x = some .local := by rfl) (hy : X.env.scope.names.lookup y = some .local := by rfl)
    (hs : swapsWithSole [.Tuple [.Name x px, .Name y py] kt pt] (.Tuple [e1, e2] k2 pt2) pos.line X.env = pure false := by rfl)
    (s1 : starEach [e1, e2] X.env = (false, eval e1 X.env) :: starEach [e2] X.env := by rfl) (s2 : starEach [e2] X.env = (false, eval e2 X.env) :: starEach [] X.env := by rfl) :
    SV X (.Assign [.Tuple [.Name x px, .Name y py] kt pt] (.Tuple [e1, e2] k2 pt2) pos) (wParLD i j φ ψ) := by
  refine PS.imp (ps_par hc hN hi hj hij hx hy (pa_cons h1 (pa_cons h2 pa_nil s2) s1) hw hs) fun D0 σ H ⟨P, M0, He, δ, env, R, E, w⟩ => ?_
  obtain ⟨M, r, h0, h1⟩ := R.rel
  refine ⟨P, M, env, _, r, w, fun p vs H1 ds s1 R1 hp q w1 => ?_⟩
  have R' := R.step h0 h1 s1 R1
  have nP : P ≠ some p := fun q => R1.trk p (R1.pool p q).1 hp
  have nO : ∀ (j : Nat) s, env[j]? = some s → ownA s ≠ some p := fun j s e q => R1.trk p (R1.own j s p e q).1 hp
  have hep : He p = none := by
    cases z : He p with
    | none => rfl
    | some o => rw [R'.same p o nP z] at hp; cases hp
  have r2 := R1.hide (o := .lst vs) hp
  refine ⟨P, more M p, env, _, r2, w1, fun v2 H2 o s2 R2 q2 ⟨z, eo, w2⟩ => ⟨_, _, rfl, ?_⟩⟩
  subst eo
  have hl : H2 p = some (.lst vs) := s2 _ _ nP upd_same
  have hpP : ∀ q, P = some q → more M p q = true := fun q e => more_of (R1.pool q e).1
  have dv : DvAll X.K (hid (more M p) H2) vs ds := by
    refine DvAll.mono (s2.hid hpP) _ _ ?_
    rw [hid_more_upd hp]; exact q
  have r3 := R2.adopt i (s := .ml p ds) more_self nP nO rfl ⟨rfl, vs, hl, dv⟩
  have m0 : ∀ c, M0 c = true → more M p c = true := fun c e => more_of (h0 c e)
  have m1 : ∀ c, more M p c = true → M0 c = true ∨ He c = none := fun c e => by
    by_cases hc : c = p
    · subst hc; exact .inr hep
    · rw [more_ne hc] at e; exact h1 c e
  have R3 : RelS X.K P M0 He (σ.set i (some (.ref p))) H2 (env.set i (.ml p ds)) := ⟨⟨_, r3, m0, m1⟩, fun c o hP e => s2 c o hP (by rw [upd_ne (ne_of_none e hep)]; exact R'.same c o hP e), fun k s c e z => by
    by_cases hk : i = k
    · subst hk
      by_cases hl : i < env.length
      · rw [List.getElem?_set_self hl] at e; cases e; cases z; exact hep
      · rw [List.getElem?_eq_none (by rw [List.length_set]; omega)] at e; cases e
    · rw [List.getElem?_set_ne hk] at e
      exact R.mine k s c e z, R.trk⟩
  exact E.nx _ H2 _ (R3.sub m0 m1 (r3.set j q2) set_own) (w2 p)
end
end DL

namespace DL
open PySem L2
theorem hu9 {X : Cx} {k : Nat} (hr : Room k X.A) : X.A.units + 9 < cLine := by have := hr.un; omega
/-! ### items by types -/
theorem lcW_map {α : Type} {f : D → (Option D → Prop) → Prop} {κ : List D → Prop} (enc g : α → D) : ∀ (xs : List α) (acc : List D), (∀ x ∈ xs, ∀ k : Option D → Prop, k (some (g x)) → f (enc x) k) → κ (acc ++ xs.map g) → lcW f κ (xs.map enc) acc
  | [], acc, _, h => by simpa [lcW] using h
  | x :: xs, acc, hf, h => by
    rw [List.map_cons]
    unfold lcW
    refine hf x List.mem_cons_self _ ?_
    exact lcW_map enc g xs (acc ++ [g x]) (fun e he => hf e (List.mem_cons_of_mem _ he)) (by simpa using h)
theorem lcW_flt {α : Type} {f : D → (Option D → Prop) → Prop} {κ : List D → Prop} (enc : α → D) (g : α → Option D) : ∀ (xs : List α) (acc : List D), (∀ x ∈ xs, ∀ k : Option D → Prop, k (g x) → f (enc x) k) → κ (acc ++ xs.filterMap g) → lcW f κ (xs.map enc) acc
  | [], acc, _, h => by simpa [lcW] using h
  | x :: xs, acc, hf, h => by
    rw [List.map_cons]
    unfold lcW
    refine hf x List.mem_cons_self _ ?_
    cases e : g x with
    | none => exact lcW_flt enc g xs acc (fun e he => hf e (List.mem_cons_of_mem _ he)) (by simpa [List.filterMap_cons, e] using h)
    | some y => exact lcW_flt enc g xs (acc ++ [y]) (fun e he => hf e (List.mem_cons_of_mem _ he)) (by simpa [List.filterMap_cons, e] using h)
theorem forW_map {α : Type} {γ : DTG} {b : DTS} {δ : DEnds} (enc : α → D) (J : List α → DEnv → Prop) (h0 : ∀ e, J [] e → δ.nx e)
    (hs : ∀ x rest e, J (x :: rest) e → ∀ N : DEnv → Prop, (∀ e', J rest e' → N e') → γ (enc x) e fun e' => b { nx := N, rt := δ.rt, ct := N, bk := δ.nx } e') : ∀ (xs : List α) (e : DEnv), J xs e → forW γ b δ (xs.map enc) e
  | [], e, h => h0 e h
  | x :: xs, e, h => hs x xs e h _ fun e' h' => forW_map enc J h0 hs xs e' h'
/-- how long one's own list is -/
def mlLen (i : Nat) (e : DEnv) : Nat := match e[i]? with
  | some (.ml _ ds) => ds.length
  | _ => 0
/-! ### rows -/
def dn (x : Nat) : D := .int (x : Nat)
def encR (r : List Nat) : D := .tuple (r.map dn)
theorem isTup_row (r : List Nat) : isTup (encR r) = some (r.map dn) := rfl
theorem ix_row {r : List Nat} {i : Nat} {z : D} : IxD (encR r) (.int (i : Nat)) z = ((r[i]?).map dn = some z) := by simp [encR, ixD_tup]
theorem ix_row' {r : List Nat} {i : Nat} {z : D} : IxD (encR r) (dn i) z = ((r[i]?).map dn = some z) := ix_row
theorem len_row {r : List Nat} {z : D} : LenR [encR r] z = (z = .int (r.length : Nat)) := by simp [encR, LenR]
theorem flat_row (r : List Nat) : flatD (encR r) = true := by
  unfold encR flatD
  induction r with
  | nil => rfl
  | cons x r ih => simp [flatAll, flatD, dn]; exact ih
theorem sm_row {r : List Nat} (h : r.length ≤ 100000) : Sm 1 (encR r) := .tup (by simpa using h) fun d hd => by
  obtain ⟨x, _, rfl⟩ := List.mem_map.mp hd
  exact .int
theorem dn_inj {x y : Nat} (h : dn x = dn y) : x = y := by
  unfold dn at h
  injection h with h
  exact Int.ofNat.inj h
theorem eqv_dn {x y : Nat} : PyData.eqv (dn x) (dn y) = decide (x = y) := by
  unfold dn
  rw [eqv_int]
  by_cases h : x = y
  · subst h; simp
  · rw [decide_eq_false h, decide_eq_false (by omega)]
theorem ty_row {r : List Nat} : tyD (encR r) = "tuple" := rfl
theorem shp_row {r : List Nat} (h : r.length ≤ 100000) : shp (encR r) = true := (sm_row h).shp
/-- an item of a row -/
def rg (r : List Nat) (i : Nat) : Nat := r.getD i 0
theorem getD_of {r : List Nat} {i : Nat} (h : i < r.length) : r[i]? = some (rg r i) := by
  unfold rg
  rw [List.getD_eq_getElem?_getD, List.getElem?_eq_getElem h]
  rfl
theorem rangeD_row (n : Nat) : rangeD 0 n = (List.range n).map dn := by
  unfold rangeD dn
  apply List.map_congr_left
  intro x _
  simp
theorem eqv_rows : ∀ {a b : List Nat}, PyData.eqvAll (a.map dn) (b.map dn) = decide (a = b)
  | [], [] => rfl
  | [], _ :: _ => rfl
  | _ :: _, [] => rfl
  | x :: a, y :: b => by
    rw [List.map_cons, List.map_cons]
    unfold PyData.eqvAll
    rw [eqv_dn, eqv_rows]
    by_cases h : x = y
    · subst h
      by_cases h2 : a = b
      · subst h2; simp
      · simp [h2]
    · simp [h]
theorem eqv_row {a b : List Nat} : PyData.eqv (encR a) (encR b) = decide (a = b) := by
  unfold encR PyData.eqv
  exact eqv_rows
theorem nd_row (r : List Nat) : noDct (encR r) = true := by
  unfold encR noDct
  induction r with
  | nil => rfl
  | cons x r ih => simp [noDcts, noDct, dn]; exact ih
theorem pureDs_row (r : List Nat) : pureDs (r.map dn) = true := by
  induction r with
  | nil => rfl
  | cons x r ih => simp [pureDs, pureD, dn]; exact ih
theorem depth_row : ∀ r : List Nat, NestedKey.depthAll (kOfs (r.map dn)) = 0
  | [] => rfl
  | x :: r => by
    rw [List.map_cons]
    unfold kOfs NestedKey.depthAll
    rw [depth_row r]
    rfl
theorem key_row (r : List Nat) : tupKey (encR r) = true := by
  unfold encR tupKey
  simp only [pureDs_row, Bool.true_and, decide_eq_true_eq]
  unfold kOf NestedKey.depth
  rw [depth_row]
  decide
theorem row_inj {a b : List Nat} (h : encR a = encR b) : a = b := by
  have := @eqv_row a b
  rw [h, eqv_refl _ (nd_row b)] at this
  simpa using this.symm
theorem row_iff {a b : List Nat} : (encR a = encR b) = (a = b) := propext ⟨row_inj, fun h => by rw [h]⟩
theorem eq_dn {x y : Nat} {z : D} : EqR (dn x) (dn y) z = (z = .bool (decide (x = y))) := by
  unfold EqR
  rw [eqv_dn]
  simp [dn, shp_int]
theorem eq_ii {i j : Int} {z : D} : EqR (.int i) (.int j) z = (z = .bool (decide (i = j))) := by
  unfold EqR
  rw [eqv_int]
  simp [shp_int]
theorem add_ii {i j : Int} {z : D} : AddR (.int i) (.int j) z = (z = .int (i + j)) := by simp [AddR]
theorem lt_ii {i j : Int} {z : D} : LtR (.int i) (.int j) z = (z = .bool (decide (i < j))) := by simp [LtR, IntR]
theorem le_ii {i j : Int} {z : D} : LeR (.int i) (.int j) z = (z = .bool (decide (i ≤ j))) := by simp [LeR, IntR]
theorem gt_ii {i j : Int} {z : D} : GtR (.int i) (.int j) z = (z = .bool (decide (j < i))) := by simp [GtR, IntR]
theorem ge_ii {i j : Int} {z : D} : GeR (.int i) (.int j) z = (z = .bool (decide (j ≤ i))) := by simp [GeR, IntR]
theorem sub_ii {i j : Int} {z : D} : SubR (.int i) (.int j) z = (z = .int (i - j)) := by simp [SubR, IntR]
theorem mod_ii {i j : Int} {z : D} : ModR (.int i) (.int j) z = (0 < j ∧ z = .int (i % j)) := by simp [ModR, IntR]
theorem len_li {ds : List D} {z : D} : LenR [.list ds] z = (z = .int (ds.length : Nat)) := by simp [LenR]
theorem len_tu {ds : List D} {z : D} : LenR [.tuple ds] z = (z = .int (ds.length : Nat)) := by simp [LenR]
/-! ### basics -/
def g_is_whole : DSp := fun ds κ => ∃ i, ds = [.int i] ∧ κ (.bool true)
theorem mono_is_whole : Mono g_is_whole := fun ds p q h ⟨i, e, w⟩ => ⟨i, e, h _ w⟩
def t_is_whole : DTS := wRet (wAndV (wIsi "int" (wVar 0)) (wNotV (wIsi "bool" (wVar 0))))
theorem pure_is_whole (ds : List D) (κ : D → Prop) (hl : ds.length = 1) (h : g_is_whole ds κ) : t_is_whole { nx := fun _ => κ .none, rt := fun d _ => κ d } (startE 1 ds) := by
  obtain ⟨i, rfl, w⟩ := h
  simp [t_is_whole, wSeq, wIfS, wOr, wAnd, wNot, wTest, wIsi, wVar, startE, Op.get, Op.clean, noDct, ty1, ty2, ty3, ty4, ty5, ty6, wNext, wIsN, wNotN, wRet, wRetT, wRetN, wAndV, wOrV, wNotV, wIf, wBin, wBlt, wC, wCons, wNil, wTup, dats, gets, wAsg, wN, wN2, wN3, wPar, wAug, wCall, wCallP, wSetL, wF, fLst, fBlt, wApp, wPut, wNeg, wLc, wYes, elW, wipeE, wTupRg, fRng1, wRng1, wRng2, wIt, wItV, it1, it2, it3, it4, wChain, wSl, wNoPart, wPart, wDPut, wDDisp, wDNew, kit1, kit2, kit3, kit4, kit5, kit6, kit7, kit8, kit9, kit10, kit11, kit12, kit13, kit14, kit15, kit16, kit17, kit18, kit19, kit20, kit21, kit22, kit23, kit24, kit25, kit26, kit27, kit28, kit29, kit30, mlLen, shp_bl, shp_int, shp_non, eqv_bl, eqv_ii]
  exact w
def g_is_from : DSp := fun ds κ => ∃ i l h, ds = [.int i, .int l, .int h] ∧ κ (.bool (decide (l ≤ i) && decide (i ≤ h)))
theorem mono_is_from : Mono g_is_from := fun ds p q h ⟨i, l, m, e, w⟩ => ⟨i, l, m, e, h _ w⟩
def t_is_from : DTS := wRet (wAndV (wCall 1 g_is_whole (wCons (wVar 0) (wNil))) (wChain LeR LeR (wVar 1) (wVar 0) (wVar 2)))
theorem pure_is_from (ds : List D) (κ : D → Prop) (hl : ds.length = 3) (h : g_is_from ds κ) : t_is_from { nx := fun _ => κ .none, rt := fun d _ => κ d } (startE 3 ds) := by
  obtain ⟨i, l, m, rfl, w⟩ := h
  simp [t_is_from, wSeq, wIfS, wOr, wAnd, wNot, wTest, wIsi, wVar, startE, Op.get, Op.clean, noDct, ty1, ty2, ty3, ty4, ty5, ty6, wNext, wIsN, wNotN, wRet, wRetT, wRetN, wAndV, wOrV, wNotV, wIf, wBin, wBlt, wC, wCons, wNil, wTup, dats, gets, wAsg, wN, wN2, wN3, wPar, wAug, wCall, wCallP, wSetL, wF, fLst, fBlt, wApp, wPut, wNeg, wLc, wYes, elW, wipeE, wTupRg, fRng1, wRng1, wRng2, wIt, wItV, it1, it2, it3, it4, wChain, wSl, wNoPart, wPart, wDPut, wDDisp, wDNew, kit1, kit2, kit3, kit4, kit5, kit6, kit7, kit8, kit9, kit10, kit11, kit12, kit13, kit14, kit15, kit16, kit17, kit18, kit19, kit20, kit21, kit22, kit23, kit24, kit25, kit26, kit27, kit28, kit29, kit30, mlLen, shp_bl, shp_int, shp_non, eqv_bl, eqv_ii, g_is_whole, LeR, IntR]
  by_cases h : l ≤ i
  · exact .inr ⟨h, by simpa [h] using w⟩
  · exact .inl ⟨by omega, by simpa [h] using w⟩
def g_is_row : DSp := fun ds κ => ∃ (r : List Nat) (m h : Int), ds = [encR r, .int m, .int h] ∧ r.length ≤ 1000 ∧ κ (.bool (decide ((r.length : Int) = m) && r.all fun x => decide ((x : Int) < h)))
theorem mono_is_row : Mono g_is_row := fun ds p q h ⟨r, m, i, e, l, w⟩ => ⟨r, m, i, e, l, h _ w⟩
def t_is_row : DTS := wRet (wAndV (wIsi "tuple" (wVar 0)) (wAndV (wBin EqR (wBlt LenR (wCons (wVar 0) (wNil))) (wVar 1)) (wBlt AllR (wCons (wLc (wIt (wVar 0) isTup) (wN 3) (wYes) (wCall 3 g_is_from (wCons (wVar 3) (wCons (wC (.int 0)) (wCons (wBin SubR (wVar 2) (wC (.int 1))) (wNil))))) [3]) (wNil)))))
theorem pure_is_row (ds : List D) (κ : D → Prop) (hl : ds.length = 3) (h : g_is_row ds κ) : t_is_row { nx := fun _ => κ .none, rt := fun d _ => κ d } (startE 4 ds) := by
  obtain ⟨r, m, i, rfl, hr, w⟩ := h
  simp [t_is_row, wSeq, wIfS, wOr, wAnd, wNot, wTest, wIsi, wVar, startE, Op.get, Op.clean, noDct, ty1, ty2, ty3, ty4, ty5, ty6, wNext, wIsN, wNotN, wRet, wRetT, wRetN, wAndV, wOrV, wNotV, wIf, wBin, wBlt, wC, wCons, wNil, wTup, dats, gets, wAsg, wN, wN2, wN3, wPar, wAug, wCall, wCallP, wSetL, wF, fLst, fBlt, wApp, wPut, wNeg, wLc, wYes, elW, wipeE, wTupRg, fRng1, wRng1, wRng2, wIt, wItV, it1, it2, it3, it4, wChain, wSl, wNoPart, wPart, wDPut, wDDisp, wDNew, kit1, kit2, kit3, kit4, kit5, kit6, kit7, kit8, kit9, kit10, kit11, kit12, kit13, kit14, kit15, kit16, kit17, kit18, kit19, kit20, kit21, kit22, kit23, kit24, kit25, kit26, kit27, kit28, kit29, kit30, mlLen, shp_bl, shp_int, shp_non, eqv_bl, eqv_ii, g_is_from, len_row, isTup_row, nd_row, ty_row, EqR]
  by_cases hm : (r.length : Int) = m
  · refine .inr ⟨hm, by omega, lcW_map dn (fun x => .bool (decide ((x : Int) < i))) r [] (fun x hx k w => ?_) ?_⟩
    · simp [wSeq, wIfS, wOr, wAnd, wNot, wTest, wIsi, wVar, startE, Op.get, Op.clean, noDct, ty1, ty2, ty3, ty4, ty5, ty6, wNext, wIsN, wNotN, wRet, wRetT, wRetN, wAndV, wOrV, wNotV, wIf, wBin, wBlt, wC, wCons, wNil, wTup, dats, gets, wAsg, wN, wN2, wN3, wPar, wAug, wCall, wCallP, wSetL, wF, fLst, fBlt, wApp, wPut, wNeg, wLc, wYes, elW, wipeE, wTupRg, fRng1, wRng1, wRng2, wIt, wItV, it1, it2, it3, it4, wChain, wSl, wNoPart, wPart, wDPut, wDDisp, wDNew, kit1, kit2, kit3, kit4, kit5, kit6, kit7, kit8, kit9, kit10, kit11, kit12, kit13, kit14, kit15, kit16, kit17, kit18, kit19, kit20, kit21, kit22, kit23, kit24, kit25, kit26, kit27, kit28, kit29, kit30, mlLen, shp_bl, shp_int, shp_non, eqv_bl, eqv_ii, SubR, IntR, dn, flatD]
      refine ⟨_, _, _, rfl, ?_⟩
      have e : decide ((x : Int) ≤ i - 1) = decide ((x : Int) < i) := decide_eq_decide.mpr (by omega)
      simpa [e] using w
    · refine ⟨_, ⟨r.map fun (x : Nat) => decide ((x : Int) < i), by simp [Function.comp_def], rfl⟩, ?_⟩
      simpa [hm, List.all_map, Function.comp_def] using w
  · exact .inl ⟨hm, by simpa [hm] using w⟩
def g_still : DSp := fun ds κ => ∃ n : Nat, ds = [.int n] ∧ n ≤ 1000 ∧ κ (encR (List.range n))
theorem mono_still : Mono g_still := fun ds p q h ⟨n, e, l, w⟩ => ⟨n, e, l, h _ w⟩
def t_still : DTS := wRet (wTupRg (wVar 0))
theorem pure_still (ds : List D) (κ : D → Prop) (hl : ds.length = 1) (h : g_still ds κ) : t_still { nx := fun _ => κ .none, rt := fun d _ => κ d } (startE 1 ds) := by
  obtain ⟨n, rfl, hn, w⟩ := h
  simp [t_still, wSeq, wIfS, wOr, wAnd, wNot, wTest, wIsi, wVar, startE, Op.get, Op.clean, noDct, ty1, ty2, ty3, ty4, ty5, ty6, wNext, wIsN, wNotN, wRet, wRetT, wRetN, wAndV, wOrV, wNotV, wIf, wBin, wBlt, wC, wCons, wNil, wTup, dats, gets, wAsg, wN, wN2, wN3, wPar, wAug, wCall, wCallP, wSetL, wF, fLst, fBlt, wApp, wPut, wNeg, wLc, wYes, elW, wipeE, wTupRg, fRng1, wRng1, wRng2, wIt, wItV, it1, it2, it3, it4, wChain, wSl, wNoPart, wPart, wDPut, wDDisp, wDNew, kit1, kit2, kit3, kit4, kit5, kit6, kit7, kit8, kit9, kit10, kit11, kit12, kit13, kit14, kit15, kit16, kit17, kit18, kit19, kit20, kit21, kit22, kit23, kit24, kit25, kit26, kit27, kit28, kit29, kit30, mlLen, shp_bl, shp_int, shp_non, eqv_bl, eqv_ii]
  exact ⟨by omega, by rw [rangeD_row]; exact w⟩
def beh (a b : List Nat) : List Nat := a.map (rg b)
def g_behind : DSp := fun ds κ => ∃ a b : List Nat, ds = [encR a, encR b] ∧ a.length ≤ 1000 ∧ (∀ x ∈ a, x < b.length) ∧ κ (encR (beh a b))
theorem mono_behind : Mono g_behind := fun ds p q h ⟨a, b, e, l, z, w⟩ => ⟨a, b, e, l, z, h _ w⟩
def t_behind : DTS := wRet (wBlt TupR (wCons (wLc (wIt (wVar 0) isTup) (wN 2) (wYes) (wBin IxD (wVar 1) (wVar 2)) [2]) (wNil)))
theorem pure_behind (ds : List D) (κ : D → Prop) (hl : ds.length = 2) (h : g_behind ds κ) : t_behind { nx := fun _ => κ .none, rt := fun d _ => κ d } (startE 3 ds) := by
  obtain ⟨a, b, rfl, ha, hb, w⟩ := h
  simp [t_behind, wSeq, wIfS, wOr, wAnd, wNot, wTest, wIsi, wVar, startE, Op.get, Op.clean, noDct, ty1, ty2, ty3, ty4, ty5, ty6, wNext, wIsN, wNotN, wRet, wRetT, wRetN, wAndV, wOrV, wNotV, wIf, wBin, wBlt, wC, wCons, wNil, wTup, dats, gets, wAsg, wN, wN2, wN3, wPar, wAug, wCall, wCallP, wSetL, wF, fLst, fBlt, wApp, wPut, wNeg, wLc, wYes, elW, wipeE, wTupRg, fRng1, wRng1, wRng2, wIt, wItV, it1, it2, it3, it4, wChain, wSl, wNoPart, wPart, wDPut, wDDisp, wDNew, kit1, kit2, kit3, kit4, kit5, kit6, kit7, kit8, kit9, kit10, kit11, kit12, kit13, kit14, kit15, kit16, kit17, kit18, kit19, kit20, kit21, kit22, kit23, kit24, kit25, kit26, kit27, kit28, kit29, kit30, mlLen, shp_bl, shp_int, shp_non, eqv_bl, eqv_ii, isTup_row]
  refine ⟨by omega, lcW_map dn (fun x => dn (rg b x)) a [] (fun x hx k w => ?_) ?_⟩
  · simp [wSeq, wIfS, wOr, wAnd, wNot, wTest, wIsi, wVar, startE, Op.get, Op.clean, noDct, ty1, ty2, ty3, ty4, ty5, ty6, wNext, wIsN, wNotN, wRet, wRetT, wRetN, wAndV, wOrV, wNotV, wIf, wBin, wBlt, wC, wCons, wNil, wTup, dats, gets, wAsg, wN, wN2, wN3, wPar, wAug, wCall, wCallP, wSetL, wF, fLst, fBlt, wApp, wPut, wNeg, wLc, wYes, elW, wipeE, wTupRg, fRng1, wRng1, wRng2, wIt, wItV, it1, it2, it3, it4, wChain, wSl, wNoPart, wPart, wDPut, wDDisp, wDNew, kit1, kit2, kit3, kit4, kit5, kit6, kit7, kit8, kit9, kit10, kit11, kit12, kit13, kit14, kit15, kit16, kit17, kit18, kit19, kit20, kit21, kit22, kit23, kit24, kit25, kit26, kit27, kit28, kit29, kit30, mlLen, shp_bl, shp_int, shp_non, eqv_bl, eqv_ii, ix_row', getD_of (hb x hx)]
    exact w
  · refine ⟨_, rfl, ?_⟩
    simpa [encR, beh, Function.comp_def] using w
/-! ### powers of a row -/
def RowOk (r : List Nat) : Prop := r.length ≤ 1000 ∧ ∀ x ∈ r, x < r.length
def rpow (r : List Nat) : Nat → List Nat
  | 0 => List.range r.length
  | k + 1 => beh (rpow r k) r
theorem len_beh (a b : List Nat) : (beh a b).length = a.length := by simp [beh]
theorem len_rpow (r : List Nat) : ∀ k, (rpow r k).length = r.length
  | 0 => by simp [rpow]
  | k + 1 => by simp [rpow, len_beh, len_rpow r k]
theorem rg_lt {b : List Nat} (hb : RowOk b) {x : Nat} (h : x < b.length) : rg b x < b.length := by
  have := getD_of h
  exact hb.2 _ (List.mem_of_getElem? this)
theorem beh_lt {a b : List Nat} (ha : ∀ x ∈ a, x < b.length) (hb : RowOk b) : ∀ x ∈ beh a b, x < b.length := fun x hx => by
  obtain ⟨y, hy, rfl⟩ := List.mem_map.mp hx
  exact rg_lt hb (ha y hy)
theorem rpow_lt {r : List Nat} (hr : RowOk r) : ∀ k, ∀ x ∈ rpow r k, x < r.length
  | 0, x, hx => by simpa [rpow] using hx
  | k + 1, x, hx => beh_lt (rpow_lt hr k) hr x hx
/-- the powers are alike from p on, by t, and no sooner -/
structure Sets (r : List Nat) (p t : Nat) : Prop where
  ok : RowOk r
  pos : 1 ≤ t
  few : p + t ≤ 100000
  back : rpow r (p + t) = rpow r p
  apart : ∀ i j, i < j → j < p + t → rpow r i ≠ rpow r j
def g_settles : DSp := fun ds κ => ∃ (r : List Nat) (p t : Nat), ds = [encR r] ∧ Sets r p t ∧ κ (.tuple [dn p, dn t])
theorem mono_settles : Mono g_settles := fun ds p q h ⟨r, i, t, e, s, w⟩ => ⟨r, i, t, e, s, h _ w⟩
def t_settles : DTS := wSeq (wSetL 1 (fLst (wCons (wCall 1 g_still (wCons (wBlt LenR (wCons (wVar 0) (wNil))) (wNil))) (wNil)))) (wSeq (wWhile (wTest (wBin (InR true) (wCall 2 g_behind (wCons (wBin IxD (wVar 1) (wNeg (wC (.int 1)))) (wCons (wVar 0) (wNil)))) (wVar 1))) (wApp 1 (wCall 2 g_behind (wCons (wBin IxD (wVar 1) (wNeg (wC (.int 1)))) (wCons (wVar 0) (wNil)))))) (wSeq (wAsg (wLIndex (wVar 1) (wCall 2 g_behind (wCons (wBin IxD (wVar 1) (wNeg (wC (.int 1)))) (wCons (wVar 0) (wNil))))) (wN 2)) (wRet (wTup (wCons (wVar 2) (wCons (wBin SubR (wBlt LenR (wCons (wVar 1) (wNil))) (wVar 2)) (wNil)))))))
def encL (rs : List (List Nat)) : List D := rs.map encR
theorem sm_list {rs : List (List Nat)} (hl : rs.length ≤ 100000) (h : ∀ r ∈ rs, r.length ≤ 100000) : Sm 2 (.list (encL rs)) := .lst (by simpa [encL] using hl) fun d hd => by
  obtain ⟨r, hr, rfl⟩ := List.mem_map.mp hd
  exact sm_row (h r hr)
theorem any_row {rs : List (List Nat)} {r : List Nat} : ((encL rs).any fun y => PyData.eqv y (encR r)) = decide (r ∈ rs) := by
  unfold encL
  induction rs with
  | nil => simp
  | cons a rs ih =>
    rw [List.map_cons, List.any_cons, ih, eqv_row]
    by_cases h : a = r
    · subst h; simp
    · have : ¬ r = a := fun e => h e.symm
      simp [h, this]
theorem in_rows {neg : Bool} {r : List Nat} {rs : List (List Nat)} {z : D} : InR neg (encR r) (.list (encL rs)) z = (shp (encR r) = true ∧ shp (.list (encL rs)) = true ∧ z = .bool (decide (r ∈ rs) != neg)) := by simp only [InR, any_row]
theorem ix_last {α : Type} {xs : List α} {v : α} {e : α → D} {z : D} : IxD (.list ((xs ++ [v]).map e)) (.int (-1)) z = (z = e v) := by
  simp only [IxD, List.map_append, List.map_cons, List.map_nil, atI_last, Option.some_inj]
  exact propext eq_comm
def pows (r : List Nat) (m : Nat) : List (List Nat) := (List.range m).map (rpow r)
theorem pows_succ (r : List Nat) (m : Nat) : pows r (m + 1) = pows r m ++ [rpow r m] := by simp [pows, List.range_succ]
theorem ix_pows {r : List Nat} {m : Nat} {z : D} : IxD (.list (encL (pows r (m + 1)))) (.int (-1)) z = (z = encR (rpow r m)) := by
  rw [pows_succ]
  exact ix_last
theorem mem_pows {r x : List Nat} {m : Nat} : x ∈ pows r m ↔ ∃ i, i < m ∧ rpow r i = x := by simp [pows]
theorem pure_settles (ds : List D) (κ : D → Prop) (hl : ds.length = 1) (h : g_settles ds κ) : t_settles { nx := fun _ => κ .none, rt := fun d _ => κ d } (startE 3 ds) := by
  obtain ⟨r, p, t, rfl, S, w⟩ := h
  have hrl := S.ok.1
  simp [t_settles, wSeq, wIfS, wOr, wAnd, wNot, wTest, wIsi, wVar, startE, Op.get, Op.clean, noDct, ty1, ty2, ty3, ty4, ty5, ty6, wNext, wIsN, wNotN, wRet, wRetT, wRetN, wAndV, wOrV, wNotV, wIf, wBin, wBlt, wC, wCons, wNil, wTup, dats, gets, wAsg, wN, wN2, wN3, wPar, wAug, wCall, wCallP, wSetL, wF, fLst, fBlt, wApp, wPut, wNeg, wLc, wYes, elW, wipeE, wTupRg, fRng1, wRng1, wRng2, wIt, wItV, it1, it2, it3, it4, wChain, wSl, wNoPart, wPart, wDPut, wDDisp, wDNew, kit1, kit2, kit3, kit4, kit5, kit6, kit7, kit8, kit9, kit10, kit11, kit12, kit13, kit14, kit15, kit16, kit17, kit18, kit19, kit20, kit21, kit22, kit23, kit24, kit25, kit26, kit27, kit28, kit29, kit30, mlLen, shp_bl, shp_int, shp_non, eqv_bl, eqv_ii, and_assoc, exists_and_left, row_iff, Int.ofNat_inj, flat_row, len_row, nd_row, ty_row, isTup_row, ix_row, ix_row', eqv_row, eq_dn, eq_ii, add_ii, lt_ii, le_ii, gt_ii, ge_ii, sub_ii, mod_ii, len_li, len_tu, g_still, hrl]
  intro a
  refine ⟨fun e => ∃ m, m + 1 ≤ p + t ∧ e = [.im (encR r), .ml a (encL (pows r (m + 1))), .un], fun e => 1000000 - mlLen 1 e, ⟨0, by have := S.pos; omega, rfl⟩, ?_⟩
  rintro e ⟨m, hm, rfl⟩
  have hpl : ∀ m, (encL (pows r m)).length = m := fun m => by simp [pows, encL]
  have sml : shp (.list (encL (pows r (m + 1)))) = true := (sm_list (by have := hpl (m + 1); simp [encL] at this; rw [this]; have := S.few; omega) fun x hx => by
    obtain ⟨i, _, rfl⟩ := mem_pows.mp hx
    rw [len_rpow]; omega).shp
  have hbl : (beh (rpow r m) r).length ≤ 100000 := by rw [len_beh, len_rpow]; omega
  have hsb := shp_row hbl
  have hlt : ∀ x ∈ rpow r m, x < r.length := rpow_lt S.ok m
  have few := S.few
  simp [wSeq, wIfS, wOr, wAnd, wNot, wTest, wIsi, wVar, startE, Op.get, Op.clean, noDct, ty1, ty2, ty3, ty4, ty5, ty6, wNext, wIsN, wNotN, wRet, wRetT, wRetN, wAndV, wOrV, wNotV, wIf, wBin, wBlt, wC, wCons, wNil, wTup, dats, gets, wAsg, wN, wN2, wN3, wPar, wAug, wCall, wCallP, wSetL, wF, fLst, fBlt, wApp, wPut, wNeg, wLc, wYes, elW, wipeE, wTupRg, fRng1, wRng1, wRng2, wIt, wItV, it1, it2, it3, it4, wChain, wSl, wNoPart, wPart, wDPut, wDDisp, wDNew, kit1, kit2, kit3, kit4, kit5, kit6, kit7, kit8, kit9, kit10, kit11, kit12, kit13, kit14, kit15, kit16, kit17, kit18, kit19, kit20, kit21, kit22, kit23, kit24, kit25, kit26, kit27, kit28, kit29, kit30, mlLen, shp_bl, shp_int, shp_non, eqv_bl, eqv_ii, and_assoc, exists_and_left, row_iff, Int.ofNat_inj, flat_row, len_row, nd_row, ty_row, isTup_row, ix_row, ix_row', eqv_row, eq_dn, eq_ii, add_ii, lt_ii, le_ii, gt_ii, ge_ii, sub_ii, mod_ii, len_li, len_tu, ix_pows, g_behind, in_rows, sml, hsb, len_rpow, hrl]
  refine ⟨hlt, ?_⟩
  have hp := S.pos
  by_cases hin : m + 1 = p + t
  · have e1 : beh (rpow r m) r = rpow r p := by
      show rpow r (m + 1) = _
      rw [hin, S.back]
    have e2 : rpow r p ∈ pows r (m + 1) := mem_pows.mpr ⟨p, by omega, rfl⟩
    have e3 : (encL (pows r (m + 1)))[p]? = some (encR (rpow r p)) := by simp [encL, pows, show p < m + 1 from by omega]
    simp [e1, e2]
    simp [wSeq, wIfS, wOr, wAnd, wNot, wTest, wIsi, wVar, startE, Op.get, Op.clean, noDct, ty1, ty2, ty3, ty4, ty5, ty6, wNext, wIsN, wNotN, wRet, wRetT, wRetN, wAndV, wOrV, wNotV, wIf, wBin, wBlt, wC, wCons, wNil, wTup, dats, gets, wAsg, wN, wN2, wN3, wPar, wAug, wCall, wCallP, wSetL, wF, fLst, fBlt, wApp, wPut, wNeg, wLc, wYes, elW, wipeE, wTupRg, fRng1, wRng1, wRng2, wIt, wItV, it1, it2, it3, it4, wChain, wSl, wNoPart, wPart, wDPut, wDDisp, wDNew, kit1, kit2, kit3, kit4, kit5, kit6, kit7, kit8, kit9, kit10, kit11, kit12, kit13, kit14, kit15, kit16, kit17, kit18, kit19, kit20, kit21, kit22, kit23, kit24, kit25, kit26, kit27, kit28, kit29, kit30, mlLen, shp_bl, shp_int, shp_non, eqv_bl, eqv_ii, and_assoc, exists_and_left, row_iff, Int.ofNat_inj, flat_row, len_row, nd_row, ty_row, isTup_row, ix_row, ix_row', eqv_row, eq_dn, eq_ii, add_ii, lt_ii, le_ii, gt_ii, ge_ii, sub_ii, mod_ii, len_li, len_tu, ix_pows, g_behind, wLIndex, sml, len_rpow, hrl, e1]
    refine ⟨hlt, shp_row (by rw [len_rpow]; omega), p, _, e3, by simp [eqv_row], fun i z hi hz => ?_, ?_⟩
    · have : z = encR (rpow r i) := by
        have : (encL (pows r (m + 1)))[i]? = some (encR (rpow r i)) := by simp [encL, pows, show i < m + 1 from by omega]
        rw [this] at hz
        exact (Option.some.inj hz).symm
      rw [this, eqv_row, decide_eq_false (S.apart i p hi (by omega))]
    · have e5 : (((encL (pows r (m + 1))).length : Nat) : Int) - (p : Int) = (t : Int) := by rw [hpl]; omega
      rw [e5]
      exact w
  · have e1 : beh (rpow r m) r ∉ pows r (m + 1) := fun h => by
      obtain ⟨i, hi, e⟩ := mem_pows.mp h
      exact S.apart i (m + 1) (by omega) (by omega) e
    simp [e1, hpl]
    exact ⟨hlt, by omega, ⟨m + 1, by omega, by rw [pows_succ r (m + 1)]; simp [encL, rpow]⟩, by omega⟩
/-! ### machines, words -/
def encM (n : Nat) (ls : List (List Nat)) : D := .tuple [dn n, .tuple (ls.map encR)]
structure MOk (n : Nat) (ls : List (List Nat)) : Prop where
  pos : 1 ≤ n
  few : n ≤ 1000
  lets : ls.length ≤ 3
  rows : ∀ r ∈ ls, r.length = n ∧ ∀ x ∈ r, x < n
theorem ix_m0 {n : Nat} {ls : List (List Nat)} {z : D} : IxD (encM n ls) (.int 0) z = (z = dn n) := by
  simp only [encM, IxD]
  rw [show ((0 : Int)) = ((0 : Nat) : Int) from rfl, atI_nat]
  simp [eq_comm]
theorem ix_m1 {n : Nat} {ls : List (List Nat)} {z : D} : IxD (encM n ls) (.int 1) z = (z = .tuple (encL ls)) := by
  simp only [encM, IxD, encL]
  rw [show ((1 : Int)) = ((1 : Nat) : Int) from rfl, atI_nat]
  simp [eq_comm]
theorem ix_ls {ls : List (List Nat)} {i : Nat} {z : D} : IxD (.tuple (encL ls)) (.int (i : Nat)) z = ((ls[i]?).map encR = some z) := by simp [encL, ixD_tup]
/-- words: the letters' numbers -/
def encW (w : List Nat) : D := .str ⟨(w.map (97 + ·)).toArray⟩
def letD (k : Nat) : D := .str ⟨#[97 + k]⟩
theorem isStr_w (w : List Nat) : isStr (encW w) = some (w.map letD) := by
  simp [encW, isStr, letD, Function.comp_def]
theorem occ_let {k : Nat} (h : k < 3) : Builtin.Str.occurrences "abc" ⟨#[97 + k]⟩ 0 (Str.length "abc") 1 = [k] := by
  have : k = 0 ∨ k = 1 ∨ k = 2 := by omega
  rcases this with rfl | rfl | rfl <;> decide +kernel
def rowAt (ls : List (List Nat)) (k : Nat) : List Nat := ls.getD k []
theorem rowAt_of {ls : List (List Nat)} {k : Nat} (h : k < ls.length) : ls[k]? = some (rowAt ls k) := by
  unfold rowAt
  rw [List.getD_eq_getElem?_getD, List.getElem?_eq_getElem h]
  rfl
theorem MOk.row {n : Nat} {ls : List (List Nat)} (m : MOk n ls) {k : Nat} (h : k < ls.length) : (rowAt ls k).length = n ∧ ∀ x ∈ rowAt ls k, x < n := m.rows _ (List.mem_of_getElem? (rowAt_of h))
def mapOf (n : Nat) (ls : List (List Nat)) (w : List Nat) : List Nat := w.foldl (fun f k => beh f (rowAt ls k)) (List.range n)
theorem mapOf_snoc {n : Nat} {ls : List (List Nat)} {w : List Nat} {k : Nat} : mapOf n ls (w ++ [k]) = beh (mapOf n ls w) (rowAt ls k) := by simp [mapOf, List.foldl_append]
theorem fold_ok {n : Nat} {ls : List (List Nat)} (m : MOk n ls) : ∀ (w : List Nat) (f : List Nat), (∀ k ∈ w, k < ls.length) → f.length = n → (∀ x ∈ f, x < n) → (w.foldl (fun f k => beh f (rowAt ls k)) f).length = n ∧ ∀ x ∈ w.foldl (fun f k => beh f (rowAt ls k)) f, x < n
  | [], f, _, h1, h2 => ⟨h1, h2⟩
  | k :: w, f, hw, h1, h2 => by
    have q := m.row (hw k List.mem_cons_self)
    rw [List.foldl_cons]
    refine fold_ok m w _ (fun j hj => hw j (List.mem_cons_of_mem _ hj)) (by rw [len_beh]; exact h1) (fun x hx => ?_)
    have := beh_lt (a := f) (b := rowAt ls k) (by rw [q.1]; exact h2) ⟨by rw [q.1]; exact m.few, by rw [q.1]; exact q.2⟩ x hx
    rwa [q.1] at this
theorem mapOf_ok {n : Nat} {ls : List (List Nat)} (m : MOk n ls) {w : List Nat} (hw : ∀ k ∈ w, k < ls.length) : (mapOf n ls w).length = n ∧ ∀ x ∈ mapOf n ls w, x < n :=
  fold_ok m w _ hw (by simp) fun x hx => by simpa using hx
def g_map_of : DSp := fun ds κ => ∃ (n : Nat) (ls : List (List Nat)) (w : List Nat), ds = [encM n ls, encW w] ∧ MOk n ls ∧ (∀ k ∈ w, k < ls.length) ∧ w.length ≤ 100000 ∧ κ (encR (mapOf n ls w))
theorem mono_map_of : Mono g_map_of := fun ds p q h ⟨n, ls, w, e, a, b, c, k⟩ => ⟨n, ls, w, e, a, b, c, h _ k⟩
def t_map_of : DTS := wSeq (wAsg (wCall 1 g_still (wCons (wBin IxD (wVar 0) (wC (.int 0))) (wNil))) (wN 2)) (wSeq (wFor (wIt (wVar 1) isStr) (wN 3) (wAsg (wCall 2 g_behind (wCons (wVar 2) (wCons (wBin IxD (wBin IxD (wVar 0) (wC (.int 1))) (wSIndex "abc" (wVar 3))) (wNil)))) (wN 2))) (wRet (wVar 2)))
theorem pure_map_of (ds : List D) (κ : D → Prop) (hl : ds.length = 2) (h : g_map_of ds κ) : t_map_of { nx := fun _ => κ .none, rt := fun d _ => κ d } (startE 4 ds) := by
  obtain ⟨n, ls, w, rfl, m, hw, hz, hk⟩ := h
  simp [t_map_of, wSeq, wIfS, wOr, wAnd, wNot, wTest, wIsi, wVar, startE, Op.get, Op.clean, noDct, ty1, ty2, ty3, ty4, ty5, ty6, wNext, wIsN, wNotN, wRet, wRetT, wRetN, wAndV, wOrV, wNotV, wIf, wBin, wBlt, wC, wCons, wNil, wTup, dats, gets, wAsg, wN, wN2, wN3, wPar, wAug, wCall, wCallP, wSetL, wF, fLst, fBlt, wApp, wPut, wNeg, wLc, wYes, elW, wipeE, wTupRg, fRng1, wRng1, wRng2, wIt, wItV, it1, it2, it3, it4, wChain, wSl, wNoPart, wPart, wDPut, wDDisp, wDNew, kit1, kit2, kit3, kit4, kit5, kit6, kit7, kit8, kit9, kit10, kit11, kit12, kit13, kit14, kit15, kit16, kit17, kit18, kit19, kit20, kit21, kit22, kit23, kit24, kit25, kit26, kit27, kit28, kit29, kit30, mlLen, shp_bl, shp_int, shp_non, eqv_bl, eqv_ii, and_assoc, exists_and_left, row_iff, Int.ofNat_inj, flat_row, len_row, nd_row, ty_row, isTup_row, ix_row, ix_row', eqv_row, eq_dn, eq_ii, add_ii, lt_ii, le_ii, gt_ii, ge_ii, sub_ii, mod_ii, len_li, len_tu, g_still, ix_m0, dn, m.few, wFor, isStr_w]
  refine forW_map letD (fun rest e => ∃ f s, e = [.im (encM n ls), .im (encW w), .im (encR f), s] ∧ f.length = n ∧ (∀ x ∈ f, x < n) ∧ (∀ k ∈ rest, k < ls.length) ∧ rest.foldl (fun f k => beh f (rowAt ls k)) f = mapOf n ls w) ?_ ?_ w _ ⟨_, _, rfl, by simp, fun x hx => by simpa using hx, hw, rfl⟩
  · rintro e ⟨f, s, rfl, h1, h2, h3, h4⟩
    rw [List.foldl_nil] at h4
    subst h4
    simpa [wSeq, wIfS, wOr, wAnd, wNot, wTest, wIsi, wVar, startE, Op.get, Op.clean, noDct, ty1, ty2, ty3, ty4, ty5, ty6, wNext, wIsN, wNotN, wRet, wRetT, wRetN, wAndV, wOrV, wNotV, wIf, wBin, wBlt, wC, wCons, wNil, wTup, dats, gets, wAsg, wN, wN2, wN3, wPar, wAug, wCall, wCallP, wSetL, wF, fLst, fBlt, wApp, wPut, wNeg, wLc, wYes, elW, wipeE, wTupRg, fRng1, wRng1, wRng2, wIt, wItV, it1, it2, it3, it4, wChain, wSl, wNoPart, wPart, wDPut, wDDisp, wDNew, kit1, kit2, kit3, kit4, kit5, kit6, kit7, kit8, kit9, kit10, kit11, kit12, kit13, kit14, kit15, kit16, kit17, kit18, kit19, kit20, kit21, kit22, kit23, kit24, kit25, kit26, kit27, kit28, kit29, kit30, mlLen, shp_bl, shp_int, shp_non, eqv_bl, eqv_ii, and_assoc, exists_and_left, row_iff, Int.ofNat_inj, flat_row, len_row, nd_row, ty_row, isTup_row, ix_row, ix_row', eqv_row, eq_dn, eq_ii, add_ii, lt_ii, le_ii, gt_ii, ge_ii, sub_ii, mod_ii, len_li, len_tu] using hk
  · rintro k rest e ⟨f, s, rfl, h1, h2, h3, h4⟩ N hN
    have hk3 : k < ls.length := h3 k List.mem_cons_self
    have q := m.row hk3
    have e1 := rowAt_of hk3
    simp [wSeq, wIfS, wOr, wAnd, wNot, wTest, wIsi, wVar, startE, Op.get, Op.clean, noDct, ty1, ty2, ty3, ty4, ty5, ty6, wNext, wIsN, wNotN, wRet, wRetT, wRetN, wAndV, wOrV, wNotV, wIf, wBin, wBlt, wC, wCons, wNil, wTup, dats, gets, wAsg, wN, wN2, wN3, wPar, wAug, wCall, wCallP, wSetL, wF, fLst, fBlt, wApp, wPut, wNeg, wLc, wYes, elW, wipeE, wTupRg, fRng1, wRng1, wRng2, wIt, wItV, it1, it2, it3, it4, wChain, wSl, wNoPart, wPart, wDPut, wDDisp, wDNew, kit1, kit2, kit3, kit4, kit5, kit6, kit7, kit8, kit9, kit10, kit11, kit12, kit13, kit14, kit15, kit16, kit17, kit18, kit19, kit20, kit21, kit22, kit23, kit24, kit25, kit26, kit27, kit28, kit29, kit30, mlLen, shp_bl, shp_int, shp_non, eqv_bl, eqv_ii, and_assoc, exists_and_left, row_iff, Int.ofNat_inj, flat_row, len_row, nd_row, ty_row, isTup_row, ix_row, ix_row', eqv_row, eq_dn, eq_ii, add_ii, lt_ii, le_ii, gt_ii, ge_ii, sub_ii, mod_ii, len_li, len_tu, ix_m1, wSIndex, letD, occ_let (Nat.lt_of_lt_of_le hk3 m.lets), ix_ls, e1, g_behind]
    refine ⟨by rw [h1]; exact m.few, fun x hx => by rw [q.1]; exact h2 x hx, hN _ ⟨_, _, rfl, by rw [len_beh]; exact h1, fun x hx => ?_, fun j hj => h3 j (List.mem_cons_of_mem _ hj), by rw [List.foldl_cons] at h4; exact h4⟩⟩
    have := beh_lt (a := f) (b := rowAt ls k) (by rw [q.1]; exact h2) ⟨by rw [q.1]; exact m.few, by rw [q.1]; exact q.2⟩ x hx
    rwa [q.1] at this
def g_after : DSp := fun ds κ => ∃ (n : Nat) (ls : List (List Nat)) (q : Nat) (w : List Nat), ds = [encM n ls, dn q, encW w] ∧ MOk n ls ∧ q < n ∧ (∀ k ∈ w, k < ls.length) ∧ w.length ≤ 100000 ∧ κ (dn (rg (mapOf n ls w) q))
theorem mono_after : Mono g_after := fun ds p q h ⟨n, ls, s, w, e, a, b, c, d, k⟩ => ⟨n, ls, s, w, e, a, b, c, d, h _ k⟩
def t_after : DTS := wRet (wBin IxD (wCall 2 g_map_of (wCons (wVar 0) (wCons (wVar 2) (wNil)))) (wVar 1))
theorem pure_after (ds : List D) (κ : D → Prop) (hl : ds.length = 3) (h : g_after ds κ) : t_after { nx := fun _ => κ .none, rt := fun d _ => κ d } (startE 3 ds) := by
  obtain ⟨n, ls, s, w, rfl, m, hs, hw, hz, hk⟩ := h
  simp [t_after, wSeq, wIfS, wOr, wAnd, wNot, wTest, wIsi, wVar, startE, Op.get, Op.clean, noDct, ty1, ty2, ty3, ty4, ty5, ty6, wNext, wIsN, wNotN, wRet, wRetT, wRetN, wAndV, wOrV, wNotV, wIf, wBin, wBlt, wC, wCons, wNil, wTup, dats, gets, wAsg, wN, wN2, wN3, wPar, wAug, wCall, wCallP, wSetL, wF, fLst, fBlt, wApp, wPut, wNeg, wLc, wYes, elW, wipeE, wTupRg, fRng1, wRng1, wRng2, wIt, wItV, it1, it2, it3, it4, wChain, wSl, wNoPart, wPart, wDPut, wDDisp, wDNew, kit1, kit2, kit3, kit4, kit5, kit6, kit7, kit8, kit9, kit10, kit11, kit12, kit13, kit14, kit15, kit16, kit17, kit18, kit19, kit20, kit21, kit22, kit23, kit24, kit25, kit26, kit27, kit28, kit29, kit30, mlLen, shp_bl, shp_int, shp_non, eqv_bl, eqv_ii, and_assoc, exists_and_left, row_iff, Int.ofNat_inj, flat_row, len_row, nd_row, ty_row, isTup_row, ix_row, ix_row', eqv_row, eq_dn, eq_ii, add_ii, lt_ii, le_ii, gt_ii, ge_ii, sub_ii, mod_ii, len_li, len_tu, g_map_of]
  refine ⟨n, ls, rfl, w, rfl, m, hw, hz, dn (rg (mapOf n ls w) s), ?_, hk⟩
  rw [getD_of (by rw [(mapOf_ok m hw).1]; exact hs)]
  exact ⟨_, rfl, rfl⟩
/-! ### rings -/
theorem nodup_len {α : Type} [DecidableEq α] : ∀ (l m : List α), l.Nodup → (∀ x ∈ l, x ∈ m) → l.length ≤ m.length
  | [], _, _, _ => Nat.zero_le _
  | a :: l, m, hn, hs => by
    obtain ⟨h1, h2⟩ := List.nodup_cons.mp hn
    have ha := hs a List.mem_cons_self
    have := nodup_len l (m.erase a) h2 fun x hx => (List.mem_erase_of_ne (fun e => h1 (by rw [← e]; exact hx))).mpr (hs x (List.mem_cons_of_mem _ hx))
    rw [List.length_erase_of_mem ha] at this
    have hp := List.length_pos_of_mem ha
    rw [List.length_cons]
    omega
theorem nodup_lt {l : List Nat} {n : Nat} (hn : l.Nodup) (h : ∀ x ∈ l, x < n) : l.length ≤ n := by
  have := nodup_len l (List.range n) hn fun x hx => List.mem_range.mpr (h x hx)
  simpa using this
theorem any_dn {rs : List Nat} {r : Nat} : ((rs.map dn).any fun y => PyData.eqv y (dn r)) = decide (r ∈ rs) := by
  induction rs with
  | nil => simp
  | cons a rs ih =>
    rw [List.map_cons, List.any_cons, ih, eqv_dn]
    by_cases h : a = r
    · subst h; simp
    · have : ¬ r = a := fun e => h e.symm
      simp [h, this]
def inN (x : Nat) (r : List Nat) : Bool := decide (x ∈ r)
theorem inN_t {x : Nat} {r : List Nat} (h : x ∈ r) : inN x r = true := decide_eq_true h
theorem inN_f {x : Nat} {r : List Nat} (h : ¬ x ∈ r) : inN x r = false := decide_eq_false h
theorem in_rowT {neg : Bool} {x : Nat} {r : List Nat} {z : D} : InR neg (dn x) (encR r) z = (shp (dn x) = true ∧ shp (encR r) = true ∧ z = .bool (inN x r != neg)) := by
  unfold inN
  rw [← any_dn]
  rfl
theorem iadd_row {a : List Nat} {x : Nat} {z : D} : IAddR (encR a) (.tuple [dn x]) z = (a.length + 1 ≤ 1000000 ∧ z = encR (a ++ [x])) := by
  simp [encR, IAddR]
def tpLen (i : Nat) (e : DEnv) : Nat := match e[i]? with
  | some (.im (.tuple ds)) => ds.length
  | _ => 0
theorem tpLen_row {e : DEnv} {i : Nat} {r : List Nat} (h : e[i]? = some (.im (encR r))) : tpLen i e = r.length := by
  unfold tpLen
  rw [h]
  simp [encR]
theorem ix_lastR {xs : List Nat} {v : Nat} {z : D} : IxD (encR (xs ++ [v])) (.int (-1)) z = (z = dn v) := by
  unfold encR
  simp only [IxD, List.map_append, List.map_cons, List.map_nil, atI_last, Option.some_inj]
  exact propext eq_comm
theorem shp_dn {x : Nat} : shp (dn x) = true := shp_int
/-- along the row from q, while it is new -/
def ringGo (r : List Nat) : Nat → List Nat → Nat → List Nat
  | 0, acc, _ => acc
  | n + 1, acc, x => if rg r x ∈ acc then acc else ringGo r n (acc ++ [rg r x]) (rg r x)
def ringFrom (r : List Nat) (q : Nat) : List Nat := ringGo r r.length [q] q
def isRingAt (r : List Nat) (q : Nat) : Bool := decide (rg r ((ringFrom r q).getLastD 0) = q) && decide (1 < (ringFrom r q).length)
def RingInv (r : List Nat) (q : Nat) (e : DEnv) : Prop := ∃ init y f, e = [.im (encR r), .im (dn q), .im (encR (init ++ [y]))] ∧ (init ++ [y]).Nodup ∧ (∀ x ∈ init ++ [y], x < r.length) ∧ ringGo r f (init ++ [y]) y = ringFrom r q ∧ f + init.length = r.length
def ringOf (r : List Nat) : Option (List Nat) := ((List.range r.length).find? (isRingAt r)).map (ringFrom r)
def encO (r : Option (List Nat)) : D := match r with
  | none => .none
  | some r => encR r
theorem encO_none : encO none = .none := rfl
theorem encO_some {r : List Nat} : encO (some r) = encR r := rfl
def g_ring_of : DSp := fun ds κ => ∃ r, ds = [encR r] ∧ RowOk r ∧ κ (encO (ringOf r))
theorem mono_ring_of : Mono g_ring_of := fun ds p q h ⟨r, e, a, k⟩ => ⟨r, e, a, h _ k⟩
def t_ring_of : DTS := wSeq (wFor (wRng1 (wBlt LenR (wCons (wVar 0) (wNil)))) (wN 1) (wSeq (wAsg (wTup (wCons (wVar 1) (wNil))) (wN 2)) (wSeq (wWhile (wTest (wBin (InR true) (wBin IxD (wVar 0) (wBin IxD (wVar 2) (wNeg (wC (.int 1))))) (wVar 2))) (wAug 2 IAddR (wTup (wCons (wBin IxD (wVar 0) (wBin IxD (wVar 2) (wNeg (wC (.int 1))))) (wNil))))) (wIfS (wAnd (wTest (wBin EqR (wBin IxD (wVar 0) (wBin IxD (wVar 2) (wNeg (wC (.int 1))))) (wVar 1))) (wTest (wBin GtR (wBlt LenR (wCons (wVar 2) (wNil))) (wC (.int 1))))) (wRet (wVar 2)) (wNext))))) (wRet (wC .none))
theorem pure_ring_of (ds : List D) (κ : D → Prop) (hl : ds.length = 1) (h : g_ring_of ds κ) : t_ring_of { nx := fun _ => κ .none, rt := fun d _ => κ d } (startE 3 ds) := by
  obtain ⟨r, rfl, ok, hk⟩ := h
  have hr := ok.1
  have hsr := shp_row (r := r) (by omega)
  simp [t_ring_of, wSeq, wIfS, wOr, wAnd, wNot, wTest, wIsi, wVar, startE, Op.get, Op.clean, noDct, ty1, ty2, ty3, ty4, ty5, ty6, wNext, wIsN, wNotN, wRet, wRetT, wRetN, wAndV, wOrV, wNotV, wIf, wBin, wBlt, wC, wCons, wNil, wTup, dats, gets, wAsg, wN, wN2, wN3, wPar, wAug, wCall, wCallP, wSetL, wF, fLst, fBlt, wApp, wPut, wNeg, wLc, wYes, elW, wipeE, wTupRg, fRng1, wRng1, wRng2, wIt, wItV, it1, it2, it3, it4, wChain, wSl, wNoPart, wPart, wDPut, wDDisp, wDNew, kit1, kit2, kit3, kit4, kit5, kit6, kit7, kit8, kit9, kit10, kit11, kit12, kit13, kit14, kit15, kit16, kit17, kit18, kit19, kit20, kit21, kit22, kit23, kit24, kit25, kit26, kit27, kit28, kit29, kit30, mlLen, shp_bl, shp_int, shp_non, eqv_bl, eqv_ii, and_assoc, exists_and_left, row_iff, Int.ofNat_inj, flat_row, len_row, nd_row, ty_row, isTup_row, ix_row, ix_row', eqv_row, eq_dn, eq_ii, add_ii, lt_ii, le_ii, gt_ii, ge_ii, sub_ii, mod_ii, len_li, len_tu, wFor, rangeD_row]
  refine ⟨by omega, ?_⟩
  refine forW_map dn (fun rest e => ∃ s t k, e = [.im (encR r), s, t] ∧ rest = (List.range r.length).drop k ∧ ∀ j, j < k → isRingAt r j = false) ?_ ?_ _ _ ⟨_, _, 0, rfl, by simp, fun j h => by omega⟩
  · rintro e ⟨s, t, k, rfl, h1, h2⟩
    have hk2 : r.length ≤ k := by simpa using h1
    have : ringOf r = none := by
      unfold ringOf
      rw [List.find?_eq_none.mpr fun x hx => by rw [h2 x (by have := List.mem_range.mp hx; omega)]; decide]
      rfl
    rw [this] at hk
    simpa [wSeq, wIfS, wOr, wAnd, wNot, wTest, wIsi, wVar, startE, Op.get, Op.clean, noDct, ty1, ty2, ty3, ty4, ty5, ty6, wNext, wIsN, wNotN, wRet, wRetT, wRetN, wAndV, wOrV, wNotV, wIf, wBin, wBlt, wC, wCons, wNil, wTup, dats, gets, wAsg, wN, wN2, wN3, wPar, wAug, wCall, wCallP, wSetL, wF, fLst, fBlt, wApp, wPut, wNeg, wLc, wYes, elW, wipeE, wTupRg, fRng1, wRng1, wRng2, wIt, wItV, it1, it2, it3, it4, wChain, wSl, wNoPart, wPart, wDPut, wDDisp, wDNew, kit1, kit2, kit3, kit4, kit5, kit6, kit7, kit8, kit9, kit10, kit11, kit12, kit13, kit14, kit15, kit16, kit17, kit18, kit19, kit20, kit21, kit22, kit23, kit24, kit25, kit26, kit27, kit28, kit29, kit30, mlLen, shp_bl, shp_int, shp_non, eqv_bl, eqv_ii, and_assoc, exists_and_left, row_iff, Int.ofNat_inj, flat_row, len_row, nd_row, ty_row, isTup_row, ix_row, ix_row', eqv_row, eq_dn, eq_ii, add_ii, lt_ii, le_ii, gt_ii, ge_ii, sub_ii, mod_ii, len_li, len_tu, encO_none] using hk
  · rintro q rest e ⟨s, t, k, rfl, h1, h2⟩ N hN
    have hkl : k < r.length := by
      rcases Nat.lt_or_ge k r.length with h | h
      · exact h
      · rw [List.drop_eq_nil_of_le (by simpa using h)] at h1; cases h1
    rw [List.drop_eq_getElem_cons (by simpa using hkl)] at h1
    have hq : q = k := by simpa using (List.cons.inj h1).1
    have hrest := (List.cons.inj h1).2
    subst hq
    simp [wSeq, wIfS, wOr, wAnd, wNot, wTest, wIsi, wVar, startE, Op.get, Op.clean, noDct, ty1, ty2, ty3, ty4, ty5, ty6, wNext, wIsN, wNotN, wRet, wRetT, wRetN, wAndV, wOrV, wNotV, wIf, wBin, wBlt, wC, wCons, wNil, wTup, dats, gets, wAsg, wN, wN2, wN3, wPar, wAug, wCall, wCallP, wSetL, wF, fLst, fBlt, wApp, wPut, wNeg, wLc, wYes, elW, wipeE, wTupRg, fRng1, wRng1, wRng2, wIt, wItV, it1, it2, it3, it4, wChain, wSl, wNoPart, wPart, wDPut, wDDisp, wDNew, kit1, kit2, kit3, kit4, kit5, kit6, kit7, kit8, kit9, kit10, kit11, kit12, kit13, kit14, kit15, kit16, kit17, kit18, kit19, kit20, kit21, kit22, kit23, kit24, kit25, kit26, kit27, kit28, kit29, kit30, mlLen, shp_bl, shp_int, shp_non, eqv_bl, eqv_ii, and_assoc, exists_and_left, row_iff, Int.ofNat_inj, flat_row, len_row, nd_row, ty_row, isTup_row, ix_row, ix_row', eqv_row, eq_dn, eq_ii, add_ii, lt_ii, le_ii, gt_ii, ge_ii, sub_ii, mod_ii, len_li, len_tu]
    refine ⟨RingInv r q, fun e => 1000000 - tpLen 2 e, ⟨[], q, r.length, rfl, by simp, by simpa using hkl, rfl, by simp⟩, ?_⟩
    rintro e ⟨init, y, f, rfl, g1, g2, g3, g4⟩
    have hy : y < r.length := g2 y (by simp)
    have hlen := nodup_lt g1 g2
    rw [List.length_append, List.length_singleton] at hlen
    have hsa := shp_row (r := init ++ [y]) (by simp; omega)
    by_cases hin : rg r y ∈ init ++ [y]
    · have hgo : ringFrom r q = init ++ [y] := by
        rw [← g3]
        cases f with
        | zero => rfl
        | succ f => unfold ringGo; rw [if_pos hin]
      have hx : rg r ((ringFrom r q).getLastD 0) = rg r y := by rw [hgo]; simp
      simp [wSeq, wIfS, wOr, wAnd, wNot, wTest, wIsi, wVar, startE, Op.get, Op.clean, noDct, ty1, ty2, ty3, ty4, ty5, ty6, wNext, wIsN, wNotN, wRet, wRetT, wRetN, wAndV, wOrV, wNotV, wIf, wBin, wBlt, wC, wCons, wNil, wTup, dats, gets, wAsg, wN, wN2, wN3, wPar, wAug, wCall, wCallP, wSetL, wF, fLst, fBlt, wApp, wPut, wNeg, wLc, wYes, elW, wipeE, wTupRg, fRng1, wRng1, wRng2, wIt, wItV, it1, it2, it3, it4, wChain, wSl, wNoPart, wPart, wDPut, wDDisp, wDNew, kit1, kit2, kit3, kit4, kit5, kit6, kit7, kit8, kit9, kit10, kit11, kit12, kit13, kit14, kit15, kit16, kit17, kit18, kit19, kit20, kit21, kit22, kit23, kit24, kit25, kit26, kit27, kit28, kit29, kit30, mlLen, shp_bl, shp_int, shp_non, eqv_bl, eqv_ii, and_assoc, exists_and_left, row_iff, Int.ofNat_inj, flat_row, len_row, nd_row, ty_row, isTup_row, ix_row, ix_row', eqv_row, eq_dn, eq_ii, add_ii, lt_ii, le_ii, gt_ii, ge_ii, sub_ii, mod_ii, len_li, len_tu, ix_lastR, ix_row', getD_of hy, in_rowT, shp_dn, hsa, inN_t hin, EqR, eqv_dn, GtR, IntR]
      by_cases hq : rg r y = q
      · by_cases hi : init = []
        · subst hi
          refine .inr ⟨hq, .inl ⟨by simp, hN _ ⟨_, _, q + 1, rfl, hrest, fun j hj => ?_⟩⟩⟩
          by_cases hjq : j = q
          · subst hjq
            unfold isRingAt
            rw [hgo]
            simp
          · exact h2 j (by omega)
        · have h1l : 1 < (init ++ [y]).length := by
            have := List.length_pos_iff.mpr hi
            simp; omega
          have hrq : isRingAt r q = true := by
            unfold isRingAt
            rw [hx, hgo, decide_eq_true hq, decide_eq_true h1l]
            rfl
          have hro : ringOf r = some (init ++ [y]) := by
            unfold ringOf
            have : (List.range r.length).find? (isRingAt r) = some q := by
              rw [List.find?_range_eq_some]
              exact ⟨hrq, by simpa using hkl, fun j hj => by rw [h2 j hj]; rfl⟩
            rw [this]
            simp [hgo]
          rw [hro] at hk
          have := List.length_pos_iff.mpr hi
          exact .inr ⟨hq, .inr ⟨by omega, hk⟩⟩
      · refine .inl ⟨hq, hN _ ⟨_, _, q + 1, rfl, hrest, fun j hj => ?_⟩⟩
        by_cases hjq : j = q
        · subst hjq
          unfold isRingAt
          rw [hx, decide_eq_false hq]
          rfl
        · exact h2 j (by omega)
    · cases f with
      | zero =>
        exfalso
        have hn2 : ((init ++ [y]) ++ [rg r y]).Nodup := List.nodup_append.mpr ⟨g1, by simp, fun a ha b hb e => by simp at hb; subst hb; subst e; exact hin ha⟩
        have := nodup_lt hn2 fun x hx => by
          rcases List.mem_append.mp hx with h | h
          · exact g2 x h
          · simp at h; subst h; exact rg_lt ok hy
        simp at this
        omega
      | succ f =>
        have hn2 : ((init ++ [y]) ++ [rg r y]).Nodup := List.nodup_append.mpr ⟨g1, by simp, fun a ha b hb e => by simp at hb; subst hb; subst e; exact hin ha⟩
        have hgo : ringGo r f ((init ++ [y]) ++ [rg r y]) (rg r y) = ringFrom r q := by
          rw [← g3]
          show _ = ringGo r (f + 1) (init ++ [y]) y
          conv => rhs; unfold ringGo
          rw [if_neg hin]
        simp [wSeq, wIfS, wOr, wAnd, wNot, wTest, wIsi, wVar, startE, Op.get, Op.clean, noDct, ty1, ty2, ty3, ty4, ty5, ty6, wNext, wIsN, wNotN, wRet, wRetT, wRetN, wAndV, wOrV, wNotV, wIf, wBin, wBlt, wC, wCons, wNil, wTup, dats, gets, wAsg, wN, wN2, wN3, wPar, wAug, wCall, wCallP, wSetL, wF, fLst, fBlt, wApp, wPut, wNeg, wLc, wYes, elW, wipeE, wTupRg, fRng1, wRng1, wRng2, wIt, wItV, it1, it2, it3, it4, wChain, wSl, wNoPart, wPart, wDPut, wDDisp, wDNew, kit1, kit2, kit3, kit4, kit5, kit6, kit7, kit8, kit9, kit10, kit11, kit12, kit13, kit14, kit15, kit16, kit17, kit18, kit19, kit20, kit21, kit22, kit23, kit24, kit25, kit26, kit27, kit28, kit29, kit30, mlLen, shp_bl, shp_int, shp_non, eqv_bl, eqv_ii, and_assoc, exists_and_left, row_iff, Int.ofNat_inj, flat_row, len_row, nd_row, ty_row, isTup_row, ix_row, ix_row', eqv_row, eq_dn, eq_ii, add_ii, lt_ii, le_ii, gt_ii, ge_ii, sub_ii, mod_ii, len_li, len_tu, ix_lastR, ix_row', getD_of hy, in_rowT, shp_dn, hsa, inN_f hin, iadd_row]
        refine ⟨by omega, ⟨init ++ [y], rg r y, f, by simp, hn2, fun x hx => ?_, hgo, by simp; omega⟩, ?_⟩
        · rcases List.mem_append.mp hx with h | h
          · exact g2 x h
          · simp at h; subst h; exact rg_lt ok hy
        · rw [tpLen_row (r := init ++ [y, rg r y]) rfl, tpLen_row (r := init ++ [y]) rfl]
          simp
          omega
/-! ### all maps of a machine -/
def bstep (ls : List (List Nat)) (at_ : Nat) (s : List (List Nat) × List (List Nat)) (k : Nat) : List (List Nat) × List (List Nat) :=
  if beh (rowAt s.1 at_) (rowAt ls k) ∈ s.1 then s else (s.1 ++ [beh (rowAt s.1 at_) (rowAt ls k)], s.2 ++ [rowAt s.2 at_ ++ [k]])
def bfs (ls : List (List Nat)) : Nat → List (List Nat) × List (List Nat) → Nat → List (List Nat) × List (List Nat)
  | 0, s, _ => s
  | f + 1, s, at_ => if at_ < s.1.length then bfs ls f ((List.range ls.length).foldl (bstep ls at_) s) (at_ + 1) else s
def mapsM (f n : Nat) (ls : List (List Nat)) : List (List Nat) × List (List Nat) := bfs ls f ([List.range n], [[]]) 0
/-- a set of rows that holds all maps -/
structure Univ (n : Nat) (ls U : List (List Nat)) : Prop where
  few : U.length ≤ 50000
  one : List.range n ∈ U
  cl : ∀ r ∈ U, ∀ k, k < ls.length → beh r (rowAt ls k) ∈ U
/-- what is known of the maps found -/
structure BInv (n : Nat) (ls U : List (List Nat)) (s : List (List Nat) × List (List Nat)) : Prop where
  len : s.1.length = s.2.length
  nd : s.1.Nodup
  sub : ∀ r ∈ s.1, r ∈ U
  wd : ∀ (i : Nat) w, s.2[i]? = some w → (∀ k ∈ w, k < ls.length) ∧ w.length ≤ i ∧ s.1[i]? = some (mapOf n ls w)
  one : s.1[0]? = some (List.range n)
theorem BInv.few {n : Nat} {ls U : List (List Nat)} {s : List (List Nat) × List (List Nat)} (I : BInv n ls U s) (u : Univ n ls U) : s.1.length ≤ U.length := nodup_len _ _ I.nd I.sub
theorem BInv.row {n : Nat} {ls U : List (List Nat)} {s : List (List Nat) × List (List Nat)} (I : BInv n ls U s) {i : Nat} (h : i < s.1.length) : ∃ w, s.2[i]? = some w ∧ rowAt s.1 i = mapOf n ls w ∧ rowAt s.2 i = w ∧ (∀ k ∈ w, k < ls.length) ∧ w.length ≤ i := by
  have h2 : i < s.2.length := by rw [← I.len]; exact h
  have e := rowAt_of h2
  obtain ⟨a, b, c⟩ := I.wd i _ e
  rw [rowAt_of h] at c
  exact ⟨_, e, Option.some.inj c, rfl, a, b⟩
theorem BInv.step {n : Nat} {ls U : List (List Nat)} {s : List (List Nat) × List (List Nat)} {at_ k : Nat} (m : MOk n ls) (u : Univ n ls U) (I : BInv n ls U s) (ha : at_ < s.1.length) (hk : k < ls.length) : BInv n ls U (bstep ls at_ s k) := by
  unfold bstep
  split
  · exact I
  · rename_i hn
    obtain ⟨w, e1, e2, e3, e4, e5⟩ := I.row ha
    have hb : beh (rowAt s.1 at_) (rowAt ls k) = mapOf n ls (w ++ [k]) := by rw [e2, mapOf_snoc]
    refine ⟨by simp [I.len], List.nodup_append.mpr ⟨I.nd, by simp, fun a ha b hb e => by simp at hb; subst hb; subst e; exact hn ha⟩, fun r hr => ?_, fun i v hv => ?_, ?_⟩
    · rcases List.mem_append.mp hr with h | h
      · exact I.sub r h
      · simp at h; subst h
        exact u.cl _ (I.sub _ (List.mem_of_getElem? (rowAt_of ha))) k hk
    · rcases Nat.lt_or_ge i s.2.length with h | h
      · rw [List.getElem?_append_left h] at hv
        rw [List.getElem?_append_left (by rw [I.len]; exact h)]
        exact I.wd i v hv
      · rw [List.getElem?_append_right h] at hv
        have hi : i = s.2.length := by
          rcases Nat.eq_zero_or_pos (i - s.2.length) with z | z
          · omega
          · rw [List.getElem?_eq_none (by simp; omega)] at hv; cases hv
        subst hi
        simp at hv
        subst hv
        rw [e3]
        refine ⟨fun j hj => ?_, by have := I.len; simp; omega, ?_⟩
        · rcases List.mem_append.mp hj with h | h
          · exact e4 j h
          · simp at h; subst h; exact hk
        · rw [List.getElem?_append_right (by rw [I.len]; exact Nat.le_refl _), I.len]
          simp [hb]
    · have : 0 < s.1.length := by omega
      rw [List.getElem?_append_left this]
      exact I.one
theorem bstep_len {ls : List (List Nat)} {at_ k : Nat} {s : List (List Nat) × List (List Nat)} : s.1.length ≤ (bstep ls at_ s k).1.length := by
  unfold bstep
  split <;> simp
theorem BInv.fold {n : Nat} {ls U : List (List Nat)} {at_ : Nat} (m : MOk n ls) (u : Univ n ls U) : ∀ (ks : List Nat) (s : List (List Nat) × List (List Nat)), BInv n ls U s → at_ < s.1.length → (∀ k ∈ ks, k < ls.length) → BInv n ls U (ks.foldl (bstep ls at_) s)
  | [], s, I, _, _ => I
  | k :: ks, s, I, ha, hk => by
    rw [List.foldl_cons]
    exact BInv.fold m u ks _ (I.step m u ha (hk k List.mem_cons_self)) (Nat.lt_of_lt_of_le ha bstep_len) fun j hj => hk j (List.mem_cons_of_mem _ hj)
theorem BInv.bfs {n : Nat} {ls U : List (List Nat)} (m : MOk n ls) (u : Univ n ls U) : ∀ (f : Nat) (s : List (List Nat) × List (List Nat)) (at_ : Nat), BInv n ls U s → BInv n ls U (bfs ls f s at_)
  | 0, s, _, I => I
  | f + 1, s, at_, I => by
    unfold DL.bfs
    split
    · rename_i h
      exact BInv.bfs m u f _ _ (I.fold m u _ _ h fun k hk => List.mem_range.mp hk)
    · exact I
theorem BInv.init {n : Nat} {ls U : List (List Nat)} (u : Univ n ls U) : BInv n ls U ([List.range n], [[]]) :=
  ⟨rfl, by simp, fun r hr => by simp at hr; subst hr; exact u.one, fun i w h => by
    cases i with
    | zero => simp at h; subst h; exact ⟨by simp, Nat.le_refl _, rfl⟩
    | succ i => simp at h, rfl⟩
theorem maps_inv {n f : Nat} {ls U : List (List Nat)} (m : MOk n ls) (u : Univ n ls U) : BInv n ls U (mapsM f n ls) := BInv.bfs m u f _ _ (BInv.init u)
/-- as they are told -/
def encFW (s : List (List Nat) × List (List Nat)) : D := .tuple [.list (encL s.1), .list (s.2.map encW)]
def g_maps : DSp := fun ds κ => ∃ (n : Nat) (ls U : List (List Nat)), ds = [encM n ls] ∧ MOk n ls ∧ Univ n ls U ∧ κ (encFW (mapsM (U.length + 1) n ls))
theorem mono_maps : Mono g_maps := fun ds p q h ⟨n, ls, U, e, a, b, k⟩ => ⟨n, ls, U, e, a, b, h _ k⟩
def t_maps : DTS := wSeq (wSetL 1 (fLst (wCons (wCall 1 g_still (wCons (wBin IxD (wVar 0) (wC (.int 0))) (wNil))) (wNil)))) (wSeq (wSetL 2 (fLst (wCons (wC (.str "")) (wNil)))) (wSeq (wDDisp 3 (wBin IxD (wVar 1) (wC (.int 0))) (wC (.bool true))) (wSeq (wAsg (wC (.int 0)) (wN 4)) (wSeq (wWhile (wTest (wBin LtR (wVar 4) (wBlt LenR (wCons (wVar 1) (wNil))))) (wSeq (wFor (wRng1 (wBlt LenR (wCons (wBin IxD (wVar 0) (wC (.int 1))) (wNil)))) (wN 5) (wSeq (wAsg (wCall 2 g_behind (wCons (wBin IxD (wVar 1) (wVar 4)) (wCons (wBin IxD (wBin IxD (wVar 0) (wC (.int 1))) (wVar 5)) (wNil)))) (wN 6)) (wIfS (wTest (wBin (InDR true) (wVar 6) (wVar 3))) (wSeq (wDPut 3 (wVar 6) (wC (.bool true))) (wSeq (wApp 1 (wVar 6)) (wApp 2 (wBin AddR (wBin IxD (wVar 2) (wVar 4)) (wBin IxD (wC (.str "abc")) (wVar 5)))))) (wNext)))) (wAug 4 IAddR (wC (.int 1))))) (wRetT (wCons (wVar 1) (wCons (wVar 2) (wNil))))))))
def seenD (F : List (List Nat)) : List (D × D) := F.map fun r => (encR r, .bool true)
theorem seen_get (r : List Nat) : ∀ F : List (List Nat), (dget (seenD F) (encR r)).isSome = decide (r ∈ F)
  | [] => by simp [seenD, dget]
  | a :: F => by
    unfold seenD
    rw [List.map_cons]
    by_cases h : a = r
    · subst h
      rw [dget_pos (by rw [eqv_row]; simp)]
      simp
    · rw [dget_neg (by rw [eqv_row]; simp [h])]
      have := seen_get r F
      unfold seenD at this
      rw [this]
      have h2 : ¬ r = a := fun e => h e.symm
      simp [h2]
theorem seen_put {r : List Nat} {F : List (List Nat)} (h : ¬ r ∈ F) : dput (seenD F) (encR r) (.bool true) = seenD (F ++ [r]) := by
  unfold dput
  rw [seen_get, decide_eq_false h]
  simp [seenD]
def intAt (i : Nat) (e : DEnv) : Nat := match e[i]? with
  | some (.im (.int v)) => v.toNat
  | _ => 0
theorem encW_snoc {w : List Nat} {k : Nat} : (⟨(w.map (97 + ·)).toArray⟩ : Str) ++ (⟨#[97 + k]⟩ : Str) = ⟨((w ++ [k]).map (97 + ·)).toArray⟩ := by
  show Str.append _ _ = _
  unfold Str.append
  simp
def MEnv (n : Nat) (ls : List (List Nat)) (a1 a2 a3 : Addr) (s : List (List Nat) × List (List Nat)) (at_ : Nat) (s5 s6 : Sl) : DEnv :=
  [.im (encM n ls), .ml a1 (encL s.1), .ml a2 (s.2.map encW), .md true a3 (seenD s.1), .im (.int (at_ : Nat)), s5, s6]
theorem empty_w : PyData.str (Str.ofString "") = encW [] := by
  have : Str.ofString "" = ⟨#[]⟩ := by decide +kernel
  rw [this]
  rfl
theorem len_encL {rs : List (List Nat)} : (encL rs).length = rs.length := by simp [encL]
theorem ix_L {rs : List (List Nat)} {i : Nat} {z : D} : IxD (.list (encL rs)) (.int (i : Nat)) z = ((rs[i]?).map encR = some z) := by simp [encL, ixD_list]
theorem ix_W {ws : List (List Nat)} {i : Nat} {z : D} : IxD (.list (ws.map encW)) (.int (i : Nat)) z = ((ws[i]?).map encW = some z) := by simp [ixD_list]
theorem ix_abc {k : Nat} (h : k < 3) {z : D} : IxD (.str "abc") (.int (k : Nat)) z = (z = letD k) := by
  have e : k = 0 ∨ k = 1 ∨ k = 2 := by omega
  have hs : Str.ofString "abc" = ⟨#[97, 98, 99]⟩ := by decide +kernel
  rw [hs]
  unfold IxD
  rcases e with rfl | rfl | rfl <;> simp [atI, ixN, letD, Str.length]
theorem add_w {w : List Nat} {k : Nat} (h : w.length ≤ 100000) {z : D} : AddR (encW w) (letD k) z = (z = encW (w ++ [k])) := by
  have : ((⟨(w.map (97 + ·)).toArray⟩ : Str).length + (⟨#[97 + k]⟩ : Str).length ≤ 1000000) = True := by
    simp [Str.length]
    omega
  unfold encW letD
  simp only [AddR, this, true_and, encW_snoc]
def MapsI (n : Nat) (ls U : List (List Nat)) (a1 a2 a3 : Addr) (e : DEnv) : Prop := ∃ s at_ f s5 s6, e = MEnv n ls a1 a2 a3 s at_ s5 s6 ∧ BInv n ls U s ∧ bfs ls f s at_ = mapsM (U.length + 1) n ls ∧ U.length + 1 = f + at_
def MapsJ (n : Nat) (ls U : List (List Nat)) (a1 a2 a3 : Addr) (at_ : Nat) (R : List (List Nat) × List (List Nat)) (ks : List Nat) (e : DEnv) : Prop := ∃ s s5 s6, e = MEnv n ls a1 a2 a3 s at_ s5 s6 ∧ BInv n ls U s ∧ at_ < s.1.length ∧ (∀ k ∈ ks, k < ls.length) ∧ ks.foldl (bstep ls at_) s = R
theorem pure_maps (ds : List D) (κ : D → Prop) (hl : ds.length = 1) (h : g_maps ds κ) : t_maps { nx := fun _ => κ .none, rt := fun d _ => κ d } (startE 7 ds) := by
  obtain ⟨n, ls, U, rfl, m, u, hk⟩ := h
  have i0 : ∀ {x : List Nat} {z : D}, IxD (.list [encR x]) (.int 0) z = (z = encR x) := fun {x z} => by
    have := @ix_L [x] 0 z
    simp [encL] at this
    exact propext (this.trans eq_comm)
  simp [t_maps, wSeq, wIfS, wOr, wAnd, wNot, wTest, wIsi, wVar, startE, Op.get, Op.clean, noDct, ty1, ty2, ty3, ty4, ty5, ty6, wNext, wIsN, wNotN, wRet, wRetT, wRetN, wAndV, wOrV, wNotV, wIf, wBin, wBlt, wC, wCons, wNil, wTup, dats, gets, wAsg, wN, wN2, wN3, wPar, wAug, wCall, wCallP, wSetL, wF, fLst, fBlt, wApp, wPut, wNeg, wLc, wYes, elW, wipeE, wTupRg, fRng1, wRng1, wRng2, wIt, wItV, it1, it2, it3, it4, wChain, wSl, wNoPart, wPart, wDPut, wDDisp, wDNew, kit1, kit2, kit3, kit4, kit5, kit6, kit7, kit8, kit9, kit10, kit11, kit12, kit13, kit14, kit15, kit16, kit17, kit18, kit19, kit20, kit21, kit22, kit23, kit24, kit25, kit26, kit27, kit28, kit29, kit30, mlLen, shp_bl, shp_int, shp_non, eqv_bl, eqv_ii, and_assoc, exists_and_left, row_iff, Int.ofNat_inj, flat_row, len_row, nd_row, ty_row, isTup_row, ix_row, ix_row', eqv_row, eq_dn, eq_ii, add_ii, lt_ii, le_ii, gt_ii, ge_ii, sub_ii, mod_ii, len_li, len_tu, g_still, ix_m0, dn, m.few, i0, key_row]
  intro a1 a2 a3
  refine ⟨MapsI n ls U a1 a2 a3, fun e => 1000000 - intAt 4 e, ⟨([List.range n], [[]]), 0, U.length + 1, .un, .un, by simp [MEnv, encL, seenD, empty_w], BInv.init u, rfl, rfl⟩, ?_⟩
  rintro e ⟨s, at_, f, s5, s6, rfl, I, hb, hf⟩
  have hfew := I.few u
  have hu := u.few
  simp [MEnv, wSeq, wIfS, wOr, wAnd, wNot, wTest, wIsi, wVar, startE, Op.get, Op.clean, noDct, ty1, ty2, ty3, ty4, ty5, ty6, wNext, wIsN, wNotN, wRet, wRetT, wRetN, wAndV, wOrV, wNotV, wIf, wBin, wBlt, wC, wCons, wNil, wTup, dats, gets, wAsg, wN, wN2, wN3, wPar, wAug, wCall, wCallP, wSetL, wF, fLst, fBlt, wApp, wPut, wNeg, wLc, wYes, elW, wipeE, wTupRg, fRng1, wRng1, wRng2, wIt, wItV, it1, it2, it3, it4, wChain, wSl, wNoPart, wPart, wDPut, wDDisp, wDNew, kit1, kit2, kit3, kit4, kit5, kit6, kit7, kit8, kit9, kit10, kit11, kit12, kit13, kit14, kit15, kit16, kit17, kit18, kit19, kit20, kit21, kit22, kit23, kit24, kit25, kit26, kit27, kit28, kit29, kit30, mlLen, shp_bl, shp_int, shp_non, eqv_bl, eqv_ii, and_assoc, exists_and_left, row_iff, Int.ofNat_inj, flat_row, len_row, nd_row, ty_row, isTup_row, ix_row, ix_row', eqv_row, eq_dn, eq_ii, add_ii, lt_ii, le_ii, gt_ii, ge_ii, sub_ii, mod_ii, len_li, len_tu, LtR, IntR, LenR, len_encL]
  by_cases hat : at_ < s.1.length
  · right
    refine ⟨hat, ?_⟩
    cases f with
    | zero => omega
    | succ f =>
      have hb' : bfs ls f ((List.range ls.length).foldl (bstep ls at_) s) (at_ + 1) = mapsM (U.length + 1) n ls := by
        rw [← hb]
        conv => rhs; unfold bfs
        rw [if_pos hat]
      simp [wSeq, wIfS, wOr, wAnd, wNot, wTest, wIsi, wVar, startE, Op.get, Op.clean, noDct, ty1, ty2, ty3, ty4, ty5, ty6, wNext, wIsN, wNotN, wRet, wRetT, wRetN, wAndV, wOrV, wNotV, wIf, wBin, wBlt, wC, wCons, wNil, wTup, dats, gets, wAsg, wN, wN2, wN3, wPar, wAug, wCall, wCallP, wSetL, wF, fLst, fBlt, wApp, wPut, wNeg, wLc, wYes, elW, wipeE, wTupRg, fRng1, wRng1, wRng2, wIt, wItV, it1, it2, it3, it4, wChain, wSl, wNoPart, wPart, wDPut, wDDisp, wDNew, kit1, kit2, kit3, kit4, kit5, kit6, kit7, kit8, kit9, kit10, kit11, kit12, kit13, kit14, kit15, kit16, kit17, kit18, kit19, kit20, kit21, kit22, kit23, kit24, kit25, kit26, kit27, kit28, kit29, kit30, mlLen, shp_bl, shp_int, shp_non, eqv_bl, eqv_ii, and_assoc, exists_and_left, row_iff, Int.ofNat_inj, flat_row, len_row, nd_row, ty_row, isTup_row, ix_row, ix_row', eqv_row, eq_dn, eq_ii, add_ii, lt_ii, le_ii, gt_ii, ge_ii, sub_ii, mod_ii, len_li, len_tu, ix_m1, wFor, LenR, len_encL, rangeD_row]
      refine ⟨by have := m.lets; omega, ?_⟩
      refine forW_map dn (MapsJ n ls U a1 a2 a3 at_ ((List.range ls.length).foldl (bstep ls at_) s)) ?_ ?_ _ _ ⟨s, s5, s6, rfl, I, hat, fun k hk => List.mem_range.mp hk, rfl⟩
      · rintro e ⟨s', t5, t6, rfl, I', hat', _, rfl⟩
        simp [MEnv, wSeq, wIfS, wOr, wAnd, wNot, wTest, wIsi, wVar, startE, Op.get, Op.clean, noDct, ty1, ty2, ty3, ty4, ty5, ty6, wNext, wIsN, wNotN, wRet, wRetT, wRetN, wAndV, wOrV, wNotV, wIf, wBin, wBlt, wC, wCons, wNil, wTup, dats, gets, wAsg, wN, wN2, wN3, wPar, wAug, wCall, wCallP, wSetL, wF, fLst, fBlt, wApp, wPut, wNeg, wLc, wYes, elW, wipeE, wTupRg, fRng1, wRng1, wRng2, wIt, wItV, it1, it2, it3, it4, wChain, wSl, wNoPart, wPart, wDPut, wDDisp, wDNew, kit1, kit2, kit3, kit4, kit5, kit6, kit7, kit8, kit9, kit10, kit11, kit12, kit13, kit14, kit15, kit16, kit17, kit18, kit19, kit20, kit21, kit22, kit23, kit24, kit25, kit26, kit27, kit28, kit29, kit30, mlLen, shp_bl, shp_int, shp_non, eqv_bl, eqv_ii, and_assoc, exists_and_left, row_iff, Int.ofNat_inj, flat_row, len_row, nd_row, ty_row, isTup_row, ix_row, ix_row', eqv_row, eq_dn, eq_ii, add_ii, lt_ii, le_ii, gt_ii, ge_ii, sub_ii, mod_ii, len_li, len_tu, IAddR]
        refine ⟨⟨(List.range ls.length).foldl (bstep ls at_) s, at_ + 1, f, t5, t6, by simp [MEnv], I', hb', by omega⟩, ?_⟩
        simp [intAt]
        omega
      · rintro k rest e ⟨s', t5, t6, rfl, I', hat', hks, hR⟩ N hN
        have hk3 : k < ls.length := hks k List.mem_cons_self
        have hrest : ∀ j ∈ rest, j < ls.length := fun j hj => hks j (List.mem_cons_of_mem _ hj)
        obtain ⟨w, w1, w2, w3, w4, w5⟩ := I'.row hat'
        have q := m.row hk3
        have mo := mapOf_ok m w4
        have e1 := rowAt_of hk3
        have e2 := rowAt_of hat'
        have few' := I'.few u
        rw [List.foldl_cons] at hR
        simp [MEnv, wSeq, wIfS, wOr, wAnd, wNot, wTest, wIsi, wVar, startE, Op.get, Op.clean, noDct, ty1, ty2, ty3, ty4, ty5, ty6, wNext, wIsN, wNotN, wRet, wRetT, wRetN, wAndV, wOrV, wNotV, wIf, wBin, wBlt, wC, wCons, wNil, wTup, dats, gets, wAsg, wN, wN2, wN3, wPar, wAug, wCall, wCallP, wSetL, wF, fLst, fBlt, wApp, wPut, wNeg, wLc, wYes, elW, wipeE, wTupRg, fRng1, wRng1, wRng2, wIt, wItV, it1, it2, it3, it4, wChain, wSl, wNoPart, wPart, wDPut, wDDisp, wDNew, kit1, kit2, kit3, kit4, kit5, kit6, kit7, kit8, kit9, kit10, kit11, kit12, kit13, kit14, kit15, kit16, kit17, kit18, kit19, kit20, kit21, kit22, kit23, kit24, kit25, kit26, kit27, kit28, kit29, kit30, mlLen, shp_bl, shp_int, shp_non, eqv_bl, eqv_ii, and_assoc, exists_and_left, row_iff, Int.ofNat_inj, flat_row, len_row, nd_row, ty_row, isTup_row, ix_row, ix_row', eqv_row, eq_dn, eq_ii, add_ii, lt_ii, le_ii, gt_ii, ge_ii, sub_ii, mod_ii, len_li, len_tu, dn, ix_m1, ix_L, ix_ls, e1, e2, g_behind]
        refine ⟨by rw [w2, mo.1]; exact m.few, fun x hx => by rw [w2] at hx; rw [q.1]; exact mo.2 x hx, ?_⟩
        have I2 := I'.step m u hat' hk3
        have hat2 : at_ < (bstep ls at_ s' k).1.length := Nat.lt_of_lt_of_le hat' bstep_len
        by_cases hin : beh (rowAt s'.1 at_) (rowAt ls k) ∈ s'.1
        · have eb : bstep ls at_ s' k = s' := by unfold bstep; rw [if_pos hin]
          rw [eb] at hR
          simp [InDR, keyOk, key_row, seen_get, hin]
          exact .inl (hN _ ⟨s', _, _, rfl, I', hat', hrest, hR⟩)
        · have eb : bstep ls at_ s' k = (s'.1 ++ [beh (rowAt s'.1 at_) (rowAt ls k)], s'.2 ++ [rowAt s'.2 at_ ++ [k]]) := by unfold bstep; rw [if_neg hin]
          rw [eb] at I2 hat2 hR
          have hW : (s'.2.map encW)[at_]? = some (encW w) := by rw [List.getElem?_map, w1]; rfl
          simp [InDR, keyOk, key_row, seen_get, hin, wSeq, wIfS, wOr, wAnd, wNot, wTest, wIsi, wVar, startE, Op.get, Op.clean, noDct, ty1, ty2, ty3, ty4, ty5, ty6, wNext, wIsN, wNotN, wRet, wRetT, wRetN, wAndV, wOrV, wNotV, wIf, wBin, wBlt, wC, wCons, wNil, wTup, dats, gets, wAsg, wN, wN2, wN3, wPar, wAug, wCall, wCallP, wSetL, wF, fLst, fBlt, wApp, wPut, wNeg, wLc, wYes, elW, wipeE, wTupRg, fRng1, wRng1, wRng2, wIt, wItV, it1, it2, it3, it4, wChain, wSl, wNoPart, wPart, wDPut, wDDisp, wDNew, kit1, kit2, kit3, kit4, kit5, kit6, kit7, kit8, kit9, kit10, kit11, kit12, kit13, kit14, kit15, kit16, kit17, kit18, kit19, kit20, kit21, kit22, kit23, kit24, kit25, kit26, kit27, kit28, kit29, kit30, mlLen, shp_bl, shp_int, shp_non, eqv_bl, eqv_ii, and_assoc, exists_and_left, row_iff, Int.ofNat_inj, flat_row, len_row, nd_row, ty_row, isTup_row, ix_row, ix_row', eqv_row, eq_dn, eq_ii, add_ii, lt_ii, le_ii, gt_ii, ge_ii, sub_ii, mod_ii, len_li, len_tu, seen_put hin, ix_W, w1, ix_abc (Nat.lt_of_lt_of_le hk3 m.lets), add_w (show w.length ≤ 100000 by omega), len_encL, ← I'.len]
          have hg := seen_get (beh (rowAt s'.1 at_) (rowAt ls k)) s'.1
          rw [decide_eq_false hin] at hg
          refine ⟨Option.not_isSome_iff_eq_none.mp (by rw [hg]; decide), by simp [seenD]; omega, by omega, hN _ ⟨(s'.1 ++ [beh (rowAt s'.1 at_) (rowAt ls k)], s'.2 ++ [rowAt s'.2 at_ ++ [k]]), .im (.int (k : Nat)), .im (encR (beh (rowAt s'.1 at_) (rowAt ls k))), ?_, I2, hat2, hrest, hR⟩⟩
          simp [MEnv, encL, w3]
  · left
    refine ⟨by omega, ?_⟩
    have e : bfs ls f s at_ = s := by
      cases f with
      | zero => rfl
      | succ f => unfold bfs; rw [if_neg hat]
    rw [e] at hb
    rw [← hb] at hk
    exact hk
/-! ### the first ring -/
def firstRing (s : List (List Nat) × List (List Nat)) : Option (List Nat × List Nat) := ((List.range s.1.length).find? fun k => (ringOf (rowAt s.1 k)).isSome).map fun k => (rowAt s.2 k, (ringOf (rowAt s.1 k)).getD [])
def encF (r : Option (List Nat × List Nat)) : D := match r with
  | none => .none
  | some (w, r) => .tuple [encW w, encR r]
def g_first_ring : DSp := fun ds κ => ∃ (n : Nat) (ls U : List (List Nat)), ds = [encM n ls] ∧ MOk n ls ∧ Univ n ls U ∧ κ (encF (firstRing (mapsM (U.length + 1) n ls)))
theorem mono_first_ring : Mono g_first_ring := fun ds p q h ⟨n, ls, U, e, a, b, k⟩ => ⟨n, ls, U, e, a, b, h _ k⟩
def t_first_ring : DTS := wSeq (wAsg (wCall 1 g_maps (wCons (wVar 0) (wNil))) (wN2 1 2)) (wSeq (wFor (wRng1 (wBlt LenR (wCons (wVar 1) (wNil)))) (wN 3) (wSeq (wAsg (wCall 1 g_ring_of (wCons (wBin IxD (wVar 1) (wVar 3)) (wNil))) (wN 4)) (wIfS (wTest (wNotN (wVar 4))) (wRet (wTup (wCons (wBin IxD (wVar 2) (wVar 3)) (wCons (wVar 4) (wNil))))) (wNext)))) (wRet (wC .none)))
theorem BInv.ok {n : Nat} {ls U : List (List Nat)} {s : List (List Nat) × List (List Nat)} (m : MOk n ls) (I : BInv n ls U s) {r : List Nat} (h : r ∈ s.1) : r.length = n ∧ RowOk r := by
  obtain ⟨i, hi, e⟩ := List.mem_iff_getElem.mp h
  obtain ⟨w, w1, w2, w3, w4, w5⟩ := I.row hi
  have mo := mapOf_ok m w4
  have : r = mapOf n ls w := by
    rw [← w2, ← e]
    have := rowAt_of hi
    rw [List.getElem?_eq_getElem hi] at this
    exact Option.some.inj this
  rw [this]
  exact ⟨mo.1, by rw [mo.1]; exact m.few, by rw [mo.1]; exact mo.2⟩
theorem pure_first_ring (ds : List D) (κ : D → Prop) (hl : ds.length = 1) (h : g_first_ring ds κ) : t_first_ring { nx := fun _ => κ .none, rt := fun d _ => κ d } (startE 5 ds) := by
  obtain ⟨n, ls, U, rfl, m, u, hk⟩ := h
  simp [t_first_ring, wSeq, wIfS, wOr, wAnd, wNot, wTest, wIsi, wVar, startE, Op.get, Op.clean, noDct, ty1, ty2, ty3, ty4, ty5, ty6, wNext, wIsN, wNotN, wRet, wRetT, wRetN, wAndV, wOrV, wNotV, wIf, wBin, wBlt, wC, wCons, wNil, wTup, dats, gets, wAsg, wN, wN2, wN3, wPar, wAug, wCall, wCallP, wSetL, wF, fLst, fBlt, wApp, wPut, wNeg, wLc, wYes, elW, wipeE, wTupRg, fRng1, wRng1, wRng2, wIt, wItV, it1, it2, it3, it4, wChain, wSl, wNoPart, wPart, wDPut, wDDisp, wDNew, kit1, kit2, kit3, kit4, kit5, kit6, kit7, kit8, kit9, kit10, kit11, kit12, kit13, kit14, kit15, kit16, kit17, kit18, kit19, kit20, kit21, kit22, kit23, kit24, kit25, kit26, kit27, kit28, kit29, kit30, mlLen, shp_bl, shp_int, shp_non, eqv_bl, eqv_ii, and_assoc, exists_and_left, row_iff, Int.ofNat_inj, flat_row, len_row, nd_row, ty_row, isTup_row, ix_row, ix_row', eqv_row, eq_dn, eq_ii, add_ii, lt_ii, le_ii, gt_ii, ge_ii, sub_ii, mod_ii, len_li, len_tu, g_maps]
  refine ⟨n, ls, rfl, m, U, u, _, _, rfl, ?_⟩
  generalize hs : mapsM (U.length + 1) n ls = s at hk
  have I : BInv n ls U s := by rw [← hs]; exact maps_inv m u
  have few := I.few u
  have hu := u.few
  simp [wSeq, wIfS, wOr, wAnd, wNot, wTest, wIsi, wVar, startE, Op.get, Op.clean, noDct, ty1, ty2, ty3, ty4, ty5, ty6, wNext, wIsN, wNotN, wRet, wRetT, wRetN, wAndV, wOrV, wNotV, wIf, wBin, wBlt, wC, wCons, wNil, wTup, dats, gets, wAsg, wN, wN2, wN3, wPar, wAug, wCall, wCallP, wSetL, wF, fLst, fBlt, wApp, wPut, wNeg, wLc, wYes, elW, wipeE, wTupRg, fRng1, wRng1, wRng2, wIt, wItV, it1, it2, it3, it4, wChain, wSl, wNoPart, wPart, wDPut, wDDisp, wDNew, kit1, kit2, kit3, kit4, kit5, kit6, kit7, kit8, kit9, kit10, kit11, kit12, kit13, kit14, kit15, kit16, kit17, kit18, kit19, kit20, kit21, kit22, kit23, kit24, kit25, kit26, kit27, kit28, kit29, kit30, mlLen, shp_bl, shp_int, shp_non, eqv_bl, eqv_ii, and_assoc, exists_and_left, row_iff, Int.ofNat_inj, flat_row, len_row, nd_row, ty_row, isTup_row, ix_row, ix_row', eqv_row, eq_dn, eq_ii, add_ii, lt_ii, le_ii, gt_ii, ge_ii, sub_ii, mod_ii, len_li, len_tu, wFor, LenR, len_encL, rangeD_row]
  refine ⟨by omega, ?_⟩
  refine forW_map dn (fun rest e => ∃ k s3 s4, e = [.im (encM n ls), .im (.list (encL s.1)), .im (.list (s.2.map encW)), s3, s4] ∧ rest = (List.range s.1.length).drop k ∧ ∀ j, j < k → ringOf (rowAt s.1 j) = none) ?_ ?_ _ _ ⟨0, _, _, rfl, by simp, fun j h => by omega⟩
  · rintro e ⟨k, s3, s4, rfl, h1, h2⟩
    have hk2 : s.1.length ≤ k := by simpa using h1
    have : firstRing s = none := by
      unfold firstRing
      rw [List.find?_eq_none.mpr fun x hx => by rw [h2 x (by have := List.mem_range.mp hx; omega)]; decide]
      rfl
    rw [this] at hk
    simpa [wSeq, wIfS, wOr, wAnd, wNot, wTest, wIsi, wVar, startE, Op.get, Op.clean, noDct, ty1, ty2, ty3, ty4, ty5, ty6, wNext, wIsN, wNotN, wRet, wRetT, wRetN, wAndV, wOrV, wNotV, wIf, wBin, wBlt, wC, wCons, wNil, wTup, dats, gets, wAsg, wN, wN2, wN3, wPar, wAug, wCall, wCallP, wSetL, wF, fLst, fBlt, wApp, wPut, wNeg, wLc, wYes, elW, wipeE, wTupRg, fRng1, wRng1, wRng2, wIt, wItV, it1, it2, it3, it4, wChain, wSl, wNoPart, wPart, wDPut, wDDisp, wDNew, kit1, kit2, kit3, kit4, kit5, kit6, kit7, kit8, kit9, kit10, kit11, kit12, kit13, kit14, kit15, kit16, kit17, kit18, kit19, kit20, kit21, kit22, kit23, kit24, kit25, kit26, kit27, kit28, kit29, kit30, mlLen, shp_bl, shp_int, shp_non, eqv_bl, eqv_ii, and_assoc, exists_and_left, row_iff, Int.ofNat_inj, flat_row, len_row, nd_row, ty_row, isTup_row, ix_row, ix_row', eqv_row, eq_dn, eq_ii, add_ii, lt_ii, le_ii, gt_ii, ge_ii, sub_ii, mod_ii, len_li, len_tu, encF] using hk
  · rintro q rest e ⟨k, s3, s4, rfl, h1, h2⟩ N hN
    have hkl : k < s.1.length := by
      rcases Nat.lt_or_ge k s.1.length with h | h
      · exact h
      · rw [List.drop_eq_nil_of_le (by simpa using h)] at h1; cases h1
    rw [List.drop_eq_getElem_cons (by simpa using hkl)] at h1
    have hq : q = k := by simpa using (List.cons.inj h1).1
    have hrest := (List.cons.inj h1).2
    subst hq
    have e1 := rowAt_of hkl
    obtain ⟨w, w1, w2, w3, w4, w5⟩ := I.row hkl
    have ok := (I.ok m (List.mem_of_getElem? e1)).2
    simp [wSeq, wIfS, wOr, wAnd, wNot, wTest, wIsi, wVar, startE, Op.get, Op.clean, noDct, ty1, ty2, ty3, ty4, ty5, ty6, wNext, wIsN, wNotN, wRet, wRetT, wRetN, wAndV, wOrV, wNotV, wIf, wBin, wBlt, wC, wCons, wNil, wTup, dats, gets, wAsg, wN, wN2, wN3, wPar, wAug, wCall, wCallP, wSetL, wF, fLst, fBlt, wApp, wPut, wNeg, wLc, wYes, elW, wipeE, wTupRg, fRng1, wRng1, wRng2, wIt, wItV, it1, it2, it3, it4, wChain, wSl, wNoPart, wPart, wDPut, wDDisp, wDNew, kit1, kit2, kit3, kit4, kit5, kit6, kit7, kit8, kit9, kit10, kit11, kit12, kit13, kit14, kit15, kit16, kit17, kit18, kit19, kit20, kit21, kit22, kit23, kit24, kit25, kit26, kit27, kit28, kit29, kit30, mlLen, shp_bl, shp_int, shp_non, eqv_bl, eqv_ii, and_assoc, exists_and_left, row_iff, Int.ofNat_inj, flat_row, len_row, nd_row, ty_row, isTup_row, ix_row, ix_row', eqv_row, eq_dn, eq_ii, add_ii, lt_ii, le_ii, gt_ii, ge_ii, sub_ii, mod_ii, len_li, len_tu, ix_L, dn, e1, g_ring_of, ok]
    cases ho : ringOf (rowAt s.1 q) with
    | none =>
      simp [encO_none, flatD, wSeq, wIfS, wOr, wAnd, wNot, wTest, wIsi, wVar, startE, Op.get, Op.clean, noDct, ty1, ty2, ty3, ty4, ty5, ty6, wNext, wIsN, wNotN, wRet, wRetT, wRetN, wAndV, wOrV, wNotV, wIf, wBin, wBlt, wC, wCons, wNil, wTup, dats, gets, wAsg, wN, wN2, wN3, wPar, wAug, wCall, wCallP, wSetL, wF, fLst, fBlt, wApp, wPut, wNeg, wLc, wYes, elW, wipeE, wTupRg, fRng1, wRng1, wRng2, wIt, wItV, it1, it2, it3, it4, wChain, wSl, wNoPart, wPart, wDPut, wDDisp, wDNew, kit1, kit2, kit3, kit4, kit5, kit6, kit7, kit8, kit9, kit10, kit11, kit12, kit13, kit14, kit15, kit16, kit17, kit18, kit19, kit20, kit21, kit22, kit23, kit24, kit25, kit26, kit27, kit28, kit29, kit30, mlLen, shp_bl, shp_int, shp_non, eqv_bl, eqv_ii, and_assoc, exists_and_left, row_iff, Int.ofNat_inj, flat_row, len_row, nd_row, ty_row, isTup_row, ix_row, ix_row', eqv_row, eq_dn, eq_ii, add_ii, lt_ii, le_ii, gt_ii, ge_ii, sub_ii, mod_ii, len_li, len_tu]
      refine hN _ ⟨q + 1, _, _, rfl, hrest, fun j hj => ?_⟩
      by_cases h : j = q
      · rw [h]; exact ho
      · exact h2 j (by omega)
    | some g =>
      have hf : firstRing s = some (w, g) := by
        unfold firstRing
        have : (List.range s.1.length).find? (fun k => (ringOf (rowAt s.1 k)).isSome) = some q := by
          rw [List.find?_range_eq_some]
          exact ⟨by rw [ho]; rfl, by simpa using hkl, fun j hj => by rw [h2 j hj]; rfl⟩
        rw [this]
        simp [w3, ho]
      rw [hf] at hk
      have hne : encR g ≠ .none := by unfold encR; simp
      simp [encO_some, wSeq, wIfS, wOr, wAnd, wNot, wTest, wIsi, wVar, startE, Op.get, Op.clean, noDct, ty1, ty2, ty3, ty4, ty5, ty6, wNext, wIsN, wNotN, wRet, wRetT, wRetN, wAndV, wOrV, wNotV, wIf, wBin, wBlt, wC, wCons, wNil, wTup, dats, gets, wAsg, wN, wN2, wN3, wPar, wAug, wCall, wCallP, wSetL, wF, fLst, fBlt, wApp, wPut, wNeg, wLc, wYes, elW, wipeE, wTupRg, fRng1, wRng1, wRng2, wIt, wItV, it1, it2, it3, it4, wChain, wSl, wNoPart, wPart, wDPut, wDDisp, wDNew, kit1, kit2, kit3, kit4, kit5, kit6, kit7, kit8, kit9, kit10, kit11, kit12, kit13, kit14, kit15, kit16, kit17, kit18, kit19, kit20, kit21, kit22, kit23, kit24, kit25, kit26, kit27, kit28, kit29, kit30, mlLen, shp_bl, shp_int, shp_non, eqv_bl, eqv_ii, and_assoc, exists_and_left, row_iff, Int.ofNat_inj, flat_row, len_row, nd_row, ty_row, isTup_row, ix_row, ix_row', eqv_row, eq_dn, eq_ii, add_ii, lt_ii, le_ii, gt_ii, ge_ii, sub_ii, mod_ii, len_li, len_tu, ix_W, w1, hne]
      exact hk
/-! ### the loudest -/
def g_loudest : DSp := fun ds κ => ∃ (n : Nat) (ls U : List (List Nat)) (p t : List Nat → Nat), ds = [encM n ls] ∧ MOk n ls ∧ Univ n ls U ∧ (∀ r ∈ (mapsM (U.length + 1) n ls).1, Sets r (p r) (t r)) ∧
  ∀ m, m ∈ (mapsM (U.length + 1) n ls).1.map t → (∀ y ∈ (mapsM (U.length + 1) n ls).1.map t, y ≤ m) → κ (dn m)
theorem mono_loudest : Mono g_loudest := fun ds p q h ⟨n, ls, U, x, y, e, a, b, c, k⟩ => ⟨n, ls, U, x, y, e, a, b, c, fun m h1 h2 => h _ (k m h1 h2)⟩
def t_loudest : DTS := wSeq (wAsg (wCall 1 g_maps (wCons (wVar 0) (wNil))) (wN2 1 2)) (wRet (wBlt MaxR (wCons (wLc (wItV (wVar 1)) (wN 3) (wYes) (wBin IxD (wCall 1 g_settles (wCons (wVar 3) (wNil))) (wC (.int 1))) [3]) (wNil))))
theorem max_ex : ∀ l : List Nat, l ≠ [] → ∃ m, m ∈ l ∧ ∀ y ∈ l, y ≤ m
  | [a], _ => ⟨a, by simp, fun y hy => by simp at hy; omega⟩
  | a :: b :: l, _ => by
    obtain ⟨m, h1, h2⟩ := max_ex (b :: l) (by simp)
    by_cases h : a ≤ m
    · exact ⟨m, List.mem_cons_of_mem _ h1, fun y hy => by
        rcases List.mem_cons.mp hy with rfl | hy
        · exact h
        · exact h2 y hy⟩
    · exact ⟨a, List.mem_cons_self, fun y hy => by
        rcases List.mem_cons.mp hy with rfl | hy
        · exact Nat.le_refl _
        · have := h2 y hy; omega⟩
theorem ix_pair1 {x y z : D} : IxD (.tuple [x, y]) (.int 1) z = (z = y) := by
  simp only [IxD]
  rw [show ((1 : Int)) = ((1 : Nat) : Int) from rfl, atI_nat]
  simp [eq_comm]
theorem ix_pair0 {x y z : D} : IxD (.tuple [x, y]) (.int 0) z = (z = x) := by
  simp only [IxD]
  rw [show ((0 : Int)) = ((0 : Nat) : Int) from rfl, atI_nat]
  simp [eq_comm]
theorem pure_loudest (ds : List D) (κ : D → Prop) (hl : ds.length = 1) (h : g_loudest ds κ) : t_loudest { nx := fun _ => κ .none, rt := fun d _ => κ d } (startE 4 ds) := by
  obtain ⟨n, ls, U, p, t, rfl, m, u, hS, hk⟩ := h
  simp [t_loudest, wSeq, wIfS, wOr, wAnd, wNot, wTest, wIsi, wVar, startE, Op.get, Op.clean, noDct, ty1, ty2, ty3, ty4, ty5, ty6, wNext, wIsN, wNotN, wRet, wRetT, wRetN, wAndV, wOrV, wNotV, wIf, wBin, wBlt, wC, wCons, wNil, wTup, dats, gets, wAsg, wN, wN2, wN3, wPar, wAug, wCall, wCallP, wSetL, wF, fLst, fBlt, wApp, wPut, wNeg, wLc, wYes, elW, wipeE, wTupRg, fRng1, wRng1, wRng2, wIt, wItV, it1, it2, it3, it4, wChain, wSl, wNoPart, wPart, wDPut, wDDisp, wDNew, kit1, kit2, kit3, kit4, kit5, kit6, kit7, kit8, kit9, kit10, kit11, kit12, kit13, kit14, kit15, kit16, kit17, kit18, kit19, kit20, kit21, kit22, kit23, kit24, kit25, kit26, kit27, kit28, kit29, kit30, mlLen, shp_bl, shp_int, shp_non, eqv_bl, eqv_ii, and_assoc, exists_and_left, row_iff, Int.ofNat_inj, flat_row, len_row, nd_row, ty_row, isTup_row, ix_row, ix_row', eqv_row, eq_dn, eq_ii, add_ii, lt_ii, le_ii, gt_ii, ge_ii, sub_ii, mod_ii, len_li, len_tu, g_maps]
  refine ⟨n, ls, rfl, m, U, u, _, _, rfl, ?_⟩
  generalize hs : mapsM (U.length + 1) n ls = s at hS hk
  have I : BInv n ls U s := by rw [← hs]; exact maps_inv m u
  have few := I.few u
  have hu := u.few
  simp [wSeq, wIfS, wOr, wAnd, wNot, wTest, wIsi, wVar, startE, Op.get, Op.clean, noDct, ty1, ty2, ty3, ty4, ty5, ty6, wNext, wIsN, wNotN, wRet, wRetT, wRetN, wAndV, wOrV, wNotV, wIf, wBin, wBlt, wC, wCons, wNil, wTup, dats, gets, wAsg, wN, wN2, wN3, wPar, wAug, wCall, wCallP, wSetL, wF, fLst, fBlt, wApp, wPut, wNeg, wLc, wYes, elW, wipeE, wTupRg, fRng1, wRng1, wRng2, wIt, wItV, it1, it2, it3, it4, wChain, wSl, wNoPart, wPart, wDPut, wDDisp, wDNew, kit1, kit2, kit3, kit4, kit5, kit6, kit7, kit8, kit9, kit10, kit11, kit12, kit13, kit14, kit15, kit16, kit17, kit18, kit19, kit20, kit21, kit22, kit23, kit24, kit25, kit26, kit27, kit28, kit29, kit30, mlLen, shp_bl, shp_int, shp_non, eqv_bl, eqv_ii, and_assoc, exists_and_left, row_iff, Int.ofNat_inj, flat_row, len_row, nd_row, ty_row, isTup_row, ix_row, ix_row', eqv_row, eq_dn, eq_ii, add_ii, lt_ii, le_ii, gt_ii, ge_ii, sub_ii, mod_ii, len_li, len_tu, len_encL]
  refine ⟨by omega, lcW_map encR (fun r => dn (t r)) s.1 [] (fun r hr k w => ?_) ?_⟩
  · simp [wSeq, wIfS, wOr, wAnd, wNot, wTest, wIsi, wVar, startE, Op.get, Op.clean, noDct, ty1, ty2, ty3, ty4, ty5, ty6, wNext, wIsN, wNotN, wRet, wRetT, wRetN, wAndV, wOrV, wNotV, wIf, wBin, wBlt, wC, wCons, wNil, wTup, dats, gets, wAsg, wN, wN2, wN3, wPar, wAug, wCall, wCallP, wSetL, wF, fLst, fBlt, wApp, wPut, wNeg, wLc, wYes, elW, wipeE, wTupRg, fRng1, wRng1, wRng2, wIt, wItV, it1, it2, it3, it4, wChain, wSl, wNoPart, wPart, wDPut, wDDisp, wDNew, kit1, kit2, kit3, kit4, kit5, kit6, kit7, kit8, kit9, kit10, kit11, kit12, kit13, kit14, kit15, kit16, kit17, kit18, kit19, kit20, kit21, kit22, kit23, kit24, kit25, kit26, kit27, kit28, kit29, kit30, mlLen, shp_bl, shp_int, shp_non, eqv_bl, eqv_ii, and_assoc, exists_and_left, row_iff, Int.ofNat_inj, flat_row, len_row, nd_row, ty_row, isTup_row, ix_row, ix_row', eqv_row, eq_dn, eq_ii, add_ii, lt_ii, le_ii, gt_ii, ge_ii, sub_ii, mod_ii, len_li, len_tu, g_settles]
    refine ⟨p r, t r, hS r hr, _, ix_pair1.mpr rfl, w⟩
  · have hne : s.1.map t ≠ [] := by
      intro e
      have := I.one
      rw [List.map_eq_nil_iff.mp e] at this
      simp at this
    obtain ⟨mx, h1, h2⟩ := max_ex _ hne
    refine ⟨dn mx, ⟨s.1.map fun r => ((t r : Nat) : Int), (mx : Nat), by simp [dn, Function.comp_def], ?_, ?_, rfl⟩, hk mx h1 h2⟩
    · obtain ⟨r, hr, e⟩ := List.mem_map.mp h1
      exact List.mem_map.mpr ⟨r, hr, by rw [e]⟩
    · intro y hy
      obtain ⟨r, hr, e⟩ := List.mem_map.mp hy
      have := h2 (t r) (List.mem_map.mpr ⟨r, hr, rfl⟩)
      omega
/-! ### is_ring -/
theorem dup_lt {α : Type} [DecidableEq α] : ∀ (g l : List α), ¬ g.Nodup → l.Nodup → (∀ x ∈ l, x ∈ g) → l.length < g.length
  | [], _, h, _, _ => absurd List.nodup_nil h
  | a :: g, l, h, hl, hs => by
    by_cases ha : a ∈ g
    · have := nodup_len l g hl fun x hx => by
        rcases List.mem_cons.mp (hs x hx) with rfl | h
        · exact ha
        · exact h
      simp; omega
    · have hg : ¬ g.Nodup := fun hn => h (List.nodup_cons.mpr ⟨ha, hn⟩)
      have := dup_lt g (l.erase a) hg (hl.erase a) fun x hx => by
        have hx2 := List.mem_of_mem_erase hx
        rcases List.mem_cons.mp (hs x hx2) with rfl | h
        · exact absurd hx (List.Nodup.not_mem_erase hl)
        · exact h
      by_cases hal : a ∈ l
      · rw [List.length_erase_of_mem hal] at this
        simp; omega
      · rw [List.erase_of_not_mem hal] at this
        simp; omega
theorem nodup_cast {g : List Nat} : (g.map fun (x : Nat) => (x : Int)).Nodup ↔ g.Nodup := by
  unfold List.Nodup
  rw [List.pairwise_map]
  constructor
  · exact fun h => h.imp fun h e => h (by rw [e])
  · exact fun h => h.imp fun h e => h (Int.ofNat.inj e)
def isRing (n : Nat) (f g : List Nat) : Bool := decide (2 ≤ g.length) && (g.all fun x => decide (x < n)) && decide g.Nodup && (List.range g.length).all fun k => decide (rg f (rg g k) = rg g ((k + 1) % g.length))
def g_is_ring : DSp := fun ds κ => ∃ (n : Nat) (ls : List (List Nat)) (w g : List Nat), ds = [encM n ls, encW w, encR g] ∧ MOk n ls ∧ (∀ k ∈ w, k < ls.length) ∧ w.length ≤ 100000 ∧ g.length < 64 ∧ κ (.bool (isRing n (mapOf n ls w) g))
theorem mono_is_ring : Mono g_is_ring := fun ds p q h ⟨n, ls, w, g, e, a, b, c, d, k⟩ => ⟨n, ls, w, g, e, a, b, c, d, h _ k⟩
def t_is_ring : DTS := wSeq (wIfS (wOr (wNot (wTest (wIsi "tuple" (wVar 2)))) (wOr (wTest (wBin LtR (wBlt LenR (wCons (wVar 2) (wNil))) (wC (.int 2)))) (wNot (wTest (wCall 3 g_is_row (wCons (wVar 2) (wCons (wBlt LenR (wCons (wVar 2) (wNil))) (wCons (wBin IxD (wVar 0) (wC (.int 0))) (wNil))))))))) (wRet (wC (.bool false))) (wNext)) (wSeq (wIfS (wTest (wBin LtR (wBlt LenR (wCons (wF (fSortSetI (wVar 2))) (wNil))) (wBlt LenR (wCons (wVar 2) (wNil))))) (wRet (wC (.bool false))) (wNext)) (wSeq (wAsg (wCall 2 g_map_of (wCons (wVar 0) (wCons (wVar 1) (wNil)))) (wN 3)) (wRet (wBlt AllR (wCons (wLc (wRng1 (wBlt LenR (wCons (wVar 2) (wNil)))) (wN 4) (wYes) (wBin EqR (wBin IxD (wVar 3) (wBin IxD (wVar 2) (wVar 4))) (wBin IxD (wVar 2) (wBin ModR (wBin AddR (wVar 4) (wC (.int 1))) (wBlt LenR (wCons (wVar 2) (wNil)))))) [4]) (wNil))))))
theorem pure_is_ring (ds : List D) (κ : D → Prop) (hl : ds.length = 3) (h : g_is_ring ds κ) : t_is_ring { nx := fun _ => κ .none, rt := fun d _ => κ d } (startE 5 ds) := by
  obtain ⟨n, ls, w, g, rfl, m, hw, hwl, hg, hk⟩ := h
  simp [t_is_ring, wSeq, wIfS, wOr, wAnd, wNot, wTest, wIsi, wVar, startE, Op.get, Op.clean, noDct, ty1, ty2, ty3, ty4, ty5, ty6, wNext, wIsN, wNotN, wRet, wRetT, wRetN, wAndV, wOrV, wNotV, wIf, wBin, wBlt, wC, wCons, wNil, wTup, dats, gets, wAsg, wN, wN2, wN3, wPar, wAug, wCall, wCallP, wSetL, wF, fLst, fBlt, wApp, wPut, wNeg, wLc, wYes, elW, wipeE, wTupRg, fRng1, wRng1, wRng2, wIt, wItV, it1, it2, it3, it4, wChain, wSl, wNoPart, wPart, wDPut, wDDisp, wDNew, kit1, kit2, kit3, kit4, kit5, kit6, kit7, kit8, kit9, kit10, kit11, kit12, kit13, kit14, kit15, kit16, kit17, kit18, kit19, kit20, kit21, kit22, kit23, kit24, kit25, kit26, kit27, kit28, kit29, kit30, mlLen, shp_bl, shp_int, shp_non, eqv_bl, eqv_ii, and_assoc, exists_and_left, row_iff, Int.ofNat_inj, flat_row, len_row, nd_row, ty_row, isTup_row, ix_row, ix_row', eqv_row, eq_dn, eq_ii, add_ii, lt_ii, le_ii, gt_ii, ge_ii, sub_ii, mod_ii, len_li, len_tu, g_is_row, ix_m0, dn]
  by_cases h2 : 2 ≤ g.length
  · refine .inl ⟨by omega, by omega, ?_⟩
    by_cases ha : ∀ x ∈ g, x < n
    · rw [if_pos ha]
      have hgi : (g.map dn) = (g.map fun (x : Nat) => (x : Int)).map .int := by simp [dn, Function.comp_def]
      refine ⟨g.map fun (x : Nat) => (x : Int), by simp [wSeq, wIfS, wOr, wAnd, wNot, wTest, wIsi, wVar, startE, Op.get, Op.clean, noDct, ty1, ty2, ty3, ty4, ty5, ty6, wNext, wIsN, wNotN, wRet, wRetT, wRetN, wAndV, wOrV, wNotV, wIf, wBin, wBlt, wC, wCons, wNil, wTup, dats, gets, wAsg, wN, wN2, wN3, wPar, wAug, wCall, wCallP, wSetL, wF, fLst, fBlt, wApp, wPut, wNeg, wLc, wYes, elW, wipeE, wTupRg, fRng1, wRng1, wRng2, wIt, wItV, it1, it2, it3, it4, wChain, wSl, wNoPart, wPart, wDPut, wDDisp, wDNew, kit1, kit2, kit3, kit4, kit5, kit6, kit7, kit8, kit9, kit10, kit11, kit12, kit13, kit14, kit15, kit16, kit17, kit18, kit19, kit20, kit21, kit22, kit23, kit24, kit25, kit26, kit27, kit28, kit29, kit30, mlLen, shp_bl, shp_int, shp_non, eqv_bl, eqv_ii, encR, hgi], by simpa using hg, fun ns' p1 p2 => ?_⟩
      have nd' : ns'.Nodup := p1.imp fun h => by omega
      simp [wSeq, wIfS, wOr, wAnd, wNot, wTest, wIsi, wVar, startE, Op.get, Op.clean, noDct, ty1, ty2, ty3, ty4, ty5, ty6, wNext, wIsN, wNotN, wRet, wRetT, wRetN, wAndV, wOrV, wNotV, wIf, wBin, wBlt, wC, wCons, wNil, wTup, dats, gets, wAsg, wN, wN2, wN3, wPar, wAug, wCall, wCallP, wSetL, wF, fLst, fBlt, wApp, wPut, wNeg, wLc, wYes, elW, wipeE, wTupRg, fRng1, wRng1, wRng2, wIt, wItV, it1, it2, it3, it4, wChain, wSl, wNoPart, wPart, wDPut, wDDisp, wDNew, kit1, kit2, kit3, kit4, kit5, kit6, kit7, kit8, kit9, kit10, kit11, kit12, kit13, kit14, kit15, kit16, kit17, kit18, kit19, kit20, kit21, kit22, kit23, kit24, kit25, kit26, kit27, kit28, kit29, kit30, mlLen, shp_bl, shp_int, shp_non, eqv_bl, eqv_ii, and_assoc, exists_and_left, row_iff, Int.ofNat_inj, flat_row, len_row, nd_row, ty_row, isTup_row, ix_row, ix_row', eqv_row, eq_dn, eq_ii, add_ii, lt_ii, le_ii, gt_ii, ge_ii, sub_ii, mod_ii, len_li, len_tu]
      by_cases hn : g.Nodup
      · have e1 : ns'.length = g.length := by
          have a1 := nodup_len ns' (g.map fun (x : Nat) => (x : Int)) nd' fun x hx => (p2 x).mp hx
          have a2 := nodup_len (g.map fun (x : Nat) => (x : Int)) ns' (nodup_cast.mpr hn) fun x hx => (p2 x).mpr hx
          simp at a1 a2
          omega
        refine .inl ⟨by omega, ?_⟩
        simp [g_map_of]
        have mo := mapOf_ok m hw
        refine ⟨n, ls, w, ⟨rfl, rfl⟩, m, hw, hwl, by omega, by rw [rangeD_len]; omega, ?_⟩
        rw [rangeD_row]
        refine lcW_map dn (fun k => .bool (decide (rg (mapOf n ls w) (rg g k) = rg g ((k + 1) % g.length)))) _ [] (fun k hk0 kk wk => ?_) ?_
        · have hk1 := List.mem_range.mp hk0
          have hk2 : (k + 1) % g.length < g.length := Nat.mod_lt _ (by omega)
          have hgk : rg g k < n := ha _ (List.mem_of_getElem? (getD_of hk1))
          have r1 := getD_of hk1
          have r2 := getD_of (show rg g k < (mapOf n ls w).length by rw [mo.1]; exact hgk)
          have r3 := getD_of hk2
          have e2 : ((k : Int) + 1) % (g.length : Int) = (((k + 1) % g.length : Nat) : Int) := by push_cast; rfl
          simp [wSeq, wIfS, wOr, wAnd, wNot, wTest, wIsi, wVar, startE, Op.get, Op.clean, noDct, ty1, ty2, ty3, ty4, ty5, ty6, wNext, wIsN, wNotN, wRet, wRetT, wRetN, wAndV, wOrV, wNotV, wIf, wBin, wBlt, wC, wCons, wNil, wTup, dats, gets, wAsg, wN, wN2, wN3, wPar, wAug, wCall, wCallP, wSetL, wF, fLst, fBlt, wApp, wPut, wNeg, wLc, wYes, elW, wipeE, wTupRg, fRng1, wRng1, wRng2, wIt, wItV, it1, it2, it3, it4, wChain, wSl, wNoPart, wPart, wDPut, wDDisp, wDNew, kit1, kit2, kit3, kit4, kit5, kit6, kit7, kit8, kit9, kit10, kit11, kit12, kit13, kit14, kit15, kit16, kit17, kit18, kit19, kit20, kit21, kit22, kit23, kit24, kit25, kit26, kit27, kit28, kit29, kit30, mlLen, shp_bl, shp_int, shp_non, eqv_bl, eqv_ii, and_assoc, exists_and_left, row_iff, Int.ofNat_inj, flat_row, len_row, nd_row, ty_row, isTup_row, ix_row, ix_row', eqv_row, eq_dn, eq_ii, add_ii, lt_ii, le_ii, gt_ii, ge_ii, sub_ii, mod_ii, len_li, len_tu, ix_row', r1, r2]
          refine ⟨.int ((k : Int) + 1), rfl, .int (((k + 1) % g.length : Nat) : Int), ?_, dn (rg g ((k + 1) % g.length)), ?_, .bool (decide (rg (mapOf n ls w) (rg g k) = rg g ((k + 1) % g.length))), eq_dn.mpr rfl, wk⟩
          · rw [mod_ii, e2]
            exact ⟨by omega, rfl⟩
          · rw [ix_row, r3]
            rfl
        · refine ⟨_, ⟨(List.range g.length).map fun k => decide (rg (mapOf n ls w) (rg g k) = rg g ((k + 1) % g.length)), by simp [Function.comp_def], rfl⟩, ?_⟩
          have : isRing n (mapOf n ls w) g = ((List.range g.length).map fun k => decide (rg (mapOf n ls w) (rg g k) = rg g ((k + 1) % g.length))).all id := by
            unfold isRing
            have h3 : (g.all fun x => decide (x < n)) = true := by simpa using ha
            rw [decide_eq_true h2, decide_eq_true hn, h3, List.all_map]
            rfl
          rw [← this]
          exact hk
      · have e1 : ns'.length < g.length := by
          have := dup_lt (g.map fun (x : Nat) => (x : Int)) ns' (fun h => hn (nodup_cast.mp h)) nd' fun x hx => (p2 x).mp hx
          simpa using this
        have : isRing n (mapOf n ls w) g = false := by
          unfold isRing
          rw [decide_eq_false hn]
          simp
        rw [this] at hk
        exact .inr ⟨by omega, hk⟩
    · rw [if_neg ha]
      have : isRing n (mapOf n ls w) g = false := by
        unfold isRing
        have : (g.all fun x => decide (x < n)) = false := by
          rw [List.all_eq_false]
          simpa using ha
        rw [this]
        simp
      rw [this] at hk
      exact hk
  · have : isRing n (mapOf n ls w) g = false := by
      unfold isRing
      rw [decide_eq_false h2]
      rfl
    rw [this] at hk
    exact .inr ⟨by omega, hk⟩
/-! ### the law's own defs -/
def g__law_spread : DSp := fun ds κ => ∃ c : Int, ds = [.int c] ∧ ∀ r : Int, 0 ≤ r → κ (.int r)
theorem mono__law_spread : Mono g__law_spread := fun ds p q h ⟨c, e, k⟩ => ⟨c, e, fun r h0 => h _ (k r h0)⟩
def t__law_spread : DTS := wSeq (wAsg (wBin ModR (wBlt IntOf (wCons (wVar 0) (wNil))) (wC (.int 2147483647))) (wN 1)) (wSeq (wAsg (wC (.int 1)) (wN 2)) (wSeq (wFor (wRng1 (wC (.int 4))) (wN 3) (wSeq (wAsg (wBin ModR (wBlt IntOf (wCons (wBin AddR (wBin AddR (wBin MulR (wVar 1) (wC (.int 48271))) (wC (.int 12345))) (wVar 3)) (wNil))) (wC (.int 2147483647))) (wN 1)) (wAsg (wBin AddR (wBin MulR (wVar 2) (wC (.int 2147483647))) (wVar 1)) (wN 2)))) (wRet (wVar 2))))
theorem mul_ii {i j : Int} {z : D} (h : (-(2 ^ 64) < i ∧ i < 2 ^ 64) ∨ (-(2 ^ 64) < j ∧ j < 2 ^ 64)) : MulR (.int i) (.int j) z = (z = .int (i * j)) := by simp only [MulR, h, true_and]
theorem mul_c {i : Int} {n : Nat} {z : D} (h : n < 2 ^ 64) : MulR (.int i) (.int (n : Nat)) z = (z = .int (i * n)) := mul_ii (.inr ⟨by omega, by omega⟩)
theorem int_of {i : Int} {z : D} : IntOf [.int i] z = (z = .int i) := rfl
theorem pure__law_spread (ds : List D) (κ : D → Prop) (hl : ds.length = 1) (h : g__law_spread ds κ) : t__law_spread { nx := fun _ => κ .none, rt := fun d _ => κ d } (startE 4 ds) := by
  obtain ⟨c, rfl, hk⟩ := h
  simp [t__law_spread, wSeq, wIfS, wOr, wAnd, wNot, wTest, wIsi, wVar, startE, Op.get, Op.clean, noDct, ty1, ty2, ty3, ty4, ty5, ty6, wNext, wIsN, wNotN, wRet, wRetT, wRetN, wAndV, wOrV, wNotV, wIf, wBin, wBlt, wC, wCons, wNil, wTup, dats, gets, wAsg, wN, wN2, wN3, wPar, wAug, wCall, wCallP, wSetL, wF, fLst, fBlt, wApp, wPut, wNeg, wLc, wYes, elW, wipeE, wTupRg, fRng1, wRng1, wRng2, wIt, wItV, it1, it2, it3, it4, wChain, wSl, wNoPart, wPart, wDPut, wDDisp, wDNew, kit1, kit2, kit3, kit4, kit5, kit6, kit7, kit8, kit9, kit10, kit11, kit12, kit13, kit14, kit15, kit16, kit17, kit18, kit19, kit20, kit21, kit22, kit23, kit24, kit25, kit26, kit27, kit28, kit29, kit30, mlLen, shp_bl, shp_int, shp_non, eqv_bl, eqv_ii, and_assoc, exists_and_left, row_iff, Int.ofNat_inj, flat_row, len_row, nd_row, ty_row, isTup_row, ix_row, ix_row', eqv_row, eq_dn, eq_ii, add_ii, lt_ii, le_ii, gt_ii, ge_ii, sub_ii, mod_ii, len_li, len_tu, int_of, wFor]
  have e4 : rangeD 0 4 = (List.range 4).map dn := rangeD_row 4
  rw [e4]
  refine forW_map dn (fun rest e => ∃ (x y : Int) (s3 : Sl), e = [.im (.int c), .im (.int x), .im (.int y), s3] ∧ 0 ≤ x ∧ 0 ≤ y) ?_ ?_ _ _ ⟨_, _, _, rfl, Int.emod_nonneg _ (by decide), by decide⟩
  · rintro e ⟨x, y, s3, rfl, h1, h2⟩
    simp [wSeq, wIfS, wOr, wAnd, wNot, wTest, wIsi, wVar, startE, Op.get, Op.clean, noDct, ty1, ty2, ty3, ty4, ty5, ty6, wNext, wIsN, wNotN, wRet, wRetT, wRetN, wAndV, wOrV, wNotV, wIf, wBin, wBlt, wC, wCons, wNil, wTup, dats, gets, wAsg, wN, wN2, wN3, wPar, wAug, wCall, wCallP, wSetL, wF, fLst, fBlt, wApp, wPut, wNeg, wLc, wYes, elW, wipeE, wTupRg, fRng1, wRng1, wRng2, wIt, wItV, it1, it2, it3, it4, wChain, wSl, wNoPart, wPart, wDPut, wDDisp, wDNew, kit1, kit2, kit3, kit4, kit5, kit6, kit7, kit8, kit9, kit10, kit11, kit12, kit13, kit14, kit15, kit16, kit17, kit18, kit19, kit20, kit21, kit22, kit23, kit24, kit25, kit26, kit27, kit28, kit29, kit30, mlLen, shp_bl, shp_int, shp_non, eqv_bl, eqv_ii, and_assoc, exists_and_left, row_iff, Int.ofNat_inj, flat_row, len_row, nd_row, ty_row, isTup_row, ix_row, ix_row', eqv_row, eq_dn, eq_ii, add_ii, lt_ii, le_ii, gt_ii, ge_ii, sub_ii, mod_ii, len_li, len_tu]
    exact hk y h2
  · rintro k rest e ⟨x, y, s3, rfl, h1, h2⟩ N hN
    have m1 : ∀ {i : Int} {z : D}, MulR (.int i) (.int 48271) z = (z = .int (i * 48271)) := fun {i z} => mul_ii (.inr (by decide))
    have m2 : ∀ {i : Int} {z : D}, MulR (.int i) (.int 2147483647) z = (z = .int (i * 2147483647)) := fun {i z} => mul_ii (.inr (by decide))
    simp [wSeq, wIfS, wOr, wAnd, wNot, wTest, wIsi, wVar, startE, Op.get, Op.clean, noDct, ty1, ty2, ty3, ty4, ty5, ty6, wNext, wIsN, wNotN, wRet, wRetT, wRetN, wAndV, wOrV, wNotV, wIf, wBin, wBlt, wC, wCons, wNil, wTup, dats, gets, wAsg, wN, wN2, wN3, wPar, wAug, wCall, wCallP, wSetL, wF, fLst, fBlt, wApp, wPut, wNeg, wLc, wYes, elW, wipeE, wTupRg, fRng1, wRng1, wRng2, wIt, wItV, it1, it2, it3, it4, wChain, wSl, wNoPart, wPart, wDPut, wDDisp, wDNew, kit1, kit2, kit3, kit4, kit5, kit6, kit7, kit8, kit9, kit10, kit11, kit12, kit13, kit14, kit15, kit16, kit17, kit18, kit19, kit20, kit21, kit22, kit23, kit24, kit25, kit26, kit27, kit28, kit29, kit30, mlLen, shp_bl, shp_int, shp_non, eqv_bl, eqv_ii, and_assoc, exists_and_left, row_iff, Int.ofNat_inj, flat_row, len_row, nd_row, ty_row, isTup_row, ix_row, ix_row', eqv_row, eq_dn, eq_ii, add_ii, lt_ii, le_ii, gt_ii, ge_ii, sub_ii, mod_ii, len_li, len_tu, m1, m2, dn, int_of]
    refine hN _ ⟨_, _, _, rfl, Int.emod_nonneg _ (by decide), ?_⟩
    have a1 := Int.emod_nonneg (x * 48271 + 12345 + (k : Int)) (show (2147483647 : Int) ≠ 0 by decide)
    have a2 : 0 ≤ y * 2147483647 := Int.mul_nonneg h2 (by decide)
    omega
def g__law_draw : DSp := fun ds κ => ∃ m : Int, ds = [.int m] ∧ 1 ≤ m ∧ m ≤ 1000000 ∧ ∀ r : Nat, (r : Int) < m → κ (dn r)
theorem mono__law_draw : Mono g__law_draw := fun ds p q h ⟨c, e, a, b, k⟩ => ⟨c, e, a, b, fun r h0 => h _ (k r h0)⟩
def t__law_draw : DTS := wSeq (wIfS (wAnd (wTest (wBin LeR (wBin IxD (wVar 0) (wC (.int 2))) (wC (.int 0)))) (wTest (wBin LtR (wBin IxD (wVar 0) (wC (.int 1))) (wBlt LenR (wCons (wBin IxD (wVar 0) (wC (.int 0))) (wNil)))))) (wSeq (wAsg (wBin IxD (wBin IxD (wVar 0) (wC (.int 0))) (wBin IxD (wVar 0) (wC (.int 1)))) (wN 2)) (wSeq (wPut 0 1 (wBin AddR (wBin IxD (wVar 0) (wC (.int 1))) (wC (.int 1)))) (wSeq (wPut 0 2 (wVar 2)) (wIfS (wTest (wBin LtR (wVar 2) (wC (.int 1000000000000000000)))) (wPut 0 2 (wCall 1 g__law_spread (wCons (wVar 2) (wNil)))) (wNext))))) (wNext)) (wSeq (wPut 0 3 (wBin AddR (wBin IxD (wVar 0) (wC (.int 3))) (wC (.int 1)))) (wSeq (wIfS (wTest (wBin LeR (wBin IxD (wVar 0) (wC (.int 2))) (wC (.int 0)))) (wSeq (wAsg (wBin ModR (wBlt IntOf (wCons (wBin AddR (wBin AddR (wBin MulR (wBin IxD (wVar 0) (wC (.int 4))) (wC (.int 48271))) (wBin MulR (wBin IxD (wVar 0) (wC (.int 3))) (wC (.int 69621)))) (wC (.int 1))) (wNil))) (wC (.int 2147483647))) (wN 3)) (wSeq (wAsg (wBin ModR (wBlt IntOf (wCons (wBin AddR (wBin MulR (wVar 3) (wC (.int 16807))) (wBin IxD (wVar 0) (wC (.int 3)))) (wNil))) (wC (.int 2147483629))) (wN 3)) (wRet (wBin ModR (wBin DivR (wVar 3) (wC (.int 5))) (wVar 1))))) (wNext)) (wSeq (wAsg (wBin ModR (wBlt IntOf (wCons (wBin IxD (wVar 0) (wC (.int 2))) (wNil))) (wVar 1)) (wN 4)) (wSeq (wPut 0 2 (wBin DivR (wBin IxD (wVar 0) (wC (.int 2))) (wVar 1))) (wRet (wVar 4))))))
theorem ix5a {a b c d e z : D} : IxD (.list [a, b, c, d, e]) (.int 0) z = (z = a) := by
  have := @ixD_list [a, b, c, d, e] 0 z
  simp at this
  exact propext (this.trans eq_comm)
theorem ix5b {a b c d e z : D} : IxD (.list [a, b, c, d, e]) (.int 1) z = (z = b) := by
  have := @ixD_list [a, b, c, d, e] 1 z
  simp at this
  exact propext (this.trans eq_comm)
theorem ix5c {a b c d e z : D} : IxD (.list [a, b, c, d, e]) (.int 2) z = (z = c) := by
  have := @ixD_list [a, b, c, d, e] 2 z
  simp at this
  exact propext (this.trans eq_comm)
theorem ix5d {a b c d e z : D} : IxD (.list [a, b, c, d, e]) (.int 3) z = (z = d) := by
  have := @ixD_list [a, b, c, d, e] 3 z
  simp at this
  exact propext (this.trans eq_comm)
theorem ix5e {a b c d e z : D} : IxD (.list [a, b, c, d, e]) (.int 4) z = (z = e) := by
  have := @ixD_list [a, b, c, d, e] 4 z
  simp at this
  exact propext (this.trans eq_comm)
theorem div_ii {i j : Int} {z : D} : DivR (.int i) (.int j) z = (0 < j ∧ j < 1073741824 ∧ z = .int (i / j)) := by simp [DivR, IntR, and_assoc]
/-- the rest of a draw, behind its first statement -/
def DrawEnd (p : Addr) (κ : D → Prop) (mn : Int) (e : DEnv) : Prop := ∃ (ns : List Int) (i c m s : Int) (s2 s3 s4 : Sl), e = [.ml p [.list (ns.map .int), .int i, .int c, .int m, .int s], .im (.int mn), s2, s3, s4] ∧ 0 ≤ i ∧ 0 ≤ m ∧ 0 ≤ s ∧ s < 1000003 ∧ ns.length ≤ 1000
theorem int_nat {r : Int} (h : 0 ≤ r) : ∃ n : Nat, (n : Int) = r ∧ PyData.int r = dn n := by
  obtain ⟨n, rfl⟩ := Int.eq_ofNat_of_zero_le h
  exact ⟨n, rfl, rfl⟩
def t_draw2 : DTS := wSeq (wPut 0 3 (wBin AddR (wBin IxD (wVar 0) (wC (.int 3))) (wC (.int 1)))) (wSeq (wIfS (wTest (wBin LeR (wBin IxD (wVar 0) (wC (.int 2))) (wC (.int 0)))) (wSeq (wAsg (wBin ModR (wBlt IntOf (wCons (wBin AddR (wBin AddR (wBin MulR (wBin IxD (wVar 0) (wC (.int 4))) (wC (.int 48271))) (wBin MulR (wBin IxD (wVar 0) (wC (.int 3))) (wC (.int 69621)))) (wC (.int 1))) (wNil))) (wC (.int 2147483647))) (wN 3)) (wSeq (wAsg (wBin ModR (wBlt IntOf (wCons (wBin AddR (wBin MulR (wVar 3) (wC (.int 16807))) (wBin IxD (wVar 0) (wC (.int 3)))) (wNil))) (wC (.int 2147483629))) (wN 3)) (wRet (wBin ModR (wBin DivR (wVar 3) (wC (.int 5))) (wVar 1))))) (wNext)) (wSeq (wAsg (wBin ModR (wBlt IntOf (wCons (wBin IxD (wVar 0) (wC (.int 2))) (wNil))) (wVar 1)) (wN 4)) (wSeq (wPut 0 2 (wBin DivR (wBin IxD (wVar 0) (wC (.int 2))) (wVar 1))) (wRet (wVar 4)))))
theorem draw2 {p : Addr} {κ : D → Prop} {mn : Int} {e : DEnv} (hm1 : 1 ≤ mn) (hm2 : mn ≤ 1000000) (hk : ∀ r : Nat, (r : Int) < mn → κ (dn r)) (h : DrawEnd p κ mn e) : t_draw2 (drawEnds p κ) e := by
  obtain ⟨ns, i, c, m, s, s2, s3, s4, rfl, h0, h1, h2, h3, h4⟩ := h
  have m1 : ∀ {i : Int} {z : D}, MulR (.int i) (.int 48271) z = (z = .int (i * 48271)) := fun {i z} => mul_ii (.inr (by decide))
  have m2 : ∀ {i : Int} {z : D}, MulR (.int i) (.int 69621) z = (z = .int (i * 69621)) := fun {i z} => mul_ii (.inr (by decide))
  have m3 : ∀ {i : Int} {z : D}, MulR (.int i) (.int 16807) z = (z = .int (i * 16807)) := fun {i z} => mul_ii (.inr (by decide))
  have hp : 0 < mn := by omega
  have hq : mn < 1073741824 := by omega
  by_cases hc : c ≤ 0
  · simp [t_draw2, wSeq, wIfS, wOr, wAnd, wNot, wTest, wIsi, wVar, startE, Op.get, Op.clean, noDct, ty1, ty2, ty3, ty4, ty5, ty6, wNext, wIsN, wNotN, wRet, wRetT, wRetN, wAndV, wOrV, wNotV, wIf, wBin, wBlt, wC, wCons, wNil, wTup, dats, gets, wAsg, wN, wN2, wN3, wPar, wAug, wCall, wCallP, wSetL, wF, fLst, fBlt, wApp, wPut, wNeg, wLc, wYes, elW, wipeE, wTupRg, fRng1, wRng1, wRng2, wIt, wItV, it1, it2, it3, it4, wChain, wSl, wNoPart, wPart, wDPut, wDDisp, wDNew, kit1, kit2, kit3, kit4, kit5, kit6, kit7, kit8, kit9, kit10, kit11, kit12, kit13, kit14, kit15, kit16, kit17, kit18, kit19, kit20, kit21, kit22, kit23, kit24, kit25, kit26, kit27, kit28, kit29, kit30, mlLen, shp_bl, shp_int, shp_non, eqv_bl, eqv_ii, and_assoc, exists_and_left, row_iff, Int.ofNat_inj, flat_row, len_row, nd_row, ty_row, isTup_row, ix_row, ix_row', eqv_row, eq_dn, eq_ii, add_ii, lt_ii, le_ii, gt_ii, ge_ii, sub_ii, mod_ii, len_li, len_tu, ix5a, ix5b, ix5c, ix5d, ix5e, m1, m2, m3, int_of, div_ii, hc, hp]
    have hb := Int.emod_nonneg (((s * 48271 + (m + 1) * 69621 + 1) % 2147483647 * 16807 + (m + 1)) % 2147483629 / 5) (show mn ≠ 0 by omega)
    have hl := Int.emod_lt_of_pos (((s * 48271 + (m + 1) * 69621 + 1) % 2147483647 * 16807 + (m + 1)) % 2147483629 / 5) hp
    obtain ⟨n, e1, e2⟩ := int_nat hb
    exact ⟨_, ns, i, c, m + 1, s, rfl, rfl, h0, by omega, h2, h3, h4, by rw [e2]; exact hk n (by omega)⟩
  · simp [t_draw2, wSeq, wIfS, wOr, wAnd, wNot, wTest, wIsi, wVar, startE, Op.get, Op.clean, noDct, ty1, ty2, ty3, ty4, ty5, ty6, wNext, wIsN, wNotN, wRet, wRetT, wRetN, wAndV, wOrV, wNotV, wIf, wBin, wBlt, wC, wCons, wNil, wTup, dats, gets, wAsg, wN, wN2, wN3, wPar, wAug, wCall, wCallP, wSetL, wF, fLst, fBlt, wApp, wPut, wNeg, wLc, wYes, elW, wipeE, wTupRg, fRng1, wRng1, wRng2, wIt, wItV, it1, it2, it3, it4, wChain, wSl, wNoPart, wPart, wDPut, wDDisp, wDNew, kit1, kit2, kit3, kit4, kit5, kit6, kit7, kit8, kit9, kit10, kit11, kit12, kit13, kit14, kit15, kit16, kit17, kit18, kit19, kit20, kit21, kit22, kit23, kit24, kit25, kit26, kit27, kit28, kit29, kit30, mlLen, shp_bl, shp_int, shp_non, eqv_bl, eqv_ii, and_assoc, exists_and_left, row_iff, Int.ofNat_inj, flat_row, len_row, nd_row, ty_row, isTup_row, ix_row, ix_row', eqv_row, eq_dn, eq_ii, add_ii, lt_ii, le_ii, gt_ii, ge_ii, sub_ii, mod_ii, len_li, len_tu, ix5a, ix5b, ix5c, ix5d, ix5e, m1, m2, m3, int_of, div_ii, hc, hp, hq]
    have hb := Int.emod_nonneg c (show mn ≠ 0 by omega)
    have hl := Int.emod_lt_of_pos c hp
    obtain ⟨n, e1, e2⟩ := int_nat hb
    exact ⟨_, ns, i, c / mn, m + 1, s, rfl, rfl, h0, by omega, h2, h3, h4, by rw [e2]; exact hk n (by omega)⟩
theorem pure__law_draw (ds : List D) (κ : D → Prop) (p : Addr) (ns : List Int) (i c m s : Int) (hl : ds.length = 1) (h0 : 0 ≤ i) (h1 : 0 ≤ m) (h2 : 0 ≤ s) (h3 : s < 1000003) (h4 : ns.length ≤ 1000) (h : g__law_draw ds κ) : t__law_draw (drawEnds p κ) (.ml p [.list (ns.map .int), .int i, .int c, .int m, .int s] :: startE 4 ds) := by
  obtain ⟨mn, rfl, hm1, hm2, hk⟩ := h
  have hd : ∀ e, DrawEnd p κ mn e → t_draw2 (drawEnds p κ) e := fun e => draw2 hm1 hm2 hk
  have et : t__law_draw = wSeq (wIfS (wAnd (wTest (wBin LeR (wBin IxD (wVar 0) (wC (.int 2))) (wC (.int 0)))) (wTest (wBin LtR (wBin IxD (wVar 0) (wC (.int 1))) (wBlt LenR (wCons (wBin IxD (wVar 0) (wC (.int 0))) (wNil)))))) (wSeq (wAsg (wBin IxD (wBin IxD (wVar 0) (wC (.int 0))) (wBin IxD (wVar 0) (wC (.int 1)))) (wN 2)) (wSeq (wPut 0 1 (wBin AddR (wBin IxD (wVar 0) (wC (.int 1))) (wC (.int 1)))) (wSeq (wPut 0 2 (wVar 2)) (wIfS (wTest (wBin LtR (wVar 2) (wC (.int 1000000000000000000)))) (wPut 0 2 (wCall 1 g__law_spread (wCons (wVar 2) (wNil)))) (wNext))))) (wNext)) t_draw2 := rfl
  rw [et]
  generalize t_draw2 = t2 at hd
  obtain ⟨i, rfl⟩ := Int.eq_ofNat_of_zero_le h0
  have hix : ∀ {z : D}, IxD (.list (ns.map .int)) (.int ((i : Nat) : Int)) z = ((ns.map PyData.int)[i]? = some z) := ixD_list
  by_cases hc : c ≤ 0
  · by_cases hi : i < ns.length
    · have e1 : ns[i]? = some ns[i] := List.getElem?_eq_getElem hi
      simp [wSeq, wIfS, wOr, wAnd, wNot, wTest, wIsi, wVar, startE, Op.get, Op.clean, noDct, ty1, ty2, ty3, ty4, ty5, ty6, wNext, wIsN, wNotN, wRet, wRetT, wRetN, wAndV, wOrV, wNotV, wIf, wBin, wBlt, wC, wCons, wNil, wTup, dats, gets, wAsg, wN, wN2, wN3, wPar, wAug, wCall, wCallP, wSetL, wF, fLst, fBlt, wApp, wPut, wNeg, wLc, wYes, elW, wipeE, wTupRg, fRng1, wRng1, wRng2, wIt, wItV, it1, it2, it3, it4, wChain, wSl, wNoPart, wPart, wDPut, wDDisp, wDNew, kit1, kit2, kit3, kit4, kit5, kit6, kit7, kit8, kit9, kit10, kit11, kit12, kit13, kit14, kit15, kit16, kit17, kit18, kit19, kit20, kit21, kit22, kit23, kit24, kit25, kit26, kit27, kit28, kit29, kit30, mlLen, shp_bl, shp_int, shp_non, eqv_bl, eqv_ii, and_assoc, exists_and_left, row_iff, Int.ofNat_inj, flat_row, len_row, nd_row, ty_row, isTup_row, ix_row, ix_row', eqv_row, eq_dn, eq_ii, add_ii, lt_ii, le_ii, gt_ii, ge_ii, sub_ii, mod_ii, len_li, len_tu, ix5a, ix5b, ix5c, ix5d, ix5e, hc, hi, hix]
      by_cases hb : ns[i] < 1000000000000000000
      · refine .inr ⟨hb, _, rfl, fun r hr => hd _ ⟨ns, _, r, m, s, _, _, _, rfl, by omega, h1, h2, h3, h4⟩⟩
      · refine .inl ⟨by omega, hd _ ⟨ns, _, ns[i], m, s, _, _, _, rfl, by omega, h1, h2, h3, h4⟩⟩
    · simp [wSeq, wIfS, wOr, wAnd, wNot, wTest, wIsi, wVar, startE, Op.get, Op.clean, noDct, ty1, ty2, ty3, ty4, ty5, ty6, wNext, wIsN, wNotN, wRet, wRetT, wRetN, wAndV, wOrV, wNotV, wIf, wBin, wBlt, wC, wCons, wNil, wTup, dats, gets, wAsg, wN, wN2, wN3, wPar, wAug, wCall, wCallP, wSetL, wF, fLst, fBlt, wApp, wPut, wNeg, wLc, wYes, elW, wipeE, wTupRg, fRng1, wRng1, wRng2, wIt, wItV, it1, it2, it3, it4, wChain, wSl, wNoPart, wPart, wDPut, wDDisp, wDNew, kit1, kit2, kit3, kit4, kit5, kit6, kit7, kit8, kit9, kit10, kit11, kit12, kit13, kit14, kit15, kit16, kit17, kit18, kit19, kit20, kit21, kit22, kit23, kit24, kit25, kit26, kit27, kit28, kit29, kit30, mlLen, shp_bl, shp_int, shp_non, eqv_bl, eqv_ii, and_assoc, exists_and_left, row_iff, Int.ofNat_inj, flat_row, len_row, nd_row, ty_row, isTup_row, ix_row, ix_row', eqv_row, eq_dn, eq_ii, add_ii, lt_ii, le_ii, gt_ii, ge_ii, sub_ii, mod_ii, len_li, len_tu, ix5a, ix5b, ix5c, ix5d, ix5e, hc, hi]
      exact hd _ ⟨ns, _, c, m, s, _, _, _, rfl, by omega, h1, h2, h3, h4⟩
  · simp [wSeq, wIfS, wOr, wAnd, wNot, wTest, wIsi, wVar, startE, Op.get, Op.clean, noDct, ty1, ty2, ty3, ty4, ty5, ty6, wNext, wIsN, wNotN, wRet, wRetT, wRetN, wAndV, wOrV, wNotV, wIf, wBin, wBlt, wC, wCons, wNil, wTup, dats, gets, wAsg, wN, wN2, wN3, wPar, wAug, wCall, wCallP, wSetL, wF, fLst, fBlt, wApp, wPut, wNeg, wLc, wYes, elW, wipeE, wTupRg, fRng1, wRng1, wRng2, wIt, wItV, it1, it2, it3, it4, wChain, wSl, wNoPart, wPart, wDPut, wDDisp, wDNew, kit1, kit2, kit3, kit4, kit5, kit6, kit7, kit8, kit9, kit10, kit11, kit12, kit13, kit14, kit15, kit16, kit17, kit18, kit19, kit20, kit21, kit22, kit23, kit24, kit25, kit26, kit27, kit28, kit29, kit30, mlLen, shp_bl, shp_int, shp_non, eqv_bl, eqv_ii, and_assoc, exists_and_left, row_iff, Int.ofNat_inj, flat_row, len_row, nd_row, ty_row, isTup_row, ix_row, ix_row', eqv_row, eq_dn, eq_ii, add_ii, lt_ii, le_ii, gt_ii, ge_ii, sub_ii, mod_ii, len_li, len_tu, ix5a, ix5b, ix5c, ix5d, ix5e, hc]
    exact hd _ ⟨ns, _, c, m, s, _, _, _, rfl, by omega, h1, h2, h3, h4⟩
end DL

namespace DL
open PySem L2
/-! ### shuffled -/
def encN (xs : List Nat) : D := .list (xs.map dn)
theorem sm_encN {xs : List Nat} (h : xs.length ≤ 100000) : Sm 1 (encN xs) := .lst (by simpa using h) fun d hd => by
  obtain ⟨x, _, rfl⟩ := List.mem_map.mp hd
  exact .int
def g__law_shuffled : DSp := fun ds κ => ∃ xs : List Nat, ds = [encN xs] ∧ xs.length ≤ 1000 ∧ ∀ ys : List Nat, ys.Perm xs → κ (encN ys)
theorem mono__law_shuffled : Mono g__law_shuffled := fun ds p q h ⟨c, e, a, k⟩ => ⟨c, e, a, fun r h0 => h _ (k r h0)⟩
def t__law_shuffled : DTS := wSeq (wSetL 2 (fBlt ListF (wCons (wVar 1) (wNil)))) (wSeq (wSetL 3 (fLst (wNil))) (wSeq (wWhile (wTest (wBin NeR (wVar 2) (wF (fLst (wNil))))) (wAppPop 3 2 (wCallP 0 1 g__law_draw (wCons (wBlt LenR (wCons (wVar 2) (wNil))) (wNil))))) (wRet (wVar 3))))
def ShufI (xs : List Nat) (a b : Addr) (e : DEnv) : Prop := ∃ l f : List Nat, e = [.pl, .im (encN xs), .ml a (l.map dn), .ml b (f.map dn)] ∧ (f ++ l).Perm xs
theorem ne_nil {l : List Nat} {z : D} (h : l.length ≤ 100000) : NeR (.list (l.map dn)) (.list []) z = (z = .bool (!l.isEmpty)) := by
  have h1 : shp (.list (l.map dn)) = true := (sm_encN h).shp
  have h2 : shp (.list []) = true := (sm_encN (xs := []) (by simp)).shp
  unfold NeR
  rw [h1, h2]
  cases l with
  | nil => simp [PyData.eqv, PyData.eqvAll]
  | cons x l => simp [PyData.eqv, PyData.eqvAll]
theorem erase_map {α β : Type} (g : α → β) : ∀ (l : List α) (i : Nat), (l.map g).eraseIdx i = (l.eraseIdx i).map g
  | [], _ => rfl
  | _ :: _, 0 => rfl
  | a :: l, i + 1 => by
    rw [List.map_cons, List.eraseIdx_cons_succ, List.eraseIdx_cons_succ, List.map_cons, erase_map g l i]
theorem erase_perm {α : Type} : ∀ (l : List α) (i : Nat) (x : α), l[i]? = some x → (x :: l.eraseIdx i).Perm l
  | [], _, _, h => by simp at h
  | a :: l, 0, x, h => by simp at h; subst h; exact List.Perm.refl _
  | a :: l, i + 1, x, h => by
    rw [List.eraseIdx_cons_succ]
    have := erase_perm l i x (by simpa using h)
    exact (List.Perm.swap a x _).trans (this.cons a)
theorem pure__law_shuffled (ds : List D) (κ : D → Prop) (hl : ds.length = 1) (h : g__law_shuffled ds κ) : t__law_shuffled { nx := fun _ => κ .none, rt := fun d _ => κ d } (.pl :: startE 3 ds) := by
  obtain ⟨xs, rfl, hx, hk⟩ := h
  have hLF : ∀ k : List D → Prop, ListF [encN xs] k = k (xs.map dn) := fun k => rfl
  simp [t__law_shuffled, wSeq, wIfS, wOr, wAnd, wNot, wTest, wIsi, wVar, startE, Op.get, Op.clean, noDct, ty1, ty2, ty3, ty4, ty5, ty6, wNext, wIsN, wNotN, wRet, wRetT, wRetN, wAndV, wOrV, wNotV, wIf, wBin, wBlt, wC, wCons, wNil, wTup, dats, gets, wAsg, wN, wN2, wN3, wPar, wAug, wCall, wCallP, wSetL, wF, fLst, fBlt, wApp, wPut, wNeg, wLc, wYes, elW, wipeE, wTupRg, fRng1, wRng1, wRng2, wIt, wItV, it1, it2, it3, it4, wChain, wSl, wNoPart, wPart, wDPut, wDDisp, wDNew, kit1, kit2, kit3, kit4, kit5, kit6, kit7, kit8, kit9, kit10, kit11, kit12, kit13, kit14, kit15, kit16, kit17, kit18, kit19, kit20, kit21, kit22, kit23, kit24, kit25, kit26, kit27, kit28, kit29, kit30, mlLen, shp_bl, shp_int, shp_non, eqv_bl, eqv_ii, and_assoc, exists_and_left, row_iff, Int.ofNat_inj, flat_row, len_row, nd_row, ty_row, isTup_row, ix_row, ix_row', eqv_row, eq_dn, eq_ii, add_ii, lt_ii, le_ii, gt_ii, ge_ii, sub_ii, mod_ii, len_li, len_tu, hLF]
  intro a b
  refine ⟨ShufI xs a b, mlLen 2, ⟨xs, [], rfl, by simp⟩, ?_⟩
  rintro e ⟨l, f, rfl, hp⟩
  have hln := hp.length_eq
  rw [List.length_append] at hln
  simp [wSeq, wIfS, wOr, wAnd, wNot, wTest, wIsi, wVar, startE, Op.get, Op.clean, noDct, ty1, ty2, ty3, ty4, ty5, ty6, wNext, wIsN, wNotN, wRet, wRetT, wRetN, wAndV, wOrV, wNotV, wIf, wBin, wBlt, wC, wCons, wNil, wTup, dats, gets, wAsg, wN, wN2, wN3, wPar, wAug, wCall, wCallP, wSetL, wF, fLst, fBlt, wApp, wPut, wNeg, wLc, wYes, elW, wipeE, wTupRg, fRng1, wRng1, wRng2, wIt, wItV, it1, it2, it3, it4, wChain, wSl, wNoPart, wPart, wDPut, wDDisp, wDNew, kit1, kit2, kit3, kit4, kit5, kit6, kit7, kit8, kit9, kit10, kit11, kit12, kit13, kit14, kit15, kit16, kit17, kit18, kit19, kit20, kit21, kit22, kit23, kit24, kit25, kit26, kit27, kit28, kit29, kit30, mlLen, shp_bl, shp_int, shp_non, eqv_bl, eqv_ii, and_assoc, exists_and_left, row_iff, Int.ofNat_inj, flat_row, len_row, nd_row, ty_row, isTup_row, ix_row, ix_row', eqv_row, eq_dn, eq_ii, add_ii, lt_ii, le_ii, gt_ii, ge_ii, sub_ii, mod_ii, len_li, len_tu, ne_nil (show l.length ≤ 100000 by omega)]
  cases l with
  | nil =>
    simp
    rw [List.append_nil] at hp
    exact hk f hp
  | cons y l =>
    simp [wAppPop, wSeq, wIfS, wOr, wAnd, wNot, wTest, wIsi, wVar, startE, Op.get, Op.clean, noDct, ty1, ty2, ty3, ty4, ty5, ty6, wNext, wIsN, wNotN, wRet, wRetT, wRetN, wAndV, wOrV, wNotV, wIf, wBin, wBlt, wC, wCons, wNil, wTup, dats, gets, wAsg, wN, wN2, wN3, wPar, wAug, wCall, wCallP, wSetL, wF, fLst, fBlt, wApp, wPut, wNeg, wLc, wYes, elW, wipeE, wTupRg, fRng1, wRng1, wRng2, wIt, wItV, it1, it2, it3, it4, wChain, wSl, wNoPart, wPart, wDPut, wDDisp, wDNew, kit1, kit2, kit3, kit4, kit5, kit6, kit7, kit8, kit9, kit10, kit11, kit12, kit13, kit14, kit15, kit16, kit17, kit18, kit19, kit20, kit21, kit22, kit23, kit24, kit25, kit26, kit27, kit28, kit29, kit30, mlLen, shp_bl, shp_int, shp_non, eqv_bl, eqv_ii, and_assoc, exists_and_left, row_iff, Int.ofNat_inj, flat_row, len_row, nd_row, ty_row, isTup_row, ix_row, ix_row', eqv_row, eq_dn, eq_ii, add_ii, lt_ii, le_ii, gt_ii, ge_ii, sub_ii, mod_ii, len_li, len_tu, g__law_draw]
    refine ⟨by omega, by simp at hln; omega, fun r hr => ?_⟩
    have hr2 : r < (y :: l).length := by simp; omega
    have e1 : (y :: l)[r]? = some (y :: l)[r] := List.getElem?_eq_getElem hr2
    have e2 : (dn y :: l.map dn)[r]? = some (dn (y :: l)[r]) := by
      rw [← List.map_cons (f := dn), List.getElem?_map, e1]
      rfl
    have e3 : (dn y :: l.map dn).eraseIdx r = ((y :: l).eraseIdx r).map dn := by rw [← List.map_cons (f := dn), erase_map]
    have pm := erase_perm (y :: l) r _ e1
    refine ⟨r, rfl, _, e2, by simp at hln; omega, by simp at hln; omega, ⟨(y :: l).eraseIdx r, f ++ [(y :: l)[r]], by rw [e3]; simp, ?_⟩, ?_⟩
    · refine List.Perm.trans ?_ hp
      rw [List.append_assoc]
      exact List.Perm.append_left f (by simpa using pm)
    · rw [e3, List.length_map, List.length_eraseIdx_of_lt hr2]
      simp
/-! ### rows, machines drawn -/
def rowOf (n : Nat) (r : List Nat) : Prop := r.length = n ∧ ∀ x ∈ r, x < n
def g__law_row : DSp := fun ds κ => ∃ n : Nat, ds = [dn n] ∧ 1 ≤ n ∧ n ≤ 1000 ∧ ∀ r : List Nat, rowOf n r → κ (encR r)
theorem mono__law_row : Mono g__law_row := fun ds p q h ⟨c, e, a, b, k⟩ => ⟨c, e, a, b, fun r h0 => h _ (k r h0)⟩
def t__law_row : DTS := wSeq (wAsg (wCallP 0 1 g__law_draw (wCons (wC (.int 6)) (wNil))) (wN 2)) (wSeq (wIfS (wTest (wBin EqR (wVar 2) (wC (.int 0)))) (wRet (wBin MulR (wTup (wCons (wCallP 0 1 g__law_draw (wCons (wVar 1) (wNil))) (wNil))) (wVar 1))) (wNext)) (wSeq (wIfS (wTest (wBin EqR (wVar 2) (wC (.int 1)))) (wRet (wBlt TupR (wCons (wCallP 0 1 g__law_shuffled (wCons (wF (fRng1 (wVar 1))) (wNil))) (wNil)))) (wNext)) (wSeq (wAsg (wLc (wRng1 (wVar 1)) (wN 4) (wYes) (wCallP 0 1 g__law_draw (wCons (wVar 1) (wNil))) [4]) (wN 3)) (wRet (wIf (wTest (wBin LtR (wVar 2) (wC (.int 5)))) (wBlt TupR (wCons (wF (fBlt SortIF (wCons (wVar 3) (wNil)))) (wNil))) (wBlt TupR (wCons (wVar 3) (wNil))))))))
/-- items one by one, each any of a kind -/
theorem lcW_any {α β : Type} {f : D → (Option D → Prop) → Prop} {κ : List D → Prop} (enc : α → D) (e2 : β → D) (φ : β → Prop) : ∀ (xs : List α) (acc : List β), (∀ x ∈ xs, ∀ k : Option D → Prop, (∀ y, φ y → k (some (e2 y))) → f (enc x) k) → (∀ ys : List β, ys.length = acc.length + xs.length → (∀ y ∈ ys, y ∈ acc ∨ φ y) → κ (ys.map e2)) → lcW f κ (xs.map enc) (acc.map e2)
  | [], acc, _, h => by
    have := h acc (by simp) fun y hy => .inl hy
    simpa [lcW] using this
  | x :: xs, acc, hf, h => by
    rw [List.map_cons]
    unfold lcW
    refine hf x List.mem_cons_self _ fun y hy => ?_
    have := lcW_any (κ := κ) enc e2 φ xs (acc ++ [y]) (fun e he => hf e (List.mem_cons_of_mem _ he)) (fun ys h1 h2 => h ys (by rw [h1]; simp; omega) fun z hz => by
      rcases h2 z hz with q | q
      · rcases List.mem_append.mp q with q | q
        · exact .inl q
        · simp at q; subst q; exact .inr hy
      · exact .inr q)
    simpa using this
theorem pure__law_row (ds : List D) (κ : D → Prop) (hl : ds.length = 1) (h : g__law_row ds κ) : t__law_row { nx := fun _ => κ .none, rt := fun d _ => κ d } (.pl :: startE 4 ds) := by
  obtain ⟨n, rfl, hn1, hn2, hk⟩ := h
  have mulT : ∀ {x : Nat} {z : D}, MulR (.tuple [dn x]) (.int (n : Nat)) z = (z = encR (List.replicate n x)) := fun {x z} => by
    have e : (List.replicate (n : Int).toNat [dn x]).flatten = (List.replicate n x).map dn := by
      rw [Int.toNat_natCast, List.map_replicate]
      generalize n = k
      induction k with
      | zero => rfl
      | succ k ih => rw [List.replicate_succ, List.flatten_cons, ih, List.replicate_succ]; rfl
    simp only [MulR, e, encR]
    exact propext ⟨fun h => h.2.2.2.2, fun h => ⟨by simp, by omega, by omega, by simp, h⟩⟩
  simp [t__law_row, wSeq, wIfS, wOr, wAnd, wNot, wTest, wIsi, wVar, startE, Op.get, Op.clean, noDct, ty1, ty2, ty3, ty4, ty5, ty6, wNext, wIsN, wNotN, wRet, wRetT, wRetN, wAndV, wOrV, wNotV, wIf, wBin, wBlt, wC, wCons, wNil, wTup, dats, gets, wAsg, wN, wN2, wN3, wPar, wAug, wCall, wCallP, wSetL, wF, fLst, fBlt, wApp, wPut, wNeg, wLc, wYes, elW, wipeE, wTupRg, fRng1, wRng1, wRng2, wIt, wItV, it1, it2, it3, it4, wChain, wSl, wNoPart, wPart, wDPut, wDDisp, wDNew, kit1, kit2, kit3, kit4, kit5, kit6, kit7, kit8, kit9, kit10, kit11, kit12, kit13, kit14, kit15, kit16, kit17, kit18, kit19, kit20, kit21, kit22, kit23, kit24, kit25, kit26, kit27, kit28, kit29, kit30, mlLen, shp_bl, shp_int, shp_non, eqv_bl, eqv_ii, and_assoc, exists_and_left, row_iff, Int.ofNat_inj, flat_row, len_row, nd_row, ty_row, isTup_row, ix_row, ix_row', eqv_row, eq_dn, eq_ii, add_ii, lt_ii, le_ii, gt_ii, ge_ii, sub_ii, mod_ii, len_li, len_tu, g__law_draw]
  intro r hr
  by_cases h0 : r = 0
  · subst h0
    simp [dn, eq_ii]
    refine ⟨by omega, by omega, fun q hq => ?_⟩
    have hq2 : q < n := by omega
    refine ⟨_, mulT.mpr rfl, hk _ ⟨by simp, fun x hx => ?_⟩⟩
    rw [(List.mem_replicate.mp hx).2]
    exact hq2
  · by_cases h1 : r = 1
    · subst h1
      simp [dn, eq_ii, rangeD_row, g__law_shuffled]
      refine ⟨by omega, List.range n, rfl, by simpa using hn2, fun ys hy => ⟨encR ys, rfl, hk _ ⟨by simpa using hy.length_eq, fun x hx => by simpa using hy.mem_iff.mp hx⟩⟩⟩
    · have e0 : ¬ ((r : Int) = 0) := by omega
      have e1 : ¬ ((r : Int) = 1) := by omega
      simp [dn, eq_ii, rangeD_row, e0, e1, lt_ii]
      refine .inl ⟨h0, by omega, by omega, ?_⟩
      refine lcW_any (acc := []) dn dn (fun x => x < n) (List.range n) (fun x hx k hk => ?_) (fun ys h2 h3 => ?_)
      · simp [wSeq, wIfS, wOr, wAnd, wNot, wTest, wIsi, wVar, startE, Op.get, Op.clean, noDct, ty1, ty2, ty3, ty4, ty5, ty6, wNext, wIsN, wNotN, wRet, wRetT, wRetN, wAndV, wOrV, wNotV, wIf, wBin, wBlt, wC, wCons, wNil, wTup, dats, gets, wAsg, wN, wN2, wN3, wPar, wAug, wCall, wCallP, wSetL, wF, fLst, fBlt, wApp, wPut, wNeg, wLc, wYes, elW, wipeE, wTupRg, fRng1, wRng1, wRng2, wIt, wItV, it1, it2, it3, it4, wChain, wSl, wNoPart, wPart, wDPut, wDDisp, wDNew, kit1, kit2, kit3, kit4, kit5, kit6, kit7, kit8, kit9, kit10, kit11, kit12, kit13, kit14, kit15, kit16, kit17, kit18, kit19, kit20, kit21, kit22, kit23, kit24, kit25, kit26, kit27, kit28, kit29, kit30, mlLen, shp_bl, shp_int, shp_non, eqv_bl, eqv_ii, and_assoc, exists_and_left, row_iff, Int.ofNat_inj, flat_row, len_row, nd_row, ty_row, isTup_row, ix_row, ix_row', eqv_row, eq_dn, eq_ii, add_ii, lt_ii, le_ii, gt_ii, ge_ii, sub_ii, mod_ii, len_li, len_tu, g__law_draw, dn]
        exact ⟨by omega, by omega, fun q hq => hk q (by omega)⟩
      · have hlt : ∀ y ∈ ys, y < n := fun y hy => by
          rcases h3 y hy with h | h
          · simp at h
          · exact h
        have hlen : ys.length = n := by simpa using h2
        by_cases h5 : (r : Int) < 5
        · refine .inr ⟨h5, ys.map fun (x : Nat) => (x : Int), by simp [dn, Function.comp_def], fun ns' p1 p2 => ?_⟩
          have : ∃ zs : List Nat, ns' = zs.map fun (x : Nat) => (x : Int) := by
            refine ⟨ns'.map Int.toNat, ?_⟩
            rw [List.map_map]
            conv => lhs; rw [← List.map_id ns']
            refine List.map_congr_left fun x hx => ?_
            have := p1.mem_iff.mp hx
            obtain ⟨y, _, rfl⟩ := List.mem_map.mp this
            simp
          obtain ⟨zs, rfl⟩ := this
          have pz : zs.Perm ys := by
            have := p1.map Int.toNat
            simpa [Function.comp_def] using this
          refine ⟨encR zs, by simp [TupR, encR, dn, Function.comp_def], hk _ ⟨by rw [pz.length_eq]; exact hlen, fun x hx => hlt x (pz.mem_iff.mp hx)⟩⟩
        · exact .inl ⟨by omega, encR ys, rfl, hk _ ⟨hlen, hlt⟩⟩
def g__law_machine : DSp := fun ds κ => ∃ m : Nat, ds = [dn m] ∧ 1 ≤ m ∧ m ≤ 1000 ∧ ∀ (n : Nat) (ls : List (List Nat)), n ≤ m → MOk n ls → 1 ≤ ls.length → κ (encM n ls)
theorem mono__law_machine : Mono g__law_machine := fun ds p q h ⟨c, e, a, b, k⟩ => ⟨c, e, a, b, fun n ls h0 h1 h2 => h _ (k n ls h0 h1 h2)⟩
def t__law_machine : DTS := wSeq (wAsg (wBin AddR (wC (.int 1)) (wCallP 0 1 g__law_draw (wCons (wVar 1) (wNil)))) (wN 2)) (wSeq (wIfS (wTest (wBin EqR (wCallP 0 1 g__law_draw (wCons (wC (.int 3)) (wNil))) (wC (.int 0)))) (wRet (wTup (wCons (wVar 2) (wCons (wBlt TupR (wCons (wLc (wRng1 (wBin AddR (wC (.int 1)) (wCallP 0 1 g__law_draw (wCons (wC (.int 3)) (wNil))))) (wN 3) (wYes) (wBlt TupR (wCons (wF (fBlt SortIF (wCons (wLc (wRng1 (wVar 2)) (wN 4) (wYes) (wCallP 0 1 g__law_draw (wCons (wVar 2) (wNil))) [4]) (wNil)))) (wNil))) [3]) (wNil))) (wNil))))) (wNext)) (wRet (wTup (wCons (wVar 2) (wCons (wBlt TupR (wCons (wLc (wRng1 (wBin AddR (wC (.int 1)) (wCallP 0 1 g__law_draw (wCons (wC (.int 2)) (wNil))))) (wN 3) (wYes) (wCallP 0 1 g__law_row (wCons (wVar 2) (wNil))) [3]) (wNil))) (wNil))))))
/-- sorted of ints that are told as naturals -/
theorem sort_nat {ys : List Nat} {κ : List D → Prop} (h : ∀ zs : List Nat, zs.Perm ys → zs.Pairwise (· ≤ ·) → κ (zs.map dn)) : SortIF [.list (ys.map dn)] κ := by
  refine ⟨ys.map fun (x : Nat) => (x : Int), by simp [dn, Function.comp_def], fun ns' p1 p2 => ?_⟩
  have : ∃ zs : List Nat, ns' = zs.map fun (x : Nat) => (x : Int) := by
    refine ⟨ns'.map Int.toNat, ?_⟩
    rw [List.map_map]
    conv => lhs; rw [← List.map_id ns']
    refine List.map_congr_left fun x hx => ?_
    have := p1.mem_iff.mp hx
    obtain ⟨y, _, rfl⟩ := List.mem_map.mp this
    simp
  obtain ⟨zs, rfl⟩ := this
  have pz : zs.Perm ys := by
    have := p1.map Int.toNat
    simpa [Function.comp_def] using this
  have := h zs pz (by
    rw [List.pairwise_map] at p2
    exact p2.imp fun h => by omega)
  rw [List.map_map]
  exact this
/-- a row of draws -/
theorem draws {n m : Nat} {env : DEnv} {i v : Nat} {κ : List D → Prop} (hn : 1 ≤ n) (hn2 : n ≤ 1000) (h0 : env[0]? = some .pl) (hi : env[i]? = some (.im (dn n))) (hv0 : v ≠ 0) (hvi : v ≠ i) (h : ∀ ys : List Nat, ys.length = m → (∀ y ∈ ys, y < n) → κ (ys.map dn)) :
    lcW (elW (wN v) wYes (wCallP 0 1 g__law_draw (wCons (wVar i) wNil)) (wipeE env [v])) κ ((List.range m).map dn) [] := by
  refine lcW_any (acc := []) dn dn (fun x => x < n) (List.range m) (fun x hx k hk => ?_) (fun ys h2 h3 => ?_)
  · have e1 : ((env.set v .un).set v (.im (dn x)))[0]? = some .pl := by rw [List.getElem?_set_ne hv0, List.getElem?_set_ne hv0]; exact h0
    have e2 : ((env.set v .un).set v (.im (dn x)))[i]? = some (.im (dn n)) := by rw [List.getElem?_set_ne hvi, List.getElem?_set_ne hvi]; exact hi
    simp only [elW, wN, wYes, if_true, wipeE]
    refine ⟨e1, ?_⟩
    simp only [wCons, wVar, e2, wNil]
    exact ⟨[dn n], rfl, rfl, (n : Nat), rfl, by omega, by omega, fun q hq => ⟨dn q, rfl, hk q (by omega)⟩⟩
  · exact h ys (by simpa using h2) fun y hy => by
      rcases h3 y hy with h | h
      · simp at h
      · exact h
theorem pure__law_machine (ds : List D) (κ : D → Prop) (hl : ds.length = 1) (h : g__law_machine ds κ) : t__law_machine { nx := fun _ => κ .none, rt := fun d _ => κ d } (.pl :: startE 4 ds) := by
  obtain ⟨mm, rfl, hm1, hm2, hk⟩ := h
  simp [t__law_machine, wSeq, wIfS, wOr, wAnd, wNot, wTest, wIsi, wVar, startE, Op.get, Op.clean, noDct, ty1, ty2, ty3, ty4, ty5, ty6, wNext, wIsN, wNotN, wRet, wRetT, wRetN, wAndV, wOrV, wNotV, wIf, wBin, wBlt, wC, wCons, wNil, wTup, dats, gets, wAsg, wN, wN2, wN3, wPar, wAug, wCall, wCallP, wSetL, wF, fLst, fBlt, wApp, wPut, wNeg, wLc, wYes, elW, wipeE, wTupRg, fRng1, wRng1, wRng2, wIt, wItV, it1, it2, it3, it4, wChain, wSl, wNoPart, wPart, wDPut, wDDisp, wDNew, kit1, kit2, kit3, kit4, kit5, kit6, kit7, kit8, kit9, kit10, kit11, kit12, kit13, kit14, kit15, kit16, kit17, kit18, kit19, kit20, kit21, kit22, kit23, kit24, kit25, kit26, kit27, kit28, kit29, kit30, mlLen, shp_bl, shp_int, shp_non, eqv_bl, eqv_ii, and_assoc, exists_and_left, row_iff, Int.ofNat_inj, flat_row, len_row, nd_row, ty_row, isTup_row, ix_row, ix_row', eqv_row, eq_dn, eq_ii, add_ii, lt_ii, le_ii, gt_ii, ge_ii, sub_ii, mod_ii, len_li, len_tu, g__law_draw]
  refine ⟨mm, rfl, by omega, by omega, fun r hr => ⟨dn (1 + r), by simp [AddR, dn], fun q hq => ?_⟩⟩
  have hn1 : 1 ≤ 1 + r := by omega
  have hn2 : 1 + r ≤ 1000 := by omega
  by_cases h0 : q = 0
  · subst h0
    simp [dn, eq_ii]
    intro k hk3
    refine ⟨.int ((1 + k : Nat) : Int), by simp [AddR], _, rfl, by omega, by omega, by rw [rangeD_len]; omega, ?_⟩
    rw [Int.toNat_natCast, rangeD_row]
    refine lcW_any (acc := []) dn encR (rowOf (1 + r)) (List.range (1 + k)) (fun x hx kk hkk => ?_) (fun ys h2 h3 => ?_)
    · simp [wSeq, wIfS, wOr, wAnd, wNot, wTest, wIsi, wVar, startE, Op.get, Op.clean, noDct, ty1, ty2, ty3, ty4, ty5, ty6, wNext, wIsN, wNotN, wRet, wRetT, wRetN, wAndV, wOrV, wNotV, wIf, wBin, wBlt, wC, wCons, wNil, wTup, dats, gets, wAsg, wN, wN2, wN3, wPar, wAug, wCall, wCallP, wSetL, wF, fLst, fBlt, wApp, wPut, wNeg, wLc, wYes, elW, wipeE, wTupRg, fRng1, wRng1, wRng2, wIt, wItV, it1, it2, it3, it4, wChain, wSl, wNoPart, wPart, wDPut, wDDisp, wDNew, kit1, kit2, kit3, kit4, kit5, kit6, kit7, kit8, kit9, kit10, kit11, kit12, kit13, kit14, kit15, kit16, kit17, kit18, kit19, kit20, kit21, kit22, kit23, kit24, kit25, kit26, kit27, kit28, kit29, kit30, mlLen, shp_bl, shp_int, shp_non, eqv_bl, eqv_ii, and_assoc, exists_and_left, row_iff, Int.ofNat_inj, flat_row, len_row, nd_row, ty_row, isTup_row, ix_row, ix_row', eqv_row, eq_dn, eq_ii, add_ii, lt_ii, le_ii, gt_ii, ge_ii, sub_ii, mod_ii, len_li, len_tu, rangeD_row, dn]
      refine ⟨by omega, by omega, ?_⟩
      have e : ((1 + (r : Int)).toNat) = 1 + r := by omega
      rw [e]
      refine ⟨by omega, draws (env := [.pl, .im (.int (mm : Nat)), .im (.int (1 + (r : Int))), .im (.int (x : Nat)), .un]) hn1 hn2 rfl (by simp [dn]) (by decide) (by decide) fun ys hy1 hy2 => ?_⟩
      refine sort_nat fun zs pz _ => ⟨encR zs, rfl, hkk zs ⟨by rw [pz.length_eq]; exact hy1, fun x hx => hy2 x (pz.mem_iff.mp hx)⟩⟩
    · refine ⟨.tuple (ys.map encR), rfl, ?_⟩
      have := hk (1 + r) ys (by omega) ⟨hn1, hn2, by simp at h2; omega, fun z hz => by
        rcases h3 z hz with h | h
        · simp at h
        · exact h⟩ (by simp at h2; omega)
      simpa [encM, dn] using this
  · simp [dn, eq_ii, h0]
    intro k hk3
    refine ⟨.int ((1 + k : Nat) : Int), by simp [AddR], _, rfl, by omega, by omega, by rw [rangeD_len]; omega, ?_⟩
    rw [Int.toNat_natCast, rangeD_row]
    refine lcW_any (acc := []) dn encR (rowOf (1 + r)) (List.range (1 + k)) (fun x hx kk hkk => ?_) (fun ys h2 h3 => ?_)
    · simp [wSeq, wIfS, wOr, wAnd, wNot, wTest, wIsi, wVar, startE, Op.get, Op.clean, noDct, ty1, ty2, ty3, ty4, ty5, ty6, wNext, wIsN, wNotN, wRet, wRetT, wRetN, wAndV, wOrV, wNotV, wIf, wBin, wBlt, wC, wCons, wNil, wTup, dats, gets, wAsg, wN, wN2, wN3, wPar, wAug, wCall, wCallP, wSetL, wF, fLst, fBlt, wApp, wPut, wNeg, wLc, wYes, elW, wipeE, wTupRg, fRng1, wRng1, wRng2, wIt, wItV, it1, it2, it3, it4, wChain, wSl, wNoPart, wPart, wDPut, wDDisp, wDNew, kit1, kit2, kit3, kit4, kit5, kit6, kit7, kit8, kit9, kit10, kit11, kit12, kit13, kit14, kit15, kit16, kit17, kit18, kit19, kit20, kit21, kit22, kit23, kit24, kit25, kit26, kit27, kit28, kit29, kit30, mlLen, shp_bl, shp_int, shp_non, eqv_bl, eqv_ii, and_assoc, exists_and_left, row_iff, Int.ofNat_inj, flat_row, len_row, nd_row, ty_row, isTup_row, ix_row, ix_row', eqv_row, eq_dn, eq_ii, add_ii, lt_ii, le_ii, gt_ii, ge_ii, sub_ii, mod_ii, len_li, len_tu, dn, g__law_row]
      refine ⟨1 + r, by simp, by omega, by omega, hkk⟩
    · refine ⟨.tuple (ys.map encR), rfl, ?_⟩
      have := hk (1 + r) ys (by omega) ⟨hn1, hn2, by simp at h2; omega, fun z hz => by
        rcases h3 z hz with h | h
        · simp at h
        · exact h⟩ (by simp at h2; omega)
      simpa [encM, dn] using this
/-! ### the greatest divisor -/
def g__law_divisor : DSp := fun ds κ => ∃ a b : Nat, ds = [dn a, dn b] ∧ b ≤ 1000000 ∧ κ (dn (Nat.gcd a b))
theorem mono__law_divisor : Mono g__law_divisor := fun ds p q h ⟨a, b, e, l, k⟩ => ⟨a, b, e, l, h _ k⟩
def t__law_divisor : DTS := wSeq (wWhile (wTest (wBin NeR (wVar 1) (wC (.int 0)))) (wPar 0 1 (wCons (wVar 1) (wCons (wBin ModR (wBlt IntOf (wCons (wVar 0) (wNil))) (wVar 1)) (wNil))))) (wRet (wVar 0))
def GcdI (g : Nat) (e : DEnv) : Prop := ∃ a b : Nat, e = [.im (dn a), .im (dn b)] ∧ Nat.gcd a b = g
theorem ne_ii {i j : Int} {z : D} : NeR (.int i) (.int j) z = (z = .bool (!decide (i = j))) := by
  unfold NeR
  rw [eqv_int]
  simp [shp_int]
theorem pure__law_divisor (ds : List D) (κ : D → Prop) (hl : ds.length = 2) (h : g__law_divisor ds κ) : t__law_divisor { nx := fun _ => κ .none, rt := fun d _ => κ d } (startE 2 ds) := by
  obtain ⟨a, b, rfl, hb, hk⟩ := h
  simp [t__law_divisor, wSeq, wIfS, wOr, wAnd, wNot, wTest, wIsi, wVar, startE, Op.get, Op.clean, noDct, ty1, ty2, ty3, ty4, ty5, ty6, wNext, wIsN, wNotN, wRet, wRetT, wRetN, wAndV, wOrV, wNotV, wIf, wBin, wBlt, wC, wCons, wNil, wTup, dats, gets, wAsg, wN, wN2, wN3, wPar, wAug, wCall, wCallP, wSetL, wF, fLst, fBlt, wApp, wPut, wNeg, wLc, wYes, elW, wipeE, wTupRg, fRng1, wRng1, wRng2, wIt, wItV, it1, it2, it3, it4, wChain, wSl, wNoPart, wPart, wDPut, wDDisp, wDNew, kit1, kit2, kit3, kit4, kit5, kit6, kit7, kit8, kit9, kit10, kit11, kit12, kit13, kit14, kit15, kit16, kit17, kit18, kit19, kit20, kit21, kit22, kit23, kit24, kit25, kit26, kit27, kit28, kit29, kit30, mlLen, shp_bl, shp_int, shp_non, eqv_bl, eqv_ii, and_assoc, exists_and_left, row_iff, Int.ofNat_inj, flat_row, len_row, nd_row, ty_row, isTup_row, ix_row, ix_row', eqv_row, eq_dn, eq_ii, add_ii, lt_ii, le_ii, gt_ii, ge_ii, sub_ii, mod_ii, len_li, len_tu]
  refine ⟨GcdI (Nat.gcd a b), intAt 1, ⟨a, b, rfl, rfl⟩, ?_⟩
  rintro e ⟨x, y, rfl, hg⟩
  simp [wSeq, wIfS, wOr, wAnd, wNot, wTest, wIsi, wVar, startE, Op.get, Op.clean, noDct, ty1, ty2, ty3, ty4, ty5, ty6, wNext, wIsN, wNotN, wRet, wRetT, wRetN, wAndV, wOrV, wNotV, wIf, wBin, wBlt, wC, wCons, wNil, wTup, dats, gets, wAsg, wN, wN2, wN3, wPar, wAug, wCall, wCallP, wSetL, wF, fLst, fBlt, wApp, wPut, wNeg, wLc, wYes, elW, wipeE, wTupRg, fRng1, wRng1, wRng2, wIt, wItV, it1, it2, it3, it4, wChain, wSl, wNoPart, wPart, wDPut, wDDisp, wDNew, kit1, kit2, kit3, kit4, kit5, kit6, kit7, kit8, kit9, kit10, kit11, kit12, kit13, kit14, kit15, kit16, kit17, kit18, kit19, kit20, kit21, kit22, kit23, kit24, kit25, kit26, kit27, kit28, kit29, kit30, mlLen, shp_bl, shp_int, shp_non, eqv_bl, eqv_ii, and_assoc, exists_and_left, row_iff, Int.ofNat_inj, flat_row, len_row, nd_row, ty_row, isTup_row, ix_row, ix_row', eqv_row, eq_dn, eq_ii, add_ii, lt_ii, le_ii, gt_ii, ge_ii, sub_ii, mod_ii, len_li, len_tu, dn, ne_ii, int_of]
  by_cases hy : y = 0
  · subst hy
    left
    simp at hg
    subst hg
    exact ⟨rfl, hk⟩
  · right
    refine ⟨hy, by omega, ⟨y, x % y, ?_, ?_⟩, ?_⟩
    · simp [dn]
    · rw [← hg, Nat.gcd_comm x y, Nat.gcd_rec y x, Nat.gcd_comm]
    · have := Nat.mod_lt x (show y > 0 by omega)
      simp [intAt]
      omega
end DL

namespace DL
/-! ### all rows; powers settle -/
/-- all rows of m below n -/
def allRows (n : Nat) : Nat → List (List Nat)
  | 0 => [[]]
  | m + 1 => (allRows n m).flatMap fun r => (List.range n).map fun x => x :: r
theorem len_flat {α : Type} {n : Nat} (g : α → List (List Nat)) : ∀ l : List α, (∀ x ∈ l, (g x).length = n) → (l.flatMap g).length = l.length * n
  | [], _ => by simp
  | a :: l, h => by
    rw [List.flatMap_cons, List.length_append, h a List.mem_cons_self, len_flat g l fun x hx => h x (List.mem_cons_of_mem _ hx), List.length_cons, Nat.succ_mul, Nat.add_comm]
theorem len_allRows (n : Nat) : ∀ m, (allRows n m).length = n ^ m
  | 0 => rfl
  | m + 1 => by
    unfold allRows
    rw [len_flat (n := n) _ _ (fun x _ => by simp), len_allRows n m, Nat.pow_succ]
theorem mem_allRows {n : Nat} : ∀ {m : Nat} {r : List Nat}, r.length = m → (∀ x ∈ r, x < n) → r ∈ allRows n m
  | 0, r, h, _ => by
    have : r = [] := List.eq_nil_of_length_eq_zero h
    subst this
    simp [allRows]
  | m + 1, [], h, _ => by simp at h
  | m + 1, x :: r, h, hx => by
    unfold allRows
    rw [List.mem_flatMap]
    exact ⟨r, mem_allRows (by simpa using h) fun y hy => hx y (List.mem_cons_of_mem _ hy), List.mem_map.mpr ⟨x, List.mem_range.mpr (hx x List.mem_cons_self), rfl⟩⟩
theorem of_allRows {n : Nat} : ∀ {m : Nat} {r : List Nat}, r ∈ allRows n m → r.length = m ∧ ∀ x ∈ r, x < n
  | 0, r, h => by
    simp [allRows] at h
    subst h
    simp
  | m + 1, r, h => by
    unfold allRows at h
    obtain ⟨q, h1, h2⟩ := List.mem_flatMap.mp h
    obtain ⟨x, h3, rfl⟩ := List.mem_map.mp h2
    obtain ⟨a, b⟩ := of_allRows h1
    exact ⟨by simp [a], fun y hy => by
      rcases List.mem_cons.mp hy with rfl | hy
      · exact List.mem_range.mp h3
      · exact b y hy⟩
theorem univ_all {n : Nat} {ls : List (List Nat)} (m : MOk n ls) (hn : n ≤ 6) : Univ n ls (allRows n n) where
  few := by
    rw [len_allRows]
    have : n = 0 ∨ n = 1 ∨ n = 2 ∨ n = 3 ∨ n = 4 ∨ n = 5 ∨ n = 6 := by omega
    rcases this with rfl | rfl | rfl | rfl | rfl | rfl | rfl <;> decide
  one := mem_allRows (by simp) fun x hx => List.mem_range.mp hx
  cl := fun r hr k hk => by
    obtain ⟨h1, h2⟩ := of_allRows hr
    have q := m.row hk
    refine mem_allRows (by rw [len_beh]; exact h1) fun x hx => ?_
    have := beh_lt (a := r) (b := rowAt ls k) (by rw [q.1]; exact h2) ⟨by rw [q.1]; exact m.few, by rw [q.1]; exact q.2⟩ x hx
    rwa [q.1] at this
theorem rg_beh {a b : List Nat} {x : Nat} (h : x < a.length) : rg (beh a b) x = rg b (rg a x) := by
  have e := getD_of h
  have e2 : (beh a b)[x]? = some (rg b (rg a x)) := by
    unfold beh
    rw [List.getElem?_map, e]
    rfl
  have h2 : x < (beh a b).length := by rw [len_beh]; exact h
  rw [getD_of h2] at e2
  exact Option.some.inj e2
theorem row_ext {a b : List Nat} (h : a.length = b.length) (h2 : ∀ x, x < a.length → rg a x = rg b x) : a = b := by
  apply List.ext_getElem? fun i => ?_
  rcases Nat.lt_or_ge i a.length with hi | hi
  · rw [getD_of hi, getD_of (by rw [← h]; exact hi), h2 i hi]
  · rw [List.getElem?_eq_none hi, List.getElem?_eq_none (by rw [← h]; exact hi)]
theorem beh_assoc {a b c : List Nat} (ha : ∀ x ∈ a, x < b.length) : beh (beh a b) c = beh a (beh b c) := by
  refine row_ext (by simp [len_beh]) fun x hx => ?_
  rw [len_beh, len_beh] at hx
  have hb := ha _ (List.mem_of_getElem? (getD_of hx))
  rw [rg_beh (by rw [len_beh]; exact hx), rg_beh hx, rg_beh hx, rg_beh hb]
theorem rg_range {n x : Nat} (h : x < n) : rg (List.range n) x = x := by
  have := getD_of (r := List.range n) (i := x) (by simpa using h)
  rw [List.getElem?_range h] at this
  exact (Option.some.inj this).symm
theorem beh_one {a : List Nat} {n : Nat} (h : a.length = n) : beh (List.range n) a = a := by
  refine row_ext (by rw [len_beh, h]; simp) fun x hx => ?_
  rw [len_beh, List.length_range] at hx
  rw [rg_beh (by simpa using hx), rg_range hx]
theorem beh_one' {a : List Nat} {n : Nat} (h : ∀ x ∈ a, x < n) : beh a (List.range n) = a := by
  refine row_ext (by rw [len_beh]) fun x hx => ?_
  rw [len_beh] at hx
  rw [rg_beh hx, rg_range (h _ (List.mem_of_getElem? (getD_of hx)))]
section
variable {r : List Nat} (ok : RowOk r)
include ok
theorem rpow_add (a : Nat) : ∀ b, rpow r (a + b) = beh (rpow r a) (rpow r b)
  | 0 => by
    rw [Nat.add_zero]
    exact (beh_one' (rpow_lt ok a)).symm
  | b + 1 => by
    show beh (rpow r (a + b)) r = beh (rpow r a) (beh (rpow r b) r)
    rw [rpow_add a b, beh_assoc]
    rw [len_rpow]
    exact rpow_lt ok a
theorem ok_rpow (k : Nat) : RowOk (rpow r k) := ⟨by rw [len_rpow]; exact ok.1, by rw [len_rpow]; exact rpow_lt ok k⟩
theorem rpow_mul (q : Nat) : ∀ k, rpow (rpow r q) k = rpow r (q * k)
  | 0 => by
    show List.range (rpow r q).length = List.range r.length
    rw [len_rpow]
  | k + 1 => by
    show beh (rpow (rpow r q) k) (rpow r q) = _
    rw [rpow_mul q k, Nat.mul_succ, rpow_add ok]
end
/-- powers settle -/
theorem sets_ex {r : List Nat} (ok : RowOk r) (hn : r.length ≤ 6) : ∃ p t, Sets r p t := by
  have hP : ∃ N, ∃ i, i < N ∧ rpow r i = rpow r N := by
    apply Classical.byContradiction
    intro hc
    have apart : ∀ i j, i < j → rpow r i ≠ rpow r j := fun i j h e => hc ⟨j, i, h, e⟩
    have nd : ((List.range (r.length ^ r.length + 1)).map (rpow r)).Nodup := by
      unfold List.Nodup
      rw [List.pairwise_map]
      exact List.pairwise_lt_range.imp fun h => apart _ _ h
    have := nodup_len _ (allRows r.length r.length) nd fun x hx => by
      obtain ⟨i, _, rfl⟩ := List.mem_map.mp hx
      exact mem_allRows (len_rpow r i) (rpow_lt ok i)
    rw [len_allRows, List.length_map, List.length_range] at this
    exact absurd this (Nat.not_succ_le_self _)
  obtain ⟨N, ⟨i, hi, he⟩, hmin⟩ : ∃ N, (∃ i, i < N ∧ rpow r i = rpow r N) ∧ ∀ M, M < N → ¬ ∃ i, i < M ∧ rpow r i = rpow r M := by
    obtain ⟨N, hN⟩ := hP
    induction N using Nat.strongRecOn with
    | _ N ih =>
      by_cases h : ∃ M, M < N ∧ ∃ i, i < M ∧ rpow r i = rpow r M
      · obtain ⟨M, h1, h2⟩ := h
        exact ih M h1 h2
      · exact ⟨N, hN, fun M hM h2 => h ⟨M, hM, h2⟩⟩
  refine ⟨i, N - i, ok, by omega, ?_, by rw [Nat.add_sub_cancel' (Nat.le_of_lt hi)]; exact he.symm, fun a b hab hb => ?_⟩
  · rw [Nat.add_sub_cancel' (Nat.le_of_lt hi)]
    have nd : ((List.range N).map (rpow r)).Nodup := by
      unfold List.Nodup
      rw [List.pairwise_map]
      refine List.Pairwise.imp_of_mem (fun {a b} ha hb h e => ?_) List.pairwise_lt_range
      exact hmin b (List.mem_range.mp hb) ⟨a, h, e⟩
    have := nodup_len _ (allRows r.length r.length) nd fun x hx => by
      obtain ⟨i, _, rfl⟩ := List.mem_map.mp hx
      exact mem_allRows (len_rpow r i) (rpow_lt ok i)
    rw [len_allRows] at this
    simp at this
    have h6 : r.length ^ r.length ≤ 100000 := by
      have : r.length = 0 ∨ r.length = 1 ∨ r.length = 2 ∨ r.length = 3 ∨ r.length = 4 ∨ r.length = 5 ∨ r.length = 6 := by omega
      rcases this with h | h | h | h | h | h | h <;> rw [h] <;> decide
    omega
  · rw [Nat.add_sub_cancel' (Nat.le_of_lt hi)] at hb
    exact fun e => hmin b hb ⟨a, hab, e⟩
/-- when two powers are alike -/
theorem Sets.iff {r : List Nat} {p t a b : Nat} (S : Sets r p t) (hab : a < b) (e : rpow r a = rpow r b) : p ≤ a ∧ t ∣ b - a := by
  have ok := S.ok
  have pos := S.pos
  have red : ∀ k x, rpow r (p + x + k * t) = rpow r (p + x) := by
    intro k
    induction k with
    | zero => intro x; rw [Nat.zero_mul, Nat.add_zero]
    | succ k ih =>
      intro x
      have h1 : p + x + (k + 1) * t = (p + t) + (x + k * t) := by rw [Nat.succ_mul]; omega
      rw [h1, rpow_add ok, S.back, ← rpow_add ok, ← Nat.add_assoc, ih]
  have low : ∀ x, p ≤ x → rpow r x = rpow r (p + (x - p) % t) := fun x hx => by
    have := red ((x - p) / t) ((x - p) % t)
    rw [← this]
    congr 1
    have := Nat.mod_add_div (x - p) t
    rw [Nat.mul_comm] at this
    omega
  have lt : ∀ x, p + (x - p) % t < p + t := fun x => by
    have := Nat.mod_lt (x - p) (show t > 0 by omega)
    omega
  have inj : ∀ i j, i < p + t → j < p + t → rpow r i = rpow r j → i = j := fun i j hi hj h => by
    rcases Nat.lt_trichotomy i j with q | q | q
    · exact absurd h (S.apart i j q hj)
    · exact q
    · exact absurd h.symm (S.apart j i q hi)
  rcases Nat.lt_or_ge a p with ha | ha
  · exfalso
    rcases Nat.lt_or_ge b p with hb | hb
    · have := inj a b (by omega) (by omega) e
      omega
    · rw [low b hb] at e
      have := inj a _ (by omega) (lt b) e
      omega
  · refine ⟨ha, ?_⟩
    rw [low a ha, low b (by omega)] at e
    have h := inj _ _ (lt a) (lt b) e
    have h2 : (a - p) % t = (b - p) % t := by omega
    have := (Nat.sub_mod_eq_zero_of_mod_eq h2.symm)
    have h3 : b - p - (a - p) = b - a := by omega
    rw [h3] at this
    exact Nat.dvd_of_mod_eq_zero this
theorem Sets.eq_of {r : List Nat} {p t a b : Nat} (S : Sets r p t) (ha : p ≤ a) (hd : t ∣ b - a) (hab : a ≤ b) : rpow r a = rpow r b := by
  obtain ⟨k, hk⟩ := hd
  have hb : b = a + k * t := by rw [Nat.mul_comm k t]; omega
  subst hb
  clear hk hab
  induction k with
  | zero => simp
  | succ k ih =>
    have h1 : a + (k + 1) * t = (p + t) + ((a - p) + k * t) := by rw [Nat.succ_mul]; omega
    rw [h1, rpow_add S.ok, S.back, ← rpow_add S.ok]
    have h2 : p + (a - p + k * t) = a + k * t := by omega
    rw [h2]
    exact ih
/-- the length of a power -/
theorem Sets.of_pow {r : List Nat} {p t q p' t' : Nat} (S : Sets r p t) (hq : 1 ≤ q) (S' : Sets (rpow r q) p' t') : t' = t / Nat.gcd t q := by
  have pos' := S'.pos
  have pos := S.pos
  have gp : 0 < Nat.gcd t q := Nat.gcd_pos_of_pos_right _ (by omega)
  have e1 : rpow r (q * p') = rpow r (q * (p' + t')) := by
    rw [← rpow_mul S.ok, ← rpow_mul S.ok]
    exact S'.back.symm
  have hlt : q * p' < q * (p' + t') := Nat.mul_lt_mul_of_pos_left (by omega) (by omega)
  obtain ⟨h1, h2⟩ := S.iff hlt e1
  have h3 : q * (p' + t') - q * p' = q * t' := by rw [Nat.mul_add]; omega
  rw [h3] at h2
  -- t / gcd divides t'
  have tg : Nat.gcd t q * (t / Nat.gcd t q) = t := Nat.mul_div_cancel' (Nat.gcd_dvd_left t q)
  have qg : Nat.gcd t q * (q / Nat.gcd t q) = q := Nat.mul_div_cancel' (Nat.gcd_dvd_right t q)
  have cop : Nat.Coprime (t / Nat.gcd t q) (q / Nat.gcd t q) := Nat.coprime_div_gcd_div_gcd gp
  have d1 : t / Nat.gcd t q ∣ t' := by
    have : Nat.gcd t q * (t / Nat.gcd t q) ∣ Nat.gcd t q * ((q / Nat.gcd t q) * t') := by
      rw [tg, ← Nat.mul_assoc, qg]
      exact h2
    have := Nat.dvd_of_mul_dvd_mul_left gp this
    exact cop.dvd_of_dvd_mul_left this
  have t0p : 1 ≤ t / Nat.gcd t q := by
    rcases Nat.eq_zero_or_pos (t / Nat.gcd t q) with z | z
    · rw [z, Nat.mul_zero] at tg; omega
    · exact z
  rcases Nat.lt_or_ge (t / Nat.gcd t q) t' with h | h
  · exfalso
    refine S'.apart p' (p' + t / Nat.gcd t q) (by omega) (by omega) ?_
    rw [rpow_mul S.ok, rpow_mul S.ok]
    refine S.eq_of h1 ?_ (Nat.mul_le_mul_left _ (by omega))
    have : q * (p' + t / Nat.gcd t q) - q * p' = q * (t / Nat.gcd t q) := by rw [Nat.mul_add]; omega
    rw [this]
    refine ⟨q / Nat.gcd t q, ?_⟩
    have a1 : q * (t / Nat.gcd t q) = Nat.gcd t q * (q / Nat.gcd t q) * (t / Nat.gcd t q) := by rw [qg]
    rw [a1, Nat.mul_right_comm, tg]
  · exact Nat.le_antisymm h (Nat.le_of_dvd (by omega) d1)
end DL

namespace DL
open PySem L2
/-! ### words put together -/
def wrep (w : List Nat) (k : Nat) : List Nat := (List.replicate k w).flatten
theorem wrep_succ (w : List Nat) (k : Nat) : wrep w (k + 1) = w ++ wrep w k := by simp [wrep, List.replicate_succ]
theorem mem_wrep {w : List Nat} {k x : Nat} (h : x ∈ wrep w k) : x ∈ w := by
  unfold wrep at h
  obtain ⟨l, h1, h2⟩ := List.mem_flatten.mp h
  rw [(List.mem_replicate.mp h1).2] at h2
  exact h2
theorem len_wrep (w : List Nat) : ∀ k, (wrep w k).length = k * w.length
  | 0 => by simp [wrep]
  | k + 1 => by rw [wrep_succ, List.length_append, len_wrep w k, Nat.succ_mul, Nat.add_comm]
theorem mul_word {w : List Nat} {k : Nat} {z : D} (h : w.length ≤ 10000) (hk : k ≤ 1000) : MulR (encW w) (.int (k : Nat)) z = (z = encW (wrep w k)) := by
  have e : (List.replicate (k : Int).toNat ((w.map (97 + ·)).toArray).toList).flatten = (wrep w k).map (97 + ·) := by
    rw [Int.toNat_natCast]
    unfold wrep
    rw [List.map_flatten, List.map_replicate]
  unfold encW
  simp only [MulR, e]
  exact propext ⟨fun h => h.2.2.2, fun hz => ⟨by omega, by omega, by simpa [Str.length] using h, hz⟩⟩
theorem fold_beh {n : Nat} {ls : List (List Nat)} (m : MOk n ls) : ∀ (w a : List Nat), (∀ k ∈ w, k < ls.length) → (∀ x ∈ a, x < n) → w.foldl (fun f k => beh f (rowAt ls k)) a = beh a (mapOf n ls w)
  | [], a, _, ha => (beh_one' ha).symm
  | k :: w, a, hw, ha => by
    have q := m.row (hw k List.mem_cons_self)
    have ok : RowOk (rowAt ls k) := ⟨by rw [q.1]; exact m.few, by rw [q.1]; exact q.2⟩
    have hw' : ∀ j ∈ w, j < ls.length := fun j hj => hw j (List.mem_cons_of_mem _ hj)
    have lt : ∀ {b : List Nat}, (∀ x ∈ b, x < n) → ∀ x ∈ beh b (rowAt ls k), x < n := fun {b} hb x hx => by
      have := beh_lt (a := b) (b := rowAt ls k) (by rw [q.1]; exact hb) ok x hx
      rwa [q.1] at this
    have id : ∀ x ∈ List.range n, x < n := fun x hx => List.mem_range.mp hx
    have e2 : mapOf n ls (k :: w) = beh (beh (List.range n) (rowAt ls k)) (mapOf n ls w) := by
      unfold mapOf
      rw [List.foldl_cons]
      exact fold_beh m w _ hw' (lt id)
    rw [List.foldl_cons, fold_beh m w _ hw' (lt ha), e2, beh_one q.1, beh_assoc (by rw [q.1]; exact ha)]
theorem mapOf_append {n : Nat} {ls : List (List Nat)} (m : MOk n ls) {v w : List Nat} (hv : ∀ k ∈ v, k < ls.length) (hw : ∀ k ∈ w, k < ls.length) : mapOf n ls (v ++ w) = beh (mapOf n ls v) (mapOf n ls w) := by
  show (v ++ w).foldl _ _ = _
  rw [List.foldl_append]
  exact fold_beh m w _ hw (mapOf_ok m hv).2
theorem mapOf_rep {n : Nat} {ls : List (List Nat)} (m : MOk n ls) {w : List Nat} (hw : ∀ k ∈ w, k < ls.length) : ∀ k, mapOf n ls (wrep w k) = rpow (mapOf n ls w) k
  | 0 => by
    show List.range n = List.range (mapOf n ls w).length
    rw [(mapOf_ok m hw).1]
  | k + 1 => by
    have mo := mapOf_ok m hw
    have ok : RowOk (mapOf n ls w) := ⟨by rw [mo.1]; exact m.few, by rw [mo.1]; exact mo.2⟩
    rw [wrep_succ, mapOf_append m hw (fun j hj => hw j (mem_wrep hj)), mapOf_rep m hw k]
    have := rpow_add ok 1 k
    rw [Nat.add_comm] at this
    rw [this]
    congr 1
    exact (beh_one rfl).symm
/-! ### a ring -/
structure RingOk (n : Nat) (f g : List Nat) : Prop where
  two : 2 ≤ g.length
  nd : g.Nodup
  lt : ∀ x ∈ g, x < n
  nx : ∀ i, i < g.length → rg f (rg g i) = rg g ((i + 1) % g.length)
theorem RingOk.pow {n : Nat} {f g : List Nat} (R : RingOk n f g) (hf : f.length = n) : ∀ (k i : Nat), i < g.length → rg (rpow f k) (rg g i) = rg g ((i + k) % g.length)
  | 0, i, hi => by
    have : rg g i < n := R.lt _ (List.mem_of_getElem? (getD_of hi))
    show rg (List.range f.length) _ = _
    rw [hf, rg_range this, Nat.add_zero, Nat.mod_eq_of_lt hi]
  | k + 1, i, hi => by
    have h1 : rg g i < n := R.lt _ (List.mem_of_getElem? (getD_of hi))
    show rg (beh (rpow f k) f) _ = _
    rw [rg_beh (by rw [len_rpow, hf]; exact h1), R.pow hf k i hi, R.nx _ (Nat.mod_lt _ (by have := R.two; omega)), Nat.mod_add_mod, Nat.add_assoc]
theorem rg_left {a b : List Nat} {i : Nat} (h : i < a.length) : rg (a ++ b) i = rg a i := by
  unfold rg
  rw [List.getD_eq_getElem?_getD, List.getD_eq_getElem?_getD, List.getElem?_append_left h]
theorem rg_inj {g : List Nat} (nd : g.Nodup) {i j : Nat} (hi : i < g.length) (hj : j < g.length) (e : rg g i = rg g j) : i = j := by
  have a := getD_of hi
  have b := getD_of hj
  rw [e, ← b] at a
  exact (List.getElem?_inj hi nd).mp a
theorem ringGo_ok {r : List Nat} (ok : RowOk r) : ∀ (f : Nat) (init : List Nat) (y : Nat), (init ++ [y]).Nodup → (∀ x ∈ init ++ [y], x < r.length) → (∀ i, i + 1 < (init ++ [y]).length → rg r (rg (init ++ [y]) i) = rg (init ++ [y]) (i + 1)) →
    f + init.length = r.length → ∃ g l, ringGo r f (init ++ [y]) y = g ++ [l] ∧ (g ++ [l]).Nodup ∧ (∀ x ∈ g ++ [l], x < r.length) ∧ (∀ i, i + 1 < (g ++ [l]).length → rg r (rg (g ++ [l]) i) = rg (g ++ [l]) (i + 1)) ∧ rg r l ∈ g ++ [l] ∧ rg (g ++ [l]) 0 = rg (init ++ [y]) 0
  | 0, init, y, nd, lt, st, hf => by
    exfalso
    have := nodup_lt nd lt
    simp at this
    omega
  | f + 1, init, y, nd, lt, st, hf => by
    unfold ringGo
    by_cases h : rg r y ∈ init ++ [y]
    · rw [if_pos h]
      exact ⟨init, y, rfl, nd, lt, st, h, rfl⟩
    · rw [if_neg h]
      have hy : y < r.length := lt y (by simp)
      have hl := ok.2
      have hst : ∀ i, i + 1 < (init ++ [y] ++ [rg r y]).length → rg r (rg (init ++ [y] ++ [rg r y]) i) = rg (init ++ [y] ++ [rg r y]) (i + 1) := fun i hi => by
        have hlen : (init ++ [y] ++ [rg r y]).length = (init ++ [y]).length + 1 := by simp
        rw [hlen] at hi
        have e1 : rg (init ++ [y] ++ [rg r y]) i = rg (init ++ [y]) i := rg_left (by omega)
        rw [e1]
        rcases Nat.lt_or_ge (i + 1) (init ++ [y]).length with q | q
        · rw [st i q]
          exact (rg_left q).symm
        · have hi2 : i = init.length := by simp at q hi; omega
          subst hi2
          have a1 : rg (init ++ [y]) init.length = y := by
            unfold rg
            simp
          have a2 : rg (init ++ [y] ++ [rg r y]) (init.length + 1) = rg r y := by
            unfold rg
            simp
          rw [a1, a2]
      obtain ⟨g, l, h1, h2, h3, h4, h5, h6⟩ := ringGo_ok ok f (init ++ [y]) (rg r y) (List.nodup_append.mpr ⟨nd, by simp, fun a ha b hb e => by simp at hb; subst hb; subst e; exact h ha⟩) (fun x hx => by
          rcases List.mem_append.mp hx with q | q
          · exact lt x q
          · simp at q; subst q; exact rg_lt ok hy) hst (by simp; omega)
      exact ⟨g, l, h1, h2, h3, h4, h5, h6.trans (rg_left (by simp))⟩
theorem ringOf_ok {n : Nat} {f g : List Nat} (ok : RowOk f) (hf : f.length = n) (h : ringOf f = some g) : RingOk n f g := by
  unfold ringOf at h
  cases hq : (List.range f.length).find? (isRingAt f) with
  | none => rw [hq] at h; cases h
  | some q =>
    rw [hq] at h
    have hg : ringFrom f q = g := by simpa using h
    have hat := List.find?_some hq
    have hql : q < f.length := List.mem_range.mp (List.mem_of_find?_eq_some hq)
    unfold isRingAt at hat
    rw [hg] at hat
    simp only [Bool.and_eq_true, decide_eq_true_eq] at hat
    obtain ⟨a, l, h1, h2, h3, h4, h5, h6⟩ := ringGo_ok ok f.length [] q (by simp) (by simpa using hql) (fun i hi => by simp at hi) (by simp)
    have e : g = a ++ [l] := by rw [← hg, ← h1]; rfl
    subst e
    have h0 : rg (a ++ [l]) 0 = q := by rw [h6]; rfl
    refine ⟨by omega, h2, by rw [← hf]; exact h3, fun i hi => ?_⟩
    rcases Nat.lt_or_ge (i + 1) (a ++ [l]).length with w | w
    · rw [h4 i w, Nat.mod_eq_of_lt w]
    · have hi2 : i + 1 = (a ++ [l]).length := by omega
      have hi3 : i = a.length := by simp at hi2; omega
      subst hi3
      rw [hi2, Nat.mod_self, h0]
      have a1 : rg (a ++ [l]) a.length = l := by unfold rg; simp
      rw [a1]
      have := hat.1
      simpa using this
/-! ### the law's checks -/
section
variable {n : Nat} {f g : List Nat} (R : RingOk n f g) (hf : f.length = n)
include R hf
theorem RingOk.dvd {p t : Nat} (S : Sets f p t) : t % g.length = 0 := by
  have h0 : 0 < g.length := by have := R.two; omega
  have e1 := R.pow hf (p + t) 0 h0
  have e2 := R.pow hf p 0 h0
  rw [S.back, e2] at e1
  have := rg_inj R.nd (Nat.mod_lt _ h0) (Nat.mod_lt _ h0) e1
  rw [Nat.zero_add, Nat.zero_add] at this
  have := Nat.sub_mod_eq_zero_of_mod_eq this.symm
  rwa [Nat.add_sub_cancel_left] at this
theorem RingOk.ring {pw : Nat} (hc : Nat.gcd pw g.length = 1) : isRing n (rpow f pw) ((List.range g.length).map fun j => rg g (j * pw % g.length)) = true := by
  have h2 := R.two
  have h0 : 0 < g.length := by omega
  have lt : ∀ j, j * pw % g.length < g.length := fun j => Nat.mod_lt _ h0
  have at_ : ∀ j, j < g.length → rg ((List.range g.length).map fun j => rg g (j * pw % g.length)) j = rg g (j * pw % g.length) := fun j hj => by
    have := getD_of (r := (List.range g.length).map fun j => rg g (j * pw % g.length)) (i := j) (by simpa using hj)
    rw [List.getElem?_map, List.getElem?_range hj] at this
    exact (Option.some.inj this).symm
  unfold isRing
  simp only [Bool.and_eq_true, decide_eq_true_eq, List.all_eq_true, List.length_map, List.length_range]
  refine ⟨⟨⟨h2, fun x hx => ?_⟩, ?_⟩, fun k hk => ?_⟩
  · obtain ⟨j, _, rfl⟩ := List.mem_map.mp hx
    exact R.lt _ (List.mem_of_getElem? (getD_of (lt j)))
  · unfold List.Nodup
    rw [List.pairwise_map]
    refine List.Pairwise.imp_of_mem (fun {a b} ha hb hab e => ?_) List.pairwise_lt_range
    have ha := List.mem_range.mp ha
    have hb := List.mem_range.mp hb
    have e2 := rg_inj R.nd (lt a) (lt b) e
    have e3 := Nat.sub_mod_eq_zero_of_mod_eq e2.symm
    rw [← Nat.sub_mul] at e3
    have d := Nat.dvd_of_mod_eq_zero e3
    have cop : Nat.Coprime g.length pw := by rw [Nat.coprime_comm]; exact hc
    have d2 := cop.dvd_of_dvd_mul_right d
    have := Nat.le_of_dvd (by omega) d2
    omega
  · have hk := List.mem_range.mp hk
    have hk1 : (k + 1) % g.length < g.length := Nat.mod_lt _ h0
    rw [at_ k hk, at_ _ hk1, R.pow hf pw _ (lt k)]
    congr 1
    rw [Nat.mod_add_mod, Nat.mod_mul_mod, Nat.succ_mul]
theorem RingOk.no {pw : Nat} (hc : pw % g.length = 0) : isRing n (rpow f pw) g = false := by
  have h2 := R.two
  have h0 : 0 < g.length := by omega
  have h1 : 1 < g.length := by omega
  have e := R.pow hf pw 0 h0
  rw [Nat.zero_add, hc] at e
  have ne : ¬ rg (rpow f pw) (rg g 0) = rg g ((0 + 1) % g.length) := fun h => by
    rw [e, Nat.zero_add, Nat.mod_eq_of_lt h1] at h
    exact absurd (rg_inj R.nd h0 h1 h) (by decide)
  unfold isRing
  have : ((List.range g.length).all fun k => decide (rg (rpow f pw) (rg g k) = rg g ((k + 1) % g.length))) = false := by
    rw [List.all_eq_false]
    exact ⟨0, List.mem_range.mpr h0, by simpa using ne⟩
  rw [this]
  simp
end
end DL

namespace DL
/-! ### the maps found are all maps -/
theorem rowAt_left {a b : List (List Nat)} {i : Nat} (h : i < a.length) : rowAt (a ++ b) i = rowAt a i := by
  unfold rowAt
  rw [List.getD_eq_getElem?_getD, List.getD_eq_getElem?_getD, List.getElem?_append_left h]
theorem bstep_pre {ls : List (List Nat)} {at_ k : Nat} {s : List (List Nat) × List (List Nat)} {i : Nat} (h : i < s.1.length) : rowAt (bstep ls at_ s k).1 i = rowAt s.1 i := by
  unfold bstep
  split
  · rfl
  · exact rowAt_left h
theorem bstep_sub {ls : List (List Nat)} {at_ k : Nat} {s : List (List Nat) × List (List Nat)} {r : List Nat} (h : r ∈ s.1) : r ∈ (bstep ls at_ s k).1 := by
  unfold bstep
  split
  · exact h
  · exact List.mem_append.mpr (.inl h)
theorem bstep_new {ls : List (List Nat)} {at_ k : Nat} {s : List (List Nat) × List (List Nat)} : beh (rowAt s.1 at_) (rowAt ls k) ∈ (bstep ls at_ s k).1 := by
  unfold bstep
  split
  · assumption
  · exact List.mem_append.mpr (.inr (by simp))
theorem fold_pre {ls : List (List Nat)} {at_ i : Nat} : ∀ (ks : List Nat) (s : List (List Nat) × List (List Nat)), i < s.1.length → rowAt (ks.foldl (bstep ls at_) s).1 i = rowAt s.1 i ∧ s.1.length ≤ (ks.foldl (bstep ls at_) s).1.length
  | [], s, h => ⟨rfl, Nat.le_refl _⟩
  | k :: ks, s, h => by
    rw [List.foldl_cons]
    have q := bstep_len (ls := ls) (at_ := at_) (k := k) (s := s)
    obtain ⟨a, b⟩ := fold_pre ks (bstep ls at_ s k) (Nat.lt_of_lt_of_le h q)
    exact ⟨a.trans (bstep_pre h), Nat.le_trans q b⟩
theorem fold_sub {ls : List (List Nat)} {at_ : Nat} {r : List Nat} : ∀ (ks : List Nat) (s : List (List Nat) × List (List Nat)), r ∈ s.1 → r ∈ (ks.foldl (bstep ls at_) s).1
  | [], s, h => h
  | k :: ks, s, h => by
    rw [List.foldl_cons]
    exact fold_sub ks _ (bstep_sub h)
theorem fold_new {ls : List (List Nat)} {at_ k : Nat} : ∀ (ks : List Nat) (s : List (List Nat) × List (List Nat)), at_ < s.1.length → k ∈ ks → beh (rowAt s.1 at_) (rowAt ls k) ∈ (ks.foldl (bstep ls at_) s).1
  | j :: ks, s, h, hk => by
    rw [List.foldl_cons]
    rcases List.mem_cons.mp hk with rfl | hk
    · exact fold_sub ks _ bstep_new
    · have := fold_new (ls := ls) ks (bstep ls at_ s j) (Nat.lt_of_lt_of_le h bstep_len) hk
      rwa [bstep_pre h] at this
/-- all up to at_ are done -/
def BCl (ls : List (List Nat)) (s : List (List Nat) × List (List Nat)) (at_ : Nat) : Prop := ∀ i, i < at_ → i < s.1.length → ∀ k, k < ls.length → beh (rowAt s.1 i) (rowAt ls k) ∈ s.1
theorem bfs_closed {n : Nat} {ls U : List (List Nat)} (m : MOk n ls) (u : Univ n ls U) : ∀ (f : Nat) (s : List (List Nat) × List (List Nat)) (at_ : Nat), BInv n ls U s → BCl ls s at_ → U.length + 1 ≤ f + at_ →
    ∀ i, i < (bfs ls f s at_).1.length → ∀ k, k < ls.length → beh (rowAt (bfs ls f s at_).1 i) (rowAt ls k) ∈ (bfs ls f s at_).1
  | 0, s, at_, I, C, hf, i, hi, k, hk => by
    have := I.few u
    have hi' : i < s.1.length := hi
    exact C i (by omega) hi' k hk
  | f + 1, s, at_, I, C, hf, i, hi, k, hk => by
    unfold bfs at hi ⊢
    by_cases h : at_ < s.1.length
    · rw [if_pos h] at hi ⊢
      refine bfs_closed m u f _ (at_ + 1) (I.fold m u _ _ h fun k hk => List.mem_range.mp hk) (fun j hj hjl q hq => ?_) (by omega) i hi k hk
      rcases Nat.lt_or_ge j at_ with hja | hja
      · have hjs : j < s.1.length := by omega
        rw [(fold_pre _ s hjs).1]
        exact fold_sub _ s (C j hja hjs q hq)
      · have : j = at_ := by omega
        subst this
        rw [(fold_pre _ s h).1]
        exact fold_new _ s h (List.mem_range.mpr hq)
    · rw [if_neg h] at hi ⊢
      exact C i (by omega) hi k hk
theorem maps_closed {n : Nat} {ls U : List (List Nat)} (m : MOk n ls) (u : Univ n ls U) {r : List Nat} (hr : r ∈ (mapsM (U.length + 1) n ls).1) {k : Nat} (hk : k < ls.length) : beh r (rowAt ls k) ∈ (mapsM (U.length + 1) n ls).1 := by
  obtain ⟨i, hi, e⟩ := List.mem_iff_getElem.mp hr
  have e2 : rowAt (mapsM (U.length + 1) n ls).1 i = r := by
    have := rowAt_of hi
    rw [List.getElem?_eq_getElem hi, e] at this
    exact (Option.some.inj this).symm
  have := bfs_closed m u (U.length + 1) ([List.range n], [[]]) 0 (BInv.init u) (fun i hi => by omega) (Nat.le_refl _) i hi k hk
  rwa [show bfs ls (U.length + 1) ([List.range n], [[]]) 0 = mapsM (U.length + 1) n ls from rfl, e2] at this
/-! ### the machine of maps -/
/-- what g does behind each map -/
def phi (F : List (List Nat)) (g : List Nat) : List Nat := F.map fun one => F.idxOf (beh one g)
theorem len_phi (F : List (List Nat)) (g : List Nat) : (phi F g).length = F.length := by simp [phi]
theorem rg_phi {F : List (List Nat)} {g : List Nat} {i : Nat} (h : i < F.length) : rg (phi F g) i = F.idxOf (beh (rowAt F i) g) := by
  have := getD_of (r := phi F g) (i := i) (by rw [len_phi]; exact h)
  unfold phi at this
  rw [List.getElem?_map, rowAt_of h] at this
  exact (Option.some.inj this).symm
theorem rowAt_idx {F : List (List Nat)} {r : List Nat} (h : r ∈ F) : F.idxOf r < F.length ∧ rowAt F (F.idxOf r) = r := by
  have h1 := List.idxOf_lt_length_iff.mpr h
  refine ⟨h1, ?_⟩
  have := rowAt_of h1
  rw [List.getElem?_eq_getElem h1, List.getElem_idxOf h1] at this
  exact (Option.some.inj this).symm
theorem idx_rowAt {F : List (List Nat)} (nd : F.Nodup) {i : Nat} (h : i < F.length) : F.idxOf (rowAt F i) = i := by
  have hm : rowAt F i ∈ F := List.mem_of_getElem? (rowAt_of h)
  obtain ⟨h1, h2⟩ := rowAt_idx hm
  have a := rowAt_of h1
  rw [h2, ← rowAt_of h] at a
  exact (List.getElem?_inj h1 nd).mp a
theorem bfs_more {n : Nat} {ls U : List (List Nat)} (m : MOk n ls) (u : Univ n ls U) : ∀ (f : Nat) (s : List (List Nat) × List (List Nat)) (at_ : Nat), BInv n ls U s → U.length + 1 ≤ f + at_ → bfs ls (f + 1) s at_ = bfs ls f s at_
  | 0, s, at_, I, hf => by
    have := I.few u
    show (if at_ < s.1.length then _ else s) = s
    rw [if_neg (by omega)]
  | f + 1, s, at_, I, hf => by
    conv => lhs; unfold bfs
    conv => rhs; unfold bfs
    by_cases h : at_ < s.1.length
    · rw [if_pos h, if_pos h]
      exact bfs_more m u f _ (at_ + 1) (I.fold m u _ _ h fun k hk => List.mem_range.mp hk) (by omega)
    · rw [if_neg h, if_neg h]
theorem maps_fuel {n : Nat} {ls U : List (List Nat)} (m : MOk n ls) (u : Univ n ls U) : ∀ g, mapsM (U.length + 1 + g) n ls = mapsM (U.length + 1) n ls
  | 0 => rfl
  | g + 1 => by
    have := bfs_more m u (U.length + 1 + g) ([List.range n], [[]]) 0 (BInv.init u) (by omega)
    exact this.trans (maps_fuel m u g)
section
variable {n : Nat} {ls U F : List (List Nat)} {W : List (List Nat)} (m : MOk n ls) (u : Univ n ls U) (hF : mapsM (U.length + 1) n ls = (F, W))
include m u hF
theorem F_inv : BInv n ls U (F, W) := by rw [← hF]; exact maps_inv m u
theorem F_cl {r : List Nat} (hr : r ∈ F) {k : Nat} (hk : k < ls.length) : beh r (rowAt ls k) ∈ F := by
  have := maps_closed m u (r := r) (by rw [hF]; exact hr) hk
  rwa [hF] at this
theorem F_univ : Univ n ls F where
  few := Nat.le_trans ((F_inv m u hF).few u) u.few
  one := List.mem_of_getElem? (F_inv m u hF).one
  cl := fun r hr k hk => F_cl m u hF hr hk
theorem F_ok {r : List Nat} (hr : r ∈ F) : r.length = n ∧ RowOk r := (F_inv m u hF).ok m hr
theorem F_lt {r : List Nat} (hr : r ∈ F) : ∀ x ∈ r, x < n := by
  have := F_ok m u hF hr
  rw [← this.1]
  exact this.2.2
theorem F_word {r : List Nat} (hr : r ∈ F) : ∃ w, (∀ k ∈ w, k < ls.length) ∧ mapOf n ls w = r := by
  obtain ⟨i, hi, e⟩ := List.mem_iff_getElem.mp hr
  obtain ⟨w, w1, w2, w3, w4, w5⟩ := (F_inv m u hF).row (i := i) hi
  refine ⟨w, w4, ?_⟩
  have := rowAt_of hi
  rw [List.getElem?_eq_getElem hi, e] at this
  rw [← w2]
  exact (Option.some.inj this).symm
theorem F_comp {a b : List Nat} (ha : a ∈ F) (hb : b ∈ F) : beh a b ∈ F := by
  obtain ⟨w, hw, rfl⟩ := F_word m u hF hb
  rw [← fold_beh m w a hw (F_lt m u hF ha)]
  clear hb
  induction w generalizing a with
  | nil => exact ha
  | cons k w ih =>
    rw [List.foldl_cons]
    exact ih (F_cl m u hF ha (hw k List.mem_cons_self)) fun j hj => hw j (List.mem_cons_of_mem _ hj)
theorem phi_comp {g l : List Nat} (hg : g ∈ F) (hl : RowOk l ∧ l.length = n) (hc : ∀ r ∈ F, beh r l ∈ F) : beh (phi F g) (phi F l) = phi F (beh g l) := by
  refine row_ext (by rw [len_beh, len_phi, len_phi]) fun i hi => ?_
  rw [len_beh, len_phi] at hi
  have h1 : rowAt F i ∈ F := List.mem_of_getElem? (rowAt_of hi)
  have h2 := F_comp m u hF h1 hg
  obtain ⟨h3, h4⟩ := rowAt_idx h2
  rw [rg_beh (by rw [len_phi]; exact hi), rg_phi hi, rg_phi h3, h4, rg_phi hi, beh_assoc]
  rw [(F_ok m u hF hg).1]
  exact F_lt m u hF h1
theorem phi_inj {a b : List Nat} (ha : a ∈ F) (hb : b ∈ F) (e : phi F a = phi F b) : a = b := by
  have h0 : 0 < F.length := by
    have := (F_inv m u hF).one
    exact (List.getElem?_eq_some_iff.mp this).1
  have e0 : rowAt F 0 = List.range n := by
    have := (F_inv m u hF).one
    have h := rowAt_of h0
    rw [this] at h
    exact (Option.some.inj h).symm
  have h1 := rg_phi (g := a) h0
  have h2 := rg_phi (g := b) h0
  rw [e0, beh_one (F_ok m u hF ha).1] at h1
  rw [e0, beh_one (F_ok m u hF hb).1] at h2
  have h3 : F.idxOf a = F.idxOf b := by rw [← h1, ← h2, e]
  rw [← (rowAt_idx ha).2, h3, (rowAt_idx hb).2]
theorem phi_one : phi F (List.range n) = List.range F.length := by
  have I := F_inv m u hF
  refine row_ext (by rw [len_phi]; simp) fun i hi => ?_
  rw [len_phi] at hi
  have h1 : rowAt F i ∈ F := List.mem_of_getElem? (rowAt_of hi)
  rw [rg_phi hi, beh_one' (F_lt m u hF h1), idx_rowAt I.nd hi, rg_range hi]
theorem phi_mem {a : List Nat} {A : List (List Nat)} (hA : ∀ r ∈ A, r ∈ F) (ha : a ∈ F) : phi F a ∈ A.map (phi F) ↔ a ∈ A := by
  constructor
  · intro h
    obtain ⟨b, hb, e⟩ := List.mem_map.mp h
    rw [← phi_inj m u hF (hA b hb) ha e]
    exact hb
  · exact fun h => List.mem_map.mpr ⟨a, h, rfl⟩
theorem rowAt_map {A : List (List Nat)} {i : Nat} (h : i < A.length) : rowAt (A.map (phi F)) i = phi F (rowAt A i) := by
  have a := rowAt_of (ls := A.map (phi F)) (k := i) (by simpa using h)
  rw [List.getElem?_map, rowAt_of h] at a
  exact (Option.some.inj a).symm
theorem phi_let {k : Nat} (hk : k < ls.length) {g : List Nat} (hg : g ∈ F) : beh (phi F g) (phi F (rowAt ls k)) = phi F (beh g (rowAt ls k)) := by
  have q := m.row hk
  exact phi_comp m u hF hg ⟨⟨by rw [q.1]; exact m.few, by rw [q.1]; exact q.2⟩, q.1⟩ fun r hr => F_cl m u hF hr hk
theorem bstep_phi {s : List (List Nat) × List (List Nat)} {at_ k : Nat} (I : BInv n ls F s) (ha : at_ < s.1.length) (hk : k < ls.length) :
    bstep (ls.map (phi F)) at_ (s.1.map (phi F), s.2) k = ((bstep ls at_ s k).1.map (phi F), (bstep ls at_ s k).2) := by
  have hr : rowAt s.1 at_ ∈ F := I.sub _ (List.mem_of_getElem? (rowAt_of ha))
  have e1 : beh (rowAt (s.1.map (phi F)) at_) (rowAt (ls.map (phi F)) k) = phi F (beh (rowAt s.1 at_) (rowAt ls k)) := by
    rw [rowAt_map m u hF ha, rowAt_map m u hF hk, phi_let m u hF hk hr]
  have hb := F_cl m u hF hr hk
  unfold bstep
  simp only [e1]
  by_cases h : beh (rowAt s.1 at_) (rowAt ls k) ∈ s.1
  · rw [if_pos h, if_pos ((phi_mem m u hF I.sub hb).mpr h)]
  · rw [if_neg h, if_neg (fun q => h ((phi_mem m u hF I.sub hb).mp q))]
    simp
theorem fold_phi {at_ : Nat} : ∀ (ks : List Nat) (s : List (List Nat) × List (List Nat)), BInv n ls F s → at_ < s.1.length → (∀ k ∈ ks, k < ls.length) →
    ks.foldl (bstep (ls.map (phi F)) at_) (s.1.map (phi F), s.2) = ((ks.foldl (bstep ls at_) s).1.map (phi F), (ks.foldl (bstep ls at_) s).2)
  | [], s, _, _, _ => rfl
  | k :: ks, s, I, ha, hk => by
    rw [List.foldl_cons, List.foldl_cons, bstep_phi m u hF I ha (hk k List.mem_cons_self)]
    exact fold_phi ks _ (I.step m (F_univ m u hF) ha (hk k List.mem_cons_self)) (Nat.lt_of_lt_of_le ha bstep_len) fun j hj => hk j (List.mem_cons_of_mem _ hj)
theorem bfs_phi : ∀ (f : Nat) (s : List (List Nat) × List (List Nat)) (at_ : Nat), BInv n ls F s → bfs (ls.map (phi F)) f (s.1.map (phi F), s.2) at_ = ((bfs ls f s at_).1.map (phi F), (bfs ls f s at_).2)
  | 0, s, _, _ => rfl
  | f + 1, s, at_, I => by
    unfold bfs
    by_cases h : at_ < s.1.length
    · rw [if_pos h, if_pos (by simpa using h)]
      have hk : ∀ k ∈ List.range ls.length, k < ls.length := fun k hk => List.mem_range.mp hk
      rw [List.length_map, fold_phi m u hF _ s I h hk]
      exact bfs_phi f _ (at_ + 1) (I.fold m (F_univ m u hF) _ _ h hk)
    · rw [if_neg h, if_neg (by simpa using h)]
theorem wide_ok (hN : F.length ≤ 1000) : MOk F.length (ls.map (phi F)) where
  pos := (List.getElem?_eq_some_iff.mp (F_inv m u hF).one).1
  few := hN
  lets := by simpa using m.lets
  rows := fun r hr => by
    obtain ⟨l, hl, rfl⟩ := List.mem_map.mp hr
    obtain ⟨k, hk, e⟩ := List.mem_iff_getElem.mp hl
    have e2 : rowAt ls k = l := by
      have := rowAt_of hk
      rw [List.getElem?_eq_getElem hk, e] at this
      exact (Option.some.inj this).symm
    refine ⟨len_phi F l, fun x hx => ?_⟩
    obtain ⟨one, h1, rfl⟩ := List.mem_map.mp hx
    rw [← e2]
    exact (rowAt_idx (F_cl m u hF h1 hk)).1
theorem wide_univ : Univ F.length (ls.map (phi F)) (F.map (phi F)) where
  few := by rw [List.length_map]; exact (F_univ m u hF).few
  one := by rw [← phi_one m u hF]; exact List.mem_map.mpr ⟨_, (F_univ m u hF).one, rfl⟩
  cl := fun r hr k hk => by
    obtain ⟨g, hg, rfl⟩ := List.mem_map.mp hr
    rw [List.length_map] at hk
    rw [rowAt_map m u hF hk, phi_let m u hF hk hg]
    exact List.mem_map.mpr ⟨_, F_cl m u hF hg hk, rfl⟩
theorem maps_F : mapsM (F.length + 1) n ls = (F, W) := by
  have h := maps_fuel m (F_univ m u hF) (U.length - F.length)
  have hl : F.length ≤ U.length := (F_inv m u hF).few u
  have e : F.length + 1 + (U.length - F.length) = U.length + 1 := by omega
  rw [e, hF] at h
  exact h.symm
theorem wide_maps : mapsM ((F.map (phi F)).length + 1) F.length (ls.map (phi F)) = (F.map (phi F), W) := by
  have h := bfs_phi m u hF (F.length + 1) ([List.range n], [[]]) 0 (BInv.init (F_univ m u hF))
  have e := maps_F m u hF
  unfold mapsM at e ⊢
  rw [e] at h
  rw [List.length_map, ← phi_one m u hF]
  exact h
/-! powers, rings, idempotents -/
theorem F_pow {g : List Nat} (hg : g ∈ F) : ∀ k, rpow g k ∈ F
  | 0 => by
    show List.range g.length ∈ F
    rw [(F_ok m u hF hg).1]
    exact (F_univ m u hF).one
  | k + 1 => F_comp m u hF (F_pow hg k) hg
theorem phi_ok (hN : F.length ≤ 1000) {g : List Nat} (hg : g ∈ F) : RowOk (phi F g) := ⟨by rw [len_phi]; exact hN, fun x hx => by
  rw [len_phi]
  obtain ⟨one, h1, rfl⟩ := List.mem_map.mp hx
  exact (rowAt_idx (F_comp m u hF h1 hg)).1⟩
theorem phi_beh {a b : List Nat} (ha : a ∈ F) (hb : b ∈ F) : beh (phi F a) (phi F b) = phi F (beh a b) := phi_comp m u hF ha ⟨(F_ok m u hF hb).2, (F_ok m u hF hb).1⟩ fun r hr => F_comp m u hF hr hb
theorem phi_pow {g : List Nat} (hg : g ∈ F) : ∀ k, rpow (phi F g) k = phi F (rpow g k)
  | 0 => by
    show List.range (phi F g).length = phi F (List.range g.length)
    rw [len_phi, (F_ok m u hF hg).1, phi_one m u hF]
  | k + 1 => by
    show beh (rpow (phi F g) k) (phi F g) = phi F (beh (rpow g k) g)
    rw [phi_pow hg k, phi_beh m u hF (F_pow m u hF hg k) hg]
theorem phi_sets (hN : F.length ≤ 1000) {g : List Nat} {p t : Nat} (hg : g ∈ F) (S : Sets g p t) : Sets (phi F g) p t where
  ok := phi_ok m u hF hN hg
  pos := S.pos
  few := S.few
  back := by rw [phi_pow m u hF hg, phi_pow m u hF hg, S.back]
  apart := fun i j h1 h2 e => by
    rw [phi_pow m u hF hg, phi_pow m u hF hg] at e
    exact S.apart i j h1 h2 (phi_inj m u hF (F_pow m u hF hg i) (F_pow m u hF hg j) e)
theorem phi_idem {g : List Nat} (hg : g ∈ F) : beh (phi F g) (phi F g) = phi F g ↔ beh g g = g := by
  rw [phi_beh m u hF hg hg]
  exact ⟨fun e => phi_inj m u hF (F_comp m u hF hg hg) hg e, fun e => by rw [e]⟩
end
/-! ### a ring is there just where t is 2 or more -/
theorem rg_pow_add {f : List Nat} (ok : RowOk f) {a b y : Nat} (hy : y < f.length) : rg (rpow f (a + b)) y = rg (rpow f b) (rg (rpow f a) y) := by
  rw [rpow_add ok, rg_beh (by rw [len_rpow]; exact hy)]
theorem rg_pow_succ {f : List Nat} {a y : Nat} (hy : y < f.length) : rg (rpow f (a + 1)) y = rg f (rg (rpow f a) y) := by
  show rg (beh (rpow f a) f) y = _
  rw [rg_beh (by rw [len_rpow]; exact hy)]
theorem rg_pow_lt {f : List Nat} (ok : RowOk f) {a y : Nat} (hy : y < f.length) : rg (rpow f a) y < f.length :=
  rpow_lt ok a _ (List.mem_of_getElem? (getD_of (by rw [len_rpow]; exact hy)))
theorem ring_at {f : List Nat} (ok : RowOk f) {y t : Nat} (hy : y < f.length) (ht : 1 ≤ t) (h1 : rg (rpow f t) y = y) (h2 : rg f y ≠ y) : isRingAt f y = true := by
  obtain ⟨g, l, e1, e2, e3, e4, e5, e6⟩ := ringGo_ok ok f.length [] y (by simp) (by simpa using hy) (fun i hi => by simp at hi) (by simp)
  have hg : ringFrom f y = g ++ [l] := e1
  have h0 : rg (g ++ [l]) 0 = y := by rw [e6]; rfl
  have at_ : ∀ i, i < (g ++ [l]).length → rg (g ++ [l]) i = rg (rpow f i) y := by
    intro i
    induction i with
    | zero =>
      intro _
      rw [h0]
      exact (rg_range hy).symm
    | succ i ih =>
      intro hi
      rw [← e4 i hi, ih (by omega), rg_pow_succ hy]
  have hl : rg (g ++ [l]) g.length = l := by unfold rg; simp
  have hlen : (g ++ [l]).length = g.length + 1 := by simp
  have hfl : rg f l = rg (rpow f (g.length + 1)) y := by
    rw [rg_pow_succ hy, ← at_ g.length (by omega), hl]
  obtain ⟨j, hj, ej⟩ := List.mem_iff_getElem.mp e5
  have ej2 : rg (g ++ [l]) j = rg f l := by
    have := getD_of hj
    rw [List.getElem?_eq_getElem hj, ej] at this
    exact (Option.some.inj this).symm
  rw [at_ j hj, hfl] at ej2
  -- back by one
  have bk : ∀ i, rg (rpow f (t - 1)) (rg (rpow f (i + 1)) y) = rg (rpow f i) y := fun i => by
    rw [← rg_pow_add ok hy]
    have a1 : i + 1 + (t - 1) = t + i := by omega
    rw [a1, rg_pow_add ok hy, h1]
  have hj0 : j = 0 := by
    cases j with
    | zero => rfl
    | succ j =>
      exfalso
      have a := bk g.length
      rw [← ej2, bk j] at a
      rw [← at_ j (by omega), ← at_ g.length (by omega)] at a
      have := rg_inj e2 (by omega) (by omega) a
      omega
  subst hj0
  have hy2 : rg f l = y := by
    rw [hfl, ← ej2]
    exact rg_range hy
  unfold isRingAt
  rw [hg]
  have hla : (g ++ [l]).getLastD 0 = l := by simp
  rw [hla, hy2]
  have hg1 : 1 < (g ++ [l]).length := by
    rcases Nat.eq_zero_or_pos g.length with z | z
    · exfalso
      have : g = [] := List.eq_nil_of_length_eq_zero z
      subst this
      have : l = y := by rw [← hl]; exact h0
      rw [this] at hy2
      exact h2 hy2
    · omega
  rw [decide_eq_true hg1]
  simp
theorem ring_iff {n : Nat} {f : List Nat} {p t : Nat} (ok : RowOk f) (hf : f.length = n) (S : Sets f p t) : (ringOf f).isSome = decide (2 ≤ t) := by
  by_cases h : 2 ≤ t
  · rw [decide_eq_true h]
    have ne : ∃ x, x < f.length ∧ rg (rpow f p) x ≠ rg (rpow f (p + 1)) x := by
      apply Classical.byContradiction
      intro hc
      refine S.apart p (p + 1) (by omega) (by omega) (row_ext (by rw [len_rpow, len_rpow]) fun x hx => ?_)
      rw [len_rpow] at hx
      exact Classical.byContradiction fun h => hc ⟨x, hx, h⟩
    obtain ⟨x, hx, hne⟩ := ne
    have hy := rg_pow_lt ok (a := p) hx
    have hr := ring_at ok (y := rg (rpow f p) x) (t := t) hy S.pos (by rw [← rg_pow_add ok hx, S.back]) (fun e => hne (by rw [rg_pow_succ hx, e]))
    unfold ringOf
    rw [Option.isSome_map, List.find?_isSome]
    exact ⟨_, List.mem_range.mpr hy, hr⟩
  · rw [decide_eq_false h]
    cases hr : ringOf f with
    | none => rfl
    | some g =>
      exfalso
      have R := ringOf_ok ok hf hr
      have d := R.dvd hf S
      have := Nat.le_of_dvd S.pos (Nat.dvd_of_mod_eq_zero d)
      have := R.two
      omega
end DL

namespace DL
open PySem L2
theorem hu64 {X : Cx} {k : Nat} (hr : Room k X.A) : X.A.units + 64 < cLine := by have := hr.un; omega
/-! ### the law's own letters and maps -/
def g__law_letters : DSp := fun ds κ => ∃ (n : Nat) (ls : List (List Nat)), ds = [encM n ls] ∧ MOk n ls ∧ κ (.list ((List.range ls.length).map letD))
theorem mono__law_letters : Mono g__law_letters := fun ds p q h ⟨n, ls, e, m, k⟩ => ⟨n, ls, e, m, h _ k⟩
def t__law_letters : DTS := wRet (wSl (wF (fLst (wCons (wC (.str "a")) (wCons (wC (.str "b")) (wCons (wC (.str "c")) (wNil)))))) (wNoPart) (wPart (wBlt LenR (wCons (wBin IxD (wVar 0) (wC (.int 1))) (wNil)))))
theorem let_a : PyData.str (Str.ofString "a") = letD 0 := by
  have : Str.ofString "a" = ⟨#[97]⟩ := by decide +kernel
  rw [this]; rfl
theorem let_b : PyData.str (Str.ofString "b") = letD 1 := by
  have : Str.ofString "b" = ⟨#[98]⟩ := by decide +kernel
  rw [this]; rfl
theorem let_c : PyData.str (Str.ofString "c") = letD 2 := by
  have : Str.ofString "c" = ⟨#[99]⟩ := by decide +kernel
  rw [this]; rfl
theorem pure__law_letters (ds : List D) (κ : D → Prop) (hl : ds.length = 1) (h : g__law_letters ds κ) : t__law_letters { nx := fun _ => κ .none, rt := fun d _ => κ d } (startE 1 ds) := by
  obtain ⟨n, ls, rfl, m, hk⟩ := h
  have h3 := m.lets
  simp [t__law_letters, wSeq, wIfS, wOr, wAnd, wNot, wTest, wIsi, wVar, startE, Op.get, Op.clean, noDct, ty1, ty2, ty3, ty4, ty5, ty6, wNext, wIsN, wNotN, wRet, wRetT, wRetN, wAndV, wOrV, wNotV, wIf, wBin, wBlt, wC, wCons, wNil, wTup, dats, gets, wAsg, wN, wN2, wN3, wPar, wAug, wCall, wCallP, wSetL, wF, fLst, fBlt, wApp, wPut, wNeg, wLc, wYes, elW, wipeE, wTupRg, fRng1, wRng1, wRng2, wIt, wItV, it1, it2, it3, it4, wChain, wSl, wNoPart, wPart, wDPut, wDDisp, wDNew, kit1, kit2, kit3, kit4, kit5, kit6, kit7, kit8, kit9, kit10, kit11, kit12, kit13, kit14, kit15, kit16, kit17, kit18, kit19, kit20, kit21, kit22, kit23, kit24, kit25, kit26, kit27, kit28, kit29, kit30, mlLen, shp_bl, shp_int, shp_non, eqv_bl, eqv_ii, and_assoc, exists_and_left, row_iff, Int.ofNat_inj, flat_row, len_row, nd_row, ty_row, isTup_row, ix_row, ix_row', eqv_row, eq_dn, eq_ii, add_ii, lt_ii, le_ii, gt_ii, ge_ii, sub_ii, mod_ii, len_li, len_tu, ix_m1, len_encL, SlD, let_a, let_b, let_c]
  have e : cutD [letD 0, letD 1, letD 2] none (some (ls.length : Nat)) = (List.range ls.length).map letD := by
    have : ls.length = 0 ∨ ls.length = 1 ∨ ls.length = 2 ∨ ls.length = 3 := by omega
    rcases this with h | h | h | h <;> rw [h] <;> rfl
  rw [e]
  exact hk
/-! ### idempotents -/
theorem alike_rows (a b : List Nat) : PySem.W.alike (encR a) (encR b) = true := by
  have h := PySem.W.alike_ints (a.map fun (x : Nat) => (x : Int)) (b.map fun (x : Nat) => (x : Int))
  rw [List.map_map, List.map_map] at h
  unfold encR
  rw [PySem.W.alike]
  exact h
def idem (F : List (List Nat)) : List (List Nat) := F.filter fun r => decide (beh r r = r)
def g_idempotents : DSp := fun ds κ => ∃ (n : Nat) (ls U : List (List Nat)), ds = [encM n ls] ∧ MOk n ls ∧ Univ n ls U ∧ ∀ rs : List D, rs.length = (idem (mapsM (U.length + 1) n ls).1).length → κ (.tuple rs)
theorem mono_idempotents : Mono g_idempotents := fun ds p q h ⟨n, ls, U, e, a, b, k⟩ => ⟨n, ls, U, e, a, b, fun rs e => h _ (k rs e)⟩
def t_idempotents : DTS := wSeq (wAsg (wCall 1 g_maps (wCons (wVar 0) (wNil))) (wN2 1 2)) (wRet (wBlt TupR (wCons (wF (fBlt SortD (wCons (wLc (wItV (wVar 1)) (wN 3) (wTest (wBin EqR (wBlt TupR (wCons (wLc (wIt (wVar 3) isTup) (wN 4) (wYes) (wBin IxD (wVar 3) (wVar 4)) [4]) (wNil))) (wVar 3))) (wVar 3) [3]) (wNil)))) (wNil))))
theorem pure_idempotents (ds : List D) (κ : D → Prop) (hl : ds.length = 1) (h : g_idempotents ds κ) : t_idempotents { nx := fun _ => κ .none, rt := fun d _ => κ d } (startE 5 ds) := by
  obtain ⟨n, ls, U, rfl, m, u, hk⟩ := h
  simp [t_idempotents, wSeq, wIfS, wOr, wAnd, wNot, wTest, wIsi, wVar, startE, Op.get, Op.clean, noDct, ty1, ty2, ty3, ty4, ty5, ty6, wNext, wIsN, wNotN, wRet, wRetT, wRetN, wAndV, wOrV, wNotV, wIf, wBin, wBlt, wC, wCons, wNil, wTup, dats, gets, wAsg, wN, wN2, wN3, wPar, wAug, wCall, wCallP, wSetL, wF, fLst, fBlt, wApp, wPut, wNeg, wLc, wYes, elW, wipeE, wTupRg, fRng1, wRng1, wRng2, wIt, wItV, it1, it2, it3, it4, wChain, wSl, wNoPart, wPart, wDPut, wDDisp, wDNew, kit1, kit2, kit3, kit4, kit5, kit6, kit7, kit8, kit9, kit10, kit11, kit12, kit13, kit14, kit15, kit16, kit17, kit18, kit19, kit20, kit21, kit22, kit23, kit24, kit25, kit26, kit27, kit28, kit29, kit30, mlLen, shp_bl, shp_int, shp_non, eqv_bl, eqv_ii, and_assoc, exists_and_left, row_iff, Int.ofNat_inj, flat_row, len_row, nd_row, ty_row, isTup_row, ix_row, ix_row', eqv_row, eq_dn, eq_ii, add_ii, lt_ii, le_ii, gt_ii, ge_ii, sub_ii, mod_ii, len_li, len_tu, g_maps]
  refine ⟨n, ls, rfl, m, U, u, _, _, rfl, ?_⟩
  generalize hs : mapsM (U.length + 1) n ls = s at hk
  have I : BInv n ls U s := by rw [← hs]; exact maps_inv m u
  have few := I.few u
  have hu := u.few
  simp [wSeq, wIfS, wOr, wAnd, wNot, wTest, wIsi, wVar, startE, Op.get, Op.clean, noDct, ty1, ty2, ty3, ty4, ty5, ty6, wNext, wIsN, wNotN, wRet, wRetT, wRetN, wAndV, wOrV, wNotV, wIf, wBin, wBlt, wC, wCons, wNil, wTup, dats, gets, wAsg, wN, wN2, wN3, wPar, wAug, wCall, wCallP, wSetL, wF, fLst, fBlt, wApp, wPut, wNeg, wLc, wYes, elW, wipeE, wTupRg, fRng1, wRng1, wRng2, wIt, wItV, it1, it2, it3, it4, wChain, wSl, wNoPart, wPart, wDPut, wDDisp, wDNew, kit1, kit2, kit3, kit4, kit5, kit6, kit7, kit8, kit9, kit10, kit11, kit12, kit13, kit14, kit15, kit16, kit17, kit18, kit19, kit20, kit21, kit22, kit23, kit24, kit25, kit26, kit27, kit28, kit29, kit30, mlLen, shp_bl, shp_int, shp_non, eqv_bl, eqv_ii, and_assoc, exists_and_left, row_iff, Int.ofNat_inj, flat_row, len_row, nd_row, ty_row, isTup_row, ix_row, ix_row', eqv_row, eq_dn, eq_ii, add_ii, lt_ii, le_ii, gt_ii, ge_ii, sub_ii, mod_ii, len_li, len_tu, len_encL]
  refine ⟨by omega, lcW_flt encR (fun r => if beh r r = r then some (encR r) else none) s.1 [] (fun r hr k w => ?_) ?_⟩
  · have ok := (I.ok m hr).2
    have sr : shp (encR r) = true := shp_row (by have := ok.1; omega)
    simp [wSeq, wIfS, wOr, wAnd, wNot, wTest, wIsi, wVar, startE, Op.get, Op.clean, noDct, ty1, ty2, ty3, ty4, ty5, ty6, wNext, wIsN, wNotN, wRet, wRetT, wRetN, wAndV, wOrV, wNotV, wIf, wBin, wBlt, wC, wCons, wNil, wTup, dats, gets, wAsg, wN, wN2, wN3, wPar, wAug, wCall, wCallP, wSetL, wF, fLst, fBlt, wApp, wPut, wNeg, wLc, wYes, elW, wipeE, wTupRg, fRng1, wRng1, wRng2, wIt, wItV, it1, it2, it3, it4, wChain, wSl, wNoPart, wPart, wDPut, wDDisp, wDNew, kit1, kit2, kit3, kit4, kit5, kit6, kit7, kit8, kit9, kit10, kit11, kit12, kit13, kit14, kit15, kit16, kit17, kit18, kit19, kit20, kit21, kit22, kit23, kit24, kit25, kit26, kit27, kit28, kit29, kit30, mlLen, shp_bl, shp_int, shp_non, eqv_bl, eqv_ii, and_assoc, exists_and_left, row_iff, Int.ofNat_inj, flat_row, len_row, nd_row, ty_row, isTup_row, ix_row, ix_row', eqv_row, eq_dn, eq_ii, add_ii, lt_ii, le_ii, gt_ii, ge_ii, sub_ii, mod_ii, len_li, len_tu]
    refine ⟨by have := ok.1; omega, lcW_map dn (fun x => dn (rg r x)) r [] (fun x hx k2 w2 => ?_) ?_⟩
    · simp [wSeq, wIfS, wOr, wAnd, wNot, wTest, wIsi, wVar, startE, Op.get, Op.clean, noDct, ty1, ty2, ty3, ty4, ty5, ty6, wNext, wIsN, wNotN, wRet, wRetT, wRetN, wAndV, wOrV, wNotV, wIf, wBin, wBlt, wC, wCons, wNil, wTup, dats, gets, wAsg, wN, wN2, wN3, wPar, wAug, wCall, wCallP, wSetL, wF, fLst, fBlt, wApp, wPut, wNeg, wLc, wYes, elW, wipeE, wTupRg, fRng1, wRng1, wRng2, wIt, wItV, it1, it2, it3, it4, wChain, wSl, wNoPart, wPart, wDPut, wDDisp, wDNew, kit1, kit2, kit3, kit4, kit5, kit6, kit7, kit8, kit9, kit10, kit11, kit12, kit13, kit14, kit15, kit16, kit17, kit18, kit19, kit20, kit21, kit22, kit23, kit24, kit25, kit26, kit27, kit28, kit29, kit30, mlLen, shp_bl, shp_int, shp_non, eqv_bl, eqv_ii, and_assoc, exists_and_left, row_iff, Int.ofNat_inj, flat_row, len_row, nd_row, ty_row, isTup_row, ix_row, ix_row', eqv_row, eq_dn, eq_ii, add_ii, lt_ii, le_ii, gt_ii, ge_ii, sub_ii, mod_ii, len_li, len_tu, getD_of (ok.2 x hx)]
      exact w2
    · have e : PyData.tuple ([] ++ r.map fun x => dn (rg r x)) = encR (beh r r) := by simp [encR, beh, Function.comp_def]
      refine ⟨_, rfl, .bool (decide (beh r r = r)), ?_, ?_⟩
      · unfold EqR
        rw [e]
        exact ⟨shp_row (by rw [len_beh]; have := ok.1; omega), sr, by rw [eqv_row]⟩
      · by_cases hb : beh r r = r
        · simp [hb, wSeq, wIfS, wOr, wAnd, wNot, wTest, wIsi, wVar, startE, Op.get, Op.clean, noDct, ty1, ty2, ty3, ty4, ty5, ty6, wNext, wIsN, wNotN, wRet, wRetT, wRetN, wAndV, wOrV, wNotV, wIf, wBin, wBlt, wC, wCons, wNil, wTup, dats, gets, wAsg, wN, wN2, wN3, wPar, wAug, wCall, wCallP, wSetL, wF, fLst, fBlt, wApp, wPut, wNeg, wLc, wYes, elW, wipeE, wTupRg, fRng1, wRng1, wRng2, wIt, wItV, it1, it2, it3, it4, wChain, wSl, wNoPart, wPart, wDPut, wDDisp, wDNew, kit1, kit2, kit3, kit4, kit5, kit6, kit7, kit8, kit9, kit10, kit11, kit12, kit13, kit14, kit15, kit16, kit17, kit18, kit19, kit20, kit21, kit22, kit23, kit24, kit25, kit26, kit27, kit28, kit29, kit30, mlLen, shp_bl, shp_int, shp_non, eqv_bl, eqv_ii, and_assoc, exists_and_left, row_iff, Int.ofNat_inj, flat_row, len_row, nd_row, ty_row, isTup_row, ix_row, ix_row', eqv_row, eq_dn, eq_ii, add_ii, lt_ii, le_ii, gt_ii, ge_ii, sub_ii, mod_ii, len_li, len_tu]
          simpa [hb] using w
        · simp [hb, wSeq, wIfS, wOr, wAnd, wNot, wTest, wIsi, wVar, startE, Op.get, Op.clean, noDct, ty1, ty2, ty3, ty4, ty5, ty6, wNext, wIsN, wNotN, wRet, wRetT, wRetN, wAndV, wOrV, wNotV, wIf, wBin, wBlt, wC, wCons, wNil, wTup, dats, gets, wAsg, wN, wN2, wN3, wPar, wAug, wCall, wCallP, wSetL, wF, fLst, fBlt, wApp, wPut, wNeg, wLc, wYes, elW, wipeE, wTupRg, fRng1, wRng1, wRng2, wIt, wItV, it1, it2, it3, it4, wChain, wSl, wNoPart, wPart, wDPut, wDDisp, wDNew, kit1, kit2, kit3, kit4, kit5, kit6, kit7, kit8, kit9, kit10, kit11, kit12, kit13, kit14, kit15, kit16, kit17, kit18, kit19, kit20, kit21, kit22, kit23, kit24, kit25, kit26, kit27, kit28, kit29, kit30, mlLen, shp_bl, shp_int, shp_non, eqv_bl, eqv_ii, and_assoc, exists_and_left, row_iff, Int.ofNat_inj, flat_row, len_row, nd_row, ty_row, isTup_row, ix_row, ix_row', eqv_row, eq_dn, eq_ii, add_ii, lt_ii, le_ii, gt_ii, ge_ii, sub_ii, mod_ii, len_li, len_tu]
          simpa [hb] using w
  · have hrows : ∀ d ∈ s.1.filterMap (fun r => if beh r r = r then some (encR r) else none), ∃ r ∈ s.1, d = encR r := fun d hd => by
      obtain ⟨r, hr, e⟩ := List.mem_filterMap.mp hd
      by_cases hb : beh r r = r
      · rw [if_pos hb] at e
        exact ⟨r, hr, (Option.some.inj e).symm⟩
      · rw [if_neg hb] at e; cases e
    have hlen : ∀ l : List (List Nat), (l.filterMap (fun r => if beh r r = r then some (encR r) else none)).length = (idem l).length := fun l => by
      induction l with
      | nil => rfl
      | cons a l ih =>
        unfold idem at ih ⊢
        by_cases hb : beh a a = a
        · simp [List.filterMap_cons, hb, ih]
        · simp [List.filterMap_cons, hb, ih]
    rw [List.nil_append]
    refine ⟨_, rfl, ?_, ?_, ?_, fun d hd => ?_, .tuple _, rfl, hk _ ?_⟩
    · intro d hd d' hd'
      obtain ⟨r, _, rfl⟩ := hrows d hd
      obtain ⟨r', _, rfl⟩ := hrows d' hd'
      exact alike_rows r r'
    · refine .inl fun d hd => ?_
      obtain ⟨r, hr, rfl⟩ := hrows d hd
      have hl := (I.ok m hr).1
      have := m.pos
      cases r with
      | nil => simp at hl; omega
      | cons x r => exact ⟨_, _, rfl⟩
    · rw [hlen]
      have : (idem s.1).length ≤ s.1.length := List.length_filter_le _ _
      omega
    · obtain ⟨r, hr, rfl⟩ := hrows d hd
      have q := (sm_row (r := r) (by have := (I.ok m hr).2.1; omega)).all
      exact ⟨Nat.le_trans q.2.1 (by decide), q.2.2⟩
    · rw [List.length_mergeSort, hlen]
/-! ### part -/
theorem idx_first {α : Type} [BEq α] [LawfulBEq α] {x : α} : ∀ (l : List α) (m : Nat), m < l.idxOf x → l[m]? ≠ some x
  | [], m, h => by simp at h
  | a :: l, m, h => by
    rw [List.idxOf_cons] at h
    by_cases e : (a == x) = true
    · rw [e] at h
      simp at h
    · have e' : (a == x) = false := by simpa using e
      rw [e'] at h
      simp at h
      cases m with
      | zero => intro q; simp at q; subst q; simp at e
      | succ m =>
        rw [List.getElem?_cons_succ]
        exact idx_first l m (by omega)
theorem tidx_row {some_ : List Nat} {x : Nat} (hl : some_.length ≤ 100000) (hx : x ∈ some_) : ∃ (d : D) (z : D), d = dn x ∧ shp (.tuple (some_.map dn)) = true ∧ shp d = true ∧ (some_.map dn)[some_.idxOf x]? = some z ∧ PyData.eqv z d = true ∧ ∀ (m : Nat) (z' : D), m < some_.idxOf x → (some_.map dn)[m]? = some z' → PyData.eqv z' d = false := by
  have h1 := List.idxOf_lt_length_iff.mpr hx
  refine ⟨dn x, dn x, rfl, shp_row hl, shp_int, ?_, by rw [eqv_dn]; simp, fun m z' hm hz => ?_⟩
  · rw [List.getElem?_map, List.getElem?_eq_getElem h1, List.getElem_idxOf h1]
    rfl
  · rw [List.getElem?_map, List.getElem?_eq_getElem (by omega)] at hz
    have e := (Option.some.inj hz).symm
    rw [e, eqv_dn]
    exact decide_eq_false fun q => idx_first some_ m hm (by rw [List.getElem?_eq_getElem (by omega), q])
def partL (ls : List (List Nat)) (some_ : List Nat) : List (List Nat) := ls.map fun row => some_.map fun q => some_.idxOf (rg row q)
def g_part : DSp := fun ds κ => ∃ (n : Nat) (ls : List (List Nat)) (s : List Nat), ds = [encM n ls, encR s] ∧ MOk n ls ∧ s.length ≤ 1000 ∧ (∀ q ∈ s, q < n) ∧ (∀ row ∈ ls, ∀ q ∈ s, rg row q ∈ s) ∧ κ (encM s.length (partL ls s))
theorem mono_part : Mono g_part := fun ds p q h ⟨n, ls, s, e, a, b, c, d, k⟩ => ⟨n, ls, s, e, a, b, c, d, h _ k⟩
def t_part : DTS := wSeq (wAsg (wBlt TupR (wCons (wLc (wIt (wBin IxD (wVar 0) (wC (.int 1))) isTup) (wN 3) (wYes) (wBlt TupR (wCons (wLc (wIt (wVar 1) isTup) (wN 4) (wYes) (wTIndex (wVar 1) (wBin IxD (wVar 3) (wVar 4))) [4]) (wNil))) [3]) (wNil))) (wN 2)) (wRet (wTup (wCons (wBlt LenR (wCons (wVar 1) (wNil))) (wCons (wVar 2) (wNil)))))
theorem pure_part (ds : List D) (κ : D → Prop) (hl : ds.length = 2) (h : g_part ds κ) : t_part { nx := fun _ => κ .none, rt := fun d _ => κ d } (startE 5 ds) := by
  obtain ⟨n, ls, s, rfl, m, hs, hq, hc, hk⟩ := h
  have h3 := m.lets
  simp [t_part, wSeq, wIfS, wOr, wAnd, wNot, wTest, wIsi, wVar, startE, Op.get, Op.clean, noDct, ty1, ty2, ty3, ty4, ty5, ty6, wNext, wIsN, wNotN, wRet, wRetT, wRetN, wAndV, wOrV, wNotV, wIf, wBin, wBlt, wC, wCons, wNil, wTup, dats, gets, wAsg, wN, wN2, wN3, wPar, wAug, wCall, wCallP, wSetL, wF, fLst, fBlt, wApp, wPut, wNeg, wLc, wYes, elW, wipeE, wTupRg, fRng1, wRng1, wRng2, wIt, wItV, it1, it2, it3, it4, wChain, wSl, wNoPart, wPart, wDPut, wDDisp, wDNew, kit1, kit2, kit3, kit4, kit5, kit6, kit7, kit8, kit9, kit10, kit11, kit12, kit13, kit14, kit15, kit16, kit17, kit18, kit19, kit20, kit21, kit22, kit23, kit24, kit25, kit26, kit27, kit28, kit29, kit30, mlLen, shp_bl, shp_int, shp_non, eqv_bl, eqv_ii, and_assoc, exists_and_left, row_iff, Int.ofNat_inj, flat_row, len_row, nd_row, ty_row, isTup_row, ix_row, ix_row', eqv_row, eq_dn, eq_ii, add_ii, lt_ii, le_ii, gt_ii, ge_ii, sub_ii, mod_ii, len_li, len_tu, ix_m1]
  refine ⟨by rw [len_encL]; omega, ?_⟩
  refine lcW_map encR (fun row => encR (s.map fun q => s.idxOf (rg row q))) ls [] (fun row hrow k w => ?_) ?_
  · have hr := m.rows row hrow
    simp [wSeq, wIfS, wOr, wAnd, wNot, wTest, wIsi, wVar, startE, Op.get, Op.clean, noDct, ty1, ty2, ty3, ty4, ty5, ty6, wNext, wIsN, wNotN, wRet, wRetT, wRetN, wAndV, wOrV, wNotV, wIf, wBin, wBlt, wC, wCons, wNil, wTup, dats, gets, wAsg, wN, wN2, wN3, wPar, wAug, wCall, wCallP, wSetL, wF, fLst, fBlt, wApp, wPut, wNeg, wLc, wYes, elW, wipeE, wTupRg, fRng1, wRng1, wRng2, wIt, wItV, it1, it2, it3, it4, wChain, wSl, wNoPart, wPart, wDPut, wDDisp, wDNew, kit1, kit2, kit3, kit4, kit5, kit6, kit7, kit8, kit9, kit10, kit11, kit12, kit13, kit14, kit15, kit16, kit17, kit18, kit19, kit20, kit21, kit22, kit23, kit24, kit25, kit26, kit27, kit28, kit29, kit30, mlLen, shp_bl, shp_int, shp_non, eqv_bl, eqv_ii, and_assoc, exists_and_left, row_iff, Int.ofNat_inj, flat_row, len_row, nd_row, ty_row, isTup_row, ix_row, ix_row', eqv_row, eq_dn, eq_ii, add_ii, lt_ii, le_ii, gt_ii, ge_ii, sub_ii, mod_ii, len_li, len_tu]
    refine ⟨by omega, lcW_map dn (fun q => dn (s.idxOf (rg row q))) s [] (fun q hqs k2 w2 => ?_) ⟨_, rfl, ?_⟩⟩
    · obtain ⟨d, z, e1, e2, e3, e4, e5, e6⟩ := tidx_row (some_ := s) (x := rg row q) (by omega) (hc row hrow q hqs)
      subst e1
      simp [wSeq, wIfS, wOr, wAnd, wNot, wTest, wIsi, wVar, startE, Op.get, Op.clean, noDct, ty1, ty2, ty3, ty4, ty5, ty6, wNext, wIsN, wNotN, wRet, wRetT, wRetN, wAndV, wOrV, wNotV, wIf, wBin, wBlt, wC, wCons, wNil, wTup, dats, gets, wAsg, wN, wN2, wN3, wPar, wAug, wCall, wCallP, wSetL, wF, fLst, fBlt, wApp, wPut, wNeg, wLc, wYes, elW, wipeE, wTupRg, fRng1, wRng1, wRng2, wIt, wItV, it1, it2, it3, it4, wChain, wSl, wNoPart, wPart, wDPut, wDDisp, wDNew, kit1, kit2, kit3, kit4, kit5, kit6, kit7, kit8, kit9, kit10, kit11, kit12, kit13, kit14, kit15, kit16, kit17, kit18, kit19, kit20, kit21, kit22, kit23, kit24, kit25, kit26, kit27, kit28, kit29, kit30, mlLen, shp_bl, shp_int, shp_non, eqv_bl, eqv_ii, and_assoc, exists_and_left, row_iff, Int.ofNat_inj, flat_row, len_row, nd_row, ty_row, isTup_row, ix_row, ix_row', eqv_row, eq_dn, eq_ii, add_ii, lt_ii, le_ii, gt_ii, ge_ii, sub_ii, mod_ii, len_li, len_tu, getD_of (show q < row.length by rw [hr.1]; exact hq q hqs), wTIndex]
      exact ⟨_, rfl, e2, e3, _, z, e4, e5, e6, w2⟩
    · simpa [encR, Function.comp_def] using w
  · refine ⟨_, rfl, ?_⟩
    simpa [encM, partL, encR, Function.comp_def, dn] using hk
/-! ### closed -/
structure Closed (n : Nat) (ls : List (List Nat)) (st cs : List Nat) : Prop where
  nd : cs.Nodup
  lt : ∀ x ∈ cs, x < n
  has : ∀ x ∈ st, x ∈ cs
  cl : ∀ row ∈ ls, ∀ x ∈ cs, rg row x ∈ cs
  least : ∀ P : Nat → Prop, (∀ x ∈ st, P x) → (∀ row ∈ ls, ∀ x, x < n → P x → P (rg row x)) → ∀ x ∈ cs, P x
def g_closed : DSp := fun ds κ => ∃ (n : Nat) (ls : List (List Nat)) (st : List Nat), ds = [encM n ls, encR st] ∧ MOk n ls ∧ st.length < 64 ∧ (∀ q ∈ st, q < n) ∧ ∀ cs, Closed n ls st cs → cs.Pairwise (· ≤ ·) → κ (encR cs)
theorem mono_closed : Mono g_closed := fun ds p q h ⟨n, ls, s, e, a, b, c, k⟩ => ⟨n, ls, s, e, a, b, c, fun cs h1 h2 => h _ (k cs h1 h2)⟩
def t_closed : DTS := wSeq (wSetL 2 (fSortSetI (wVar 1))) (wSeq (wAsg (wC (.int 0)) (wN 3)) (wSeq (wWhile (wTest (wBin LtR (wVar 3) (wBlt LenR (wCons (wVar 2) (wNil))))) (wSeq (wFor (wIt (wBin IxD (wVar 0) (wC (.int 1))) isTup) (wN 4) (wIfS (wTest (wBin (InR true) (wBin IxD (wVar 4) (wBin IxD (wVar 2) (wVar 3))) (wVar 2))) (wApp 2 (wBin IxD (wVar 4) (wBin IxD (wVar 2) (wVar 3)))) (wNext))) (wAug 3 IAddR (wC (.int 1))))) (wRet (wBlt TupR (wCons (wF (fBlt SortIF (wCons (wVar 2) (wNil)))) (wNil))))))
/-- what is known on the way -/
structure ClK (n : Nat) (ls : List (List Nat)) (st cs : List Nat) : Prop where
  nd : cs.Nodup
  lt : ∀ x ∈ cs, x < n
  has : ∀ x ∈ st, x ∈ cs
  least : ∀ P : Nat → Prop, (∀ x ∈ st, P x) → (∀ row ∈ ls, ∀ x, x < n → P x → P (rg row x)) → ∀ x ∈ cs, P x
theorem ClK.add {n : Nat} {ls : List (List Nat)} {st cs : List Nat} (C : ClK n ls st cs) (m : MOk n ls) {row : List Nat} (hr : row ∈ ls) {x : Nat} (hx : x ∈ cs) (hn : ¬ rg row x ∈ cs) : ClK n ls st (cs ++ [rg row x]) where
  nd := List.nodup_append.mpr ⟨C.nd, by simp, fun a ha b hb e => by simp at hb; subst hb; subst e; exact hn ha⟩
  lt := fun y hy => by
    rcases List.mem_append.mp hy with h | h
    · exact C.lt y h
    · simp at h
      subst h
      have q := m.rows row hr
      exact q.2 _ (List.mem_of_getElem? (getD_of (by rw [q.1]; exact C.lt x hx)))
  has := fun y hy => List.mem_append.mpr (.inl (C.has y hy))
  least := fun P h1 h2 y hy => by
    rcases List.mem_append.mp hy with h | h
    · exact C.least P h1 h2 y h
    · simp at h
      subst h
      exact h2 row hr x (C.lt x hx) (C.least P h1 h2 x hx)
def ClI (n : Nat) (ls : List (List Nat)) (st : List Nat) (a : Addr) (e : DEnv) : Prop := ∃ cs at_ s4, e = [.im (encM n ls), .im (encR st), .ml a (cs.map dn), .im (.int (at_ : Nat)), s4] ∧ ClK n ls st cs ∧ at_ ≤ cs.length ∧ ∀ i, i < at_ → ∀ row ∈ ls, rg row (rg cs i) ∈ cs
def ClJ (n : Nat) (ls : List (List Nat)) (st : List Nat) (a : Addr) (at_ : Nat) (rest : List (List Nat)) (e : DEnv) : Prop := ∃ cs s4 done, e = [.im (encM n ls), .im (encR st), .ml a (cs.map dn), .im (.int (at_ : Nat)), s4] ∧ ClK n ls st cs ∧ at_ < cs.length ∧ (∀ i, i < at_ → ∀ row ∈ ls, rg row (rg cs i) ∈ cs) ∧ done ++ rest = ls ∧ ∀ row ∈ done, rg row (rg cs at_) ∈ cs
theorem in_intsL {neg : Bool} {x : Nat} {r : List Nat} {z : D} : InR neg (dn x) (.list (r.map dn)) z = (shp (dn x) = true ∧ shp (.list (r.map dn)) = true ∧ z = .bool (inN x r != neg)) := by
  unfold inN
  rw [← any_dn]
  rfl
theorem pure_closed (ds : List D) (κ : D → Prop) (hl : ds.length = 2) (h : g_closed ds κ) : t_closed { nx := fun _ => κ .none, rt := fun d _ => κ d } (startE 5 ds) := by
  obtain ⟨n, ls, st, rfl, m, hs, hq, hk⟩ := h
  simp [t_closed, wSeq, wIfS, wOr, wAnd, wNot, wTest, wIsi, wVar, startE, Op.get, Op.clean, noDct, ty1, ty2, ty3, ty4, ty5, ty6, wNext, wIsN, wNotN, wRet, wRetT, wRetN, wAndV, wOrV, wNotV, wIf, wBin, wBlt, wC, wCons, wNil, wTup, dats, gets, wAsg, wN, wN2, wN3, wPar, wAug, wCall, wCallP, wSetL, wF, fLst, fBlt, wApp, wPut, wNeg, wLc, wYes, elW, wipeE, wTupRg, fRng1, wRng1, wRng2, wIt, wItV, it1, it2, it3, it4, wChain, wSl, wNoPart, wPart, wDPut, wDDisp, wDNew, kit1, kit2, kit3, kit4, kit5, kit6, kit7, kit8, kit9, kit10, kit11, kit12, kit13, kit14, kit15, kit16, kit17, kit18, kit19, kit20, kit21, kit22, kit23, kit24, kit25, kit26, kit27, kit28, kit29, kit30, mlLen, shp_bl, shp_int, shp_non, eqv_bl, eqv_ii, and_assoc, exists_and_left, row_iff, Int.ofNat_inj, flat_row, len_row, nd_row, ty_row, isTup_row, ix_row, ix_row', eqv_row, eq_dn, eq_ii, add_ii, lt_ii, le_ii, gt_ii, ge_ii, sub_ii, mod_ii, len_li, len_tu]
  refine ⟨st.map fun (x : Nat) => (x : Int), by simp [wSeq, wIfS, wOr, wAnd, wNot, wTest, wIsi, wVar, startE, Op.get, Op.clean, noDct, ty1, ty2, ty3, ty4, ty5, ty6, wNext, wIsN, wNotN, wRet, wRetT, wRetN, wAndV, wOrV, wNotV, wIf, wBin, wBlt, wC, wCons, wNil, wTup, dats, gets, wAsg, wN, wN2, wN3, wPar, wAug, wCall, wCallP, wSetL, wF, fLst, fBlt, wApp, wPut, wNeg, wLc, wYes, elW, wipeE, wTupRg, fRng1, wRng1, wRng2, wIt, wItV, it1, it2, it3, it4, wChain, wSl, wNoPart, wPart, wDPut, wDDisp, wDNew, kit1, kit2, kit3, kit4, kit5, kit6, kit7, kit8, kit9, kit10, kit11, kit12, kit13, kit14, kit15, kit16, kit17, kit18, kit19, kit20, kit21, kit22, kit23, kit24, kit25, kit26, kit27, kit28, kit29, kit30, mlLen, shp_bl, shp_int, shp_non, eqv_bl, eqv_ii, encR, dn, Function.comp_def], by simpa using hs, fun ns' p1 p2 a => ?_⟩
  have hz : ∃ zs : List Nat, ns' = zs.map fun (x : Nat) => (x : Int) := by
    refine ⟨ns'.map Int.toNat, ?_⟩
    rw [List.map_map]
    conv => lhs; rw [← List.map_id ns']
    refine List.map_congr_left fun x hx => ?_
    obtain ⟨y, _, rfl⟩ := List.mem_map.mp ((p2 x).mp hx)
    simp
  obtain ⟨zs, rfl⟩ := hz
  have mz : ∀ x, x ∈ zs ↔ x ∈ st := fun x => by
    have := p2 (x : Int)
    simpa [Int.ofNat_inj] using this
  have C0 : ClK n ls st zs := ⟨nodup_cast.mp (p1.imp fun h => by omega), fun x hx => hq x ((mz x).mp hx), fun x hx => (mz x).mpr hx, fun P h1 _ x hx => h1 x ((mz x).mp hx)⟩
  refine ⟨ClI n ls st a, fun e => 1000000 - intAt 3 e, ⟨zs, 0, .un, by simp [dn, Function.comp_def], C0, Nat.zero_le _, fun i h => by omega⟩, ?_⟩
  rintro e ⟨cs, at_, s4, rfl, C, ha, hcl⟩
  have hlen := nodup_lt C.nd C.lt
  have hn := m.few
  simp [wSeq, wIfS, wOr, wAnd, wNot, wTest, wIsi, wVar, startE, Op.get, Op.clean, noDct, ty1, ty2, ty3, ty4, ty5, ty6, wNext, wIsN, wNotN, wRet, wRetT, wRetN, wAndV, wOrV, wNotV, wIf, wBin, wBlt, wC, wCons, wNil, wTup, dats, gets, wAsg, wN, wN2, wN3, wPar, wAug, wCall, wCallP, wSetL, wF, fLst, fBlt, wApp, wPut, wNeg, wLc, wYes, elW, wipeE, wTupRg, fRng1, wRng1, wRng2, wIt, wItV, it1, it2, it3, it4, wChain, wSl, wNoPart, wPart, wDPut, wDDisp, wDNew, kit1, kit2, kit3, kit4, kit5, kit6, kit7, kit8, kit9, kit10, kit11, kit12, kit13, kit14, kit15, kit16, kit17, kit18, kit19, kit20, kit21, kit22, kit23, kit24, kit25, kit26, kit27, kit28, kit29, kit30, mlLen, shp_bl, shp_int, shp_non, eqv_bl, eqv_ii, and_assoc, exists_and_left, row_iff, Int.ofNat_inj, flat_row, len_row, nd_row, ty_row, isTup_row, ix_row, ix_row', eqv_row, eq_dn, eq_ii, add_ii, lt_ii, le_ii, gt_ii, ge_ii, sub_ii, mod_ii, len_li, len_tu]
  by_cases hat : at_ < cs.length
  · right
    refine ⟨hat, ?_⟩
    simp [wFor, wSeq, wIfS, wOr, wAnd, wNot, wTest, wIsi, wVar, startE, Op.get, Op.clean, noDct, ty1, ty2, ty3, ty4, ty5, ty6, wNext, wIsN, wNotN, wRet, wRetT, wRetN, wAndV, wOrV, wNotV, wIf, wBin, wBlt, wC, wCons, wNil, wTup, dats, gets, wAsg, wN, wN2, wN3, wPar, wAug, wCall, wCallP, wSetL, wF, fLst, fBlt, wApp, wPut, wNeg, wLc, wYes, elW, wipeE, wTupRg, fRng1, wRng1, wRng2, wIt, wItV, it1, it2, it3, it4, wChain, wSl, wNoPart, wPart, wDPut, wDDisp, wDNew, kit1, kit2, kit3, kit4, kit5, kit6, kit7, kit8, kit9, kit10, kit11, kit12, kit13, kit14, kit15, kit16, kit17, kit18, kit19, kit20, kit21, kit22, kit23, kit24, kit25, kit26, kit27, kit28, kit29, kit30, mlLen, shp_bl, shp_int, shp_non, eqv_bl, eqv_ii, and_assoc, exists_and_left, row_iff, Int.ofNat_inj, flat_row, len_row, nd_row, ty_row, isTup_row, ix_row, ix_row', eqv_row, eq_dn, eq_ii, add_ii, lt_ii, le_ii, gt_ii, ge_ii, sub_ii, mod_ii, len_li, len_tu, ix_m1]
    refine forW_map encR (ClJ n ls st a at_) ?_ ?_ ls _ ⟨cs, s4, [], rfl, C, hat, hcl, rfl, fun row h => by simp at h⟩
    · rintro e ⟨cs', t4, done, rfl, C', hat', hcl', hd, hdone⟩
      rw [List.append_nil] at hd
      subst hd
      simp [wSeq, wIfS, wOr, wAnd, wNot, wTest, wIsi, wVar, startE, Op.get, Op.clean, noDct, ty1, ty2, ty3, ty4, ty5, ty6, wNext, wIsN, wNotN, wRet, wRetT, wRetN, wAndV, wOrV, wNotV, wIf, wBin, wBlt, wC, wCons, wNil, wTup, dats, gets, wAsg, wN, wN2, wN3, wPar, wAug, wCall, wCallP, wSetL, wF, fLst, fBlt, wApp, wPut, wNeg, wLc, wYes, elW, wipeE, wTupRg, fRng1, wRng1, wRng2, wIt, wItV, it1, it2, it3, it4, wChain, wSl, wNoPart, wPart, wDPut, wDDisp, wDNew, kit1, kit2, kit3, kit4, kit5, kit6, kit7, kit8, kit9, kit10, kit11, kit12, kit13, kit14, kit15, kit16, kit17, kit18, kit19, kit20, kit21, kit22, kit23, kit24, kit25, kit26, kit27, kit28, kit29, kit30, mlLen, shp_bl, shp_int, shp_non, eqv_bl, eqv_ii, and_assoc, exists_and_left, row_iff, Int.ofNat_inj, flat_row, len_row, nd_row, ty_row, isTup_row, ix_row, ix_row', eqv_row, eq_dn, eq_ii, add_ii, lt_ii, le_ii, gt_ii, ge_ii, sub_ii, mod_ii, len_li, len_tu, IAddR]
      refine ⟨⟨cs', at_ + 1, t4, by simp, C', by omega, fun i hi => ?_⟩, ?_⟩
      · by_cases h : i = at_
        · subst h; exact hdone
        · exact hcl' i (by omega)
      · simp [intAt]
        omega
    · rintro row rest e ⟨cs', t4, done, rfl, C', hat', hcl', hd, hdone⟩ N hN
      have hrow : row ∈ ls := by rw [← hd]; simp
      have q := m.rows row hrow
      have hx : rg cs' at_ ∈ cs' := List.mem_of_getElem? (getD_of hat')
      have r1 := getD_of hat'
      have r2 := getD_of (show rg cs' at_ < row.length by rw [q.1]; exact C'.lt _ hx)
      have hlen' := nodup_lt C'.nd C'.lt
      have hs1 : shp (.list (cs'.map dn)) = true := (sm_encN (by omega)).shp
      have ixl : ∀ {z : D}, IxD (.list (cs'.map dn)) (.int (at_ : Nat)) z = (z = dn (rg cs' at_)) := fun {z} => by
        rw [ixD_list, List.getElem?_map, r1]
        exact propext ⟨fun h => (Option.some.inj h).symm, fun h => by rw [h]; rfl⟩
      simp [wSeq, wIfS, wOr, wAnd, wNot, wTest, wIsi, wVar, startE, Op.get, Op.clean, noDct, ty1, ty2, ty3, ty4, ty5, ty6, wNext, wIsN, wNotN, wRet, wRetT, wRetN, wAndV, wOrV, wNotV, wIf, wBin, wBlt, wC, wCons, wNil, wTup, dats, gets, wAsg, wN, wN2, wN3, wPar, wAug, wCall, wCallP, wSetL, wF, fLst, fBlt, wApp, wPut, wNeg, wLc, wYes, elW, wipeE, wTupRg, fRng1, wRng1, wRng2, wIt, wItV, it1, it2, it3, it4, wChain, wSl, wNoPart, wPart, wDPut, wDDisp, wDNew, kit1, kit2, kit3, kit4, kit5, kit6, kit7, kit8, kit9, kit10, kit11, kit12, kit13, kit14, kit15, kit16, kit17, kit18, kit19, kit20, kit21, kit22, kit23, kit24, kit25, kit26, kit27, kit28, kit29, kit30, mlLen, shp_bl, shp_int, shp_non, eqv_bl, eqv_ii, and_assoc, exists_and_left, row_iff, Int.ofNat_inj, flat_row, len_row, nd_row, ty_row, isTup_row, ix_row, ix_row', eqv_row, eq_dn, eq_ii, add_ii, lt_ii, le_ii, gt_ii, ge_ii, sub_ii, mod_ii, len_li, len_tu, ixl, r2, in_intsL, hs1, shp_dn]
      by_cases hin : rg row (rg cs' at_) ∈ cs'
      · rw [inN_t hin]
        simp
        refine hN _ ⟨cs', _, done ++ [row], rfl, C', hat', hcl', by simp [hd], fun r hr => ?_⟩
        rcases List.mem_append.mp hr with h | h
        · exact hdone r h
        · simp at h; subst h; exact hin
      · rw [inN_f hin]
        simp
        refine ⟨by omega, hN _ ⟨cs' ++ [rg row (rg cs' at_)], _, done ++ [row], by simp; rfl, C'.add m hrow hx hin, by simp; omega, fun i hi r hr => ?_, by simp [hd], fun r hr => ?_⟩⟩
        · rw [rg_left (by omega)]
          exact List.mem_append.mpr (.inl (hcl' i hi r hr))
        · rw [rg_left hat']
          rcases List.mem_append.mp hr with h | h
          · exact List.mem_append.mpr (.inl (hdone r h))
          · simp at h; subst h; simp
  · left
    refine ⟨by omega, ?_⟩
    refine sort_nat fun zs2 pz sz => ⟨encR zs2, rfl, hk zs2 ⟨pz.nodup_iff.mpr C.nd, fun x hx => C.lt x (pz.mem_iff.mp hx), fun x hx => pz.mem_iff.mpr (C.has x hx), fun row hr x hx => ?_, fun P h1 h2 x hx => C.least P h1 h2 x (pz.mem_iff.mp hx)⟩ sz⟩
    obtain ⟨i, hi, e⟩ := List.mem_iff_getElem.mp (pz.mem_iff.mp hx)
    have : rg cs i = x := by
      have := getD_of hi
      rw [List.getElem?_eq_getElem hi, e] at this
      exact (Option.some.inj this).symm
    rw [← this]
    exact pz.mem_iff.mpr (hcl i (by omega) row hr)
/-! ### the law's own maps -/
def atD : Nat → List (List Nat) → List (D × D)
  | _, [] => []
  | k, r :: F => (encR r, dn k) :: atD (k + 1) F
theorem at_get (r : List Nat) : ∀ (k : Nat) (F : List (List Nat)), (dget (atD k F) (encR r)).isSome = decide (r ∈ F)
  | _, [] => by simp [atD, dget]
  | k, a :: F => by
    unfold atD
    by_cases h : a = r
    · subst h
      rw [dget_pos (by rw [eqv_row]; simp)]
      simp
    · rw [dget_neg (by rw [eqv_row]; simp [h]), at_get r (k + 1) F]
      have h2 : ¬ r = a := fun e => h e.symm
      simp [h2]
theorem atD_snoc (r : List Nat) : ∀ (k : Nat) (F : List (List Nat)), atD k (F ++ [r]) = atD k F ++ [(encR r, dn (k + F.length))]
  | k, [] => rfl
  | k, a :: F => by
    show (encR a, dn k) :: atD (k + 1) (F ++ [r]) = _
    rw [atD_snoc r (k + 1) F]
    have : k + 1 + F.length = k + (a :: F).length := by simp; omega
    rw [this]
    rfl
theorem len_atD : ∀ (k : Nat) (F : List (List Nat)), (atD k F).length = F.length
  | _, [] => rfl
  | k, a :: F => by simp [atD, len_atD (k + 1) F]
theorem at_put {r : List Nat} {F : List (List Nat)} (h : ¬ r ∈ F) : dput (atD 0 F) (encR r) (dn F.length) = atD 0 (F ++ [r]) := by
  unfold dput
  rw [at_get, decide_eq_false h, atD_snoc, Nat.zero_add]
  simp
def MEnv2 (n : Nat) (ls : List (List Nat)) (a1 a2 a3 : Addr) (s : List (List Nat) × List (List Nat)) (at_ : Nat) (s5 s6 s7 : Sl) : DEnv :=
  [.im (encM n ls), .ml a1 (encL s.1), .ml a2 (s.2.map encW), .md true a3 (atD 0 s.1), .im (.int (at_ : Nat)), s5, s6, s7]
def MapsI2 (n : Nat) (ls U : List (List Nat)) (a1 a2 a3 : Addr) (e : DEnv) : Prop := ∃ s at_ f s5 s6 s7, e = MEnv2 n ls a1 a2 a3 s at_ s5 s6 s7 ∧ BInv n ls U s ∧ bfs ls f s at_ = mapsM (U.length + 1) n ls ∧ U.length + 1 = f + at_
def MapsJ2 (n : Nat) (ls U : List (List Nat)) (a1 a2 a3 : Addr) (at_ : Nat) (R : List (List Nat) × List (List Nat)) (ks : List Nat) (e : DEnv) : Prop := ∃ s s5 s6 s7, e = MEnv2 n ls a1 a2 a3 s at_ s5 s6 s7 ∧ BInv n ls U s ∧ at_ < s.1.length ∧ (∀ k ∈ ks, k < ls.length) ∧ ks.foldl (bstep ls at_) s = R
def g__law_maps : DSp := g_maps
theorem mono__law_maps : Mono g__law_maps := mono_maps
def t__law_maps : DTS := wSeq (wParL 1 2 (fLst (wCons (wTupRg (wBin IxD (wVar 0) (wC (.int 0)))) (wNil))) (fLst (wCons (wC (.str "")) (wNil)))) (wSeq (wDDisp 3 (wBin IxD (wVar 1) (wC (.int 0))) (wC (.int 0))) (wSeq (wAsg (wC (.int 0)) (wN 4)) (wSeq (wWhile (wTest (wBin LtR (wVar 4) (wBlt LenR (wCons (wVar 1) (wNil))))) (wSeq (wFor (wIt (wCall 1 g__law_letters (wCons (wVar 0) (wNil))) isLst) (wN 5) (wSeq (wAsg (wBlt TupR (wCons (wLc (wIt (wBin IxD (wVar 1) (wVar 4)) isTup) (wN 7) (wYes) (wBin IxD (wBin IxD (wBin IxD (wVar 0) (wC (.int 1))) (wSIndex "abc" (wVar 5))) (wVar 7)) [7]) (wNil))) (wN 6)) (wIfS (wTest (wBin (InDR true) (wVar 6) (wVar 3))) (wSeq (wDPut 3 (wVar 6) (wBlt LenR (wCons (wVar 1) (wNil)))) (wSeq (wApp 1 (wVar 6)) (wApp 2 (wBin AddR (wBin IxD (wVar 2) (wVar 4)) (wVar 5))))) (wNext)))) (wAsg (wBin AddR (wVar 4) (wC (.int 1))) (wN 4)))) (wRetT (wCons (wVar 1) (wCons (wVar 2) (wNil)))))))
theorem pure__law_maps (ds : List D) (κ : D → Prop) (hl : ds.length = 1) (h : g__law_maps ds κ) : t__law_maps { nx := fun _ => κ .none, rt := fun d _ => κ d } (startE 8 ds) := by
  obtain ⟨n, ls, U, rfl, m, u, hk⟩ := h
  have i0 : ∀ {x : List Nat} {z : D}, IxD (.list [encR x]) (.int 0) z = (z = encR x) := fun {x z} => by
    have := @ix_L [x] 0 z
    simp [encL] at this
    exact propext (this.trans eq_comm)
  have hn := m.few
  have er : PyData.tuple (rangeD 0 n) = encR (List.range n) := by rw [rangeD_row]; rfl
  simp [t__law_maps, wParL, wSeq, wIfS, wOr, wAnd, wNot, wTest, wIsi, wVar, startE, Op.get, Op.clean, noDct, ty1, ty2, ty3, ty4, ty5, ty6, wNext, wIsN, wNotN, wRet, wRetT, wRetN, wAndV, wOrV, wNotV, wIf, wBin, wBlt, wC, wCons, wNil, wTup, dats, gets, wAsg, wN, wN2, wN3, wPar, wAug, wCall, wCallP, wSetL, wF, fLst, fBlt, wApp, wPut, wNeg, wLc, wYes, elW, wipeE, wTupRg, fRng1, wRng1, wRng2, wIt, wItV, it1, it2, it3, it4, wChain, wSl, wNoPart, wPart, wDPut, wDDisp, wDNew, kit1, kit2, kit3, kit4, kit5, kit6, kit7, kit8, kit9, kit10, kit11, kit12, kit13, kit14, kit15, kit16, kit17, kit18, kit19, kit20, kit21, kit22, kit23, kit24, kit25, kit26, kit27, kit28, kit29, kit30, mlLen, shp_bl, shp_int, shp_non, eqv_bl, eqv_ii, and_assoc, exists_and_left, row_iff, Int.ofNat_inj, flat_row, len_row, nd_row, ty_row, isTup_row, ix_row, ix_row', eqv_row, eq_dn, eq_ii, add_ii, lt_ii, le_ii, gt_ii, ge_ii, sub_ii, mod_ii, len_li, len_tu, ix_m0, dn, er, i0, key_row]
  refine ⟨by omega, fun a1 a2 a3 => ?_⟩
  refine ⟨MapsI2 n ls U a1 a2 a3, fun e => 1000000 - intAt 4 e, ⟨([List.range n], [[]]), 0, U.length + 1, .un, .un, .un, by simp [MEnv2, encL, atD, empty_w, dn], BInv.init u, rfl, rfl⟩, ?_⟩
  rintro e ⟨s, at_, f, s5, s6, s7, rfl, I, hb, hf⟩
  have hfew := I.few u
  have hu := u.few
  simp [MEnv2, wSeq, wIfS, wOr, wAnd, wNot, wTest, wIsi, wVar, startE, Op.get, Op.clean, noDct, ty1, ty2, ty3, ty4, ty5, ty6, wNext, wIsN, wNotN, wRet, wRetT, wRetN, wAndV, wOrV, wNotV, wIf, wBin, wBlt, wC, wCons, wNil, wTup, dats, gets, wAsg, wN, wN2, wN3, wPar, wAug, wCall, wCallP, wSetL, wF, fLst, fBlt, wApp, wPut, wNeg, wLc, wYes, elW, wipeE, wTupRg, fRng1, wRng1, wRng2, wIt, wItV, it1, it2, it3, it4, wChain, wSl, wNoPart, wPart, wDPut, wDDisp, wDNew, kit1, kit2, kit3, kit4, kit5, kit6, kit7, kit8, kit9, kit10, kit11, kit12, kit13, kit14, kit15, kit16, kit17, kit18, kit19, kit20, kit21, kit22, kit23, kit24, kit25, kit26, kit27, kit28, kit29, kit30, mlLen, shp_bl, shp_int, shp_non, eqv_bl, eqv_ii, and_assoc, exists_and_left, row_iff, Int.ofNat_inj, flat_row, len_row, nd_row, ty_row, isTup_row, ix_row, ix_row', eqv_row, eq_dn, eq_ii, add_ii, lt_ii, le_ii, gt_ii, ge_ii, sub_ii, mod_ii, len_li, len_tu, len_encL]
  by_cases hat : at_ < s.1.length
  · right
    refine ⟨hat, ?_⟩
    cases f with
    | zero => omega
    | succ f =>
      have hb' : bfs ls f ((List.range ls.length).foldl (bstep ls at_) s) (at_ + 1) = mapsM (U.length + 1) n ls := by
        rw [← hb]
        conv => rhs; unfold bfs
        rw [if_pos hat]
      simp [wSeq, wIfS, wOr, wAnd, wNot, wTest, wIsi, wVar, startE, Op.get, Op.clean, noDct, ty1, ty2, ty3, ty4, ty5, ty6, wNext, wIsN, wNotN, wRet, wRetT, wRetN, wAndV, wOrV, wNotV, wIf, wBin, wBlt, wC, wCons, wNil, wTup, dats, gets, wAsg, wN, wN2, wN3, wPar, wAug, wCall, wCallP, wSetL, wF, fLst, fBlt, wApp, wPut, wNeg, wLc, wYes, elW, wipeE, wTupRg, fRng1, wRng1, wRng2, wIt, wItV, it1, it2, it3, it4, wChain, wSl, wNoPart, wPart, wDPut, wDDisp, wDNew, kit1, kit2, kit3, kit4, kit5, kit6, kit7, kit8, kit9, kit10, kit11, kit12, kit13, kit14, kit15, kit16, kit17, kit18, kit19, kit20, kit21, kit22, kit23, kit24, kit25, kit26, kit27, kit28, kit29, kit30, mlLen, shp_bl, shp_int, shp_non, eqv_bl, eqv_ii, and_assoc, exists_and_left, row_iff, Int.ofNat_inj, flat_row, len_row, nd_row, ty_row, isTup_row, ix_row, ix_row', eqv_row, eq_dn, eq_ii, add_ii, lt_ii, le_ii, gt_ii, ge_ii, sub_ii, mod_ii, len_li, len_tu, wFor, g__law_letters]
      refine ⟨n, ls, rfl, m, ?_⟩
      refine forW_map letD (MapsJ2 n ls U a1 a2 a3 at_ ((List.range ls.length).foldl (bstep ls at_) s)) ?_ ?_ _ _ ⟨s, s5, s6, s7, rfl, I, hat, fun k hk => List.mem_range.mp hk, rfl⟩
      · rintro e ⟨s', t5, t6, t7, rfl, I', hat', _, rfl⟩
        simp [MEnv2, wSeq, wIfS, wOr, wAnd, wNot, wTest, wIsi, wVar, startE, Op.get, Op.clean, noDct, ty1, ty2, ty3, ty4, ty5, ty6, wNext, wIsN, wNotN, wRet, wRetT, wRetN, wAndV, wOrV, wNotV, wIf, wBin, wBlt, wC, wCons, wNil, wTup, dats, gets, wAsg, wN, wN2, wN3, wPar, wAug, wCall, wCallP, wSetL, wF, fLst, fBlt, wApp, wPut, wNeg, wLc, wYes, elW, wipeE, wTupRg, fRng1, wRng1, wRng2, wIt, wItV, it1, it2, it3, it4, wChain, wSl, wNoPart, wPart, wDPut, wDDisp, wDNew, kit1, kit2, kit3, kit4, kit5, kit6, kit7, kit8, kit9, kit10, kit11, kit12, kit13, kit14, kit15, kit16, kit17, kit18, kit19, kit20, kit21, kit22, kit23, kit24, kit25, kit26, kit27, kit28, kit29, kit30, mlLen, shp_bl, shp_int, shp_non, eqv_bl, eqv_ii, and_assoc, exists_and_left, row_iff, Int.ofNat_inj, flat_row, len_row, nd_row, ty_row, isTup_row, ix_row, ix_row', eqv_row, eq_dn, eq_ii, add_ii, lt_ii, le_ii, gt_ii, ge_ii, sub_ii, mod_ii, len_li, len_tu]
        refine ⟨⟨(List.range ls.length).foldl (bstep ls at_) s, at_ + 1, f, t5, t6, t7, by simp [MEnv2], I', hb', by omega⟩, ?_⟩
        simp [intAt]
        omega
      · rintro k rest e ⟨s', t5, t6, t7, rfl, I', hat', hks, hR⟩ N hN
        have hk3 : k < ls.length := hks k List.mem_cons_self
        have hrest : ∀ j ∈ rest, j < ls.length := fun j hj => hks j (List.mem_cons_of_mem _ hj)
        obtain ⟨w, w1, w2, w3, w4, w5⟩ := I'.row hat'
        have q := m.row hk3
        have mo := mapOf_ok m w4
        have e1 := rowAt_of hk3
        have e2 := rowAt_of hat'
        have few' := I'.few u
        rw [List.foldl_cons] at hR
        simp [MEnv2, wSeq, wIfS, wOr, wAnd, wNot, wTest, wIsi, wVar, startE, Op.get, Op.clean, noDct, ty1, ty2, ty3, ty4, ty5, ty6, wNext, wIsN, wNotN, wRet, wRetT, wRetN, wAndV, wOrV, wNotV, wIf, wBin, wBlt, wC, wCons, wNil, wTup, dats, gets, wAsg, wN, wN2, wN3, wPar, wAug, wCall, wCallP, wSetL, wF, fLst, fBlt, wApp, wPut, wNeg, wLc, wYes, elW, wipeE, wTupRg, fRng1, wRng1, wRng2, wIt, wItV, it1, it2, it3, it4, wChain, wSl, wNoPart, wPart, wDPut, wDDisp, wDNew, kit1, kit2, kit3, kit4, kit5, kit6, kit7, kit8, kit9, kit10, kit11, kit12, kit13, kit14, kit15, kit16, kit17, kit18, kit19, kit20, kit21, kit22, kit23, kit24, kit25, kit26, kit27, kit28, kit29, kit30, mlLen, shp_bl, shp_int, shp_non, eqv_bl, eqv_ii, and_assoc, exists_and_left, row_iff, Int.ofNat_inj, flat_row, len_row, nd_row, ty_row, isTup_row, ix_row, ix_row', eqv_row, eq_dn, eq_ii, add_ii, lt_ii, le_ii, gt_ii, ge_ii, sub_ii, mod_ii, len_li, len_tu, ix_L, e2]
        refine ⟨by rw [w2, mo.1]; omega, lcW_map dn (fun x => dn (rg (rowAt ls k) x)) (rowAt s'.1 at_) [] (fun x hx kk wk => ?_) ?_⟩
        · rw [w2] at hx
          have hxl : x < (rowAt ls k).length := by rw [q.1]; exact mo.2 x hx
          simp [wSeq, wIfS, wOr, wAnd, wNot, wTest, wIsi, wVar, startE, Op.get, Op.clean, noDct, ty1, ty2, ty3, ty4, ty5, ty6, wNext, wIsN, wNotN, wRet, wRetT, wRetN, wAndV, wOrV, wNotV, wIf, wBin, wBlt, wC, wCons, wNil, wTup, dats, gets, wAsg, wN, wN2, wN3, wPar, wAug, wCall, wCallP, wSetL, wF, fLst, fBlt, wApp, wPut, wNeg, wLc, wYes, elW, wipeE, wTupRg, fRng1, wRng1, wRng2, wIt, wItV, it1, it2, it3, it4, wChain, wSl, wNoPart, wPart, wDPut, wDDisp, wDNew, kit1, kit2, kit3, kit4, kit5, kit6, kit7, kit8, kit9, kit10, kit11, kit12, kit13, kit14, kit15, kit16, kit17, kit18, kit19, kit20, kit21, kit22, kit23, kit24, kit25, kit26, kit27, kit28, kit29, kit30, mlLen, shp_bl, shp_int, shp_non, eqv_bl, eqv_ii, and_assoc, exists_and_left, row_iff, Int.ofNat_inj, flat_row, len_row, nd_row, ty_row, isTup_row, ix_row, ix_row', eqv_row, eq_dn, eq_ii, add_ii, lt_ii, le_ii, gt_ii, ge_ii, sub_ii, mod_ii, len_li, len_tu, ix_m1, wSIndex, letD, occ_let (Nat.lt_of_lt_of_le hk3 m.lets), ix_ls, e1, getD_of hxl]
          exact wk
        · have eb : PyData.tuple ([] ++ (rowAt s'.1 at_).map fun x => dn (rg (rowAt ls k) x)) = encR (beh (rowAt s'.1 at_) (rowAt ls k)) := by simp [encR, beh, Function.comp_def]
          refine ⟨_, rfl, ?_⟩
          rw [eb]
          have I2 := I'.step m u hat' hk3
          have hat2 : at_ < (bstep ls at_ s' k).1.length := Nat.lt_of_lt_of_le hat' bstep_len
          have hg := at_get (beh (rowAt s'.1 at_) (rowAt ls k)) 0 s'.1
          by_cases hin : beh (rowAt s'.1 at_) (rowAt ls k) ∈ s'.1
          · have eb : bstep ls at_ s' k = s' := by unfold bstep; rw [if_pos hin]
            rw [eb] at hR
            rw [decide_eq_true hin] at hg
            simp [InDR, keyOk, key_row, hg]
            exact .inl (hN _ ⟨s', _, _, t7, rfl, I', hat', hrest, hR⟩)
          · have eb : bstep ls at_ s' k = (s'.1 ++ [beh (rowAt s'.1 at_) (rowAt ls k)], s'.2 ++ [rowAt s'.2 at_ ++ [k]]) := by unfold bstep; rw [if_neg hin]
            rw [eb] at I2 hat2 hR
            rw [decide_eq_false hin] at hg
            have hg2 : dget (atD 0 s'.1) (encR (beh (rowAt s'.1 at_) (rowAt ls k))) = none := Option.not_isSome_iff_eq_none.mp (by rw [hg]; decide)
            have hp := at_put hin
            unfold dn at hp
            simp [InDR, keyOk, key_row, hg2, wSeq, wIfS, wOr, wAnd, wNot, wTest, wIsi, wVar, startE, Op.get, Op.clean, noDct, ty1, ty2, ty3, ty4, ty5, ty6, wNext, wIsN, wNotN, wRet, wRetT, wRetN, wAndV, wOrV, wNotV, wIf, wBin, wBlt, wC, wCons, wNil, wTup, dats, gets, wAsg, wN, wN2, wN3, wPar, wAug, wCall, wCallP, wSetL, wF, fLst, fBlt, wApp, wPut, wNeg, wLc, wYes, elW, wipeE, wTupRg, fRng1, wRng1, wRng2, wIt, wItV, it1, it2, it3, it4, wChain, wSl, wNoPart, wPart, wDPut, wDDisp, wDNew, kit1, kit2, kit3, kit4, kit5, kit6, kit7, kit8, kit9, kit10, kit11, kit12, kit13, kit14, kit15, kit16, kit17, kit18, kit19, kit20, kit21, kit22, kit23, kit24, kit25, kit26, kit27, kit28, kit29, kit30, mlLen, shp_bl, shp_int, shp_non, eqv_bl, eqv_ii, and_assoc, exists_and_left, row_iff, Int.ofNat_inj, flat_row, len_row, nd_row, ty_row, isTup_row, ix_row, ix_row', eqv_row, eq_dn, eq_ii, add_ii, lt_ii, le_ii, gt_ii, ge_ii, sub_ii, mod_ii, len_li, len_tu, hp, ix_W, w1, add_w (show w.length ≤ 100000 by omega), len_encL, ← I'.len, len_atD]
            refine ⟨by omega, hN _ ⟨(s'.1 ++ [beh (rowAt s'.1 at_) (rowAt ls k)], s'.2 ++ [rowAt s'.2 at_ ++ [k]]), .im (letD k), .im (encR (beh (rowAt s'.1 at_) (rowAt ls k))), t7, ?_, I2, hat2, hrest, hR⟩⟩
            simp [MEnv2, encL, w3]
  · left
    refine ⟨by omega, ?_⟩
    have e : bfs ls f s at_ = s := by
      cases f with
      | zero => rfl
      | succ f => unfold bfs; rw [if_neg hat]
    rw [e] at hb
    rw [← hb] at hk
    exact hk
/-! ### is_carried -/
/-- what it asks, for a table of the places 0, 1, .. in their order -/
def carried (n : Nat) (ls : List (List Nat)) (N : Nat) (ms : List (List Nat)) (T : List Nat) : Prop :=
  T.length = N ∧ ls.length = ms.length ∧ (∀ x ∈ T, x < n) ∧ (∀ q, q < n → q ∈ T) ∧ ∀ k, k < ls.length → ∀ i, i < N → rg T (rg (rowAt ms k) i) = rg (rowAt ls k) (rg T i)
def encT (T : List Nat) : D := .tuple ((List.range T.length).map fun i => .tuple [dn i, dn (rg T i)])
def g_is_carried : DSp := fun ds κ => ∃ (n : Nat) (ls : List (List Nat)) (N : Nat) (ms : List (List Nat)) (T : List Nat), ds = [encM n ls, encM N ms, encT T] ∧ MOk n ls ∧ MOk N ms ∧ carried n ls N ms T ∧ κ (.bool true)
theorem mono_is_carried : Mono g_is_carried := fun ds p q h ⟨n, ls, N, ms, T, e, a, b, c, k⟩ => ⟨n, ls, N, ms, T, e, a, b, c, h _ k⟩
def t_is_carried : DTS := wSeq (wIfS (wOr (wNot (wTest (wIsi "tuple" (wVar 2)))) (wNot (wTest (wBlt AllR (wCons (wLc (wIt (wVar 2) isTup) (wN 7) (wYes) (wAndV (wIsi "tuple" (wVar 7)) (wBin EqR (wBlt LenR (wCons (wVar 7) (wNil))) (wC (.int 2)))) [7]) (wNil)))))) (wRet (wC (.bool false))) (wNext)) (wSeq (wIfS (wTest (wBin NeR (wBlt LenR (wCons (wBin IxD (wVar 0) (wC (.int 1))) (wNil))) (wBlt LenR (wCons (wBin IxD (wVar 1) (wC (.int 1))) (wNil))))) (wRet (wC (.bool false))) (wNext)) (wSeq (wDNew 3 false) (wSeq (wFor (wIt (wVar 2) isTup) (wN2 4 5) (wSeq (wIfS (wOr (wNot (wTest (wCall 3 g_is_from (wCons (wVar 4) (wCons (wC (.int 0)) (wCons (wBin SubR (wBin IxD (wVar 1) (wC (.int 0))) (wC (.int 1))) (wNil))))))) (wOr (wNot (wTest (wCall 3 g_is_from (wCons (wVar 5) (wCons (wC (.int 0)) (wCons (wBin SubR (wBin IxD (wVar 0) (wC (.int 0))) (wC (.int 1))) (wNil))))))) (wTest (wBin (InDR false) (wVar 4) (wVar 3))))) (wRet (wC (.bool false))) (wNext)) (wDPut 3 (wVar 4) (wVar 5)))) (wSeq (wIfS (wTest (wBlt AnyR (wCons (wLc (wRng1 (wBin IxD (wVar 0) (wC (.int 0)))) (wN 8) (wYes) (wBin (InR true) (wVar 8) (wF (fDVals (wVar 3)))) [8]) (wNil)))) (wRet (wC (.bool false))) (wNext)) (wSeq (wForK 3 (wN 4) (wFor (wRng1 (wBlt LenR (wCons (wBin IxD (wVar 0) (wC (.int 1))) (wNil)))) (wN 6) (wIfS (wTest (wBin NeR (wDGet (wVar 3) (wBin IxD (wBin IxD (wBin IxD (wVar 1) (wC (.int 1))) (wVar 6)) (wVar 4))) (wBin IxD (wBin IxD (wBin IxD (wVar 0) (wC (.int 1))) (wVar 6)) (wBin IxDR (wVar 3) (wVar 4))))) (wRet (wC (.bool false))) (wNext)))) (wRet (wC (.bool true))))))))
/-- the table as far as i -/
def tabD (T : List Nat) (i : Nat) : List (D × D) := (List.range i).map fun j => (dn j, dn (rg T j))
theorem tab_succ (T : List Nat) (i : Nat) : tabD T (i + 1) = tabD T i ++ [(dn i, dn (rg T i))] := by simp [tabD, List.range_succ]
theorem tab_get (T : List Nat) (j : Nat) : ∀ i, dget (tabD T i) (dn j) = if j < i then some (dn (rg T j)) else none
  | 0 => rfl
  | i + 1 => by
    have ih := tab_get T j i
    unfold dget at ih ⊢
    rw [tab_succ, List.find?_append]
    by_cases h : j < i
    · rw [if_pos h] at ih
      rw [if_pos (by omega)]
      cases e : (tabD T i).find? fun x => PyData.eqv x.1 (dn j) with
      | none => rw [e] at ih; cases ih
      | some z => rw [e] at ih; simpa using ih
    · rw [if_neg h] at ih
      have e : (tabD T i).find? (fun x => PyData.eqv x.1 (dn j)) = none := by
        cases e : (tabD T i).find? fun x => PyData.eqv x.1 (dn j) with
        | none => rfl
        | some z => rw [e] at ih; cases ih
      rw [e]
      by_cases h2 : j = i
      · subst h2
        rw [if_pos (by omega)]
        simp [eqv_dn]
      · rw [if_neg (by omega)]
        have : ¬ i = j := fun z => h2 z.symm
        simp [eqv_dn, this]
theorem tab_put (T : List Nat) (i : Nat) : dput (tabD T i) (dn i) (dn (rg T i)) = tabD T (i + 1) := by
  unfold dput
  rw [tab_get, if_neg (Nat.lt_irrefl i), tab_succ]
  simp
def CarJ (n N : Nat) (ls ms : List (List Nat)) (T : List Nat) (a : Addr) (rest : List Nat) (e : DEnv) : Prop := ∃ i s4 s5, e = [.im (encM n ls), .im (encM N ms), .im (encT T), .md false a (tabD T i), s4, s5, .un, .un, .un] ∧ rest = (List.range T.length).drop i ∧ i ≤ T.length
theorem pure_is_carried (ds : List D) (κ : D → Prop) (hl : ds.length = 3) (h : g_is_carried ds κ) : t_is_carried { nx := fun _ => κ .none, rt := fun d _ => κ d } (startE 9 ds) := by
  obtain ⟨n, ls, N, ms, T, rfl, m, m2, ⟨c1, c2, c3, c4, c5⟩, hk⟩ := h
  have hT : isTup (encT T) = some ((List.range T.length).map fun i => .tuple [dn i, dn (rg T i)]) := rfl
  have hty : tyD (encT T) = "tuple" := rfl
  have hnd : noDct (encT T) = true := by
    unfold encT noDct
    refine noDcts_all fun d hd => ?_
    obtain ⟨i, _, rfl⟩ := List.mem_map.mp hd
    rfl
  simp [t_is_carried, wSeq, wIfS, wOr, wAnd, wNot, wTest, wIsi, wVar, startE, Op.get, Op.clean, noDct, ty1, ty2, ty3, ty4, ty5, ty6, wNext, wIsN, wNotN, wRet, wRetT, wRetN, wAndV, wOrV, wNotV, wIf, wBin, wBlt, wC, wCons, wNil, wTup, dats, gets, wAsg, wN, wN2, wN3, wPar, wAug, wCall, wCallP, wSetL, wF, fLst, fBlt, wApp, wPut, wNeg, wLc, wYes, elW, wipeE, wTupRg, fRng1, wRng1, wRng2, wIt, wItV, it1, it2, it3, it4, wChain, wSl, wNoPart, wPart, wDPut, wDDisp, wDNew, kit1, kit2, kit3, kit4, kit5, kit6, kit7, kit8, kit9, kit10, kit11, kit12, kit13, kit14, kit15, kit16, kit17, kit18, kit19, kit20, kit21, kit22, kit23, kit24, kit25, kit26, kit27, kit28, kit29, kit30, mlLen, shp_bl, shp_int, shp_non, eqv_bl, eqv_ii, and_assoc, exists_and_left, row_iff, Int.ofNat_inj, flat_row, len_row, nd_row, ty_row, isTup_row, ix_row, ix_row', eqv_row, eq_dn, eq_ii, add_ii, lt_ii, le_ii, gt_ii, ge_ii, sub_ii, mod_ii, len_li, len_tu, hT, hty, hnd, ix_m1, len_encL]
  have hN := m2.few
  refine ⟨by omega, lcW_map (fun i => .tuple [dn i, dn (rg T i)]) (fun _ => .bool true) _ [] (fun i hi k w => ?_) ?_⟩
  · simp [wSeq, wIfS, wOr, wAnd, wNot, wTest, wIsi, wVar, startE, Op.get, Op.clean, noDct, ty1, ty2, ty3, ty4, ty5, ty6, wNext, wIsN, wNotN, wRet, wRetT, wRetN, wAndV, wOrV, wNotV, wIf, wBin, wBlt, wC, wCons, wNil, wTup, dats, gets, wAsg, wN, wN2, wN3, wPar, wAug, wCall, wCallP, wSetL, wF, fLst, fBlt, wApp, wPut, wNeg, wLc, wYes, elW, wipeE, wTupRg, fRng1, wRng1, wRng2, wIt, wItV, it1, it2, it3, it4, wChain, wSl, wNoPart, wPart, wDPut, wDDisp, wDNew, kit1, kit2, kit3, kit4, kit5, kit6, kit7, kit8, kit9, kit10, kit11, kit12, kit13, kit14, kit15, kit16, kit17, kit18, kit19, kit20, kit21, kit22, kit23, kit24, kit25, kit26, kit27, kit28, kit29, kit30, mlLen, shp_bl, shp_int, shp_non, eqv_bl, eqv_ii, and_assoc, exists_and_left, row_iff, Int.ofNat_inj, flat_row, len_row, nd_row, ty_row, isTup_row, ix_row, ix_row', eqv_row, eq_dn, eq_ii, add_ii, lt_ii, le_ii, gt_ii, ge_ii, sub_ii, mod_ii, len_li, len_tu]
    exact ⟨rfl, w⟩
  refine ⟨.bool true, ⟨(List.range T.length).map fun _ => true, by simp [Function.comp_def], by simp⟩, .inr ⟨rfl, .bool false, ?_, .inl ⟨rfl, fun a => ?_⟩⟩⟩
  · rw [ne_ii, c2]
    simp
  simp [wSeq, wIfS, wOr, wAnd, wNot, wTest, wIsi, wVar, startE, Op.get, Op.clean, noDct, ty1, ty2, ty3, ty4, ty5, ty6, wNext, wIsN, wNotN, wRet, wRetT, wRetN, wAndV, wOrV, wNotV, wIf, wBin, wBlt, wC, wCons, wNil, wTup, dats, gets, wAsg, wN, wN2, wN3, wPar, wAug, wCall, wCallP, wSetL, wF, fLst, fBlt, wApp, wPut, wNeg, wLc, wYes, elW, wipeE, wTupRg, fRng1, wRng1, wRng2, wIt, wItV, it1, it2, it3, it4, wChain, wSl, wNoPart, wPart, wDPut, wDDisp, wDNew, kit1, kit2, kit3, kit4, kit5, kit6, kit7, kit8, kit9, kit10, kit11, kit12, kit13, kit14, kit15, kit16, kit17, kit18, kit19, kit20, kit21, kit22, kit23, kit24, kit25, kit26, kit27, kit28, kit29, kit30, mlLen, shp_bl, shp_int, shp_non, eqv_bl, eqv_ii, and_assoc, exists_and_left, row_iff, Int.ofNat_inj, flat_row, len_row, nd_row, ty_row, isTup_row, ix_row, ix_row', eqv_row, eq_dn, eq_ii, add_ii, lt_ii, le_ii, gt_ii, ge_ii, sub_ii, mod_ii, len_li, len_tu, wFor, hT]
  refine forW_map (fun i => .tuple [dn i, dn (rg T i)]) (CarJ n N ls ms T a) ?_ ?_ _ _ ⟨0, _, _, rfl, by simp, Nat.zero_le _⟩
  · rintro e ⟨i, s4, s5, rfl, h1, h2⟩
    have hi : i = T.length := by
      have : T.length ≤ i := by simpa using h1
      omega
    subst hi
    have hvals : (tabD T T.length).map (·.2) = T.map dn := by
      have : T = (List.range T.length).map (rg T) := row_ext (by simp) fun x hx => by
        have h := getD_of (r := (List.range T.length).map (rg T)) (i := x) (by simpa using hx)
        rw [List.getElem?_map, List.getElem?_range hx] at h
        exact (Option.some.inj h)
      conv => rhs; rw [this]
      simp [tabD, Function.comp_def]
    have hn := m.few
    simp [wSeq, wIfS, wOr, wAnd, wNot, wTest, wIsi, wVar, startE, Op.get, Op.clean, noDct, ty1, ty2, ty3, ty4, ty5, ty6, wNext, wIsN, wNotN, wRet, wRetT, wRetN, wAndV, wOrV, wNotV, wIf, wBin, wBlt, wC, wCons, wNil, wTup, dats, gets, wAsg, wN, wN2, wN3, wPar, wAug, wCall, wCallP, wSetL, wF, fLst, fBlt, wApp, wPut, wNeg, wLc, wYes, elW, wipeE, wTupRg, fRng1, wRng1, wRng2, wIt, wItV, it1, it2, it3, it4, wChain, wSl, wNoPart, wPart, wDPut, wDDisp, wDNew, kit1, kit2, kit3, kit4, kit5, kit6, kit7, kit8, kit9, kit10, kit11, kit12, kit13, kit14, kit15, kit16, kit17, kit18, kit19, kit20, kit21, kit22, kit23, kit24, kit25, kit26, kit27, kit28, kit29, kit30, mlLen, shp_bl, shp_int, shp_non, eqv_bl, eqv_ii, and_assoc, exists_and_left, row_iff, Int.ofNat_inj, flat_row, len_row, nd_row, ty_row, isTup_row, ix_row, ix_row', eqv_row, eq_dn, eq_ii, add_ii, lt_ii, le_ii, gt_ii, ge_ii, sub_ii, mod_ii, len_li, len_tu, ix_m0, dn]
    refine ⟨by omega, by rw [rangeD_len]; omega, ?_⟩
    rw [rangeD_row]
    refine lcW_map dn (fun _ => .bool false) _ [] (fun q hq kk wk => ?_) ?_
    · have hq := c4 q (List.mem_range.mp hq)
      have sl : shp (.list (T.map dn)) = true := (sm_encN (by omega)).shp
      simp [wSeq, wIfS, wOr, wAnd, wNot, wTest, wIsi, wVar, startE, Op.get, Op.clean, noDct, ty1, ty2, ty3, ty4, ty5, ty6, wNext, wIsN, wNotN, wRet, wRetT, wRetN, wAndV, wOrV, wNotV, wIf, wBin, wBlt, wC, wCons, wNil, wTup, dats, gets, wAsg, wN, wN2, wN3, wPar, wAug, wCall, wCallP, wSetL, wF, fLst, fBlt, wApp, wPut, wNeg, wLc, wYes, elW, wipeE, wTupRg, fRng1, wRng1, wRng2, wIt, wItV, it1, it2, it3, it4, wChain, wSl, wNoPart, wPart, wDPut, wDDisp, wDNew, kit1, kit2, kit3, kit4, kit5, kit6, kit7, kit8, kit9, kit10, kit11, kit12, kit13, kit14, kit15, kit16, kit17, kit18, kit19, kit20, kit21, kit22, kit23, kit24, kit25, kit26, kit27, kit28, kit29, kit30, mlLen, shp_bl, shp_int, shp_non, eqv_bl, eqv_ii, and_assoc, exists_and_left, row_iff, Int.ofNat_inj, flat_row, len_row, nd_row, ty_row, isTup_row, ix_row, ix_row', eqv_row, eq_dn, eq_ii, add_ii, lt_ii, le_ii, gt_ii, ge_ii, sub_ii, mod_ii, len_li, len_tu, fDVals]
      refine ⟨_, ?_, wk⟩
      rw [hvals, in_intsL]
      exact ⟨shp_dn, sl, by rw [inN_t hq]; rfl⟩
    · refine ⟨.bool false, ⟨(List.range n).map fun _ => false, by simp [Function.comp_def], by simp⟩, .inl ⟨rfl, false, a, tabD T T.length, rfl, ?_⟩⟩
      have hkeys : (tabD T T.length).map (·.1) = (List.range T.length).map dn := by simp [tabD, Function.comp_def]
      rw [hkeys]
      refine forW_map dn (fun rest e => (∀ i ∈ rest, i < N) ∧ ∃ s4 s5 s6, e = [.im (encM n ls), .im (encM N ms), .im (encT T), .im (dctD false (tabD T T.length)), s4, s5, s6, .un, .un]) ?_ ?_ _ _ ⟨fun i hi => by rw [← c1]; exact List.mem_range.mp hi, s4, s5, .un, rfl⟩
      · rintro e ⟨_, s4, s5, s6, rfl⟩
        simp [wSeq, wIfS, wOr, wAnd, wNot, wTest, wIsi, wVar, startE, Op.get, Op.clean, noDct, ty1, ty2, ty3, ty4, ty5, ty6, wNext, wIsN, wNotN, wRet, wRetT, wRetN, wAndV, wOrV, wNotV, wIf, wBin, wBlt, wC, wCons, wNil, wTup, dats, gets, wAsg, wN, wN2, wN3, wPar, wAug, wCall, wCallP, wSetL, wF, fLst, fBlt, wApp, wPut, wNeg, wLc, wYes, elW, wipeE, wTupRg, fRng1, wRng1, wRng2, wIt, wItV, it1, it2, it3, it4, wChain, wSl, wNoPart, wPart, wDPut, wDDisp, wDNew, kit1, kit2, kit3, kit4, kit5, kit6, kit7, kit8, kit9, kit10, kit11, kit12, kit13, kit14, kit15, kit16, kit17, kit18, kit19, kit20, kit21, kit22, kit23, kit24, kit25, kit26, kit27, kit28, kit29, kit30, mlLen, shp_bl, shp_int, shp_non, eqv_bl, eqv_ii, and_assoc, exists_and_left, row_iff, Int.ofNat_inj, flat_row, len_row, nd_row, ty_row, isTup_row, ix_row, ix_row', eqv_row, eq_dn, eq_ii, add_ii, lt_ii, le_ii, gt_ii, ge_ii, sub_ii, mod_ii, len_li, len_tu]
        exact hk
      · rintro i rest e ⟨hi, s4, s5, s6, rfl⟩ Nx hNx
        have hil := hi i List.mem_cons_self
        have hls := m.lets
        simp [wFor, wSeq, wIfS, wOr, wAnd, wNot, wTest, wIsi, wVar, startE, Op.get, Op.clean, noDct, ty1, ty2, ty3, ty4, ty5, ty6, wNext, wIsN, wNotN, wRet, wRetT, wRetN, wAndV, wOrV, wNotV, wIf, wBin, wBlt, wC, wCons, wNil, wTup, dats, gets, wAsg, wN, wN2, wN3, wPar, wAug, wCall, wCallP, wSetL, wF, fLst, fBlt, wApp, wPut, wNeg, wLc, wYes, elW, wipeE, wTupRg, fRng1, wRng1, wRng2, wIt, wItV, it1, it2, it3, it4, wChain, wSl, wNoPart, wPart, wDPut, wDDisp, wDNew, kit1, kit2, kit3, kit4, kit5, kit6, kit7, kit8, kit9, kit10, kit11, kit12, kit13, kit14, kit15, kit16, kit17, kit18, kit19, kit20, kit21, kit22, kit23, kit24, kit25, kit26, kit27, kit28, kit29, kit30, mlLen, shp_bl, shp_int, shp_non, eqv_bl, eqv_ii, and_assoc, exists_and_left, row_iff, Int.ofNat_inj, flat_row, len_row, nd_row, ty_row, isTup_row, ix_row, ix_row', eqv_row, eq_dn, eq_ii, add_ii, lt_ii, le_ii, gt_ii, ge_ii, sub_ii, mod_ii, len_li, len_tu, ix_m1, len_encL, rangeD_row]
        refine ⟨by omega, ?_⟩
        refine forW_map dn (fun ks e => (∀ k ∈ ks, k < ls.length) ∧ ∃ s5 s6, e = [.im (encM n ls), .im (encM N ms), .im (encT T), .im (dctD false (tabD T T.length)), .im (dn i), s5, s6, .un, .un]) ?_ ?_ _ _ ⟨fun k hk => List.mem_range.mp hk, s5, s6, rfl⟩
        · rintro e ⟨_, s5, s6, rfl⟩
          exact hNx _ ⟨fun j hj => hi j (List.mem_cons_of_mem _ hj), _, _, _, rfl⟩
        · rintro k ks e ⟨hks, s5, s6, rfl⟩ N2 hN2
          have hk1 := hks k List.mem_cons_self
          have e1 := rowAt_of hk1
          have e2 := rowAt_of (show k < ms.length by omega)
          have q1 := m.row hk1
          have q2 := m2.row (show k < ms.length by omega)
          have hTi : rg T i < n := c3 _ (List.mem_of_getElem? (getD_of (by omega)))
          have r1 := getD_of (show rg T i < (rowAt ls k).length by rw [q1.1]; exact hTi)
          have r2 := getD_of (show i < (rowAt ms k).length by rw [q2.1]; exact hil)
          have hm := q2.2 _ (List.mem_of_getElem? r2)
          simp [wSeq, wIfS, wOr, wAnd, wNot, wTest, wIsi, wVar, startE, Op.get, Op.clean, noDct, ty1, ty2, ty3, ty4, ty5, ty6, wNext, wIsN, wNotN, wRet, wRetT, wRetN, wAndV, wOrV, wNotV, wIf, wBin, wBlt, wC, wCons, wNil, wTup, dats, gets, wAsg, wN, wN2, wN3, wPar, wAug, wCall, wCallP, wSetL, wF, fLst, fBlt, wApp, wPut, wNeg, wLc, wYes, elW, wipeE, wTupRg, fRng1, wRng1, wRng2, wIt, wItV, it1, it2, it3, it4, wChain, wSl, wNoPart, wPart, wDPut, wDDisp, wDNew, kit1, kit2, kit3, kit4, kit5, kit6, kit7, kit8, kit9, kit10, kit11, kit12, kit13, kit14, kit15, kit16, kit17, kit18, kit19, kit20, kit21, kit22, kit23, kit24, kit25, kit26, kit27, kit28, kit29, kit30, mlLen, shp_bl, shp_int, shp_non, eqv_bl, eqv_ii, and_assoc, exists_and_left, row_iff, Int.ofNat_inj, flat_row, len_row, nd_row, ty_row, isTup_row, ix_row, ix_row', eqv_row, eq_dn, eq_ii, add_ii, lt_ii, le_ii, gt_ii, ge_ii, sub_ii, mod_ii, len_li, len_tu, ix_m1, wDGet, ix_ls, e1, e2, r2, IxDR]
          refine ⟨encR (rowAt ms k), ?_, dn (rg (rowAt ms k) i), ?_, rfl, encR (rowAt ls k), ?_, rfl, dn (rg T i), ?_, dn (rg (rowAt ls k) (rg T i)), ?_, .bool false, ?_, .inl ⟨rfl, hN2 _ ⟨fun j hj => hks j (List.mem_cons_of_mem _ hj), _, _, rfl⟩⟩⟩
          · rw [show dn k = PyData.int ((k : Nat) : Int) from rfl, ix_ls, e2]
            rfl
          · rw [ix_row', r2]
            rfl
          · rw [show dn k = PyData.int ((k : Nat) : Int) from rfl, ix_ls, e1]
            rfl
          · rw [tab_get, if_pos (by omega)]
          · rw [ix_row', r1]
            rfl
          · rw [tab_get, if_pos (by omega), c5 k hk1 i hil]
            refine ⟨shp_dn, shp_dn, ?_⟩
            rw [Option.getD_some, eqv_dn]
            simp
  · rintro q rest e ⟨i, s4, s5, rfl, h1, h2⟩ Nx hN2
    have hil : i < T.length := by
      rcases Nat.lt_or_ge i T.length with h | h
      · exact h
      · rw [List.drop_eq_nil_of_le (by simpa using h)] at h1; cases h1
    rw [List.drop_eq_getElem_cons (by simpa using hil)] at h1
    have hq : q = i := by simpa using (List.cons.inj h1).1
    have hrest := (List.cons.inj h1).2
    subst hq
    have hx : rg T q < n := c3 _ (List.mem_of_getElem? (getD_of hil))
    simp [wSeq, wIfS, wOr, wAnd, wNot, wTest, wIsi, wVar, startE, Op.get, Op.clean, noDct, ty1, ty2, ty3, ty4, ty5, ty6, wNext, wIsN, wNotN, wRet, wRetT, wRetN, wAndV, wOrV, wNotV, wIf, wBin, wBlt, wC, wCons, wNil, wTup, dats, gets, wAsg, wN, wN2, wN3, wPar, wAug, wCall, wCallP, wSetL, wF, fLst, fBlt, wApp, wPut, wNeg, wLc, wYes, elW, wipeE, wTupRg, fRng1, wRng1, wRng2, wIt, wItV, it1, it2, it3, it4, wChain, wSl, wNoPart, wPart, wDPut, wDDisp, wDNew, kit1, kit2, kit3, kit4, kit5, kit6, kit7, kit8, kit9, kit10, kit11, kit12, kit13, kit14, kit15, kit16, kit17, kit18, kit19, kit20, kit21, kit22, kit23, kit24, kit25, kit26, kit27, kit28, kit29, kit30, mlLen, shp_bl, shp_int, shp_non, eqv_bl, eqv_ii, and_assoc, exists_and_left, row_iff, Int.ofNat_inj, flat_row, len_row, nd_row, ty_row, isTup_row, ix_row, ix_row', eqv_row, eq_dn, eq_ii, add_ii, lt_ii, le_ii, gt_ii, ge_ii, sub_ii, mod_ii, len_li, len_tu, g_is_from, ix_m0, dn]
    rw [if_pos (by omega), if_pos (by omega)]
    refine ⟨.bool false, ⟨false, tabD T q, rfl, rfl, ?_⟩, .inl ⟨rfl, rfl, by simp [tabD]; omega, ?_⟩⟩
    · rw [show PyData.int (q : Int) = dn q from rfl, tab_get, if_neg (Nat.lt_irrefl q)]
      rfl
    · exact hN2 _ ⟨q + 1, _, _, by rw [← tab_put]; rfl, hrest, by omega⟩
end DL

namespace DL
open PySem L2
/-! ### cascades, in plain words -/
theorem strict_unique {α : Type} {lt : α → α → Prop} (irr : ∀ a, ¬ lt a a) (tr : ∀ a b c, lt a b → lt b c → lt a c) : ∀ l m : List α, l.Pairwise lt → m.Pairwise lt → (∀ x, x ∈ l ↔ x ∈ m) → l = m
  | [], [], _, _, _ => rfl
  | [], b :: m, _, _, h => absurd ((h b).mpr List.mem_cons_self) (by simp)
  | a :: l, [], _, _, h => absurd ((h a).mp List.mem_cons_self) (by simp)
  | a :: l, b :: m, h1, h2, h => by
    have e : a = b := by
      rcases List.mem_cons.mp ((h a).mp List.mem_cons_self) with e | h3
      · exact e
      · rcases List.mem_cons.mp ((h b).mpr List.mem_cons_self) with e | h4
        · exact e.symm
        · exact absurd (tr _ _ _ (List.rel_of_pairwise_cons h1 h4) (List.rel_of_pairwise_cons h2 h3)) (irr a)
    subst e
    have n1 : a ∉ l := fun z => irr a (List.rel_of_pairwise_cons h1 z)
    have n2 : a ∉ m := fun z => irr a (List.rel_of_pairwise_cons h2 z)
    rw [strict_unique irr tr l m (List.Pairwise.of_cons h1) (List.Pairwise.of_cons h2) fun x => ?_]
    constructor
    · intro hx
      rcases List.mem_cons.mp ((h x).mp (List.mem_cons_of_mem _ hx)) with e | h3
      · subst e; exact absurd hx n1
      · exact h3
    · intro hx
      rcases List.mem_cons.mp ((h x).mpr (List.mem_cons_of_mem _ hx)) with e | h3
      · subst e; exact absurd hx n2
      · exact h3
theorem snoc_ind {α : Type} {P : List α → Prop} (h0 : P []) (h1 : ∀ l x, P l → P (l ++ [x])) (l : List α) : P l := by
  have : ∀ m : List α, P m.reverse := fun m => by
    induction m with
    | nil => exact h0
    | cons x m ih => rw [List.reverse_cons]; exact h1 _ _ ih
  have := this l.reverse
  rwa [List.reverse_reverse] at this
/-! rows as tuples of ints, in order -/
def cz (r : List Nat) : List Int := r.map fun (x : Nat) => (x : Int)
def ltR (a b : List Nat) : Prop := cz a < cz b
theorem cz_inj {a b : List Nat} (h : cz a = cz b) : a = b := by
  induction a generalizing b with
  | nil => cases b with
    | nil => rfl
    | cons y b => simp [cz] at h
  | cons x a ih => cases b with
    | nil => simp [cz] at h
    | cons y b =>
      simp only [cz, List.map_cons, List.cons.injEq] at h
      rw [ih h.2, Int.ofNat.inj h.1]
theorem ltR_irr (a : List Nat) : ¬ ltR a a := List.lt_irrefl _
theorem ltR_tr (a b c : List Nat) (h1 : ltR a b) (h2 : ltR b c) : ltR a c := List.lt_trans h1 h2
theorem tupI_cz (r : List Nat) : tupI (cz r) = encR r := by
  unfold tupI encR cz dn
  rw [List.map_map]; rfl
theorem ltR_unique {l m : List (List Nat)} (h1 : l.Pairwise ltR) (h2 : m.Pairwise ltR) (h : ∀ x, x ∈ l ↔ x ∈ m) : l = m := strict_unique ltR_irr ltR_tr l m h1 h2 h
theorem ltR_nodup {l : List (List Nat)} (h : l.Pairwise ltR) : l.Nodup := h.imp fun {a b} h e => by subst e; exact ltR_irr a h
theorem sortSetT_nat {κ : List D → Prop} (rows : List (List Nat)) (h : ∀ rs : List (List Nat), rs.Pairwise ltR → (∀ r, r ∈ rs ↔ r ∈ rows) → κ (rs.map encR)) (ks : List (List Int)) (h1 : ks.Pairwise (· < ·)) (h2 : ∀ k, k ∈ ks ↔ k ∈ rows.map cz) : κ (ks.map tupI) := by
  let rs := ks.map fun k => k.map Int.toNat
  have e : ks = rs.map cz := by
    show ks = (ks.map fun k => k.map Int.toNat).map cz
    rw [List.map_map]
    conv => lhs; rw [← List.map_id ks]
    refine List.map_congr_left fun k hk => ?_
    obtain ⟨r, _, rfl⟩ := List.mem_map.mp ((h2 k).mp hk)
    simp only [Function.comp_def, cz, List.map_map, id]
    refine List.map_congr_left fun x hx => ?_
    simp
  rw [e] at h1 h2 ⊢
  rw [List.map_map]
  have e2 : (tupI ∘ cz) = encR := funext tupI_cz
  rw [e2]
  refine h rs ((List.pairwise_map (f := cz)).mp h1) fun r => ?_
  constructor
  · intro hr
    obtain ⟨r', h3, h4⟩ := List.mem_map.mp ((h2 (cz r)).mp (List.mem_map.mpr ⟨r, hr, rfl⟩))
    rw [← cz_inj h4]; exact h3
  · intro hr
    obtain ⟨r', h3, h4⟩ := List.mem_map.mp ((h2 (cz r)).mpr (List.mem_map.mpr ⟨r, hr, rfl⟩))
    rw [← cz_inj h4]; exact h3
open PySem.W in
theorem sortD_rows {κ : List D → Prop} (rows : List (List Nat)) (hne : ∀ r ∈ rows, r ≠ []) (nd : rows.Nodup) (few : rows.length ≤ 1000000) (hs : ∀ r ∈ rows, r.length ≤ 100000) (h : ∀ rs : List (List Nat), rs.Pairwise ltR → rs.Perm rows → κ (rs.map encR)) : SortD [.list (rows.map encR)] κ := by
  refine ⟨rows.map encR, rfl, ?_, ?_, by simpa using few, ?_, ?_⟩
  · intro d hd d' hd'
    obtain ⟨r, _, rfl⟩ := List.mem_map.mp hd
    obtain ⟨r', _, rfl⟩ := List.mem_map.mp hd'
    exact alike_rows r r'
  · refine .inl fun d hd => ?_
    obtain ⟨r, hr, rfl⟩ := List.mem_map.mp hd
    cases r with
    | nil => exact absurd rfl (hne _ hr)
    | cons x r => exact ⟨_, _, rfl⟩
  · intro d hd
    obtain ⟨r, hr, rfl⟩ := List.mem_map.mp hd
    have := (sm_row (hs r hr)).all
    exact ⟨by omega, this.2.2⟩
  · have e : (rows.map encR).mergeSort (dataLe false id) = (rows.mergeSort (dataLe false encR)).map encR := (List.map_mergeSort (f := encR) (r := dataLe false encR) (s := dataLe false id) fun a _ b _ => rfl).symm
    rw [e]
    have e2 : encR = fun r => PyData.tuple ((cz r).map .int) := by
      funext r; exact (tupI_cz r).symm
    have e3 : dataLe false encR = fun p q => decide (cz p ≤ cz q) := by
      rw [e2]; exact dataLe_tups cz
    have pm := List.mergeSort_perm rows (dataLe false encR)
    refine h _ ?_ pm
    have pw : (rows.mergeSort (dataLe false encR)).Pairwise (fun p q => cz p ≤ cz q) := by
      rw [e3]
      refine (List.pairwise_mergeSort (le := fun p q : List Nat => decide (cz p ≤ cz q)) (fun a b c h1 h2 => ?_) (fun a b => ?_) rows).imp fun h => by simpa using h
      · simp only [decide_eq_true_eq] at *
        exact List.le_trans h1 h2
      · simp only [Bool.or_eq_true, decide_eq_true_eq]
        exact List.le_total _ _
    refine (pw.and (pm.nodup_iff.mpr nd)).imp fun {x y} ⟨a, b⟩ => ?_
    by_cases h : cz x < cz y
    · exact h
    · exact absurd (cz_inj (List.le_antisymm a (List.not_lt.mp h))) b
/-! all states -/
def growS (acc : List (List Nat)) (m : Nat) : List (List Nat) := acc.flatMap fun h => (List.range m).map fun x => h ++ [x]
def allS (sizes : List Nat) : List (List Nat) := sizes.foldl growS [[]]
theorem allS_snoc (sizes : List Nat) (m : Nat) : allS (sizes ++ [m]) = growS (allS sizes) m := by simp [allS]
def InS (sizes h : List Nat) : Prop := h.length = sizes.length ∧ ∀ i, i < sizes.length → rg h i < rg sizes i
theorem rg_last {r : List Nat} {x : Nat} : rg (r ++ [x]) r.length = x := by simp [rg]
theorem rg_pre {r s : List Nat} {i : Nat} (h : i < r.length) : rg (r ++ s) i = rg r i := by
  unfold rg
  rw [List.getD_eq_getElem?_getD, List.getD_eq_getElem?_getD, List.getElem?_append_left h]
theorem InS.snoc {sizes h : List Nat} {m x : Nat} (H : InS sizes h) (hx : x < m) : InS (sizes ++ [m]) (h ++ [x]) := by
  refine ⟨by simp [H.1], fun i hi => ?_⟩
  by_cases c : i < sizes.length
  · rw [rg_pre (by rw [H.1]; exact c), rg_pre c]; exact H.2 i c
  · have : i = sizes.length := by simp at hi; omega
    subst this
    rw [rg_last, ← H.1, rg_last]; exact hx
theorem InS.split {sizes h : List Nat} {m : Nat} (H : InS (sizes ++ [m]) h) : ∃ h' x, h = h' ++ [x] ∧ InS sizes h' ∧ x < m := by
  have hl := H.1
  simp at hl
  have hne : h ≠ [] := fun e => by rw [e] at hl; simp at hl
  refine ⟨h.dropLast, h.getLast hne, (List.dropLast_concat_getLast hne).symm, ?_, ?_⟩
  · refine ⟨by simp [hl], fun i hi => ?_⟩
    have := H.2 i (by simp; omega)
    rw [rg_pre hi] at this
    rw [← List.dropLast_concat_getLast hne, rg_pre (by simp [hl]; exact hi)] at this
    exact this
  · have := H.2 sizes.length (by simp)
    rw [rg_last] at this
    rw [← List.dropLast_concat_getLast hne] at this
    have e : h.dropLast.length = sizes.length := by simp [hl]
    rw [← e, rg_last] at this
    exact this
theorem mem_grow {acc : List (List Nat)} {m : Nat} {h : List Nat} : h ∈ growS acc m ↔ ∃ h' x, h' ∈ acc ∧ x < m ∧ h = h' ++ [x] := by
  simp only [growS, List.mem_flatMap, List.mem_map, List.mem_range]
  constructor
  · rintro ⟨a, ha, x, hx, rfl⟩; exact ⟨a, x, ha, hx, rfl⟩
  · rintro ⟨a, x, ha, hx, rfl⟩; exact ⟨a, ha, x, hx, rfl⟩
theorem mem_allS (sizes : List Nat) : ∀ h, h ∈ allS sizes ↔ InS sizes h := by
  refine snoc_ind (P := fun sizes => ∀ h, h ∈ allS sizes ↔ InS sizes h) (fun h => ?_) (fun l m ih h => ?_) sizes
  · simp [allS, InS]
  · rw [allS_snoc, mem_grow]
    constructor
    · rintro ⟨h', x, h1, h2, rfl⟩; exact ((ih h').mp h1).snoc h2
    · intro H
      obtain ⟨h', x, e, h1, h2⟩ := H.split
      exact ⟨h', x, (ih h').mpr h1, h2, e⟩
theorem len_grow (acc : List (List Nat)) (m : Nat) : (growS acc m).length = acc.length * m := by
  induction acc with
  | nil => simp [growS]
  | cons a acc ih =>
    simp only [growS, List.flatMap_cons, List.length_append, List.length_map, List.length_range, List.length_cons] at *
    rw [ih, Nat.succ_mul, Nat.add_comm]
theorem len_allS (B : Nat) (sizes : List Nat) : (∀ s ∈ sizes, s ≤ B) → (allS sizes).length ≤ B ^ sizes.length := by
  refine snoc_ind (P := fun sizes => (∀ s ∈ sizes, s ≤ B) → (allS sizes).length ≤ B ^ sizes.length) (fun _ => by simp [allS]) (fun l m ih h => ?_) sizes
  rw [allS_snoc, len_grow, List.length_append, List.length_singleton, Nat.pow_succ]
  exact Nat.mul_le_mul (ih fun s hs => h s (List.mem_append.mpr (.inl hs))) (h m (by simp))
theorem pos_allS (sizes : List Nat) : (∀ s ∈ sizes, 1 ≤ s) → 1 ≤ (allS sizes).length := by
  refine snoc_ind (P := fun sizes => (∀ s ∈ sizes, 1 ≤ s) → 1 ≤ (allS sizes).length) (fun _ => by simp [allS]) (fun l m ih h => ?_) sizes
  rw [allS_snoc, len_grow]
  exact Nat.mul_le_mul (ih fun s hs => h s (List.mem_append.mpr (.inl hs))) (h m (by simp))
theorem InS.take {sizes h : List Nat} (H : InS sizes h) (k : Nat) : InS (sizes.take k) (h.take k) := by
  refine ⟨by simp [H.1], fun i hi => ?_⟩
  simp at hi
  have := H.2 i (by omega)
  unfold rg at *
  rw [List.getD_eq_getElem?_getD, List.getD_eq_getElem?_getD] at *
  rw [List.getElem?_take_of_lt (by omega), List.getElem?_take_of_lt (by omega)]
  exact this
theorem rg_map {r : List Nat} {f : Nat → Nat} {i : Nat} (h : i < r.length) : rg (r.map f) i = f (rg r i) := by
  unfold rg
  rw [List.getD_eq_getElem?_getD, List.getD_eq_getElem?_getD, List.getElem?_map, List.getElem?_eq_getElem h]
  rfl
theorem rg_rangeMap {f : Nat → Nat} {n i : Nat} (h : i < n) : rg ((List.range n).map f) i = f i := by
  rw [rg_map (by simpa using h)]
  congr 1
  unfold rg
  simp [h]
/-! stages -/
abbrev Rule := List Nat × Nat × List Nat
abbrev Stage := Nat × List Rule
def encRule (r : Rule) : D := .tuple [encR r.1, dn r.2.1, encR r.2.2]
def encS (s : Stage) : D := .tuple [dn s.1, .tuple (s.2.map encRule)]
def encC (L : Nat) (ss : List Stage) : D := .tuple [dn L, .tuple (ss.map encS)]
def doneAt (rs : List Rule) (h : List Nat) (a : Nat) : Option (List Nat) := (rs.find? fun r => decide (r.1 = h) && decide (r.2.1 = a)).map (·.2.2)
def stg (ss : List Stage) (k : Nat) : Stage := ss.getD k (0, [])
def rowC (ss : List Stage) (k : Nat) (h : List Nat) (a : Nat) : List Nat := (doneAt (stg ss k).2 h a).getD []
def stepL (ss : List Stage) (st : List Nat) (a : Nat) : List Nat := (List.range ss.length).map fun k => rg (rowC ss k (st.take k) a) (rg st k)
structure WfC (L : Nat) (sizes : List Nat) (ss : List Stage) : Prop where
  len : ss.length = sizes.length
  few : sizes.length ≤ 3
  lets : L ≤ 3
  pos : ∀ s ∈ sizes, 1 ≤ s ∧ s ≤ 4
  short : ∀ s ∈ ss, ∀ r ∈ s.2, r.1.length ≤ 3
  ok : ∀ k, k < sizes.length → ∀ h a, InS (sizes.take k) h → a < L → ∃ row, doneAt (stg ss k).2 h a = some row ∧ row.length = rg sizes k ∧ ∀ x ∈ row, x < rg sizes k
theorem stg_pre {ss tt : List Stage} {k : Nat} (h : k < ss.length) : stg (ss ++ tt) k = stg ss k := by
  unfold stg
  rw [List.getD_eq_getElem?_getD, List.getD_eq_getElem?_getD, List.getElem?_append_left h]
theorem stg_last {ss : List Stage} {s : Stage} : stg (ss ++ [s]) ss.length = s := by simp [stg]
theorem len_stepL (ss : List Stage) (st : List Nat) (a : Nat) : (stepL ss st a).length = ss.length := by simp [stepL]
theorem rg_stepL {ss : List Stage} {st : List Nat} {a k : Nat} (h : k < ss.length) : rg (stepL ss st a) k = rg (rowC ss k (st.take k) a) (rg st k) := rg_rangeMap h
theorem WfC.row {L : Nat} {sizes : List Nat} {ss : List Stage} (W : WfC L sizes ss) {st : List Nat} (hs : InS sizes st) {a : Nat} (ha : a < L) {k : Nat} (hk : k < sizes.length) :
    doneAt (stg ss k).2 (st.take k) a = some (rowC ss k (st.take k) a) ∧ (rowC ss k (st.take k) a).length = rg sizes k ∧ rg (rowC ss k (st.take k) a) (rg st k) < rg sizes k := by
  obtain ⟨row, e, h1, h2⟩ := W.ok k hk _ a (hs.take k) ha
  have e2 : rowC ss k (st.take k) a = row := by unfold rowC; rw [e]; rfl
  rw [e2]
  exact ⟨e, h1, h2 _ (List.mem_of_getElem? (getD_of (by rw [h1]; exact hs.2 k hk)))⟩
theorem stepL_in {L : Nat} {sizes : List Nat} {ss : List Stage} (W : WfC L sizes ss) {st : List Nat} (hs : InS sizes st) {a : Nat} (ha : a < L) : InS sizes (stepL ss st a) :=
  ⟨by rw [len_stepL, W.len], fun i hi => by rw [rg_stepL (by rw [W.len]; exact hi)]; exact (W.row hs ha hi).2.2⟩
theorem snoc_of {α : Type} (l : List α) (h : l ≠ []) : ∃ l' x, l = l' ++ [x] := ⟨_, _, (List.dropLast_concat_getLast h).symm⟩
theorem stepL_snoc {ss : List Stage} {s : Stage} {st : List Nat} {x a : Nat} (h : st.length = ss.length) : stepL (ss ++ [s]) (st ++ [x]) a = stepL ss st a ++ [rg (rowC (ss ++ [s]) ss.length st a) x] := by
  unfold stepL
  rw [List.length_append, List.length_singleton, List.range_succ, List.map_append]
  congr 1
  · refine List.map_congr_left fun k hk => ?_
    have hk := List.mem_range.mp hk
    rw [rg_pre (by omega), List.take_append_of_le_length (by omega)]
    congr 1
    unfold rowC
    rw [stg_pre hk]
  · simp only [List.map_cons, List.map_nil]
    rw [← h, rg_last, List.take_append_of_le_length (Nat.le_refl _), List.take_length]
theorem stepL_init {L : Nat} {sizes : List Nat} {ss : List Stage} {st : List Nat} {a : Nat} (h : st.length = ss.length) : stepL ss.dropLast st.dropLast a = (stepL ss st a).dropLast := by
  by_cases hn : ss = []
  · subst hn; simp [stepL]
  · obtain ⟨ss', s, rfl⟩ := snoc_of ss hn
    have hn2 : st ≠ [] := fun e => by subst e; simp at h
    obtain ⟨st', x, rfl⟩ := snoc_of st hn2
    simp at h
    rw [stepL_snoc h]
    simp
theorem WfC.init {L m : Nat} {sizes : List Nat} {ss : List Stage} {s : Stage} (W : WfC L (sizes ++ [m]) (ss ++ [s])) : WfC L sizes ss := by
  have hl := W.len
  simp at hl
  refine ⟨hl, by have := W.few; simp at this; omega, W.lets, fun s hs => W.pos s (List.mem_append.mpr (.inl hs)), fun s hs => W.short s (List.mem_append.mpr (.inl hs)), fun k hk h a h1 h2 => ?_⟩
  have := W.ok k (by simp; omega) h a (by rw [List.take_append_of_le_length (by omega)]; exact h1) h2
  rw [stg_pre (by omega), rg_pre hk] at this
  exact this
/-- the rules of one stage more -/
structure RulesOk (L : Nat) (sizes : List Nat) (m : Nat) (rules : List Rule) : Prop where
  all : ∀ h a, InS sizes h → a < L → ∃ r ∈ rules, r.1 = h ∧ r.2.1 = a
  ok : ∀ r ∈ rules, r.1.length ≤ 3 ∧ r.2.2.length = m ∧ ∀ x ∈ r.2.2, x < m
theorem WfC.snoc {L m : Nat} {sizes : List Nat} {ss : List Stage} {rules : List Rule} (W : WfC L sizes ss) (R : RulesOk L sizes m rules) (h3 : sizes.length < 3) (hm : 1 ≤ m ∧ m ≤ 4) : WfC L (sizes ++ [m]) (ss ++ [(m, rules)]) := by
  refine ⟨by simp [W.len], by simp; omega, W.lets, fun s hs => ?_, fun s hs => ?_, fun k hk h a h1 h2 => ?_⟩
  · rcases List.mem_append.mp hs with h | h
    · exact W.pos s h
    · simp at h; subst h; exact hm
  · rcases List.mem_append.mp hs with h | h
    · exact W.short s h
    · simp at h; subst h; exact fun r hr => (R.ok r hr).1
  · by_cases c : k < sizes.length
    · rw [stg_pre (by rw [W.len]; exact c), rg_pre c]
      rw [List.take_append_of_le_length (by omega)] at h1
      exact W.ok k c h a h1 h2
    · have e : k = sizes.length := by simp at hk; omega
      subst e
      rw [List.take_append_of_le_length (Nat.le_refl _), List.take_length] at h1
      rw [rg_last, ← W.len, stg_last]
      unfold doneAt
      obtain ⟨r, hr, e1, e2⟩ := R.all h a h1 h2
      cases q : rules.find? fun r => decide (r.1 = h) && decide (r.2.1 = a) with
      | none =>
        have := List.find?_eq_none.mp q r hr
        simp [e1, e2] at this
      | some r' => exact ⟨_, rfl, (R.ok r' (List.mem_of_find?_eq_some q)).2⟩
/-! what is reached -/
structure Reached (L : Nat) (ss : List Stage) (xs cs : List (List Nat)) : Prop where
  up : cs.Pairwise ltR
  has : ∀ x ∈ xs, x ∈ cs
  cl : ∀ c ∈ cs, ∀ a, a < L → stepL ss c a ∈ cs
  least : ∀ T : List Nat → Prop, (∀ x ∈ xs, T x) → (∀ c a, a < L → T c → T (stepL ss c a)) → ∀ c ∈ cs, T c
theorem Reached.inS {L : Nat} {sizes : List Nat} {ss : List Stage} {xs cs : List (List Nat)} (W : WfC L sizes ss) (R : Reached L ss xs cs) (h : ∀ x ∈ xs, InS sizes x) : ∀ c ∈ cs, InS sizes c := R.least (InS sizes) h fun c a ha hc => stepL_in W hc ha
/-- from a closed set nothing more is reached -/
theorem Reached.closed {L : Nat} {ss : List Stage} {bs cs : List (List Nat)} (R : Reached L ss bs cs) (hb : bs.Pairwise ltR) (hc : ∀ c ∈ bs, ∀ a, a < L → stepL ss c a ∈ bs) : cs = bs :=
  ltR_unique R.up hb fun x => ⟨fun hx => R.least (· ∈ bs) (fun _ h => h) (fun c a ha h => hc c h a ha) x hx, R.has x⟩
def flatL (L : Nat) (ss : List Stage) (cs : List (List Nat)) : List (List Nat) := (List.range L).map fun a => cs.map fun h => cs.idxOf (stepL ss h a)
theorem rowAt_flat {L a : Nat} {ss : List Stage} {cs : List (List Nat)} (h : a < L) : rowAt (flatL L ss cs) a = cs.map fun h => cs.idxOf (stepL ss h a) := by
  unfold rowAt flatL
  rw [List.getD_eq_getElem?_getD, List.getElem?_map, List.getElem?_range h]
  rfl
theorem rg_idx {cs : List (List Nat)} {f : List Nat → Nat} {i : Nat} (h : i < cs.length) : rg (cs.map f) i = f (rowAt cs i) := by
  unfold rg rowAt
  rw [List.getD_eq_getElem?_getD, List.getD_eq_getElem?_getD, List.getElem?_map, List.getElem?_eq_getElem h]
  rfl
theorem mok_flat {L : Nat} {ss : List Stage} {cs : List (List Nat)} (hL : L ≤ 3) (h1 : 1 ≤ cs.length) (h2 : cs.length ≤ 1000) (hc : ∀ c ∈ cs, ∀ a, a < L → stepL ss c a ∈ cs) : MOk cs.length (flatL L ss cs) where
  pos := h1
  few := h2
  lets := by simp [flatL, hL]
  rows := fun r hr => by
    obtain ⟨a, ha, rfl⟩ := List.mem_map.mp hr
    refine ⟨by simp, fun x hx => ?_⟩
    obtain ⟨c, hc', rfl⟩ := List.mem_map.mp hx
    exact List.idxOf_lt_length_iff.mpr (hc c hc' a (List.mem_range.mp ha))
end DL

namespace DL
open PySem L2
/-! ### cascades -/
theorem dn_int (k : Nat) : PyData.int ((k : Nat) : Int) = dn k := rfl
theorem ix_tupN {ds : List D} {i : Nat} {z : D} : IxD (.tuple ds) (dn i) z = (ds[i]? = some z) := ixD_tup
theorem ix_listN {ds : List D} {i : Nat} {z : D} : IxD (.list ds) (dn i) z = (ds[i]? = some z) := ixD_list
theorem ix_t0 {d : D} {ds : List D} {z : D} : IxD (.tuple (d :: ds)) (.int 0) z = (z = d) := by
  rw [show (0 : Int) = ((0 : Nat) : Int) from rfl, ixD_tup]; simp [eq_comm]
theorem ix_t1 {d e : D} {ds : List D} {z : D} : IxD (.tuple (d :: e :: ds)) (.int 1) z = (z = e) := by
  rw [show (1 : Int) = ((1 : Nat) : Int) from rfl, ixD_tup]; simp [eq_comm]
theorem ix_t2 {d e f : D} {ds : List D} {z : D} : IxD (.tuple (d :: e :: f :: ds)) (.int 2) z = (z = f) := by
  rw [show (2 : Int) = ((2 : Nat) : Int) from rfl, ixD_tup]; simp [eq_comm]
theorem ix_s1 {s : Stage} {z : D} : IxD (encS s) (.int 1) z = (z = .tuple (s.2.map encRule)) := ix_t1
theorem ix_c0 {L : Nat} {ss : List Stage} {z : D} : IxD (encC L ss) (.int 0) z = (z = dn L) := ix_t0
theorem ix_c1 {L : Nat} {ss : List Stage} {z : D} : IxD (encC L ss) (.int 1) z = (z = .tuple (ss.map encS)) := ix_t1
theorem ix_r0 {r : Rule} {z : D} : IxD (encRule r) (.int 0) z = (z = encR r.1) := ix_t0
theorem ix_r1 {r : Rule} {z : D} : IxD (encRule r) (.int 1) z = (z = dn r.2.1) := ix_t1
theorem ix_r2 {r : Rule} {z : D} : IxD (encRule r) (.int 2) z = (z = encR r.2.2) := ix_t2
theorem eq_rowR {a b : List Nat} (ha : a.length ≤ 100000) (hb : b.length ≤ 100000) {z : D} : EqR (encR a) (encR b) z = (z = .bool (decide (a = b))) := by
  unfold EqR
  rw [eqv_row]
  simp [shp_row ha, shp_row hb]
def g_done_at : DSp := fun ds κ => ∃ (s : Stage) (h : List Nat) (a : Nat), ds = [encS s, encR h, dn a] ∧ (∀ r ∈ s.2, r.1.length ≤ 3) ∧ h.length ≤ 100000 ∧ κ (encO (doneAt s.2 h a))
theorem mono_done_at : Mono g_done_at := fun ds p q h ⟨s, x, a, e, b, c, k⟩ => ⟨s, x, a, e, b, c, h _ k⟩
def t_done_at : DTS := wSeq (wFor (wIt (wBin IxD (wVar 0) (wC (.int 1))) isTup) (wN 3) (wIfS (wAnd (wTest (wBin EqR (wBin IxD (wVar 3) (wC (.int 0))) (wVar 1))) (wTest (wBin EqR (wBin IxD (wVar 3) (wC (.int 1))) (wVar 2)))) (wRet (wBin IxD (wVar 3) (wC (.int 2)))) (wNext))) (wRet (wC .none))
def DoneJ (s : Stage) (h : List Nat) (a : Nat) (rest : List Rule) (e : DEnv) : Prop := ∃ s3, e = [.im (encS s), .im (encR h), .im (dn a), s3] ∧ (∀ r ∈ rest, r.1.length ≤ 3) ∧ doneAt rest h a = doneAt s.2 h a
theorem pure_done_at (ds : List D) (κ : D → Prop) (hl : ds.length = 3) (h : g_done_at ds κ) : t_done_at { nx := fun _ => κ .none, rt := fun d _ => κ d } (startE 4 ds) := by
  obtain ⟨s, h, a, rfl, hs, hh, hk⟩ := h
  simp [t_done_at, wSeq, wIfS, wOr, wAnd, wNot, wTest, wIsi, wVar, startE, Op.get, Op.clean, noDct, ty1, ty2, ty3, ty4, ty5, ty6, wNext, wIsN, wNotN, wRet, wRetT, wRetN, wAndV, wOrV, wNotV, wIf, wBin, wBlt, wC, wCons, wNil, wTup, dats, gets, wAsg, wN, wN2, wN3, wPar, wAug, wCall, wCallP, wSetL, wF, fLst, fBlt, wApp, wPut, wNeg, wLc, wYes, elW, wipeE, wTupRg, fRng1, wRng1, wRng2, wIt, wItV, it1, it2, it3, it4, wChain, wSl, wNoPart, wPart, wDPut, wDDisp, wDNew, kit1, kit2, kit3, kit4, kit5, kit6, kit7, kit8, kit9, kit10, kit11, kit12, kit13, kit14, kit15, kit16, kit17, kit18, kit19, kit20, kit21, kit22, kit23, kit24, kit25, kit26, kit27, kit28, kit29, kit30, mlLen, shp_bl, shp_int, shp_non, eqv_bl, eqv_ii, and_assoc, exists_and_left, row_iff, Int.ofNat_inj, flat_row, len_row, nd_row, ty_row, isTup_row, ix_row, ix_row', eqv_row, eq_dn, eq_ii, add_ii, lt_ii, le_ii, gt_ii, ge_ii, sub_ii, mod_ii, len_li, len_tu, wFor, ix_s1]
  refine forW_map encRule (DoneJ s h a) ?_ ?_ s.2 _ ⟨_, rfl, hs, rfl⟩
  · rintro e ⟨s3, rfl, _, hd⟩
    simp [wSeq, wIfS, wOr, wAnd, wNot, wTest, wIsi, wVar, startE, Op.get, Op.clean, noDct, ty1, ty2, ty3, ty4, ty5, ty6, wNext, wIsN, wNotN, wRet, wRetT, wRetN, wAndV, wOrV, wNotV, wIf, wBin, wBlt, wC, wCons, wNil, wTup, dats, gets, wAsg, wN, wN2, wN3, wPar, wAug, wCall, wCallP, wSetL, wF, fLst, fBlt, wApp, wPut, wNeg, wLc, wYes, elW, wipeE, wTupRg, fRng1, wRng1, wRng2, wIt, wItV, it1, it2, it3, it4, wChain, wSl, wNoPart, wPart, wDPut, wDDisp, wDNew, kit1, kit2, kit3, kit4, kit5, kit6, kit7, kit8, kit9, kit10, kit11, kit12, kit13, kit14, kit15, kit16, kit17, kit18, kit19, kit20, kit21, kit22, kit23, kit24, kit25, kit26, kit27, kit28, kit29, kit30, mlLen, shp_bl, shp_int, shp_non, eqv_bl, eqv_ii, and_assoc, exists_and_left, row_iff, Int.ofNat_inj, flat_row, len_row, nd_row, ty_row, isTup_row, ix_row, ix_row', eqv_row, eq_dn, eq_ii, add_ii, lt_ii, le_ii, gt_ii, ge_ii, sub_ii, mod_ii, len_li, len_tu]
    rw [← hd] at hk
    exact hk
  · rintro r rest e ⟨s3, rfl, hr, hd⟩ N hN
    simp [wSeq, wIfS, wOr, wAnd, wNot, wTest, wIsi, wVar, startE, Op.get, Op.clean, noDct, ty1, ty2, ty3, ty4, ty5, ty6, wNext, wIsN, wNotN, wRet, wRetT, wRetN, wAndV, wOrV, wNotV, wIf, wBin, wBlt, wC, wCons, wNil, wTup, dats, gets, wAsg, wN, wN2, wN3, wPar, wAug, wCall, wCallP, wSetL, wF, fLst, fBlt, wApp, wPut, wNeg, wLc, wYes, elW, wipeE, wTupRg, fRng1, wRng1, wRng2, wIt, wItV, it1, it2, it3, it4, wChain, wSl, wNoPart, wPart, wDPut, wDDisp, wDNew, kit1, kit2, kit3, kit4, kit5, kit6, kit7, kit8, kit9, kit10, kit11, kit12, kit13, kit14, kit15, kit16, kit17, kit18, kit19, kit20, kit21, kit22, kit23, kit24, kit25, kit26, kit27, kit28, kit29, kit30, mlLen, shp_bl, shp_int, shp_non, eqv_bl, eqv_ii, and_assoc, exists_and_left, row_iff, Int.ofNat_inj, flat_row, len_row, nd_row, ty_row, isTup_row, ix_row, ix_row', eqv_row, eq_dn, eq_ii, add_ii, lt_ii, le_ii, gt_ii, ge_ii, sub_ii, mod_ii, len_li, len_tu, ix_r0, ix_r1, ix_r2, eq_rowR (show r.1.length ≤ 100000 by have := hr r List.mem_cons_self; omega) hh]
    by_cases c1 : r.1 = h <;> by_cases c2 : r.2.1 = a
    all_goals
      unfold doneAt at hd
      rw [List.find?_cons] at hd
      simp only [c1, c2, decide_true, decide_false, Bool.and_true, Bool.and_false] at hd
      simp [c1, c2]
    · rw [← show encO (doneAt s.2 h a) = encR r.2.2 by unfold doneAt; rw [← hd]; rfl]
      exact hk
    all_goals exact hN _ ⟨_, rfl, fun r' h' => hr r' (List.mem_cons_of_mem _ h'), by unfold doneAt; exact hd⟩
/-! slices -/
theorem cut_take (ds : List D) (k : Nat) : cutD ds none (some (k : Int)) = ds.take k := by
  unfold cutD
  rw [HT.sIx_none, HT.sIx_nat]
  simp
theorem cut_init (ds : List D) : cutD ds none (some (-1)) = ds.dropLast := by
  unfold cutD
  rw [HT.sIx_none]
  have e : HT.sIx ds.length ds.length (some (-1)) = ds.length - 1 := by
    show (if (-1 : Int) < 0 then ((-1 : Int) + (ds.length : Int)).toNat else min (-1 : Int).toNat ds.length) = _
    rw [if_pos (by decide)]
    omega
  rw [e, List.dropLast_eq_take]
  simp
theorem sl_take {r : List Nat} {k : Nat} {z : D} : SlD (encR r) none (some (k : Int)) z = (z = encR (r.take k)) := by
  unfold encR
  simp only [SlD]
  rw [cut_take, List.map_take]
theorem sl_init {r : List Nat} {z : D} : SlD (encR r) none (some (-1)) z = (z = encR r.dropLast) := by
  unfold encR
  simp only [SlD]
  rw [cut_init, List.map_dropLast]
/-! ### step -/
theorem ix_ss {ss : List Stage} {k : Nat} (h : k < ss.length) {z : D} : IxD (.tuple (ss.map encS)) (dn k) z = (z = encS (stg ss k)) := by
  rw [ix_tupN, List.getElem?_map]
  have : ss[k]? = some (stg ss k) := by
    unfold stg
    rw [List.getD_eq_getElem?_getD, List.getElem?_eq_getElem h]; rfl
  rw [this]
  simp [eq_comm]
theorem stg_mem {ss : List Stage} {k : Nat} (h : k < ss.length) : stg ss k ∈ ss := by
  have : ss[k]? = some (stg ss k) := by
    unfold stg
    rw [List.getD_eq_getElem?_getD, List.getElem?_eq_getElem h]; rfl
  exact List.mem_of_getElem? this
def g_step : DSp := fun ds κ => ∃ (L : Nat) (sizes : List Nat) (ss : List Stage) (st : List Nat) (a : Nat), ds = [encC L ss, encR st, dn a] ∧ WfC L sizes ss ∧ InS sizes st ∧ a < L ∧ κ (encR (stepL ss st a))
theorem mono_step : Mono g_step := fun ds p q h ⟨L, z, ss, x, a, e, b, c, d, k⟩ => ⟨L, z, ss, x, a, e, b, c, d, h _ k⟩
def t_step : DTS := wSeq (wAsg (wTup (wNil)) (wN 3)) (wSeq (wFor (wRng1 (wBlt LenR (wCons (wBin IxD (wVar 0) (wC (.int 1))) (wNil)))) (wN 4) (wSeq (wAsg (wCall 3 g_done_at (wCons (wBin IxD (wBin IxD (wVar 0) (wC (.int 1))) (wVar 4)) (wCons (wSl (wVar 1) (wNoPart) (wPart (wVar 4))) (wCons (wVar 2) (wNil))))) (wN 5)) (wSeq (wIfS (wTest (wIsN (wVar 5))) (wRet (wC .none)) (wNext)) (wAug 3 IAddR (wTup (wCons (wBin IxD (wVar 5) (wBin IxD (wVar 1) (wVar 4))) (wNil))))))) (wRet (wVar 3)))
def StepJ (L : Nat) (ss : List Stage) (st : List Nat) (a : Nat) (rest : List Nat) (e : DEnv) : Prop := ∃ k s4 s5, e = [.im (encC L ss), .im (encR st), .im (dn a), .im (encR ((List.range k).map fun k => rg (rowC ss k (st.take k) a) (rg st k))), s4, s5] ∧ rest = (List.range ss.length).drop k ∧ k ≤ ss.length
theorem pure_step (ds : List D) (κ : D → Prop) (hl : ds.length = 3) (h : g_step ds κ) : t_step { nx := fun _ => κ .none, rt := fun d _ => κ d } (startE 6 ds) := by
  obtain ⟨L, sizes, ss, st, a, rfl, W, hs, ha, hk⟩ := h
  have hlen := W.len
  have hfew := W.few
  simp [t_step, wSeq, wIfS, wOr, wAnd, wNot, wTest, wIsi, wVar, startE, Op.get, Op.clean, noDct, ty1, ty2, ty3, ty4, ty5, ty6, wNext, wIsN, wNotN, wRet, wRetT, wRetN, wAndV, wOrV, wNotV, wIf, wBin, wBlt, wC, wCons, wNil, wTup, dats, gets, wAsg, wN, wN2, wN3, wPar, wAug, wCall, wCallP, wSetL, wF, fLst, fBlt, wApp, wPut, wNeg, wLc, wYes, elW, wipeE, wTupRg, fRng1, wRng1, wRng2, wIt, wItV, it1, it2, it3, it4, wChain, wSl, wNoPart, wPart, wDPut, wDDisp, wDNew, kit1, kit2, kit3, kit4, kit5, kit6, kit7, kit8, kit9, kit10, kit11, kit12, kit13, kit14, kit15, kit16, kit17, kit18, kit19, kit20, kit21, kit22, kit23, kit24, kit25, kit26, kit27, kit28, kit29, kit30, mlLen, shp_bl, shp_int, shp_non, eqv_bl, eqv_ii, and_assoc, exists_and_left, row_iff, Int.ofNat_inj, flat_row, len_row, nd_row, ty_row, isTup_row, ix_row, ix_row', eqv_row, eq_dn, eq_ii, add_ii, lt_ii, le_ii, gt_ii, ge_ii, sub_ii, mod_ii, len_li, len_tu, wFor, ix_c1]
  refine ⟨by omega, ?_⟩
  rw [rangeD_row]
  refine forW_map dn (StepJ L ss st a) ?_ ?_ (List.range ss.length) _ ⟨0, _, _, rfl, by simp, Nat.zero_le _⟩
  · rintro e ⟨k, s4, s5, rfl, h1, h2⟩
    have hk' : k = ss.length := by
      have : ss.length ≤ k := by simpa using h1
      omega
    subst hk'
    simp [wSeq, wIfS, wOr, wAnd, wNot, wTest, wIsi, wVar, startE, Op.get, Op.clean, noDct, ty1, ty2, ty3, ty4, ty5, ty6, wNext, wIsN, wNotN, wRet, wRetT, wRetN, wAndV, wOrV, wNotV, wIf, wBin, wBlt, wC, wCons, wNil, wTup, dats, gets, wAsg, wN, wN2, wN3, wPar, wAug, wCall, wCallP, wSetL, wF, fLst, fBlt, wApp, wPut, wNeg, wLc, wYes, elW, wipeE, wTupRg, fRng1, wRng1, wRng2, wIt, wItV, it1, it2, it3, it4, wChain, wSl, wNoPart, wPart, wDPut, wDDisp, wDNew, kit1, kit2, kit3, kit4, kit5, kit6, kit7, kit8, kit9, kit10, kit11, kit12, kit13, kit14, kit15, kit16, kit17, kit18, kit19, kit20, kit21, kit22, kit23, kit24, kit25, kit26, kit27, kit28, kit29, kit30, mlLen, shp_bl, shp_int, shp_non, eqv_bl, eqv_ii, and_assoc, exists_and_left, row_iff, Int.ofNat_inj, flat_row, len_row, nd_row, ty_row, isTup_row, ix_row, ix_row', eqv_row, eq_dn, eq_ii, add_ii, lt_ii, le_ii, gt_ii, ge_ii, sub_ii, mod_ii, len_li, len_tu]
    exact hk
  · rintro k rest e ⟨i, s4, s5, rfl, h1, h2⟩ N hN
    have hi : i < ss.length := by
      have : (List.drop i (List.range ss.length)).length = rest.length + 1 := by rw [← h1]; rfl
      simp at this; omega
    rw [List.drop_eq_getElem_cons (by simpa using hi)] at h1
    obtain ⟨e1, e2⟩ := List.cons.inj h1
    simp at e1
    subst e1
    have hr := W.row hs ha (k := k) (by omega)
    simp [wSeq, wIfS, wOr, wAnd, wNot, wTest, wIsi, wVar, startE, Op.get, Op.clean, noDct, ty1, ty2, ty3, ty4, ty5, ty6, wNext, wIsN, wNotN, wRet, wRetT, wRetN, wAndV, wOrV, wNotV, wIf, wBin, wBlt, wC, wCons, wNil, wTup, dats, gets, wAsg, wN, wN2, wN3, wPar, wAug, wCall, wCallP, wSetL, wF, fLst, fBlt, wApp, wPut, wNeg, wLc, wYes, elW, wipeE, wTupRg, fRng1, wRng1, wRng2, wIt, wItV, it1, it2, it3, it4, wChain, wSl, wNoPart, wPart, wDPut, wDDisp, wDNew, kit1, kit2, kit3, kit4, kit5, kit6, kit7, kit8, kit9, kit10, kit11, kit12, kit13, kit14, kit15, kit16, kit17, kit18, kit19, kit20, kit21, kit22, kit23, kit24, kit25, kit26, kit27, kit28, kit29, kit30, mlLen, shp_bl, shp_int, shp_non, eqv_bl, eqv_ii, and_assoc, exists_and_left, row_iff, Int.ofNat_inj, flat_row, len_row, nd_row, ty_row, isTup_row, ix_row, ix_row', eqv_row, eq_dn, eq_ii, add_ii, lt_ii, le_ii, gt_ii, ge_ii, sub_ii, mod_ii, len_li, len_tu, ix_c1, ix_ss hi]
    refine ⟨(k : Int), rfl, _, sl_take.mpr rfl, stg ss k, st.take k, a, rfl, W.short _ (stg_mem hi), by simp; omega, ?_⟩
    rw [hr.1, encO_some]
    refine ⟨by simp [encR], fun _ => ⟨_, ⟨_, getD_of (show k < st.length by rw [hs.1]; omega), rfl⟩, ?_⟩⟩
    refine ⟨dn _, ix_row'.mpr (by rw [getD_of (show rg st k < _ by rw [hr.2.1]; exact hs.2 k (by omega))]; rfl), _, iadd_row.mpr ⟨by simp; omega, rfl⟩, ?_⟩
    refine hN _ ⟨k + 1, Sl.im (dn k), Sl.im (encR (rowC ss k (List.take k st) a)), ?_, e2, hi⟩
    rw [List.range_succ, List.map_append]
    rfl
/-! ### what is reached -/
theorem in_rowsL {neg : Bool} {r : List Nat} {rs : List (List Nat)} {z : D} (h1 : r.length ≤ 100000) (h2 : rs.length ≤ 100000) (h3 : ∀ x ∈ rs, x.length ≤ 100000) : InR neg (encR r) (.list (encL rs)) z = (z = .bool (decide (r ∈ rs) != neg)) := by
  unfold InR
  simp only [any_row, shp_row h1, (sm_list h2 h3).shp, true_and]
structure ReK (L : Nat) (sizes : List Nat) (ss : List Stage) (xs cs : List (List Nat)) : Prop where
  nd : cs.Nodup
  inS : ∀ c ∈ cs, InS sizes c
  has : ∀ x ∈ xs, x ∈ cs
  least : ∀ T : List Nat → Prop, (∀ x ∈ xs, T x) → (∀ c a, a < L → T c → T (stepL ss c a)) → ∀ c ∈ cs, T c
theorem ReK.add {L : Nat} {sizes : List Nat} {ss : List Stage} {xs cs : List (List Nat)} (C : ReK L sizes ss xs cs) (W : WfC L sizes ss) {c : List Nat} {a : Nat} (hc : c ∈ cs) (ha : a < L) (hn : ¬ stepL ss c a ∈ cs) : ReK L sizes ss xs (cs ++ [stepL ss c a]) where
  nd := List.nodup_append.mpr ⟨C.nd, by simp, fun x hx b hb e => by simp at hb; subst hb; subst e; exact hn hx⟩
  inS := fun y hy => by
    rcases List.mem_append.mp hy with h | h
    · exact C.inS y h
    · simp at h; subst h; exact stepL_in W (C.inS c hc) ha
  has := fun y hy => List.mem_append.mpr (.inl (C.has y hy))
  least := fun T h1 h2 y hy => by
    rcases List.mem_append.mp hy with h | h
    · exact C.least T h1 h2 y h
    · simp at h; subst h; exact h2 c a ha (C.least T h1 h2 c hc)
def g_reached : DSp := fun ds κ => ∃ (L : Nat) (sizes : List Nat) (ss : List Stage) (xs : List (List Nat)), ds = [encC L ss, .list (encL xs)] ∧ WfC L sizes ss ∧ sizes ≠ [] ∧ (∀ x ∈ xs, InS sizes x) ∧ xs.length < 64 ∧ ∀ cs, Reached L ss xs cs → κ (.tuple (encL cs))
theorem mono_reached : Mono g_reached := fun ds p q h ⟨L, z, ss, x, e, a, b, c, d, k⟩ => ⟨L, z, ss, x, e, a, b, c, d, fun cs h1 => h _ (k cs h1)⟩
def t_reached : DTS := wSeq (wSetL 2 (fSortSetT (wVar 1))) (wSeq (wAsg (wC (.int 0)) (wN 3)) (wSeq (wWhile (wTest (wBin LtR (wVar 3) (wBlt LenR (wCons (wVar 2) (wNil))))) (wSeq (wFor (wRng1 (wBin IxD (wVar 0) (wC (.int 0)))) (wN 4) (wSeq (wAsg (wCall 3 g_step (wCons (wVar 0) (wCons (wBin IxD (wVar 2) (wVar 3)) (wCons (wVar 4) (wNil))))) (wN 5)) (wSeq (wIfS (wTest (wIsN (wVar 5))) (wRet (wC .none)) (wNext)) (wIfS (wTest (wBin (InR true) (wVar 5) (wVar 2))) (wApp 2 (wVar 5)) (wNext))))) (wAug 3 IAddR (wC (.int 1))))) (wRet (wBlt TupR (wCons (wF (fBlt SortD (wCons (wVar 2) (wNil)))) (wNil))))))
def ReI (L : Nat) (sizes : List Nat) (ss : List Stage) (xs : List (List Nat)) (ad : Addr) (e : DEnv) : Prop := ∃ cs at_ s4 s5, e = [.im (encC L ss), .im (.list (encL xs)), .ml ad (encL cs), .im (.int (at_ : Nat)), s4, s5] ∧ ReK L sizes ss xs cs ∧ at_ ≤ cs.length ∧ ∀ i, i < at_ → ∀ a, a < L → stepL ss (rowAt cs i) a ∈ cs
def ReJ (L : Nat) (sizes : List Nat) (ss : List Stage) (xs : List (List Nat)) (ad : Addr) (at_ : Nat) (rest : List Nat) (e : DEnv) : Prop := ∃ cs s4 s5 j, e = [.im (encC L ss), .im (.list (encL xs)), .ml ad (encL cs), .im (.int (at_ : Nat)), s4, s5] ∧ ReK L sizes ss xs cs ∧ at_ < cs.length ∧ (∀ i, i < at_ → ∀ a, a < L → stepL ss (rowAt cs i) a ∈ cs) ∧ rest = (List.range L).drop j ∧ j ≤ L ∧ ∀ a, a < j → stepL ss (rowAt cs at_) a ∈ cs
theorem pure_reached (ds : List D) (κ : D → Prop) (hl : ds.length = 2) (h : g_reached ds κ) : t_reached { nx := fun _ => κ .none, rt := fun d _ => κ d } (startE 6 ds) := by
  obtain ⟨L, sizes, ss, xs, rfl, W, hz, hxs, hx64, hk⟩ := h
  have hfew : ∀ {cs}, ReK L sizes ss xs cs → cs.length ≤ 64 := fun {cs} C => by
    have h1 := nodup_len _ _ C.nd fun c hc => (mem_allS sizes c).mpr (C.inS c hc)
    have h2 := len_allS 4 sizes fun s hs => (W.pos s hs).2
    have h3 : 4 ^ sizes.length ≤ 4 ^ 3 := Nat.pow_le_pow_right (by decide) W.few
    omega
  have hL := W.lets
  have hs3 := W.few
  have hz1 : sizes.length ≠ 0 := fun e => hz (List.length_eq_zero_iff.mp e)
  have hlen : ∀ {c}, InS sizes c → c ≠ [] ∧ c.length ≤ 100000 := fun {c} h => ⟨fun e => by subst e; have := h.1; simp at this; omega, by rw [h.1]; omega⟩
  simp [t_reached, wSeq, wIfS, wOr, wAnd, wNot, wTest, wIsi, wVar, startE, Op.get, Op.clean, noDct, ty1, ty2, ty3, ty4, ty5, ty6, wNext, wIsN, wNotN, wRet, wRetT, wRetN, wAndV, wOrV, wNotV, wIf, wBin, wBlt, wC, wCons, wNil, wTup, dats, gets, wAsg, wN, wN2, wN3, wPar, wAug, wCall, wCallP, wSetL, wF, fLst, fBlt, wApp, wPut, wNeg, wLc, wYes, elW, wipeE, wTupRg, fRng1, wRng1, wRng2, wIt, wItV, it1, it2, it3, it4, wChain, wSl, wNoPart, wPart, wDPut, wDDisp, wDNew, kit1, kit2, kit3, kit4, kit5, kit6, kit7, kit8, kit9, kit10, kit11, kit12, kit13, kit14, kit15, kit16, kit17, kit18, kit19, kit20, kit21, kit22, kit23, kit24, kit25, kit26, kit27, kit28, kit29, kit30, mlLen, shp_bl, shp_int, shp_non, eqv_bl, eqv_ii, and_assoc, exists_and_left, row_iff, Int.ofNat_inj, flat_row, len_row, nd_row, ty_row, isTup_row, ix_row, ix_row', eqv_row, eq_dn, eq_ii, add_ii, lt_ii, le_ii, gt_ii, ge_ii, sub_ii, mod_ii, len_li, len_tu, fSortSetT]
  refine ⟨xs.map cz, by simp [encL, tupI_cz], by simpa using hx64, fun r hr => by
    obtain ⟨x, hx, rfl⟩ := List.mem_map.mp hr
    intro e
    exact (hlen (hxs x hx)).1 (cz_inj (e.trans rfl)), fun ks h1 h2 ad => ?_⟩
  refine sortSetT_nat (κ := fun ds => wWhile _ _ _ [_, _, Sl.ml ad ds, _, _, _]) xs (fun zs p1 p2 => ?_) ks h1 h2
  have C0 : ReK L sizes ss xs zs := ⟨ltR_nodup p1, fun c hc => hxs c ((p2 c).mp hc), fun x hx => (p2 x).mpr hx, fun T h1 _ x hx => h1 x ((p2 x).mp hx)⟩
  refine ⟨ReI L sizes ss xs ad, fun e => 1000000 - intAt 3 e, ⟨zs, 0, .un, .un, rfl, C0, Nat.zero_le _, fun i h => by omega⟩, ?_⟩
  rintro e ⟨cs, at_, s4, s5, rfl, C, ha, hcl⟩
  have hlenc := hfew C
  simp [wSeq, wIfS, wOr, wAnd, wNot, wTest, wIsi, wVar, startE, Op.get, Op.clean, noDct, ty1, ty2, ty3, ty4, ty5, ty6, wNext, wIsN, wNotN, wRet, wRetT, wRetN, wAndV, wOrV, wNotV, wIf, wBin, wBlt, wC, wCons, wNil, wTup, dats, gets, wAsg, wN, wN2, wN3, wPar, wAug, wCall, wCallP, wSetL, wF, fLst, fBlt, wApp, wPut, wNeg, wLc, wYes, elW, wipeE, wTupRg, fRng1, wRng1, wRng2, wIt, wItV, it1, it2, it3, it4, wChain, wSl, wNoPart, wPart, wDPut, wDDisp, wDNew, kit1, kit2, kit3, kit4, kit5, kit6, kit7, kit8, kit9, kit10, kit11, kit12, kit13, kit14, kit15, kit16, kit17, kit18, kit19, kit20, kit21, kit22, kit23, kit24, kit25, kit26, kit27, kit28, kit29, kit30, mlLen, shp_bl, shp_int, shp_non, eqv_bl, eqv_ii, and_assoc, exists_and_left, row_iff, Int.ofNat_inj, flat_row, len_row, nd_row, ty_row, isTup_row, ix_row, ix_row', eqv_row, eq_dn, eq_ii, add_ii, lt_ii, le_ii, gt_ii, ge_ii, sub_ii, mod_ii, len_li, len_tu, len_encL]
  by_cases hat : at_ < cs.length
  · right
    refine ⟨hat, ?_⟩
    simp [wFor, wSeq, wIfS, wOr, wAnd, wNot, wTest, wIsi, wVar, startE, Op.get, Op.clean, noDct, ty1, ty2, ty3, ty4, ty5, ty6, wNext, wIsN, wNotN, wRet, wRetT, wRetN, wAndV, wOrV, wNotV, wIf, wBin, wBlt, wC, wCons, wNil, wTup, dats, gets, wAsg, wN, wN2, wN3, wPar, wAug, wCall, wCallP, wSetL, wF, fLst, fBlt, wApp, wPut, wNeg, wLc, wYes, elW, wipeE, wTupRg, fRng1, wRng1, wRng2, wIt, wItV, it1, it2, it3, it4, wChain, wSl, wNoPart, wPart, wDPut, wDDisp, wDNew, kit1, kit2, kit3, kit4, kit5, kit6, kit7, kit8, kit9, kit10, kit11, kit12, kit13, kit14, kit15, kit16, kit17, kit18, kit19, kit20, kit21, kit22, kit23, kit24, kit25, kit26, kit27, kit28, kit29, kit30, mlLen, shp_bl, shp_int, shp_non, eqv_bl, eqv_ii, and_assoc, exists_and_left, row_iff, Int.ofNat_inj, flat_row, len_row, nd_row, ty_row, isTup_row, ix_row, ix_row', eqv_row, eq_dn, eq_ii, add_ii, lt_ii, le_ii, gt_ii, ge_ii, sub_ii, mod_ii, len_li, len_tu, ix_c0]
    refine ⟨(L : Int), rfl, by omega, by omega, ?_⟩
    rw [Int.toNat_natCast, rangeD_row]
    refine forW_map dn (ReJ L sizes ss xs ad at_) ?_ ?_ (List.range L) _ ⟨cs, s4, s5, 0, rfl, C, hat, hcl, rfl, Nat.zero_le _, fun a h => by omega⟩
    · rintro e ⟨cs', t4, t5, j, rfl, C', hat', hcl', hd, hj, hdone⟩
      have hjL : j = L := by
        have : L ≤ j := by simpa using hd
        omega
      subst hjL
      simp [wSeq, wIfS, wOr, wAnd, wNot, wTest, wIsi, wVar, startE, Op.get, Op.clean, noDct, ty1, ty2, ty3, ty4, ty5, ty6, wNext, wIsN, wNotN, wRet, wRetT, wRetN, wAndV, wOrV, wNotV, wIf, wBin, wBlt, wC, wCons, wNil, wTup, dats, gets, wAsg, wN, wN2, wN3, wPar, wAug, wCall, wCallP, wSetL, wF, fLst, fBlt, wApp, wPut, wNeg, wLc, wYes, elW, wipeE, wTupRg, fRng1, wRng1, wRng2, wIt, wItV, it1, it2, it3, it4, wChain, wSl, wNoPart, wPart, wDPut, wDDisp, wDNew, kit1, kit2, kit3, kit4, kit5, kit6, kit7, kit8, kit9, kit10, kit11, kit12, kit13, kit14, kit15, kit16, kit17, kit18, kit19, kit20, kit21, kit22, kit23, kit24, kit25, kit26, kit27, kit28, kit29, kit30, mlLen, shp_bl, shp_int, shp_non, eqv_bl, eqv_ii, and_assoc, exists_and_left, row_iff, Int.ofNat_inj, flat_row, len_row, nd_row, ty_row, isTup_row, ix_row, ix_row', eqv_row, eq_dn, eq_ii, add_ii, lt_ii, le_ii, gt_ii, ge_ii, sub_ii, mod_ii, len_li, len_tu, IAddR]
      refine ⟨⟨cs', at_ + 1, t4, t5, by simp, C', by omega, fun i hi => ?_⟩, ?_⟩
      · by_cases h : i = at_
        · subst h; exact hdone
        · exact hcl' i (by omega)
      · simp [intAt]
        have := hfew C'
        omega
    · rintro k rest e ⟨cs', t4, t5, j, rfl, C', hat', hcl', hd, hj, hdone⟩ N hN
      have hjL : j < L := by
        have : (List.drop j (List.range L)).length = rest.length + 1 := by rw [← hd]; rfl
        simp at this; omega
      rw [List.drop_eq_getElem_cons (by simpa using hjL)] at hd
      obtain ⟨e1, e2⟩ := List.cons.inj hd
      simp at e1
      subst e1
      have r1 := rowAt_of hat'
      have hx : rowAt cs' at_ ∈ cs' := List.mem_of_getElem? r1
      have hlenc' := hfew C'
      have hin := stepL_in W (C'.inS _ hx) hjL
      simp [wSeq, wIfS, wOr, wAnd, wNot, wTest, wIsi, wVar, startE, Op.get, Op.clean, noDct, ty1, ty2, ty3, ty4, ty5, ty6, wNext, wIsN, wNotN, wRet, wRetT, wRetN, wAndV, wOrV, wNotV, wIf, wBin, wBlt, wC, wCons, wNil, wTup, dats, gets, wAsg, wN, wN2, wN3, wPar, wAug, wCall, wCallP, wSetL, wF, fLst, fBlt, wApp, wPut, wNeg, wLc, wYes, elW, wipeE, wTupRg, fRng1, wRng1, wRng2, wIt, wItV, it1, it2, it3, it4, wChain, wSl, wNoPart, wPart, wDPut, wDDisp, wDNew, kit1, kit2, kit3, kit4, kit5, kit6, kit7, kit8, kit9, kit10, kit11, kit12, kit13, kit14, kit15, kit16, kit17, kit18, kit19, kit20, kit21, kit22, kit23, kit24, kit25, kit26, kit27, kit28, kit29, kit30, mlLen, shp_bl, shp_int, shp_non, eqv_bl, eqv_ii, and_assoc, exists_and_left, row_iff, Int.ofNat_inj, flat_row, len_row, nd_row, ty_row, isTup_row, ix_row, ix_row', eqv_row, eq_dn, eq_ii, add_ii, lt_ii, le_ii, gt_ii, ge_ii, sub_ii, mod_ii, len_li, len_tu, ix_L, r1]
      refine ⟨L, sizes, ss, rowAt cs' at_, k, rfl, W, C'.inS _ hx, hjL, ?_⟩
      refine ⟨by simp [encR], fun _ => ?_⟩
      simp [wSeq, wIfS, wOr, wAnd, wNot, wTest, wIsi, wVar, startE, Op.get, Op.clean, noDct, ty1, ty2, ty3, ty4, ty5, ty6, wNext, wIsN, wNotN, wRet, wRetT, wRetN, wAndV, wOrV, wNotV, wIf, wBin, wBlt, wC, wCons, wNil, wTup, dats, gets, wAsg, wN, wN2, wN3, wPar, wAug, wCall, wCallP, wSetL, wF, fLst, fBlt, wApp, wPut, wNeg, wLc, wYes, elW, wipeE, wTupRg, fRng1, wRng1, wRng2, wIt, wItV, it1, it2, it3, it4, wChain, wSl, wNoPart, wPart, wDPut, wDDisp, wDNew, kit1, kit2, kit3, kit4, kit5, kit6, kit7, kit8, kit9, kit10, kit11, kit12, kit13, kit14, kit15, kit16, kit17, kit18, kit19, kit20, kit21, kit22, kit23, kit24, kit25, kit26, kit27, kit28, kit29, kit30, mlLen, shp_bl, shp_int, shp_non, eqv_bl, eqv_ii, and_assoc, exists_and_left, row_iff, Int.ofNat_inj, flat_row, len_row, nd_row, ty_row, isTup_row, ix_row, ix_row', eqv_row, eq_dn, eq_ii, add_ii, lt_ii, le_ii, gt_ii, ge_ii, sub_ii, mod_ii, len_li, len_tu, in_rowsL (hlen hin).2 (show cs'.length ≤ 100000 by omega) (fun x hx => (hlen (C'.inS x hx)).2)]
      by_cases c : stepL ss (rowAt cs' at_) k ∈ cs'
      · refine .inl ⟨c, hN _ ⟨cs', _, _, k + 1, rfl, C', hat', hcl', e2, hjL, fun a ha => ?_⟩⟩
        by_cases h : a = k
        · subst h; exact c
        · exact hdone a (by omega)
      · refine .inr ⟨c, by rw [len_encL]; omega, hN _ ⟨cs' ++ [stepL ss (rowAt cs' at_) k], _, _, k + 1, by simp [encL]; exact ⟨rfl, rfl⟩, C'.add W hx hjL c, by simp; omega, fun i hi a ha => ?_, e2, hjL, fun a ha => ?_⟩⟩
        · rw [rowAt_left (by omega)]
          exact List.mem_append.mpr (.inl (hcl' i hi a ha))
        · rw [rowAt_left hat']
          by_cases h : a = k
          · subst h; simp
          · exact List.mem_append.mpr (.inl (hdone a (by omega)))
  · left
    refine ⟨by omega, ?_⟩
    refine sortD_rows cs (fun r hr => (hlen (C.inS r hr)).1) C.nd (by omega) (fun r hr => (hlen (C.inS r hr)).2) fun rs u1 u2 => ?_
    refine ⟨_, rfl, hk rs ⟨u1, fun x hx => u2.mem_iff.mpr (C.has x hx), fun c hc a ha => ?_, fun T t1 t2 c hc => C.least T t1 t2 c (u2.mem_iff.mp hc)⟩⟩
    obtain ⟨i, hi, e⟩ := List.mem_iff_getElem.mp (u2.mem_iff.mp hc)
    have : rowAt cs i = c := by
      have := rowAt_of hi
      rw [List.getElem?_eq_getElem hi, e] at this
      exact (Option.some.inj this).symm
    rw [← this]
    exact u2.mem_iff.mpr (hcl i (by omega) a ha)
/-! ### flat -/
theorem encR_ne (r : List Nat) : encR r ≠ .none := by simp [encR]
theorem tidx_rows {rs : List (List Nat)} {r : List Nat} (hl : rs.length ≤ 100000) (hs : ∀ x ∈ rs, x.length ≤ 100000) (hr : r ∈ rs) : shp (.tuple (encL rs)) = true ∧ shp (encR r) = true ∧ ∃ z, (encL rs)[rs.idxOf r]? = some z ∧ PyData.eqv z (encR r) = true ∧ ∀ (m : Nat) (z' : D), m < rs.idxOf r → (encL rs)[m]? = some z' → PyData.eqv z' (encR r) = false := by
  have s1 : Sm 2 (.tuple (encL rs)) := .tup (by simpa [encL] using hl) fun d hd => by
    obtain ⟨x, hx, rfl⟩ := List.mem_map.mp hd
    exact sm_row (hs x hx)
  have lt := List.idxOf_lt_length_iff.mpr hr
  have e : rs[rs.idxOf r]? = some r := by rw [List.getElem?_eq_getElem lt, List.getElem_idxOf]
  refine ⟨s1.shp, shp_row (hs r hr), encR r, by rw [encL, List.getElem?_map, e]; rfl, by rw [eqv_row]; simp, fun m z' hm h => ?_⟩
  have := idx_first rs m hm
  rw [encL, List.getElem?_map] at h
  cases q : rs[m]? with
  | none => rw [q] at h; cases h
  | some y =>
    rw [q] at h
    cases h
    rw [eqv_row]
    simp only [decide_eq_false_iff_not]
    rintro rfl
    exact this q
def g_flat : DSp := fun ds κ => ∃ (L : Nat) (sizes : List Nat) (ss : List Stage) (cs : List (List Nat)), ds = [encC L ss, .tuple (encL cs)] ∧ WfC L sizes ss ∧ cs.length ≤ 1000 ∧ (∀ c ∈ cs, InS sizes c ∧ ∀ a, a < L → stepL ss c a ∈ cs) ∧ κ (encM cs.length (flatL L ss cs))
theorem mono_flat : Mono g_flat := fun ds p q h ⟨L, z, ss, x, e, a, b, c, k⟩ => ⟨L, z, ss, x, e, a, b, c, h _ k⟩
def t_flat : DTS := wSeq (wAsg (wBlt RngR (wCons (wBin IxD (wVar 0) (wC (.int 0))) (wNil))) (wN 2)) (wRet (wTup (wCons (wBlt LenR (wCons (wVar 1) (wNil))) (wCons (wBlt TupR (wCons (wLc (wRngV (wVar 2)) (wN 3) (wYes) (wBlt TupR (wCons (wLc (wIt (wVar 1) isTup) (wN 4) (wYes) (wTIndex (wVar 1) (wCall 3 g_step (wCons (wVar 0) (wCons (wVar 4) (wCons (wVar 3) (wNil)))))) [4]) (wNil))) [3]) (wNil))) (wNil)))))
theorem pure_flat (ds : List D) (κ : D → Prop) (hl : ds.length = 2) (h : g_flat ds κ) : t_flat { nx := fun _ => κ .none, rt := fun d _ => κ d } (startE 5 ds) := by
  obtain ⟨L, sizes, ss, cs, rfl, W, hl, hc, hk⟩ := h
  have hL := W.lets
  have hs3 := W.few
  simp [t_flat, wSeq, wIfS, wOr, wAnd, wNot, wTest, wIsi, wVar, startE, Op.get, Op.clean, noDct, ty1, ty2, ty3, ty4, ty5, ty6, wNext, wIsN, wNotN, wRet, wRetT, wRetN, wAndV, wOrV, wNotV, wIf, wBin, wBlt, wC, wCons, wNil, wTup, dats, gets, wAsg, wN, wN2, wN3, wPar, wAug, wCall, wCallP, wSetL, wF, fLst, fBlt, wApp, wPut, wNeg, wLc, wYes, elW, wipeE, wTupRg, fRng1, wRng1, wRng2, wIt, wItV, it1, it2, it3, it4, wChain, wSl, wNoPart, wPart, wDPut, wDDisp, wDNew, kit1, kit2, kit3, kit4, kit5, kit6, kit7, kit8, kit9, kit10, kit11, kit12, kit13, kit14, kit15, kit16, kit17, kit18, kit19, kit20, kit21, kit22, kit23, kit24, kit25, kit26, kit27, kit28, kit29, kit30, mlLen, shp_bl, shp_int, shp_non, eqv_bl, eqv_ii, and_assoc, exists_and_left, row_iff, Int.ofNat_inj, flat_row, len_row, nd_row, ty_row, isTup_row, ix_row, ix_row', eqv_row, eq_dn, eq_ii, add_ii, lt_ii, le_ii, gt_ii, ge_ii, sub_ii, mod_ii, len_li, len_tu, ix_c0, RngR, wRngV, len_encL]
  refine ⟨_, ⟨_, rfl, rfl⟩, 0, (L : Int), rfl, by omega, by omega, by omega, by omega, by rw [rangeD_len]; omega, ?_⟩
  rw [show ((L : Int) - 0).toNat = L by omega, rangeD_row]
  refine lcW_map dn (fun a => encR (cs.map fun h => cs.idxOf (stepL ss h a))) _ [] (fun a ha k w => ?_) ?_
  · have ha' := List.mem_range.mp ha
    simp [wSeq, wIfS, wOr, wAnd, wNot, wTest, wIsi, wVar, startE, Op.get, Op.clean, noDct, ty1, ty2, ty3, ty4, ty5, ty6, wNext, wIsN, wNotN, wRet, wRetT, wRetN, wAndV, wOrV, wNotV, wIf, wBin, wBlt, wC, wCons, wNil, wTup, dats, gets, wAsg, wN, wN2, wN3, wPar, wAug, wCall, wCallP, wSetL, wF, fLst, fBlt, wApp, wPut, wNeg, wLc, wYes, elW, wipeE, wTupRg, fRng1, wRng1, wRng2, wIt, wItV, it1, it2, it3, it4, wChain, wSl, wNoPart, wPart, wDPut, wDDisp, wDNew, kit1, kit2, kit3, kit4, kit5, kit6, kit7, kit8, kit9, kit10, kit11, kit12, kit13, kit14, kit15, kit16, kit17, kit18, kit19, kit20, kit21, kit22, kit23, kit24, kit25, kit26, kit27, kit28, kit29, kit30, mlLen, shp_bl, shp_int, shp_non, eqv_bl, eqv_ii, and_assoc, exists_and_left, row_iff, Int.ofNat_inj, flat_row, len_row, nd_row, ty_row, isTup_row, ix_row, ix_row', eqv_row, eq_dn, eq_ii, add_ii, lt_ii, le_ii, gt_ii, ge_ii, sub_ii, mod_ii, len_li, len_tu, len_encL]
    refine ⟨by omega, lcW_map encR (fun h => dn (cs.idxOf (stepL ss h a))) cs [] (fun h hh k2 w2 => ?_) ?_⟩
    · have q := hc h hh
      have hsh : ∀ x ∈ cs, x.length ≤ 100000 := fun x hx => by have := (hc x hx).1.1; omega
      obtain ⟨t1, t2, z, t3, t4, t5⟩ := tidx_rows (by omega) hsh (q.2 a ha')
      simp [wSeq, wIfS, wOr, wAnd, wNot, wTest, wIsi, wVar, startE, Op.get, Op.clean, noDct, ty1, ty2, ty3, ty4, ty5, ty6, wNext, wIsN, wNotN, wRet, wRetT, wRetN, wAndV, wOrV, wNotV, wIf, wBin, wBlt, wC, wCons, wNil, wTup, dats, gets, wAsg, wN, wN2, wN3, wPar, wAug, wCall, wCallP, wSetL, wF, fLst, fBlt, wApp, wPut, wNeg, wLc, wYes, elW, wipeE, wTupRg, fRng1, wRng1, wRng2, wIt, wItV, it1, it2, it3, it4, wChain, wSl, wNoPart, wPart, wDPut, wDDisp, wDNew, kit1, kit2, kit3, kit4, kit5, kit6, kit7, kit8, kit9, kit10, kit11, kit12, kit13, kit14, kit15, kit16, kit17, kit18, kit19, kit20, kit21, kit22, kit23, kit24, kit25, kit26, kit27, kit28, kit29, kit30, mlLen, shp_bl, shp_int, shp_non, eqv_bl, eqv_ii, and_assoc, exists_and_left, row_iff, Int.ofNat_inj, flat_row, len_row, nd_row, ty_row, isTup_row, ix_row, ix_row', eqv_row, eq_dn, eq_ii, add_ii, lt_ii, le_ii, gt_ii, ge_ii, sub_ii, mod_ii, len_li, len_tu, wTIndex]
      exact ⟨L, sizes, ss, h, a, rfl, W, q.1, ha', t1, t2, _, z, t3, t4, t5, w2⟩
    · exact ⟨encR (cs.map fun h => cs.idxOf (stepL ss h a)), by simp [TupR, encR, Function.comp_def], w⟩
  · refine ⟨.tuple (encL (flatL L ss cs)), by simp [TupR, encL, flatL, Function.comp_def], ?_⟩
    exact hk
/-! ### leads_along -/
theorem lcA_map {α : Type} {f : D → List D → (List D → Prop) → Prop} {κ : List D → Prop} (enc : α → D) (g : α → List D) : ∀ (xs : List α) (acc : List D), (∀ x ∈ xs, ∀ (acc : List D) (k : List D → Prop), k (acc ++ g x) → f (enc x) acc k) → κ (acc ++ xs.flatMap g) → lcA f κ (xs.map enc) acc
  | [], acc, _, h => by simpa [lcA] using h
  | x :: xs, acc, hf, h => by
    rw [List.map_cons]
    unfold lcA
    refine hf x List.mem_cons_self acc _ ?_
    exact lcA_map enc g xs (acc ++ g x) (fun e he => hf e (List.mem_cons_of_mem _ he)) (by simpa [List.flatMap_cons, List.append_assoc] using h)
def g_leads_along : DSp := fun ds κ => ∃ (n : Nat) (ls : List (List Nat)) (m : Nat) (ms : List (List Nat)) (row : List Nat), ds = [encM n ls, encM m ms, encR row] ∧ MOk n ls ∧ MOk m ms ∧ ls.length = ms.length ∧ row.length = n ∧ (∀ x ∈ row, x < m) ∧ (∀ a, a < ls.length → ∀ q, q < n → rg row (rg (rowAt ls a) q) = rg (rowAt ms a) (rg row q)) ∧ κ (.bool true)
theorem mono_leads_along : Mono g_leads_along := fun ds p q h ⟨n, ls, m, ms, row, e, a, b, c, d, f, g, k⟩ => ⟨n, ls, m, ms, row, e, a, b, c, d, f, g, h _ k⟩
def t_leads_along : DTS := wSeq (wAsg (wBlt LenR (wCons (wBin IxD (wVar 0) (wC (.int 1))) (wNil))) (wN 3)) (wRet (wBlt AllR (wCons (wLc2 (wRng1 (wVar 3)) (wN 4) (wYes) (wRng1 (wBin IxD (wVar 0) (wC (.int 0)))) (wN 5) (wYes) (wBin EqR (wBin IxD (wVar 2) (wBin IxD (wBin IxD (wBin IxD (wVar 0) (wC (.int 1))) (wVar 4)) (wVar 5))) (wBin IxD (wBin IxD (wBin IxD (wVar 1) (wC (.int 1))) (wVar 4)) (wBin IxD (wVar 2) (wVar 5)))) [4, 5] [5]) (wNil))))
theorem pure_leads_along (ds : List D) (κ : D → Prop) (hl : ds.length = 3) (h : g_leads_along ds κ) : t_leads_along { nx := fun _ => κ .none, rt := fun d _ => κ d } (startE 6 ds) := by
  obtain ⟨n, ls, m, ms, row, rfl, M1, M2, e1, e2, e3, e4, hk⟩ := h
  have h1 := M1.few
  have h2 := M1.lets
  simp [t_leads_along, wSeq, wIfS, wOr, wAnd, wNot, wTest, wIsi, wVar, startE, Op.get, Op.clean, noDct, ty1, ty2, ty3, ty4, ty5, ty6, wNext, wIsN, wNotN, wRet, wRetT, wRetN, wAndV, wOrV, wNotV, wIf, wBin, wBlt, wC, wCons, wNil, wTup, dats, gets, wAsg, wN, wN2, wN3, wPar, wAug, wCall, wCallP, wSetL, wF, fLst, fBlt, wApp, wPut, wNeg, wLc, wYes, elW, wipeE, wTupRg, fRng1, wRng1, wRng2, wIt, wItV, it1, it2, it3, it4, wChain, wSl, wNoPart, wPart, wDPut, wDDisp, wDNew, kit1, kit2, kit3, kit4, kit5, kit6, kit7, kit8, kit9, kit10, kit11, kit12, kit13, kit14, kit15, kit16, kit17, kit18, kit19, kit20, kit21, kit22, kit23, kit24, kit25, kit26, kit27, kit28, kit29, kit30, mlLen, shp_bl, shp_int, shp_non, eqv_bl, eqv_ii, and_assoc, exists_and_left, row_iff, Int.ofNat_inj, flat_row, len_row, nd_row, ty_row, isTup_row, ix_row, ix_row', eqv_row, eq_dn, eq_ii, add_ii, lt_ii, le_ii, gt_ii, ge_ii, sub_ii, mod_ii, len_li, len_tu, ix_m1, len_encL, wLc2]
  refine ⟨by omega, by rw [rangeD_len]; omega, ?_⟩
  rw [rangeD_row]
  refine lcA_map dn (fun _ => (List.range n).map fun _ => .bool true) _ [] (fun a ha acc k w => ?_) ?_
  · have ha' := List.mem_range.mp ha
    simp [wSeq, wIfS, wOr, wAnd, wNot, wTest, wIsi, wVar, startE, Op.get, Op.clean, noDct, ty1, ty2, ty3, ty4, ty5, ty6, wNext, wIsN, wNotN, wRet, wRetT, wRetN, wAndV, wOrV, wNotV, wIf, wBin, wBlt, wC, wCons, wNil, wTup, dats, gets, wAsg, wN, wN2, wN3, wPar, wAug, wCall, wCallP, wSetL, wF, fLst, fBlt, wApp, wPut, wNeg, wLc, wYes, elW, wipeE, wTupRg, fRng1, wRng1, wRng2, wIt, wItV, it1, it2, it3, it4, wChain, wSl, wNoPart, wPart, wDPut, wDDisp, wDNew, kit1, kit2, kit3, kit4, kit5, kit6, kit7, kit8, kit9, kit10, kit11, kit12, kit13, kit14, kit15, kit16, kit17, kit18, kit19, kit20, kit21, kit22, kit23, kit24, kit25, kit26, kit27, kit28, kit29, kit30, mlLen, shp_bl, shp_int, shp_non, eqv_bl, eqv_ii, and_assoc, exists_and_left, row_iff, Int.ofNat_inj, flat_row, len_row, nd_row, ty_row, isTup_row, ix_row, ix_row', eqv_row, eq_dn, eq_ii, add_ii, lt_ii, le_ii, gt_ii, ge_ii, sub_ii, mod_ii, len_li, len_tu, el2, ix_m0, wFor]
    refine ⟨(n : Int), rfl, by omega, by omega, by rw [rangeD_len]; omega, ?_⟩
    rw [Int.toNat_natCast, rangeD_row]
    refine lcW_map dn (fun _ => .bool true) _ acc (fun q hq k2 w2 => ?_) w
    have hq' := List.mem_range.mp hq
    have r1 := rowAt_of ha'
    have r2 := rowAt_of (show a < ms.length by omega)
    have x1 := M1.rows _ (List.mem_of_getElem? r1)
    have x2 := M2.rows _ (List.mem_of_getElem? r2)
    have g1 := getD_of (show q < (rowAt ls a).length by rw [x1.1]; exact hq')
    have lt1 := x1.2 _ (List.mem_of_getElem? g1)
    have g2 := getD_of (show rg (rowAt ls a) q < row.length by rw [e2]; exact lt1)
    have g3 := getD_of (show q < row.length by rw [e2]; exact hq')
    have lt3 := e3 _ (List.mem_of_getElem? g3)
    have g4 := getD_of (show rg row q < (rowAt ms a).length by rw [x2.1]; exact lt3)
    simp [wSeq, wIfS, wOr, wAnd, wNot, wTest, wIsi, wVar, startE, Op.get, Op.clean, noDct, ty1, ty2, ty3, ty4, ty5, ty6, wNext, wIsN, wNotN, wRet, wRetT, wRetN, wAndV, wOrV, wNotV, wIf, wBin, wBlt, wC, wCons, wNil, wTup, dats, gets, wAsg, wN, wN2, wN3, wPar, wAug, wCall, wCallP, wSetL, wF, fLst, fBlt, wApp, wPut, wNeg, wLc, wYes, elW, wipeE, wTupRg, fRng1, wRng1, wRng2, wIt, wItV, it1, it2, it3, it4, wChain, wSl, wNoPart, wPart, wDPut, wDDisp, wDNew, kit1, kit2, kit3, kit4, kit5, kit6, kit7, kit8, kit9, kit10, kit11, kit12, kit13, kit14, kit15, kit16, kit17, kit18, kit19, kit20, kit21, kit22, kit23, kit24, kit25, kit26, kit27, kit28, kit29, kit30, mlLen, shp_bl, shp_int, shp_non, eqv_bl, eqv_ii, and_assoc, exists_and_left, row_iff, Int.ofNat_inj, flat_row, len_row, nd_row, ty_row, isTup_row, ix_row, ix_row', eqv_row, eq_dn, eq_ii, add_ii, lt_ii, le_ii, gt_ii, ge_ii, sub_ii, mod_ii, len_li, len_tu, ix_m1, ix_tupN, encL, r1, r2, g1, g2, g3, g4]
    rw [e4 a ha' q hq']
    simpa using w2
  · refine ⟨.bool true, ⟨(List.range ls.length).flatMap fun _ => (List.range n).map fun _ => true, ?_, ?_⟩, hk⟩
    · simp [List.map_flatMap, Function.comp_def]
    · have : ((List.range ls.length).flatMap fun _ => (List.range n).map fun _ => true).all id = true := by
        rw [List.all_eq_true]
        intro b hb
        obtain ⟨_, _, h2⟩ := List.mem_flatMap.mp hb
        obtain ⟨_, _, rfl⟩ := List.mem_map.mp h2
        rfl
      rw [this]
/-! ### picks -/
def g__law_pick : DSp := fun ds κ => ∃ xs : List D, ds = [.list xs] ∧ 1 ≤ xs.length ∧ xs.length ≤ 1000 ∧ ∀ d ∈ xs, κ d
theorem mono__law_pick : Mono g__law_pick := fun ds p q h ⟨xs, e, a, b, k⟩ => ⟨xs, e, a, b, fun d hd => h _ (k d hd)⟩
def t__law_pick : DTS := wRet (wBin IxD (wVar 1) (wCallP 0 1 g__law_draw (wCons (wBlt LenR (wCons (wVar 1) (wNil))) (wNil))))
theorem pure__law_pick (ds : List D) (κ : D → Prop) (hl : ds.length = 1) (h : g__law_pick ds κ) : t__law_pick { nx := fun _ => κ .none, rt := fun d _ => κ d } (.pl :: startE 1 ds) := by
  obtain ⟨xs, rfl, h1, h2, hk⟩ := h
  simp [t__law_pick, wSeq, wIfS, wOr, wAnd, wNot, wTest, wIsi, wVar, startE, Op.get, Op.clean, noDct, ty1, ty2, ty3, ty4, ty5, ty6, wNext, wIsN, wNotN, wRet, wRetT, wRetN, wAndV, wOrV, wNotV, wIf, wBin, wBlt, wC, wCons, wNil, wTup, dats, gets, wAsg, wN, wN2, wN3, wPar, wAug, wCall, wCallP, wSetL, wF, fLst, fBlt, wApp, wPut, wNeg, wLc, wYes, elW, wipeE, wTupRg, fRng1, wRng1, wRng2, wIt, wItV, it1, it2, it3, it4, wChain, wSl, wNoPart, wPart, wDPut, wDDisp, wDNew, kit1, kit2, kit3, kit4, kit5, kit6, kit7, kit8, kit9, kit10, kit11, kit12, kit13, kit14, kit15, kit16, kit17, kit18, kit19, kit20, kit21, kit22, kit23, kit24, kit25, kit26, kit27, kit28, kit29, kit30, mlLen, shp_bl, shp_int, shp_non, eqv_bl, eqv_ii, and_assoc, exists_and_left, row_iff, Int.ofNat_inj, flat_row, len_row, nd_row, ty_row, isTup_row, ix_row, ix_row', eqv_row, eq_dn, eq_ii, add_ii, lt_ii, le_ii, gt_ii, ge_ii, sub_ii, mod_ii, len_li, len_tu, g__law_draw]
  refine ⟨by omega, by omega, fun r hr => ?_⟩
  have e : xs[r]? = some xs[r] := List.getElem?_eq_getElem hr
  exact ⟨_, ix_listN.mpr e, hk _ (List.mem_of_getElem? e)⟩
/-! ### a cascade drawn -/
theorem mulT {n x : Nat} (h1 : 1 ≤ n) (hn : n ≤ 1000) {z : D} : MulR (.tuple [dn x]) (.int (n : Nat)) z = (z = encR (List.replicate n x)) := by
  have e : (List.replicate (n : Int).toNat [dn x]).flatten = (List.replicate n x).map dn := by
    rw [Int.toNat_natCast, List.map_replicate]
    generalize n = k
    induction k with
    | zero => rfl
    | succ k ih => rw [List.replicate_succ, List.flatten_cons, ih, List.replicate_succ]; rfl
  simp only [MulR, e, encR]
  exact propext ⟨fun h => h.2.2.2.2, fun h => ⟨by simp, by omega, by omega, by simp, h⟩⟩
theorem add_row {r : List Nat} {x : Nat} {z : D} : AddR (encR r) (.tuple [dn x]) z = (r.length + 1 ≤ 1000000 ∧ z = encR (r ++ [x])) := by
  unfold encR
  simp [AddR]
theorem add_lists {xs ys : List D} {z : D} : AddR (.list xs) (.list ys) z = (xs.length + ys.length ≤ 1000000 ∧ z = .list (xs ++ ys)) := by simp [AddR]
def g__law_drawn_cascade : DSp := fun ds κ => ∃ (L : Nat) (sizes : List Nat), ds = [dn L, .list (sizes.map dn), .bool false] ∧ L ≤ 3 ∧ sizes.length ≤ 3 ∧ (∀ s ∈ sizes, 1 ≤ s ∧ s ≤ 4) ∧ ∀ ss, WfC L sizes ss → κ (.tuple [encC L ss, .list (encL (allS sizes))])
theorem mono__law_drawn_cascade : Mono g__law_drawn_cascade := fun ds p q h ⟨L, z, e, a, b, c, k⟩ => ⟨L, z, e, a, b, c, fun ss h1 => h _ (k ss h1)⟩
def t__law_drawn_cascade : DTS := wSeq (wParLD 4 5 (fLst (wNil)) (wF (fLst (wCons (wTup (wNil)) (wNil))))) (wSeq (wFor (wIt (wVar 2) isLst) (wN 6) (wSeq (wSetL 7 (fLst (wNil))) (wSeq (wFor (wIt (wVar 5) isLst) (wN 8) (wFor (wRng1 (wVar 1)) (wN 9) (wSeq (wAsg (wCallP 0 1 g__law_draw (wCons (wC (.int 3)) (wNil))) (wN 10)) (wSeq (wAsg (wIf (wTest (wBin EqR (wVar 10) (wC (.int 0)))) (wBin MulR (wTup (wCons (wCallP 0 1 g__law_draw (wCons (wVar 6) (wNil))) (wNil))) (wVar 6)) (wTupRg (wVar 6))) (wN 11)) (wSeq (wIfS (wAnd (wTest (wBin EqR (wVar 10) (wC (.int 1)))) (wNot (wTest (wVar 3)))) (wAsg (wBlt TupR (wCons (wCallP 0 1 g__law_shuffled (wCons (wF (fRng1 (wVar 6))) (wNil))) (wNil))) (wN 11)) (wNext)) (wApp 7 (wTup (wCons (wVar 8) (wCons (wVar 9) (wCons (wVar 11) (wNil))))))))))) (wSeq (wApp 4 (wTup (wCons (wVar 6) (wCons (wBlt TupR (wCons (wVar 7) (wNil))) (wNil))))) (wSeq (wAsg (wF (fLst (wNil))) (wN 12)) (wSeq (wFor (wIt (wVar 5) isLst) (wN 8) (wAsg (wBin AddR (wVar 12) (wLc (wRng1 (wVar 6)) (wN 13) (wYes) (wBin AddR (wVar 8) (wTup (wCons (wVar 13) (wNil)))) [13])) (wN 12))) (wAsg (wVar 12) (wN 5)))))))) (wRet (wTup (wCons (wTup (wCons (wVar 1) (wCons (wBlt TupR (wCons (wVar 4) (wNil))) (wNil)))) (wCons (wVar 5) (wNil))))))
/-- slots 0..5 -/
def DcE (L : Nat) (sizes : List Nat) (ad : Addr) (ss : List Stage) (done : List Nat) (r : List Sl) : DEnv := .pl :: .im (dn L) :: .im (.list (sizes.map dn)) :: .im (.bool false) :: .ml ad (ss.map encS) :: .im (.list (encL (allS done))) :: r
def DcJ (L : Nat) (sizes : List Nat) (ad : Addr) (rest : List Nat) (e : DEnv) : Prop := ∃ ss done s6 s7 s8 s9 s10 s11 s12 s13, e = DcE L sizes ad ss done [s6, s7, s8, s9, s10, s11, s12, s13] ∧ done ++ rest = sizes ∧ WfC L done ss
def RuOk (m : Nat) (rules : List Rule) : Prop := ∀ r ∈ rules, r.1.length ≤ 3 ∧ r.2.2.length = m ∧ ∀ x ∈ r.2.2, x < m
def RuHas (L : Nat) (rules : List Rule) (h : List Nat) (k : Nat) : Prop := ∀ a, a < k → ∃ r ∈ rules, r.1 = h ∧ r.2.1 = a
def DcJ2 (L : Nat) (sizes : List Nat) (ad : Addr) (ss : List Stage) (done : List Nat) (m : Nat) (b : Addr) (rest : List (List Nat)) (e : DEnv) : Prop := ∃ rules hs s8 s9 s10 s11 s12 s13, e = DcE L sizes ad ss done [.im (dn m), .ml b (rules.map encRule), s8, s9, s10, s11, s12, s13] ∧ hs ++ rest = allS done ∧ RuOk m rules ∧ rules.length = hs.length * L ∧ ∀ h ∈ hs, RuHas L rules h L
def DcJ3 (L : Nat) (sizes : List Nat) (ad : Addr) (ss : List Stage) (done : List Nat) (m : Nat) (b : Addr) (hs : List (List Nat)) (here : List Nat) (rest : List Nat) (e : DEnv) : Prop := ∃ rules j s9 s10 s11 s12 s13, e = DcE L sizes ad ss done [.im (dn m), .ml b (rules.map encRule), .im (encR here), s9, s10, s11, s12, s13] ∧ rest = (List.range L).drop j ∧ j ≤ L ∧ RuOk m rules ∧ rules.length = hs.length * L + j ∧ (∀ h ∈ hs, RuHas L rules h L) ∧ RuHas L rules here j
def DcJ4 (L : Nat) (sizes : List Nat) (ad : Addr) (ss : List Stage) (done : List Nat) (m : Nat) (s7 : Sl) (rest : List (List Nat)) (e : DEnv) : Prop := ∃ hs s8 s9 s10 s11 s13, e = DcE L sizes ad ss done [.im (dn m), s7, s8, s9, s10, s11, .im (.list (encL (growS hs m))), s13] ∧ hs ++ rest = allS done
theorem pure__law_drawn_cascade (ds : List D) (κ : D → Prop) (hl : ds.length = 3) (h : g__law_drawn_cascade ds κ) : t__law_drawn_cascade { nx := fun _ => κ .none, rt := fun d _ => κ d } (.pl :: startE 13 ds) := by
  obtain ⟨L, sizes, rfl, hL, hs3, hs, hk⟩ := h
  simp [t__law_drawn_cascade, wSeq, wIfS, wOr, wAnd, wNot, wTest, wIsi, wVar, startE, Op.get, Op.clean, noDct, ty1, ty2, ty3, ty4, ty5, ty6, wNext, wIsN, wNotN, wRet, wRetT, wRetN, wAndV, wOrV, wNotV, wIf, wBin, wBlt, wC, wCons, wNil, wTup, dats, gets, wAsg, wN, wN2, wN3, wPar, wAug, wCall, wCallP, wSetL, wF, fLst, fBlt, wApp, wPut, wNeg, wLc, wYes, elW, wipeE, wTupRg, fRng1, wRng1, wRng2, wIt, wItV, it1, it2, it3, it4, wChain, wSl, wNoPart, wPart, wDPut, wDDisp, wDNew, kit1, kit2, kit3, kit4, kit5, kit6, kit7, kit8, kit9, kit10, kit11, kit12, kit13, kit14, kit15, kit16, kit17, kit18, kit19, kit20, kit21, kit22, kit23, kit24, kit25, kit26, kit27, kit28, kit29, kit30, mlLen, shp_bl, shp_int, shp_non, eqv_bl, eqv_ii, and_assoc, exists_and_left, row_iff, Int.ofNat_inj, flat_row, len_row, nd_row, ty_row, isTup_row, ix_row, ix_row', eqv_row, eq_dn, eq_ii, add_ii, lt_ii, le_ii, gt_ii, ge_ii, sub_ii, mod_ii, len_li, len_tu, wFor, wParLD]
  intro ad
  have W0 : WfC L [] [] := ⟨rfl, by simp, hL, by simp, by simp, fun k hk => by simp at hk⟩
  refine forW_map dn (DcJ L sizes ad) ?_ ?_ sizes _ ⟨[], [], _, _, _, _, _, _, _, _, rfl, rfl, W0⟩
  · rintro e ⟨ss, done, s6, s7, s8, s9, s10, s11, s12, s13, rfl, hd, W⟩
    rw [List.append_nil] at hd
    subst hd
    simp [wSeq, wIfS, wOr, wAnd, wNot, wTest, wIsi, wVar, startE, Op.get, Op.clean, noDct, ty1, ty2, ty3, ty4, ty5, ty6, wNext, wIsN, wNotN, wRet, wRetT, wRetN, wAndV, wOrV, wNotV, wIf, wBin, wBlt, wC, wCons, wNil, wTup, dats, gets, wAsg, wN, wN2, wN3, wPar, wAug, wCall, wCallP, wSetL, wF, fLst, fBlt, wApp, wPut, wNeg, wLc, wYes, elW, wipeE, wTupRg, fRng1, wRng1, wRng2, wIt, wItV, it1, it2, it3, it4, wChain, wSl, wNoPart, wPart, wDPut, wDDisp, wDNew, kit1, kit2, kit3, kit4, kit5, kit6, kit7, kit8, kit9, kit10, kit11, kit12, kit13, kit14, kit15, kit16, kit17, kit18, kit19, kit20, kit21, kit22, kit23, kit24, kit25, kit26, kit27, kit28, kit29, kit30, mlLen, shp_bl, shp_int, shp_non, eqv_bl, eqv_ii, and_assoc, exists_and_left, row_iff, Int.ofNat_inj, flat_row, len_row, nd_row, ty_row, isTup_row, ix_row, ix_row', eqv_row, eq_dn, eq_ii, add_ii, lt_ii, le_ii, gt_ii, ge_ii, sub_ii, mod_ii, len_li, len_tu, DcE]
    exact ⟨_, rfl, hk ss W⟩
  · rintro m rest e ⟨ss, done, s6, s7, s8, s9, s10, s11, s12, s13, rfl, hd, W⟩ N hN
    have hm := hs m (by rw [← hd]; simp)
    have hdl : done.length < 3 := by
      have : (done ++ m :: rest).length ≤ 3 := by rw [hd]; exact hs3
      simp at this; omega
    have hal : (allS done).length ≤ 16 := by
      have h2 := len_allS 4 done fun s h => (hs s (by rw [← hd]; exact List.mem_append.mpr (.inl h))).2
      have h3 : 4 ^ done.length ≤ 4 ^ 2 := Nat.pow_le_pow_right (by decide) (by omega)
      omega
    simp [wSeq, wIfS, wOr, wAnd, wNot, wTest, wIsi, wVar, startE, Op.get, Op.clean, noDct, ty1, ty2, ty3, ty4, ty5, ty6, wNext, wIsN, wNotN, wRet, wRetT, wRetN, wAndV, wOrV, wNotV, wIf, wBin, wBlt, wC, wCons, wNil, wTup, dats, gets, wAsg, wN, wN2, wN3, wPar, wAug, wCall, wCallP, wSetL, wF, fLst, fBlt, wApp, wPut, wNeg, wLc, wYes, elW, wipeE, wTupRg, fRng1, wRng1, wRng2, wIt, wItV, it1, it2, it3, it4, wChain, wSl, wNoPart, wPart, wDPut, wDDisp, wDNew, kit1, kit2, kit3, kit4, kit5, kit6, kit7, kit8, kit9, kit10, kit11, kit12, kit13, kit14, kit15, kit16, kit17, kit18, kit19, kit20, kit21, kit22, kit23, kit24, kit25, kit26, kit27, kit28, kit29, kit30, mlLen, shp_bl, shp_int, shp_non, eqv_bl, eqv_ii, and_assoc, exists_and_left, row_iff, Int.ofNat_inj, flat_row, len_row, nd_row, ty_row, isTup_row, ix_row, ix_row', eqv_row, eq_dn, eq_ii, add_ii, lt_ii, le_ii, gt_ii, ge_ii, sub_ii, mod_ii, len_li, len_tu, DcE]
    intro b
    simp [wSeq, wIfS, wOr, wAnd, wNot, wTest, wIsi, wVar, startE, Op.get, Op.clean, noDct, ty1, ty2, ty3, ty4, ty5, ty6, wNext, wIsN, wNotN, wRet, wRetT, wRetN, wAndV, wOrV, wNotV, wIf, wBin, wBlt, wC, wCons, wNil, wTup, dats, gets, wAsg, wN, wN2, wN3, wPar, wAug, wCall, wCallP, wSetL, wF, fLst, fBlt, wApp, wPut, wNeg, wLc, wYes, elW, wipeE, wTupRg, fRng1, wRng1, wRng2, wIt, wItV, it1, it2, it3, it4, wChain, wSl, wNoPart, wPart, wDPut, wDDisp, wDNew, kit1, kit2, kit3, kit4, kit5, kit6, kit7, kit8, kit9, kit10, kit11, kit12, kit13, kit14, kit15, kit16, kit17, kit18, kit19, kit20, kit21, kit22, kit23, kit24, kit25, kit26, kit27, kit28, kit29, kit30, mlLen, shp_bl, shp_int, shp_non, eqv_bl, eqv_ii, and_assoc, exists_and_left, row_iff, Int.ofNat_inj, flat_row, len_row, nd_row, ty_row, isTup_row, ix_row, ix_row', eqv_row, eq_dn, eq_ii, add_ii, lt_ii, le_ii, gt_ii, ge_ii, sub_ii, mod_ii, len_li, len_tu, wFor]
    refine forW_map encR (DcJ2 L sizes ad ss done m b) ?_ ?_ (allS done) _ ⟨[], [], _, _, _, _, _, _, rfl, rfl, fun r hr => by simp at hr, by simp, fun h hh => by simp at hh⟩
    · rintro e ⟨rules, hs, s8, s9, s10, s11, s12, s13, rfl, hd2, R1, hrl, R2⟩
      rw [List.append_nil] at hd2
      subst hd2
      have hRu : RulesOk L done m rules := ⟨fun h a h1 h2 => R2 h ((mem_allS done h).mpr h1) a h2, R1⟩
      have hsl : ss.length < 1000000 := by have := W.len; omega
      simp [wSeq, wIfS, wOr, wAnd, wNot, wTest, wIsi, wVar, startE, Op.get, Op.clean, noDct, ty1, ty2, ty3, ty4, ty5, ty6, wNext, wIsN, wNotN, wRet, wRetT, wRetN, wAndV, wOrV, wNotV, wIf, wBin, wBlt, wC, wCons, wNil, wTup, dats, gets, wAsg, wN, wN2, wN3, wPar, wAug, wCall, wCallP, wSetL, wF, fLst, fBlt, wApp, wPut, wNeg, wLc, wYes, elW, wipeE, wTupRg, fRng1, wRng1, wRng2, wIt, wItV, it1, it2, it3, it4, wChain, wSl, wNoPart, wPart, wDPut, wDDisp, wDNew, kit1, kit2, kit3, kit4, kit5, kit6, kit7, kit8, kit9, kit10, kit11, kit12, kit13, kit14, kit15, kit16, kit17, kit18, kit19, kit20, kit21, kit22, kit23, kit24, kit25, kit26, kit27, kit28, kit29, kit30, mlLen, shp_bl, shp_int, shp_non, eqv_bl, eqv_ii, and_assoc, exists_and_left, row_iff, Int.ofNat_inj, flat_row, len_row, nd_row, ty_row, isTup_row, ix_row, ix_row', eqv_row, eq_dn, eq_ii, add_ii, lt_ii, le_ii, gt_ii, ge_ii, sub_ii, mod_ii, len_li, len_tu, DcE]
      refine ⟨.tuple (rules.map encRule), rfl, hsl, ?_⟩
      have ess : List.map encS ss ++ [.tuple [dn m, .tuple (rules.map encRule)]] = (ss ++ [(m, rules)]).map encS := by rw [List.map_append]; rfl
      simp [wFor, wSeq, wIfS, wOr, wAnd, wNot, wTest, wIsi, wVar, startE, Op.get, Op.clean, noDct, ty1, ty2, ty3, ty4, ty5, ty6, wNext, wIsN, wNotN, wRet, wRetT, wRetN, wAndV, wOrV, wNotV, wIf, wBin, wBlt, wC, wCons, wNil, wTup, dats, gets, wAsg, wN, wN2, wN3, wPar, wAug, wCall, wCallP, wSetL, wF, fLst, fBlt, wApp, wPut, wNeg, wLc, wYes, elW, wipeE, wTupRg, fRng1, wRng1, wRng2, wIt, wItV, it1, it2, it3, it4, wChain, wSl, wNoPart, wPart, wDPut, wDDisp, wDNew, kit1, kit2, kit3, kit4, kit5, kit6, kit7, kit8, kit9, kit10, kit11, kit12, kit13, kit14, kit15, kit16, kit17, kit18, kit19, kit20, kit21, kit22, kit23, kit24, kit25, kit26, kit27, kit28, kit29, kit30, mlLen, shp_bl, shp_int, shp_non, eqv_bl, eqv_ii, and_assoc, exists_and_left, row_iff, Int.ofNat_inj, flat_row, len_row, nd_row, ty_row, isTup_row, ix_row, ix_row', eqv_row, eq_dn, eq_ii, add_ii, lt_ii, le_ii, gt_ii, ge_ii, sub_ii, mod_ii, len_li, len_tu]
      rw [ess]
      refine forW_map encR (DcJ4 L sizes ad (ss ++ [(m, rules)]) done m _) ?_ ?_ (allS done) _ ⟨[], _, _, _, _, _, rfl, rfl⟩
      · rintro e ⟨hs, s8, s9, s10, s11, s13, rfl, hd4⟩
        rw [List.append_nil] at hd4
        subst hd4
        simp [wSeq, wIfS, wOr, wAnd, wNot, wTest, wIsi, wVar, startE, Op.get, Op.clean, noDct, ty1, ty2, ty3, ty4, ty5, ty6, wNext, wIsN, wNotN, wRet, wRetT, wRetN, wAndV, wOrV, wNotV, wIf, wBin, wBlt, wC, wCons, wNil, wTup, dats, gets, wAsg, wN, wN2, wN3, wPar, wAug, wCall, wCallP, wSetL, wF, fLst, fBlt, wApp, wPut, wNeg, wLc, wYes, elW, wipeE, wTupRg, fRng1, wRng1, wRng2, wIt, wItV, it1, it2, it3, it4, wChain, wSl, wNoPart, wPart, wDPut, wDDisp, wDNew, kit1, kit2, kit3, kit4, kit5, kit6, kit7, kit8, kit9, kit10, kit11, kit12, kit13, kit14, kit15, kit16, kit17, kit18, kit19, kit20, kit21, kit22, kit23, kit24, kit25, kit26, kit27, kit28, kit29, kit30, mlLen, shp_bl, shp_int, shp_non, eqv_bl, eqv_ii, and_assoc, exists_and_left, row_iff, Int.ofNat_inj, flat_row, len_row, nd_row, ty_row, isTup_row, ix_row, ix_row', eqv_row, eq_dn, eq_ii, add_ii, lt_ii, le_ii, gt_ii, ge_ii, sub_ii, mod_ii, len_li, len_tu, DcE]
        refine hN _ ⟨ss ++ [(m, rules)], done ++ [m], _, _, _, _, _, _, _, _, by rw [← allS_snoc]; simp only [DcE, List.map_append]; rfl, by simp [hd], W.snoc hRu hdl hm⟩
      · rintro here rest4 e ⟨hs, s8, s9, s10, s11, s13, rfl, hd4⟩ N4 hN4
        have hin : here ∈ allS done := by rw [← hd4]; simp
        have hhl := ((mem_allS done here).mp hin).1
        have hhs : hs.length + 1 ≤ 16 := by
          have : (hs ++ here :: rest4).length ≤ 16 := by rw [hd4]; exact hal
          simp at this; omega
        simp [wSeq, wIfS, wOr, wAnd, wNot, wTest, wIsi, wVar, startE, Op.get, Op.clean, noDct, ty1, ty2, ty3, ty4, ty5, ty6, wNext, wIsN, wNotN, wRet, wRetT, wRetN, wAndV, wOrV, wNotV, wIf, wBin, wBlt, wC, wCons, wNil, wTup, dats, gets, wAsg, wN, wN2, wN3, wPar, wAug, wCall, wCallP, wSetL, wF, fLst, fBlt, wApp, wPut, wNeg, wLc, wYes, elW, wipeE, wTupRg, fRng1, wRng1, wRng2, wIt, wItV, it1, it2, it3, it4, wChain, wSl, wNoPart, wPart, wDPut, wDDisp, wDNew, kit1, kit2, kit3, kit4, kit5, kit6, kit7, kit8, kit9, kit10, kit11, kit12, kit13, kit14, kit15, kit16, kit17, kit18, kit19, kit20, kit21, kit22, kit23, kit24, kit25, kit26, kit27, kit28, kit29, kit30, mlLen, shp_bl, shp_int, shp_non, eqv_bl, eqv_ii, and_assoc, exists_and_left, row_iff, Int.ofNat_inj, flat_row, len_row, nd_row, ty_row, isTup_row, ix_row, ix_row', eqv_row, eq_dn, eq_ii, add_ii, lt_ii, le_ii, gt_ii, ge_ii, sub_ii, mod_ii, len_li, len_tu, DcE]
        refine ⟨(m : Int), rfl, by omega, by omega, by rw [rangeD_len]; omega, ?_⟩
        rw [Int.toNat_natCast, rangeD_row]
        refine lcW_map dn (fun x => encR (here ++ [x])) _ [] (fun x hx k w => ?_) ?_
        · simp [wSeq, wIfS, wOr, wAnd, wNot, wTest, wIsi, wVar, startE, Op.get, Op.clean, noDct, ty1, ty2, ty3, ty4, ty5, ty6, wNext, wIsN, wNotN, wRet, wRetT, wRetN, wAndV, wOrV, wNotV, wIf, wBin, wBlt, wC, wCons, wNil, wTup, dats, gets, wAsg, wN, wN2, wN3, wPar, wAug, wCall, wCallP, wSetL, wF, fLst, fBlt, wApp, wPut, wNeg, wLc, wYes, elW, wipeE, wTupRg, fRng1, wRng1, wRng2, wIt, wItV, it1, it2, it3, it4, wChain, wSl, wNoPart, wPart, wDPut, wDDisp, wDNew, kit1, kit2, kit3, kit4, kit5, kit6, kit7, kit8, kit9, kit10, kit11, kit12, kit13, kit14, kit15, kit16, kit17, kit18, kit19, kit20, kit21, kit22, kit23, kit24, kit25, kit26, kit27, kit28, kit29, kit30, mlLen, shp_bl, shp_int, shp_non, eqv_bl, eqv_ii, and_assoc, exists_and_left, row_iff, Int.ofNat_inj, flat_row, len_row, nd_row, ty_row, isTup_row, ix_row, ix_row', eqv_row, eq_dn, eq_ii, add_ii, lt_ii, le_ii, gt_ii, ge_ii, sub_ii, mod_ii, len_li, len_tu]
          exact ⟨_, add_row.mpr ⟨by omega, rfl⟩, w⟩
        · have e : encL (growS hs m) ++ ([] ++ (List.range m).map fun x => encR (here ++ [x])) = encL (growS (hs ++ [here]) m) := by simp [encL, growS, Function.comp_def]
          refine ⟨_, add_lists.mpr ⟨?_, rfl⟩, hN4 _ ⟨hs ++ [here], .im (encR here), s9, s10, s11, s13, ?_, by simp [hd4]⟩⟩
          · have : hs.length * m ≤ 16 * 4 := Nat.mul_le_mul (by omega) hm.2
            rw [len_encL, len_grow]
            simp
            omega
          · rw [e]
            simp only [DcE, List.map_append]
            rfl
    · rintro here rest2 e ⟨rules, hs, s8, s9, s10, s11, s12, s13, rfl, hd2, R1, hrl, R2⟩ N2 hN2
      have hin : here ∈ allS done := by rw [← hd2]; simp
      have hhl := ((mem_allS done here).mp hin).1
      have hhs : hs.length + 1 ≤ 16 := by
        have : (hs ++ here :: rest2).length ≤ 16 := by rw [hd2]; exact hal
        simp at this; omega
      simp [wSeq, wIfS, wOr, wAnd, wNot, wTest, wIsi, wVar, startE, Op.get, Op.clean, noDct, ty1, ty2, ty3, ty4, ty5, ty6, wNext, wIsN, wNotN, wRet, wRetT, wRetN, wAndV, wOrV, wNotV, wIf, wBin, wBlt, wC, wCons, wNil, wTup, dats, gets, wAsg, wN, wN2, wN3, wPar, wAug, wCall, wCallP, wSetL, wF, fLst, fBlt, wApp, wPut, wNeg, wLc, wYes, elW, wipeE, wTupRg, fRng1, wRng1, wRng2, wIt, wItV, it1, it2, it3, it4, wChain, wSl, wNoPart, wPart, wDPut, wDDisp, wDNew, kit1, kit2, kit3, kit4, kit5, kit6, kit7, kit8, kit9, kit10, kit11, kit12, kit13, kit14, kit15, kit16, kit17, kit18, kit19, kit20, kit21, kit22, kit23, kit24, kit25, kit26, kit27, kit28, kit29, kit30, mlLen, shp_bl, shp_int, shp_non, eqv_bl, eqv_ii, and_assoc, exists_and_left, row_iff, Int.ofNat_inj, flat_row, len_row, nd_row, ty_row, isTup_row, ix_row, ix_row', eqv_row, eq_dn, eq_ii, add_ii, lt_ii, le_ii, gt_ii, ge_ii, sub_ii, mod_ii, len_li, len_tu, DcE, wFor]
      refine ⟨(L : Int), rfl, by omega, by omega, ?_⟩
      rw [Int.toNat_natCast, rangeD_row]
      refine forW_map dn (DcJ3 L sizes ad ss done m b hs here) ?_ ?_ (List.range L) _ ⟨rules, 0, _, _, _, _, _, rfl, rfl, Nat.zero_le _, R1, by simpa using hrl, R2, fun a h => by omega⟩
      · rintro e ⟨rules, j, s9, s10, s11, s12, s13, rfl, hd3, hj, R1, hrl, R2, R3⟩
        have hjL : j = L := by
          have : L ≤ j := by simpa using hd3
          omega
        subst hjL
        refine hN2 _ ⟨rules, hs ++ [here], _, _, _, _, _, _, rfl, by simp [hd2], R1, by simp [Nat.succ_mul, hrl], fun h hh => ?_⟩
        rcases List.mem_append.mp hh with h1 | h1
        · exact R2 h h1
        · simp at h1; subst h1; exact R3
      · rintro k rest3 e ⟨rules, j, s9, s10, s11, s12, s13, rfl, hd3, hj, R1, hrl, R2, R3⟩ N3 hN3
        have hjL : j < L := by
          have : (List.drop j (List.range L)).length = rest3.length + 1 := by rw [← hd3]; rfl
          simp at this; omega
        rw [List.drop_eq_getElem_cons (by simpa using hjL)] at hd3
        obtain ⟨e1, e2⟩ := List.cons.inj hd3
        simp at e1
        subst e1
        have fin : ∀ row : List Nat, row.length = m → (∀ x ∈ row, x < m) → ∀ s10 : Sl, N3 (DcE L sizes ad ss done [.im (dn m), .ml b (rules.map encRule ++ [.tuple [encR here, dn k, encR row]]), .im (encR here), .im (dn k), s10, .im (encR row), s12, s13]) := fun row q1 q2 s10 => by
          refine hN3 _ ⟨rules ++ [(here, k, row)], k + 1, _, _, _, _, _, by rw [List.map_append]; rfl, e2, hjL, fun r hr => ?_, by simp; omega, fun h hh a ha => ?_, fun a ha => ?_⟩
          · rcases List.mem_append.mp hr with h | h
            · exact R1 r h
            · simp at h; subst h; exact ⟨by show here.length ≤ 3; omega, q1, q2⟩
          · obtain ⟨r, hr, z⟩ := R2 h hh a ha
            exact ⟨r, List.mem_append.mpr (.inl hr), z⟩
          · by_cases c : a = k
            · exact ⟨_, List.mem_append.mpr (.inr List.mem_cons_self), rfl, c.symm⟩
            · obtain ⟨r, hr, z⟩ := R3 a (by omega)
              exact ⟨r, List.mem_append.mpr (.inl hr), z⟩
        have hrb : rules.length < 1000000 := by
          have : hs.length * L ≤ 16 * 3 := Nat.mul_le_mul (by omega) hL
          omega
        simp [wSeq, wIfS, wOr, wAnd, wNot, wTest, wIsi, wVar, startE, Op.get, Op.clean, noDct, ty1, ty2, ty3, ty4, ty5, ty6, wNext, wIsN, wNotN, wRet, wRetT, wRetN, wAndV, wOrV, wNotV, wIf, wBin, wBlt, wC, wCons, wNil, wTup, dats, gets, wAsg, wN, wN2, wN3, wPar, wAug, wCall, wCallP, wSetL, wF, fLst, fBlt, wApp, wPut, wNeg, wLc, wYes, elW, wipeE, wTupRg, fRng1, wRng1, wRng2, wIt, wItV, it1, it2, it3, it4, wChain, wSl, wNoPart, wPart, wDPut, wDDisp, wDNew, kit1, kit2, kit3, kit4, kit5, kit6, kit7, kit8, kit9, kit10, kit11, kit12, kit13, kit14, kit15, kit16, kit17, kit18, kit19, kit20, kit21, kit22, kit23, kit24, kit25, kit26, kit27, kit28, kit29, kit30, mlLen, shp_bl, shp_int, shp_non, eqv_bl, eqv_ii, and_assoc, exists_and_left, row_iff, Int.ofNat_inj, flat_row, len_row, nd_row, ty_row, isTup_row, ix_row, ix_row', eqv_row, eq_dn, eq_ii, add_ii, lt_ii, le_ii, gt_ii, ge_ii, sub_ii, mod_ii, len_li, len_tu, DcE, g__law_draw]
        intro r hr
        have er0 : ∀ z, EqR (dn r) (.int 0) z = (z = .bool (decide (r = 0))) := fun z => eq_dn (y := 0)
        have er1 : ∀ z, EqR (dn r) (.int 1) z = (z = .bool (decide (r = 1))) := fun z => eq_dn (y := 1)
        have fr : ∀ s10 s11' : Sl, N3 [Sl.pl, Sl.im (dn L), Sl.im (PyData.list (List.map dn sizes)), Sl.im (PyData.bool false), Sl.ml ad (List.map encS ss), Sl.im (PyData.list (encL (allS done))), Sl.im (dn m), Sl.ml b (List.map encRule rules ++ [PyData.tuple [encR here, dn k, encR (List.range m)]]), Sl.im (encR here), Sl.im (dn k), s10, Sl.im (encR (List.range m)), s12, s13] := fun s10 _ => fin (List.range m) (by simp) (fun x hx => by simpa using hx) s10
        simp only [er0, er1]
        by_cases r0 : r = 0
        · subst r0
          refine ⟨_, rfl, .inr ⟨rfl, (m : Int), rfl, by omega, by omega, fun q hq => ⟨_, (mulT hm.1 (by omega)).mpr rfl, _, rfl, .inl ⟨rfl, hrb, fin (List.replicate m q) (by simp) (fun x hx => by rw [(List.mem_replicate.mp hx).2]; omega) _⟩⟩⟩⟩
        · refine ⟨_, rfl, .inl ⟨by simp [r0], (m : Int), rfl, by omega, by omega, _, rfl, ?_⟩⟩
          have em : rangeD 0 ((m : Nat) : Int).toNat = (List.range m).map dn := by rw [Int.toNat_natCast, rangeD_row]
          by_cases r1 : r = 1
          · subst r1
            refine .inr ⟨rfl, (m : Int), rfl, by omega, by omega, List.range m, by rw [em]; rfl, by simp; omega, fun ys hy => ⟨encR ys, rfl, hrb, fin ys (by simpa using hy.length_eq) (fun x hx => by simpa using hy.mem_iff.mp hx) _⟩⟩
          · refine .inl ⟨by simp [r1], hrb, ?_⟩
            rw [em]
            exact fr _ s12
end DL

namespace DL
open PySem L2
def g__law_same : DSp := g_same 6
def t_law : DTS := wSeq (wFor (wRng1 (wC (.int 4))) (wN 2) (wSeq (wAsg (wBin AddR (wC (.int 1)) (wCallP 1 1 g__law_draw (wCons (wC (.int 2)) (wNil)))) (wN 3)) (wSeq (wAsg (wLc (wRng1 (wBin AddR (wC (.int 2)) (wCallP 1 1 g__law_draw (wCons (wC (.int 2)) (wNil))))) (wN 26) (wYes) (wBin AddR (wC (.int 1)) (wCallP 1 1 g__law_draw (wCons (wC (.int 3)) (wNil)))) [26]) (wN 4)) (wSeq (wAsg (wCallP 1 3 g__law_drawn_cascade (wCons (wVar 3) (wCons (wVar 4) (wCons (wC (.bool false)) (wNil))))) (wN2 5 6)) (wSeq (wAsg (wTup (wCons (wVar 3) (wCons (wSl (wBin IxD (wVar 5) (wC (.int 1))) (wNoPart) (wPart (wNeg (wC (.int 1))))) (wNil)))) (wN 7)) (wSeq (wAsg (wCall 2 g_reached (wCons (wVar 5) (wCons (wF (fLst (wCons (wCallP 1 1 g__law_pick (wCons (wVar 6) (wNil))) (wNil)))) (wNil)))) (wN 8)) (wSeq (wAsg (wBlt TupR (wCons (wF (fSortSetT (wLc (wIt (wVar 8) isTup) (wN 24) (wYes) (wSl (wVar 24) (wNoPart) (wPart (wNeg (wC (.int 1))))) [24]))) (wNil))) (wN 9)) (wSeq (wIfS (wNot (wTest (wCall 2 g__law_same (wCons (wCall 2 g_reached (wCons (wVar 7) (wCons (wF (fBlt ListF (wCons (wVar 9) (wNil)))) (wNil)))) (wCons (wVar 9) (wNil)))))) (wRet (wC (.bool false))) (wNext)) (wSeq (wPar 10 11 (wCons (wCall 2 g_flat (wCons (wVar 5) (wCons (wVar 8) (wNil)))) (wCons (wCall 2 g_flat (wCons (wVar 7) (wCons (wVar 9) (wNil)))) (wNil)))) (wSeq (wAsg (wBlt TupR (wCons (wLc (wIt (wVar 8) isTup) (wN 24) (wYes) (wTIndex (wVar 9) (wSl (wVar 24) (wNoPart) (wPart (wNeg (wC (.int 1)))))) [24]) (wNil))) (wN 12)) (wSeq (wIfS (wOr (wNot (wTest (wCall 3 g_is_carried (wCons (wVar 11) (wCons (wVar 10) (wCons (wBlt TupR (wCons (wLc (wRng1 (wBlt LenR (wCons (wVar 8) (wNil)))) (wN 26) (wYes) (wTup (wCons (wVar 26) (wCons (wBin IxD (wVar 12) (wVar 26)) (wNil)))) [26]) (wNil))) (wNil))))))) (wNot (wTest (wCall 3 g_leads_along (wCons (wVar 10) (wCons (wVar 11) (wCons (wVar 12) (wNil)))))))) (wRet (wC (.bool false))) (wNext)) (wSeq (wAsg (wBin AddR (wC (.int 1)) (wCallP 1 1 g__law_draw (wCons (wC (.int 4)) (wNil)))) (wN 13)) (wSeq (wAsg (wLc (wRng1 (wVar 3)) (wN 26) (wYes) (wIf (wTest (wBin EqR (wCallP 1 1 g__law_draw (wCons (wC (.int 2)) (wNil))) (wC (.int 0)))) (wCallP 1 1 g__law_row (wCons (wVar 13) (wNil))) (wTupRg (wVar 13))) [26]) (wN 14)) (wSeq (wAsg (wLc (wItV (wVar 14)) (wN 12) (wYes) (wIf (wTest (wBin (InR false) (wBlt LenR (wCons (wF (fSortSetI (wVar 12))) (wNil))) (wTup (wCons (wC (.int 1)) (wCons (wVar 13) (wNil)))))) (wVar 12) (wBin MulR (wTup (wCons (wC (.int 0)) (wNil))) (wVar 13))) [12]) (wN 14)) (wSeq (wAsg (wF (fLst (wCons (wTup (wNil)) (wNil)))) (wN 15)) (wSeq (wFor (wIt (wSl (wVar 4) (wNoPart) (wPart (wNeg (wC (.int 1))))) isLst) (wN 16) (wSeq (wAsg (wF (fLst (wNil))) (wN 17)) (wSeq (wFor (wIt (wVar 15) isLst) (wN 18) (wAsg (wBin AddR (wVar 17) (wLc (wRng1 (wVar 16)) (wN 27) (wYes) (wBin AddR (wVar 18) (wTup (wCons (wVar 27) (wNil)))) [27])) (wN 17))) (wAsg (wVar 17) (wN 15))))) (wSeq (wAsg (wF (fLst (wNil))) (wN 19)) (wSeq (wFor (wIt (wVar 15) isLst) (wN 18) (wAsg (wBin AddR (wVar 19) (wLc (wRng1 (wVar 3)) (wN 25) (wYes) (wTup (wCons (wVar 18) (wCons (wVar 25) (wCons (wBin IxD (wVar 14) (wVar 25)) (wNil))))) [25])) (wN 19))) (wSeq (wAsg (wTup (wCons (wVar 3) (wCons (wBin AddR (wBin IxD (wVar 7) (wC (.int 1))) (wTup (wCons (wTup (wCons (wVar 13) (wCons (wBlt TupR (wCons (wVar 19) (wNil))) (wNil)))) (wNil)))) (wNil)))) (wN 20)) (wSeq (wAsg (wTup (wCons (wVar 13) (wCons (wBlt TupR (wCons (wVar 14) (wNil))) (wNil)))) (wN 21)) (wSeq (wAsg (wF (fLst (wNil))) (wN 22)) (wSeq (wFor (wIt (wVar 15) isLst) (wN 18) (wAsg (wBin AddR (wVar 22) (wLc (wRng1 (wVar 13)) (wN 27) (wYes) (wBin AddR (wVar 18) (wTup (wCons (wVar 27) (wNil)))) [27])) (wN 22))) (wSeq (wAsg (wCall 2 g_flat (wCons (wVar 20) (wCons (wBlt TupR (wCons (wVar 22) (wNil))) (wNil)))) (wN 23)) (wSeq (wIfS (wNot (wTest (wCall 3 g_is_carried (wCons (wVar 21) (wCons (wVar 23) (wCons (wBlt TupR (wCons (wLc (wRng1 (wBlt LenR (wCons (wVar 22) (wNil)))) (wN 26) (wYes) (wTup (wCons (wVar 26) (wCons (wBin IxD (wBin IxD (wVar 22) (wVar 26)) (wNeg (wC (.int 1)))) (wNil)))) [26]) (wNil))) (wNil))))))) (wRet (wC (.bool false))) (wNext)) (wSeq (wPar 24 25 (wCons (wCallP 1 1 g__law_pick (wCons (wVar 22) (wNil))) (wCons (wCallP 1 1 g__law_draw (wCons (wVar 3) (wNil))) (wNil)))) (wIfS (wNot (wTest (wCall 2 g__law_same (wCons (wBin IxD (wCall 3 g_step (wCons (wVar 20) (wCons (wVar 24) (wCons (wVar 25) (wNil))))) (wNeg (wC (.int 1)))) (wCons (wBin IxD (wBin IxD (wVar 14) (wVar 25)) (wBin IxD (wVar 24) (wNeg (wC (.int 1))))) (wNil)))))) (wRet (wC (.bool false))) (wNext))))))))))))))))))))))))))) (wRet (wC (.bool true)))
theorem add1 {r : Nat} {z : D} : AddR (.int 1) (dn r) z = (z = dn (1 + r)) := by
  unfold dn
  simp only [AddR]
  rw [show (1 : Int) + (r : Int) = ((1 + r : Nat) : Int) by omega]
theorem add2 {r : Nat} {z : D} : AddR (.int 2) (dn r) z = (z = dn (2 + r)) := by
  unfold dn
  simp only [AddR]
  rw [show (2 : Int) + (r : Int) = ((2 + r : Nat) : Int) by omega]
theorem sm_rowsT {rs : List (List Nat)} (hl : rs.length ≤ 100000) (hs : ∀ x ∈ rs, x.length ≤ 100000) : Sm 5 (.tuple (encL rs)) := .tup (by simpa [encL] using hl) fun d hd => by
  obtain ⟨x, hx, rfl⟩ := List.mem_map.mp hd
  exact (sm_row (hs x hx)).up (by decide)
theorem sl_ss {ss : List Stage} {s : Stage} {z : D} : SlD (.tuple ((ss ++ [s]).map encS)) none (some (-1)) z = (z = .tuple (ss.map encS)) := by
  simp only [SlD]
  rw [cut_init, List.map_append]
  simp
theorem sorted_ks (rows : List (List Nat)) (ks : List (List Int)) (h1 : ks.Pairwise (· < ·)) (h2 : ∀ k, k ∈ ks ↔ k ∈ rows.map cz) : ∃ rs : List (List Nat), rs.Pairwise ltR ∧ (∀ r, r ∈ rs ↔ r ∈ rows) ∧ ks.map tupI = encL rs :=
  sortSetT_nat (κ := fun ds => ∃ rs : List (List Nat), rs.Pairwise ltR ∧ (∀ r, r ∈ rs ↔ r ∈ rows) ∧ ds = encL rs) rows (fun rs a b => ⟨rs, a, b, rfl⟩) ks h1 h2
theorem rowAt_idx' {F : List (List Nat)} {r : List Nat} (h : r ∈ F) : rowAt F (F.idxOf r) = r := (rowAt_idx h).2
def LE (a2 : Sl) (L : Nat) (sz : List Nat) (m0 : Nat) (a5 a6 : Sl) (ss0 : List Stage) (a8 a9 a10 a11 a12 : Sl) (M : Nat) (done : List (List Nat)) (r : List Sl) : DEnv := .un :: .pl :: a2 :: .im (dn L) :: .im (.list (sz.map dn ++ [dn m0])) :: a5 :: a6 :: .im (encC L ss0) :: a8 :: a9 :: a10 :: a11 :: a12 :: .im (dn M) :: .im (.list (encL done)) :: r
def rulesOf (L : Nat) (done : List (List Nat)) (hs : List (List Nat)) : List Rule := hs.flatMap fun h => (List.range L).map fun a => (h, a, rowAt done a)
def TopJ (E : List Sl → DEnv) (sz rest : List Nat) (e : DEnv) : Prop := ∃ pre s16 s17 s18 s19 s20 s21 s22 s23 s24 s25 s26 s27, e = E [.im (.list (encL (allS pre))), s16, s17, s18, s19, s20, s21, s22, s23, s24, s25, s26, s27] ∧ pre ++ rest = sz
def TopJ2 (E : List Sl → DEnv) (pre : List Nat) (m : Nat) (rest : List (List Nat)) (e : DEnv) : Prop := ∃ hs s18 s19 s20 s21 s22 s23 s24 s25 s26 s27, e = E [.im (.list (encL (allS pre))), .im (dn m), .im (.list (encL (growS hs m))), s18, s19, s20, s21, s22, s23, s24, s25, s26, s27] ∧ hs ++ rest = allS pre
def RulJ (E : List Sl → DEnv) (tops : List (List Nat)) (L : Nat) (done : List (List Nat)) (rest : List (List Nat)) (e : DEnv) : Prop := ∃ hs s16 s17 s18 s20 s21 s22 s23 s24 s25 s26 s27, e = E [.im (.list (encL tops)), s16, s17, s18, .im (.list ((rulesOf L done hs).map encRule)), s20, s21, s22, s23, s24, s25, s26, s27] ∧ hs ++ rest = tops
def StJ (E : List Sl → DEnv) (tops : List (List Nat)) (s19 s20 s21 : Sl) (M : Nat) (rest : List (List Nat)) (e : DEnv) : Prop := ∃ hs s16 s17 s18 s23 s24 s25 s26 s27, e = E [.im (.list (encL tops)), s16, s17, s18, s19, s20, s21, .im (.list (encL (growS hs M))), s23, s24, s25, s26, s27] ∧ hs ++ rest = tops
theorem sl_listInit {ds : List D} {d : D} {z : D} : SlD (.list (ds ++ [d])) none (some (-1)) z = (z = .list ds) := by
  simp only [SlD]
  rw [cut_init, List.dropLast_concat]
theorem grow_one (hs : List (List Nat)) (here : List Nat) (m : Nat) : encL (growS hs m) ++ ([] ++ (List.range m).map fun x => encR (here ++ [x])) = encL (growS (hs ++ [here]) m) := by simp [encL, growS, Function.comp_def]
theorem rules_one (L : Nat) (done hs : List (List Nat)) (here : List Nat) : (rulesOf L done hs).map encRule ++ ([] ++ (List.range L).map fun a => encRule (here, a, rowAt done a)) = (rulesOf L done (hs ++ [here])).map encRule := by simp [rulesOf, Function.comp_def]
theorem len_rules (L : Nat) (done hs : List (List Nat)) : (rulesOf L done hs).length = hs.length * L := by
  induction hs with
  | nil => simp [rulesOf]
  | cons a hs ih =>
    simp only [rulesOf, List.flatMap_cons, List.length_append, List.length_map, List.length_range, List.length_cons] at *
    rw [ih, Nat.succ_mul, Nat.add_comm]
theorem add_tuples {xs ys : List D} {z : D} : AddR (.tuple xs) (.tuple ys) z = (xs.length + ys.length ≤ 1000000 ∧ z = .tuple (xs ++ ys)) := by simp [AddR]
theorem rules_ok {L M : Nat} {sz : List Nat} {done tops : List (List Nat)} (tI : ∀ h, h ∈ tops ↔ InS sz h) (hz : sz.length ≤ 2) (hd : done.length = L) (hr : ∀ r ∈ done, rowOf M r) : RulesOk L sz M (rulesOf L done tops) where
  all := fun h a h1 h2 => ⟨(h, a, rowAt done a), List.mem_flatMap.mpr ⟨h, (tI h).mpr h1, List.mem_map.mpr ⟨a, List.mem_range.mpr h2, rfl⟩⟩, rfl, rfl⟩
  ok := fun r hr' => by
    obtain ⟨h, hh, h2⟩ := List.mem_flatMap.mp hr'
    obtain ⟨a, ha, rfl⟩ := List.mem_map.mp h2
    have q := hr _ (List.mem_of_getElem? (rowAt_of (show a < done.length by rw [hd]; exact List.mem_range.mp ha)))
    exact ⟨by show h.length ≤ 3; have := ((tI h).mp hh).1; omega, q.1, q.2⟩
theorem done_blind {L : Nat} {sz : List Nat} {done tops : List (List Nat)} (tI : ∀ h, h ∈ tops ↔ InS sz h) {h : List Nat} (hh : InS sz h) {a : Nat} (ha : a < L) : doneAt (rulesOf L done tops) h a = some (rowAt done a) := by
  have hm : (h, a, rowAt done a) ∈ rulesOf L done tops := List.mem_flatMap.mpr ⟨h, (tI h).mpr hh, List.mem_map.mpr ⟨a, List.mem_range.mpr ha, rfl⟩⟩
  unfold doneAt
  cases q : (rulesOf L done tops).find? fun r => decide (r.1 = h) && decide (r.2.1 = a) with
  | none =>
    have := List.find?_eq_none.mp q _ hm
    simp at this
  | some r =>
    have h1 := List.find?_some q
    simp at h1
    obtain ⟨h', _, h2⟩ := List.mem_flatMap.mp (List.mem_of_find?_eq_some q)
    obtain ⟨a', _, rfl⟩ := List.mem_map.mp h2
    simp at h1
    simp [h1.2]
theorem step_blind {L M : Nat} {sz : List Nat} {done tops : List (List Nat)} {ss0 : List Stage} (W0 : WfC L sz ss0) (tI : ∀ h, h ∈ tops ↔ InS sz h) {h : List Nat} (hh : InS sz h) {a x : Nat} (ha : a < L) : stepL (ss0 ++ [(M, rulesOf L done tops)]) (h ++ [x]) a = stepL ss0 h a ++ [rg (rowAt done a) x] := by
  rw [stepL_snoc (by rw [hh.1, W0.len])]
  congr 2
  unfold rowC
  rw [stg_last, done_blind tI hh ha]
  rfl
/-- the second half: a stage that does not look above -/
theorem half2 (a2 : Sl) (L : Nat) (sz : List Nat) (m0 : Nat) (a5 a6 : Sl) (ss0 : List Stage) (a8 a9 a10 a11 a12 : Sl) (M : Nat) (done : List (List Nat)) (s16 s17 s18 s19 s20 s21 s22 s23 s24 s25 s26 s27 : Sl) (N : DEnv → Prop) (hN : ∀ s15 s16 s17 s18 s19 s20 s21 s22 s23 s24 s25 s26 s27, N (LE a2 L sz m0 a5 a6 ss0 a8 a9 a10 a11 a12 M done [s15, s16, s17, s18, s19, s20, s21, s22, s23, s24, s25, s26, s27])) (δ : DEnds) (hδ : δ.nx = N) (ht : δ.rt = fun d _ => d = .bool true)
    (W0 : WfC L sz ss0) (hL1 : 1 ≤ L ∧ L ≤ 2) (hM : 1 ≤ M ∧ M ≤ 4) (hd : done.length = L) (hr : ∀ r ∈ done, rowOf M r) (hz : 1 ≤ sz.length ∧ sz.length ≤ 2) (zb : ∀ s ∈ sz, 1 ≤ s ∧ s ≤ 3) :
    (wSeq (wFor (wIt (wSl (wVar 4) (wNoPart) (wPart (wNeg (wC (.int 1))))) isLst) (wN 16) (wSeq (wAsg (wF (fLst (wNil))) (wN 17)) (wSeq (wFor (wIt (wVar 15) isLst) (wN 18) (wAsg (wBin AddR (wVar 17) (wLc (wRng1 (wVar 16)) (wN 27) (wYes) (wBin AddR (wVar 18) (wTup (wCons (wVar 27) (wNil)))) [27])) (wN 17))) (wAsg (wVar 17) (wN 15))))) (wSeq (wAsg (wF (fLst (wNil))) (wN 19)) (wSeq (wFor (wIt (wVar 15) isLst) (wN 18) (wAsg (wBin AddR (wVar 19) (wLc (wRng1 (wVar 3)) (wN 25) (wYes) (wTup (wCons (wVar 18) (wCons (wVar 25) (wCons (wBin IxD (wVar 14) (wVar 25)) (wNil))))) [25])) (wN 19))) (wSeq (wAsg (wTup (wCons (wVar 3) (wCons (wBin AddR (wBin IxD (wVar 7) (wC (.int 1))) (wTup (wCons (wTup (wCons (wVar 13) (wCons (wBlt TupR (wCons (wVar 19) (wNil))) (wNil)))) (wNil)))) (wNil)))) (wN 20)) (wSeq (wAsg (wTup (wCons (wVar 13) (wCons (wBlt TupR (wCons (wVar 14) (wNil))) (wNil)))) (wN 21)) (wSeq (wAsg (wF (fLst (wNil))) (wN 22)) (wSeq (wFor (wIt (wVar 15) isLst) (wN 18) (wAsg (wBin AddR (wVar 22) (wLc (wRng1 (wVar 13)) (wN 27) (wYes) (wBin AddR (wVar 18) (wTup (wCons (wVar 27) (wNil)))) [27])) (wN 22))) (wSeq (wAsg (wCall 2 g_flat (wCons (wVar 20) (wCons (wBlt TupR (wCons (wVar 22) (wNil))) (wNil)))) (wN 23)) (wSeq (wIfS (wNot (wTest (wCall 3 g_is_carried (wCons (wVar 21) (wCons (wVar 23) (wCons (wBlt TupR (wCons (wLc (wRng1 (wBlt LenR (wCons (wVar 22) (wNil)))) (wN 26) (wYes) (wTup (wCons (wVar 26) (wCons (wBin IxD (wBin IxD (wVar 22) (wVar 26)) (wNeg (wC (.int 1)))) (wNil)))) [26]) (wNil))) (wNil))))))) (wRet (wC (.bool false))) (wNext)) (wSeq (wPar 24 25 (wCons (wCallP 1 1 g__law_pick (wCons (wVar 22) (wNil))) (wCons (wCallP 1 1 g__law_draw (wCons (wVar 3) (wNil))) (wNil)))) (wIfS (wNot (wTest (wCall 2 g__law_same (wCons (wBin IxD (wCall 3 g_step (wCons (wVar 20) (wCons (wVar 24) (wCons (wVar 25) (wNil))))) (wNeg (wC (.int 1)))) (wCons (wBin IxD (wBin IxD (wVar 14) (wVar 25)) (wBin IxD (wVar 24) (wNeg (wC (.int 1))))) (wNil)))))) (wRet (wC (.bool false))) (wNext)))))))))))) δ (LE a2 L sz m0 a5 a6 ss0 a8 a9 a10 a11 a12 M done [.im (.list [encR []]), s16, s17, s18, s19, s20, s21, s22, s23, s24, s25, s26, s27]) := by
  subst hδ
  have tlen : ∀ pre : List Nat, (∀ s ∈ pre, s ∈ sz) → pre.length ≤ 2 → (allS pre).length ≤ 9 := fun pre h h2 => by
    have h2 := len_allS 3 pre fun s hs => (zb s (h s hs)).2
    have h3 : 3 ^ pre.length ≤ 3 ^ 2 := Nat.pow_le_pow_right (by decide) (by omega)
    omega
  have t9 := tlen sz (fun _ h => h) hz.2
  simp [wSeq, wIfS, wOr, wAnd, wNot, wTest, wIsi, wVar, startE, Op.get, Op.clean, noDct, ty1, ty2, ty3, ty4, ty5, ty6, wNext, wIsN, wNotN, wRet, wRetT, wRetN, wAndV, wOrV, wNotV, wIf, wBin, wBlt, wC, wCons, wNil, wTup, dats, gets, wAsg, wN, wN2, wN3, wPar, wAug, wCall, wCallP, wSetL, wF, fLst, fBlt, wApp, wPut, wNeg, wLc, wYes, elW, wipeE, wTupRg, fRng1, wRng1, wRng2, wIt, wItV, it1, it2, it3, it4, wChain, wSl, wNoPart, wPart, wDPut, wDDisp, wDNew, kit1, kit2, kit3, kit4, kit5, kit6, kit7, kit8, kit9, kit10, kit11, kit12, kit13, kit14, kit15, kit16, kit17, kit18, kit19, kit20, kit21, kit22, kit23, kit24, kit25, kit26, kit27, kit28, kit29, kit30, mlLen, shp_bl, shp_int, shp_non, eqv_bl, eqv_ii, and_assoc, exists_and_left, row_iff, Int.ofNat_inj, flat_row, len_row, nd_row, ty_row, isTup_row, ix_row, ix_row', eqv_row, eq_dn, eq_ii, add_ii, lt_ii, le_ii, gt_ii, ge_ii, sub_ii, mod_ii, len_li, len_tu, wFor, LE]
  refine ⟨_, sl_listInit.mpr rfl, _, rfl, ?_⟩
  refine forW_map dn (TopJ (LE a2 L sz m0 a5 a6 ss0 a8 a9 a10 a11 a12 M done) sz) ?_ ?_ sz _ ⟨[], _, _, _, _, _, _, _, _, _, _, _, _, rfl, rfl⟩
  · rintro e ⟨pre, t16, t17, t18, t19, t20, t21, t22, t23, t24, t25, t26, t27, rfl, hp⟩
    rw [List.append_nil] at hp
    subst hp
    simp [wSeq, wIfS, wOr, wAnd, wNot, wTest, wIsi, wVar, startE, Op.get, Op.clean, noDct, ty1, ty2, ty3, ty4, ty5, ty6, wNext, wIsN, wNotN, wRet, wRetT, wRetN, wAndV, wOrV, wNotV, wIf, wBin, wBlt, wC, wCons, wNil, wTup, dats, gets, wAsg, wN, wN2, wN3, wPar, wAug, wCall, wCallP, wSetL, wF, fLst, fBlt, wApp, wPut, wNeg, wLc, wYes, elW, wipeE, wTupRg, fRng1, wRng1, wRng2, wIt, wItV, it1, it2, it3, it4, wChain, wSl, wNoPart, wPart, wDPut, wDDisp, wDNew, kit1, kit2, kit3, kit4, kit5, kit6, kit7, kit8, kit9, kit10, kit11, kit12, kit13, kit14, kit15, kit16, kit17, kit18, kit19, kit20, kit21, kit22, kit23, kit24, kit25, kit26, kit27, kit28, kit29, kit30, mlLen, shp_bl, shp_int, shp_non, eqv_bl, eqv_ii, and_assoc, exists_and_left, row_iff, Int.ofNat_inj, flat_row, len_row, nd_row, ty_row, isTup_row, ix_row, ix_row', eqv_row, eq_dn, eq_ii, add_ii, lt_ii, le_ii, gt_ii, ge_ii, sub_ii, mod_ii, len_li, len_tu, LE, wFor]
    generalize hT : allS pre = tops at t9
    have tI : ∀ h, h ∈ tops ↔ InS pre h := fun h => by rw [← hT]; exact mem_allS pre h
    have tpos : 1 ≤ tops.length := by rw [← hT]; exact pos_allS pre fun s h => (zb s h).1
    refine forW_map encR (RulJ (LE a2 L pre m0 a5 a6 ss0 a8 a9 a10 a11 a12 M done) tops L done) ?_ ?_ tops _ ⟨[], _, _, _, _, _, _, _, _, _, _, _, rfl, rfl⟩
    · rintro e ⟨hs, u16, u17, u18, u20, u21, u22, u23, u24, u25, u26, u27, rfl, hp⟩
      rw [List.append_nil] at hp
      subst hp
      simp [wSeq, wIfS, wOr, wAnd, wNot, wTest, wIsi, wVar, startE, Op.get, Op.clean, noDct, ty1, ty2, ty3, ty4, ty5, ty6, wNext, wIsN, wNotN, wRet, wRetT, wRetN, wAndV, wOrV, wNotV, wIf, wBin, wBlt, wC, wCons, wNil, wTup, dats, gets, wAsg, wN, wN2, wN3, wPar, wAug, wCall, wCallP, wSetL, wF, fLst, fBlt, wApp, wPut, wNeg, wLc, wYes, elW, wipeE, wTupRg, fRng1, wRng1, wRng2, wIt, wItV, it1, it2, it3, it4, wChain, wSl, wNoPart, wPart, wDPut, wDDisp, wDNew, kit1, kit2, kit3, kit4, kit5, kit6, kit7, kit8, kit9, kit10, kit11, kit12, kit13, kit14, kit15, kit16, kit17, kit18, kit19, kit20, kit21, kit22, kit23, kit24, kit25, kit26, kit27, kit28, kit29, kit30, mlLen, shp_bl, shp_int, shp_non, eqv_bl, eqv_ii, and_assoc, exists_and_left, row_iff, Int.ofNat_inj, flat_row, len_row, nd_row, ty_row, isTup_row, ix_row, ix_row', eqv_row, eq_dn, eq_ii, add_ii, lt_ii, le_ii, gt_ii, ge_ii, sub_ii, mod_ii, len_li, len_tu, LE, wFor, ix_c1]
      have eb : PyData.tuple [dn L, PyData.tuple (ss0.map encS ++ [PyData.tuple [dn M, PyData.tuple ((rulesOf L done hs).map encRule)]])] = encC L (ss0 ++ [(M, rulesOf L done hs)]) := by
        unfold encC
        rw [List.map_append]; rfl
      have hs0 := W0.len
      refine ⟨.tuple ((rulesOf L done hs).map encRule), rfl, _, add_tuples.mpr ⟨by simp; omega, rfl⟩, .tuple (encL done), rfl, ?_⟩
      rw [eb]
      have W1 : WfC L (pre ++ [M]) (ss0 ++ [(M, rulesOf L done hs)]) := W0.snoc (rules_ok tI hz.2 hd hr) (by omega) hM
      have SB : ∀ {h x a}, InS pre h → a < L → stepL (ss0 ++ [(M, rulesOf L done hs)]) (h ++ [x]) a = stepL ss0 h a ++ [rg (rowAt done a) x] := fun hh ha => step_blind W0 tI hh ha
      generalize ss0 ++ [(M, rulesOf L done hs)] = ss1 at W1 SB
      generalize rulesOf L done hs = rules0
      refine forW_map encR (StJ (LE a2 L pre m0 a5 a6 ss0 a8 a9 a10 a11 a12 M done) hs _ _ _ M) ?_ ?_ hs _ ⟨[], _, _, _, _, _, _, _, _, rfl, rfl⟩
      · rintro e ⟨hs', v16, v17, v18, v23, v24, v25, v26, v27, rfl, hp⟩
        rw [List.append_nil] at hp
        subst hp
        simp [wSeq, wIfS, wOr, wAnd, wNot, wTest, wIsi, wVar, startE, Op.get, Op.clean, noDct, ty1, ty2, ty3, ty4, ty5, ty6, wNext, wIsN, wNotN, wRet, wRetT, wRetN, wAndV, wOrV, wNotV, wIf, wBin, wBlt, wC, wCons, wNil, wTup, dats, gets, wAsg, wN, wN2, wN3, wPar, wAug, wCall, wCallP, wSetL, wF, fLst, fBlt, wApp, wPut, wNeg, wLc, wYes, elW, wipeE, wTupRg, fRng1, wRng1, wRng2, wIt, wItV, it1, it2, it3, it4, wChain, wSl, wNoPart, wPart, wDPut, wDDisp, wDNew, kit1, kit2, kit3, kit4, kit5, kit6, kit7, kit8, kit9, kit10, kit11, kit12, kit13, kit14, kit15, kit16, kit17, kit18, kit19, kit20, kit21, kit22, kit23, kit24, kit25, kit26, kit27, kit28, kit29, kit30, mlLen, shp_bl, shp_int, shp_non, eqv_bl, eqv_ii, and_assoc, exists_and_left, row_iff, Int.ofNat_inj, flat_row, len_row, nd_row, ty_row, isTup_row, ix_row, ix_row', eqv_row, eq_dn, eq_ii, add_ii, lt_ii, le_ii, gt_ii, ge_ii, sub_ii, mod_ii, len_li, len_tu, LE, wFor, len_encL]
        generalize hS : growS hs' M = states
        have sI : ∀ c, c ∈ states ↔ InS (pre ++ [M]) c := fun c => by
          rw [← hS, ← hT, ← allS_snoc]; exact mem_allS _ c
        have sl : states.length ≤ 36 := by
          rw [← hS, len_grow]
          exact Nat.mul_le_mul t9 hM.2
        have cD : ∀ c ∈ states, ∃ h x, c = h ++ [x] ∧ InS pre h ∧ x < M := fun c hc => ((sI c).mp hc).split
        have cC : ∀ c ∈ states, ∀ a, a < L → stepL ss1 c a ∈ states := fun c hc a ha => (sI _).mpr (stepL_in W1 ((sI c).mp hc) ha)
        have lastX : ∀ {h x}, InS pre h → rg (h ++ [x]) pre.length = x := fun {h x} hh => by rw [← hh.1, rg_last]
        have mk : ∀ {h x}, InS pre h → x < M → h ++ [x] ∈ states := fun hh hx => (sI _).mpr (hh.snoc hx)
        have dRow : ∀ {a}, a < L → rowOf M (rowAt done a) := fun {a} ha => hr _ (List.mem_of_getElem? (rowAt_of (show a < done.length by omega)))
        have M1 : MOk M done := ⟨hM.1, by omega, by omega, hr⟩
        obtain ⟨t0, ht0⟩ : ∃ t, t ∈ hs' := by
          cases e : hs' with
          | nil => rw [e] at tpos; simp at tpos
          | cons t l => exact ⟨t, List.mem_cons_self⟩
        have hI0 := (tI t0).mp ht0
        have sp : 1 ≤ states.length := List.length_pos_of_mem (mk hI0 (x := 0) (by omega))
        have M2 : MOk states.length (flatL L ss1 states) := mok_flat (by omega) sp (by omega) cC
        refine ⟨.tuple (encL states), rfl, L, pre ++ [M], ss1, states, rfl, W1, by omega, fun c hc => ⟨(sI c).mp hc, cC c hc⟩, by omega, by rw [rangeD_len]; omega, ?_⟩
        rw [rangeD_row]
        have tl : (states.map fun c => rg c pre.length).length = states.length := by simp
        have tlt : ∀ x ∈ (states.map fun c => rg c pre.length), x < M := fun x hx => by
          obtain ⟨c, hc, rfl⟩ := List.mem_map.mp hx
          obtain ⟨h, x, rfl, hh, hx⟩ := cD c hc
          rw [lastX hh]; exact hx
        have onto : ∀ q, q < M → q ∈ (states.map fun c => rg c pre.length) := fun q hq => List.mem_map.mpr ⟨_, mk hI0 hq, lastX hI0⟩
        have key : ∀ a, a < L → ∀ i, i < states.length → rg (states.map fun c => rg c pre.length) (rg (rowAt (flatL L ss1 states) a) i) = rg (rowAt done a) (rg (states.map fun c => rg c pre.length) i) := fun a ha i hi => by
          have hm : rowAt states i ∈ states := List.mem_of_getElem? (rowAt_of hi)
          obtain ⟨h, x, ec, hh, hx⟩ := cD _ hm
          have h1 := cC _ hm a ha
          rw [rowAt_flat ha, rg_idx hi, rg_idx (List.idxOf_lt_length_iff.mpr h1), rowAt_idx' h1, rg_idx hi, ec, SB hh ha, lastX hh, lastX (stepL_in W0 hh ha)]
        have tv : ∀ i, i < states.length → ∃ h, rowAt states i = h ++ [rg (states.map fun c => rg c pre.length) i] := fun i hi => by
          have hm : rowAt states i ∈ states := List.mem_of_getElem? (rowAt_of hi)
          obtain ⟨h, x, ec, hh, hx⟩ := cD _ hm
          exact ⟨h, by rw [rg_idx hi, ec, lastX hh]⟩
        generalize (states.map fun c => rg c pre.length) = T at tl tlt onto key tv
        refine lcW_map dn (fun i => .tuple [dn i, dn (rg T i)]) _ [] (fun i hi k w => ?_) ?_
        · have hi' := List.mem_range.mp hi
          obtain ⟨h, eh⟩ := tv i hi'
          simp [wSeq, wIfS, wOr, wAnd, wNot, wTest, wIsi, wVar, startE, Op.get, Op.clean, noDct, ty1, ty2, ty3, ty4, ty5, ty6, wNext, wIsN, wNotN, wRet, wRetT, wRetN, wAndV, wOrV, wNotV, wIf, wBin, wBlt, wC, wCons, wNil, wTup, dats, gets, wAsg, wN, wN2, wN3, wPar, wAug, wCall, wCallP, wSetL, wF, fLst, fBlt, wApp, wPut, wNeg, wLc, wYes, elW, wipeE, wTupRg, fRng1, wRng1, wRng2, wIt, wItV, it1, it2, it3, it4, wChain, wSl, wNoPart, wPart, wDPut, wDDisp, wDNew, kit1, kit2, kit3, kit4, kit5, kit6, kit7, kit8, kit9, kit10, kit11, kit12, kit13, kit14, kit15, kit16, kit17, kit18, kit19, kit20, kit21, kit22, kit23, kit24, kit25, kit26, kit27, kit28, kit29, kit30, mlLen, shp_bl, shp_int, shp_non, eqv_bl, eqv_ii, and_assoc, exists_and_left, row_iff, Int.ofNat_inj, flat_row, len_row, nd_row, ty_row, isTup_row, ix_row, ix_row', eqv_row, eq_dn, eq_ii, add_ii, lt_ii, le_ii, gt_ii, ge_ii, sub_ii, mod_ii, len_li, len_tu, ix_listN, encL, rowAt_of hi', eh, ix_lastR]
          exact w
        refine ⟨encT T, by simp [TupR, encT, tl], M, done, states.length, flatL L ss1 states, T, rfl, M1, M2, ⟨tl, by simp [flatL, hd], tlt, onto, fun a ha i hi => key a (by omega) i hi⟩, .inr ⟨rfl, ?_⟩⟩
        refine ⟨encL states, rfl, by rw [len_encL]; exact sp, by rw [len_encL]; omega, fun d hdm => ?_⟩
        obtain ⟨c, hc, rfl⟩ := List.mem_map.mp hdm
        obtain ⟨h, x, rfl, hh, hx⟩ := cD c hc
        refine ⟨(L : Int), rfl, by omega, by omega, fun a ha => ?_⟩
        have ha' : a < L := by omega
        refine ⟨L, pre ++ [M], ss1, h ++ [x], a, rfl, W1, (sI _).mp hc, ha', ?_⟩
        rw [SB hh ha']
        have qd := dRow ha'
        refine ⟨dn (rg (rowAt done a) x), ix_lastR.mpr rfl, encR (rowAt done a), ix_listN.mpr (by rw [encL, List.getElem?_map, rowAt_of (show a < done.length by omega)]; rfl), dn x, ix_lastR.mpr rfl, dn (rg (rowAt done a) x), ix_row'.mpr (by rw [getD_of (show x < (rowAt done a).length by rw [qd.1]; exact hx)]; rfl), ?_⟩
        exact ⟨dn (rg (rowAt done a) x), rfl, .int, .inr ⟨rfl, hN _ _ _ _ _ _ _ _ _ _ _ _ _⟩⟩
      · rintro here rest2 e ⟨hs', v16, v17, v18, v23, v24, v25, v26, v27, rfl, hp⟩ N2 hN2
        have hin : here ∈ hs := by rw [← hp]; simp
        have hhl := ((tI here).mp hin).1
        have hhs : hs'.length + 1 ≤ 9 := by
          have : (hs' ++ here :: rest2).length ≤ 9 := by rw [hp]; exact t9
          simp at this; omega
        simp [wSeq, wIfS, wOr, wAnd, wNot, wTest, wIsi, wVar, startE, Op.get, Op.clean, noDct, ty1, ty2, ty3, ty4, ty5, ty6, wNext, wIsN, wNotN, wRet, wRetT, wRetN, wAndV, wOrV, wNotV, wIf, wBin, wBlt, wC, wCons, wNil, wTup, dats, gets, wAsg, wN, wN2, wN3, wPar, wAug, wCall, wCallP, wSetL, wF, fLst, fBlt, wApp, wPut, wNeg, wLc, wYes, elW, wipeE, wTupRg, fRng1, wRng1, wRng2, wIt, wItV, it1, it2, it3, it4, wChain, wSl, wNoPart, wPart, wDPut, wDDisp, wDNew, kit1, kit2, kit3, kit4, kit5, kit6, kit7, kit8, kit9, kit10, kit11, kit12, kit13, kit14, kit15, kit16, kit17, kit18, kit19, kit20, kit21, kit22, kit23, kit24, kit25, kit26, kit27, kit28, kit29, kit30, mlLen, shp_bl, shp_int, shp_non, eqv_bl, eqv_ii, and_assoc, exists_and_left, row_iff, Int.ofNat_inj, flat_row, len_row, nd_row, ty_row, isTup_row, ix_row, ix_row', eqv_row, eq_dn, eq_ii, add_ii, lt_ii, le_ii, gt_ii, ge_ii, sub_ii, mod_ii, len_li, len_tu, LE]
        refine ⟨(M : Int), rfl, by omega, by omega, by rw [rangeD_len]; omega, ?_⟩
        rw [Int.toNat_natCast, rangeD_row]
        refine lcW_map dn (fun x => encR (here ++ [x])) _ [] (fun x hx k w => ?_) ?_
        · simp [wSeq, wIfS, wOr, wAnd, wNot, wTest, wIsi, wVar, startE, Op.get, Op.clean, noDct, ty1, ty2, ty3, ty4, ty5, ty6, wNext, wIsN, wNotN, wRet, wRetT, wRetN, wAndV, wOrV, wNotV, wIf, wBin, wBlt, wC, wCons, wNil, wTup, dats, gets, wAsg, wN, wN2, wN3, wPar, wAug, wCall, wCallP, wSetL, wF, fLst, fBlt, wApp, wPut, wNeg, wLc, wYes, elW, wipeE, wTupRg, fRng1, wRng1, wRng2, wIt, wItV, it1, it2, it3, it4, wChain, wSl, wNoPart, wPart, wDPut, wDDisp, wDNew, kit1, kit2, kit3, kit4, kit5, kit6, kit7, kit8, kit9, kit10, kit11, kit12, kit13, kit14, kit15, kit16, kit17, kit18, kit19, kit20, kit21, kit22, kit23, kit24, kit25, kit26, kit27, kit28, kit29, kit30, mlLen, shp_bl, shp_int, shp_non, eqv_bl, eqv_ii, and_assoc, exists_and_left, row_iff, Int.ofNat_inj, flat_row, len_row, nd_row, ty_row, isTup_row, ix_row, ix_row', eqv_row, eq_dn, eq_ii, add_ii, lt_ii, le_ii, gt_ii, ge_ii, sub_ii, mod_ii, len_li, len_tu]
          exact ⟨_, add_row.mpr ⟨by omega, rfl⟩, w⟩
        · refine ⟨_, add_lists.mpr ⟨?_, rfl⟩, hN2 _ ⟨hs' ++ [here], v16, v17, .im (encR here), v23, v24, v25, v26, v27, ?_, by simp [hp]⟩⟩
          · have : hs'.length * M ≤ 9 * 4 := Nat.mul_le_mul (by omega) hM.2
            rw [len_encL, len_grow]
            simp
            omega
          · rw [grow_one]
            rfl
    · rintro here rest2 e ⟨hs, u16, u17, u18, u20, u21, u22, u23, u24, u25, u26, u27, rfl, hp⟩ N2 hN2
      have hhs : hs.length + 1 ≤ 9 := by
        have : (hs ++ here :: rest2).length ≤ 9 := by rw [hp]; exact t9
        simp at this; omega
      simp [wSeq, wIfS, wOr, wAnd, wNot, wTest, wIsi, wVar, startE, Op.get, Op.clean, noDct, ty1, ty2, ty3, ty4, ty5, ty6, wNext, wIsN, wNotN, wRet, wRetT, wRetN, wAndV, wOrV, wNotV, wIf, wBin, wBlt, wC, wCons, wNil, wTup, dats, gets, wAsg, wN, wN2, wN3, wPar, wAug, wCall, wCallP, wSetL, wF, fLst, fBlt, wApp, wPut, wNeg, wLc, wYes, elW, wipeE, wTupRg, fRng1, wRng1, wRng2, wIt, wItV, it1, it2, it3, it4, wChain, wSl, wNoPart, wPart, wDPut, wDDisp, wDNew, kit1, kit2, kit3, kit4, kit5, kit6, kit7, kit8, kit9, kit10, kit11, kit12, kit13, kit14, kit15, kit16, kit17, kit18, kit19, kit20, kit21, kit22, kit23, kit24, kit25, kit26, kit27, kit28, kit29, kit30, mlLen, shp_bl, shp_int, shp_non, eqv_bl, eqv_ii, and_assoc, exists_and_left, row_iff, Int.ofNat_inj, flat_row, len_row, nd_row, ty_row, isTup_row, ix_row, ix_row', eqv_row, eq_dn, eq_ii, add_ii, lt_ii, le_ii, gt_ii, ge_ii, sub_ii, mod_ii, len_li, len_tu, LE]
      refine ⟨(L : Int), rfl, by omega, by omega, by rw [rangeD_len]; omega, ?_⟩
      rw [Int.toNat_natCast, rangeD_row]
      refine lcW_map dn (fun a => encRule (here, a, rowAt done a)) _ [] (fun a ha k w => ?_) ?_
      · have ha' := List.mem_range.mp ha
        simp [wSeq, wIfS, wOr, wAnd, wNot, wTest, wIsi, wVar, startE, Op.get, Op.clean, noDct, ty1, ty2, ty3, ty4, ty5, ty6, wNext, wIsN, wNotN, wRet, wRetT, wRetN, wAndV, wOrV, wNotV, wIf, wBin, wBlt, wC, wCons, wNil, wTup, dats, gets, wAsg, wN, wN2, wN3, wPar, wAug, wCall, wCallP, wSetL, wF, fLst, fBlt, wApp, wPut, wNeg, wLc, wYes, elW, wipeE, wTupRg, fRng1, wRng1, wRng2, wIt, wItV, it1, it2, it3, it4, wChain, wSl, wNoPart, wPart, wDPut, wDDisp, wDNew, kit1, kit2, kit3, kit4, kit5, kit6, kit7, kit8, kit9, kit10, kit11, kit12, kit13, kit14, kit15, kit16, kit17, kit18, kit19, kit20, kit21, kit22, kit23, kit24, kit25, kit26, kit27, kit28, kit29, kit30, mlLen, shp_bl, shp_int, shp_non, eqv_bl, eqv_ii, and_assoc, exists_and_left, row_iff, Int.ofNat_inj, flat_row, len_row, nd_row, ty_row, isTup_row, ix_row, ix_row', eqv_row, eq_dn, eq_ii, add_ii, lt_ii, le_ii, gt_ii, ge_ii, sub_ii, mod_ii, len_li, len_tu, ix_listN]
        exact ⟨_, by rw [encL, List.getElem?_map, rowAt_of (show a < done.length by omega)]; rfl, w⟩
      · refine ⟨_, add_lists.mpr ⟨?_, rfl⟩, hN2 _ ⟨hs ++ [here], u16, u17, .im (encR here), u20, u21, u22, u23, u24, u25, u26, u27, ?_, by simp [hp]⟩⟩
        · have : hs.length * L ≤ 9 * 2 := Nat.mul_le_mul (by omega) hL1.2
          rw [List.length_map, len_rules]
          simp
          omega
        · rw [rules_one]
          rfl
  · rintro m rest e ⟨pre, t16, t17, t18, t19, t20, t21, t22, t23, t24, t25, t26, t27, rfl, hp⟩ N1 hN1
    have hm := zb m (by rw [← hp]; simp)
    have hpl : (allS pre).length ≤ 9 := tlen pre (fun s h => by rw [← hp]; exact List.mem_append.mpr (.inl h)) (by
      have : (pre ++ m :: rest).length ≤ 2 := by rw [hp]; exact hz.2
      simp at this; omega)
    simp [wSeq, wIfS, wOr, wAnd, wNot, wTest, wIsi, wVar, startE, Op.get, Op.clean, noDct, ty1, ty2, ty3, ty4, ty5, ty6, wNext, wIsN, wNotN, wRet, wRetT, wRetN, wAndV, wOrV, wNotV, wIf, wBin, wBlt, wC, wCons, wNil, wTup, dats, gets, wAsg, wN, wN2, wN3, wPar, wAug, wCall, wCallP, wSetL, wF, fLst, fBlt, wApp, wPut, wNeg, wLc, wYes, elW, wipeE, wTupRg, fRng1, wRng1, wRng2, wIt, wItV, it1, it2, it3, it4, wChain, wSl, wNoPart, wPart, wDPut, wDDisp, wDNew, kit1, kit2, kit3, kit4, kit5, kit6, kit7, kit8, kit9, kit10, kit11, kit12, kit13, kit14, kit15, kit16, kit17, kit18, kit19, kit20, kit21, kit22, kit23, kit24, kit25, kit26, kit27, kit28, kit29, kit30, mlLen, shp_bl, shp_int, shp_non, eqv_bl, eqv_ii, and_assoc, exists_and_left, row_iff, Int.ofNat_inj, flat_row, len_row, nd_row, ty_row, isTup_row, ix_row, ix_row', eqv_row, eq_dn, eq_ii, add_ii, lt_ii, le_ii, gt_ii, ge_ii, sub_ii, mod_ii, len_li, len_tu, LE, wFor]
    refine forW_map encR (TopJ2 (LE a2 L sz m0 a5 a6 ss0 a8 a9 a10 a11 a12 M done) pre m) ?_ ?_ (allS pre) _ ⟨[], _, _, _, _, _, _, _, _, _, _, rfl, rfl⟩
    · rintro e ⟨hs, u18, u19, u20, u21, u22, u23, u24, u25, u26, u27, rfl, hp2⟩
      rw [List.append_nil] at hp2
      subst hp2
      simp [wSeq, wIfS, wOr, wAnd, wNot, wTest, wIsi, wVar, startE, Op.get, Op.clean, noDct, ty1, ty2, ty3, ty4, ty5, ty6, wNext, wIsN, wNotN, wRet, wRetT, wRetN, wAndV, wOrV, wNotV, wIf, wBin, wBlt, wC, wCons, wNil, wTup, dats, gets, wAsg, wN, wN2, wN3, wPar, wAug, wCall, wCallP, wSetL, wF, fLst, fBlt, wApp, wPut, wNeg, wLc, wYes, elW, wipeE, wTupRg, fRng1, wRng1, wRng2, wIt, wItV, it1, it2, it3, it4, wChain, wSl, wNoPart, wPart, wDPut, wDDisp, wDNew, kit1, kit2, kit3, kit4, kit5, kit6, kit7, kit8, kit9, kit10, kit11, kit12, kit13, kit14, kit15, kit16, kit17, kit18, kit19, kit20, kit21, kit22, kit23, kit24, kit25, kit26, kit27, kit28, kit29, kit30, mlLen, shp_bl, shp_int, shp_non, eqv_bl, eqv_ii, and_assoc, exists_and_left, row_iff, Int.ofNat_inj, flat_row, len_row, nd_row, ty_row, isTup_row, ix_row, ix_row', eqv_row, eq_dn, eq_ii, add_ii, lt_ii, le_ii, gt_ii, ge_ii, sub_ii, mod_ii, len_li, len_tu, LE]
      refine hN1 _ ⟨pre ++ [m], _, _, _, _, _, _, _, _, _, _, _, _, by rw [← allS_snoc]; rfl, by simp [hp]⟩
    · rintro here rest2 e ⟨hs, u18, u19, u20, u21, u22, u23, u24, u25, u26, u27, rfl, hp2⟩ N2 hN2
      have hin : here ∈ allS pre := by rw [← hp2]; simp
      have hhl := ((mem_allS pre here).mp hin).1
      have hpl2 : pre.length ≤ 2 := by
        have : (pre ++ m :: rest).length ≤ 2 := by rw [hp]; exact hz.2
        simp at this; omega
      have hhs : hs.length + 1 ≤ 9 := by
        have : (hs ++ here :: rest2).length ≤ 9 := by rw [hp2]; exact hpl
        simp at this; omega
      simp [wSeq, wIfS, wOr, wAnd, wNot, wTest, wIsi, wVar, startE, Op.get, Op.clean, noDct, ty1, ty2, ty3, ty4, ty5, ty6, wNext, wIsN, wNotN, wRet, wRetT, wRetN, wAndV, wOrV, wNotV, wIf, wBin, wBlt, wC, wCons, wNil, wTup, dats, gets, wAsg, wN, wN2, wN3, wPar, wAug, wCall, wCallP, wSetL, wF, fLst, fBlt, wApp, wPut, wNeg, wLc, wYes, elW, wipeE, wTupRg, fRng1, wRng1, wRng2, wIt, wItV, it1, it2, it3, it4, wChain, wSl, wNoPart, wPart, wDPut, wDDisp, wDNew, kit1, kit2, kit3, kit4, kit5, kit6, kit7, kit8, kit9, kit10, kit11, kit12, kit13, kit14, kit15, kit16, kit17, kit18, kit19, kit20, kit21, kit22, kit23, kit24, kit25, kit26, kit27, kit28, kit29, kit30, mlLen, shp_bl, shp_int, shp_non, eqv_bl, eqv_ii, and_assoc, exists_and_left, row_iff, Int.ofNat_inj, flat_row, len_row, nd_row, ty_row, isTup_row, ix_row, ix_row', eqv_row, eq_dn, eq_ii, add_ii, lt_ii, le_ii, gt_ii, ge_ii, sub_ii, mod_ii, len_li, len_tu, LE]
      refine ⟨(m : Int), rfl, by omega, by omega, by rw [rangeD_len]; omega, ?_⟩
      rw [Int.toNat_natCast, rangeD_row]
      refine lcW_map dn (fun x => encR (here ++ [x])) _ [] (fun x hx k w => ?_) ?_
      · simp [wSeq, wIfS, wOr, wAnd, wNot, wTest, wIsi, wVar, startE, Op.get, Op.clean, noDct, ty1, ty2, ty3, ty4, ty5, ty6, wNext, wIsN, wNotN, wRet, wRetT, wRetN, wAndV, wOrV, wNotV, wIf, wBin, wBlt, wC, wCons, wNil, wTup, dats, gets, wAsg, wN, wN2, wN3, wPar, wAug, wCall, wCallP, wSetL, wF, fLst, fBlt, wApp, wPut, wNeg, wLc, wYes, elW, wipeE, wTupRg, fRng1, wRng1, wRng2, wIt, wItV, it1, it2, it3, it4, wChain, wSl, wNoPart, wPart, wDPut, wDDisp, wDNew, kit1, kit2, kit3, kit4, kit5, kit6, kit7, kit8, kit9, kit10, kit11, kit12, kit13, kit14, kit15, kit16, kit17, kit18, kit19, kit20, kit21, kit22, kit23, kit24, kit25, kit26, kit27, kit28, kit29, kit30, mlLen, shp_bl, shp_int, shp_non, eqv_bl, eqv_ii, and_assoc, exists_and_left, row_iff, Int.ofNat_inj, flat_row, len_row, nd_row, ty_row, isTup_row, ix_row, ix_row', eqv_row, eq_dn, eq_ii, add_ii, lt_ii, le_ii, gt_ii, ge_ii, sub_ii, mod_ii, len_li, len_tu]
        exact ⟨_, add_row.mpr ⟨by omega, rfl⟩, w⟩
      · refine ⟨_, add_lists.mpr ⟨?_, rfl⟩, hN2 _ ⟨hs ++ [here], .im (encR here), u19, u20, u21, u22, u23, u24, u25, u26, u27, ?_, by simp [hp2]⟩⟩
        · have : hs.length * m ≤ 9 * 3 := Nat.mul_le_mul (by omega) hm.2
          rw [len_encL, len_grow]
          simp
          omega
        · rw [grow_one]
          rfl
def LawI (e : DEnv) : Prop := ∃ s2 s3 s4 s5 s6 s7 s8 s9 s10 s11 s12 s13 s14 s15 s16 s17 s18 s19 s20 s21 s22 s23 s24 s25 s26 s27, e = [.un, .pl, s2, s3, s4, s5, s6, s7, s8, s9, s10, s11, s12, s13, s14, s15, s16, s17, s18, s19, s20, s21, s22, s23, s24, s25, s26, s27]
theorem pure_law : t_law { nx := fun _ => False, rt := fun d _ => d = .bool true } (.un :: .pl :: List.replicate 26 .un) := by
  simp [t_law, wSeq, wIfS, wOr, wAnd, wNot, wTest, wIsi, wVar, startE, Op.get, Op.clean, noDct, ty1, ty2, ty3, ty4, ty5, ty6, wNext, wIsN, wNotN, wRet, wRetT, wRetN, wAndV, wOrV, wNotV, wIf, wBin, wBlt, wC, wCons, wNil, wTup, dats, gets, wAsg, wN, wN2, wN3, wPar, wAug, wCall, wCallP, wSetL, wF, fLst, fBlt, wApp, wPut, wNeg, wLc, wYes, elW, wipeE, wTupRg, fRng1, wRng1, wRng2, wIt, wItV, it1, it2, it3, it4, wChain, wSl, wNoPart, wPart, wDPut, wDDisp, wDNew, kit1, kit2, kit3, kit4, kit5, kit6, kit7, kit8, kit9, kit10, kit11, kit12, kit13, kit14, kit15, kit16, kit17, kit18, kit19, kit20, kit21, kit22, kit23, kit24, kit25, kit26, kit27, kit28, kit29, kit30, mlLen, shp_bl, shp_int, shp_non, eqv_bl, eqv_ii, and_assoc, exists_and_left, row_iff, Int.ofNat_inj, flat_row, len_row, nd_row, ty_row, isTup_row, ix_row, ix_row', eqv_row, eq_dn, eq_ii, add_ii, lt_ii, le_ii, gt_ii, ge_ii, sub_ii, mod_ii, len_li, len_tu, wFor]
  have e4 : rangeD 0 4 = (List.range 4).map dn := rangeD_row 4
  rw [e4]
  refine forW_map dn (fun _ e => LawI e) ?_ ?_ (List.range 4) _ ⟨_, _, _, _, _, _, _, _, _, _, _, _, _, _, _, _, _, _, _, _, _, _, _, _, _, _, rfl⟩
  · rintro e ⟨s2, s3, s4, s5, s6, s7, s8, s9, s10, s11, s12, s13, s14, s15, s16, s17, s18, s19, s20, s21, s22, s23, s24, s25, s26, s27, rfl⟩
    simp [wSeq, wIfS, wOr, wAnd, wNot, wTest, wIsi, wVar, startE, Op.get, Op.clean, noDct, ty1, ty2, ty3, ty4, ty5, ty6, wNext, wIsN, wNotN, wRet, wRetT, wRetN, wAndV, wOrV, wNotV, wIf, wBin, wBlt, wC, wCons, wNil, wTup, dats, gets, wAsg, wN, wN2, wN3, wPar, wAug, wCall, wCallP, wSetL, wF, fLst, fBlt, wApp, wPut, wNeg, wLc, wYes, elW, wipeE, wTupRg, fRng1, wRng1, wRng2, wIt, wItV, it1, it2, it3, it4, wChain, wSl, wNoPart, wPart, wDPut, wDDisp, wDNew, kit1, kit2, kit3, kit4, kit5, kit6, kit7, kit8, kit9, kit10, kit11, kit12, kit13, kit14, kit15, kit16, kit17, kit18, kit19, kit20, kit21, kit22, kit23, kit24, kit25, kit26, kit27, kit28, kit29, kit30, mlLen, shp_bl, shp_int, shp_non, eqv_bl, eqv_ii, and_assoc, exists_and_left, row_iff, Int.ofNat_inj, flat_row, len_row, nd_row, ty_row, isTup_row, ix_row, ix_row', eqv_row, eq_dn, eq_ii, add_ii, lt_ii, le_ii, gt_ii, ge_ii, sub_ii, mod_ii, len_li, len_tu]
  · rintro x rest e ⟨s2, s3, s4, s5, s6, s7, s8, s9, s10, s11, s12, s13, s14, s15, s16, s17, s18, s19, s20, s21, s22, s23, s24, s25, s26, s27, rfl⟩ N hN
    simp [wSeq, wIfS, wOr, wAnd, wNot, wTest, wIsi, wVar, startE, Op.get, Op.clean, noDct, ty1, ty2, ty3, ty4, ty5, ty6, wNext, wIsN, wNotN, wRet, wRetT, wRetN, wAndV, wOrV, wNotV, wIf, wBin, wBlt, wC, wCons, wNil, wTup, dats, gets, wAsg, wN, wN2, wN3, wPar, wAug, wCall, wCallP, wSetL, wF, fLst, fBlt, wApp, wPut, wNeg, wLc, wYes, elW, wipeE, wTupRg, fRng1, wRng1, wRng2, wIt, wItV, it1, it2, it3, it4, wChain, wSl, wNoPart, wPart, wDPut, wDDisp, wDNew, kit1, kit2, kit3, kit4, kit5, kit6, kit7, kit8, kit9, kit10, kit11, kit12, kit13, kit14, kit15, kit16, kit17, kit18, kit19, kit20, kit21, kit22, kit23, kit24, kit25, kit26, kit27, kit28, kit29, kit30, mlLen, shp_bl, shp_int, shp_non, eqv_bl, eqv_ii, and_assoc, exists_and_left, row_iff, Int.ofNat_inj, flat_row, len_row, nd_row, ty_row, isTup_row, ix_row, ix_row', eqv_row, eq_dn, eq_ii, add_ii, lt_ii, le_ii, gt_ii, ge_ii, sub_ii, mod_ii, len_li, len_tu, g__law_draw, add1, add2]
    intro r1 hr1 r2 hr2
    have hr1' : r1 < 2 := by omega
    have hr2' : r2 < 2 := by omega
    generalize hL : 1 + r1 = L
    have hL1 : 1 ≤ L ∧ L ≤ 2 := by omega
    refine ⟨((2 + r2 : Nat) : Int), rfl, by omega, by omega, by rw [rangeD_len]; omega, ?_⟩
    rw [Int.toNat_natCast, rangeD_row]
    refine lcW_any (acc := []) dn dn (fun y => 1 ≤ y ∧ y ≤ 3) (List.range (2 + r2)) (fun y hy k hk => ?_) (fun sizes z1 z2 => ?_)
    · simp [wSeq, wIfS, wOr, wAnd, wNot, wTest, wIsi, wVar, startE, Op.get, Op.clean, noDct, ty1, ty2, ty3, ty4, ty5, ty6, wNext, wIsN, wNotN, wRet, wRetT, wRetN, wAndV, wOrV, wNotV, wIf, wBin, wBlt, wC, wCons, wNil, wTup, dats, gets, wAsg, wN, wN2, wN3, wPar, wAug, wCall, wCallP, wSetL, wF, fLst, fBlt, wApp, wPut, wNeg, wLc, wYes, elW, wipeE, wTupRg, fRng1, wRng1, wRng2, wIt, wItV, it1, it2, it3, it4, wChain, wSl, wNoPart, wPart, wDPut, wDDisp, wDNew, kit1, kit2, kit3, kit4, kit5, kit6, kit7, kit8, kit9, kit10, kit11, kit12, kit13, kit14, kit15, kit16, kit17, kit18, kit19, kit20, kit21, kit22, kit23, kit24, kit25, kit26, kit27, kit28, kit29, kit30, mlLen, shp_bl, shp_int, shp_non, eqv_bl, eqv_ii, and_assoc, exists_and_left, row_iff, Int.ofNat_inj, flat_row, len_row, nd_row, ty_row, isTup_row, ix_row, ix_row', eqv_row, eq_dn, eq_ii, add_ii, lt_ii, le_ii, gt_ii, ge_ii, sub_ii, mod_ii, len_li, len_tu, g__law_draw, add1]
      exact fun q hq => hk _ ⟨by omega, by omega⟩
    have zl : sizes.length = 2 + r2 := by simpa using z1
    have zb : ∀ s ∈ sizes, 1 ≤ s ∧ s ≤ 3 := fun s hs => by
      rcases z2 s hs with h | h
      · simp at h
      · exact h
    refine ⟨L, sizes, rfl, by omega, by omega, fun s hs => ⟨(zb s hs).1, by have := (zb s hs).2; omega⟩, fun ss W => ?_⟩
    obtain ⟨sz, m0, rfl⟩ := snoc_of sizes (fun e => by rw [e] at zl; simp at zl; omega)
    have hWl := W.len
    obtain ⟨ss0, s0, rfl⟩ := snoc_of ss (fun e => by rw [e] at hWl; simp at hWl)
    have W0 := W.init
    have zl0 : sz.length = 1 + r2 := by simp at zl; omega
    have hW0 := W0.len
    have hin1 : ∀ {c}, InS (sz ++ [m0]) c → c.length ≤ 100000 := fun {c} h => by have := h.1; simp at this; omega
    have hal : (allS (sz ++ [m0])).length ≤ 27 := by
      have h2 := len_allS 3 (sz ++ [m0]) fun s h => (zb s h).2
      have h3 : 3 ^ (sz ++ [m0]).length ≤ 3 ^ 3 := Nat.pow_le_pow_right (by decide) (by simp; omega)
      omega
    refine ⟨encC L (ss0 ++ [s0]), .list (encL (allS (sz ++ [m0]))), rfl, _, ix_c1.mpr rfl, _, sl_ss.mpr rfl, _, rfl, by rw [len_encL]; exact pos_allS _ fun s h => (zb s h).1, by rw [len_encL]; omega, fun d hd => ?_⟩
    obtain ⟨p, hp, rfl⟩ := List.mem_map.mp hd
    have hpI := (mem_allS _ p).mp hp
    refine ⟨L, sz ++ [m0], ss0 ++ [s0], [p], rfl, W, by simp, fun x hx => by simp at hx; subst hx; exact hpI, by simp, fun cs R => ?_⟩
    have cI := R.inS W fun x hx => by simp at hx; subst hx; exact hpI
    have cN := ltR_nodup R.up
    have cl : cs.length ≤ 27 := Nat.le_trans (nodup_len _ _ cN fun c hc => (mem_allS _ c).mpr (cI c hc)) hal
    simp [fSortSetT, wSeq, wIfS, wOr, wAnd, wNot, wTest, wIsi, wVar, startE, Op.get, Op.clean, noDct, ty1, ty2, ty3, ty4, ty5, ty6, wNext, wIsN, wNotN, wRet, wRetT, wRetN, wAndV, wOrV, wNotV, wIf, wBin, wBlt, wC, wCons, wNil, wTup, dats, gets, wAsg, wN, wN2, wN3, wPar, wAug, wCall, wCallP, wSetL, wF, fLst, fBlt, wApp, wPut, wNeg, wLc, wYes, elW, wipeE, wTupRg, fRng1, wRng1, wRng2, wIt, wItV, it1, it2, it3, it4, wChain, wSl, wNoPart, wPart, wDPut, wDDisp, wDNew, kit1, kit2, kit3, kit4, kit5, kit6, kit7, kit8, kit9, kit10, kit11, kit12, kit13, kit14, kit15, kit16, kit17, kit18, kit19, kit20, kit21, kit22, kit23, kit24, kit25, kit26, kit27, kit28, kit29, kit30, mlLen, shp_bl, shp_int, shp_non, eqv_bl, eqv_ii, and_assoc, exists_and_left, row_iff, Int.ofNat_inj, flat_row, len_row, nd_row, ty_row, isTup_row, ix_row, ix_row', eqv_row, eq_dn, eq_ii, add_ii, lt_ii, le_ii, gt_ii, ge_ii, sub_ii, mod_ii, len_li, len_tu, len_encL]
    refine ⟨by omega, lcW_map encR (fun h => encR h.dropLast) cs [] (fun h hh k w => ?_) ?_⟩
    · simp [wSeq, wIfS, wOr, wAnd, wNot, wTest, wIsi, wVar, startE, Op.get, Op.clean, noDct, ty1, ty2, ty3, ty4, ty5, ty6, wNext, wIsN, wNotN, wRet, wRetT, wRetN, wAndV, wOrV, wNotV, wIf, wBin, wBlt, wC, wCons, wNil, wTup, dats, gets, wAsg, wN, wN2, wN3, wPar, wAug, wCall, wCallP, wSetL, wF, fLst, fBlt, wApp, wPut, wNeg, wLc, wYes, elW, wipeE, wTupRg, fRng1, wRng1, wRng2, wIt, wItV, it1, it2, it3, it4, wChain, wSl, wNoPart, wPart, wDPut, wDDisp, wDNew, kit1, kit2, kit3, kit4, kit5, kit6, kit7, kit8, kit9, kit10, kit11, kit12, kit13, kit14, kit15, kit16, kit17, kit18, kit19, kit20, kit21, kit22, kit23, kit24, kit25, kit26, kit27, kit28, kit29, kit30, mlLen, shp_bl, shp_int, shp_non, eqv_bl, eqv_ii, and_assoc, exists_and_left, row_iff, Int.ofNat_inj, flat_row, len_row, nd_row, ty_row, isTup_row, ix_row, ix_row', eqv_row, eq_dn, eq_ii, add_ii, lt_ii, le_ii, gt_ii, ge_ii, sub_ii, mod_ii, len_li, len_tu]
      refine ⟨_, sl_init.mpr rfl, w⟩
    have cD : ∀ c ∈ cs, ∃ c' x, c = c' ++ [x] ∧ InS sz c' ∧ x < m0 := fun c hc => (cI c hc).split
    refine ⟨(cs.map List.dropLast).map cz, by simp [tupI_cz, Function.comp_def], by simp; omega, ?_, fun ks h1 h2 => ?_⟩
    · intro k hk
      obtain ⟨c', hc', rfl⟩ := List.mem_map.mp hk
      obtain ⟨c, hc, rfl⟩ := List.mem_map.mp hc'
      obtain ⟨c0, x0, rfl, hc0, _⟩ := cD c hc
      intro e
      have := cz_inj (b := []) (e.trans rfl)
      have l := hc0.1
      rw [List.dropLast_concat] at this
      rw [this] at l
      simp at l
      omega
    obtain ⟨bs, b1, b2, eks⟩ := sorted_ks (cs.map List.dropLast) ks h1 h2
    rw [eks]
    have bN := ltR_nodup b1
    have bI : ∀ b ∈ bs, ∃ x, b ++ [x] ∈ cs ∧ InS sz b := fun b hb => by
      obtain ⟨c, hc, rfl⟩ := List.mem_map.mp ((b2 b).mp hb)
      obtain ⟨c0, x0, rfl, hc0, _⟩ := cD c hc
      rw [List.dropLast_concat]
      exact ⟨x0, hc, hc0⟩
    have bOf : ∀ c x, c ++ [x] ∈ cs → c ∈ bs := fun c x hc => (b2 c).mpr (List.mem_map.mpr ⟨_, hc, List.dropLast_concat⟩)
    have stp : ∀ c x a, c ++ [x] ∈ cs → stepL (ss0 ++ [s0]) (c ++ [x]) a = stepL ss0 c a ++ [rg (rowC (ss0 ++ [s0]) ss0.length c a) x] := fun c x a hc => stepL_snoc (by
      have := (cI _ hc).1
      simp at this
      omega)
    have bC : ∀ b ∈ bs, ∀ a, a < L → stepL ss0 b a ∈ bs := fun b hb a ha => by
      obtain ⟨x, hc, _⟩ := bI b hb
      have := R.cl _ hc a ha
      rw [stp b x a hc] at this
      exact bOf _ _ this
    have bl : bs.length ≤ 27 := by
      have := nodup_len _ _ bN fun b hb => (b2 b).mp hb
      simp at this
      omega
    have bS : ∀ b ∈ bs, b.length ≤ 100000 := fun b hb => by
      obtain ⟨_, _, h⟩ := bI b hb
      have := h.1
      omega
    refine ⟨.tuple (encL bs), rfl, ?_⟩
    refine ⟨L, sz, ss0, bs, rfl, W0, fun e => by rw [e] at zl0; simp at zl0; omega, fun b hb => by obtain ⟨_, _, h⟩ := bI b hb; exact h, by omega, fun rs R2 => ?_⟩
    rw [R2.closed b1 bC]
    refine ⟨.tuple (encL bs), rfl, sm_rowsT (by omega) bS, rfl, ?_⟩
    refine ⟨L, sz ++ [m0], ss0 ++ [s0], cs, rfl, W, by omega, fun c hc => ⟨cI c hc, fun a ha => R.cl c hc a ha⟩, ?_⟩
    refine ⟨L, sz, ss0, bs, rfl, W0, by omega, fun b hb => ⟨by obtain ⟨_, _, h⟩ := bI b hb; exact h, bC b hb⟩, by omega, ?_⟩
    have M1 : MOk cs.length (flatL L (ss0 ++ [s0]) cs) := mok_flat (by omega) (List.length_pos_of_mem (R.has p (by simp))) (by omega) fun c hc a ha => R.cl c hc a ha
    have M2 : MOk bs.length (flatL L ss0 bs) := mok_flat (by omega) (by
      obtain ⟨p', x', rfl, _, _⟩ := cD p (R.has p (by simp))
      exact List.length_pos_of_mem (bOf p' x' (R.has _ (by simp)))) (by omega) bC
    have key : ∀ a, a < L → ∀ q, q < cs.length → rg (cs.map fun h => bs.idxOf h.dropLast) (rg (rowAt (flatL L (ss0 ++ [s0]) cs) a) q) = rg (rowAt (flatL L ss0 bs) a) (rg (cs.map fun h => bs.idxOf h.dropLast) q) := fun a ha q hq => by
      have hm : rowAt cs q ∈ cs := List.mem_of_getElem? (rowAt_of hq)
      obtain ⟨c0, x0, ec, hc0, _⟩ := cD _ hm
      rw [ec] at hm
      have hb := bOf _ _ hm
      have h1 := R.cl _ hm a ha
      rw [rowAt_flat ha, rowAt_flat ha, rg_idx hq, rg_idx hq, rg_idx (List.idxOf_lt_length_iff.mpr (by rw [ec]; exact h1)), ec, List.dropLast_concat, rg_idx (List.idxOf_lt_length_iff.mpr hb), rowAt_idx' h1, rowAt_idx' hb, stp _ _ _ hm, List.dropLast_concat]
    have tl : (cs.map fun h => bs.idxOf h.dropLast).length = cs.length := by simp
    have tlt : ∀ x ∈ (cs.map fun h => bs.idxOf h.dropLast), x < bs.length := fun x hx => by
      obtain ⟨c, hc, rfl⟩ := List.mem_map.mp hx
      exact List.idxOf_lt_length_iff.mpr ((b2 _).mpr (List.mem_map.mpr ⟨c, hc, rfl⟩))
    have onto : ∀ q, q < bs.length → q ∈ (cs.map fun h => bs.idxOf h.dropLast) := fun q hq => by
      have hm : rowAt bs q ∈ bs := List.mem_of_getElem? (rowAt_of hq)
      obtain ⟨x, hc, _⟩ := bI _ hm
      refine List.mem_map.mpr ⟨_, hc, ?_⟩
      rw [List.dropLast_concat, idx_rowAt bN hq]
    refine lcW_map encR (fun h => dn (bs.idxOf h.dropLast)) cs [] (fun h hh k w => ?_) ?_
    · obtain ⟨c0, x0, rfl, hc0, _⟩ := cD h hh
      rw [List.dropLast_concat] at w
      obtain ⟨t1, t2, z, t3, t4, t5⟩ := tidx_rows (by omega) bS (bOf c0 x0 hh)
      simp [wSeq, wIfS, wOr, wAnd, wNot, wTest, wIsi, wVar, startE, Op.get, Op.clean, noDct, ty1, ty2, ty3, ty4, ty5, ty6, wNext, wIsN, wNotN, wRet, wRetT, wRetN, wAndV, wOrV, wNotV, wIf, wBin, wBlt, wC, wCons, wNil, wTup, dats, gets, wAsg, wN, wN2, wN3, wPar, wAug, wCall, wCallP, wSetL, wF, fLst, fBlt, wApp, wPut, wNeg, wLc, wYes, elW, wipeE, wTupRg, fRng1, wRng1, wRng2, wIt, wItV, it1, it2, it3, it4, wChain, wSl, wNoPart, wPart, wDPut, wDDisp, wDNew, kit1, kit2, kit3, kit4, kit5, kit6, kit7, kit8, kit9, kit10, kit11, kit12, kit13, kit14, kit15, kit16, kit17, kit18, kit19, kit20, kit21, kit22, kit23, kit24, kit25, kit26, kit27, kit28, kit29, kit30, mlLen, shp_bl, shp_int, shp_non, eqv_bl, eqv_ii, and_assoc, exists_and_left, row_iff, Int.ofNat_inj, flat_row, len_row, nd_row, ty_row, isTup_row, ix_row, ix_row', eqv_row, eq_dn, eq_ii, add_ii, lt_ii, le_ii, gt_ii, ge_ii, sub_ii, mod_ii, len_li, len_tu, wTIndex]
      refine ⟨_, sl_init.mpr rfl, ?_⟩
      rw [List.dropLast_concat]
      exact ⟨t1, t2, _, z, t3, t4, t5, w⟩
    refine ⟨encR (cs.map fun h => bs.idxOf h.dropLast), by simp [TupR, encR, Function.comp_def], ?_⟩
    generalize (cs.map fun h => bs.idxOf h.dropLast) = row at key tl tlt onto
    refine ⟨by omega, by rw [rangeD_len]; omega, ?_⟩
    rw [rangeD_row]
    refine lcW_map dn (fun i => .tuple [dn i, dn (rg row i)]) _ [] (fun i hi k w => ?_) ?_
    · simp [wSeq, wIfS, wOr, wAnd, wNot, wTest, wIsi, wVar, startE, Op.get, Op.clean, noDct, ty1, ty2, ty3, ty4, ty5, ty6, wNext, wIsN, wNotN, wRet, wRetT, wRetN, wAndV, wOrV, wNotV, wIf, wBin, wBlt, wC, wCons, wNil, wTup, dats, gets, wAsg, wN, wN2, wN3, wPar, wAug, wCall, wCallP, wSetL, wF, fLst, fBlt, wApp, wPut, wNeg, wLc, wYes, elW, wipeE, wTupRg, fRng1, wRng1, wRng2, wIt, wItV, it1, it2, it3, it4, wChain, wSl, wNoPart, wPart, wDPut, wDDisp, wDNew, kit1, kit2, kit3, kit4, kit5, kit6, kit7, kit8, kit9, kit10, kit11, kit12, kit13, kit14, kit15, kit16, kit17, kit18, kit19, kit20, kit21, kit22, kit23, kit24, kit25, kit26, kit27, kit28, kit29, kit30, mlLen, shp_bl, shp_int, shp_non, eqv_bl, eqv_ii, and_assoc, exists_and_left, row_iff, Int.ofNat_inj, flat_row, len_row, nd_row, ty_row, isTup_row, ix_row, ix_row', eqv_row, eq_dn, eq_ii, add_ii, lt_ii, le_ii, gt_ii, ge_ii, sub_ii, mod_ii, len_li, len_tu]
      exact ⟨_, ⟨_, getD_of (show i < row.length by rw [tl]; simpa using hi), rfl⟩, w⟩
    refine ⟨encT row, by simp [TupR, encT, tl], bs.length, flatL L ss0 bs, cs.length, flatL L (ss0 ++ [s0]) cs, _, rfl, M2, M1, ⟨tl, by simp [flatL], tlt, onto, fun a ha i hi => key a (by simpa [flatL] using ha) i hi⟩, rfl, ?_⟩
    refine ⟨cs.length, flatL L (ss0 ++ [s0]) cs, bs.length, flatL L ss0 bs, _, rfl, M1, M2, by simp [flatL], tl, tlt, fun a ha q hq => key a (by simpa [flatL] using ha) q hq, rfl, ?_⟩
    intro r hr
    generalize hM : 1 + r = M
    have hM1 : 1 ≤ M ∧ M ≤ 4 := by omega
    refine ⟨(L : Int), rfl, by omega, by omega, by rw [rangeD_len]; omega, ?_⟩
    rw [Int.toNat_natCast, rangeD_row]
    have er0 : ∀ r z, EqR (dn r) (.int 0) z = (z = .bool (decide (r = 0))) := fun r z => eq_dn (y := 0)
    refine lcW_any (acc := []) dn encR (rowOf M) (List.range L) (fun a ha k hk => ?_) (fun done0 d1 d2 => ?_)
    · simp [wSeq, wIfS, wOr, wAnd, wNot, wTest, wIsi, wVar, startE, Op.get, Op.clean, noDct, ty1, ty2, ty3, ty4, ty5, ty6, wNext, wIsN, wNotN, wRet, wRetT, wRetN, wAndV, wOrV, wNotV, wIf, wBin, wBlt, wC, wCons, wNil, wTup, dats, gets, wAsg, wN, wN2, wN3, wPar, wAug, wCall, wCallP, wSetL, wF, fLst, fBlt, wApp, wPut, wNeg, wLc, wYes, elW, wipeE, wTupRg, fRng1, wRng1, wRng2, wIt, wItV, it1, it2, it3, it4, wChain, wSl, wNoPart, wPart, wDPut, wDDisp, wDNew, kit1, kit2, kit3, kit4, kit5, kit6, kit7, kit8, kit9, kit10, kit11, kit12, kit13, kit14, kit15, kit16, kit17, kit18, kit19, kit20, kit21, kit22, kit23, kit24, kit25, kit26, kit27, kit28, kit29, kit30, mlLen, shp_bl, shp_int, shp_non, eqv_bl, eqv_ii, and_assoc, exists_and_left, row_iff, Int.ofNat_inj, flat_row, len_row, nd_row, ty_row, isTup_row, ix_row, ix_row', eqv_row, eq_dn, eq_ii, add_ii, lt_ii, le_ii, gt_ii, ge_ii, sub_ii, mod_ii, len_li, len_tu, g__law_draw, er0]
      intro q hq
      have em : rangeD 0 ((M : Nat) : Int).toNat = (List.range M).map dn := by rw [Int.toNat_natCast, rangeD_row]
      by_cases c : q = 0
      · exact .inr ⟨c, M, rfl, by omega, by omega, fun r hr => hk r hr⟩
      · refine .inl ⟨c, (M : Int), rfl, by omega, by omega, ?_⟩
        rw [em]
        exact hk (List.range M) ⟨by simp, fun x hx => by simpa using hx⟩
    have dl0 : done0.length = L := by simpa using d1
    have dr0 : ∀ r ∈ done0, rowOf M r := fun r hr => by
      rcases d2 r hr with h | h
      · simp at h
      · exact h
    refine ⟨by simp; omega, lcW_any (acc := []) encR encR (rowOf M) done0 (fun y hy k hk => ?_) (fun done d3 d4 => ?_)⟩
    · have q := dr0 y hy
      simp [wSeq, wIfS, wOr, wAnd, wNot, wTest, wIsi, wVar, startE, Op.get, Op.clean, noDct, ty1, ty2, ty3, ty4, ty5, ty6, wNext, wIsN, wNotN, wRet, wRetT, wRetN, wAndV, wOrV, wNotV, wIf, wBin, wBlt, wC, wCons, wNil, wTup, dats, gets, wAsg, wN, wN2, wN3, wPar, wAug, wCall, wCallP, wSetL, wF, fLst, fBlt, wApp, wPut, wNeg, wLc, wYes, elW, wipeE, wTupRg, fRng1, wRng1, wRng2, wIt, wItV, it1, it2, it3, it4, wChain, wSl, wNoPart, wPart, wDPut, wDDisp, wDNew, kit1, kit2, kit3, kit4, kit5, kit6, kit7, kit8, kit9, kit10, kit11, kit12, kit13, kit14, kit15, kit16, kit17, kit18, kit19, kit20, kit21, kit22, kit23, kit24, kit25, kit26, kit27, kit28, kit29, kit30, mlLen, shp_bl, shp_int, shp_non, eqv_bl, eqv_ii, and_assoc, exists_and_left, row_iff, Int.ofNat_inj, flat_row, len_row, nd_row, ty_row, isTup_row, ix_row, ix_row', eqv_row, eq_dn, eq_ii, add_ii, lt_ii, le_ii, gt_ii, ge_ii, sub_ii, mod_ii, len_li, len_tu, fSortSetI]
      refine ⟨y.map fun (x : Nat) => (x : Int), by simp [encR, dn, Function.comp_def], by simp; rw [q.1]; omega, fun ns p1 p2 => ?_⟩
      have hsh : shp (.tuple [.int 1, dn M]) = true := (Sm.tup (n := 1) (by simp) fun d hd => by
        simp at hd
        rcases hd with rfl | rfl <;> exact .int).shp
      refine ⟨_, ⟨shp_int, hsh, rfl⟩, ?_⟩
      generalize (([PyData.int 1, dn M].any fun y => PyData.eqv y (PyData.int (ns.length : Nat))) != false) = b
      cases b with
      | true => exact .inr ⟨rfl, hk y q⟩
      | false => exact .inl ⟨rfl, _, (mulT (x := 0) hM1.1 (by omega)).mpr rfl, hk (List.replicate M 0) ⟨by simp, fun x hx => by rw [(List.mem_replicate.mp hx).2]; omega⟩⟩
    have dl : done.length = L := by rw [← dl0]; simpa using d3
    have dr : ∀ r ∈ done, rowOf M r := fun r hr => by
      rcases d4 r hr with h | h
      · simp at h
      · exact h
    refine half2 _ L sz m0 _ _ ss0 _ _ _ _ _ M done _ _ _ _ _ _ _ _ _ _ _ _ N (fun t15 t16 t17 t18 t19 t20 t21 t22 t23 t24 t25 t26 t27 => ?_) _ rfl rfl W0 hL1 hM1 dl dr (by omega) (fun s hs => zb s (List.mem_append.mpr (.inl hs)))
    exact hN _ ⟨_, _, _, _, _, _, _, _, _, _, _, _, _, _, _, _, _, _, _, _, _, _, _, _, _, _, rfl⟩
end DL

namespace DL
theorem mono__law_same : Mono g__law_same := mono_same 6
end DL
namespace Row
open PySem L2 DL
def top (i : Nat) : Stmt := PySem.Challenge.pw_ringorflips_k36_whole_upper_stages_alone.main.body.getD i (.Pass ⟨0, 0, 0, 0⟩)
abbrev s_is_whole : Stmt := top 1
abbrev s_is_from : Stmt := top 2
abbrev s_done_at : Stmt := top 4
abbrev s_step : Stmt := top 5
abbrev s_reached : Stmt := top 6
abbrev s_flat : Stmt := top 7
abbrev s_is_carried : Stmt := top 9
abbrev s_leads_along : Stmt := top 11
abbrev s__law_same : Stmt := top 13
abbrev s__law_pool : Stmt := top 14
abbrev s__law_spread : Stmt := top 15
abbrev s__law_draw : Stmt := top 16
abbrev s__law_pick : Stmt := top 17
abbrev s__law_shuffled : Stmt := top 18
abbrev s__law_row : Stmt := top 19
abbrev s__law_drawn_cascade : Stmt := top 20
abbrev s_law : Stmt := top 21
/-- a def of the top as it stands -/
structure DefAt (K : PySem.W.Frag) (mg : Str → Option Value) (x : Str) (st : Stmt) (ps : List Str) where
  f : Addr
  fd : FuncData
  F : FunD K x x (defArgs st) (defBody st) (defScope st) [] [] f fd
  g : mg x = some (.ref f)
  b : Binds K fd ps []
structure Txt (K : PySem.W.Frag) (mg : Str → Option Value) where
  is_whole : DefAt K mg "is_whole" s_is_whole ["value"]
  is_from : DefAt K mg "is_from" s_is_from ["value", "low", "high"]
  done_at : DefAt K mg "done_at" s_done_at ["stage", "above", "letter"]
  step : DefAt K mg "step" s_step ["cascade", "states", "letter"]
  reached : DefAt K mg "reached" s_reached ["cascade", "states"]
  flat : DefAt K mg "flat" s_flat ["cascade", "states"]
  is_carried : DefAt K mg "is_carried" s_is_carried ["machine", "other", "value"]
  leads_along : DefAt K mg "leads_along" s_leads_along ["machine", "other", "row"]
  _law_same : DefAt K mg "_law_same" s__law_same ["actual", "due"]
  _law_pool : DefAt K mg "_law_pool" s__law_pool ["script"]
  _law_spread : DefAt K mg "_law_spread" s__law_spread ["cell"]
  _law_draw : DefAt K mg "_law_draw" s__law_draw ["pool", "many"]
  _law_pick : DefAt K mg "_law_pick" s__law_pick ["pool", "items"]
  _law_shuffled : DefAt K mg "_law_shuffled" s__law_shuffled ["pool", "items"]
  _law_row : DefAt K mg "_law_row" s__law_row ["pool", "many"]
  _law_drawn_cascade : DefAt K mg "_law_drawn_cascade" s__law_drawn_cascade ["pool", "letters", "sizes", "flips"]
  law : DefAt K mg "law" s_law ["script"]
  n_all : mg "all" = none
  n_any : mg "any" = none
  n_bool : mg "bool" = none
  n_int : mg "int" = none
  n_isinstance : mg "isinstance" = none
  n_len : mg "len" = none
  n_list : mg "list" = none
  n_range : mg "range" = none
  n_set : mg "set" = none
  n_sorted : mg "sorted" = none
  n_str : mg "str" = none
  n_tuple : mg "tuple" = none
section
variable {P : Program} {w : World} {K : PySem.W.Frag} {mg : Str → Option Value} {base : Heap}
theorem sc_is_whole : FnScope ["value"] ["value"] (defScope s_is_whole) := ⟨rfl, rfl, rfl, by decide +kernel, rfl, by decide +kernel, by decide +kernel⟩
theorem ok_is_whole (T : Txt K mg) : FnOk P w K mg base CX0 1 T.is_whole.f T.is_whole.fd ["value"] (spF K 1 g_is_whole) := by
  refine fn_data (k := 0) T.is_whole.F sc_is_whole rfl mono_is_whole t_is_whole (fun cdv A outer s H E hr => ?_) pure_is_whole
  exact svs_one (sv_ret (ev_and (ev_isi T.n_isinstance T.n_int PyProof.Rows.boot_int (ev_var 0 (pv 0))) (ev_one (ev_not (ev_isi T.n_isinstance T.n_bool PyProof.Rows.boot_bool (ev_var 0 (pv 0)))))))
theorem sc_is_from : FnScope ["value", "low", "high"] ["value", "low", "high"] (defScope s_is_from) := ⟨rfl, rfl, rfl, by decide +kernel, rfl, by decide +kernel, by decide +kernel⟩
theorem ok_is_from (T : Txt K mg) : FnOk P w K mg base CX0 2 T.is_from.f T.is_from.fd ["value", "low", "high"] (spF K 3 g_is_from) := by
  refine fn_data (k := 1) T.is_from.F sc_is_from rfl mono_is_from t_is_from (fun cdv A outer s H E hr => ?_) pure_is_from
  exact svs_one (sv_ret (ev_and (ev_call (ok_is_whole T) mono_is_whole (hr.mono (by decide)) T.is_whole.g T.is_whole.F.kp T.is_whole.b (av_cons (ev_var 0 (pv 0)) (av_nil))) (ev_one (ev_chain op_le op_le sem_le sem_le (ev_var 1 (pv 1)) (ev_var 0 (pv 0)) (ev_var 2 (pv 2))))))
theorem sc_done_at : FnScope ["stage", "above", "letter", "rule"] ["stage", "above", "letter"] (defScope s_done_at) := ⟨rfl, rfl, rfl, by decide +kernel, rfl, by decide +kernel, by decide +kernel⟩
theorem ok_done_at (T : Txt K mg) : FnOk P w K mg base CX0 1 T.done_at.f T.done_at.fd ["stage", "above", "letter"] (spF K 3 g_done_at) := by
  refine fn_data (k := 0) T.done_at.F sc_done_at rfl mono_done_at t_done_at (fun cdv A outer s H E hr => ?_) pure_done_at
  exact svs_cons (sv_for (vs := [3]) PassesOwn.never rfl (gs_name 3 (by decide)) (iv_tup (ev_ix ix_seq sem_ix (ev_var 0 (pv 0)) (ev_int) (fun _ _ => rfl))) (pg_name (i := 3) sc_done_at.nd rfl (by first | exact Or.inl rfl | exact Or.inr rfl)) (svs_one (sv_if (tv_pw (wv_and (tv_cmp (op_eqD hr.units) sem_eq (ev_ix ix_seq sem_ix (ev_var 3 (pv 3)) (ev_int) (fun _ _ => rfl)) (ev_var 1 (pv 1)) (nomark _)) (wv_and1 (tv_cmp (op_eqD hr.units) sem_eq (ev_ix ix_seq sem_ix (ev_var 3 (pv 3)) (ev_int) (fun _ _ => rfl)) (ev_var 2 (pv 2)) (nomark _))))) (svs_one (sv_ret (ev_ix ix_seq sem_ix (ev_var 3 (pv 3)) (ev_int) (fun _ _ => rfl)))) (svs_nil)))) (svs_one (sv_ret (ev_non)))
theorem sc_step : FnScope ["cascade", "states", "letter", "found", "k", "row"] ["cascade", "states", "letter"] (defScope s_step) := ⟨rfl, rfl, rfl, by decide +kernel, rfl, by decide +kernel, by decide +kernel⟩
theorem ok_step (T : Txt K mg) : FnOk P w K mg base CX0 2 T.step.f T.step.fd ["cascade", "states", "letter"] (spF K 3 g_step) := by
  refine fn_data (k := 1) T.step.F sc_step rfl mono_step t_step (fun cdv A outer s H E hr => ?_) pure_step
  exact svs_cons (sv_set 3 sc_step.nd (ev_tup (av_nil))) (svs_cons (sv_for (vs := [4]) PassesOwn.never rfl (gs_name 4 (by decide)) (iv_rng1 T.n_range (ev_callB call_len sem_len rfl T.n_len PySem.boot_len (av_cons (ev_ix ix_seq sem_ix (ev_var 0 (pv 0)) (ev_int) (fun _ _ => rfl)) (av_nil)))) (pg_name (i := 4) sc_step.nd rfl (by first | exact Or.inl rfl | exact Or.inr rfl)) (svs_cons (sv_set 5 sc_step.nd (ev_call (ok_done_at T) mono_done_at (hr.mono (by decide)) T.done_at.g T.done_at.F.kp T.done_at.b (av_cons (ev_ix ix_seq sem_ix (ev_ix ix_seq sem_ix (ev_var 0 (pv 0)) (ev_int) (fun _ _ => rfl)) (ev_var 4 (pv 4)) (fun _ _ => rfl)) (av_cons (ev_slice (ev_var 1 (pv 1)) (ov_none) (ov_some (ev_var 4 (pv 4)))) (av_cons (ev_var 2 (pv 2)) (av_nil)))))) (svs_cons (sv_if (tv_isN (ev_var 5 (pv 5))) (svs_one (sv_ret (ev_non))) (svs_nil)) (svs_one (sv_aug 3 op_iadd sem_iadd sc_step.nd (ev_tup (av_cons (ev_ix ix_seq sem_ix (ev_var 5 (pv 5)) (ev_ix ix_seq sem_ix (ev_var 1 (pv 1)) (ev_var 4 (pv 4)) (fun _ _ => rfl)) (fun _ _ => rfl)) (av_nil)))))))) (svs_one (sv_ret (ev_var 3 (pv 3)))))
theorem sc_reached : FnScope ["cascade", "states", "found", "at", "letter", "there"] ["cascade", "states"] (defScope s_reached) := ⟨rfl, rfl, rfl, by decide +kernel, rfl, by decide +kernel, by decide +kernel⟩
theorem ok_reached (T : Txt K mg) : FnOk P w K mg base CX0 3 T.reached.f T.reached.fd ["cascade", "states"] (spF K 2 g_reached) := by
  refine fn_data (k := 2) T.reached.F sc_reached rfl mono_reached t_reached (fun cdv A outer s H E hr => ?_) pure_reached
  exact svs_cons (sv_setL 2 sc_reached.nd (fv_sortSetT hr rfl T.n_sorted T.n_set (ev_var 1 (pv 1)) PyProof.Rows.boot_sorted PyProof.Rows.boot_set)) (svs_cons (sv_set 3 sc_reached.nd (ev_int)) (svs_cons (sv_while PassesOwn.never (tv_cmp op_lt sem_lt (ev_var 3 (pv 3)) (ev_callB call_len sem_len rfl T.n_len PySem.boot_len (av_cons (ev_var 2 (pv 2)) (av_nil))) (nomark _)) (svs_cons (sv_for (vs := [4]) PassesOwn.never rfl (gs_name 4 (by decide)) (iv_rng1 T.n_range (ev_ix ix_seq sem_ix (ev_var 0 (pv 0)) (ev_int) (fun _ _ => rfl))) (pg_name (i := 4) sc_reached.nd rfl (by first | exact Or.inl rfl | exact Or.inr rfl)) (svs_cons (sv_set 5 sc_reached.nd (ev_call (ok_step T) mono_step (hr.mono (by decide)) T.step.g T.step.F.kp T.step.b (av_cons (ev_var 0 (pv 0)) (av_cons (ev_ix ix_seq sem_ix (ev_var 2 (pv 2)) (ev_var 3 (pv 3)) (fun _ _ => rfl)) (av_cons (ev_var 4 (pv 4)) (av_nil)))))) (svs_cons (sv_if (tv_isN (ev_var 5 (pv 5))) (svs_one (sv_ret (ev_non))) (svs_nil)) (svs_one (sv_if (tv_cmp (op_notInAll hr) sem_notIn (ev_var 5 (pv 5)) (ev_var 2 (pv 2)) (by rfl)) (svs_one (sv_app 2 (pv 2) (ev_var 5 (pv 5)))) (svs_nil)))))) (svs_one (sv_aug 3 op_iadd sem_iadd sc_reached.nd (ev_int))))) (svs_one (sv_ret (ev_callTy call_tupleF sem_tuple rfl T.n_tuple PyProof.Rows.boot_tuple (av_cons (ev_f (fv_callB (cr_sortD (hu64 hr)) sem_sortD rfl T.n_sorted PyProof.Rows.boot_sorted (av_cons (ev_var 2 (pv 2)) (av_nil)))) (av_nil)))))))
theorem sc_flat : FnScope ["cascade", "states", "letters", "k", "here"] ["cascade", "states"] (defScope s_flat) := ⟨rfl, rfl, rfl, by decide +kernel, rfl, by decide +kernel, by decide +kernel⟩
theorem ok_flat (T : Txt K mg) : FnOk P w K mg base CX0 3 T.flat.f T.flat.fd ["cascade", "states"] (spF K 2 g_flat) := by
  refine fn_data (k := 2) T.flat.F sc_flat rfl mono_flat t_flat (fun cdv A outer s H E hr => ?_) pure_flat
  exact svs_cons (sv_set 2 sc_flat.nd (ev_callTy cr_range1 sem_rng rfl T.n_range PyProof.Rows.boot_range (av_cons (ev_ix ix_seq sem_ix (ev_var 0 (pv 0)) (ev_int) (fun _ _ => rfl)) (av_nil)))) (svs_one (sv_ret (ev_tup (av_cons (ev_callB call_len sem_len rfl T.n_len PySem.boot_len (av_cons (ev_var 1 (pv 1)) (av_nil))) (av_cons (ev_callTy call_tupleF sem_tuple rfl T.n_tuple PyProof.Rows.boot_tuple (av_cons (ev_lc (own := [("k", 3)]) rfl sc_flat.nd (iv_w (iv_rngV (ev_var 2 (pv 2)))) (blkOk_by (by kernel_rfl)) (gs_name 3 (by decide)) (fun _ _ _ _ _ => (pg_name (i := 3) sc_flat.nd rfl (by first | exact Or.inl rfl | exact Or.inr rfl))) (fun _ _ _ _ _ => tvs_nil) (fun _ _ _ _ _ => ev_callTy call_tupleF sem_tuple rfl T.n_tuple PyProof.Rows.boot_tuple (av_cons (ev_lc (own := [("here", 4)]) rfl sc_flat.nd (iv_w (iv_tup (ev_var 1 (pv 1)))) (blkOk_by (by kernel_rfl)) (gs_name 4 (by decide)) (fun _ _ _ _ _ => (pg_name (i := 4) sc_flat.nd rfl (by first | exact Or.inl rfl | exact Or.inr rfl))) (fun _ _ _ _ _ => tvs_nil) (fun _ _ _ _ _ => ev_tindex hr (ev_var 1 (pv 1)) (ev_call (ok_step T) mono_step (hr.mono (by decide)) T.step.g T.step.F.kp T.step.b (av_cons (ev_var 0 (pv 0)) (av_cons (ev_var 4 (pv 4)) (av_cons (ev_var 3 (pv 3)) (av_nil))))))) (av_nil)))) (av_nil))) (av_nil))))))
theorem sc_is_carried : FnScope ["machine", "other", "value", "table", "here", "state", "k", "row", "q"] ["machine", "other", "value"] (defScope s_is_carried) := ⟨rfl, rfl, rfl, by decide +kernel, rfl, by decide +kernel, by decide +kernel⟩
theorem ok_is_carried (T : Txt K mg) : FnOk P w K mg base CX0 3 T.is_carried.f T.is_carried.fd ["machine", "other", "value"] (spF K 3 g_is_carried) := by
  refine fn_data (k := 2) T.is_carried.F sc_is_carried rfl mono_is_carried t_is_carried (fun cdv A outer s H E hr => ?_) pure_is_carried
  exact svs_cons (sv_if (tv_pw (wv_or (tv_not (tv_val (ev_isi T.n_isinstance T.n_tuple PyProof.Rows.boot_tuple (ev_var 2 (pv 2))))) (wv_or1 (tv_not (tv_val (ev_callB (cr_all rfl) sem_all rfl T.n_all PyProof.Rows.boot_all (av_cons (ev_lc (own := [("row", 7)]) rfl sc_is_carried.nd (iv_w (iv_tup (ev_var 2 (pv 2)))) (blkOk_by (by kernel_rfl)) (gs_name 7 (by decide)) (fun _ _ _ _ _ => (pg_name (i := 7) sc_is_carried.nd rfl (by first | exact Or.inl rfl | exact Or.inr rfl))) (fun _ _ _ _ _ => tvs_nil) (fun _ _ _ _ _ => ev_and (ev_isi T.n_isinstance T.n_tuple PyProof.Rows.boot_tuple (ev_var 7 (pv 7))) (ev_one (ev_cmp (op_eqD hr.units) sem_eq (ev_callB call_len sem_len rfl T.n_len PySem.boot_len (av_cons (ev_var 7 (pv 7)) (av_nil))) (ev_int) (nomark _))))) (av_nil)))))))) (svs_one (sv_ret (ev_bl))) (svs_nil)) (svs_cons (sv_if (tv_cmp (op_neD hr.units) sem_ne (ev_callB call_len sem_len rfl T.n_len PySem.boot_len (av_cons (ev_ix ix_seq sem_ix (ev_var 0 (pv 0)) (ev_int) (fun _ _ => rfl)) (av_nil))) (ev_callB call_len sem_len rfl T.n_len PySem.boot_len (av_cons (ev_ix ix_seq sem_ix (ev_var 1 (pv 1)) (ev_int) (fun _ _ => rfl)) (av_nil))) (nomark _)) (svs_one (sv_ret (ev_bl))) (svs_nil)) (svs_cons (sv_dnew 3 false sc_is_carried.nd) (svs_cons (sv_for (vs := [4, 5]) PassesOwn.never rfl (gs_two 4 5 (by decide) (by decide)) (iv_tup (ev_var 2 (pv 2))) (pg_tup rfl (pgs_cons (pg_name (i := 4) sc_is_carried.nd rfl (by first | exact Or.inl rfl | exact Or.inr rfl)) (pgs_cons (pg_name (i := 5) sc_is_carried.nd rfl (by first | exact Or.inl rfl | exact Or.inr rfl)) (pgs_nil)))) (svs_cons (sv_if (tv_pw (wv_or (tv_not (tv_val (ev_call (ok_is_from T) mono_is_from (hr.mono (by decide)) T.is_from.g T.is_from.F.kp T.is_from.b (av_cons (ev_var 4 (pv 4)) (av_cons (ev_int) (av_cons (ev_bin op_sub sem_sub (ev_ix ix_seq sem_ix (ev_var 1 (pv 1)) (ev_int) (fun _ _ => rfl)) (ev_int)) (av_nil))))))) (wv_or (tv_not (tv_val (ev_call (ok_is_from T) mono_is_from (hr.mono (by decide)) T.is_from.g T.is_from.F.kp T.is_from.b (av_cons (ev_var 5 (pv 5)) (av_cons (ev_int) (av_cons (ev_bin op_sub sem_sub (ev_ix ix_seq sem_ix (ev_var 0 (pv 0)) (ev_int) (fun _ _ => rfl)) (ev_int)) (av_nil))))))) (wv_or1 (tv_cmp (op_dIn (hu9 hr)) sem_dIn (ev_var 4 (pv 4)) (ev_var 3 (pv 3)) (by rfl)))))) (svs_one (sv_ret (ev_bl))) (svs_nil)) (svs_one (sv_dput hr 3 (pv 3) (ev_var 4 (pv 4)) (ev_var 5 (pv 5)))))) (svs_cons (sv_if (tv_val (ev_callB (cr_any rfl) sem_any rfl T.n_any PyProof.Rows.boot_any (av_cons (ev_lc (own := [("q", 8)]) rfl sc_is_carried.nd (iv_w (iv_rng1 T.n_range (ev_ix ix_seq sem_ix (ev_var 0 (pv 0)) (ev_int) (fun _ _ => rfl)))) (blkOk_by (by kernel_rfl)) (gs_name 8 (by decide)) (fun _ _ _ _ _ => (pg_name (i := 8) sc_is_carried.nd rfl (by first | exact Or.inl rfl | exact Or.inr rfl))) (fun _ _ _ _ _ => tvs_nil) (fun _ _ _ _ _ => ev_cmp (op_notInAll hr) sem_notIn (ev_var 8 (pv 8)) (ev_f (fv_dvals rfl T.n_list (ev_var 3 (pv 3)) PyProof.Rows.boot_list)) (by rfl))) (av_nil)))) (svs_one (sv_ret (ev_bl))) (svs_nil)) (svs_cons (sv_forK (vs := [4]) 3 PassesOwn.never rfl (gs_name 4 (by decide)) (pv 3) (pg_name (i := 4) sc_is_carried.nd rfl (by first | exact Or.inl rfl | exact Or.inr rfl)) (svs_one (sv_for (vs := [6]) PassesOwn.never rfl (gs_name 6 (by decide)) (iv_rng1 T.n_range (ev_callB call_len sem_len rfl T.n_len PySem.boot_len (av_cons (ev_ix ix_seq sem_ix (ev_var 0 (pv 0)) (ev_int) (fun _ _ => rfl)) (av_nil)))) (pg_name (i := 6) sc_is_carried.nd rfl (by first | exact Or.inl rfl | exact Or.inr rfl)) (svs_one (sv_if (tv_cmp (op_neD hr.units) sem_ne (ev_dget hr (ev_var 3 (pv 3)) (ev_ix ix_seq sem_ix (ev_ix ix_seq sem_ix (ev_ix ix_seq sem_ix (ev_var 1 (pv 1)) (ev_int) (fun _ _ => rfl)) (ev_var 6 (pv 6)) (fun _ _ => rfl)) (ev_var 4 (pv 4)) (fun _ _ => rfl))) (ev_ix ix_seq sem_ix (ev_ix ix_seq sem_ix (ev_ix ix_seq sem_ix (ev_var 0 (pv 0)) (ev_int) (fun _ _ => rfl)) (ev_var 6 (pv 6)) (fun _ _ => rfl)) (ev_ix (ix_dict (hu9 hr)) sem_dIx (ev_var 3 (pv 3)) (ev_var 4 (pv 4)) (fun _ _ => rfl)) (fun _ _ => rfl)) (nomark _)) (svs_one (sv_ret (ev_bl))) (svs_nil)))))) (svs_one (sv_ret (ev_bl))))))))
theorem sc_leads_along : FnScope ["machine", "other", "row", "many", "k", "q"] ["machine", "other", "row"] (defScope s_leads_along) := ⟨rfl, rfl, rfl, by decide +kernel, rfl, by decide +kernel, by decide +kernel⟩
theorem ok_leads_along (T : Txt K mg) : FnOk P w K mg base CX0 1 T.leads_along.f T.leads_along.fd ["machine", "other", "row"] (spF K 3 g_leads_along) := by
  refine fn_data (k := 0) T.leads_along.F sc_leads_along rfl mono_leads_along t_leads_along (fun cdv A outer s H E hr => ?_) pure_leads_along
  exact svs_cons (sv_set 3 sc_leads_along.nd (ev_callB call_len sem_len rfl T.n_len PySem.boot_len (av_cons (ev_ix ix_seq sem_ix (ev_var 0 (pv 0)) (ev_int) (fun _ _ => rfl)) (av_nil)))) (svs_one (sv_ret (ev_callB (cr_all rfl) sem_all rfl T.n_all PyProof.Rows.boot_all (av_cons (ev_lc2 (own := [("k", 4), ("q", 5)]) (vs1 := [5]) rfl sc_leads_along.nd (iv_w (iv_rng1 T.n_range (ev_var 3 (pv 3)))) (blkOk_by (by kernel_rfl)) (by decide) (gs_name 4 (by decide)) (gs_name 5 (by decide)) (fun _ _ _ _ _ => (pg_name (i := 4) sc_leads_along.nd rfl (by first | exact Or.inl rfl | exact Or.inr rfl))) (fun _ _ _ _ _ => tvs_nil) (fun _ _ _ _ _ => iv_rng1 T.n_range (ev_ix ix_seq sem_ix (ev_var 0 (pv 0)) (ev_int) (fun _ _ => rfl))) (fun _ _ _ _ _ => (pg_name (i := 5) sc_leads_along.nd rfl (by first | exact Or.inl rfl | exact Or.inr rfl))) (fun _ _ _ _ _ => tvs_nil) (fun _ _ _ _ _ => ev_cmp (op_eqD hr.units) sem_eq (ev_ix ix_seq sem_ix (ev_var 2 (pv 2)) (ev_ix ix_seq sem_ix (ev_ix ix_seq sem_ix (ev_ix ix_seq sem_ix (ev_var 0 (pv 0)) (ev_int) (fun _ _ => rfl)) (ev_var 4 (pv 4)) (fun _ _ => rfl)) (ev_var 5 (pv 5)) (fun _ _ => rfl)) (fun _ _ => rfl)) (ev_ix ix_seq sem_ix (ev_ix ix_seq sem_ix (ev_ix ix_seq sem_ix (ev_var 1 (pv 1)) (ev_int) (fun _ _ => rfl)) (ev_var 4 (pv 4)) (fun _ _ => rfl)) (ev_ix ix_seq sem_ix (ev_var 2 (pv 2)) (ev_var 5 (pv 5)) (fun _ _ => rfl)) (fun _ _ => rfl)) (nomark _))) (av_nil)))))
theorem sc__law_same : FnScope ["actual", "due", "k"] ["actual", "due"] (defScope s__law_same) := ⟨rfl, rfl, rfl, by decide +kernel, rfl, by decide +kernel, by decide +kernel⟩
theorem ok_same (T : Txt K mg) : ∀ n, FnOk P w K mg base CX0 n T._law_same.f T._law_same.fd ["actual", "due"] (spF K 2 (g_same n))
  | 0 => ⟨fun vs H Q E h => spF_len _ _ _ _ h, fun A outer s H args us vs Q E hr he hb hv ⟨M, ds, _, _, _, h⟩ => h.elim⟩
  | n + 1 => by
    have IH := ok_same T n
    have mono__law_same := mono_same n
    refine fn_data (k := n) T._law_same.F sc__law_same rfl (mono_same (n + 1)) (t_same (g_same n)) (fun cdv A outer s H E hr => ?_) (pure_same n)
    exact svs_cons (sv_if (tv_pw (wv_or (tv_val (ev_isi T.n_isinstance T.n_tuple PyProof.Rows.boot_tuple (ev_var 1 (pv 1)))) (wv_or1 (tv_val (ev_isi T.n_isinstance T.n_list PyProof.Rows.boot_list (ev_var 1 (pv 1))))))) (svs_cons (sv_if (tv_pw (wv_or (tv_cmp (op_neD hr.units) sem_ne (ev_isi T.n_isinstance T.n_tuple PyProof.Rows.boot_tuple (ev_var 1 (pv 1))) (ev_isi T.n_isinstance T.n_tuple PyProof.Rows.boot_tuple (ev_var 0 (pv 0))) (nomark _)) (wv_or (tv_cmp (op_neD hr.units) sem_ne (ev_isi T.n_isinstance T.n_list PyProof.Rows.boot_list (ev_var 1 (pv 1))) (ev_isi T.n_isinstance T.n_list PyProof.Rows.boot_list (ev_var 0 (pv 0))) (nomark _)) (wv_or1 (tv_cmp (op_neD hr.units) sem_ne (ev_callB call_len sem_len rfl T.n_len PySem.boot_len (av_cons (ev_var 0 (pv 0)) (av_nil))) (ev_callB call_len sem_len rfl T.n_len PySem.boot_len (av_cons (ev_var 1 (pv 1)) (av_nil))) (nomark _)))))) (svs_one (sv_ret (ev_bl))) (svs_nil)) (svs_one (sv_ret (ev_cmp (op_eqD hr.units) sem_eq (ev_callB call_len sem_len rfl T.n_len PySem.boot_len (av_cons (ev_lc (own := [("k", 2)]) rfl sc__law_same.nd (iv_w (iv_rng1 T.n_range (ev_callB call_len sem_len rfl T.n_len PySem.boot_len (av_cons (ev_var 1 (pv 1)) (av_nil))))) (blkOk_by (by kernel_rfl)) (gs_name 2 (by decide)) (fun _ _ _ _ _ => (pg_name (i := 2) sc__law_same.nd rfl (by first | exact Or.inl rfl | exact Or.inr rfl))) (fun _ _ _ _ _ => tvs_one (tv_not (tv_val (ev_call IH mono__law_same (hr.mono (by omega)) T._law_same.g T._law_same.F.kp T._law_same.b (av_cons (ev_ix ix_seq sem_ix (ev_var 0 (pv 0)) (ev_var 2 (pv 2)) (fun _ _ => rfl)) (av_cons (ev_ix ix_seq sem_ix (ev_var 1 (pv 1)) (ev_var 2 (pv 2)) (fun _ _ => rfl)) (av_nil))))))) (fun _ _ _ _ _ => ev_var 2 (pv 2))) (av_nil))) (ev_int) (nomark _))))) (svs_nil)) (svs_cons (sv_if (tv_isN (ev_var 1 (pv 1))) (svs_one (sv_ret (ev_isN (ev_var 0 (pv 0))))) (svs_nil)) (svs_cons (sv_if (tv_pw (wv_or (tv_val (ev_isi T.n_isinstance T.n_bool PyProof.Rows.boot_bool (ev_var 1 (pv 1)))) (wv_or1 (tv_val (ev_isi T.n_isinstance T.n_bool PyProof.Rows.boot_bool (ev_var 0 (pv 0))))))) (svs_one (sv_ret (ev_and (ev_isi T.n_isinstance T.n_bool PyProof.Rows.boot_bool (ev_var 1 (pv 1))) (ev_and (ev_isi T.n_isinstance T.n_bool PyProof.Rows.boot_bool (ev_var 0 (pv 0))) (ev_one (ev_cmp (op_eqD hr.units) sem_eq (ev_var 0 (pv 0)) (ev_var 1 (pv 1)) (nomark _))))))) (svs_nil)) (svs_cons (sv_if (tv_val (ev_isi T.n_isinstance T.n_int PyProof.Rows.boot_int (ev_var 1 (pv 1)))) (svs_one (sv_ret (ev_and (ev_isi T.n_isinstance T.n_int PyProof.Rows.boot_int (ev_var 0 (pv 0))) (ev_one (ev_cmp (op_eqD hr.units) sem_eq (ev_var 0 (pv 0)) (ev_var 1 (pv 1)) (nomark _)))))) (svs_nil)) (svs_one (sv_ret (ev_and (ev_isi T.n_isinstance T.n_str PyProof.Rows.boot_str (ev_var 0 (pv 0))) (ev_and (ev_isi T.n_isinstance T.n_str PyProof.Rows.boot_str (ev_var 1 (pv 1))) (ev_one (ev_cmp (op_eqD hr.units) sem_eq (ev_var 0 (pv 0)) (ev_var 1 (pv 1)) (nomark _))))))))))
theorem ok__law_same (T : Txt K mg) : FnOk P w K mg base CX0 6 T._law_same.f T._law_same.fd ["actual", "due"] (spF K 2 g__law_same) := ok_same T 6
theorem sc__law_pool : FnScope ["script", "salt", "cell"] ["script"] (defScope s__law_pool) := ⟨rfl, rfl, rfl, by decide +kernel, rfl, by decide +kernel, by decide +kernel⟩
theorem ok__law_pool (T : Txt K mg) : FnOk P w K mg base CX0 1 T._law_pool.f T._law_pool.fd ["script"] (spPool K) := by
  refine T._law_pool.F.ok sc__law_pool (fun vs H Q E h => by obtain ⟨a, ns, rfl, _⟩ := h; rfl) (fun cdv A outer s H vs Q E hr h => ⟨t_pool K, PSs.nox ?_, pure_pool vs H Q E h⟩)
  exact pss_cons (ps_set (i := 1) sc__law_pool.nd rfl (by first | exact Or.inl rfl | exact Or.inr rfl) pe_int) (pss_cons (ps_for PassesOwn.never rfl (pi_list (pe_slice sl_list (pv 0) po_none (po_some pe_int))) (pg_name (i := 2) sc__law_pool.nd rfl (by first | exact Or.inl rfl | exact Or.inr rfl))
    (pss_one (ps_set (i := 1) sc__law_pool.nd rfl (by first | exact Or.inl rfl | exact Or.inr rfl) (pe_op op_mod (pe_callTy call_int1 rfl T.n_int PyProof.Rows.boot_int (pa_cons (pe_op op_add (pe_op op_mul (pv 1) pe_int) (pv 2)) pa_nil)) pe_int))))
    (pss_one (ps_ret (pe_lst (pa_cons (pe_callTy call_list_of rfl T.n_list PyProof.Rows.boot_list (pa_cons (pv 0) pa_nil)) (pa_cons pe_int (pa_cons pe_int (pa_cons pe_int (pa_cons (pv 1) pa_nil)))))))))
theorem sc__law_spread : FnScope ["cell", "mixed", "total", "k"] ["cell"] (defScope s__law_spread) := ⟨rfl, rfl, rfl, by decide +kernel, rfl, by decide +kernel, by decide +kernel⟩
theorem ok__law_spread (T : Txt K mg) : FnOk P w K mg base CX0 1 T._law_spread.f T._law_spread.fd ["cell"] (spF K 1 g__law_spread) := by
  refine fn_data (k := 0) T._law_spread.F sc__law_spread rfl mono__law_spread t__law_spread (fun cdv A outer s H E hr => ?_) pure__law_spread
  exact svs_cons (sv_set 1 sc__law_spread.nd (ev_bin op_mod sem_mod (ev_callTy call_int1 sem_intOf rfl T.n_int PyProof.Rows.boot_int (av_cons (ev_var 0 (pv 0)) (av_nil))) (ev_int))) (svs_cons (sv_set 2 sc__law_spread.nd (ev_int)) (svs_cons (sv_for (vs := [3]) PassesOwn.never rfl (gs_name 3 (by decide)) (iv_rng1 T.n_range (ev_int)) (pg_name (i := 3) sc__law_spread.nd rfl (by first | exact Or.inl rfl | exact Or.inr rfl)) (svs_cons (sv_set 1 sc__law_spread.nd (ev_bin op_mod sem_mod (ev_callTy call_int1 sem_intOf rfl T.n_int PyProof.Rows.boot_int (av_cons (ev_bin op_addAll sem_add (ev_bin op_addAll sem_add (ev_bin op_mulAll sem_mul (ev_var 1 (pv 1)) (ev_int)) (ev_int)) (ev_var 3 (pv 3))) (av_nil))) (ev_int))) (svs_one (sv_set 2 sc__law_spread.nd (ev_bin op_addAll sem_add (ev_bin op_mulAll sem_mul (ev_var 2 (pv 2)) (ev_int)) (ev_var 1 (pv 1))))))) (svs_one (sv_ret (ev_var 2 (pv 2))))))
theorem sc__law_draw : FnScope ["pool", "many", "cell", "mixed", "value"] ["pool", "many"] (defScope s__law_draw) := ⟨rfl, rfl, rfl, by decide +kernel, rfl, by decide +kernel, by decide +kernel⟩
theorem ok__law_draw (T : Txt K mg) : FnOk P w K mg base CX0 2 T._law_draw.f T._law_draw.fd ["pool", "many"] (spP K 1 g__law_draw) := by
  refine fn_draw (k := 1) T._law_draw.F sc__law_draw rfl t__law_draw (fun cdv A outer s H E hr => ?_) pure__law_draw (by decide)
  exact svs_cons (sv_if (tv_pw (wv_and (tv_cmp op_le sem_le (ev_ix ix_seq sem_ix (ev_var 0 (pv 0)) (ev_int) (fun _ _ => rfl)) (ev_int) (nomark _)) (wv_and1 (tv_cmp op_lt sem_lt (ev_ix ix_seq sem_ix (ev_var 0 (pv 0)) (ev_int) (fun _ _ => rfl)) (ev_callB call_len sem_len rfl T.n_len PySem.boot_len (av_cons (ev_ix ix_seq sem_ix (ev_var 0 (pv 0)) (ev_int) (fun _ _ => rfl)) (av_nil))) (nomark _))))) (svs_cons (sv_set 2 sc__law_draw.nd (ev_ix ix_seq sem_ix (ev_ix ix_seq sem_ix (ev_var 0 (pv 0)) (ev_int) (fun _ _ => rfl)) (ev_ix ix_seq sem_ix (ev_var 0 (pv 0)) (ev_int) (fun _ _ => rfl)) (fun _ _ => rfl))) (svs_cons (sv_put 0 rfl (pv 0) (ev_bin op_addAll sem_add (ev_ix ix_seq sem_ix (ev_var 0 (pv 0)) (ev_int) (fun _ _ => rfl)) (ev_int))) (svs_cons (sv_put 0 rfl (pv 0) (ev_var 2 (pv 2))) (svs_one (sv_if (tv_cmp op_lt sem_lt (ev_var 2 (pv 2)) (ev_int) (nomark _)) (svs_one (sv_put 0 rfl (pv 0) (ev_call (ok__law_spread T) mono__law_spread (hr.mono (by decide)) T._law_spread.g T._law_spread.F.kp T._law_spread.b (av_cons (ev_var 2 (pv 2)) (av_nil))))) (svs_nil)))))) (svs_nil)) (svs_cons (sv_put 0 rfl (pv 0) (ev_bin op_addAll sem_add (ev_ix ix_seq sem_ix (ev_var 0 (pv 0)) (ev_int) (fun _ _ => rfl)) (ev_int))) (svs_cons (sv_if (tv_cmp op_le sem_le (ev_ix ix_seq sem_ix (ev_var 0 (pv 0)) (ev_int) (fun _ _ => rfl)) (ev_int) (nomark _)) (svs_cons (sv_set 3 sc__law_draw.nd (ev_bin op_mod sem_mod (ev_callTy call_int1 sem_intOf rfl T.n_int PyProof.Rows.boot_int (av_cons (ev_bin op_addAll sem_add (ev_bin op_addAll sem_add (ev_bin op_mulAll sem_mul (ev_ix ix_seq sem_ix (ev_var 0 (pv 0)) (ev_int) (fun _ _ => rfl)) (ev_int)) (ev_bin op_mulAll sem_mul (ev_ix ix_seq sem_ix (ev_var 0 (pv 0)) (ev_int) (fun _ _ => rfl)) (ev_int))) (ev_int)) (av_nil))) (ev_int))) (svs_cons (sv_set 3 sc__law_draw.nd (ev_bin op_mod sem_mod (ev_callTy call_int1 sem_intOf rfl T.n_int PyProof.Rows.boot_int (av_cons (ev_bin op_addAll sem_add (ev_bin op_mulAll sem_mul (ev_var 3 (pv 3)) (ev_int)) (ev_ix ix_seq sem_ix (ev_var 0 (pv 0)) (ev_int) (fun _ _ => rfl))) (av_nil))) (ev_int))) (svs_one (sv_ret (ev_bin op_mod sem_mod (ev_bin op_fdiv sem_div (ev_var 3 (pv 3)) (ev_int)) (ev_var 1 (pv 1))))))) (svs_nil)) (svs_cons (sv_set 4 sc__law_draw.nd (ev_bin op_mod sem_mod (ev_callTy call_int1 sem_intOf rfl T.n_int PyProof.Rows.boot_int (av_cons (ev_ix ix_seq sem_ix (ev_var 0 (pv 0)) (ev_int) (fun _ _ => rfl)) (av_nil))) (ev_var 1 (pv 1)))) (svs_cons (sv_put 0 rfl (pv 0) (ev_bin op_fdiv sem_div (ev_ix ix_seq sem_ix (ev_var 0 (pv 0)) (ev_int) (fun _ _ => rfl)) (ev_var 1 (pv 1)))) (svs_one (sv_ret (ev_var 4 (pv 4))))))))
theorem sc__law_pick : FnScope ["pool", "items"] ["pool", "items"] (defScope s__law_pick) := ⟨rfl, rfl, rfl, by decide +kernel, rfl, by decide +kernel, by decide +kernel⟩
theorem ok__law_pick (T : Txt K mg) : FnOk P w K mg base CX0 3 T._law_pick.f T._law_pick.fd ["pool", "items"] (spP K 1 g__law_pick) := by
  refine fn_pool (k := 2) T._law_pick.F sc__law_pick rfl mono__law_pick t__law_pick (fun cdv A outer s H E hr => ?_) pure__law_pick (by decide)
  exact svs_one (sv_ret (ev_ix ix_seq sem_ix (ev_var 1 (pv 1)) (ev_callP 0 (ok__law_draw T) mono__law_draw (hr.mono (by decide)) T._law_draw.g T._law_draw.F.kp T._law_draw.b (pv 0) (av_cons (ev_callB call_len sem_len rfl T.n_len PySem.boot_len (av_cons (ev_var 1 (pv 1)) (av_nil))) (av_nil))) (fun _ _ => rfl)))
theorem sc__law_shuffled : FnScope ["pool", "items", "left", "found"] ["pool", "items"] (defScope s__law_shuffled) := ⟨rfl, rfl, rfl, by decide +kernel, rfl, by decide +kernel, by decide +kernel⟩
theorem ok__law_shuffled (T : Txt K mg) : FnOk P w K mg base CX0 3 T._law_shuffled.f T._law_shuffled.fd ["pool", "items"] (spP K 1 g__law_shuffled) := by
  refine fn_pool (k := 2) T._law_shuffled.F sc__law_shuffled rfl mono__law_shuffled t__law_shuffled (fun cdv A outer s H E hr => ?_) pure__law_shuffled (by decide)
  exact svs_cons (sv_setL 2 sc__law_shuffled.nd (fv_callTy call_list_of sem_list rfl T.n_list PyProof.Rows.boot_list (av_cons (ev_var 1 (pv 1)) (av_nil)))) (svs_cons (sv_setL 3 sc__law_shuffled.nd (fv_lst (av_nil))) (svs_cons (sv_while PassesOwn.never (tv_cmp (op_neD hr.units) sem_ne (ev_var 2 (pv 2)) (ev_f (fv_lst (av_nil))) (nomark _)) (svs_one (sv_appPop 3 2 (by decide) (pv 3) (pv 2) (ev_callP 0 (ok__law_draw T) mono__law_draw (hr.mono (by decide)) T._law_draw.g T._law_draw.F.kp T._law_draw.b (pv 0) (av_cons (ev_callB call_len sem_len rfl T.n_len PySem.boot_len (av_cons (ev_var 2 (pv 2)) (av_nil))) (av_nil)))))) (svs_one (sv_ret (ev_var 3 (pv 3))))))
theorem sc__law_row : FnScope ["pool", "many", "turn", "row", "q"] ["pool", "many"] (defScope s__law_row) := ⟨rfl, rfl, rfl, by decide +kernel, rfl, by decide +kernel, by decide +kernel⟩
theorem ok__law_row (T : Txt K mg) : FnOk P w K mg base CX0 4 T._law_row.f T._law_row.fd ["pool", "many"] (spP K 1 g__law_row) := by
  refine fn_pool (k := 3) T._law_row.F sc__law_row rfl mono__law_row t__law_row (fun cdv A outer s H E hr => ?_) pure__law_row (by decide)
  exact svs_cons (sv_set 2 sc__law_row.nd (ev_callP 0 (ok__law_draw T) mono__law_draw (hr.mono (by decide)) T._law_draw.g T._law_draw.F.kp T._law_draw.b (pv 0) (av_cons (ev_int) (av_nil)))) (svs_cons (sv_if (tv_cmp (op_eqD hr.units) sem_eq (ev_var 2 (pv 2)) (ev_int) (nomark _)) (svs_one (sv_ret (ev_bin op_mulAll sem_mul (ev_tup (av_cons (ev_callP 0 (ok__law_draw T) mono__law_draw (hr.mono (by decide)) T._law_draw.g T._law_draw.F.kp T._law_draw.b (pv 0) (av_cons (ev_var 1 (pv 1)) (av_nil))) (av_nil))) (ev_var 1 (pv 1))))) (svs_nil)) (svs_cons (sv_if (tv_cmp (op_eqD hr.units) sem_eq (ev_var 2 (pv 2)) (ev_int) (nomark _)) (svs_one (sv_ret (ev_callTy call_tupleF sem_tuple rfl T.n_tuple PyProof.Rows.boot_tuple (av_cons (ev_callP 0 (ok__law_shuffled T) mono__law_shuffled (hr.mono (by decide)) T._law_shuffled.g T._law_shuffled.F.kp T._law_shuffled.b (pv 0) (av_cons (ev_f (fv_listRg rfl T.n_list T.n_range (ev_var 1 (pv 1)))) (av_nil))) (av_nil))))) (svs_nil)) (svs_cons (sv_setLc (i := 3) (own := [("q", 4)]) rfl sc__law_row.nd (iv_w (iv_rng1 T.n_range (ev_var 1 (pv 1)))) (blkOk_by (by kernel_rfl)) (gs_name 4 (by decide)) (fun _ _ _ _ _ => (pg_name (i := 4) sc__law_row.nd rfl (by first | exact Or.inl rfl | exact Or.inr rfl))) (fun _ _ _ _ _ => tvs_nil) (fun _ _ _ _ _ => ev_callP 0 (ok__law_draw T) mono__law_draw (hr.mono (by decide)) T._law_draw.g T._law_draw.F.kp T._law_draw.b (pv 0) (av_cons (ev_var 1 (pv 1)) (av_nil))) (sw_true rfl rfl rfl (by kernel_rfl))) (svs_one (sv_ret (ev_if (tv_cmp op_lt sem_lt (ev_var 2 (pv 2)) (ev_int) (nomark _)) (ev_callTy call_tupleF sem_tuple rfl T.n_tuple PyProof.Rows.boot_tuple (av_cons (ev_f (fv_callB cr_sortedI sem_sortI rfl T.n_sorted PyProof.Rows.boot_sorted (av_cons (ev_var 3 (pv 3)) (av_nil)))) (av_nil))) (ev_callTy call_tupleF sem_tuple rfl T.n_tuple PyProof.Rows.boot_tuple (av_cons (ev_var 3 (pv 3)) (av_nil)))))))))
theorem sc__law_drawn_cascade : FnScope ["pool", "letters", "sizes", "flips", "stages", "above", "many", "rules", "here", "letter", "turn", "row", "later", "x"] ["pool", "letters", "sizes", "flips"] (defScope s__law_drawn_cascade) := ⟨rfl, rfl, rfl, by decide +kernel, rfl, by decide +kernel, by decide +kernel⟩
theorem ok__law_drawn_cascade (T : Txt K mg) : FnOk P w K mg base CX0 4 T._law_drawn_cascade.f T._law_drawn_cascade.fd ["pool", "letters", "sizes", "flips"] (spP K 3 g__law_drawn_cascade) := by
  refine fn_pool (k := 3) T._law_drawn_cascade.F sc__law_drawn_cascade rfl mono__law_drawn_cascade t__law_drawn_cascade (fun cdv A outer s H E hr => ?_) pure__law_drawn_cascade (by decide)
  exact svs_cons (sv_parLD 4 5 rfl sc__law_drawn_cascade.nd (by decide) (fv_lst (av_nil)) (ev_f (fv_lst (av_cons (ev_tup (av_nil)) (av_nil)))) (by with_unfolding_all rfl)) (svs_cons (sv_for (vs := [6]) PassesOwn.never rfl (gs_name 6 (by decide)) (iv_lst (ev_var 2 (pv 2))) (pg_name (i := 6) sc__law_drawn_cascade.nd rfl (by first | exact Or.inl rfl | exact Or.inr rfl)) (svs_cons (sv_setL 7 sc__law_drawn_cascade.nd (fv_lst (av_nil))) (svs_cons (sv_for (vs := [8]) PassesOwn.never rfl (gs_name 8 (by decide)) (iv_lst (ev_var 5 (pv 5))) (pg_name (i := 8) sc__law_drawn_cascade.nd rfl (by first | exact Or.inl rfl | exact Or.inr rfl)) (svs_one (sv_for (vs := [9]) PassesOwn.never rfl (gs_name 9 (by decide)) (iv_rng1 T.n_range (ev_var 1 (pv 1))) (pg_name (i := 9) sc__law_drawn_cascade.nd rfl (by first | exact Or.inl rfl | exact Or.inr rfl)) (svs_cons (sv_set 10 sc__law_drawn_cascade.nd (ev_callP 0 (ok__law_draw T) mono__law_draw (hr.mono (by decide)) T._law_draw.g T._law_draw.F.kp T._law_draw.b (pv 0) (av_cons (ev_int) (av_nil)))) (svs_cons (sv_set 11 sc__law_drawn_cascade.nd (ev_if (tv_cmp (op_eqD hr.units) sem_eq (ev_var 10 (pv 10)) (ev_int) (nomark _)) (ev_bin op_mulAll sem_mul (ev_tup (av_cons (ev_callP 0 (ok__law_draw T) mono__law_draw (hr.mono (by decide)) T._law_draw.g T._law_draw.F.kp T._law_draw.b (pv 0) (av_cons (ev_var 6 (pv 6)) (av_nil))) (av_nil))) (ev_var 6 (pv 6))) (ev_tupRg rfl T.n_tuple T.n_range (ev_var 6 (pv 6))))) (svs_cons (sv_if (tv_pw (wv_and (tv_cmp (op_eqD hr.units) sem_eq (ev_var 10 (pv 10)) (ev_int) (nomark _)) (wv_and1 (tv_not (tv_val (ev_var 3 (pv 3))))))) (svs_one (sv_set 11 sc__law_drawn_cascade.nd (ev_callTy call_tupleF sem_tuple rfl T.n_tuple PyProof.Rows.boot_tuple (av_cons (ev_callP 0 (ok__law_shuffled T) mono__law_shuffled (hr.mono (by decide)) T._law_shuffled.g T._law_shuffled.F.kp T._law_shuffled.b (pv 0) (av_cons (ev_f (fv_listRg rfl T.n_list T.n_range (ev_var 6 (pv 6)))) (av_nil))) (av_nil))))) (svs_nil)) (svs_one (sv_app 7 (pv 7) (ev_tup (av_cons (ev_var 8 (pv 8)) (av_cons (ev_var 9 (pv 9)) (av_cons (ev_var 11 (pv 11)) (av_nil))))))))))))) (svs_cons (sv_app 4 (pv 4) (ev_tup (av_cons (ev_var 6 (pv 6)) (av_cons (ev_callTy call_tupleF sem_tuple rfl T.n_tuple PyProof.Rows.boot_tuple (av_cons (ev_var 7 (pv 7)) (av_nil))) (av_nil))))) (svs_cons (sv_set 12 sc__law_drawn_cascade.nd (ev_f (fv_lst (av_nil)))) (svs_cons (sv_for (vs := [8]) PassesOwn.never rfl (gs_name 8 (by decide)) (iv_lst (ev_var 5 (pv 5))) (pg_name (i := 8) sc__law_drawn_cascade.nd rfl (by first | exact Or.inl rfl | exact Or.inr rfl)) (svs_one (sv_set 12 sc__law_drawn_cascade.nd (ev_bin op_addAll sem_add (ev_var 12 (pv 12)) (ev_lc (own := [("x", 13)]) rfl sc__law_drawn_cascade.nd (iv_w (iv_rng1 T.n_range (ev_var 6 (pv 6)))) (blkOk_by (by kernel_rfl)) (gs_name 13 (by decide)) (fun _ _ _ _ _ => (pg_name (i := 13) sc__law_drawn_cascade.nd rfl (by first | exact Or.inl rfl | exact Or.inr rfl))) (fun _ _ _ _ _ => tvs_nil) (fun _ _ _ _ _ => ev_bin op_addAll sem_add (ev_var 8 (pv 8)) (ev_tup (av_cons (ev_var 13 (pv 13)) (av_nil))))))))) (svs_one (sv_set 5 sc__law_drawn_cascade.nd (ev_var 12 (pv 12)))))))))) (svs_one (sv_ret (ev_tup (av_cons (ev_tup (av_cons (ev_var 1 (pv 1)) (av_cons (ev_callTy call_tupleF sem_tuple rfl T.n_tuple PyProof.Rows.boot_tuple (av_cons (ev_var 4 (pv 4)) (av_nil))) (av_nil)))) (av_cons (ev_var 5 (pv 5)) (av_nil)))))))
theorem sc_law : FnScope ["script", "pool", "turn", "letters", "sizes", "cascade", "every", "upper", "whole", "above", "one", "two", "row", "many", "done", "tops", "size", "later", "top", "rules", "blind", "alone", "states", "machine", "here", "letter", "k", "x"] ["script"] (defScope s_law) := ⟨rfl, rfl, rfl, by decide +kernel, rfl, by decide +kernel, by decide +kernel⟩
theorem ok_law (T : Txt K mg) : FnOk P w K mg base CX0 7 T.law.f T.law.fd ["script"] (spLaw K) := by
  have hpl := ok__law_pool (P := P) (w := w) (base := base) T
  refine fn_law (k := 6) T.law.F sc_law t_law (fun cdv A outer s H E hr => ?_) (fun cdv A outer s H E hr => ?_) pure_law (by decide)
  · exact ps_set (i := 1) sc_law.nd rfl (by first | exact Or.inl rfl | exact Or.inr rfl) (pe_call hpl (hr.mono (by decide)) rfl T._law_pool.g T._law_pool.F.kp T._law_pool.b .nil pass0 (pa_cons (pv 0) pa_nil))
  · exact svs_cons (sv_for (vs := [2]) PassesOwn.never rfl (gs_name 2 (by decide)) (iv_rng1 T.n_range (ev_int)) (pg_name (i := 2) sc_law.nd rfl (by first | exact Or.inl rfl | exact Or.inr rfl)) (svs_cons (sv_set 3 sc_law.nd (ev_bin op_addAll sem_add (ev_int) (ev_callP 1 (ok__law_draw T) mono__law_draw (hr.mono (by decide)) T._law_draw.g T._law_draw.F.kp T._law_draw.b (pv 1) (av_cons (ev_int) (av_nil))))) (svs_cons (sv_setLc (i := 4) (own := [("k", 26)]) rfl sc_law.nd (iv_w (iv_rng1 T.n_range (ev_bin op_addAll sem_add (ev_int) (ev_callP 1 (ok__law_draw T) mono__law_draw (hr.mono (by decide)) T._law_draw.g T._law_draw.F.kp T._law_draw.b (pv 1) (av_cons (ev_int) (av_nil)))))) (blkOk_by (by kernel_rfl)) (gs_name 26 (by decide)) (fun _ _ _ _ _ => (pg_name (i := 26) sc_law.nd rfl (by first | exact Or.inl rfl | exact Or.inr rfl))) (fun _ _ _ _ _ => tvs_nil) (fun _ _ _ _ _ => ev_bin op_addAll sem_add (ev_int) (ev_callP 1 (ok__law_draw T) mono__law_draw (hr.mono (by decide)) T._law_draw.g T._law_draw.F.kp T._law_draw.b (pv 1) (av_cons (ev_int) (av_nil)))) (sw_true rfl rfl rfl (by kernel_rfl))) (svs_cons (sv_asg (vs := [5, 6]) (gs_two 5 6 (by decide) (by decide)) (ev_callP 1 (ok__law_drawn_cascade T) mono__law_drawn_cascade (hr.mono (by decide)) T._law_drawn_cascade.g T._law_drawn_cascade.F.kp T._law_drawn_cascade.b (pv 1) (av_cons (ev_var 3 (pv 3)) (av_cons (ev_var 4 (pv 4)) (av_cons (ev_bl) (av_nil))))) (pg_tup rfl (pgs_cons (pg_name (i := 5) sc_law.nd rfl (by first | exact Or.inl rfl | exact Or.inr rfl)) (pgs_cons (pg_name (i := 6) sc_law.nd rfl (by first | exact Or.inl rfl | exact Or.inr rfl)) (pgs_nil))))) (svs_cons (sv_set 7 sc_law.nd (ev_tup (av_cons (ev_var 3 (pv 3)) (av_cons (ev_slice (ev_ix ix_seq sem_ix (ev_var 5 (pv 5)) (ev_int) (fun _ _ => rfl)) (ov_none) (ov_some (ev_neg (ev_int)))) (av_nil))))) (svs_cons (sv_set 8 sc_law.nd (ev_call (ok_reached T) mono_reached (hr.mono (by decide)) T.reached.g T.reached.F.kp T.reached.b (av_cons (ev_var 5 (pv 5)) (av_cons (ev_f (fv_lst (av_cons (ev_callP 1 (ok__law_pick T) mono__law_pick (hr.mono (by decide)) T._law_pick.g T._law_pick.F.kp T._law_pick.b (pv 1) (av_cons (ev_var 6 (pv 6)) (av_nil))) (av_nil)))) (av_nil))))) (svs_cons (sv_set 9 sc_law.nd (ev_callTy call_tupleF sem_tuple rfl T.n_tuple PyProof.Rows.boot_tuple (av_cons (ev_f (fv_sortSetT hr rfl T.n_sorted T.n_set (ev_lc (own := [("here", 24)]) rfl sc_law.nd (iv_w (iv_tup (ev_var 8 (pv 8)))) (blkOk_by (by kernel_rfl)) (gs_name 24 (by decide)) (fun _ _ _ _ _ => (pg_name (i := 24) sc_law.nd rfl (by first | exact Or.inl rfl | exact Or.inr rfl))) (fun _ _ _ _ _ => tvs_nil) (fun _ _ _ _ _ => ev_slice (ev_var 24 (pv 24)) (ov_none) (ov_some (ev_neg (ev_int))))) PyProof.Rows.boot_sorted PyProof.Rows.boot_set)) (av_nil)))) (svs_cons (sv_if (tv_not (tv_val (ev_call (ok__law_same T) mono__law_same (hr.mono (by decide)) T._law_same.g T._law_same.F.kp T._law_same.b (av_cons (ev_call (ok_reached T) mono_reached (hr.mono (by decide)) T.reached.g T.reached.F.kp T.reached.b (av_cons (ev_var 7 (pv 7)) (av_cons (ev_f (fv_callTy call_list_of sem_list rfl T.n_list PyProof.Rows.boot_list (av_cons (ev_var 9 (pv 9)) (av_nil)))) (av_nil)))) (av_cons (ev_var 9 (pv 9)) (av_nil)))))) (svs_one (sv_ret (ev_bl))) (svs_nil)) (svs_cons (sv_par 10 11 rfl sc_law.nd (by decide) (av_cons (ev_call (ok_flat T) mono_flat (hr.mono (by decide)) T.flat.g T.flat.F.kp T.flat.b (av_cons (ev_var 5 (pv 5)) (av_cons (ev_var 8 (pv 8)) (av_nil)))) (av_cons (ev_call (ok_flat T) mono_flat (hr.mono (by decide)) T.flat.g T.flat.F.kp T.flat.b (av_cons (ev_var 7 (pv 7)) (av_cons (ev_var 9 (pv 9)) (av_nil)))) (av_nil))) (by with_unfolding_all rfl)) (svs_cons (sv_set 12 sc_law.nd (ev_callTy call_tupleF sem_tuple rfl T.n_tuple PyProof.Rows.boot_tuple (av_cons (ev_lc (own := [("here", 24)]) rfl sc_law.nd (iv_w (iv_tup (ev_var 8 (pv 8)))) (blkOk_by (by kernel_rfl)) (gs_name 24 (by decide)) (fun _ _ _ _ _ => (pg_name (i := 24) sc_law.nd rfl (by first | exact Or.inl rfl | exact Or.inr rfl))) (fun _ _ _ _ _ => tvs_nil) (fun _ _ _ _ _ => ev_tindex hr (ev_var 9 (pv 9)) (ev_slice (ev_var 24 (pv 24)) (ov_none) (ov_some (ev_neg (ev_int)))))) (av_nil)))) (svs_cons (sv_if (tv_pw (wv_or (tv_not (tv_val (ev_call (ok_is_carried T) mono_is_carried (hr.mono (by decide)) T.is_carried.g T.is_carried.F.kp T.is_carried.b (av_cons (ev_var 11 (pv 11)) (av_cons (ev_var 10 (pv 10)) (av_cons (ev_callTy call_tupleF sem_tuple rfl T.n_tuple PyProof.Rows.boot_tuple (av_cons (ev_lc (own := [("k", 26)]) rfl sc_law.nd (iv_w (iv_rng1 T.n_range (ev_callB call_len sem_len rfl T.n_len PySem.boot_len (av_cons (ev_var 8 (pv 8)) (av_nil))))) (blkOk_by (by kernel_rfl)) (gs_name 26 (by decide)) (fun _ _ _ _ _ => (pg_name (i := 26) sc_law.nd rfl (by first | exact Or.inl rfl | exact Or.inr rfl))) (fun _ _ _ _ _ => tvs_nil) (fun _ _ _ _ _ => ev_tup (av_cons (ev_var 26 (pv 26)) (av_cons (ev_ix ix_seq sem_ix (ev_var 12 (pv 12)) (ev_var 26 (pv 26)) (fun _ _ => rfl)) (av_nil))))) (av_nil))) (av_nil))))))) (wv_or1 (tv_not (tv_val (ev_call (ok_leads_along T) mono_leads_along (hr.mono (by decide)) T.leads_along.g T.leads_along.F.kp T.leads_along.b (av_cons (ev_var 10 (pv 10)) (av_cons (ev_var 11 (pv 11)) (av_cons (ev_var 12 (pv 12)) (av_nil)))))))))) (svs_one (sv_ret (ev_bl))) (svs_nil)) (svs_cons (sv_set 13 sc_law.nd (ev_bin op_addAll sem_add (ev_int) (ev_callP 1 (ok__law_draw T) mono__law_draw (hr.mono (by decide)) T._law_draw.g T._law_draw.F.kp T._law_draw.b (pv 1) (av_cons (ev_int) (av_nil))))) (svs_cons (sv_set 14 sc_law.nd (ev_lc (own := [("k", 26)]) rfl sc_law.nd (iv_w (iv_rng1 T.n_range (ev_var 3 (pv 3)))) (blkOk_by (by kernel_rfl)) (gs_name 26 (by decide)) (fun _ _ _ _ _ => (pg_name (i := 26) sc_law.nd rfl (by first | exact Or.inl rfl | exact Or.inr rfl))) (fun _ _ _ _ _ => tvs_nil) (fun _ _ _ _ _ => ev_if (tv_cmp (op_eqD hr.units) sem_eq (ev_callP 1 (ok__law_draw T) mono__law_draw (hr.mono (by decide)) T._law_draw.g T._law_draw.F.kp T._law_draw.b (pv 1) (av_cons (ev_int) (av_nil))) (ev_int) (nomark _)) (ev_callP 1 (ok__law_row T) mono__law_row (hr.mono (by decide)) T._law_row.g T._law_row.F.kp T._law_row.b (pv 1) (av_cons (ev_var 13 (pv 13)) (av_nil))) (ev_tupRg rfl T.n_tuple T.n_range (ev_var 13 (pv 13)))))) (svs_cons (sv_set 14 sc_law.nd (ev_lc (own := [("row", 12)]) rfl sc_law.nd (iw_lst (ev_var 14 (pv 14))) (blkOk_by (by kernel_rfl)) (gs_name 12 (by decide)) (fun _ _ _ _ _ => (pg_name (i := 12) sc_law.nd rfl (by first | exact Or.inl rfl | exact Or.inr rfl))) (fun _ _ _ _ _ => tvs_nil) (fun _ _ _ _ _ => ev_if (tv_cmp (op_inAll hr) sem_in (ev_callB call_len sem_len rfl T.n_len PySem.boot_len (av_cons (ev_f (fv_sortSetI rfl T.n_sorted T.n_set (ev_var 12 (pv 12)) PyProof.Rows.boot_sorted PyProof.Rows.boot_set)) (av_nil))) (ev_tup (av_cons (ev_int) (av_cons (ev_var 13 (pv 13)) (av_nil)))) (by rfl)) (ev_var 12 (pv 12)) (ev_bin op_mulAll sem_mul (ev_tup (av_cons (ev_int) (av_nil))) (ev_var 13 (pv 13)))))) (svs_cons (sv_set 15 sc_law.nd (ev_f (fv_lst (av_cons (ev_tup (av_nil)) (av_nil))))) (svs_cons (sv_for (vs := [16]) PassesOwn.never rfl (gs_name 16 (by decide)) (iv_lst (ev_slice (ev_var 4 (pv 4)) (ov_none) (ov_some (ev_neg (ev_int))))) (pg_name (i := 16) sc_law.nd rfl (by first | exact Or.inl rfl | exact Or.inr rfl)) (svs_cons (sv_set 17 sc_law.nd (ev_f (fv_lst (av_nil)))) (svs_cons (sv_for (vs := [18]) PassesOwn.never rfl (gs_name 18 (by decide)) (iv_lst (ev_var 15 (pv 15))) (pg_name (i := 18) sc_law.nd rfl (by first | exact Or.inl rfl | exact Or.inr rfl)) (svs_one (sv_set 17 sc_law.nd (ev_bin op_addAll sem_add (ev_var 17 (pv 17)) (ev_lc (own := [("x", 27)]) rfl sc_law.nd (iv_w (iv_rng1 T.n_range (ev_var 16 (pv 16)))) (blkOk_by (by kernel_rfl)) (gs_name 27 (by decide)) (fun _ _ _ _ _ => (pg_name (i := 27) sc_law.nd rfl (by first | exact Or.inl rfl | exact Or.inr rfl))) (fun _ _ _ _ _ => tvs_nil) (fun _ _ _ _ _ => ev_bin op_addAll sem_add (ev_var 18 (pv 18)) (ev_tup (av_cons (ev_var 27 (pv 27)) (av_nil))))))))) (svs_one (sv_set 15 sc_law.nd (ev_var 17 (pv 17))))))) (svs_cons (sv_set 19 sc_law.nd (ev_f (fv_lst (av_nil)))) (svs_cons (sv_for (vs := [18]) PassesOwn.never rfl (gs_name 18 (by decide)) (iv_lst (ev_var 15 (pv 15))) (pg_name (i := 18) sc_law.nd rfl (by first | exact Or.inl rfl | exact Or.inr rfl)) (svs_one (sv_set 19 sc_law.nd (ev_bin op_addAll sem_add (ev_var 19 (pv 19)) (ev_lc (own := [("letter", 25)]) rfl sc_law.nd (iv_w (iv_rng1 T.n_range (ev_var 3 (pv 3)))) (blkOk_by (by kernel_rfl)) (gs_name 25 (by decide)) (fun _ _ _ _ _ => (pg_name (i := 25) sc_law.nd rfl (by first | exact Or.inl rfl | exact Or.inr rfl))) (fun _ _ _ _ _ => tvs_nil) (fun _ _ _ _ _ => ev_tup (av_cons (ev_var 18 (pv 18)) (av_cons (ev_var 25 (pv 25)) (av_cons (ev_ix ix_seq sem_ix (ev_var 14 (pv 14)) (ev_var 25 (pv 25)) (fun _ _ => rfl)) (av_nil)))))))))) (svs_cons (sv_set 20 sc_law.nd (ev_tup (av_cons (ev_var 3 (pv 3)) (av_cons (ev_bin op_addAll sem_add (ev_ix ix_seq sem_ix (ev_var 7 (pv 7)) (ev_int) (fun _ _ => rfl)) (ev_tup (av_cons (ev_tup (av_cons (ev_var 13 (pv 13)) (av_cons (ev_callTy call_tupleF sem_tuple rfl T.n_tuple PyProof.Rows.boot_tuple (av_cons (ev_var 19 (pv 19)) (av_nil))) (av_nil)))) (av_nil)))) (av_nil))))) (svs_cons (sv_set 21 sc_law.nd (ev_tup (av_cons (ev_var 13 (pv 13)) (av_cons (ev_callTy call_tupleF sem_tuple rfl T.n_tuple PyProof.Rows.boot_tuple (av_cons (ev_var 14 (pv 14)) (av_nil))) (av_nil))))) (svs_cons (sv_set 22 sc_law.nd (ev_f (fv_lst (av_nil)))) (svs_cons (sv_for (vs := [18]) PassesOwn.never rfl (gs_name 18 (by decide)) (iv_lst (ev_var 15 (pv 15))) (pg_name (i := 18) sc_law.nd rfl (by first | exact Or.inl rfl | exact Or.inr rfl)) (svs_one (sv_set 22 sc_law.nd (ev_bin op_addAll sem_add (ev_var 22 (pv 22)) (ev_lc (own := [("x", 27)]) rfl sc_law.nd (iv_w (iv_rng1 T.n_range (ev_var 13 (pv 13)))) (blkOk_by (by kernel_rfl)) (gs_name 27 (by decide)) (fun _ _ _ _ _ => (pg_name (i := 27) sc_law.nd rfl (by first | exact Or.inl rfl | exact Or.inr rfl))) (fun _ _ _ _ _ => tvs_nil) (fun _ _ _ _ _ => ev_bin op_addAll sem_add (ev_var 18 (pv 18)) (ev_tup (av_cons (ev_var 27 (pv 27)) (av_nil))))))))) (svs_cons (sv_set 23 sc_law.nd (ev_call (ok_flat T) mono_flat (hr.mono (by decide)) T.flat.g T.flat.F.kp T.flat.b (av_cons (ev_var 20 (pv 20)) (av_cons (ev_callTy call_tupleF sem_tuple rfl T.n_tuple PyProof.Rows.boot_tuple (av_cons (ev_var 22 (pv 22)) (av_nil))) (av_nil))))) (svs_cons (sv_if (tv_not (tv_val (ev_call (ok_is_carried T) mono_is_carried (hr.mono (by decide)) T.is_carried.g T.is_carried.F.kp T.is_carried.b (av_cons (ev_var 21 (pv 21)) (av_cons (ev_var 23 (pv 23)) (av_cons (ev_callTy call_tupleF sem_tuple rfl T.n_tuple PyProof.Rows.boot_tuple (av_cons (ev_lc (own := [("k", 26)]) rfl sc_law.nd (iv_w (iv_rng1 T.n_range (ev_callB call_len sem_len rfl T.n_len PySem.boot_len (av_cons (ev_var 22 (pv 22)) (av_nil))))) (blkOk_by (by kernel_rfl)) (gs_name 26 (by decide)) (fun _ _ _ _ _ => (pg_name (i := 26) sc_law.nd rfl (by first | exact Or.inl rfl | exact Or.inr rfl))) (fun _ _ _ _ _ => tvs_nil) (fun _ _ _ _ _ => ev_tup (av_cons (ev_var 26 (pv 26)) (av_cons (ev_ix ix_seq sem_ix (ev_ix ix_seq sem_ix (ev_var 22 (pv 22)) (ev_var 26 (pv 26)) (fun _ _ => rfl)) (ev_neg (ev_int)) (fun _ _ => rfl)) (av_nil))))) (av_nil))) (av_nil))))))) (svs_one (sv_ret (ev_bl))) (svs_nil)) (svs_cons (sv_par 24 25 rfl sc_law.nd (by decide) (av_cons (ev_callP 1 (ok__law_pick T) mono__law_pick (hr.mono (by decide)) T._law_pick.g T._law_pick.F.kp T._law_pick.b (pv 1) (av_cons (ev_var 22 (pv 22)) (av_nil))) (av_cons (ev_callP 1 (ok__law_draw T) mono__law_draw (hr.mono (by decide)) T._law_draw.g T._law_draw.F.kp T._law_draw.b (pv 1) (av_cons (ev_var 3 (pv 3)) (av_nil))) (av_nil))) (by with_unfolding_all rfl)) (svs_one (sv_if (tv_not (tv_val (ev_call (ok__law_same T) mono__law_same (hr.mono (by decide)) T._law_same.g T._law_same.F.kp T._law_same.b (av_cons (ev_ix ix_seq sem_ix (ev_call (ok_step T) mono_step (hr.mono (by decide)) T.step.g T.step.F.kp T.step.b (av_cons (ev_var 20 (pv 20)) (av_cons (ev_var 24 (pv 24)) (av_cons (ev_var 25 (pv 25)) (av_nil))))) (ev_neg (ev_int)) (fun _ _ => rfl)) (av_cons (ev_ix ix_seq sem_ix (ev_ix ix_seq sem_ix (ev_var 14 (pv 14)) (ev_var 25 (pv 25)) (fun _ _ => rfl)) (ev_ix ix_seq sem_ix (ev_var 24 (pv 24)) (ev_neg (ev_int)) (fun _ _ => rfl)) (fun _ _ => rfl)) (av_nil)))))) (svs_one (sv_ret (ev_bl))) (svs_nil)))))))))))))))))))))))))))) (svs_one (sv_ret (ev_bl)))
end
end Row

namespace Hd
open PySem PySem.Spec PyProof.Rows L2
def d_is_whole : He.DefD := ⟨("is_whole", none), "is_whole", "is_whole", defArgs Row.s_is_whole, defBody Row.s_is_whole, defScope Row.s_is_whole, [], []⟩
def d_is_from : He.DefD := ⟨("is_from", none), "is_from", "is_from", defArgs Row.s_is_from, defBody Row.s_is_from, defScope Row.s_is_from, [], []⟩
def d_done_at : He.DefD := ⟨("done_at", none), "done_at", "done_at", defArgs Row.s_done_at, defBody Row.s_done_at, defScope Row.s_done_at, [], []⟩
def d_step : He.DefD := ⟨("step", none), "step", "step", defArgs Row.s_step, defBody Row.s_step, defScope Row.s_step, [], []⟩
def d_reached : He.DefD := ⟨("reached", none), "reached", "reached", defArgs Row.s_reached, defBody Row.s_reached, defScope Row.s_reached, [], []⟩
def d_flat : He.DefD := ⟨("flat", none), "flat", "flat", defArgs Row.s_flat, defBody Row.s_flat, defScope Row.s_flat, [], []⟩
def d_is_carried : He.DefD := ⟨("is_carried", none), "is_carried", "is_carried", defArgs Row.s_is_carried, defBody Row.s_is_carried, defScope Row.s_is_carried, [], []⟩
def d_leads_along : He.DefD := ⟨("leads_along", none), "leads_along", "leads_along", defArgs Row.s_leads_along, defBody Row.s_leads_along, defScope Row.s_leads_along, [], []⟩
def d__law_same : He.DefD := ⟨("_law_same", none), "_law_same", "_law_same", defArgs Row.s__law_same, defBody Row.s__law_same, defScope Row.s__law_same, [], []⟩
def d__law_pool : He.DefD := ⟨("_law_pool", none), "_law_pool", "_law_pool", defArgs Row.s__law_pool, defBody Row.s__law_pool, defScope Row.s__law_pool, [], []⟩
def d__law_spread : He.DefD := ⟨("_law_spread", none), "_law_spread", "_law_spread", defArgs Row.s__law_spread, defBody Row.s__law_spread, defScope Row.s__law_spread, [], []⟩
def d__law_draw : He.DefD := ⟨("_law_draw", none), "_law_draw", "_law_draw", defArgs Row.s__law_draw, defBody Row.s__law_draw, defScope Row.s__law_draw, [], []⟩
def d__law_pick : He.DefD := ⟨("_law_pick", none), "_law_pick", "_law_pick", defArgs Row.s__law_pick, defBody Row.s__law_pick, defScope Row.s__law_pick, [], []⟩
def d__law_shuffled : He.DefD := ⟨("_law_shuffled", none), "_law_shuffled", "_law_shuffled", defArgs Row.s__law_shuffled, defBody Row.s__law_shuffled, defScope Row.s__law_shuffled, [], []⟩
def d__law_row : He.DefD := ⟨("_law_row", none), "_law_row", "_law_row", defArgs Row.s__law_row, defBody Row.s__law_row, defScope Row.s__law_row, [], []⟩
def d__law_drawn_cascade : He.DefD := ⟨("_law_drawn_cascade", none), "_law_drawn_cascade", "_law_drawn_cascade", defArgs Row.s__law_drawn_cascade, defBody Row.s__law_drawn_cascade, defScope Row.s__law_drawn_cascade, [], []⟩
def d_law : He.DefD := ⟨("law", none), "law", "law", defArgs Row.s_law, defBody Row.s_law, defScope Row.s_law, [], []⟩
def fn : List He.DefD := [d_is_whole, d_is_from, d_done_at, d_step, d_reached, d_flat, d_is_carried, d_leads_along, d__law_same, d__law_pool, d__law_spread, d__law_draw, d__law_pick, d__law_shuffled, d__law_row, d__law_drawn_cascade, d_law]
def fa : List He.Fa := [.glo "is_whole", .glo "is_from", .glo "done_at", .glo "step", .glo "reached", .glo "flat", .glo "is_carried", .glo "leads_along", .glo "_law_same", .glo "_law_pool", .glo "_law_spread", .glo "_law_draw", .glo "_law_pick", .glo "_law_shuffled", .glo "_law_row", .glo "_law_drawn_cascade", .glo "law", .free "all", .free "any", .free "bool", .free "int", .free "isinstance", .free "len", .free "list", .free "range", .free "set", .free "sorted", .free "str", .free "tuple"]
abbrev RR : PySem.W.OpenRow := PySem.W.OpenLaw.row PySem.Challenge.rw_ringorflips_k36_whole_upper_stages_alone
abbrev hk : PySem.W.Hook := He.hookD 4 fa fn
def ob (s : PySem.W.SharedT) : He.AlD := He.obsDG 4 fa fn (HandSHeadRun.getT s)
theorem ob_eq (s : PySem.W.SharedT) : ob s = hk.obs s.abs := He.obsDG_eq (HandSHeadRun.getT_eq s)
def loose : List PySem.Str := ["is_whole", "is_from", "done_at", "step", "reached", "flat", "is_carried", "leads_along", "_law_same", "_law_pool", "_law_spread", "_law_draw", "_law_pick", "_law_shuffled", "_law_row", "_law_drawn_cascade"]
theorem run (w : World) : HandSHeadRun.RunEq RR (PySem.W.view RR.prog [21]) hk ob 4000 loose w := by
  intro os
  kernel_rfl
theorem facts {P : Program} {w : World} {K : PySem.W.Frag} {h : Heap} {mg : Str → Option Value} {f : Addr} (X : K.In h) (G : h.Ns mainGlobals mg) (hfa : mg ("law" : Str) = some (.ref f)) (c : He.SaysD fa fn K) :
    ∃ fd : FuncData, (∀ (s : Shared) (v : Value), BindsTo s fd ⟨[v], []⟩ [("script", v)]) ∧ ∀ base : Heap, K.In base → base.Ns mainGlobals mg → FnOk P w K mg base CX0 7 f fd ["script"] (DL.spLaw K) := by
  obtain ⟨fd_is_whole, F_is_whole⟩ := c.def_ 0 (d := d_is_whole) rfl
  obtain ⟨fd_is_from, F_is_from⟩ := c.def_ 1 (d := d_is_from) rfl
  obtain ⟨fd_done_at, F_done_at⟩ := c.def_ 2 (d := d_done_at) rfl
  obtain ⟨fd_step, F_step⟩ := c.def_ 3 (d := d_step) rfl
  obtain ⟨fd_reached, F_reached⟩ := c.def_ 4 (d := d_reached) rfl
  obtain ⟨fd_flat, F_flat⟩ := c.def_ 5 (d := d_flat) rfl
  obtain ⟨fd_is_carried, F_is_carried⟩ := c.def_ 6 (d := d_is_carried) rfl
  obtain ⟨fd_leads_along, F_leads_along⟩ := c.def_ 7 (d := d_leads_along) rfl
  obtain ⟨fd__law_same, F__law_same⟩ := c.def_ 8 (d := d__law_same) rfl
  obtain ⟨fd__law_pool, F__law_pool⟩ := c.def_ 9 (d := d__law_pool) rfl
  obtain ⟨fd__law_spread, F__law_spread⟩ := c.def_ 10 (d := d__law_spread) rfl
  obtain ⟨fd__law_draw, F__law_draw⟩ := c.def_ 11 (d := d__law_draw) rfl
  obtain ⟨fd__law_pick, F__law_pick⟩ := c.def_ 12 (d := d__law_pick) rfl
  obtain ⟨fd__law_shuffled, F__law_shuffled⟩ := c.def_ 13 (d := d__law_shuffled) rfl
  obtain ⟨fd__law_row, F__law_row⟩ := c.def_ 14 (d := d__law_row) rfl
  obtain ⟨fd__law_drawn_cascade, F__law_drawn_cascade⟩ := c.def_ 15 (d := d__law_drawn_cascade) rfl
  obtain ⟨fd_law, F_law⟩ := c.def_ 16 (d := d_law) rfl
  have e := hfa.symm.trans (He.glo_ok X G (c.fact 16 (f := .glo "law") rfl))
  cases e
  have b := FunD.bindsA (ps := ["script"]) F_law fun _ _ _ _ _ _ us hl => match us, hl with | [_], _ => rfl
  let T : Row.Txt K mg := {
    is_whole := ⟨_, fd_is_whole, F_is_whole, He.glo_ok X G (c.fact 0 (f := .glo "is_whole") rfl), F_is_whole.bindsN fun _ _ _ _ _ _ us hl => match us, hl with | [_], _ => rfl⟩
    is_from := ⟨_, fd_is_from, F_is_from, He.glo_ok X G (c.fact 1 (f := .glo "is_from") rfl), F_is_from.bindsN fun _ _ _ _ _ _ us hl => match us, hl with | [_, _, _], _ => rfl⟩
    done_at := ⟨_, fd_done_at, F_done_at, He.glo_ok X G (c.fact 2 (f := .glo "done_at") rfl), F_done_at.bindsN fun _ _ _ _ _ _ us hl => match us, hl with | [_, _, _], _ => rfl⟩
    step := ⟨_, fd_step, F_step, He.glo_ok X G (c.fact 3 (f := .glo "step") rfl), F_step.bindsN fun _ _ _ _ _ _ us hl => match us, hl with | [_, _, _], _ => rfl⟩
    reached := ⟨_, fd_reached, F_reached, He.glo_ok X G (c.fact 4 (f := .glo "reached") rfl), F_reached.bindsN fun _ _ _ _ _ _ us hl => match us, hl with | [_, _], _ => rfl⟩
    flat := ⟨_, fd_flat, F_flat, He.glo_ok X G (c.fact 5 (f := .glo "flat") rfl), F_flat.bindsN fun _ _ _ _ _ _ us hl => match us, hl with | [_, _], _ => rfl⟩
    is_carried := ⟨_, fd_is_carried, F_is_carried, He.glo_ok X G (c.fact 6 (f := .glo "is_carried") rfl), F_is_carried.bindsN fun _ _ _ _ _ _ us hl => match us, hl with | [_, _, _], _ => rfl⟩
    leads_along := ⟨_, fd_leads_along, F_leads_along, He.glo_ok X G (c.fact 7 (f := .glo "leads_along") rfl), F_leads_along.bindsN fun _ _ _ _ _ _ us hl => match us, hl with | [_, _, _], _ => rfl⟩
    _law_same := ⟨_, fd__law_same, F__law_same, He.glo_ok X G (c.fact 8 (f := .glo "_law_same") rfl), F__law_same.bindsN fun _ _ _ _ _ _ us hl => match us, hl with | [_, _], _ => rfl⟩
    _law_pool := ⟨_, fd__law_pool, F__law_pool, He.glo_ok X G (c.fact 9 (f := .glo "_law_pool") rfl), F__law_pool.bindsN fun _ _ _ _ _ _ us hl => match us, hl with | [_], _ => rfl⟩
    _law_spread := ⟨_, fd__law_spread, F__law_spread, He.glo_ok X G (c.fact 10 (f := .glo "_law_spread") rfl), F__law_spread.bindsN fun _ _ _ _ _ _ us hl => match us, hl with | [_], _ => rfl⟩
    _law_draw := ⟨_, fd__law_draw, F__law_draw, He.glo_ok X G (c.fact 11 (f := .glo "_law_draw") rfl), F__law_draw.bindsN fun _ _ _ _ _ _ us hl => match us, hl with | [_, _], _ => rfl⟩
    _law_pick := ⟨_, fd__law_pick, F__law_pick, He.glo_ok X G (c.fact 12 (f := .glo "_law_pick") rfl), F__law_pick.bindsN fun _ _ _ _ _ _ us hl => match us, hl with | [_, _], _ => rfl⟩
    _law_shuffled := ⟨_, fd__law_shuffled, F__law_shuffled, He.glo_ok X G (c.fact 13 (f := .glo "_law_shuffled") rfl), F__law_shuffled.bindsN fun _ _ _ _ _ _ us hl => match us, hl with | [_, _], _ => rfl⟩
    _law_row := ⟨_, fd__law_row, F__law_row, He.glo_ok X G (c.fact 14 (f := .glo "_law_row") rfl), F__law_row.bindsN fun _ _ _ _ _ _ us hl => match us, hl with | [_, _], _ => rfl⟩
    _law_drawn_cascade := ⟨_, fd__law_drawn_cascade, F__law_drawn_cascade, He.glo_ok X G (c.fact 15 (f := .glo "_law_drawn_cascade") rfl), F__law_drawn_cascade.bindsN fun _ _ _ _ _ _ us hl => match us, hl with | [_, _, _, _], _ => rfl⟩
    law := ⟨_, fd_law, F_law, He.glo_ok X G (c.fact 16 (f := .glo "law") rfl), F_law.bindsN fun _ _ _ _ _ _ us hl => match us, hl with | [_], _ => rfl⟩
    n_all := He.free_ok X G (c.fact 17 (f := .free "all") rfl)
    n_any := He.free_ok X G (c.fact 18 (f := .free "any") rfl)
    n_bool := He.free_ok X G (c.fact 19 (f := .free "bool") rfl)
    n_int := He.free_ok X G (c.fact 20 (f := .free "int") rfl)
    n_isinstance := He.free_ok X G (c.fact 21 (f := .free "isinstance") rfl)
    n_len := He.free_ok X G (c.fact 22 (f := .free "len") rfl)
    n_list := He.free_ok X G (c.fact 23 (f := .free "list") rfl)
    n_range := He.free_ok X G (c.fact 24 (f := .free "range") rfl)
    n_set := He.free_ok X G (c.fact 25 (f := .free "set") rfl)
    n_sorted := He.free_ok X G (c.fact 26 (f := .free "sorted") rfl)
    n_str := He.free_ok X G (c.fact 27 (f := .free "str") rfl)
    n_tuple := He.free_ok X G (c.fact 28 (f := .free "tuple") rfl)
  }
  exact ⟨fd_law, fun s v => b s [v] rfl, fun base _ _ => Row.ok_law T⟩
end Hd
open PySem PySem.W PySem.Calls PyProof.Rows
theorem PySem.Challenge.cw_ringorflips_k36_whole_upper_stages_alone_holds : PySem.Challenge.rw_ringorflips_k36_whole_upper_stages_alone.Holds := by
  w_on; o_law
  refine HandSHeadRun.head_any (r := OpenLaw.row PySem.Challenge.rw_ringorflips_k36_whole_upper_stages_alone) (q := view (OpenLaw.row PySem.Challenge.rw_ringorflips_k36_whole_upper_stages_alone).prog [21]) (H := Hd.hk) (ob := Hd.ob) (M := 4000) (loose := Hd.loose) (d := HandSHeadRun.topDef (OpenLaw.row PySem.Challenge.rw_ringorflips_k36_whole_upper_stages_alone).prog 21) (kwd := []) Hd.ob_eq
    (by kernel_rfl) (fun s => by kernel_rfl) Hd.run (by kernel_rfl) (by kernel_rfl) (by kernel_rfl) (by rfl) (by first | assumption | decide +kernel) (by decide +kernel) ⟨rfl, rfl, rfl, rfl, rfl, by decide +kernel⟩ ?hw ?hc
  case hw => w_witness2
  case hc =>
    refine L2.walk_ofE (l := PySem.Challenge.rw_ringorflips_k36_whole_upper_stages_alone) (n := 63) (k := 7) (x := "script") (CX := L2.CX0) rfl (by decide) (by kernel_rfl) ⟨rfl, by decide, by decide⟩ ?F (fun _ _ _ _ z => z)
    intro w mg fa h Y G hmg0
    obtain ⟨K, KX, c⟩ := Y
    have hmg : mg ("law" : PySem.Str) = some (.ref fa) := by
      have e : (HandSHeadRun.topDef (OpenLaw.row PySem.Challenge.rw_ringorflips_k36_whole_upper_stages_alone).prog 21).name = ("law" : PySem.Str) := by kernel_rfl
      rw [← e]
      exact hmg0
    obtain ⟨fd, hb, hF⟩ := Hd.facts (P := (PySem.Challenge.rw_ringorflips_k36_whole_upper_stages_alone).prog) (w := w) KX G hmg c
    exact ⟨K, fd, DL.spLaw K, KX, hb, fun H a ns hl _ hS => ⟨a, ns, rfl, hl, hS, fun _ => rfl⟩, hF⟩

